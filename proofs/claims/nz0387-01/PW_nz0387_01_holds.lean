import PyProof.Rows.All
import Wide.All
import OpenK.AllK
import Wide.FinOn
import PySem.Challenge.RW_nz0387_01
open PySem PySem.W PyProof.Rows
set_option Elab.async false
set_option maxRecDepth 100000
set_option maxHeartbeats 8000000
set_option linter.all false
/- part Hd -/
set_option compiler.extract_closed false
namespace Mine
noncomputable def vb (b : List Stmt) : List Stmt := (b.drop 1).take 16 ++ ((b.drop 18).take 1 ++ b.drop 20)
noncomputable def vw : Program := { PySem.Challenge.pw_nz0387_01 with main := { PySem.Challenge.pw_nz0387_01.main with body := vb PySem.Challenge.pw_nz0387_01.main.body } }
theorem said00 : PySem.Challenge.rw_nz0387_01.wellSaid = true := by
  unfold OpenLaw.wellSaid OpenRow.wellSaid OpenRow.partSaid looksOpen
  rw [PySem.W.Fast.te8326940854005059898, PySem.W.Fast.te17119622794617984870, PySem.W.Fast.te8377067652309620493, PySem.W.Fast.named_eq, PySem.W.Fast.te18344453789297297638]
  repeat' with_reducible refine look_both ?_ ?_
  all_goals decide +kernel
theorem law_of (h : (OpenLaw.row PySem.Challenge.rw_nz0387_01).Holds) : PySem.Challenge.rw_nz0387_01.Holds := holds_law said00 fun _ => h
theorem said0 : (OpenLaw.row PySem.Challenge.rw_nz0387_01).wellSaid = true := row_said said00
noncomputable def endsS : { f : Program → World → Nat → Option Shared // ∀ p w N, openEnds treeTable p w N = f p w N } := ⟨?f, fun p w N => by
  delta openEnds fencedOpening topFrom
  rw [PySem.W.Fast.te10274390034422433532, PySem.W.Fast.te14364793385576792824, PySem.W.Fast.te14289696077712309145, PySem.W.Fast.te14082659384304107361]⟩
theorem left_F {p q : Program} {loose : List Str} {Xt : Shared → Bool} {α : Type} {Yf : Shared → α} {Ya : World → α} {N : Nat}
    (h : ∀ w, (endsS.1 p w N).map (fun s => (PySem.W.Fast.tw4187177175401517315 q loose (importedModules p.main.body) Xt true s, Yf s)) = some (openGood q loose, Ya w)) : LeftO p q loose Xt Yf Ya N := fun w => by
  rw [endsS.2, PySem.W.Fast.te4187177175401517315]; exact h w
noncomputable def Xt0 (s : Shared) : Bool := xlAt vw [] s && recOk (RowW.records (OpenLaw.row PySem.Challenge.rw_nz0387_01).toRowW) s
theorem hd0 (H : Hook) {d : DefRec} {kwd : List (Str × Expr)} (left : LeftO (OpenLaw.row PySem.Challenge.rw_nz0387_01).prog vw [("set_of_sets" : Str)] Xt0 H.obs H.val 2848)
    (hdef : defOf vw (OpenLaw.row PySem.Challenge.rw_nz0387_01).name = some (d, kwd)) (hp : (OpenLaw.row PySem.Challenge.rw_nz0387_01).prog.theDef (OpenLaw.row PySem.Challenge.rw_nz0387_01).name = some (d.params, d.body, d.scope)) (hk : kwWritten? d.params.kwonlyargs d.params.kw_defaults = some kwd)
    (hw : (OpenLaw.row PySem.Challenge.rw_nz0387_01).toRowW.promised) (call : WalkO vw [("set_of_sets" : Str)] (XL vw []) H.says (OpenLaw.row PySem.Challenge.rw_nz0387_01).toRowW d kwd fun f vs => PySem.call f vs) : (OpenLaw.row PySem.Challenge.rw_nz0387_01).Holds :=
  holds_open left H.of H.keeps (fun s e => xl_of s (Bool.and_eq_true_iff.mp e).1) XL.keeps hdef hp hk (fun s e => recFacts_of (Bool.and_eq_true_iff.mp e).2) (by rfl) said0 (by decide +kernel) ⟨rfl, rfl, rfl, rfl, rfl, by decide +kernel⟩ hw call
local macro_rules | `(tactic| o_head $H) => `(tactic| refine hd0 $H (left_F fun w => by kernel_rfl) rfl rfl rfl ?hw ?hc)
open_top hd for (OpenLaw.row PySem.Challenge.rw_nz0387_01)
end Mine

set_option tactic.hygienic false
/- part Ar -/
namespace Mine
/- small steps of arithmetic -/
theorem q_le {x a b : Nat} (h : x ≤ a) (h2 : Nat.ble a b = true) : x ≤ b := Nat.le_trans h (Nat.le_of_ble_eq_true h2)
theorem q_lt {x a b : Nat} (h : x ≤ a) (h2 : Nat.ble (a + 1) b = true) : x < b := Nat.lt_of_le_of_lt h (Nat.le_of_ble_eq_true h2)
theorem q_le' {x a b : Nat} (h : x < a) (h2 : Nat.ble a (b + 1) = true) : x ≤ b := Nat.le_of_lt_succ (Nat.lt_of_lt_of_le h (Nat.le_of_ble_eq_true h2))
theorem q_lt' {x a b : Nat} (h : x < a) (h2 : Nat.ble a b = true) : x < b := Nat.lt_of_lt_of_le h (Nat.le_of_ble_eq_true h2)
theorem q_lele {x y a b : Nat} (h : x ≤ y) (h1 : y ≤ a) (h2 : Nat.ble a b = true) : x ≤ b := Nat.le_trans h (q_le h1 h2)
theorem q_ltle {x y a b : Nat} (h : x < y) (h1 : y ≤ a) (h2 : Nat.ble a (b + 1) = true) : x ≤ b := q_le' (Nat.lt_of_lt_of_le h h1) h2
theorem q_ltlt {x y a b : Nat} (h : x < y) (h1 : y ≤ a) (h2 : Nat.ble a b = true) : x < b := Nat.lt_of_lt_of_le h (q_le h1 h2)
theorem q_n3 {n : Nat} (h : n = 2 ∨ n = 3) : n ≤ 3 := by rcases h with rfl | rfl <;> decide
theorem q_n {n b : Nat} (h : n = 2 ∨ n = 3) (h2 : Nat.ble 3 b = true) : n ≤ b := q_le (q_n3 h) h2
theorem q_nl {n b : Nat} (h : n = 2 ∨ n = 3) (h2 : Nat.ble 4 b = true) : n < b := q_lt (q_n3 h) h2
theorem q_np {n : Nat} (h : n = 2 ∨ n = 3) : 0 < n := by rcases h with rfl | rfl <;> decide
theorem q_nx {n x b : Nat} (h : n = 2 ∨ n = 3) (hx : x < n) (h2 : Nat.ble 2 b = true) : x ≤ b := q_ltle hx (q_n3 h) (Nat.ble_eq_true_of_le (Nat.succ_le_succ (Nat.le_of_ble_eq_true h2)))
theorem q_nxl {n x b : Nat} (h : n = 2 ∨ n = 3) (hx : x < n) (h2 : Nat.ble 3 b = true) : x < b := q_ltlt hx (q_n3 h) h2
theorem q_sa {m X c d : Nat} (h : d + X ≤ m) (hc : Nat.ble c d = true) : m = m - c + c := (Nat.sub_add_cancel (Nat.le_trans (Nat.le_of_ble_eq_true hc) (Nat.le_trans (Nat.le_add_right _ _) h))).symm
theorem q_sb {m c d : Nat} (h : d ≤ m) (hc : Nat.ble c d = true) : m = m - c + c := (Nat.sub_add_cancel (Nat.le_trans (Nat.le_of_ble_eq_true hc) h)).symm
theorem q_d0 {a X k c : Nat} (h : 5 + X ≤ k + c) (hc : Nat.ble c 5 = true) (ha : a ≤ X) : a ≤ k := Nat.le_trans ha (Nat.le_of_add_le_add_left (Nat.le_trans h (Nat.le_trans (Nat.add_le_add_left (Nat.le_of_ble_eq_true hc) k) (Nat.le_of_eq (Nat.add_comm k 5)))))
theorem q_d1 {a X k : Nat} (h : 5 + X ≤ k + 2) (ha : a ≤ X) : a ≤ k + 1 := Nat.le_succ_of_le (q_d0 h rfl ha)
theorem q_d3 {a X k : Nat} (h : 5 + X ≤ k + 3) (ha : a ≤ X) : a ≤ k + 1 := Nat.le_succ_of_le (q_d0 h rfl ha)
theorem q_m1 {a b : Nat} : a ≤ max a b := Nat.le_max_left _ _
theorem q_m2 {a b : Nat} : b ≤ max a b := Nat.le_max_right _ _
theorem q_m3 {a b c : Nat} : b ≤ max a (max b c) := Nat.le_trans q_m1 q_m2
theorem q_m4 {a b c : Nat} : c ≤ max a (max b c) := Nat.le_trans q_m2 q_m2
theorem q_c0 {a : Nat} : (0 : Int) ≤ (a : Int) := Int.natCast_nonneg a
theorem q_c1 {a b : Nat} (h : a < b) : (a : Int) < (b : Int) := Int.ofNat_lt.mpr h
theorem q_c2 {a b : Nat} (h : a < b) : (0 : Int) ≤ (a : Int) ∧ (a : Int) < (b : Int) := ⟨q_c0, q_c1 h⟩
theorem q_pl {a n : Nat} (h : a < n) : a - 1 < n := Nat.lt_of_le_of_lt (Nat.sub_le _ _) h
theorem q_ps {a : Nat} (h : 1 ≤ a) : a - 1 < a := Nat.sub_lt h Nat.one_pos
theorem q_ms {a b n : Nat} (h : a + (b + 1) = n) : a + 1 + b = n := (Nat.succ_add a b).trans h
theorem q_msl {a b n : Nat} (h : a + (b + 1) ≤ n) : a + 1 + b ≤ n := Nat.le_trans (Nat.le_of_eq (Nat.succ_add a b)) h
theorem q_msl' {a b n : Nat} (h : a + (b + 1) < n) : a + 1 + b < n := Nat.lt_of_le_of_lt (Nat.le_of_eq (Nat.succ_add a b)) h
theorem q_ml {a b n : Nat} (h : a + (b + 1) = n) : a < n := h ▸ Nat.lt_add_of_pos_right (Nat.succ_pos b)
theorem q_mll {a b n : Nat} (h : a + (b + 1) ≤ n) : a < n := Nat.lt_of_lt_of_le (Nat.lt_add_of_pos_right (Nat.succ_pos b)) h
theorem q_mll' {a b n : Nat} (h : a + (b + 1) < n) : a < n := Nat.lt_trans (Nat.lt_add_of_pos_right (Nat.succ_pos b)) h
theorem q_el {a b : Nat} (h : a = b) : a ≤ b := Nat.le_of_eq h
theorem q_el' {a b : Nat} (h : a = b) : b ≤ a := Nat.le_of_eq h.symm
theorem q_slack {a c b d : Nat} (h : a + c ≤ b) (h2 : Nat.ble d c = true) : a + d ≤ b := Nat.le_trans (Nat.add_le_add_left (Nat.le_of_ble_eq_true h2) a) h
theorem q_slack0 {a c b : Nat} (h : a + c ≤ b) : a ≤ b := Nat.le_trans (Nat.le_add_right a c) h
theorem q_to {y : Int} (h : 0 ≤ y) : y = (y.toNat : Int) := (Int.toNat_of_nonneg h).symm
theorem q_an {a b : Nat} (h : a ≤ b) : a ≤ b + 1 := Nat.le_succ_of_le h
theorem q_maxl {a b c : Nat} (h : max a b ≤ c) : a ≤ c := Nat.le_trans q_m1 h
theorem q_maxr {a b c : Nat} (h : max a b ≤ c) : b ≤ c := Nat.le_trans q_m2 h
theorem q_an3 {n a : Nat} (h : (0 : Int) ≤ (a : Int) ∧ (a : Int) < (n : Int)) : a < n := Int.ofNat_lt.mp h.2
theorem q_mid {l r : Nat} (h : ¬ l ≥ r) : (l + r) / 2 < r := Nat.div_lt_of_lt_mul (show l + r < 2 * r from by rw [Nat.two_mul]; exact Nat.add_lt_add_right (Nat.not_le.mp h) r)
theorem q_midl {l r : Nat} (h : ¬ l ≥ r) : l ≤ (l + r) / 2 := (Nat.le_div_iff_mul_le (by decide)).mpr (by rw [Nat.mul_two]; exact Nat.add_le_add_left (Nat.le_of_lt (Nat.not_le.mp h)) l)
theorem q_mid1 {l r f : Nat} (h : r - l ≤ f + 1) (h2 : ¬ l ≥ r) : (l + r) / 2 - l ≤ f := Nat.le_of_lt_succ (Nat.lt_of_lt_of_le (Nat.sub_lt_sub_right (q_midl h2) (q_mid h2)) h)
theorem q_mid2 {l r f : Nat} (h : r - l ≤ f + 1) (h2 : ¬ l ≥ r) : r - ((l + r) / 2 + 1) ≤ f := Nat.le_trans (Nat.sub_le_sub_left (Nat.succ_le_succ (q_midl h2)) r) (Nat.pred_le_pred h)
theorem q_le1 {i j : Nat} (h : i < j + 1) (h2 : ¬ i = j) : i < j := Nat.lt_of_le_of_ne (Nat.le_of_lt_succ h) h2
theorem q_np1 {k : Nat} (h : 1 ≤ k) (e : k = k - 1) : False := absurd e (Nat.ne_of_gt (Nat.sub_lt h Nat.one_pos))
theorem q_np2 {k : Nat} (h : 2 ≤ k) (e : k = k - 1) : False := q_np1 (Nat.le_of_succ_le h) e
theorem q_ss {k l : Nat} (h : l ≤ k) : k - (k - l) = l := Nat.sub_sub_self h
theorem q_sp {m : Nat} (h : 1 < m) : 0 < m - 1 := Nat.sub_pos_of_lt h
theorem q_i1 {a b : Int} (h : a < b) : a ≤ b := Int.le_of_lt h
theorem q_p2 {a b : Nat} (h : a = b + 1) : a - 1 = b := by rw [h]; rfl
theorem q_mn {a b c : Nat} (h : a = b) (h2 : x < c) (h3 : x < a) : x < min c b := Nat.lt_min.mpr ⟨h2, h ▸ h3⟩
theorem q_13c {a b : Nat} (h : 1 ≤ a ∧ a ≤ 3) (h2 : Nat.ble 3 b = true) : a ≤ b := q_le h.2 h2
theorem q_a4 {a b c d k : Nat} (h : a ≤ b) (h1 : c ≤ d) (h2 : Nat.ble (b + d) k = true) : a + c ≤ k := Nat.le_trans (Nat.add_le_add h h1) (Nat.le_of_ble_eq_true h2)
theorem q_a5 {a b c k : Nat} (h : a ≤ b) (h2 : Nat.ble (b + c) k = true) : a + c ≤ k := Nat.le_trans (Nat.add_le_add_right h c) (Nat.le_of_ble_eq_true h2)
theorem q_sum {a b c : Nat} (h : a + b = c) : c - a = b := by rw [← h, Nat.add_sub_cancel_left]
theorem q_sb0 {a b : Nat} (h : a - b = 0) : a ≤ b := Nat.le_of_sub_eq_zero h
theorem q_sb1 {a b k : Nat} (h : a - b = k + 1) : b < a := Nat.lt_of_sub_eq_succ h
theorem q_sb2 {a b k : Nat} (h : a - b = k + 1) : a - (b + 1) = k := (Nat.sub_succ a b).trans (congrArg Nat.pred h)
end Mine

/- part Ar2 -/
namespace Mine
theorem q_mx {a b c : Nat} (h : a ≤ c) (h2 : b ≤ c) : max a b ≤ c := Nat.max_le.mpr ⟨h, h2⟩
theorem q_mmx {a b c : Nat} : max b c ≤ max (max a b) c := q_mx (Nat.le_trans q_m2 q_m1) q_m2
theorem q_iM {r : Nat} (h : r ≤ 1000000) : (r : Int) ≤ 1000000 := Int.ofNat_le.mpr h
theorem q_pq {a b r : Nat} (h : a + (b + 1) = r) (h2 : 1 ≤ r ∧ r ≤ 3) : a + 1 ≤ 3 := Nat.le_trans (Nat.add_le_add_left (Nat.succ_le_succ (Nat.zero_le b)) a) (h ▸ h2.2)
theorem q_a3 {s t c n : Nat} (h : t ≤ s + 3 * c) (hc : c ≤ n) : t ≤ s + 3 * n := Nat.le_trans h (Nat.add_le_add_left (Nat.mul_le_mul_left 3 hc) s)
theorem q_big {s t a k : Nat} (hs : s + k ≤ 1000000) (h : t ≤ s + a) (ha : Nat.ble (a + 10) k = true) : t + 10 ≤ 1000000 :=
  Nat.le_trans (Nat.add_le_add_right h 10) (Nat.le_trans (Nat.le_of_eq (Nat.add_assoc s a 10)) (Nat.le_trans (Nat.add_le_add_left (Nat.le_of_ble_eq_true ha) s) hs))
theorem q_c22 {k k' c p s t : Nat} (hk : k ≤ 40) (hs : s + 40 ≤ 1000000) (a1 : c = p) (a3 : k' ≤ k + c) (a5 : t ≤ s + 3 * c) (hp : p + 1 ≤ 3) : t + 10 ≤ 1000000 ∧ k' ≤ 42 ∧ c ≤ 2 :=
  have hc : c ≤ 2 := a1 ▸ Nat.le_of_succ_le_succ hp
  ⟨q_big hs (q_a3 a5 hc) rfl, Nat.le_trans a3 (Nat.add_le_add hk hc), hc⟩
theorem q_c22b {k k' c r s t : Nat} (hk : k ≤ 40) (hs : s + 40 ≤ 1000000) (hr : 1 ≤ r ∧ r ≤ 3) (a1 : c = r) (a3 : k' ≤ k + c) (a5 : t ≤ s + 3 * c) : t + 10 ≤ 1000000 ∧ k' ≤ 50 ∧ c ≤ 3 ∧ t ≤ s + 9 ∧ 1 ≤ c :=
  have hc : c ≤ 3 := a1 ▸ hr.2
  ⟨q_big hs (q_a3 a5 hc) rfl, q_le (Nat.le_trans a3 (Nat.add_le_add hk hc)) rfl, hc, q_a3 a5 hc, a1 ▸ hr.1⟩
theorem q_no3 {v : Nat} (h : v + 1 + 1 + 1 < 3) : False := Nat.not_lt.mpr (Nat.le_add_left 3 v) h
theorem q_no2 {v : Nat} (h : v + 1 + 1 < 2) : False := Nat.not_lt.mpr (Nat.le_add_left 2 v) h
theorem q_s3 {s a k : Nat} (h : a ≤ s + 3 * k) : a + 1 + 1 + 1 ≤ s + 3 * (k + 1) := Nat.add_le_add_right h 3
theorem q_u2 {u : Nat} (h : u < 2) : u = 0 ∨ u = 1 := by
  rcases u with _ | _ | u
  · exact .inl rfl
  · exact .inr rfl
  · exact (q_no2 h).elim
theorem q_e2 {a : Nat} (h : a = 1) : a + (1 + 1) = 3 := by rw [h]
theorem q_e3 {a : Nat} (h : a = 5) : 5 + max a 5 ≤ 10 := by rw [h]; decide
theorem q_s6 {a b c : Nat} (h : a ≤ b + 6) (h2 : b ≤ c + 9) : a ≤ c + 20 := Nat.le_trans h (Nat.le_trans (Nat.add_le_add_right h2 6) (Nat.add_le_add_left (show 15 ≤ 20 by decide) c))
theorem q_ne0 {k : Nat} (h : 0 < k) : (k : Int) ≠ 0 := Int.natCast_ne_zero.mpr (Nat.ne_of_gt h)
theorem q_n1 {k : Nat} : (0 : Int) ≤ (k : Int) + 1 := Int.natCast_nonneg (k + 1)
theorem q_nil {a b : Nat} (h : ¬ a < b) : ¬ (a : Int) < (b : Int) := fun e => h (Int.ofNat_lt.mp e)
theorem q_r3 {r : Nat} (h : 1 ≤ r ∧ r ≤ 3) : r = 1 ∨ r = 2 ∨ r = 3 := by
  rcases r with _ | _ | _ | _ | r
  · exact absurd h.1 (by decide)
  · exact .inl rfl
  · exact .inr (.inl rfl)
  · exact .inr (.inr rfl)
  · exact (q_no3 (Nat.lt_succ_of_le (Nat.le_of_succ_le_succ h.2))).elim
theorem q_pos2 {a b : Nat} (h : a = 2 + b) : 0 < a := h ▸ Nat.lt_of_lt_of_le (by decide) (Nat.le_add_right 2 b)
theorem q_v2 {v a b : Nat} (h : v + 1 + 1 < a) (e : a = 2 + b) : v < b := Nat.lt_of_add_lt_add_left (n := 2) (Nat.lt_of_le_of_lt (Nat.le_of_eq (Nat.add_comm 2 v)) (e ▸ h))
theorem q_100 {a b : Nat} (e : a = 2 + b) (h : b ≤ 50) : a ≤ 100 := q_le (b := 100) (a := 52) (e ▸ Nat.add_le_add_left h 2) rfl
theorem q_02 {b : Nat} (h : b ≤ 50) : 0 + 1 + 1 + b ≤ 1000000 := q_le (a := 52) (Nat.add_le_add_left h 2) rfl
theorem q_s1 {a m : Nat} (h : a + 1 ≤ m) : m = m - 1 + 1 := (Nat.sub_add_cancel (Nat.le_trans (Nat.le_add_left 1 a) h)).symm
theorem q_s2 {a b m : Nat} (h : a + (b + 1) + 1 ≤ m) : m = m - 2 + 2 := (Nat.sub_add_cancel (Nat.le_trans (Nat.le_add_left 2 (a + b)) h)).symm
theorem q_86 {a b i : Nat} (h : a + (b + 1) + 1 ≤ i + 2) : a + b ≤ i := Nat.le_of_succ_le_succ (Nat.le_of_succ_le_succ h)
theorem q_97 {k b : Nat} (h : k + (b + 1) ≤ 3) : b ≤ 10 := Nat.le_trans (Nat.le_trans (Nat.le_succ b) (Nat.le_add_left _ k)) (q_le h rfl)
theorem q_141 {a b i : Nat} (h : 5 + a ≤ i + 1) (h2 : b ≤ 3) : a + b + 1 ≤ i := Nat.le_trans (Nat.succ_le_succ (Nat.add_le_add_left h2 a)) (Nat.le_of_succ_le_succ (Nat.le_trans (Nat.le_of_eq (Nat.add_comm a 5)) h))
theorem q_vn {x : Int} {v n : Nat} (hv : x = (v : Int)) (h : x < (n : Int)) : v < n := Int.ofNat_lt.mp (hv ▸ h)
theorem q_281 {p q : Nat} : p + 1 + (q + 1) - 2 = p + q := congrArg (· - 2) (show p + 1 + (q + 1) = p + q + 2 from congrArg (· + 1) (Nat.succ_add p q))
theorem q_12 {v : Nat} (h : v < 2) : 1 ≤ 1 + v ∧ 1 + v ≤ 3 := ⟨Nat.le_add_right 1 v, Nat.le_trans (Nat.add_le_add_left (Nat.le_of_lt_succ h) 1) (by decide)⟩
theorem q_lt4 {w : Nat} (h : w < 4) : w = 0 ∨ w = 1 ∨ w = 2 ∨ w = 3 := by
  rcases w with _ | w
  · exact .inl rfl
  · exact .inr ((q_r3 ⟨Nat.succ_le_succ (Nat.zero_le w), Nat.le_of_lt_succ h⟩))
theorem q_lt8 {w : Nat} (h : w < 8) : w = 0 ∨ w = 1 ∨ w = 2 ∨ w = 3 ∨ w = 4 ∨ w = 5 ∨ w = 6 ∨ w = 7 := by
  rcases w with _ | _ | _ | _ | w
  · exact .inl rfl
  · exact .inr (.inl rfl)
  · exact .inr (.inr (.inl rfl))
  · exact .inr (.inr (.inr (.inl rfl)))
  · have : w < 4 := Nat.lt_of_add_lt_add_right (n := 4) h
    rcases q_lt4 this with rfl | rfl | rfl | rfl <;> simp
theorem q_5 {a : Nat} (h : a = 5) : 5 + a ≤ 20 := by rw [h]; decide
theorem q_55 {a b : Nat} (h : a = 5) (h2 : b = 5) : 5 + max a b ≤ 20 := by rw [h, h2]; decide
theorem q_555 {a b : Nat} (h : a = 5) (h2 : b = 5) : 5 + (5 + max (5 + max a b) 5) ≤ 20 := by rw [h, h2]; decide
theorem q_11 {a b c d : Nat} (h : a = c) (h2 : b = d) : a + b = c + d := by rw [h, h2]
theorem q_23 {v : Nat} (h : v < 2) : 2 + v = 2 ∨ 2 + v = 3 := (q_u2 h).imp (congrArg (2 + ·)) (congrArg (2 + ·))
theorem q_k2 {k : Nat} (h : k ≤ 2) : k = 0 ∨ k = 1 ∨ k = 2 := by
  rcases k with _ | _ | _ | k
  · exact .inl rfl
  · exact .inr (.inl rfl)
  · exact .inr (.inr rfl)
  · exact (q_no3 (Nat.lt_succ_of_le h)).elim
theorem q_p3 {a b : Nat} (h : a + (b + 1) = 3) : a ≤ 2 := Nat.le_trans (Nat.le_add_right a b) (Nat.le_of_succ_le_succ (Nat.le_of_eq h))
theorem q_13r {r : Nat} (h : r = 1 ∨ r = 2 ∨ r = 3) : 1 ≤ r ∧ r ≤ 3 := by rcases h with rfl | rfl | rfl <;> decide
theorem q_480 {s p k : Nat} (h : s ≤ 5 + 480 * p) (hp : p ≤ 2) (hk : Nat.ble k 480 = true) : s + k ≤ 999000 :=
  Nat.le_trans (Nat.add_le_add (Nat.le_trans h (Nat.add_le_add_left (Nat.mul_le_mul_left 480 hp) 5)) (Nat.le_of_ble_eq_true hk)) (by decide)
theorem q_t480 {t s p : Nat} (h : t ≤ s + 480) (h2 : s ≤ 5 + 480 * p) : t ≤ 5 + 480 * (p + 1) := Nat.le_trans h (Nat.add_le_add_right h2 480)
theorem q_rn {a : Nat} : ((a : Int) < 6) ↔ a < 6 := Int.ofNat_lt (m := 6)
theorem q_1K {s K : Nat} (hK : 30 ≤ K) (h : s + 4 * K ≤ 999000) : s + 1 + K ≤ 999000 := by omega
theorem q_4K {s x y K : Nat} (hK : 30 ≤ K) (h1 : x ≤ s + 1 + K) (h2 : y ≤ x + K) : y + K ≤ s + 4 * K := by omega
theorem q_i1r {r : Nat} (h : 1 < r) : (1 : Int) < (r : Int) := Int.ofNat_lt.mpr h
theorem q_ni1r {r : Nat} (h : ¬ 1 < r) : ¬ (1 : Int) < (r : Int) := fun e => h (Int.ofNat_lt.mp e)
theorem q_sub {r : Nat} (h : 1 ≤ r) : (r : Int) - 1 = ((r - 1 : Nat) : Int) := (Int.natCast_sub h).symm
theorem q_r1 {r : Nat} (h : 1 < r) (hr : 1 ≤ r ∧ r ≤ 3) : 1 ≤ r - 1 ∧ r - 1 ≤ 3 := ⟨Nat.sub_pos_of_lt h, Nat.le_trans (Nat.sub_le r 1) hr.2⟩
theorem q_b2 {b r : Nat} (h : b = r - 1) (hr : 1 ≤ r ∧ r ≤ 3) : b ≤ 2 := h ▸ Nat.sub_le_sub_right hr.2 1
theorem q_ab {a b r : Nat} (h : a = 1) (h2 : b = r - 1) (hr : 1 ≤ r ∧ r ≤ 3) : a + b = r := by rw [h, h2]; exact Nat.add_sub_cancel' hr.1
theorem q_nr {r : Nat} (h : ¬ 1 < r) (hr : 1 ≤ r ∧ r ≤ 3) : r = 1 := Nat.le_antisymm (Nat.not_lt.mp h) hr.1
theorem q_ab2 {a b r : Nat} (h : a = 2) (h2 : b = 1) (h1 : ¬ 1 < r) (hr : 1 ≤ r ∧ r ≤ 3) : a + b - 2 = r := by rw [h, h2, q_nr h1 hr]
theorem q_L3 {a b c n : Nat} (ih : b ≤ c * 3) (h : a ≤ n) (hn : n ≤ 3) : a + b ≤ (c + 1) * 3 := Nat.le_trans (Nat.add_comm a b ▸ Nat.add_le_add ih (Nat.le_trans h hn)) (Nat.le_of_eq (Nat.succ_mul c 3).symm)
theorem q_ks {a b c d : Nat} (h : a ≤ b + c) (h2 : b ≤ d + 1) : a ≤ d + (c + 1) := Nat.le_trans h (Nat.le_trans (Nat.add_le_add_right h2 c) (Nat.le_of_eq (Nat.succ_add d c)))
theorem q_pd {p q d : Nat} (h : p + q = d) (h2 : d ≤ 3) : p ≤ 3 := Nat.le_trans (Nat.le_add_right p q) (h ▸ h2)
theorem q_pq1 {a b p q : Nat} (h : a + b = 3) (hp : a = p + 1) (hq : b = q + 1) : p + q = 1 := by rw [hp, hq] at h; exact (q_281 (p := p) (q := q)).symm.trans (congrArg (· - 2) h)
theorem q_p13 {p q : Nat} (h : p + q = 1) : p + 1 ≤ 3 := Nat.le_trans (Nat.succ_le_succ (Nat.le_trans (Nat.le_add_right p q) (Nat.le_of_eq h))) (by decide)
theorem q_q13 {p q : Nat} (h : p + q = 1) : q + 1 ≤ 3 := Nat.le_trans (Nat.succ_le_succ (Nat.le_trans (Nat.le_add_left q p) (Nat.le_of_eq h))) (by decide)
theorem q_281' {a b p q : Nat} (hp : a = p + 1) (hq : b = q + 1) : a + b - 2 = p + q := by rw [hp, hq]; exact q_281
theorem q_neg {b : Nat} : ¬ (0 : Int) ≤ -(b : Int) - 1 := by omega
theorem q_nn {b : Nat} : (-(-(b : Int) - 1) - 1) = b := by omega
theorem q_nt {b : Nat} : (-(-(b : Int) - 1) - 1).toNat = b := by rw [q_nn]; rfl
theorem q_bigN {a : Nat} (h : a < 9223372036854775808) : (a : Int).natAbs < 9223372036854775808 := h
theorem q_ib {a b : Nat} (hb : b ≤ 1000) (ha : a < 9223372036854775808) : (0 : Int) ≤ (b : Int) ∧ (b : Int) ≤ 1000 ∧ (a : Int).natAbs < 9223372036854775808 := ⟨q_c0, Int.ofNat_le.mpr hb, ha⟩
theorem q_n9 {i N : Nat} (h : i ≤ N) (h2 : N < i + 0) : False := Nat.not_lt.mpr h h2
theorem q_q1 {q : Nat} (h : q ≤ 3) : q - 1 ≤ 1000 := Nat.le_trans (Nat.sub_le q 1) (q_le h rfl)
theorem q_in {n : Nat} (h : n = 2 ∨ n = 3) : (n : Int) ≤ 1000000 := q_iM (q_n h rfl)
theorem q_ne {n : Nat} (h : n = 2 ∨ n = 3) : n ≠ 0 := Nat.ne_of_gt (q_np h)
theorem q_pdn {p q d n : Nat} (h : p + q = d) (h2 : d ≤ n) : p ≤ n := Nat.le_trans (Nat.le_add_right p q) (h ▸ h2)
theorem q_w1 {a b r : Nat} (h : a + (b + 1) = r) : a + 1 ≤ r := h ▸ Nat.add_le_add_left (Nat.succ_le_succ (Nat.zero_le b)) a
theorem q_s2i {a b : Nat} (h : a + b = 3) : (a : Int) + (b : Int) - 2 = ((a + b - 2 : Nat) : Int) := by rw [← Int.natCast_add, h]; rfl
theorem q_xx {x n : Nat} (hx : x < n) (hn : n ≤ 3) : x * n + x ≤ 1000 :=
  have h := Nat.le_of_lt (Nat.lt_of_lt_of_le hx hn)
  Nat.le_trans (Nat.add_le_add (Nat.mul_le_mul h hn) h) (by decide)
theorem q_tn {a : Int} {n : Nat} (h : 0 ≤ a ∧ a < n) : a.toNat < n := (Int.toNat_lt h.1).mpr h.2
theorem q_tt {a b : Int} (ha : 0 ≤ a) (hb : 0 ≤ b) (h : a < b) : a.toNat < b.toNat := (Int.toNat_lt ha).mpr (Int.lt_of_lt_of_le h (Int.le_of_eq (Int.toNat_of_nonneg hb).symm))
theorem q_m1t {k : Nat} : (-1 + (k : Int)).toNat = k - 1 := by omega
theorem q_Lk {a b c n k : Nat} (ih : b ≤ c * k) (h : a ≤ n) (hn : n ≤ k) : a + b ≤ (c + 1) * k := Nat.le_trans (Nat.add_comm a b ▸ Nat.add_le_add ih (Nat.le_trans h hn)) (Nat.le_of_eq (Nat.succ_mul c k).symm)
theorem q_181 {a b : Nat} (h : a = 1 ∧ b ≤ 2) : 1 ≤ a + b ∧ a + b ≤ 3 := by rw [h.1]; exact ⟨Nat.le_add_right 1 b, Nat.le_trans (Nat.add_le_add_left h.2 1) (by decide)⟩
theorem q_182 {a b : Nat} (h : a + b = 3) : 1 ≤ a + b - 2 ∧ a + b - 2 ≤ 3 := by rw [h]; decide
theorem q_79 {r l : Nat} (hr : 1 ≤ r) (hl : l = r) : r - (l - 1) = 1 := by rw [hl]; exact Nat.sub_sub_self hr
theorem q_158 {a u p q : Nat} (h : a = p + 1) (h2 : u = q) : a - 1 + u = p + q := by rw [h, h2]; rfl
theorem q_203 {a m c : Nat} (h : a + 3 * (m + 1) + 60 < c) : a + 3 + 3 * m + 60 < c := Nat.lt_of_le_of_lt (Nat.le_of_eq (congrArg (· + 60) (Nat.add_right_comm a 3 (3 * m)))) (show a + 3 * m + 3 + 60 < c from h)
theorem q_l3 {L d : Nat} (h : L + 1 + 1 + 1 < d) : L < d := Nat.lt_of_le_of_lt (Nat.le_add_right L 3) h
theorem q_44 {s L d : Nat} (e : s = L) (h : L + 1 + 1 + 1 < d) : s ≤ d := e ▸ Nat.le_of_lt (q_l3 h)
theorem q_ss2 {n : Nat} : n + 1 + 1 ≠ n := Nat.ne_of_gt (Nat.lt_add_of_pos_right (n := n) (k := 2) (by decide))
theorem q_u1 {a b c : Nat} (h : a + b + 60 < c) : a + 1 < c := Nat.lt_of_le_of_lt (Nat.add_le_add (Nat.le_add_right a b) (by decide)) h
theorem q_ab1 {a : Int} (h : a.natAbs < 9223372036854775808) : -2 ^ 64 < a := by omega
theorem q_ab2' {a : Int} (h : a.natAbs < 9223372036854775808) : a < 2 ^ 64 := by omega
theorem q_kp {i k n : Nat} (h : i < n) (e : i + k = n) : 0 < k := Nat.lt_of_add_lt_add_left (n := i) (show i + 0 < i + k from e.symm ▸ h)
theorem q_in3 {u u1 u2 u3 m c : Nat} (hu : u + 3 * m + 60 < c) (h1 : u1 = u + 1) (h2 : u2 = u1 + 1) (h3 : u3 = u2 + 1) : u3 < c := by
  rw [h3, h2, h1]; show u + 3 < c; exact Nat.lt_of_le_of_lt (Nat.add_le_add (Nat.le_add_right u (3 * m)) (show 3 ≤ 60 by decide)) hu
theorem q_i63 {i : Int} {n : Nat} (h : i < n) (hs : ¬ n > 1000000) : i < 2 ^ 63 := Int.lt_of_lt_of_le h (Int.le_trans (q_iM (Nat.not_lt.mp hs)) (by decide))
theorem q_n63 {i : Int} {n : Nat} (h : -(n : Int) ≤ i) (hs : ¬ n > 1000000) : -2 ^ 63 ≤ i := Int.le_trans (by decide) (Int.le_trans (Int.neg_le_neg (q_iM (Nat.not_lt.mp hs))) h)
theorem q_p63 {i : Int} (h : 0 ≤ i) : -2 ^ 63 ≤ i := Int.le_trans (by decide) h
theorem q_m63 {i : Int} (h : i < 0) : i < 2 ^ 63 := Int.lt_trans h (by decide)
theorem q_47 {i n : Int} (h : -n ≤ i) : 0 ≤ i + n := by have := Int.add_le_add_right h n; rwa [Int.add_left_neg] at this
theorem q_48 {i n : Int} (h : i < 0) : i + n < n := by have := Int.add_lt_add_right h n; rwa [Int.zero_add] at this
theorem q_clA {i : Int} : max i 0 = (i.toNat : Int) := (Int.toNat_eq_max i).symm
theorem q_clB {i : Int} {n : Nat} (h : ¬ i < 0) : min i n = ((min i.toNat n : Nat) : Int) := by omega
theorem q_clC {i : Int} {n : Nat} (h : i < 0) : (i + n).toNat ≤ n := by omega
theorem q_173 {a k : Nat} : ((a : Int) + (k : Int) * 1).toNat = a + k := by rw [Int.mul_one]; rfl
theorem q_e64 {a b k : Nat} (h : a = b) (h2 : b < 64) (hk : Nat.ble 63 k = true) : a ≤ k := Nat.le_trans (Nat.le_of_eq h) (Nat.le_trans (Nat.le_of_lt_succ h2) (Nat.le_of_ble_eq_true hk))
theorem q_i63n {a b : Nat} (h : a = b) (h2 : b ≤ 1000000) : (a : Int) < 2 ^ 63 := Int.lt_of_le_of_lt (q_iM (h ▸ h2)) (by decide)
theorem q_137a {k i j : Nat} (h : i < j) (h2 : j < k) : 0 + k - 1 - j < 0 + k - 1 - i := by rw [Nat.zero_add]; exact Nat.sub_lt_sub_left (Nat.lt_of_lt_of_le h (Nat.le_sub_one_of_lt h2)) h
theorem q_137b {k i : Nat} (h : 1 ≤ k) : 0 + k - 1 - i < k := by rw [Nat.zero_add]; exact Nat.lt_of_le_of_lt (Nat.sub_le _ _) (Nat.sub_lt h Nat.one_pos)
end Mine

/- part Ev -/
namespace Mine
set_option backward.match.sparseCases false

/-- pure values -/
inductive PV where
  | none | bool (b : Bool) | int (i : Int) | str (x : Str)
  | tup (l : List PV) | list (l : List PV) | range (n : Int)
  | dS (ks : List Str) (vs : List PV) | dI (ks : List Int) (vs : List PV) | dT (ks : List (List Int))
  | inst (m i : PV) | tape
  deriving Inhabited

/-- what a name holds: a value; an own list; an own dict of str keys; an own dict of int keys to own lists -/
inductive Slot where
  | val (p : PV) | lst (l : List PV) | dct (ks : List Str) (vs : List PV) | mm (ks : List Int) (vs : List (List PV))
  deriving Inhabited

abbrev Rho := Str → Option Slot
/-- a call's answer: the function's address, its arguments, the tape's spot -/
abbrev Orc := Nat → List PV → Nat → Option (PV × Nat)
abbrev NM := List (Str × NameKind)

noncomputable def upd (ρ : Rho) (x : Str) (s : Slot) : Rho := fun y => if y == x then some s else ρ y

noncomputable def Slot.frz : Slot → Slot
  | .val p => .val p
  | .lst l => .val (.list l)
  | .dct ks vs => .val (.dS ks vs)
  | .mm ks vs => .val (.dI ks (vs.map .list))

noncomputable def frz (f : Str → Bool) (ρ : Rho) : Rho := fun x => if f x then (ρ x).map Slot.frz else ρ x

inductive Res where
  | next | ret (p : PV)
  deriving Inhabited

noncomputable def big : Nat := 9223372036854775808

noncomputable def binI (op : Operator) (a b : Int) : Option Int :=
  match op with
  | .Add => some (a + b)
  | .Sub => some (a - b)
  | .Mult => if a.natAbs < big then some (a * b) else .none
  | .Mod => if b = 0 then .none else some (a.fmod b)
  | .FloorDiv => if b ≠ 0 ∧ a.natAbs < big ∧ b.natAbs < big then some (a.fdiv b) else .none
  | .Pow => if 0 ≤ b ∧ b ≤ 1000 ∧ a.natAbs < big then some (a ^ b.toNat) else .none
  | .LShift => if 0 ≤ b ∧ b ≤ 1000 ∧ a.natAbs < big then some (a * 2 ^ b.toNat) else .none
  | .RShift => if 0 ≤ b then some (a.fdiv (2 ^ b.toNat)) else .none
  | .BitAnd => some (Builtin.bitAnd a b)
  | .BitOr => some (Builtin.bitOr a b)
  | _ => .none

noncomputable def small (n : Nat) : Bool := decide (n ≤ 1000000)

noncomputable def addL (op : Operator) (f : List PV → PV) (l m : List PV) : Option PV := match op with
  | .Add => if small (l.length + m.length) then some (f (l ++ m)) else .none
  | _ => .none
noncomputable def binOp (op : Operator) (p q : PV) : Option PV := match p with
  | .int a => (match q with | .int b => (binI op a b).map .int | _ => .none)
  | .tup l => (match q with | .tup r => addL op .tup l r | _ => .none)
  | .list l => (match q with | .list r => addL op .list l r | _ => .none)
  | _ => .none

noncomputable def peqs (f : PV → PV → Option Bool) : List PV → List PV → Option Bool
  | [], [] => some true
  | [], _ :: _ => some false
  | _ :: _, [] => some false
  | a :: l, b :: r => match f a b, peqs f l r with
    | some x, some y => some (x && y)
    | _, _ => .none
/-- == of ints, strs and tuples of them -/
noncomputable def peq : Nat → PV → PV → Option Bool
  | 0, _, _ => .none
  | n + 1, p, q => match p with
    | .int a => (match q with | .int b => some (a == b) | _ => .none)
    | .str a => (match q with | .str b => some (a == b) | _ => .none)
    | .tup l => (match q with | .tup r => peqs (peq n) l r | _ => .none)
    | _ => .none

noncomputable def ints? : List PV → Option (List Int)
  | [] => some []
  | .int i :: r => (ints? r).map (i :: ·)
  | _ => .none
noncomputable def strs? : List PV → Option (List Str)
  | [] => some []
  | .str i :: r => (strs? r).map (i :: ·)
  | _ => .none
noncomputable def tups? : List PV → Option (List (List Int))
  | [] => some []
  | .tup l :: r => match ints? l, tups? r with
    | some x, some y => some (x :: y)
    | _, _ => .none
  | _ => .none

noncomputable def memb {K : Type} [DecidableEq K] (k : K) (ks : List K) : Bool := decide (k ∈ ks)

/-- x in d -/
noncomputable def inDict (p q : PV) : Option Bool := match p with
  | .int i => (match q with
    | .dI ks _ => some (memb i ks)
    | .dT ks => (match ks with | [] => some false | _ => .none)
    | _ => .none)
  | .tup l => (match q with | .dT ks => (ints? l).map fun x => memb x ks | _ => .none)
  | _ => .none

noncomputable def inStrs (x : Str) (l : List PV) : Option Bool := (strs? l).map (memb x)

/-- a dict of one key -/
noncomputable def one? : PV → Option (Str × PV)
  | .dS [x] [v] => some (x, v)
  | _ => .none
noncomputable def eqP (a b : PV) : Option Bool := match one? a with
  | some p => (match one? b with
    | some q => if p.1 == q.1 then peq 9 p.2 q.2 else .none
    | .none => peq 9 a b)
  | .none => peq 9 a b
noncomputable def cmpI (f : Int → Int → Bool) (a b : PV) : Option Bool := match a with
  | .int x => (match b with | .int y => some (f x y) | _ => .none)
  | _ => .none
noncomputable def inP (a b : PV) : Option Bool := match a with
  | .str x => (match b with
    | .tup l => inStrs x l
    | .list l => inStrs x l
    | _ => .none)
  | a => inDict a b
noncomputable def cmpOp (op : CmpOp) (a b : PV) : Option Bool :=
  match op with
  | .Eq => eqP a b
  | .NotEq => (peq 9 a b).map (!·)
  | .Lt => cmpI (fun x y => decide (x < y)) a b
  | .LtE => cmpI (fun x y => decide (x ≤ y)) a b
  | .Gt => cmpI (fun x y => decide (y < x)) a b
  | .In => inP a b
  | .NotIn => (inDict a b).map (!·)
  | _ => .none

/-- an index as Python takes it -/
noncomputable def idxAt (l : List PV) (i : Int) : Option PV :=
  if l.length > 1000000 then .none else if 0 ≤ i ∧ i < l.length then l[i.toNat]? else if i < 0 ∧ -(l.length : Int) ≤ i then l[(i + l.length).toNat]? else .none

/-- a dict's value at a key -/
noncomputable def valAt {K : Type} [DecidableEq K] (k : K) : List K → List PV → Option PV
  | k' :: ks, v :: vs => if k' = k then some v else valAt k ks vs
  | _, _ => .none
noncomputable def repl {K : Type} [DecidableEq K] (k : K) (v : PV) : List K → List PV → List PV
  | k' :: ks, u :: vs => (if k' = k then v else u) :: repl k v ks vs
  | _, _ => []
noncomputable def putK {K : Type} [DecidableEq K] (k : K) (v : PV) (ks : List K) (vs : List PV) : List K × List PV :=
  if memb k ks then (ks, repl k v ks vs) else (ks ++ [k], vs ++ [v])

noncomputable def index (cells : List Int) (σ : Nat) (p q : PV) : Option PV := match p with
  | .tup l => (match q with | .int i => idxAt l i | _ => .none)
  | .list l => (match q with | .int i => if l.length ≤ 1000000 ∧ 0 ≤ i ∧ i < l.length then l[i.toNat]? else .none | _ => .none)
  | .dS ks vs => (match q with | .str x => valAt x ks vs | _ => .none)
  | .tape => (match q with | .str x => if x == ("spot" : Str) then some (.int σ) else if x == ("cells" : Str) then some (.list (cells.map .int)) else .none | _ => .none)
  | _ => .none

/-- a bound of a slice as Python clamps it -/
noncomputable def clamp (n : Nat) (i : Int) : Nat := if i < 0 then (i + n).toNat else min i.toNat n
noncomputable def loB (n : Nat) : Option Int → Nat
  | some i => clamp n i
  | .none => 0
noncomputable def hiB (n : Nat) : Option Int → Nat
  | some i => clamp n i
  | .none => n
noncomputable def sliceL (l : List PV) (lo hi : Option Int) : List PV := (l.take (hiB l.length hi)).drop (loB l.length lo)

set_option genCtorIdx false in
set_option genInjectivity false in
set_option genSizeOf false in
/-- an index of a slice is written: an int, or a negated one -/
inductive LV : Expr → Type where
  | int (i : Int) (k : Nat) (p : Pos) : LV (.Constant (.int i) k p)
  | neg (i : Int) (k : Nat) (p q : Pos) : LV (.UnaryOp .USub (.Constant (.int i) k p) q)
  | other (e : Expr) : LV e
noncomputable def lv : (e : Expr) → LV e
  | .Constant (.int i) k p => .int i k p
  | .UnaryOp .USub (.Constant (.int i) k p) q => .neg i k p q
  | e => .other e
noncomputable def litV {e : Expr} : LV e → Option Int
  | .int i _ _ => some i
  | .neg i _ _ _ => some (-i)
  | .other _ => .none
noncomputable def litInt (e : Expr) : Option Int := litV (lv e)
noncomputable def litOpt : Option Expr → Option (Option Int)
  | .none => some .none
  | some e => (litInt e).map some

/-- a step that may fail; a guard -/
@[irreducible] def bnd {α β : Type} (o : Option (α × Nat)) (f : α → Nat → Option β) : Option β := match o with
  | some x => f x.1 x.2
  | .none => .none
@[irreducible] def gd {β : Type} (c : Bool) (o : Option β) : Option β := match c with
  | true => .none
  | false => o
@[irreducible] def rt {α : Type} (o : Option α) (σ : Nat) : Option (α × Nat) := match o with
  | some a => some (a, σ)
  | .none => .none
@[irreducible] def obd {α β : Type} (o : Option α) (f : α → Option β) : Option β := match o with
  | some a => f a
  | .none => .none
theorem bnd_e {P : Prop} {α β : Type} {o : Option (α × Nat)} {f : α → Nat → Option β} {r : β} (h : bnd o f = some r) (k : ∀ a σ, o = some (a, σ) → f a σ = some r → P) : P := by
  unfold bnd at h
  cases o with
  | none => exact nomatch h
  | some x => exact k x.1 x.2 rfl h
theorem gd_e {P : Prop} {β : Type} {c : Bool} {o : Option β} {r : β} (h : gd c o = some r) (k : c = false → o = some r → P) : P := by
  unfold gd at h
  cases c with
  | true => exact nomatch h
  | false => exact k rfl h
theorem sp_inj {α : Type} {a b : α} {σ σ' : Nat} (h : some (a, σ) = some (b, σ')) : a = b ∧ σ = σ' := ⟨Option.some.inj (congrArg (Option.map Prod.fst) h), Option.some.inj (congrArg (Option.map Prod.snd) h)⟩
theorem rt_e {P : Prop} {α : Type} {o : Option α} {σ σ' : Nat} {a : α} (h : rt o σ = some (a, σ')) (k : o = some a → σ = σ' → P) : P := by
  unfold rt at h
  cases o with
  | none => exact nomatch h
  | some x => exact k (congrArg some (sp_inj h).1) (sp_inj h).2
theorem sp_e {P : Prop} {α : Type} {a b : α} {σ σ' : Nat} (h : some (a, σ) = some (b, σ')) (k : a = b → σ = σ' → P) : P := k (sp_inj h).1 (sp_inj h).2
theorem ob_e {P : Prop} {α β : Type} {o : Option α} {f : α → Option β} {r : β} (h : obd o f = some r) (k : ∀ a, o = some a → f a = some r → P) : P := by
  unfold obd at h
  cases o with
  | none => exact nomatch h
  | some x => exact k x rfl h
theorem bnd_to {α β : Type} {o : Option (α × Nat)} {f : α → Nat → Option β} {a : α} {σ : Nat} {r : Option β} (h : o = some (a, σ)) (h2 : f a σ = r) : bnd o f = r := by rw [h]; unfold bnd; exact h2
theorem gd_to {β : Type} {c : Bool} {o r : Option β} (h : c = false) (h2 : o = r) : gd c o = r := by rw [h]; unfold gd; exact h2
theorem rt_to {α : Type} {o : Option α} {a : α} {σ : Nat} (h : o = some a) : rt o σ = some (a, σ) := by rw [h]; unfold rt; rfl
theorem obind_to {α β : Type} {o : Option α} {f : α → Option β} {a : α} {r : Option β} (h : o = some a) (h2 : f a = r) : obd o f = r := by rw [h]; unfold obd; exact h2
theorem gn {c : Bool} (h : c = true) : (!c) = false := by rw [h]; rfl
theorem or_f {a b : Bool} (h : (a || b) = false) : a = false ∧ b = false := Bool.or_eq_false_iff.mp h
theorem not_f {a : Bool} (h : (!a) = false) : a = true := by cases a <;> first | rfl | cases h
theorem no {P : Prop} {α : Type} {x : α} (h : none = some x) : P := nomatch h

noncomputable def iterItems : PV → Option (List PV)
  | .tup l => some l
  | .list l => some l
  | .range n => if 0 ≤ n ∧ n ≤ 1000000 then some ((List.range n.toNat).map fun i => .int (i : Nat)) else .none
  | _ => .none

noncomputable def truthyP : PV → Option Bool
  | .bool b => some b
  | _ => .none

set_option genCtorIdx false in
set_option genInjectivity false in
set_option genSizeOf false in
/-- a target -/
inductive BV : Expr → Type where
  | name (x : Str) (p : Pos) : BV (.Name x p)
  | pair (t₁ t₂ : Expr) (k : Nat) (p : Pos) : BV (.Tuple [t₁, t₂] k p)
  | other (e : Expr) : BV e
noncomputable def bv : (e : Expr) → BV e
  | .Name x p => .name x p
  | .Tuple [t₁, t₂] k p => .pair t₁ t₂ k p
  | e => .other e
noncomputable def pair? : PV → Option (PV × PV)
  | .tup [p₁, p₂] => some (p₁, p₂)
  | _ => .none
noncomputable def bindV (f : Expr → PV → Rho → Option Rho) {t : Expr} (v : BV t) (p : PV) (ρ : Rho) : Option Rho := match v with
  | .name x _ => some (upd ρ x (.val p))
  | .pair t₁ t₂ _ _ => obd (pair? p) fun q => obd (f t₁ q.1 ρ) fun ρ' => f t₂ q.2 ρ'
  | .other _ => .none
/-- a target's names -/
noncomputable def bindT : Nat → Expr → PV → Rho → Option Rho
  | 0 => fun _ _ _ => .none
  | n + 1 => fun t p ρ => bindV (bindT n) (bv t) p ρ

noncomputable def compFold (f : PV → Nat → Option (List PV × Nat)) : List PV → Nat → Option (List PV × Nat)
  | [] => fun σ => some ([], σ)
  | p :: r => fun σ => bnd (f p σ) fun l σ₁ => bnd (compFold f r σ₁) fun l' σ₂ => some (l ++ l', σ₂)

/-- what comes behind a statement -/
@[irreducible] def seqR (o : Option (Res × Rho × Nat)) (k : Rho → Nat → Option (Res × Rho × Nat)) : Option (Res × Rho × Nat) := match o with
  | some x => (match x.1 with
    | .next => k x.2.1 x.2.2
    | .ret p => some (.ret p, x.2.1, x.2.2))
  | .none => .none
theorem seq_next {o : Option (Res × Rho × Nat)} {k : Rho → Nat → Option (Res × Rho × Nat)} {ρ : Rho} {σ : Nat} {r : Option (Res × Rho × Nat)} (h : o = some (.next, ρ, σ)) (h2 : k ρ σ = r) : seqR o k = r := by rw [h]; unfold seqR; exact h2
theorem seq_ret {o : Option (Res × Rho × Nat)} {k : Rho → Nat → Option (Res × Rho × Nat)} {ρ : Rho} {σ : Nat} {p : PV} (h : o = some (.ret p, ρ, σ)) : seqR o k = some (.ret p, ρ, σ) := by rw [h]; unfold seqR; rfl
theorem seq_e {P : Prop} {o : Option (Res × Rho × Nat)} {k : Rho → Nat → Option (Res × Rho × Nat)} {r : Res × Rho × Nat} (h : seqR o k = some r) (h1 : ∀ ρ σ, o = some (.next, ρ, σ) → k ρ σ = some r → P) (h2 : ∀ p ρ σ, o = some (.ret p, ρ, σ) → (.ret p, ρ, σ) = r → P) : P := by
  unfold seqR at h
  cases o with
  | none => exact nomatch h
  | some x =>
    obtain ⟨q, ρ, σ⟩ := x
    cases q with
    | next => exact h1 ρ σ rfl h
    | ret p => exact h2 p ρ σ rfl (Option.some.inj h)

noncomputable def forFold (f : PV → Rho → Nat → Option (Res × Rho × Nat)) : List PV → Rho → Nat → Option (Res × Rho × Nat)
  | [] => fun ρ σ => some (.next, ρ, σ)
  | p :: r => fun ρ σ => seqR (f p ρ σ) (forFold f r)

noncomputable def whileFold (t : Rho → Nat → Option (Bool × Nat)) (f : Rho → Nat → Option (Res × Rho × Nat)) : Nat → Rho → Nat → Option (Res × Rho × Nat)
  | 0 => fun _ _ => .none
  | k + 1 => fun ρ σ => bnd (t ρ σ) fun b σ₁ => cond b (seqR (f ρ σ₁) (whileFold t f k)) (some (.next, ρ, σ₁))

noncomputable def sumI : List PV → Option Int
  | [] => some 0
  | .int i :: r => (sumI r).map (i + ·)
  | _ => .none

/-- dict([(k, True), ..]): the keys, each at its first place -/
noncomputable def addK {K : Type} [DecidableEq K] (ks : List K) (k : K) : List K := if memb k ks then ks else ks ++ [k]
noncomputable def dedup {K : Type} [DecidableEq K] (l : List K) : List K := l.foldl addK []
/-- (k, True) -/
noncomputable def key? : PV → Option PV
  | .tup [k, .bool true] => some k
  | _ => .none
noncomputable def int? : PV → Option Int
  | .int i => some i
  | _ => .none
noncomputable def tup? : PV → Option (List PV)
  | .tup l => some l
  | _ => .none
noncomputable def keysI : List PV → Option (List Int)
  | [] => some []
  | p :: r => match (key? p).bind int? with
    | some i => (keysI r).map (i :: ·)
    | .none => .none
noncomputable def keysT : List PV → Option (List (List Int))
  | [] => some []
  | p :: r => match ((key? p).bind tup?).bind ints? with
    | some x => (keysT r).map (x :: ·)
    | .none => .none
noncomputable def pairsDict (l : List PV) : Option PV := match keysT l with
  | some ks => some (.dT (dedup ks))
  | .none => match keysI l with
    | some ks => some (.dI (dedup ks) ((dedup ks).map fun _ => .bool true))
    | .none => .none

/-- ascending, by the lists' order -/
noncomputable def ltL : List Int → List Int → Bool
  | [], [] => false
  | [], _ :: _ => true
  | _ :: _, [] => false
  | a :: l, b :: r => if a == b then ltL l r else decide (a < b)
noncomputable def insL (x : List Int) : List (List Int) → List (List Int)
  | [] => [x]
  | y :: r => if ltL x y then x :: y :: r else y :: insL x r
noncomputable def sortL (l : List (List Int)) : List (List Int) := l.foldr insL []

/-- d.setdefault(k, []).append(v) -/
noncomputable def mmAdd (k : Int) (v : PV) : List Int → List (List PV) → List (List PV)
  | k' :: ks, l :: ls => (if k' = k then l ++ [v] else l) :: mmAdd k v ks ls
  | _, _ => []
noncomputable def mmPut (k : Int) (v : PV) (ks : List Int) (vs : List (List PV)) : List Int × List (List PV) :=
  if memb k ks then (ks, mmAdd k v ks vs) else (ks ++ [k], vs ++ [[v]])

noncomputable def smallP : PV → Bool
  | .tup l => small l.length
  | .list l => small l.length
  | _ => true
/-- the built-ins, by name -/
noncomputable def builtinP (f : Str) (args : List PV) : Option PV :=
  match args with
  | [p] =>
    if !smallP p then .none
    else if f == ("len" : Str) then (match p with | .tup l => some (.int l.length) | .list l => some (.int l.length) | _ => .none)
    else if f == ("tuple" : Str) then (match p with | .list l => some (.tup l) | _ => .none)
    else if f == ("range" : Str) then (match p with | .int n => if 0 ≤ n ∧ n ≤ 1000000 then some (.range n) else .none | _ => .none)
    else if f == ("sum" : Str) then (match p with | .list l => (sumI l).map .int | _ => .none)
    else if f == ("list" : Str) then (match p with | .list l => some (.list l) | _ => .none)
    else if f == ("dict" : Str) then (match p with | .list l => pairsDict l | _ => .none)
    else if f == ("sorted" : Str) then (match p with | .dT ks => if ks.length < 64 ∧ ks.all (fun k => !k.isEmpty) then some (.list ((sortL ks).map fun t => .tup (t.map .int))) else .none | _ => .none)
    else .none
  | _ => .none

/-- the text's own defs and class, by name; its methods -/
structure Tab where
  glob : List (Str × Nat)
  meth : List (Str × Nat)
  cells : List Int

noncomputable def evsWith (f : Expr → Nat → Option (PV × Nat)) : List Expr → Nat → Option (List PV × Nat)
  | [] => fun σ => some ([], σ)
  | e :: r => fun σ => bnd (f e σ) fun p σ₁ => bnd (evsWith f r σ₁) fun ps σ₂ => some (p :: ps, σ₂)

noncomputable def allWith (f : Expr → Nat → Option (Bool × Nat)) : List Expr → Nat → Option (Bool × Nat)
  | [] => fun σ => some (true, σ)
  | e :: r => fun σ => bnd (f e σ) fun b σ₁ => cond b (allWith f r σ₁) (some (false, σ₁))

/-- what a comprehension's block sees of the names outside -/
noncomputable def seen (sc : Scope) (ρ : Rho) : Rho := fun x => match sc.names.lookup x with
  | some .free => (match ρ x with | some (.val p) => some (.val p) | _ => .none)
  | _ => .none

noncomputable def tgtV (P : Str → Bool) (f : Expr → Bool) {t : Expr} (v : BV t) : Bool := match v with
  | .name x _ => P x
  | .pair t₁ t₂ _ _ => f t₁ && f t₂
  | .other _ => false
noncomputable def targetsP (P : Str → Bool) : Nat → Expr → Bool
  | 0 => fun _ => false
  | n + 1 => fun t => tgtV P (targetsP P n) (bv t)
noncomputable def targetsIn (sc : Scope) (n : Nat) (t : Expr) : Bool := targetsP (fun x => sc.names.lookup x == some .local) n t
noncomputable def isSetE : Expr → Bool
  | .Set .. => true
  | _ => false
noncomputable def scopeOk (nm : NM) (sc : Scope) : Bool :=
  sc.names.all (fun y => y.2 != .free || nm.lookup y.1 == some .cell || nm.lookup y.1 == some .free) && sc.kind == .function && sc.names.all (fun y => y.2 != .cell) && sc.names.all (fun y => y.2 != .local || sc.names.lookup y.1 == some .local)
noncomputable def isEnumE : Expr → Bool
  | .Call (.Name f _) _ _ _ => f == ("enumerate" : Str)
  | _ => false
noncomputable def isTupE : Expr → Bool
  | .Tuple .. => true
  | _ => false
noncomputable def tnV (f : Expr → List Str) {t : Expr} (v : BV t) : List Str := match v with
  | .name x _ => [x]
  | .pair t₁ t₂ _ _ => f t₁ ++ f t₂
  | .other _ => []
noncomputable def tnames : Nat → Expr → List Str
  | 0 => fun _ => []
  | n + 1 => fun t => tnV (tnames n) (bv t)
noncomputable def gensOk (sc : Scope) (gens : List Comprehension) : Bool := gens.all fun g => g.is_async == 0 && targetsIn sc 4 g.target && !isSetE g.iter && (!isEnumE g.iter || isTupE g.target)

set_option genCtorIdx false in
set_option genInjectivity false in
set_option genSizeOf false in
/-- what an expression is -/
inductive EV : Expr → Type where
  | const (c : Const) (k : Nat) (p : Pos) : EV (.Constant c k p)
  | name (x : Str) (p : Pos) : EV (.Name x p)
  | tup (es : List Expr) (k : Nat) (p : Pos) : EV (.Tuple es k p)
  | lst (es : List Expr) (p : Pos) : EV (.List es p)
  | dict1 (x : Str) (k : Nat) (kp : Pos) (v : Expr) (p : Pos) : EV (.Dict [some (.Constant (.str x) k kp)] [v] p)
  | bin (l : Expr) (op : Operator) (r : Expr) (p : Pos) : EV (.BinOp l op r p)
  | un (op : UnaryOp) (x : Expr) (p : Pos) : EV (.UnaryOp op x p)
  | ite (t a b : Expr) (p : Pos) : EV (.IfExp t a b p)
  | cmp (l : Expr) (op : CmpOp) (r : Expr) (p : Pos) : EV (.Compare l [op] [r] p)
  | sub (v i : Expr) (p : Pos) : EV (.Subscript v i p)
  | attr (x : Str) (xp : Pos) (a : Str) (p : Pos) : EV (.Attribute (.Name x xp) a p)
  | meth (o : Str) (op : Pos) (m : Str) (ap : Pos) (args : List Expr) (p : Pos) : EV (.Call (.Attribute (.Name o op) m ap) args [] p)
  | call (f : Str) (fp : Pos) (args : List Expr) (p : Pos) : EV (.Call (.Name f fp) args [] p)
  | comp (elt : Expr) (gens : List Comprehension) (sc : Scope) (p : Pos) : EV (.ListComp elt gens sc p)
  | other (e : Expr) : EV e
noncomputable def view : (e : Expr) → EV e
  | .Constant c k p => .const c k p
  | .Name x p => .name x p
  | .Tuple es k p => .tup es k p
  | .List es p => .lst es p
  | .Dict [some (.Constant (.str x) k kp)] [v] p => .dict1 x k kp v p
  | .BinOp l op r p => .bin l op r p
  | .UnaryOp op x p => .un op x p
  | .IfExp t a b p => .ite t a b p
  | .Compare l [op] [r] p => .cmp l op r p
  | .Subscript v i p => .sub v i p
  | .Attribute (.Name x xp) a p => .attr x xp a p
  | .Call (.Attribute (.Name o op) m ap) args [] p => .meth o op m ap args p
  | .Call (.Name f fp) args [] p => .call f fp args p
  | .ListComp elt gens sc p => .comp elt gens sc p
  | e => .other e
set_option genCtorIdx false in
set_option genInjectivity false in
set_option genSizeOf false in
/-- an index -/
inductive SLV : Expr → Type where
  | slice (lo hi : Option Expr) (p : Pos) : SLV (.Slice lo hi .none p)
  | other (e : Expr) : SLV e
noncomputable def slv : (e : Expr) → SLV e
  | .Slice lo hi .none p => .slice lo hi p
  | e => .other e
set_option genCtorIdx false in
set_option genInjectivity false in
set_option genSizeOf false in
/-- a test -/
inductive TV : Expr → Type where
  | not (x : Expr) (p : Pos) : TV (.UnaryOp .Not x p)
  | and (vs : List Expr) (p : Pos) : TV (.BoolOp .And vs p)
  | cmp (l : Expr) (op : CmpOp) (r : Expr) (p : Pos) : TV (.Compare l [op] [r] p)
  | call (f : Expr) (args : List Expr) (kw : List Keyword) (p : Pos) : TV (.Call f args kw p)
  | other (e : Expr) : TV e
noncomputable def tv : (e : Expr) → TV e
  | .UnaryOp .Not x p => .not x p
  | .BoolOp .And vs p => .and vs p
  | .Compare l [op] [r] p => .cmp l op r p
  | .Call f args kw p => .call f args kw p
  | e => .other e
set_option genCtorIdx false in
set_option genInjectivity false in
set_option genSizeOf false in
/-- a call of a name with one argument; an own value -/
inductive CV : Expr → Type where
  | nilL (p : Pos) : CV (.List [] p)
  | nilD (p : Pos) : CV (.Dict [] [] p)
  | call (f : Str) (fp : Pos) (x : Expr) (p : Pos) : CV (.Call (.Name f fp) [x] [] p)
  | other (e : Expr) : CV e
noncomputable def cv : (e : Expr) → CV e
  | .List [] p => .nilL p
  | .Dict [] [] p => .nilD p
  | .Call (.Name f fp) [x] [] p => .call f fp x p
  | e => .other e

abbrev EvFn := NM → Rho → Expr → Nat → Option (PV × Nat)
/-- the evaluators of one depth -/
structure Evs where
  e : EvFn
  t : NM → Rho → Expr → Nat → Option (Bool × Nat)
  i : NM → Rho → Expr → Nat → Option (List PV × Nat)

noncomputable def evConst (σ : Nat) : Const → Option (PV × Nat)
  | .int i => some (.int i, σ)
  | .str x => some (.str x, σ)
  | .bool b => some (.bool b, σ)
  | _ => .none
noncomputable def badName (x : Str) : Bool := x == ("__debug__" : Str) || x == ("__classdict__" : Str)
noncomputable def evName (σ : Nat) : Option Slot → Option (PV × Nat)
  | some (.val p) => some (p, σ)
  | _ => .none
noncomputable def evUn (op : UnaryOp) (p : PV) (σ : Nat) : Option (PV × Nat) := match op with
  | .Not => (match p with | .bool b => some (.bool (!b), σ) | _ => .none)
  | .Invert => (match p with | .int i => some (.int (Builtin.bitNot i), σ) | _ => .none)
  | .USub => (match p with | .int i => some (.int (-i), σ) | _ => .none)
  | _ => .none
noncomputable def evCut (a b : Option (Option Int)) (p : PV) (σ : Nat) : Option (PV × Nat) := match p with
  | .tup l => (match a with | some a => (match b with | some b => gd (!small l.length) (some (.tup (sliceL l a b), σ)) | .none => .none) | .none => .none)
  | _ => .none
noncomputable def evAttr (a : Str) (p : PV) (σ : Nat) : Option (PV × Nat) := match p with
  | .inst m i => if a == ("many" : Str) then some (m, σ) else if a == ("instance" : Str) then some (i, σ) else .none
  | _ => .none
/-- two arguments: an int, a value -/
noncomputable def getArgs (ks : List Int) (vs : List PV) (σ : Nat) : List PV → Option (PV × Nat)
  | [.int i, d] => some ((valAt i ks vs).getD d, σ)
  | _ => .none
noncomputable def evGet (T : Tab) (C : Orc) (m : Str) (f : Nat → Option (List PV × Nat)) (p : PV) (σ : Nat) : Option (PV × Nat) := match p with
  | .inst a b => (match T.meth.lookup m with | some q => bnd (f σ) fun ps σ₂ => C q (.inst a b :: ps) σ₂ | .none => .none)
  | .dI ks vs => gd (m != ("get" : Str)) (bnd (f σ) fun ps σ₂ => getArgs ks vs σ₂ ps)
  | _ => .none
noncomputable def evCall (C : Orc) (f : Str) (a : Option Nat) (ps : List PV) (σ : Nat) : Option (PV × Nat) := match a with
  | some a => C a ps σ
  | .none => rt (builtinP f ps) σ
noncomputable def elt1 (o : Option (PV × Nat)) : Option (List PV × Nat) := bnd o fun q σ => some ([q], σ)
/-- a comprehension's turn -/
noncomputable def turnW (R : Evs) (nm : NM) (ρ : Rho) (tg elt : Expr) (ifs : List Expr) (p : PV) (σ : Nat) : Option (List PV × Nat) := obd (bindT 4 tg p ρ) fun ρ' => bnd (allWith (R.t nm ρ') ifs σ) fun b σ₁ => cond b (elt1 (R.e nm ρ' elt σ₁)) (some ([], σ₁))
noncomputable def turnX (R : Evs) (nm : NM) (ρ : Rho) (tg tg2 it2 elt : Expr) (p : PV) (σ : Nat) : Option (List PV × Nat) := obd (bindT 4 tg p ρ) fun ρ' => bnd (R.i nm ρ' it2 σ) fun its σ₁ => compFold (turnW R nm ρ' tg2 elt []) its σ₁
noncomputable def fitL (l : List PV) (σ : Nat) : Option (PV × Nat) := gd (!small l.length) (some (.list l, σ))
noncomputable def evComp (R : Evs) (nm : NM) (ρ : Rho) (elt : Expr) (sc : Scope) (σ : Nat) : List Comprehension → Option (PV × Nat)
  | [g] => bnd (R.i nm ρ g.iter σ) fun its σ₁ => bnd (compFold (turnW R sc.names (seen sc ρ) g.target elt g.ifs) its σ₁) fitL
  | [g, g₂] => gd (!g.ifs.isEmpty || !g₂.ifs.isEmpty || !((tnames 4 g₂.target).all fun x => !(tnames 4 g.target).contains x)) (bnd (R.i nm ρ g.iter σ) fun its σ₁ => bnd (compFold (turnX R sc.names (seen sc ρ) g.target g₂.target g₂.iter elt) its σ₁) fitL)
  | _ => .none
noncomputable def evCmp (f : Expr → Nat → Option (PV × Nat)) (l : Expr) (op : CmpOp) (r : Expr) (σ : Nat) : Option (Bool × Nat) := gd (behindInMarks op r) (bnd (f l σ) fun a σ₁ => bnd (f r σ₁) fun b σ₂ => rt (cmpOp op a b) σ₂)
noncomputable def evSub (cells : List Int) (f : Expr → Nat → Option (PV × Nat)) (v : Expr) (σ : Nat) {i : Expr} : SLV i → Option (PV × Nat)
  | .slice lo hi _ => bnd (f v σ) (evCut (litOpt lo) (litOpt hi))
  | .other i => bnd (f v σ) fun a σ₁ => bnd (f i σ₁) fun b σ₂ => rt (index cells σ₂ a b) σ₂

section
variable (T : Tab) (C : Orc)
noncomputable def stepV (R : Evs) (nm : NM) (ρ : Rho) (σ : Nat) {e : Expr} : EV e → Option (PV × Nat)
  | .const c _ _ => evConst σ c
  | .name x _ => gd (badName x) (evName σ (ρ x))
  | .tup es _ _ => gd (es.any isStarred || !small es.length) (bnd (evsWith (R.e nm ρ) es σ) fun ps σ' => some (.tup ps, σ'))
  | .lst es _ => gd (es.any isStarred || !small es.length) (bnd (evsWith (R.e nm ρ) es σ) fun ps σ' => some (.list ps, σ'))
  | .dict1 x _ _ v _ => bnd (R.e nm ρ v σ) fun p σ' => some (.dS [x] [p], σ')
  | .bin l op r _ => bnd (R.e nm ρ l σ) fun a σ₁ => bnd (R.e nm ρ r σ₁) fun b σ₂ => rt (binOp op a b) σ₂
  | .un op x _ => bnd (R.e nm ρ x σ) (evUn op)
  | .ite t a b _ => bnd (R.t nm ρ t σ) fun c σ₁ => R.e nm ρ (if c then a else b) σ₁
  | .cmp l op r _ => bnd (evCmp (R.e nm ρ) l op r σ) fun b σ' => some (.bool b, σ')
  | .sub v i _ => evSub T.cells (R.e nm ρ) v σ (slv i)
  | .attr x xp a _ => bnd (R.e nm ρ (.Name x xp) σ) (evAttr a)
  | .meth o op m ap args pos => gd (args.any isStarred || decide (20 < args.length) || ap.endLine != pos.line) (bnd (R.e nm ρ (.Name o op) σ) (evGet T C m (evsWith (R.e nm ρ) args)))
  | .call f _ args _ => gd (args.any isStarred || decide (20 < args.length) || nm.lookup f != some .globalImplicit || f == ("__debug__" : Str)) (bnd (evsWith (R.e nm ρ) args σ) (evCall C f (T.glob.lookup f)))
  | .comp elt gens sc _ => gd (!(scopeOk nm sc && gensOk sc gens)) (evComp R nm ρ elt sc σ gens)
  | .other _ => .none
/-- a test -/
noncomputable def stepT (R : Evs) (nm : NM) (ρ : Rho) (σ : Nat) {e : Expr} : TV e → Option (Bool × Nat)
  | .not x _ => bnd (R.t nm ρ x σ) fun b σ₁ => some (!b, σ₁)
  | .and vs _ => allWith (R.t nm ρ) vs σ
  | .cmp l op r _ => evCmp (R.e nm ρ) l op r σ
  | .call f args kw p => bnd (R.e nm ρ (.Call f args kw p) σ) fun p σ₁ => rt (truthyP p) σ₁
  | .other _ => .none
noncomputable def fitI (p : PV) (σ : Nat) : Option (List PV × Nat) := obd (iterItems p) fun l => gd (!small l.length) (some (l, σ))
noncomputable def enumI (p : PV) (σ : Nat) : Option (List PV × Nat) := match p with
  | .list l => gd (!small l.length) (some (l.zipIdx.map fun y => .tup [.int y.2, y.1], σ))
  | _ => .none
noncomputable def isEnumV {e : Expr} : CV e → Option Expr
  | .call f _ x _ => if f == ("enumerate" : Str) then some x else .none
  | _ => .none
/-- what a loop goes over -/
noncomputable def stepI (R : Evs) (nm : NM) (ρ : Rho) (e : Expr) (σ : Nat) : Option (List PV × Nat) := match isEnumV (cv e) with
  | some x => gd (isStarred x || nm.lookup ("enumerate" : Str) != some .globalImplicit || (T.glob.lookup ("enumerate" : Str)).isSome) (bnd (R.e nm ρ x σ) enumI)
  | .none => bnd (R.e nm ρ e σ) fitI
noncomputable def evs : Nat → Evs
  | 0 => ⟨fun _ _ _ _ => .none, fun _ _ _ _ => .none, fun _ _ _ _ => .none⟩
  | n + 1 => ⟨fun nm ρ e σ => stepV T C (evs n) nm ρ σ (view e), fun nm ρ e σ => stepT (evs n) nm ρ σ (tv e), stepI T (evs n)⟩
noncomputable def turn1 (n : Nat) : NM → Rho → Expr → Expr → List Expr → PV → Nat → Option (List PV × Nat) := turnW (evs T C n)
noncomputable def turn2 (n : Nat) : NM → Rho → Expr → Expr → Expr → Expr → PV → Nat → Option (List PV × Nat) := turnX (evs T C n)
noncomputable def ev (n : Nat) : EvFn := (evs T C n).e
noncomputable def evT (n : Nat) : NM → Rho → Expr → Nat → Option (Bool × Nat) := (evs T C n).t
noncomputable def evI (n : Nat) : NM → Rho → Expr → Nat → Option (List PV × Nat) := (evs T C n).i

noncomputable def isOwnV {e : Expr} : CV e → Bool
  | .nilL _ => true
  | .nilD _ => true
  | .call f _ _ _ => f == ("dict" : Str)
  | .other _ => false
noncomputable def isCompE : Expr → Bool
  | .ListComp .. | .SetComp .. | .DictComp .. => true
  | _ => false

noncomputable def copyO (p : PV) (σ : Nat) : Option (Slot × Nat) := match p with
  | .dS ks vs => gd (!small ks.length) (some (.dct ks vs, σ))
  | p => rt ((builtinP ("dict" : Str) [p]).map .val) σ
/-- a value that an assignment may own -/
noncomputable def stepO (n : Nat) (nm : NM) (ρ : Rho) (σ : Nat) {e : Expr} : CV e → Option (Slot × Nat)
  | .nilL _ => some (.lst [], σ)
  | .nilD _ => some (.mm [] [], σ)
  | .call f fp x p => bif f == ("dict" : Str) then gd (isStarred x || nm.lookup f != some .globalImplicit || (T.glob.lookup f).isSome) (bnd (ev T C n nm ρ x σ) copyO) else bnd (ev T C n nm ρ (.Call (.Name f fp) [x] [] p) σ) fun p σ => some (.val p, σ)
  | .other e => bnd (ev T C n nm ρ e σ) fun p σ => some (.val p, σ)
noncomputable def evO (n : Nat) (nm : NM) (ρ : Rho) (e : Expr) (σ : Nat) : Option (Slot × Nat) := stepO T C n nm ρ σ (cv e)

mutual
/-- the names that an expression reads (as far as the texts here go) -/
noncomputable def nms : Nat → Expr → List Str
  | 0, _ => []
  | n + 1, e => match e with
    | .Name x _ => [x]
    | .Tuple es _ _ | .List es _ | .BoolOp _ es _ => nmss n es
    | .Dict _ vs _ => nmss n vs
    | .BinOp l _ r _ => nms n l ++ nms n r
    | .UnaryOp _ x _ => nms n x
    | .IfExp t a b _ => nms n t ++ nms n a ++ nms n b
    | .Compare l _ rs _ => nms n l ++ nmss n rs
    | .Subscript v i _ => nms n v ++ nms n i
    | .Attribute v _ _ => nms n v
    | .Call (.Attribute o _ _) as _ _ => nms n o ++ nmss n as
    | .Call _ as _ _ => nmss n as
    | .ListComp elt gens _ _ => nms n elt ++ nmsg n gens
    | _ => []
noncomputable def nmss : Nat → List Expr → List Str
  | 0, _ => []
  | _, [] => []
  | n + 1, e :: r => nms n e ++ nmss n r
noncomputable def nmsg : Nat → List Comprehension → List Str
  | 0, _ => []
  | _, [] => []
  | n + 1, g :: r => nms n g.iter ++ nmss n g.ifs ++ nmsg n r
end
noncomputable def reads (e : Expr) (x : Str) : Bool := (nms 40 e).contains x
noncomputable def readss (es : List Expr) (x : Str) : Bool := es.any fun e => reads e x

noncomputable def ownName (nm : NM) (x : Str) : Bool := nm.lookup x == some .local || nm.lookup x == some .cell
noncomputable def nameOfE : Expr → Option Str
  | .Name x _ => some x
  | _ => .none
noncomputable def namesOfE : List Expr → Option (List Str)
  | [] => some []
  | e :: r => match nameOfE e, namesOfE r with
    | some x, some xs => some (x :: xs)
    | _, _ => .none
noncomputable def targetsOk (nm : NM) (n : Nat) (t : Expr) : Bool := targetsP (ownName nm) n t

noncomputable def evsO (n : Nat) (nm : NM) (ρ : Rho) : List Expr → Nat → Option (List Slot × Nat)
  | [] => fun σ => some ([], σ)
  | e :: r => fun σ => bnd (evO T C n nm ρ e σ) fun p σ₁ => bnd (evsO n nm ρ r σ₁) fun ps σ₂ => some (p :: ps, σ₂)
noncomputable def updAll : List Str → List Slot → Rho → Rho
  | x :: xs, s :: ss, ρ => updAll xs ss (upd ρ x s)
  | _, _, ρ => ρ
end

set_option genCtorIdx false in
set_option genInjectivity false in
set_option genSizeOf false in
/-- what a statement is -/
inductive StV : Stmt → Type where
  | ret (e : Expr) (p : Pos) : StV (.Return (some e) p)
  | asg (x : Str) (xp : Pos) (e : Expr) (p : Pos) : StV (.Assign [.Name x xp] e p)
  | tup (ts : List Expr) (k : Nat) (tp : Pos) (es : List Expr) (k2 : Nat) (ep p : Pos) : StV (.Assign [.Tuple ts k tp] (.Tuple es k2 ep) p)
  | sub (x : Str) (xp : Pos) (i : Expr) (sp : Pos) (e : Expr) (p : Pos) : StV (.Assign [.Subscript (.Name x xp) i sp] e p)
  | app (x : Str) (xp : Pos) (m : Str) (ap : Pos) (e : Expr) (pos p : Pos) : StV (.Expr (.Call (.Attribute (.Name x xp) m ap) [e] [] pos) p)
  | mm (x : Str) (xp : Pos) (m : Str) (ap : Pos) (k : Expr) (lp p1 : Pos) (m2 : Str) (ap2 : Pos) (e : Expr) (pos p : Pos) : StV (.Expr (.Call (.Attribute (.Call (.Attribute (.Name x xp) m ap) [k, .List [] lp] [] p1) m2 ap2) [e] [] pos) p)
  | ite (t : Expr) (a b : List Stmt) (p : Pos) : StV (.If t a b p)
  | for_ (t it : Expr) (b : List Stmt) (p : Pos) : StV (.For t it b [] p)
  | while_ (t : Expr) (b : List Stmt) (p : Pos) : StV (.While t b [] p)
  | other (st : Stmt) : StV st
noncomputable def subV (v i : Expr) (sp : Pos) (e : Expr) (p : Pos) : StV (.Assign [.Subscript v i sp] e p) := match v with
  | .Name x xp => .sub x xp i sp e p
  | _ => .other _
noncomputable def tupV (ts : List Expr) (k : Nat) (tp : Pos) (e : Expr) (p : Pos) : StV (.Assign [.Tuple ts k tp] e p) := match e with
  | .Tuple es k2 ep => .tup ts k tp es k2 ep p
  | _ => .other _
noncomputable def asgV (t e : Expr) (p : Pos) : StV (.Assign [t] e p) := match t with
  | .Name x xp => .asg x xp e p
  | .Tuple ts k tp => tupV ts k tp e p
  | .Subscript v i sp => subV v i sp e p
  | _ => .other _
noncomputable def mmV (f : Expr) (as : List Expr) (kw : List Keyword) (p1 : Pos) (m2 : Str) (ap2 : Pos) (e : Expr) (pos p : Pos) : StV (.Expr (.Call (.Attribute (.Call f as kw p1) m2 ap2) [e] [] pos) p) := match f, as, kw with
  | .Attribute (.Name x xp) m ap, [k, .List [] lp], [] => .mm x xp m ap k lp p1 m2 ap2 e pos p
  | _, _, _ => .other _
noncomputable def appV (o : Expr) (m : Str) (ap : Pos) (e : Expr) (pos p : Pos) : StV (.Expr (.Call (.Attribute o m ap) [e] [] pos) p) := match o with
  | .Name x xp => .app x xp m ap e pos p
  | .Call f as kw p1 => mmV f as kw p1 m ap e pos p
  | _ => .other _
noncomputable def callV (f : Expr) (as : List Expr) (kw : List Keyword) (pos p : Pos) : StV (.Expr (.Call f as kw pos) p) := match f, as, kw with
  | .Attribute o m ap, [e], [] => appV o m ap e pos p
  | _, _, _ => .other _
noncomputable def sview : (st : Stmt) → StV st
  | .Return (some e) p => .ret e p
  | .Assign [t] e p => asgV t e p
  | .Expr (.Call f as kw pos) p => callV f as kw pos p
  | .If t a b p => .ite t a b p
  | .For t it b [] p => .for_ t it b p
  | .While t b [] p => .while_ t b p
  | st => .other st

abbrev StFn := NM → Rho → Stmt → Nat → Option (Res × Rho × Nat)
structure Sts where
  s : StFn
  b : NM → Rho → List Stmt → Nat → Option (Res × Rho × Nat)

/-- x[k] = v -/
noncomputable def setTape (ρ : Rho) (p k : PV) : Option (Res × Rho × Nat) := match k with
  | .str k => (match p with | .int j => gd (!(k == ("spot" : Str) && decide (0 ≤ j))) (some (.next, ρ, j.toNat)) | _ => .none)
  | _ => .none
noncomputable def setDct (ρ : Rho) (x : Str) (ks : List Str) (vs : List PV) (p k : PV) (σ : Nat) : Option (Res × Rho × Nat) := match k with
  | .str k => some (.next, upd ρ x (.dct (putK k p ks vs).1 (putK k p ks vs).2), σ)
  | _ => .none
noncomputable def isTape : PV → Bool
  | .tape => true
  | _ => false
noncomputable def evSet (f : Rho → Nat → Option (PV × Nat)) (fi : Str → Bool) (ρ : Rho) (x : Str) (p : PV) (σ : Nat) : Option Slot → Option (Res × Rho × Nat)
  | some (.val q) => gd (!isTape q) (bnd (f ρ σ) fun k _ => setTape ρ p k)
  | some (.dct ks vs) => gd (fi x || !small ks.length) (bnd (f (frz fi ρ) σ) fun k σ₂ => setDct (frz fi ρ) x ks vs p k σ₂)
  | _ => .none
noncomputable def evApp (f : Nat → Option (PV × Nat)) (ρ : Rho) (x : Str) (σ : Nat) : Option Slot → Option (Res × Rho × Nat)
  | some (.lst l) => bnd (f σ) fun p σ₁ => gd (!small l.length) (some (.next, upd ρ x (.lst (l ++ [p])), σ₁))
  | _ => .none
noncomputable def keyI (f : Int → Option (Res × Rho × Nat)) : PV → Option (Res × Rho × Nat)
  | .int i => f i
  | _ => .none
noncomputable def evMm (fk fe : Nat → Option (PV × Nat)) (ρ : Rho) (x : Str) (σ : Nat) : Option Slot → Option (Res × Rho × Nat)
  | some (.mm ks vs) => bnd (fk σ) fun k σ₁ => keyI (fun i => bnd (fe σ₁) fun p σ₂ => gd (!(small ks.length && vs.all (fun l => small l.length))) (some (.next, upd ρ x (.mm (mmPut i p ks vs).1 (mmPut i p ks vs).2), σ₂))) k
  | _ => .none
noncomputable def evTup (f : Nat → Option (List Slot × Nat)) (nm : NM) (es : List Expr) (ρ : Rho) (σ : Nat) : Option (List Str) → Option (Res × Rho × Nat)
  | some xs => gd (!(xs.all (ownName nm)) || !decide xs.Nodup || xs.length != es.length || es.any isStarred || es.all (constantsAlone 8) || decide (10 < es.length)) (bnd (f σ) fun ss σ₁ => some (.next, updAll xs ss ρ, σ₁))
  | .none => .none
noncomputable def turnSt (f : NM → Rho → List Stmt → Nat → Option (Res × Rho × Nat)) (nm : NM) (t : Expr) (body : List Stmt) (p : PV) (ρ : Rho) (σ : Nat) : Option (Res × Rho × Nat) := obd (bindT 4 t p ρ) fun ρ' => f nm ρ' body σ

section
variable (T : Tab) (C : Orc)
noncomputable def stepS (n : Nat) (R : Sts) (nm : NM) (ρ : Rho) (σ : Nat) {st : Stmt} : StV st → Option (Res × Rho × Nat)
  | .ret e _ => bnd (ev T C n nm (frz (reads e) ρ) e σ) fun p σ₁ => some (.ret p, frz (reads e) ρ, σ₁)
  | .asg x _ e _ => gd (!ownName nm x || (isCompE e && nm.lookup x == some .local)) (bnd (evO T C n nm (frz (reads e) ρ) e σ) fun s σ₁ => some (.next, upd (frz (reads e) ρ) x s, σ₁))
  | .tup ts _ _ es _ _ _ => evTup (evsO T C n nm (frz (readss es) ρ) es) nm es (frz (readss es) ρ) σ (namesOfE ts)
  | .sub x _ i _ e _ => gd (isCompE e || badName x) (bnd (ev T C n nm (frz (reads e) ρ) e σ) fun p σ₁ => evSet (fun ρ σ => ev T C n nm ρ i σ) (reads i) (frz (reads e) ρ) x p σ₁ (frz (reads e) ρ x))
  | .app x _ m ap e pos _ => gd (m != ("append" : Str) || isStarred e || reads e x || badName x || ap.endLine != pos.line) (evApp (ev T C n nm (frz (reads e) ρ) e) (frz (reads e) ρ) x σ (ρ x))
  | .mm x _ m ap k _ p1 m2 ap2 e pos _ => gd (m != ("setdefault" : Str) || m2 != ("append" : Str) || isStarred e || isStarred k || reads e x || reads k x || badName x || ap.endLine != p1.line || ap2.endLine != pos.line)
      (evMm (ev T C n nm (frz (reads k) ρ) k) (ev T C n nm (frz (reads e) (frz (reads k) ρ)) e) (frz (reads e) (frz (reads k) ρ)) x σ (ρ x))
  | .ite t a b _ => bnd (evT T C n nm (frz (reads t) ρ) t σ) fun c σ₁ => R.b nm (frz (reads t) ρ) (if c then a else b) σ₁
  | .for_ t it body _ => gd (!targetsOk nm 4 t || isSetE it || isEnumE it) (bnd (evI T C n nm (frz (reads it) ρ) it σ) fun its σ₁ => forFold (turnSt R.b nm t body) its (frz (reads it) ρ) σ₁)
  | .while_ t body _ => whileFold (fun ρ σ => evT T C n nm ρ t σ) (fun ρ σ => R.b nm ρ body σ) 40 ρ σ
  | .other _ => .none
noncomputable def stepB (R : Sts) (nm : NM) (ρ : Rho) (σ : Nat) : List Stmt → Option (Res × Rho × Nat)
  | [] => some (.next, ρ, σ)
  | st :: r => seqR (R.s nm ρ st σ) fun ρ₁ σ₁ => R.b nm ρ₁ r σ₁
noncomputable def sts : Nat → Sts
  | 0 => ⟨fun _ _ _ _ => .none, fun _ _ _ _ => .none⟩
  | n + 1 => ⟨fun nm ρ st σ => stepS T C n (sts n) nm ρ σ (sview st), fun nm ρ b σ => stepB (sts n) nm ρ σ b⟩
noncomputable def forTurn (n : Nat) : NM → Expr → List Stmt → PV → Rho → Nat → Option (Res × Rho × Nat) := turnSt (sts T C n).b
noncomputable def evS (n : Nat) : StFn := (sts T C n).s
noncomputable def evSs (n : Nat) : NM → Rho → List Stmt → Nat → Option (Res × Rho × Nat) := (sts T C n).b
end

/-- a def as the evaluator reads it -/
structure Fn where
  params : List Str
  names : NM
  body : List Stmt

noncomputable def rho0 (params : List Str) (args : List PV) : Rho := fun x => ((params.zip args).reverse.lookup x).map .val
noncomputable def runFn (T : Tab) (C : Orc) (f : Fn) (args : List PV) (σ : Nat) : Option (PV × Nat) :=
  if f.params.length != args.length then .none else match evSs T C 40 f.names (rho0 f.params args) f.body σ with
  | some (.ret p, _, σ') => some (p, σ')
  | some (.next, _, σ') => some (.none, σ')
  | .none => .none

noncomputable def callF (T : Tab) (fns : Nat → Option Fn) : Nat → Orc
  | 0 => fun _ _ _ => .none
  | m + 1 => fun a args σ => if a = 164 then (match args with | [x, y] => some (.inst x y, σ) | _ => .none) else match fns a with
    | some f => runFn T (callF T fns m) f args σ
    | .none => .none

end Mine

/- part Rel -/
namespace Mine

abbrev Fz := Addr → Option Obj
noncomputable def Fz.le (D D' : Fz) : Prop := ∀ a o, D a = some o → D' a = some o
noncomputable def Fz.on (D : Fz) (h : Heap) : Prop := ∀ a o, D a = some o → h.get? a = some o
noncomputable def Fz.put (D : Fz) (a : Addr) (o : Obj) : Fz := fun b => if b = a then some o else D b

theorem Fz.le.refl (D : Fz) : D.le D := fun _ _ e => e
theorem Fz.le.trans {D D' D'' : Fz} (x : D.le D') (y : D'.le D'') : D.le D'' := fun a o e => y a o (x a o e)
theorem Fz.put_le {D : Fz} {a : Addr} {o : Obj} (h : D a = none) : D.le (D.put a o) := fun b x e => by
  unfold Fz.put; split
  · subst_vars; rw [h] at e; cases e
  · exact e
theorem Fz.put_at {D : Fz} {a : Addr} {o : Obj} : D.put a o a = some o := by unfold Fz.put; rw [if_pos rfl]

noncomputable abbrev tupO (vs : List Value) (n : Nat) : Obj := { cls := .type "tuple", data := .seq vs.toArray n }
noncomputable abbrev lstO (vs : List Value) (n : Nat) : Obj := { cls := .type "list", data := .seq vs.toArray n }
noncomputable abbrev rngO (n : Int) (t u x : Tok) : Obj := { cls := .type "range", dict := none, data := .fields #[.int 0 t, .int n u, .int 1 x], slots := #[] }

section
variable (prog : Program) (w : World) (d : Addr)

noncomputable abbrev iKind := intKind prog w
noncomputable abbrev tKind := tupleKind (intKind prog w)

inductive DAt {K : Type} [DecidableEq K] (knd : KeyKind prog w K) (D : Fz) (ks : List K) (vals : List Value) (a : Addr) : Prop
  | mk (o : Obj) (es : Array DictEntry) (ep : Nat) (at_ : D a = some o) (ex : o.ExactDict) (da : o.data = .dict es ep) (ky : KeysOf knd es) (pr : Pairs knd es.toList (ks.zip vals)) (nd : ks.Nodup) (ln : ks.length = vals.length) (ot : (a == sysModules) = false) : DAt knd D ks vals a
abbrev DSAt (D : Fz) (ks : List Str) (vals : List Value) (a : Addr) : Prop := DAt prog w (strKind prog w) D ks vals a
abbrev DIAt (D : Fz) (ks : List Int) (vals : List Value) (a : Addr) : Prop := DAt prog w (intKind prog w) D ks vals a
inductive DTAt (D : Fz) (ks : List (List Int)) (a : Addr) : Prop
  | mk (o : Obj) (es : Array DictEntry) (ep : Nat) (xs : List (List Int × Addr × Value)) (at_ : D a = some o) (ex : o.ExactDict) (da : o.data = .dict es ep) (en : es.toList = xs.map (entryOfKey (tKind prog w))) (fs : xs.map (·.1) = ks) (nd : ks.Nodup)
    (it : ∀ x ∈ xs, ∃ vs n, D x.2.1 = some (tupO vs n) ∧ IntsAre vs x.1) (ot : (a == sysModules) = false) : DTAt D ks a
inductive InstOf (D : Fz) (mv iv : Value) (a : Addr) : Prop
  | mk (dx : Addr) (q1 q2 : Int) (t1 t2 : Tok) (n : Nat) (at_ : D a = some (instObj 164 dx)) (dt : D dx = some (dictOf [⟨q1, .str "many" t1, mv⟩, ⟨q2, .str "instance" t2, iv⟩] n)) : InstOf D mv iv a

mutual
noncomputable def VR (D : Fz) : PV → Value → Prop
  | .none, v => v = .none
  | .bool b, v => v = .bool b
  | .int i, v => ∃ t, v = .int i t
  | .str x, v => ∃ t, v = .str x t
  | .tup l, v => ∃ a vs n, v = .ref a ∧ D a = some (tupO vs n) ∧ VRs D l vs
  | .list l, v => ∃ a vs n, v = .ref a ∧ D a = some (lstO vs n) ∧ VRs D l vs
  | .range n, v => ∃ a t u x, v = .ref a ∧ D a = some (rngO n t u x)
  | .dS ks vs, v => ∃ a vals, v = .ref a ∧ DSAt prog w D ks vals a ∧ VRs D vs vals
  | .dI ks vs, v => ∃ a vals, v = .ref a ∧ DIAt prog w D ks vals a ∧ VRs D vs vals
  | .dT ks, v => ∃ a, v = .ref a ∧ DTAt prog w D ks a
  | .inst m i, v => ∃ a mv iv, v = .ref a ∧ InstOf D mv iv a ∧ VR D m mv ∧ VR D i iv
  | .tape, v => v = .ref d
noncomputable def VRs (D : Fz) : List PV → List Value → Prop
  | [], vs => vs = []
  | p :: ps, vs => ∃ v r, vs = v :: r ∧ VR D p v ∧ VRs D ps r
end
end

section
variable {prog : Program} {w : World} {d : Addr} {D D' : Fz}

theorem VR.bool_i {b : Bool} {v : Value} (x : VR prog w d D (.bool b) v) : v = .bool b := x
theorem VR.int_i {i : Int} {v : Value} (x : VR prog w d D (.int i) v) : ∃ t, v = .int i t := x
theorem VR.str_i {x : Str} {v : Value} (y : VR prog w d D (.str x) v) : ∃ t, v = .str x t := y
theorem VR.int_mk {i : Int} {t : Tok} : VR prog w d D (.int i) (.int i t) := ⟨t, rfl⟩
theorem VR.str_mk {x : Str} {t : Tok} : VR prog w d D (.str x) (.str x t) := ⟨t, rfl⟩
theorem VR.tup_i {l : List PV} {v : Value} (x : VR prog w d D (.tup l) v) : ∃ a vs n, v = .ref a ∧ D a = some (tupO vs n) ∧ VRs prog w d D l vs := x
theorem VR.list_i {l : List PV} {v : Value} (x : VR prog w d D (.list l) v) : ∃ a vs n, v = .ref a ∧ D a = some (lstO vs n) ∧ VRs prog w d D l vs := x
theorem VR.range_i {n : Int} {v : Value} (x : VR prog w d D (.range n) v) : ∃ a t u x, v = .ref a ∧ D a = some (rngO n t u x) := x
theorem VR.dS_i {ks : List Str} {vs : List PV} {v : Value} (x : VR prog w d D (.dS ks vs) v) : ∃ a vals, v = .ref a ∧ DSAt prog w D ks vals a ∧ VRs prog w d D vs vals := x
theorem VR.dI_i {ks : List Int} {vs : List PV} {v : Value} (x : VR prog w d D (.dI ks vs) v) : ∃ a vals, v = .ref a ∧ DIAt prog w D ks vals a ∧ VRs prog w d D vs vals := x
theorem VR.dT_i {ks : List (List Int)} {v : Value} (x : VR prog w d D (.dT ks) v) : ∃ a, v = .ref a ∧ DTAt prog w D ks a := x
theorem VR.inst_i {m i : PV} {v : Value} (x : VR prog w d D (.inst m i) v) : ∃ a mv iv, v = .ref a ∧ InstOf D mv iv a ∧ VR prog w d D m mv ∧ VR prog w d D i iv := x
theorem VR.tape_i {v : Value} (x : VR prog w d D .tape v) : v = .ref d := x
theorem VRs.nil_i {vs : List Value} (x : VRs prog w d D [] vs) : vs = [] := x
theorem VRs.cons_i {p : PV} {ps : List PV} {vs : List Value} (x : VRs prog w d D (p :: ps) vs) : ∃ v r, vs = v :: r ∧ VR prog w d D p v ∧ VRs prog w d D ps r := x
theorem VRs.one_i {p : PV} {vs : List Value} (x : VRs prog w d D [p] vs) : ∃ v, vs = [v] ∧ VR prog w d D p v := let ⟨v, r, e, y, z⟩ := x.cons_i; ⟨v, z.nil_i ▸ e, y⟩
theorem VRs.two_i {p q : PV} {vs : List Value} (x : VRs prog w d D [p, q] vs) : ∃ v u, vs = [v, u] ∧ VR prog w d D p v ∧ VR prog w d D q u := let ⟨v, r, e, y, z⟩ := x.cons_i; let ⟨u, e2, z2⟩ := z.one_i; ⟨v, u, e2 ▸ e, y, z2⟩

theorem DAt.mono {K : Type} [DecidableEq K] {knd : KeyKind prog w K} {ks vals a} (x : DAt prog w knd D ks vals a) (h : D.le D') : DAt prog w knd D' ks vals a := by
  cases x with | mk o es ep e ex da ky pr nd ln ot => exact ⟨o, es, ep, h _ _ e, ex, da, ky, pr, nd, ln, ot⟩
theorem DTAt.mono {ks a} (x : DTAt prog w D ks a) (h : D.le D') : DTAt prog w D' ks a := by
  cases x with | mk o es ep xs e r1 r2 r3 r4 r5 r6 r7 => exact ⟨o, es, ep, xs, h _ _ e, r1, r2, r3, r4, r5, fun y hy => (r6 y hy).imp fun vs q => q.imp fun n q => ⟨h _ _ q.1, q.2⟩, r7⟩
theorem InstOf.mono {mv iv a} (x : InstOf D mv iv a) (h : D.le D') : InstOf D' mv iv a := by
  cases x with | mk dx q1 q2 t1 t2 n e e2 => exact ⟨dx, q1, q2, t1, t2, n, h _ _ e, h _ _ e2⟩

mutual
theorem VR.mono (h : D.le D') : ∀ {p : PV} {v : Value}, VR prog w d D p v → VR prog w d D' p v
  | .none, _, x => x
  | .bool _, _, x => x
  | .int _, _, x => x
  | .str _, _, x => x
  | .tup _, _, x => let ⟨a, vs, n, e, e2, r⟩ := x.tup_i; ⟨a, vs, n, e, h _ _ e2, VRs.mono h r⟩
  | .list _, _, x => let ⟨a, vs, n, e, e2, r⟩ := x.list_i; ⟨a, vs, n, e, h _ _ e2, VRs.mono h r⟩
  | .range _, _, x => let ⟨a, t, u, y, e, e2⟩ := x.range_i; ⟨a, t, u, y, e, h _ _ e2⟩
  | .dS _ _, _, x => let ⟨a, vals, e, e2, r⟩ := x.dS_i; ⟨a, vals, e, e2.mono h, VRs.mono h r⟩
  | .dI _ _, _, x => let ⟨a, vals, e, e2, r⟩ := x.dI_i; ⟨a, vals, e, e2.mono h, VRs.mono h r⟩
  | .dT _, _, x => let ⟨a, e, e2⟩ := x.dT_i; ⟨a, e, e2.mono h⟩
  | .inst _ _, _, x => let ⟨a, mv, iv, e, e2, r1, r2⟩ := x.inst_i; ⟨a, mv, iv, e, e2.mono h, VR.mono h r1, VR.mono h r2⟩
  | .tape, _, x => x
theorem VRs.mono (h : D.le D') : ∀ {l : List PV} {vs : List Value}, VRs prog w d D l vs → VRs prog w d D' l vs
  | [], _, x => x
  | _ :: _, _, x => let ⟨v, r, e, y, z⟩ := x.cons_i; ⟨v, r, e, VR.mono h y, VRs.mono h z⟩
end

theorem VRs.nil : VRs prog w d D [] [] := rfl
theorem VRs.cons {p v ps vs} (x : VR prog w d D p v) (y : VRs prog w d D ps vs) : VRs prog w d D (p :: ps) (v :: vs) := ⟨_, _, rfl, x, y⟩
theorem VRs.cons_inv {p v ps vs} (x : VRs prog w d D (p :: ps) (v :: vs)) : VR prog w d D p v ∧ VRs prog w d D ps vs := by
  obtain ⟨_, _, e, y, z⟩ := x.cons_i; cases e; exact ⟨y, z⟩
/-- along the list -/
theorem VRs.ind {P : List PV → List Value → Prop} (h0 : P [] []) (h1 : ∀ p v l vs, VR prog w d D p v → VRs prog w d D l vs → P l vs → P (p :: l) (v :: vs)) (l : List PV) : ∀ {vs : List Value}, VRs prog w d D l vs → P l vs := by
  induction l with
  | nil => exact fun x => x.nil_i ▸ h0
  | cons p l ih => exact fun x => let ⟨v, r, e, y, z⟩ := x.cons_i; e ▸ h1 p v l r y z (ih z)
theorem VRs.length {l : List PV} {vs : List Value} (x : VRs prog w d D l vs) : vs.length = l.length := VRs.ind (P := fun l vs => vs.length = l.length) rfl (fun _ _ _ _ _ _ ih => congrArg (· + 1) ih) l x
theorem VRs.append {l l' : List PV} {vs vs' : List Value} (x : VRs prog w d D l vs) (y : VRs prog w d D l' vs') : VRs prog w d D (l ++ l') (vs ++ vs') := VRs.ind (P := fun l vs => VRs prog w d D (l ++ l') (vs ++ vs')) y (fun _ _ _ _ x _ ih => VRs.cons x ih) l x
theorem VRs.get {l : List PV} {vs : List Value} {i : Nat} {p : PV} (x : VRs prog w d D l vs) : l[i]? = some p → ∃ v, vs[i]? = some v ∧ VR prog w d D p v :=
  VRs.ind (P := fun l vs => ∀ i, l[i]? = some p → ∃ v, vs[i]? = some v ∧ VR prog w d D p v) (fun i h => by simp at h) (fun q v l vs x _ ih i h => by
    cases i with
    | zero => exact ⟨v, rfl, Option.some.inj h ▸ x⟩
    | succ i => exact ih i h) l x i
theorem VRs.drop {l : List PV} {vs : List Value} (n : Nat) (x : VRs prog w d D l vs) : VRs prog w d D (l.drop n) (vs.drop n) := VRs.ind (P := fun l vs => ∀ n, VRs prog w d D (l.drop n) (vs.drop n)) (fun n => by rw [List.drop_nil, List.drop_nil]; exact VRs.nil) (fun p v l vs x y ih n => by
    cases n with
    | zero => exact VRs.cons x y
    | succ n => exact ih n) l x n
theorem VRs.take {l : List PV} {vs : List Value} (n : Nat) (x : VRs prog w d D l vs) : VRs prog w d D (l.take n) (vs.take n) := VRs.ind (P := fun l vs => ∀ n, VRs prog w d D (l.take n) (vs.take n)) (fun n => by rw [List.take_nil, List.take_nil]; exact VRs.nil) (fun p v l vs x y ih n => by
    cases n with
    | zero => exact VRs.nil
    | succ n => exact VRs.cons x (ih n)) l x n

theorem ints_e {p : PV} {r : List PV} {ns : List Int} (h : ints? (p :: r) = some ns) : ∃ i r', p = .int i ∧ ints? r = some r' ∧ ns = i :: r' := by
  cases p with
  | int i => exact let ⟨r', h, e⟩ := Option.map_eq_some_iff.mp h; ⟨i, r', rfl, h, e.symm⟩
  | _ => exact no h
theorem VRs.ints {l : List PV} {vs : List Value} {ns : List Int} (x : VRs prog w d D l vs) (h : ints? l = some ns) : IntsAre vs ns :=
  VRs.ind (P := fun l vs => ∀ ns, ints? l = some ns → IntsAre vs ns) (fun ns h => Option.some.inj h ▸ .nil) (fun p v l vs y _ ih ns h => by
    refine Classical.byContradiction fun hG => ?_
    obtain ⟨i, r', rfl, h', rfl⟩ := ints_e h
    obtain ⟨t, rfl⟩ := y.int_i
    refine hG ?_
    exact .cons _ _ (ih r' h')) l x ns h
theorem VRs.of_ints {D : Fz} : ∀ {vs : List Value} {ns : List Int}, IntsAre vs ns → VRs prog w d D (ns.map .int) vs
  | _, _, .nil => VRs.nil
  | _, _, .cons _ _ h => VRs.cons VR.int_mk (VRs.of_ints h)
theorem IntsAre.items : ∀ {vs : List Value} {ns : List Int}, IntsAre vs ns → ItemsAre (intKind prog w) ns vs
  | _, _, .nil => .nil
  | _, _, .cons _ _ h => .cons (by simp [intKind, Value.isInt]) (IntsAre.items h)
end
end Mine

namespace Mine
section
variable (prog : Program) (w : World) (d : Addr) (cells : List Int) (H : Heap)

noncomputable def TapeAt (D : Fz) (h : Heap) (σ : Nat) : Prop :=
  ∃ cl t, h.DictOf (strKind prog w) d [(("cells" : Str), cl), (("spot" : Str), .int σ t)] ∧ VR prog w d D (.list (cells.map .int)) cl

structure Gd (D : Fz) (σ : Nat) (h : Heap) : Prop where
  base : ∀ b o, H.get? b = some o → h.get? b = some o
  on : D.on h
  tape : TapeAt prog w d cells D h σ
  dH : H.objs.size ≤ d
  dn : D d = none
  big : sysModules < d

structure Ok (D : Fz) (σ : Nat) (h : Heap) (D' : Fz) (σ' : Nat) (h' : Heap) : Prop where
  pres : ∀ b o, b ≠ d → h.get? b = some o → h'.get? b = some o
  le : D.le D'
  new : ∀ a o, h.get? a = some o → D' a = D a
  on : D'.on h'
  tape : TapeAt prog w d cells D' h' σ'

noncomputable def VarIs (env : Env) (h : Heap) (x : Str) (v : Value) : Prop :=
  (env.kindOf x = some .local ∧ ∃ m, h.Ns env.locals m ∧ m x = some v) ∨
  ((env.kindOf x = some .cell ∨ env.kindOf x = some .free) ∧ ∃ c, env.cells.lookup x = some c ∧ h.IsCell c (some v))

structure EnvOk (nm : NM) (env : Env) : Prop where
  kind : env.scope.kind = .function
  glob : env.globals = mainGlobals
  blt : env.builtins = builtinsNs
  kg : ∀ x, nm.lookup x = some .globalImplicit → env.kindOf x = some .globalImplicit
  kl : ∀ x, nm.lookup x = some .local → env.kindOf x = some .local
  kc : ∀ x, nm.lookup x = some .cell → env.kindOf x = some .cell
  kf : ∀ x, nm.lookup x = some .free → env.kindOf x = some .cell ∨ env.kindOf x = some .free
  cel : ∀ x, nm.lookup x = some .cell ∨ nm.lookup x = some .free → ∃ c, env.cells.lookup x = some c

structure RSt (env : Env) (ρ : Rho) (σ : Nat) (D : Fz) (h : Heap) : Prop extends Gd prog w d cells H D σ h where
  Ld : env.locals ≠ d
  cd : ∀ x c, env.cells.lookup x = some c → c ≠ d
  cl : ∀ x c, env.cells.lookup x = some c → ∃ o, h.get? c = some o
  vars : ∀ x p, ρ x = some (.val p) → ∃ v, VarIs env h x v ∧ VR prog w d D p v
end

section
variable {prog : Program} {w : World} {d : Addr} {cells : List Int} {H : Heap} {D D' D'' : Fz} {σ σ' σ'' : Nat} {h h' h'' : Heap} {env : Env} {ρ : Rho}

theorem TapeAt.lt (x : TapeAt prog w d cells D h σ) : d < h.objs.size := let ⟨_, _, ⟨_, _, _, e, _⟩, _⟩ := x; Heap.lt_size e
theorem TapeAt.keeps (x : TapeAt prog w d cells D h σ) (e : ∀ o, h.get? d = some o → h'.get? d = some o) (le : D.le D') : TapeAt prog w d cells D' h' σ :=
  let ⟨cl, t, ⟨o, es, ep, ho, r⟩, v⟩ := x; ⟨cl, t, ⟨o, es, ep, e _ ho, r⟩, v.mono le⟩

theorem TapeAt.some (x : TapeAt prog w d cells D h σ) : ∃ o, h.get? d = some o := let ⟨_, _, ⟨o, _, _, e, _⟩, _⟩ := x; ⟨o, e⟩
theorem Ok.refl (g : Gd prog w d cells H D σ h) : Ok prog w d cells D σ h D σ h := ⟨fun _ _ _ e => e, Fz.le.refl D, fun _ _ _ => rfl, g.on, g.tape⟩
theorem Ok.live (x : Ok prog w d cells D σ h D' σ' h') {a : Addr} {o : Obj} (e : h.get? a = some o) : ∃ o', h'.get? a = some o' := by
  by_cases ha : a = d
  · subst ha; exact x.tape.some
  · exact ⟨o, x.pres a o ha e⟩
theorem Ok.trans (x : Ok prog w d cells D σ h D' σ' h') (y : Ok prog w d cells D' σ' h' D'' σ'' h'') : Ok prog w d cells D σ h D'' σ'' h'' :=
  ⟨fun b o n e => y.pres b o n (x.pres b o n e), x.le.trans y.le, fun a o l => by obtain ⟨o', e⟩ := x.live l; exact (y.new a o' e).trans (x.new a o l), y.on, y.tape⟩

theorem Gd.step (g : Gd prog w d cells H D σ h) (x : Ok prog w d cells D σ h D' σ' h') : Gd prog w d cells H D' σ' h' :=
  ⟨fun b o e => x.pres b o (Nat.ne_of_lt (Nat.lt_of_lt_of_le (Heap.lt_size e) g.dH)) (g.base b o e), x.on, x.tape, g.dH, by obtain ⟨o, e⟩ := g.tape.some; exact (x.new d o e).trans g.dn, g.big⟩

theorem VarIs.step {x : Str} {v : Value} (a : VarIs env h x v) (pres : ∀ b o, b ≠ d → h.get? b = some o → h'.get? b = some o) (Ld : env.locals ≠ d) (cd : ∀ x c, env.cells.lookup x = some c → c ≠ d) : VarIs env h' x v := by
  rcases a with ⟨k, m, n, e⟩ | ⟨k, c, l, n⟩
  · exact .inl ⟨k, m, n.at' fun o e => pres _ o Ld e, e⟩
  · refine .inr ⟨k, c, l, ?_⟩
    refine Classical.byContradiction fun hG => ?_
    obtain ⟨o, ho, hd⟩ := n
    refine hG ?_
    exact ⟨o, pres _ o (cd x c l) ho, hd⟩

theorem RSt.step (g : RSt prog w d cells H env ρ σ D h) (x : Ok prog w d cells D σ h D' σ' h') : RSt prog w d cells H env ρ σ' D' h' :=
  ⟨g.toGd.step x, g.Ld, g.cd, fun y c e => let ⟨_, q⟩ := g.cl y c e; x.live q, fun y p e => let ⟨v, a, b⟩ := g.vars y p e; ⟨v, a.step x.pres g.Ld g.cd, b.mono x.le⟩⟩

theorem Gd.other (g : Gd prog w d cells H D σ h) {a : Addr} (ha : h.objs.size ≤ a) : (a == sysModules) = false := by
  rw [beq_eq_false_iff_ne]; exact fun e => absurd (Nat.lt_of_lt_of_le (Nat.lt_trans g.big g.tape.lt) ha) (by rw [e]; exact Nat.lt_irrefl _)
theorem Gd.free (g : Gd prog w d cells H D σ h) {a : Addr} (ha : h.get? a = none) : D a = none := by
  cases e : D a with
  | none => rfl
  | some o' => have := g.on _ _ e; rw [ha] at this; cases this
theorem get?_ge {h : Heap} {a : Addr} (ha : h.objs.size ≤ a) : h.get? a = none := by
  cases e : h.get? a with
  | none => rfl
  | some o' => exact absurd (Heap.lt_size e) (Nat.not_lt.mpr ha)

/-- a heap that only grew -/
theorem Ok.grow (g : Gd prog w d cells H D σ h) (pres : ∀ b o, h.get? b = some o → h'.get? b = some o) (le : D.le D') (new : ∀ a o, h.get? a = some o → D' a = D a) (on : D'.on h') : Ok prog w d cells D σ h D' σ h' :=
  ⟨fun b o _ e => pres b o e, le, new, on, g.tape.keeps (fun o e => pres _ o e) le⟩
theorem Ok.grown (g : Gd prog w d cells H D σ h) (pres : ∀ b o, h.get? b = some o → h'.get? b = some o) : Ok prog w d cells D σ h D σ h' :=
  Ok.grow g pres (Fz.le.refl D) (fun _ _ _ => rfl) fun a o e => pres a o (g.on a o e)
/-- one new object that is data -/
theorem Ok.add {a : Addr} {o : Obj} (g : Gd prog w d cells H D σ h) (pres : ∀ b o, h.get? b = some o → h'.get? b = some o) (ha : h.get? a = none) (ho : h'.get? a = some o) : Ok prog w d cells D σ h (D.put a o) σ h' := by
  refine Ok.grow g pres (Fz.put_le (g.free ha)) (fun b x l => ?_) fun b x e => ?_
  · unfold Fz.put; rw [if_neg (by rintro rfl; rw [ha] at l; cases l)]
  · unfold Fz.put at e
    split at e
    · subst_vars; cases e; exact ho
    · exact pres b x (g.on b x e)
theorem Ok.pushO {o : Obj} (g : Gd prog w d cells H D σ h) (hf : o.isFreed = false) : Ok prog w d cells D σ h (D.put h.objs.size o) σ (h.push o) :=
  Ok.add g (fun _ _ e => Heap.get?_push_of_some _ e) (get?_ge (Nat.le_refl _)) (Heap.get?_push_size _ hf)

end
end Mine

/- part Ops1 -/
namespace Mine

noncomputable def Ends (prog : Program) (w : World) (d : Addr) (cells : List Int) (p : PV) (σ' : Nat) (D : Fz) (σ : Nat) (s : Shared) (Q : Value → Shared → Prop) : Prop :=
  ∀ v D' h' tk, Ok prog w d cells D σ s.heap D' σ' h' → VR prog w d D' p v → Q v { s with heap := h', toks := tk }

structure Room (m : Nat) (A : Around) : Prop where
  depth : A.depth + m < recursionLimit
  units : A.units + 3 * m + 60 < cLine
  hand : A.handled = none

theorem Room.u20 {m : Nat} {A : Around} (r : Room m A) : A.units + 20 < cLine := Nat.lt_of_le_of_lt (by (simp [Nat.add_assoc])) r.units
theorem Room.mono {m n : Nat} {A : Around} (r : Room m A) (h : n ≤ m) : Room n A := ⟨by have := r.depth; exact Nat.lt_of_le_of_lt (Nat.add_le_add_left h _) this, by have := r.units; exact Nat.lt_of_le_of_lt (Nat.add_le_add_right (Nat.add_le_add_left (Nat.mul_le_mul_left 3 h) _) 60) this, r.hand⟩
theorem Room.u {m : Nat} {A : Around} (r : Room m A) : A.units < cLine := by have := r.units; exact Nat.lt_of_le_of_lt (Nat.le_trans (Nat.le_add_right _ _) (Nat.le_add_right _ _)) this
theorem Room.u1 {m : Nat} {A : Around} (r : Room m A) : A.in1.units < cLine := by have := r.units; simp only [Around.in1_units]; exact q_u1 this

section
variable {prog : Program} {w : World} {d : Addr} {cells : List Int} {H : Heap} {D : Fz} {σ : Nat} {s : Shared} {A : Around} {E : Value → Shared → Prop} {Q : Value → Shared → Prop}

theorem Ends.same {p : PV} {v : Value} (e : Ends prog w d cells p σ D σ s Q) (g : Gd prog w d cells H D σ s.heap) (x : VR prog w d D p v) (tk : Nat) : Q v { s with toks := tk } :=
  e v D s.heap tk (Ok.refl g) x
theorem Ends.int {i : Int} {t : Tok} (e : Ends prog w d cells (.int i) σ D σ s Q) (g : Gd prog w d cells H D σ s.heap) (tk : Nat) : Q (.int i t) { s with toks := tk } :=
  e.same g (by exact ⟨t, rfl⟩) tk
theorem Ends.bool {b : Bool} (e : Ends prog w d cells (.bool b) σ D σ s Q) (g : Gd prog w d cells H D σ s.heap) (tk : Nat) : Q (.bool b) { s with toks := tk } :=
  e.same g rfl tk
/-- a new object at the heap's end -/
theorem Ends.pushed {p : PV} {o : Obj} (e : Ends prog w d cells p σ D σ s Q) (g : Gd prog w d cells H D σ s.heap) (hf : o.isFreed = false)
    (x : VR prog w d (D.put s.heap.objs.size o) p (.ref s.heap.objs.size)) (tk : Nat) : Q (.ref s.heap.objs.size) { s with heap := s.heap.push o, toks := tk } :=
  e _ _ _ tk (Ok.pushO g hf) x

theorem VR.tup_mk {D : Fz} {l : List PV} {vs : List Value} {a n} (h : D a = some (tupO vs n)) (x : VRs prog w d D l vs) : VR prog w d D (.tup l) (.ref a) := by
  exact ⟨a, vs, n, rfl, h, x⟩
theorem VR.list_mk {D : Fz} {l : List PV} {vs : List Value} {a n} (h : D a = some (lstO vs n)) (x : VRs prog w d D l vs) : VR prog w d D (.list l) (.ref a) := by
  exact ⟨a, vs, n, rfl, h, x⟩
theorem Ends.newTup {l : List PV} {vs : List Value} (e : Ends prog w d cells (.tup l) σ D σ s Q) (g : Gd prog w d cells H D σ s.heap) (x : VRs prog w d D l vs) (tk : Nat) :
    Q (.ref s.heap.objs.size) { s with heap := s.heap.push (tupO vs 0), toks := tk } :=
  e.pushed g rfl (VR.tup_mk Fz.put_at (x.mono (Fz.put_le (g.free (get?_ge (Nat.le_refl _)))))) tk
theorem Ends.newLst {l : List PV} {vs : List Value} (e : Ends prog w d cells (.list l) σ D σ s Q) (g : Gd prog w d cells H D σ s.heap) (x : VRs prog w d D l vs) (tk : Nat) :
    Q (.ref s.heap.objs.size) { s with heap := s.heap.push (lstO vs 0), toks := tk } :=
  e.pushed g rfl (VR.list_mk Fz.put_at (x.mono (Fz.put_le (g.free (get?_ge (Nat.le_refl _)))))) tk

theorem small_le {n : Nat} (h : small n = true) : n ≤ sizeLine := by unfold small at h; rw [decide_eq_true_eq] at h; rw [sizeLine_eq]; (with_reducible exact q_le ‹_› (by decide))

theorem add_tups {t b : Addr} {vs ws : List Value} {n n2 : Nat} (ho : s.heap.get? t = some (tupO vs n)) (ho2 : s.heap.get? b = some (tupO ws n2))
    (h0 : vs = [] → Q (.ref b) s) (h1 : vs ≠ [] → ws = [] → Q (.ref t) s)
    (h2 : Q (.ref s.heap.objs.size) { s with heap := s.heap.push (tupO (vs ++ ws) 0) }) (hsz : vs.length + ws.length ≤ sizeLine) :
    wpAny (model prog w) A (binaryOp .Add (.ref t) (.ref b)) Q E s := by
  have e : vs.toArray ++ ws.toArray = (vs ++ ws).toArray := by simp
  by_cases hv : vs = []
  · exact concat_meets ⟨_, ho, rfl⟩ ⟨_, ho2, rfl⟩ noFill_tuple_add seq_tuple_add PySem.F.slot_tuple_add PySem.F.entry_tuple_add (PySem.F.args_tuple_add_2 _ _)
      (tuple_addW0 t b vs.toArray ws.toArray n n2 _ _ _ _ (by simp [hv])) ⟨ho, ho2, h0 hv⟩
  · by_cases hw : ws = []
    · exact concat_meets ⟨_, ho, rfl⟩ ⟨_, ho2, rfl⟩ noFill_tuple_add seq_tuple_add PySem.F.slot_tuple_add PySem.F.entry_tuple_add (PySem.F.args_tuple_add_2 _ _)
        (tuple_addW1 t b vs.toArray ws.toArray n n2 _ _ _ _ (by simpa using hv) (by simp [hw])) ⟨ho, ho2, h1 hv hw⟩
    · refine concat_meets ⟨_, ho, rfl⟩ ⟨_, ho2, rfl⟩ noFill_tuple_add seq_tuple_add PySem.F.slot_tuple_add PySem.F.entry_tuple_add (PySem.F.args_tuple_add_2 _ _)
        (tuple_addW2 t b vs.toArray ws.toArray n n2 _ _ _ _ (by simpa using hv) (by simpa using hw) (by rw [List.size_toArray, List.size_toArray]; exact hsz)) ⟨ho, ho2, ?_⟩
      rw [e]; exact h2

theorem VRs.nil_iff {D : Fz} {l : List PV} {vs : List Value} (x : VRs prog w d D l vs) : vs = [] ↔ l = [] := by
  have := x.length
  constructor
  · rintro rfl; exact List.length_eq_zero_iff.mp (by simpa using this.symm)
  · rintro rfl; exact List.length_eq_zero_iff.mp (by simpa using this)

theorem bin_int {op : Operator} {a b c : Int} {t t2 : Tok} (h : binI op a b = some c) (g : Gd prog w d cells H D σ s.heap) (e : Ends prog w d cells (.int c) σ D σ s Q) : wpAny (model prog w) A (binaryOp op (.int a t) (.int b t2)) Q E s := by
  unfold binI at h
  split at h
  · cases h; exact add_int (e.int g _)
  · cases h; exact sub_int (e.int g _)
  · split at h
    · rename_i hb; cases h
      refine mul_int (e.int g _) (IntMulOk.of_left (intBits_le_64 ?_ ?_)) <;> (unfold big at hb; first | exact q_ab1 hb | exact q_ab2' hb)
    · cases h
  · split at h
    · cases h
    · rename_i hb; cases h; exact PyProof.Rows.mod_int hb (e.int g _)
  · split at h
    · rename_i hb; cases h
      refine PyProof.Rows.floordiv_int hb.1 (e.int g _) (.inl (PyProof.noPylong_of_log2 ?_))
      have hb2 := hb.2.2
      unfold big at hb2
      by_cases h0 : b.natAbs = 0
      · rw [h0]; decide +kernel
      · have h63 : b.natAbs.log2 < 63 := (Nat.log2_lt h0).mpr (by (with_reducible assumption))
        (with_reducible exact q_lt' ‹_ < _› (by decide))
    · cases h
  · split at h
    · rename_i hb; cases h
      exact pow_int_small hb.1 (by exact Int.le_trans hb.2.1 (by decide)) (by have := hb.2.2; unfold big at this; (with_reducible exact q_lt' ‹_ < _› (by decide))) (e.int g _)
    · cases h
  · split at h
    · rename_i hb; cases h
      exact lshift_int_small hb.1 (by exact Int.le_trans hb.2.1 (by decide)) (by have := hb.2.2; unfold big at this; (with_reducible exact q_lt' ‹_ < _› (by decide))) (e.int g _)
    · cases h
  · split at h
    · rename_i hb; cases h; exact rshift_int hb (e.int g _)
    · cases h
  · cases h; exact and_int (e.int g _)
  · cases h; exact or_int (e.int g _)
  · cases h

theorem add_e {op : Operator} {r : PV} {f : List PV → PV} {l m : List PV} (h : addL op f l m = some r) : op = .Add ∧ small (l.length + m.length) = true ∧ r = f (l ++ m) := by
  cases op with
  | Add =>
    by_cases c : small (l.length + m.length) = true
    · exact ⟨rfl, c, (Option.some.inj ((if_pos c).symm.trans h)).symm⟩
    · exact no ((if_neg c).symm.trans h)
  | _ => exact no h
theorem bin_e {op : Operator} {p q r : PV} (h : binOp op p q = some r) : (∃ a b c, p = .int a ∧ q = .int b ∧ binI op a b = some c ∧ r = .int c) ∨ (∃ l m, op = .Add ∧ small (l.length + m.length) = true ∧ ((p = .tup l ∧ q = .tup m ∧ r = .tup (l ++ m)) ∨ (p = .list l ∧ q = .list m ∧ r = .list (l ++ m)))) := by
  cases p with
  | int a =>
    cases q with
    | int b => exact .inl (let ⟨c, h, e⟩ := Option.map_eq_some_iff.mp h; ⟨a, b, c, rfl, rfl, h, e.symm⟩)
    | _ => exact no h
  | tup l =>
    cases q with
    | tup m => exact .inr (let ⟨h1, h2, h3⟩ := add_e h; ⟨l, m, h1, h2, .inl ⟨rfl, rfl, h3⟩⟩)
    | _ => exact no h
  | list l =>
    cases q with
    | list m => exact .inr (let ⟨h1, h2, h3⟩ := add_e h; ⟨l, m, h1, h2, .inr ⟨rfl, rfl, h3⟩⟩)
    | _ => exact no h
  | _ => exact no h

theorem bin_ok {op : Operator} {p q r : PV} {u v : Value} (h : binOp op p q = some r) (g : Gd prog w d cells H D σ s.heap) (x : VR prog w d D p u) (y : VR prog w d D q v)
    (e : Ends prog w d cells r σ D σ s Q) : wpAny (model prog w) A (binaryOp op u v) Q E s := by
  rcases bin_e h with ⟨a, b, c, rfl, rfl, h', rfl⟩ | ⟨l, m, rfl, hs, ⟨rfl, rfl, rfl⟩ | ⟨rfl, rfl, rfl⟩⟩
  · obtain ⟨t, rfl⟩ := x.int_i
    obtain ⟨t2, rfl⟩ := y.int_i
    exact bin_int h' g e
  · obtain ⟨a, vs, n, rfl, ha, x⟩ := x.tup_i
    refine Classical.byContradiction fun hG => ?_
    obtain ⟨b, ws, n2, rfl, hb, y⟩ := y.tup_i
    refine hG ?_
    refine add_tups (g.on _ _ ha) (g.on _ _ hb) (fun e0 => ?_) (fun _ e0 => ?_) ?_ ?_
    · refine e.same g ?_ _
      rw [x.nil_iff.mp e0, List.nil_append]; exact VR.tup_mk hb y
    · refine e.same g ?_ _
      rw [y.nil_iff.mp e0, List.append_nil]; exact VR.tup_mk ha x
    · exact e.newTup g (x.append y) _
    · rw [x.length, y.length]; exact small_le hs
  · obtain ⟨a, vs, n, rfl, ha, x⟩ := x.list_i
    refine Classical.byContradiction fun hG => ?_
    obtain ⟨b, ws, n2, rfl, hb, y⟩ := y.list_i
    refine hG ?_
    refine P.add_list (g.on _ _ ha) (g.on _ _ hb) ?_ ?_
    · have e' : vs.toArray ++ ws.toArray = (vs ++ ws).toArray := by simp
      rw [e']; exact e.newLst g (x.append y) _
    · rw [List.size_toArray, List.size_toArray, x.length, y.length]; exact small_le hs
end
end Mine

/- part Ops2 -/
set_option tactic.hygienic true
namespace Mine
open PySem.SeqAt

section
variable {prog : Program} {w : World} {d : Addr} {cells : List Int} {H : Heap} {D : Fz} {σ : Nat} {s : Shared} {A : Around} {E : Value → Shared → Prop} {Q : Value → Shared → Prop}

theorem VRs.peq_self (f : PV → PV → Option Bool) {v : List Value} : ∀ {l r : List PV} {b : Bool}, VRs prog w d D l v → VRs prog w d D r v → (∀ p q b u, p ∈ l → VR prog w d D p u → VR prog w d D q u → f p q = some b → b = true) →
    peqs f l r = some b → b = true := by
  induction v with
  | nil =>
    intro l r b x y _ h
    have e1 := x.length; have e2 := y.length
    have : l = [] := List.length_eq_zero_iff.mp e1.symm
    have : r = [] := List.length_eq_zero_iff.mp e2.symm
    subst_vars; simpa [peqs] using h.symm
  | cons u v ih =>
    intro l r b x y hf h
    cases l with
    | nil => have := x.length; simp at this
    | cons p l =>
      cases r with
      | nil => have := y.length; simp at this
      | cons q r =>
        refine Classical.byContradiction fun hG => ?_
        obtain ⟨x1, x2⟩ := x.cons_inv
        obtain ⟨y1, y2⟩ := y.cons_inv
        refine hG ?_
        simp only [peqs] at h
        split at h
        · rename_i b1 b2 h1 h2
          cases h
          rw [hf p q b1 u List.mem_cons_self x1 y1 h1, ih x2 y2 (fun p q b u hp => hf p q b u (List.mem_cons_of_mem _ hp)) h2]; rfl
        · cases h

/-- where == is answered -/
inductive PeqC (n : Nat) : PV → PV → Bool → Prop
  | int (a b : Int) : PeqC n (.int a) (.int b) (a == b)
  | str (a b : Str) : PeqC n (.str a) (.str b) (a == b)
  | tup (l r : List PV) (c : Bool) (h : peqs (peq n) l r = some c) : PeqC n (.tup l) (.tup r) c
theorem peq_e {n : Nat} {p q : PV} {b : Bool} (h : peq (n + 1) p q = some b) : PeqC n p q b := by
  cases p with
  | int a =>
    cases q with
    | int b => exact Option.some.inj h ▸ .int a b
    | _ => exact no h
  | str a =>
    cases q with
    | str b => exact Option.some.inj h ▸ .str a b
    | _ => exact no h
  | tup l =>
    cases q with
    | tup r => exact .tup l r b h
    | _ => exact no h
  | _ => exact no h
theorem tupO_inj {a b : List Value} {m n : Nat} (h : some (tupO a m) = some (tupO b n)) : a = b := by injection h with e2; injection e2 with _ _ e2 _; injection e2 with e2 _; simpa using e2
theorem peq_self : ∀ (n : Nat) (p q : PV) (b : Bool) (u : Value), VR prog w d D p u → VR prog w d D q u → peq n p q = some b → b = true
  | 0, _, _, _, _, _, _, h => no h
  | n + 1, p, q, b, u, x, y, h => by
    cases peq_e h with
    | int a b =>
      refine Classical.byContradiction fun hG => ?_
      obtain ⟨t, rfl⟩ := x.int_i
      obtain ⟨t2, e⟩ := y.int_i
      refine hG ?_
      cases e; exact beq_self_eq_true _
    | str a b =>
      refine Classical.byContradiction fun hG => ?_
      obtain ⟨t, rfl⟩ := x.str_i
      obtain ⟨t2, e⟩ := y.str_i
      refine hG ?_
      cases e; exact beq_self_eq_true _
    | tup l r _ h =>
      refine Classical.byContradiction fun hG => ?_
      obtain ⟨a, vs, m, rfl, e1, x⟩ := x.tup_i
      obtain ⟨a2, vs2, m2, e, e2, y⟩ := y.tup_i
      refine hG ?_
      cases e
      cases tupO_inj (e1.symm.trans e2)
      exact VRs.peq_self (peq n) x y (fun p q b u _ x y h => peq_self n p q b u x y h) h

/-- the pairs' answers -/
noncomputable def eqAts (f : PV → PV → Option Bool) (l r : List PV) (j : Nat) : Bool := match l[j]?, r[j]? with
  | some p, some q => (f p q).getD false
  | _, _ => false

theorem eqAts_zero {f : PV → PV → Option Bool} {p q : PV} {l r : List PV} : eqAts f (p :: l) (q :: r) 0 = (f p q).getD false := by simp [eqAts]
theorem eqAts_succ {f : PV → PV → Option Bool} {p q : PV} {l r : List PV} {j : Nat} : eqAts f (p :: l) (q :: r) (j + 1) = eqAts f l r j := by simp [eqAts]

theorem peqs_all (f : PV → PV → Option Bool) : ∀ (l r : List PV) (b : Bool), peqs f l r = some b → ((List.range (min l.length r.length)).all (eqAts f l r) && l.length == r.length) = b
  | [], [], b, h => by simp only [peqs, Option.some.injEq] at h; subst h; rfl
  | [], _ :: _, b, h => by simp only [peqs, Option.some.injEq] at h; subst h; simp
  | _ :: _, [], b, h => by simp only [peqs, Option.some.injEq] at h; subst h; simp
  | p :: l, q :: r, b, h => by
    simp only [peqs] at h
    split at h
    · rename_i b1 b2 h1 h2
      cases h
      have ih := peqs_all f l r b2 h2
      simp only [List.length_cons]
      rw [show min (l.length + 1) (r.length + 1) = min l.length r.length + 1 by (simp_all), List.range_succ_eq_map, List.all_cons, List.all_map, eqAts_zero, h1]
      have e : (eqAts f (p :: l) (q :: r) ∘ Nat.succ) = eqAts f l r := by funext j; exact eqAts_succ
      rw [e, ← ih]
      have e2 : (l.length + 1 == r.length + 1) = (l.length == r.length) := by
        by_cases hh : l.length = r.length <;> simp [hh]
      rw [e2, Option.getD_some, Bool.and_assoc]
    · cases h
theorem peqs_some (f : PV → PV → Option Bool) : ∀ (l r : List PV) (b : Bool), peqs f l r = some b → ∀ j p q, l[j]? = some p → r[j]? = some q → f p q = some (eqAts f l r j)
  | [], _, _, _, _, _, _, h1, _ => by simp at h1
  | _ :: _, [], _, _, _, _, _, _, h2 => by simp at h2
  | p :: l, q :: r, b, h, j, p', q', h1, h2 => by
    simp only [peqs] at h
    split at h
    · rename_i b1 b2 e1 e2
      cases j with
      | zero => simp at h1 h2; subst h1; subst h2; rw [eqAts_zero, e1]; rfl
      | succ j => rw [eqAts_succ]; exact peqs_some f l r b2 e2 j p' q' (by simpa using h1) (by simpa using h2)
    · cases h

theorem IsTuple_of {D : Fz} {h : Heap} (on : D.on h) {a : Addr} {vs : List Value} {n : Nat} (e : D a = some (tupO vs n)) : h.IsTuple a vs.toArray := ⟨_, on _ _ e, rfl, n, rfl⟩
theorem IsList_of {D : Fz} {h : Heap} (on : D.on h) {a : Addr} {vs : List Value} {n : Nat} (e : D a = some (lstO vs n)) : h.IsList a vs.toArray := ⟨_, on _ _ e, rfl, n, rfl⟩

theorem VRs.at {l : List PV} {vs : List Value} (x : VRs prog w d D l vs) (j : Nat) (h : j < vs.toArray.size) : ∃ p, l[j]? = some p ∧ VR prog w d D p vs.toArray[j] := by
  have hl := x.length
  have hj : j < l.length := by rw [← hl]; simpa using h
  refine Classical.byContradiction fun hG => ?_
  obtain ⟨v, e, r⟩ := x.get (i := j) (p := l[j]) (by simp [hj])
  refine hG ?_
  refine ⟨l[j], by simp [hj], ?_⟩
  have e3 : vs.toArray[j] = v := by
    have hj2 : j < vs.length := by simpa using h
    have : vs[j]? = some vs[j] := List.getElem?_eq_getElem hj2
    rw [this] at e
    have e4 := Option.some.inj e
    simpa using e4
  rw [e3]; exact r

theorem eqAt_ok : ∀ (n : Nat) (A : Around) (p q : PV) (b : Bool) (u v : Value), D.on s.heap → A.units + n < cLine → VR prog w d D p u → VR prog w d D q v → peq n p q = some b → EqAt A s u v b
  | 0, _, _, _, _, _, _, _, _, _, _, h => no h
  | n + 1, A, p, q, b, u, v, on, hu, x, y, h0 => by
    cases peq_e h0 with
    | int a b =>
      refine Classical.byContradiction fun hG => ?_
      obtain ⟨t, rfl⟩ := x.int_i
      obtain ⟨t2, rfl⟩ := y.int_i
      refine hG ?_
      exact EqAt.int_int _ _ _ _
    | str a b =>
      refine Classical.byContradiction fun hG => ?_
      obtain ⟨t, rfl⟩ := x.str_i
      obtain ⟨t2, rfl⟩ := y.str_i
      refine hG ?_
      exact EqAt.str_str _ _ _ _
    | tup l r _ h =>
      have x0 := x
      have y0 := y
      refine Classical.byContradiction fun hG => ?_
      obtain ⟨a, vs, m, rfl, e1, x⟩ := x.tup_i
      obtain ⟨a2, vs2, m2, rfl, e2, y⟩ := y.tup_i
      refine hG ?_
      by_cases ha : a = a2
      · subst ha
        rw [peq_self (n + 1) _ _ _ _ x0 y0 h0]
        exact EqAt.same _
      · refine EqAt.of_refs ha ?_
        rw [← peqs_all _ _ _ _ h]
        have k := RcAt.tuples (A := A) (e := eqAts (peq n) l r) (IsTuple_of on e1) (IsTuple_of on e2) (Nat.lt_of_le_of_lt (Nat.le_add_right _ _) hu) fun j h1 h2 => by
          refine Classical.byContradiction fun hG => ?_
          obtain ⟨p, hp, rp⟩ := x.at j h1
          obtain ⟨q, hq, rq⟩ := y.at j h2
          refine hG ?_
          exact eqAt_ok n A.in1 p q _ _ _ on (by rw [Around.in1_units, Nat.add_assoc, Nat.add_comm 1]; exact hu) rp rq (peqs_some _ _ _ _ h j p q hp hq)
        rw [List.size_toArray, List.size_toArray, x.length, y.length] at k
        exact k

theorem eq_ok {n : Nat} {p q : PV} {b : Bool} {u v : Value} (on : D.on s.heap) (hu : A.units + n < cLine) (x : VR prog w d D p u) (y : VR prog w d D q v) (h : peq n p q = some b) :
    RcAt A s u v b ∧ RcNeAt A s u v (!b) := by
  cases n with
  | zero => exact no h
  | succ n =>
    cases peq_e h with
    | int a b =>
      refine Classical.byContradiction fun hG => ?_
      obtain ⟨t, rfl⟩ := x.int_i
      obtain ⟨t2, rfl⟩ := y.int_i
      refine hG ?_
      exact ⟨RcAt.int_int _ _ _ _, RcNeAt.int_int _ _ _ _⟩
    | str a b =>
      refine Classical.byContradiction fun hG => ?_
      obtain ⟨t, rfl⟩ := x.str_i
      obtain ⟨t2, rfl⟩ := y.str_i
      refine hG ?_
      exact ⟨RcAt.str_str _ _ _ _, RcNeAt.str_str _ _ _ _⟩
    | tup l r _ h =>
      refine Classical.byContradiction fun hG => ?_
      obtain ⟨a, vs, m, rfl, e1, x⟩ := x.tup_i
      obtain ⟨a2, vs2, m2, rfl, e2, y⟩ := y.tup_i
      refine hG ?_
      have h0 := Nat.lt_of_le_of_lt (Nat.le_add_right _ _) hu
      have hk : ∀ j (h1 : j < vs.toArray.size) (h2 : j < vs2.toArray.size), EqAt A.in1 s vs.toArray[j] vs2.toArray[j] (eqAts (peq n) l r j) := fun j h1 h2 => by
        refine Classical.byContradiction fun hG => ?_
        obtain ⟨p, hp, rp⟩ := x.at j h1
        obtain ⟨q, hq, rq⟩ := y.at j h2
        refine hG ?_
        exact eqAt_ok n A.in1 p q _ _ _ on (by rw [Around.in1_units, Nat.add_assoc, Nat.add_comm 1]; exact hu) rp rq (peqs_some _ _ _ _ h j p q hp hq)
      have k := RcAt.tuples (A := A) (IsTuple_of on e1) (IsTuple_of on e2) h0 hk
      have k2 := RcNeAt.tuples (A := A) (IsTuple_of on e1) (IsTuple_of on e2) h0 hk
      rw [List.size_toArray, List.size_toArray, x.length, y.length, peqs_all _ _ _ _ h] at k k2
      exact ⟨k, k2⟩

theorem DSAt.dictOf {ks : List Str} {vals : List Value} {a : Addr} {h : Heap} (on : D.on h) (x : DSAt prog w D ks vals a) : h.DictOf (strKind prog w) a (ks.zip vals) :=
  let ⟨o, es, ep, e, r1, r2, r3, r4, r5, r6, _⟩ := x
  ⟨o, es, ep, on _ _ e, r1, r2, r3, r4, by rw [List.map_fst_zip (by (with_reducible exact q_el ‹_›))]; exact r5⟩
theorem DIAt.dictOf {ks : List Int} {vals : List Value} {a : Addr} {h : Heap} (on : D.on h) (x : DIAt prog w D ks vals a) : h.DictOf (intKind prog w) a (ks.zip vals) :=
  let ⟨o, es, ep, e, r1, r2, r3, r4, r5, r6, _⟩ := x
  ⟨o, es, ep, on _ _ e, r1, r2, r3, r4, by rw [List.map_fst_zip (by (with_reducible exact q_el ‹_›))]; exact r5⟩
theorem DTAt.dictOf {ks : List (List Int)} {a : Addr} {h : Heap} (on : D.on h) (x : DTAt prog w D ks a) : ∃ xs : List (List Int × Addr × Value), xs.map (·.1) = ks ∧ h.DictOfH (tKind prog w) a xs ∧
    (∀ y ∈ xs, ∃ vs n, D y.2.1 = some (tupO vs n) ∧ IntsAre vs y.1) :=
  let ⟨o, es, ep, xs, e, r1, r2, r3, r4, r5, r6, _⟩ := x
  ⟨xs, r4, ⟨o, es, ep, on _ _ e, r1, r2, r3, fun y hy => by
    refine Classical.byContradiction fun hG => ?_
    obtain ⟨vs, n, e1, e2⟩ := r6 y hy
    refine hG ?_
    exact ⟨_, vs.toArray, n, on _ _ e1, rfl, rfl, by simpa using IntsAre.items (prog := prog) (w := w) e2⟩, by rw [r4]; exact r5⟩, r6⟩

theorem valueAt_zip {K : Type} [DecidableEq K] (k : K) : ∀ (ks : List K) (vals : List Value), ks.length = vals.length → (valueAt (ks.zip vals) k).isSome = memb k ks
  | [], _, _ => by simp [valueAt, memb]
  | _ :: _, [], h => by simp at h
  | k' :: ks, v :: vals, h => by
    have ih := valueAt_zip k ks vals (by simpa using h)
    unfold valueAt memb at ih ⊢
    simp only [List.zip_cons_cons, List.find?_cons, List.mem_cons]
    by_cases hk : k' = k
    · subst hk; simp
    · have : ¬ k = k' := fun e => hk e.symm
      simp only [hk, decide_false, this, false_or]
      exact ih
theorem valueAt_val {K : Type} [DecidableEq K] (k : K) : ∀ (ks : List K) (vs : List PV) (vals : List Value) (p : PV), ks.length = vals.length → VRs prog w d D vs vals → valAt k ks vs = some p → ∃ v, valueAt (ks.zip vals) k = some v ∧ VR prog w d D p v
  | [], _, _, _, _, _, h => by simp [valAt] at h
  | _ :: _, [], _, _, _, _, h => by simp [valAt] at h
  | k' :: ks, q :: vs, vals, p, hl, x, h => by
    refine Classical.byContradiction fun hG => ?_
    obtain ⟨v, r, rfl, y, z⟩ := x
    refine hG ?_
    unfold valAt at h
    unfold valueAt
    simp only [List.zip_cons_cons, List.find?_cons]
    by_cases hk : k' = k
    · rw [if_pos hk] at h; cases h
      exact ⟨v, by simp [hk], y⟩
    · rw [if_neg hk] at h
      simp only [hk, decide_false]
      exact valueAt_val k ks vs r p (by simpa using hl) z h
theorem valueAt_none {K : Type} [DecidableEq K] (k : K) : ∀ (ks : List K) (vs : List PV) (vals : List Value), ks.length = vals.length → VRs prog w d D vs vals → valAt k ks vs = .none → valueAt (ks.zip vals) k = .none
  | [], _, _, _, _, _ => by simp [valueAt]
  | _ :: _, [], vals, hl, x, _ => by cases (show _ = _ from x); simp at hl
  | k' :: ks, q :: vs, vals, hl, x, h => by
    refine Classical.byContradiction fun hG => ?_
    obtain ⟨v, r, rfl, y, z⟩ := x
    refine hG ?_
    unfold valAt at h
    unfold valueAt
    simp only [List.zip_cons_cons, List.find?_cons]
    by_cases hk : k' = k
    · rw [if_pos hk] at h; cases h
    · rw [if_neg hk] at h
      simp only [hk, decide_false]
      exact valueAt_none k ks vs r (by simpa using hl) z h
theorem atKey_isSome {K : Type} [DecidableEq K] (k : K) : ∀ (xs : List (K × Addr × Value)), (atKey xs k).isSome = memb k (xs.map (·.1))
  | [] => by simp [atKey, memb]
  | x :: xs => by
    have ih := atKey_isSome k xs
    unfold atKey memb at ih ⊢
    simp only [List.find?_cons, List.map_cons, List.mem_cons]
    by_cases hk : x.1 = k
    · subst hk; simp
    · have : ¬ k = x.1 := fun e => hk e.symm
      simp only [hk, decide_false, this, false_or]
      exact ih

theorem VRs.strs : ∀ {l : List PV} {vs : List Value} {xs : List Str}, VRs prog w d D l vs → strs? l = some xs → ∃ ts : List Tok, vs = (xs.zip ts).map (fun y => Value.str y.1 y.2) ∧ ts.length = xs.length
  | [], _, _, x, h => by cases (show _ = _ from x); simp only [strs?, Option.some.injEq] at h; subst h; exact ⟨[], rfl, rfl⟩
  | p :: r, _, xs, x, h => by
    refine Classical.byContradiction fun hG => ?_
    obtain ⟨v, rv, e, y, z⟩ := x
    refine hG ?_
    subst e
    cases p <;> simp only [strs?] at h <;> try (cases h; done)
    simp only [Option.map_eq_some_iff] at h
    refine Classical.byContradiction fun hG => ?_
    obtain ⟨xs', h', rfl⟩ := h
    obtain ⟨t, rfl⟩ := y
    obtain ⟨ts, rfl, e⟩ := VRs.strs z h'
    refine hG ?_
    exact ⟨t :: ts, rfl, by simp [e]⟩

noncomputable def isS (x : Str) : Value → Bool
  | .str y _ => y == x
  | _ => false
theorem isS_any (x : Str) : ∀ (xs : List Str) (ts : List Tok), ts.length = xs.length → ((xs.zip ts).map (fun y => Value.str y.1 y.2)).any (isS x) = memb x xs
  | [], _, _ => by simp [memb]
  | _ :: _, [], h => by simp at h
  | y :: xs, t :: ts, h => by
    have ih := isS_any x xs ts (by simpa using h)
    simp only [List.zip_cons_cons, List.map_cons, List.any_cons, ih]
    unfold memb
    simp only [isS]
    by_cases e : y = x
    · subst e; simp
    · have : ¬ x = y := fun e' => e e'.symm
      simp [e, this]

theorem DIAt.other {ks vals a} (x : DIAt prog w D ks vals a) : (a == sysModules) = false := let ⟨_, _, _, _, _, _, _, _, _, _, z⟩ := x; z
theorem DTAt.other {ks a} (x : DTAt prog w D ks a) : (a == sysModules) = false := let ⟨_, _, _, _, _, _, _, _, _, _, _, z⟩ := x; z
theorem DSAt.other {ks vals a} (x : DSAt prog w D ks vals a) : (a == sysModules) = false := let ⟨_, _, _, _, _, _, _, _, _, _, z⟩ := x; z

theorem DTAt.empty {a : Addr} {h : Heap} (on : D.on h) (x : DTAt prog w D [] a) : h.DictOf (intKind prog w) a [] := by
  refine Classical.byContradiction fun hG => ?_
  obtain ⟨o, es, ep, xs, e, r1, r2, r3, r4, r5, r6, _⟩ := x
  refine hG ?_
  have hx : xs = [] := by simpa using r4
  subst hx
  have he : es = #[] := by simpa using r3
  subst he
  exact ⟨o, #[], ep, on _ _ e, r1, r2, fun _ he => by simp at he, .nil, List.nodup_nil⟩

/-- where «in» a dict is answered -/
inductive InC : PV → PV → Bool → Prop
  | int (i : Int) (ks : List Int) (vs : List PV) : InC (.int i) (.dI ks vs) (memb i ks)
  | nil (i : Int) : InC (.int i) (.dT []) false
  | tup (l : List PV) (ns : List Int) (ks : List (List Int)) (h : ints? l = some ns) : InC (.tup l) (.dT ks) (memb ns ks)
theorem in_e {p q : PV} {b : Bool} (h : inDict p q = some b) : InC p q b := by
  cases p with
  | int i =>
    cases q with
    | dI ks vs => exact Option.some.inj h ▸ .int i ks vs
    | dT ks =>
      cases ks with
      | nil => exact Option.some.inj h ▸ .nil i
      | cons => exact no h
    | _ => exact no h
  | tup l =>
    cases q with
    | dT ks => exact let ⟨ns, hn, e⟩ := Option.map_eq_some_iff.mp h; e ▸ .tup l ns ks hn
    | _ => exact no h
  | _ => exact no h
theorem in_ok {p q : PV} {b : Bool} {u v : Value} (hu : A.in1.units < cLine) (g : Gd prog w d cells H D σ s.heap) (x : VR prog w d D p u) (y : VR prog w d D q v) (h : inDict p q = some b) :
    ((∀ tk, Q (.bool b) { s with toks := tk }) → wpAny (model prog w) A (compareOp .In u v) Q E s) ∧ ((∀ tk, Q (.bool (!b)) { s with toks := tk }) → wpAny (model prog w) A (compareOp .NotIn u v) Q E s) := by
  cases in_e h with
  | int i ks vs =>
    refine Classical.byContradiction fun hG => ?_
    obtain ⟨t, rfl⟩ := x.int_i
    obtain ⟨a, vals, rfl, y, _⟩ := y.dI_i
    refine hG ?_
    have hl : ks.length = vals.length := let ⟨_, _, _, _, _, _, _, _, _, z, _⟩ := y; z
    have hi : (intKind prog w).is i (.int i t) := by simp [intKind, Value.isInt]
    rw [← valueAt_zip i ks vals hl]
    exact ⟨fun k => wpAny_in_of hi y.other (y.dictOf g.on).mapOf (k _), fun k => wpAny_notIn_of hi y.other (y.dictOf g.on).mapOf (k _)⟩
  | nil i =>
    refine Classical.byContradiction fun hG => ?_
    obtain ⟨t, rfl⟩ := x.int_i
    obtain ⟨a, rfl, y'⟩ := y.dT_i
    refine hG ?_
    have hm := (y'.empty g.on).mapOf
    have hi : (intKind prog w).is i (.int i t) := by simp [intKind, Value.isInt]
    exact ⟨fun k => wpAny_in_of hi y'.other hm (k _), fun k => wpAny_notIn_of hi y'.other hm (k _)⟩
  | tup l ns ks hn =>
    refine Classical.byContradiction fun hG => ?_
    obtain ⟨a, vs, n, rfl, e1, x⟩ := x.tup_i
    obtain ⟨a2, rfl, y'⟩ := y.dT_i
    obtain ⟨xs, hx, hd, _⟩ := y'.dictOf g.on
    refine hG ?_
    have hkey : (tKind prog w).is s.heap ns a := ⟨_, vs.toArray, n, g.on _ _ e1, rfl, rfl, by simpa using IntsAre.items (prog := prog) (w := w) (x.ints hn)⟩
    have e := atKey_isSome ns xs
    rw [hx] at e
    rw [← e]
    exact ⟨fun k => wpAny_in_heap (knd := tKind prog w) hu hkey y'.other hd (k _), fun k => wpAny_notIn_heap (knd := tKind prog w) hu hkey y'.other hd (k _)⟩

theorem cmpI_e {f : Int → Int → Bool} {p q : PV} {b : Bool} {u v : Value} (h : cmpI f p q = some b) (x : VR prog w d D p u) (y : VR prog w d D q v) : ∃ i j t t2, u = .int i t ∧ v = .int j t2 ∧ b = f i j := by
  cases p with
  | int i =>
    cases q with
    | int j => exact let ⟨t, e⟩ := x.int_i; let ⟨t2, e2⟩ := y.int_i; ⟨i, j, t, t2, e, e2, (Option.some.inj h).symm⟩
    | _ => exact no h
  | _ => exact no h
theorem inP_e {p q : PV} {b : Bool} (h : inP p q = some b) : (∃ x l, p = .str x ∧ (q = .tup l ∨ q = .list l) ∧ inStrs x l = some b) ∨ inDict p q = some b := by
  cases p with
  | str x =>
    cases q with
    | tup l => exact .inl ⟨x, l, rfl, .inl rfl, h⟩
    | list l => exact .inl ⟨x, l, rfl, .inr rfl, h⟩
    | _ => exact no h
  | _ => exact .inr h
theorem one_e : ∀ {p : PV} {q : Str × PV}, one? p = some q → p = .dS [q.1] [q.2]
  | .dS [_] [_], _, h => by cases h; rfl
theorem eqP_e {p q : PV} {b : Bool} (h : eqP p q = some b) : (∃ k v v', p = .dS [k] [v] ∧ q = .dS [k] [v'] ∧ peq 9 v v' = some b) ∨ peq 9 p q = some b := by
  unfold eqP at h
  cases e : one? p with
  | none => rw [e] at h; exact .inr h
  | some x =>
    rw [e] at h
    cases e2 : one? q with
    | none => rw [e2] at h; exact .inr h
    | some y =>
      rw [e2] at h
      by_cases c : (x.1 == y.1) = true
      · exact .inl ⟨x.1, x.2, y.2, one_e e, eq_of_beq c ▸ one_e e2, (if_pos c).symm.trans h⟩
      · exact no ((if_neg c).symm.trans h)
theorem inStrs_e {k : Str} {l : List PV} {vs : List Value} {b : Bool} (h : inStrs k l = some b) (y : VRs prog w d D l vs) : (∀ z ∈ vs, ∃ x t, z = .str x t) ∧ vs.any (isS k) = b := by
  refine Classical.byContradiction fun hG => ?_
  obtain ⟨xs, hx, rfl⟩ := Option.map_eq_some_iff.mp h
  obtain ⟨ts, rfl, hl⟩ := y.strs hx
  refine hG ?_
  exact ⟨fun z hz => let ⟨⟨k2, t2⟩, _, e⟩ := List.mem_map.mp hz; ⟨k2, t2, e.symm⟩, isS_any k xs ts hl⟩

theorem cmp_ok {op : CmpOp} {p q : PV} {b : Bool} {u v : Value} (hu : A.units + 20 < cLine) (g : Gd prog w d cells H D σ s.heap) (x : VR prog w d D p u) (y : VR prog w d D q v) (h : cmpOp op p q = some b)
    (e : ∀ tk, Q (.bool b) { s with toks := tk }) : wpAny (model prog w) A (compareOp op u v) Q E s := by
  have e0 : Q (.bool b) s := e s.toks
  have u9 : A.units + 9 < cLine := Nat.lt_of_le_of_lt (Nat.add_le_add_left (by decide) _) hu
  have u1 : A.in1.units < cLine := by rw [Around.in1_units]; exact Nat.lt_of_le_of_lt (Nat.add_le_add_left (by decide) _) hu
  cases op with
  | Eq =>
    rcases eqP_e h with ⟨k, p', q', rfl, rfl, h'⟩ | h'
    · obtain ⟨a, vals, rfl, x1, x2⟩ := x.dS_i
      refine Classical.byContradiction fun hG => ?_
      obtain ⟨a2, vals2, rfl, y1, y2⟩ := y.dS_i
      obtain ⟨v1, r1, rfl, x2, rfl⟩ := x2
      obtain ⟨v2, r2, rfl, y2, rfl⟩ := y2
      refine hG ?_
      refine keq_eq (r := b && true) x1.other y1.other (x1.dictOf g.on) (y1.dictOf g.on) (Nat.lt_of_le_of_lt (Nat.le_add_right _ _) hu) (fun _ => .hit (by simp [valueAt]) (eqAt_ok 9 A.in1 _ _ _ _ _ g.on (by rw [Around.in1_units, Nat.add_assoc]; exact Nat.lt_of_le_of_lt (Nat.add_le_add_left (by decide) _) hu) x2 y2 h') .nil) ?_
      rw [Bool.and_true]; exact e0
    · exact (eq_ok g.on u9 x y h').1 prog w E Q e0
  | NotEq =>
    refine Classical.byContradiction fun hG => ?_
    obtain ⟨c, h', rfl⟩ := Option.map_eq_some_iff.mp h
    refine hG ?_
    exact (eq_ok g.on u9 x y h').2 prog w E Q e0
  | Lt => obtain ⟨i, j, t, t2, rfl, rfl, rfl⟩ := cmpI_e h x y; exact PyProof.Rows.lt_int e0
  | LtE => obtain ⟨i, j, t, t2, rfl, rfl, rfl⟩ := cmpI_e h x y; exact PyProof.Rows.le_int e0
  | Gt => obtain ⟨i, j, t, t2, rfl, rfl, rfl⟩ := cmpI_e h x y; exact PyProof.Rows.gt_int e0
  | In =>
    rcases inP_e h with ⟨k, l, rfl, hq, h'⟩ | h'
    · obtain ⟨t, rfl⟩ := x.str_i
      rcases hq with rfl | rfl
      · obtain ⟨a, vs, n, rfl, e1, y⟩ := y.tup_i
        obtain ⟨hs, hb⟩ := inStrs_e h' y
        refine in_tupleAt (isS k) (IsTuple_of g.on e1) (fun z hz => ?_) (by rw [List.any_toArray, hb]; exact e0)
        refine Classical.byContradiction fun hG => ?_
        obtain ⟨k2, t2, rfl⟩ := hs z (Array.mem_toList_iff.mpr hz)
        refine hG ?_
        exact EqAt.str_str _ _ _ _
      · obtain ⟨a, vs, n, rfl, e1, y⟩ := y.list_i
        obtain ⟨hs, hb⟩ := inStrs_e h' y
        refine in_listAt (isS k) (IsList_of g.on e1) (fun z hz => ?_) (by rw [List.any_toArray, hb]; exact e0)
        refine Classical.byContradiction fun hG => ?_
        obtain ⟨k2, t2, rfl⟩ := hs z (Array.mem_toList_iff.mpr hz)
        refine hG ?_
        exact EqAt.str_str _ _ _ _
    · exact (in_ok u1 g x y h').1 e
  | NotIn =>
    refine Classical.byContradiction fun hG => ?_
    obtain ⟨c, h', rfl⟩ := Option.map_eq_some_iff.mp h
    refine hG ?_
    exact (in_ok u1 g x y h').2 e
  | _ => exact no h
end
end Mine

set_option tactic.hygienic false
/- part Ops3 -/
set_option tactic.hygienic true
namespace Mine

section
variable {prog : Program} {w : World} {d : Addr} {cells : List Int} {H : Heap} {D : Fz} {σ : Nat} {s : Shared} {A : Around} {E : Value → Shared → Prop} {Q : Value → Shared → Prop}

theorem subscripted_ops (slice : Expr) (o i : Value) : ∃ ops, subscripted slice false o i = operate ops (getItem o i) := by
  cases slice <;> first | exact ⟨_, rfl⟩ | (rename_i st _; cases st <;> exact ⟨_, rfl⟩)

theorem tail_ok {value slice : Expr} {o i : Value} {T id : String} (hT : s.TypeIs o T) (hl : typeLookup (.type T) "__getitem__" = pure (some (.builtin id))) (h : wpAny (model prog w) A (getItem o i) Q E s) :
    wpAny (model prog w) A (subscriptTail value slice o i) Q E s := by
  unfold subscriptTail
  refine wpAny_bind ?_
  rw [getitemInPython_of_ne hT.not_modules]
  refine wpAny_bind (wpAny_specialOf hT hl ?_)
  obtain ⟨ops, hs⟩ := subscripted_ops slice o i
  have fin : wpAny (model prog w) A (subscripted slice false o i) (fun r s₃ => wpAny (model prog w) A (letTemporaryGo value o r >>= fun _ => pure r) Q E s₃) E s := by
    rw [hs]
    exact wpAny_operating (wpAny_mono h (fun r s₃ h₃ => wpAny_bind (wpAny_letTemporaryGo (wpAny_pure h₃))) fun _ _ x => x)
  first
    | exact wpAny_pure (wpAny_bind fin)
    | exact wpAny_bind (wpAny_pure (wpAny_bind fin))
    | exact wpAny_bind fin

theorem idxAt_seq {l : List PV} {i : Int} {p : PV} (h : idxAt l i = some p) : ∃ j, seqIndex? i l.length = some j ∧ l[j]? = some p ∧ -(2 ^ 63) ≤ i ∧ i < 2 ^ 63 := by
  unfold idxAt at h
  split at h
  · cases h
  · split at h
    · rename_i hs hi
      refine ⟨i.toNat, ?_, h, by exact q_p63 hi.1, by exact q_i63 hi.2 hs⟩
      unfold seqIndex?
      rw [if_neg (by (simp_all) : ¬ i < 0)]
      simp only [hi.1, hi.2, decide_true, Bool.and_self, if_true]
    · split at h
      · rename_i hs hi hj
        refine ⟨(i + l.length).toNat, ?_, h, by exact q_n63 hj.2 hs, by exact q_m63 hj.1⟩
        unfold seqIndex?
        rw [if_pos hj.1]
        have h1 : 0 ≤ i + l.length := by exact q_47 hj.2
        have h2 : i + l.length < l.length := by exact q_48 hj.1
        simp only [h1, h2, decide_true, Bool.and_self, if_true]
      · cases h

theorem tape_spot {h : Heap} (x : TapeAt prog w d cells D h σ) : ∃ cl t, h.DictOf (strKind prog w) d [(("cells" : Str), cl), (("spot" : Str), .int σ t)] ∧ VR prog w d D (.list (cells.map .int)) cl := x

theorem cells_ne_spot : ¬ ((("cells" : Str) : Str) = (("spot" : Str) : Str)) := by decide

/-- where an index is answered -/
inductive IdxC (cells : List Int) (σ : Nat) : PV → PV → PV → Prop
  | tup (l : List PV) (i : Int) (r : PV) (h : idxAt l i = some r) : IdxC cells σ (.tup l) (.int i) r
  | list (l : List PV) (i : Int) (r : PV) (hi : l.length ≤ 1000000 ∧ 0 ≤ i ∧ i < l.length) (h : l[i.toNat]? = some r) : IdxC cells σ (.list l) (.int i) r
  | dS (ks : List Str) (vs : List PV) (x : Str) (r : PV) (h : valAt x ks vs = some r) : IdxC cells σ (.dS ks vs) (.str x) r
  | spot : IdxC cells σ .tape (.str ("spot" : Str)) (.int σ)
  | cells : IdxC cells σ .tape (.str ("cells" : Str)) (.list (cells.map .int))
theorem index_e {p q r : PV} (h : index cells σ p q = some r) : IdxC cells σ p q r := by
  cases p with
  | tup l =>
    cases q with
    | int i => exact .tup l i r h
    | _ => exact no h
  | list l =>
    cases q with
    | int i =>
      by_cases c : l.length ≤ 1000000 ∧ 0 ≤ i ∧ i < l.length
      · exact .list l i r c ((if_pos c).symm.trans h)
      · exact no ((if_neg c).symm.trans h)
    | _ => exact no h
  | dS ks vs =>
    cases q with
    | str x => exact .dS ks vs x r h
    | _ => exact no h
  | tape =>
    cases q with
    | str x =>
      by_cases c : (x == ("spot" : Str)) = true
      · exact eq_of_beq c ▸ Option.some.inj ((if_pos c).symm.trans h) ▸ .spot
      · have h := (if_neg c).symm.trans h
        by_cases c : (x == ("cells" : Str)) = true
        · exact eq_of_beq c ▸ Option.some.inj ((if_pos c).symm.trans h) ▸ .cells
        · exact no ((if_neg c).symm.trans h)
    | _ => exact no h
  | _ => exact no h
theorem index_ok {value slice : Expr} {p q r : PV} {u v : Value} (g : Gd prog w d cells H D σ s.heap) (x : VR prog w d D p u) (y : VR prog w d D q v) (h : index cells σ p q = some r)
    (e : Ends prog w d cells r σ D σ s Q) : wpAny (model prog w) A (subscriptTail value slice u v) Q E s := by
  cases index_e h with
  | tup l i _ h =>
    refine Classical.byContradiction fun hG => ?_
    obtain ⟨a, vs, n, rfl, e1, x⟩ := x.tup_i
    obtain ⟨t, rfl⟩ := y.int_i
    obtain ⟨j, hj, hl, h1, h2⟩ := idxAt_seq h
    obtain ⟨z, hz, rz⟩ := x.get hl
    refine hG ?_
    refine tail_ok ⟨_, g.on _ _ e1, rfl⟩ slot_tuple_getitem.lookup ?_
    exact P.getItem_tuple (items := vs.toArray) (g.on _ _ e1) h1 h2 (by rw [List.size_toArray, x.length]; exact hj) (by simpa using hz) (e.same g rz s.toks)
  | list l i _ hi h =>
    refine Classical.byContradiction fun hG => ?_
    obtain ⟨a, vs, n, rfl, e1, x⟩ := x.list_i
    obtain ⟨t, rfl⟩ := y.int_i
    obtain ⟨z, hz, rz⟩ := x.get h
    refine hG ?_
    have hl := IsList_of g.on e1
    exact tail_ok hl.typeIs slot_list_getitem.lookup (wpAny_getItem_list hl hi.2.1 (by have := hi.1; have := hi.2.2; exact q_i63 hi.2.2 (Nat.not_lt.mpr hi.1)) (by simpa using hz) (e.same g rz s.toks))
  | dS ks vs k _ h =>
    refine Classical.byContradiction fun hG => ?_
    obtain ⟨a, vals, rfl, x, z⟩ := x.dS_i
    obtain ⟨t, rfl⟩ := y.str_i
    have hl : ks.length = vals.length := let ⟨_, _, _, _, _, _, _, _, _, z, _⟩ := x; z
    obtain ⟨v, hv, rv⟩ := valueAt_val k ks vs vals r hl z h
    refine hG ?_
    have hm := (x.dictOf g.on).mapOf
    exact tail_ok hm.typeIs slot_dict_getitem.lookup (wpAny_getItem_of (knd := strKind prog w) (k := k) (by simp [PySem.strKind, Value.isStrOf]) hm hv (e.same g rv _))
  | spot =>
    cases x.tape_i
    refine Classical.byContradiction fun hG => ?_
    obtain ⟨t, rfl⟩ := y.str_i
    obtain ⟨cl, tk, hd, rc⟩ := g.tape
    refine hG ?_
    have hm := hd.mapOf
    refine tail_ok hm.typeIs slot_dict_getitem.lookup (wpAny_getItem_of (knd := strKind prog w) (k := ("spot" : Str)) (v := .int σ tk) (by simp [PySem.strKind, Value.isStrOf]) hm ?_ (e.same g (by exact ⟨_, rfl⟩) _))
    simp [valueAt, cells_ne_spot]
  | cells =>
    cases x.tape_i
    refine Classical.byContradiction fun hG => ?_
    obtain ⟨t, rfl⟩ := y.str_i
    obtain ⟨cl, tk, hd, rc⟩ := g.tape
    refine hG ?_
    have hm := hd.mapOf
    refine tail_ok hm.typeIs slot_dict_getitem.lookup (wpAny_getItem_of (knd := strKind prog w) (k := ("cells" : Str)) (v := cl) (by simp [PySem.strKind, Value.isStrOf]) hm ?_ (e.same g rc _))
    simp [valueAt]

/-! slices of a tuple -/
theorem adjust_gen (lo hi : Option Int) (n : Nat) : Builtin.Slice.sliceAdjust lo hi 1 (n : Int) = ((loB n lo : Int), (hiB n hi : Int)) := by
  unfold Builtin.Slice.sliceAdjust
  have h1 : ¬ ((1 : Int) < 0) := by (with_reducible exact (by decide))
  simp only [h1, if_false]
  congr 1
  · cases lo with
    | none => rfl
    | some i =>
      simp only [loB, clamp]
      split <;> first | exact q_clA | exact q_clB ‹_›
  · cases hi with
    | none => rfl
    | some i =>
      simp only [hiB, clamp]
      split <;> first | exact q_clA | exact q_clB ‹_›
theorem places_gen (a b : Nat) : Builtin.Slice.slicePlaces (a : Int) (b : Int) 1 = b - a := by
  unfold Builtin.Slice.slicePlaces
  have h1 : (1 : Int) > 0 := by (with_reducible exact (by decide))
  simp only [h1, if_true, Int.ediv_one]
  split <;> (simp_all)
theorem clamp_le (n : Nat) (i : Int) : clamp n i ≤ n := by unfold clamp; split <;> first | exact q_clC ‹_› | exact Nat.min_le_right _ _

noncomputable def optV : Option Int → Value → Prop
  | .none, v => v = .none
  | some i, v => ∃ t, v = .int i t
theorem slicePart_opt {o : Option Int} {v : Value} {Q : Option Int → Shared → Prop} (hv : optV o v) (h : Q o s) : wpAny (model prog w) A (Builtin.Slice.slicePartIndex v) Q E s := by
  cases o with
  | none => rw [show v = .none from hv]; exact slicePart_none h
  | some i => obtain ⟨t, rfl⟩ := (hv : ∃ t, v = .int i t); exact slicePart_int h

theorem pick_gen (xs : List Value) (a b : Nat) (hb : b ≤ xs.length) : ((List.range (b - a)).filterMap fun (k : Nat) => xs.toArray[((a : Int) + (k : Int) * 1).toNat]?) = (xs.take b).drop a := by
  have e : (fun (k : Nat) => xs.toArray[((a : Int) + (k : Int) * 1).toNat]?) = fun k => xs.toArray[a + k]? := by
    funext k
    have : ((a : Int) + (k : Int) * 1).toNat = a + k := by exact q_173
    rw [this]
  rw [e]
  have := pick_run xs.toArray a (b - a)
  rw [List.filterMap_map] at this
  have e2 : ((fun x => xs.toArray[x]?) ∘ fun x => a + x) = fun k => xs.toArray[a + k]? := rfl
  rw [e2] at this
  rw [this, List.drop_take]

theorem VRs.sliceL {l : List PV} {vs : List Value} {lo hi : Option Int} (x : VRs prog w d D l vs) :
    VRs prog w d D (sliceL l lo hi) ((vs.take (hiB vs.length hi)).drop (loB vs.length lo)) := by
  unfold Mine.sliceL
  rw [x.length]
  exact (x.take _).drop _
theorem hiB_le (n : Nat) (i : Option Int) : hiB n i ≤ n := by cases i with | none => exact Nat.le_refl _ | some i => exact clamp_le n i

theorem slice_ok {value slice : Expr} {l : List PV} {lo hi : Option Int} {u vl vh : Value} {sl : Addr} {n : Nat} (g : Gd prog w d cells H D σ s.heap) (x : VR prog w d D (.tup l) u) (hs : s.heap.IsSliceOf sl vl vh .none)
    (h1 : optV lo vl) (h2 : optV hi vh) (hsm : small l.length = true) (e : Ends prog w d cells (.tup (sliceL l lo hi)) σ D σ s Q) : wpAny (model prog w) A (subscriptTail value slice u (.ref sl)) Q E s := by
  have x0 := x
  refine Classical.byContradiction fun hG => ?_
  obtain ⟨t, vs, m, rfl, e1, x⟩ := x
  refine hG ?_
  have ht : IsTup s.heap t vs.toArray := ⟨_, g.on _ _ e1, rfl, m, rfl⟩
  refine tail_ok ht.typeIs slot_tuple_getitem.lookup ?_
  refine Classical.byContradiction fun hG => ?_
  obtain ⟨os, hos, hcs, hds⟩ := id hs
  refine hG ?_
  have hTs : s.TypeIs (.ref sl) "slice" := ⟨os, hos, hcs⟩
  have hx := x.sliceL (lo := lo) (hi := hi)
  have hbn := hiB_le vs.length hi
  generalize ha : loB vs.length lo = a at hx
  generalize hb : hiB vs.length hi = b at hx hbn
  unfold getItem
  try with_reducible refine wpAny_holding ?_
  first | refine wpAny_bind (wpAny_pure ?_) | skip
  refine wpAny_bind (wpAny_sequenceKey ht.typeIs (by decide) ?_)
  refine wpAny_bind (wpAny_callSpecial?_slot (name := Str.ofString "__getitem__") ht.typeIs slot_tuple_getitem
    (wpAny_call_entry slot_tuple_getitem ht.typeIs entry_tuple_getitem ?_ (args_tuple_getitem _ _)))
  show wpAny _ _ (Builtin.Tuple.tupleItemsOf (.ref t) >>= _) _ _ s
  refine wpAny_bind (tupleItemsOf_ ht ?_)
  refine wpAny_bind (wpAny_typeOf hTs ?_)
  rw [if_pos (by decide)]
  refine wpAny_bind (m := Builtin.Slice.sliceApplied (.ref sl) (pure (vs.toArray.size : Int))) ?_
  · unfold Builtin.Slice.sliceApplied Builtin.Slice.sliceFields
    refine wpAny_bind (wpAny_bind (wpAny_field hos hds (x := vl) rfl (wpAny_bind (wpAny_field hos hds (x := vh) rfl (wpAny_bind (wpAny_field hos hds (x := .none) rfl (wpAny_pure ?_)))))))
    refine wpAny_bind (slicePart_none ?_)
    show wpAny _ _ (if ((1 : Int) == 0) = true then _ else _) _ _ s
    rw [if_neg (by decide)]
    refine wpAny_bind (slicePart_opt h1 (wpAny_bind (slicePart_opt h2 (wpAny_bind (wpAny_pure ?_)))))
    show wpAny _ _ (match Builtin.Slice.sliceAdjust lo hi 1 (vs.toArray.size : Int) with | (lo, hi) => pure (lo, (1 : Int), Builtin.Slice.slicePlaces lo hi 1)) _ _ s
    rw [List.size_toArray, adjust_gen]
    rw [ha, hb]
    show wpAny _ _ (pure ((a : Int), (1 : Int), Builtin.Slice.slicePlaces (a : Int) (b : Int) 1)) _ _ s
    rw [places_gen]
    refine wpAny_pure ?_
    show wpAny _ _ (if ((a : Int) == 0 && (1 : Int) == 1 && (b - a) == vs.toArray.size) = true then _ else _) _ _ s
    have hsz : sizeOk (.seq ((vs.take b).drop a).toArray) := by
      show ((vs.take b).drop a).toArray.size ≤ sizeLine
      have := small_le hsm
      rw [List.size_toArray, List.length_drop, List.length_take]
      have := x.length
      exact Nat.le_trans (Nat.sub_le _ _) (Nat.le_trans (Nat.min_le_right _ _) (Nat.le_trans (Nat.le_of_eq ‹vs.length = l.length›) ‹_›))
    by_cases hw : ((a : Int) == 0 && (1 : Int) == 1 && (b - a) == vs.toArray.size) = true
    · rw [if_pos hw]
      simp only [Bool.and_eq_true, beq_iff_eq, List.size_toArray] at hw
      have ha0 : a = 0 := by (simp_all)
      have hbl : b = vs.length := by exact (show b - 0 = vs.length from ha0 ▸ hw.2)
      have hl : sliceL l lo hi = l := by
        unfold Mine.sliceL
        rw [← x.length, ha, hb, ha0, hbl, List.drop_zero, List.take_of_length_le (by rw [x.length]; exact Nat.le_refl _)]
      rw [hl] at e
      unfold Builtin.Tuple.tupleIsExact
      refine wpAny_bind (wpAny_bind (wpAny_typeOf ht.typeIs (wpAny_pure ?_)))
      rw [if_pos (by decide)]
      exact wpAny_bind (wpAny_rule (wpAny_bind (wpAny_pure (wpAny_pure ⟨_, rfl, wpAny_pure (e.same g x0 s.toks)⟩))))
    · rw [if_neg hw, pick_gen vs a b hbn]
      first
        | exact wpAny_bind (m := Builtin.Tuple.tupleExact _) (wpAny_newObj_type (wpAny_pure ⟨_, rfl, wpAny_pure (e.newTup g hx s.toks)⟩) hsz)
        | exact wpAny_bind (m := Builtin.Tuple.tupleExact _) (wpAny_newObj_type (wpAny_bind (wpAny_pure (wpAny_pure ⟨_, rfl, wpAny_pure (e.newTup g hx s.toks)⟩))) hsz)
        | exact wpAny_bind (wpAny_bind (m := Builtin.Tuple.tupleExact _) (wpAny_newObj_type (wpAny_pure (wpAny_pure ⟨_, rfl, wpAny_pure (e.newTup g hx s.toks)⟩)) hsz))
end
end Mine

set_option tactic.hygienic false
/- part Ops4 -/
namespace Mine

theorem list_no_keys : typeLookup (.type "list") "keys" = pure none := by rw [typeLookup_type, builtinLookup_eq_fast]; kernel_rfl

theorem getAttr?_keys {prog : Program} {w : World} {A : Around} {E : Value → Shared → Prop} {s : Shared} {a : Addr} {xs : Array Value} {k : Nat} {Q : Option Value → Shared → Prop}
    (hx : s.heap.get? a = some { cls := .type "list", dict := none, data := .seq xs k, slots := #[] }) (hA : A.handled = none)
    (h : ∀ h' tk, (∀ b o, s.heap.get? b = some o → h'.get? b = some o) → Q none { s with heap := h', toks := tk }) :
    wpAny (model prog w) A (getAttr? (.ref a) "keys") Q E s := by
  obtain ⟨hp, g, d, tk, os⟩ := s
  have hT : ∀ tk', (⟨hp, g, d, tk', os⟩ : Shared).TypeIs (.ref a) "list" := fun _ => ⟨_, hx, rfl⟩
  have f1 := sub_AttributeError
  have f3 := F.slot_list_getattribute.lookup
  have f4 := F.slot_list_getattribute.bind (.ref a)
  have f5 := am_list_getattr_none
  unfold getAttr? getAttrBy? getAttrBy
  repeat (any_goals (first | assumption | exact hT _ | ((with_reducible show wpAny _ _ (call (Value.builtin "list.__getattribute__") _ _) _ _ _); refine call_meets F.slot_list_getattribute (hT _) am_entry_list_getattribute (F.args_list_getattribute_2 _ _) (meets_getattribute_miss_list a xs k #[] "keys" _ list_no_keys (by decide +kernel) (by size_fits)) ⟨hx, hA, fun h' tk' e hx' => ?_⟩) | wp_step))
  obtain ⟨t', u', he⟩ := hx'.there
  show wpAny _ _ (getattributeRaised _ _ _ _ _ _ _) _ _ _
  unfold getattributeRaised
  repeat (any_goals (first | assumption | wp_step))
  all_goals (exact h _ _ hx'.keeps)
end Mine

/- part Ops5 -/
set_option tactic.hygienic true
namespace Mine

theorem plain_upd : plainId "dict.update.loop" = true := by decide +kernel
theorem entry_upd : entryFor table "dict.update.loop" = some Builtin.«dict.update.loop» := entryFor_of_tree (by kernel_rfl)

theorem dedup_snoc {K : Type} [DecidableEq K] (ks : List K) (i : Nat) (k : K) (h : ks[i]? = some k) : (ks.take (i + 1)).foldl addK [] = addK ((ks.take i).foldl addK []) k := by
  rw [List.take_add_one, h, List.foldl_append]; rfl
theorem addK_len {K : Type} [DecidableEq K] (l : List K) (k : K) : (addK l k).length ≤ l.length + 1 := by unfold addK; split <;> simp
theorem dedup_len {K : Type} [DecidableEq K] : ∀ (l acc : List K), (l.foldl addK acc).length ≤ acc.length + l.length
  | [], acc => by simp
  | k :: l, acc => by
    have := dedup_len l (addK acc k)
    have := addK_len acc k
    simp only [List.foldl_cons, List.length_cons]; exact q_ks ‹_ ≤ (addK acc _).length + _› this
theorem addK_nodup {K : Type} [DecidableEq K] {l : List K} {k : K} (h : l.Nodup) : (addK l k).Nodup := by
  unfold addK memb
  split
  · exact h
  · rename_i hn
    rw [decide_eq_true_eq] at hn
    rw [List.nodup_append]
    exact ⟨h, by simp, fun a ha b hb => by simp at hb; subst hb; exact fun e => hn (e ▸ ha)⟩
theorem dedup_nodup {K : Type} [DecidableEq K] : ∀ (l : List K) {acc : List K}, acc.Nodup → (l.foldl addK acc).Nodup
  | [], _, h => h
  | _ :: l, _, h => dedup_nodup l (addK_nodup h)

theorem storedH_fst {K : Type} [DecidableEq K] (xs : List (K × Addr × Value)) (k : K) (a : Addr) (v : Value) : (storedH xs k a v).map (·.1) = addK (xs.map (·.1)) k := by
  unfold storedH addK
  rw [atKey_isSome]
  split
  · exact keys_map_putAt xs k v
  · simp
theorem stored_fst {K : Type} [DecidableEq K] (xs : List (K × Value)) (k : K) (v : Value) : (stored xs k v).map (·.1) = addK (xs.map (·.1)) k := by
  unfold stored addK memb
  by_cases h : k ∈ xs.map (·.1)
  · have : (xs.any fun kv => decide (kv.1 = k)) = true := by
      rw [List.any_eq_true]; obtain ⟨x, hx, e⟩ := List.mem_map.mp h; exact ⟨x, hx, by simp [e]⟩
    rw [if_pos this, if_pos (by simpa using h), keys_map_store]
  · have : ¬ (xs.any fun kv => decide (kv.1 = k)) = true := by
      rw [List.any_eq_true]; rintro ⟨x, hx, e⟩; exact h (List.mem_map.mpr ⟨x, hx, by simpa using e⟩)
    rw [if_neg this, if_neg (by simpa using h)]; simp

section
variable {prog : Program} {w : World} {d : Addr} {cells : List Int} {H : Heap} {D : Fz} {σ : Nat} {s : Shared} {A : Around} {E : Value → Shared → Prop} {Q : Value → Shared → Prop}

noncomputable def KeyT (D : Fz) (k : List Int) (a : Addr) : Prop := ∃ us m, D a = some (tupO us m) ∧ IntsAre us k
noncomputable def PairT (D : Fz) (v : Value) (k : List Int) : Prop := ∃ a ka n, v = .ref a ∧ D a = some (tupO [.ref ka, .bool true] n) ∧ KeyT D k ka
noncomputable def PairI (D : Fz) (v : Value) (k : Int) : Prop := ∃ a t n, v = .ref a ∧ D a = some (tupO [.int k t, .bool true] n)

theorem key_inv : ∀ {p q : PV}, key? p = some q → p = .tup [q, .bool true]
  | .tup [_, .bool true], _, h => by cases h; rfl
theorem tup_inv {p : PV} {l : List PV} (h : tup? p = some l) : p = .tup l := by
  cases p with
  | tup m => exact congrArg PV.tup (Option.some.inj h)
  | _ => exact no h
theorem int_inv {p : PV} {i : Int} (h : int? p = some i) : p = .int i := by
  cases p with
  | int m => exact congrArg PV.int (Option.some.inj h)
  | _ => exact no h
theorem keyI_inv {p : PV} {i : Int} (h : (key? p).bind int? = some i) : p = .tup [.int i, .bool true] := by
  refine Classical.byContradiction fun hG => ?_
  obtain ⟨q, h1, h2⟩ := Option.bind_eq_some_iff.mp h
  refine hG ?_
  rw [key_inv h1, int_inv h2]
theorem keyT_inv {p : PV} {ns : List Int} (h : ((key? p).bind tup?).bind ints? = some ns) : ∃ l, p = .tup [.tup l, .bool true] ∧ ints? l = some ns := by
  refine Classical.byContradiction fun hG => ?_
  obtain ⟨l, h1, h2⟩ := Option.bind_eq_some_iff.mp h
  obtain ⟨q, h3, h4⟩ := Option.bind_eq_some_iff.mp h1
  refine hG ?_
  exact ⟨l, by rw [key_inv h3, tup_inv h4], h2⟩
theorem keysT_e {p : PV} {l : List PV} {ks : List (List Int)} (h : keysT (p :: l) = some ks) : ∃ x r, ((key? p).bind tup?).bind ints? = some x ∧ keysT l = some r ∧ ks = x :: r := by
  have h : (match ((key? p).bind tup?).bind ints? with | some x => (keysT l).map (x :: ·) | .none => .none) = some ks := h
  cases e : ((key? p).bind tup?).bind ints? with
  | none => rw [e] at h; exact no h
  | some x => rw [e] at h; exact let ⟨r, h, q⟩ := Option.map_eq_some_iff.mp h; ⟨x, r, rfl, h, q.symm⟩
theorem keysI_e {p : PV} {l : List PV} {ks : List Int} (h : keysI (p :: l) = some ks) : ∃ x r, (key? p).bind int? = some x ∧ keysI l = some r ∧ ks = x :: r := by
  have h : (match (key? p).bind int? with | some x => (keysI l).map (x :: ·) | .none => .none) = some ks := h
  cases e : (key? p).bind int? with
  | none => rw [e] at h; exact no h
  | some x => rw [e] at h; exact let ⟨r, h, q⟩ := Option.map_eq_some_iff.mp h; ⟨x, r, rfl, h, q.symm⟩
/-- each value, with its key -/
theorem keyed_cons {K : Type} {R : Value → K → Prop} {k : K} {ks : List K} {v : Value} {vs : List Value} (hk : R v k) (ih : ks.length = vs.length ∧ ∀ (j : Nat) v, vs[j]? = some v → ∃ k, ks[j]? = some k ∧ R v k) :
    (k :: ks).length = (v :: vs).length ∧ ∀ (j : Nat) u, (v :: vs)[j]? = some u → ∃ k', (k :: ks)[j]? = some k' ∧ R u k' :=
  ⟨congrArg (· + 1) ih.1, fun j u e => by
    cases j with
    | zero => exact Option.some.inj e ▸ ⟨k, rfl, hk⟩
    | succ j => exact ih.2 j u e⟩
theorem keysT_ok (l : List PV) : ∀ {vs : List Value} {ks : List (List Int)}, VRs prog w d D l vs → keysT l = some ks → ks.length = vs.length ∧ ∀ (j : Nat) v, vs[j]? = some v → ∃ k, ks[j]? = some k ∧ PairT D v k := by
  induction l with
  | nil => intro vs ks x h; cases (show _ = _ from x); cases h; exact ⟨rfl, fun j v e => by simp at e⟩
  | cons p l ih =>
    intro vs ks x h
    refine Classical.byContradiction fun hG => ?_
    obtain ⟨v, r, rfl, y, z⟩ := x
    obtain ⟨kx, ky, h1, h2, rfl⟩ := keysT_e h
    obtain ⟨m, rfl, h1⟩ := keyT_inv h1
    obtain ⟨a, _, n, rfl, ea, y⟩ := y.tup_i
    obtain ⟨u1, r1, rfl, y1, u2, r2, rfl, y2, rfl⟩ := y
    obtain ⟨ka, us, m, rfl, eka, hus⟩ := y1.tup_i
    refine hG ?_
    cases y2.bool_i
    exact keyed_cons ⟨a, ka, n, rfl, ea, us, m, eka, hus.ints h1⟩ (ih z h2)

theorem keysI_ok (l : List PV) : ∀ {vs : List Value} {ks : List Int}, VRs prog w d D l vs → keysI l = some ks → ks.length = vs.length ∧ ∀ (j : Nat) v, vs[j]? = some v → ∃ k, ks[j]? = some k ∧ PairI D v k := by
  induction l with
  | nil => intro vs ks x h; cases (show _ = _ from x); cases h; exact ⟨rfl, fun j v e => by simp at e⟩
  | cons p l ih =>
    intro vs ks x h
    refine Classical.byContradiction fun hG => ?_
    obtain ⟨v, r, rfl, y, z⟩ := x
    obtain ⟨kx, ky, h1, h2, rfl⟩ := keysI_e h
    refine hG ?_
    cases keyI_inv h1
    refine Classical.byContradiction fun hG => ?_
    obtain ⟨a, _, n, rfl, ea, y⟩ := y.tup_i
    obtain ⟨u1, r1, rfl, y1, u2, r2, rfl, y2, rfl⟩ := y
    obtain ⟨t, rfl⟩ := y1.int_i
    refine hG ?_
    cases y2.bool_i
    exact keyed_cons ⟨a, t, n, rfl, ea⟩ (ih z h2)

theorem Fz.on_but {D : Fz} {h h' : Heap} {a : Addr} (on : D.on h) (da : D a = none) (hs : Heap.ExtBut a h h') : D.on h' := fun b o e => hs b o (by rintro rfl; rw [da] at e; cases e) (on b o e)

theorem pairItems_ok {a : Addr} {vs : List Value} {n : Nat} {Q : List Value → Shared → Prop} (ho : s.heap.get? a = some (tupO vs n)) (h : Q vs s) : wpAny (model prog w) A (Builtin.Dict.pairItems (.ref a)) Q E s := by
  have hT : s.TypeIs (.ref a) "tuple" := ⟨_, ho, rfl⟩
  unfold Builtin.Dict.pairItems
  refine wpAny_bind (wpAny_typeOf hT ?_)
  rw [if_pos (by decide)]
  refine wpAny_bind (wpAny_seqItems ho rfl ?_)
  exact wpAny_pure (by simpa using h)

theorem upd_T {dd it l : Addr} {vs : List Value} {n : Nat} {ks : List (List Int)} (Dit : D it = none) (Dd : D dd = none) (hne : it ≠ dd) (hl : D l = some (lstO vs n)) (hlen : ks.length = vs.length) (hsz : vs.length ≤ sizeLine)
    (hp : ∀ (j : Nat) v, vs[j]? = some v → ∃ k, ks[j]? = some k ∧ PairT D v k) :
    ∀ (k i : Nat) (A : Around) (xs : List (List Int × Addr × Value)) (s : Shared) (R : Result → Shared → Prop), vs.length - i = k → D.on s.heap → s.heap.IsListIter it l i → s.heap.DictOfH (tKind prog w) dd xs →
      (∀ y ∈ xs, KeyT D y.1 y.2.1) → A.in1.in1.units < cLine → A.handled = none → xs.map (·.1) = (ks.take i).foldl addK [] →
      (∀ h' tk xs', h'.DictOfH (tKind prog w) dd xs' → xs'.map (·.1) = dedup ks → (∀ y ∈ xs', KeyT D y.1 y.2.1) → D.on h' → (∀ b o, b ≠ dd → b ≠ it → s.heap.get? b = some o → h'.get? b = some o) → R (.ok (.ret .none)) { s with heap := h', toks := tk }) →
      codeAny (model prog w) A (.builtin "dict.update.loop" ⟨[.ref dd, .ref it, rawInt i, .none], []⟩) R s := by
  intro k
  induction k with
  | zero =>
    intro i A xs s R hk on hit hd hx hu hh hxs hR
    refine codeAny_builtin entry_upd ?_
    rw [Around.under_plainId plain_upd _]
    unfold Builtin.«dict.update.loop»
    have hnone : vs.toArray[i]? = none := by simp; (with_reducible exact q_sb0 ‹_›)
    refine wpAny_bind (wpAny_pyNext_list_end hh hit (IsList_of on hl) hnone fun h' he => ?_)
    show wpAny _ _ (Builtin.Dict.addKeywords dd [] >>= fun _ => ret .none) _ _ _
    refine wpAny_bind (wpAny_pure (wpAny_pure ?_))
    have hd' : h'.DictOfH (tKind prog w) dd xs := by
      refine Classical.byContradiction fun hG => ?_
      obtain ⟨o, es, ep, ho, r1, r2, r3, r4, r5⟩ := hd
      refine hG ?_
      refine ⟨o, es, ep, he _ _ (Ne.symm hne) ho, r1, r2, r3, fun y hy => ?_, r5⟩
      refine Classical.byContradiction fun hG => ?_
      obtain ⟨us, m, e1, e2⟩ := hx y hy
      refine hG ?_
      exact ⟨_, us.toArray, m, Fz.on_but on Dit he _ _ e1, rfl, rfl, by simpa using IntsAre.items (prog := prog) (w := w) e2⟩
    refine hR h' s.toks xs hd' ?_ hx (Fz.on_but on Dit he) fun b o _ hb e => he b o hb e
    rw [hxs, List.take_of_length_le (by exact Nat.le_trans (Nat.le_of_eq hlen) (q_sb0 hk))]; rfl
  | succ k ih =>
    intro i A xs s R hk on hit hd hx hu hh hxs hR
    have hi : i < vs.length := by (with_reducible exact q_sb1 ‹_›)
    refine codeAny_builtin entry_upd ?_
    rw [Around.under_plainId plain_upd _]
    unfold Builtin.«dict.update.loop»
    refine Classical.byContradiction fun hG => ?_
    obtain ⟨kk, hkk, a, ka, m, hva, ea, hka⟩ := hp i vs[i] (by simp [hi])
    refine hG ?_
    refine wpAny_bind (wpAny_pyNext_list_item hit (IsList_of on hl) (x := vs[i]) (by simp [hi]) fun h' hit' hs' => ?_)
    have on' : D.on h' := Fz.on_but on Dit hs'.extBut
    rw [hva]
    show wpAny _ _ (holding [Value.ref a] _ >>= _) _ _ _
    refine wpAny_bind (wpAny_holding ?_)
    refine wpAny_bind (wpAny_tryCatch (pairItems_ok (on' _ _ ea) ?_))
    show wpAny _ _ (holding [Value.ref ka, Value.bool true] (dictSet dd (.ref ka) (.bool true))) _ _ _
    have keyH : ∀ {h : Heap}, D.on h → ∀ {q : List Int} {b : Addr}, KeyT D q b → IsTupleKey (intKind prog w) h q b := fun on q b ⟨us, m, e1, e2⟩ => ⟨_, us.toArray, m, on _ _ e1, rfl, rfl, by simpa using IntsAre.items (prog := prog) (w := w) e2⟩
    have hd' : h'.DictOfH (tKind prog w) dd xs := by
      refine Classical.byContradiction fun hG => ?_
      obtain ⟨o, es, ep, ho, r1, r2, r3, r4, r5⟩ := hd
      refine hG ?_
      exact ⟨o, es, ep, (hs'.2 _ (Ne.symm hne)).trans ho, r1, r2, r3, fun y hy => keyH on' (hx y hy), r5⟩
    have hxl : xs.length ≤ sizeLine := by
      have h1 := dedup_len (ks.take i) []
      rw [← hxs, List.length_map, List.length_take, List.length_nil] at h1
      exact Nat.le_trans h1 (Nat.le_trans (Nat.le_of_eq (Nat.zero_add _)) (Nat.le_trans (Nat.min_le_right _ _) (Nat.le_trans (Nat.le_of_eq hlen) hsz)))
    refine wpAny_holding (wpAny_dictSet_heap (knd := tKind prog w) (by simp only [tKind, tupleKind]; exact Nat.lt_of_le_of_lt (Nat.le_succ _) hu) (keyH on' hka) hd' (fun h₂ hd₂ hs₂ => ?_) hxl)
    have on₂ : D.on h₂ := Fz.on_but on' Dd hs₂.extBut
    have hc : ((i : Int) + 1) = ((i + 1 : Nat) : Int) := by push_cast; rfl
    show wpAny _ _ (again (.builtin "dict.update.loop" ⟨[.ref dd, .ref it, rawInt ((i : Int) + 1), .none], []⟩)) _ _ _
    rw [hc]
    refine wpAny_pure ⟨plainId_quiet plain_upd _, ?_⟩
    refine ih (i + 1) A (storedH xs kk ka (.bool true)) _ R (by (with_reducible exact q_sb2 ‹_›)) on₂ ((hit'.extBut hs₂.extBut hne)) hd₂ (fun y hy => ?_) hu hh ?_ fun h₃ tk xs' a1 a2 a3 a4 a5 => ?_
    · rcases mem_storedH hy with ⟨z, hz, e1, e2⟩ | ⟨e1, e2⟩
      · rw [e1, e2]; exact hx z hz
      · rw [e1, e2]; exact hka
    · rw [storedH_fst, hxs, dedup_snoc ks i kk hkk]
    · exact hR h₃ tk xs' a1 a2 a3 a4 fun b o hb1 hb2 e => a5 b o hb1 hb2 ((hs₂.2 b hb1).trans ((hs'.2 b hb2).trans e))

theorem upd_I {dd it l : Addr} {vs : List Value} {n : Nat} {ks : List Int} (Dit : D it = none) (Dd : D dd = none) (hne : it ≠ dd) (hl : D l = some (lstO vs n)) (hlen : ks.length = vs.length) (hsz : vs.length ≤ sizeLine)
    (hp : ∀ (j : Nat) v, vs[j]? = some v → ∃ k, ks[j]? = some k ∧ PairI D v k) :
    ∀ (k i : Nat) (A : Around) (xs : List (Int × Value)) (s : Shared) (R : Result → Shared → Prop), vs.length - i = k → D.on s.heap → s.heap.IsListIter it l i → s.heap.DictOf (iKind prog w) dd xs →
      (∀ y ∈ xs, y.2 = .bool true) → A.in1.in1.units < cLine → A.handled = none → xs.map (·.1) = (ks.take i).foldl addK [] →
      (∀ h' tk xs', h'.DictOf (iKind prog w) dd xs' → xs'.map (·.1) = dedup ks → (∀ y ∈ xs', y.2 = .bool true) → D.on h' → (∀ b o, b ≠ dd → b ≠ it → s.heap.get? b = some o → h'.get? b = some o) → R (.ok (.ret .none)) { s with heap := h', toks := tk }) →
      codeAny (model prog w) A (.builtin "dict.update.loop" ⟨[.ref dd, .ref it, rawInt i, .none], []⟩) R s := by
  intro k
  induction k with
  | zero =>
    intro i A xs s R hk on hit hd hx hu hh hxs hR
    refine codeAny_builtin entry_upd ?_
    rw [Around.under_plainId plain_upd _]
    unfold Builtin.«dict.update.loop»
    have hnone : vs.toArray[i]? = none := by simp; (with_reducible exact q_sb0 ‹_›)
    refine wpAny_bind (wpAny_pyNext_list_end hh hit (IsList_of on hl) hnone fun h' he => ?_)
    show wpAny _ _ (Builtin.Dict.addKeywords dd [] >>= fun _ => ret .none) _ _ _
    refine wpAny_bind (wpAny_pure (wpAny_pure ?_))
    have hd' : h'.DictOf (iKind prog w) dd xs := hd.extBut he (Ne.symm hne)
    refine hR h' s.toks xs hd' ?_ hx (Fz.on_but on Dit he) fun b o _ hb e => he b o hb e
    rw [hxs, List.take_of_length_le (by exact Nat.le_trans (Nat.le_of_eq hlen) (q_sb0 hk))]; rfl
  | succ k ih =>
    intro i A xs s R hk on hit hd hx hu hh hxs hR
    have hi : i < vs.length := by (with_reducible exact q_sb1 ‹_›)
    refine codeAny_builtin entry_upd ?_
    rw [Around.under_plainId plain_upd _]
    unfold Builtin.«dict.update.loop»
    refine Classical.byContradiction fun hG => ?_
    obtain ⟨kk, hkk, a, t, m, hva, ea⟩ := hp i vs[i] (by simp [hi])
    refine hG ?_
    refine wpAny_bind (wpAny_pyNext_list_item hit (IsList_of on hl) (x := vs[i]) (by simp [hi]) fun h' hit' hs' => ?_)
    have on' : D.on h' := Fz.on_but on Dit hs'.extBut
    rw [hva]
    show wpAny _ _ (holding [Value.ref a] _ >>= _) _ _ _
    refine wpAny_bind (wpAny_holding ?_)
    refine wpAny_bind (wpAny_tryCatch (pairItems_ok (on' _ _ ea) ?_))
    show wpAny _ _ (holding [Value.int kk t, Value.bool true] (dictSet dd (.int kk t) (.bool true))) _ _ _
    have hd' : h'.DictOf (iKind prog w) dd xs := hd.extBut hs'.extBut (Ne.symm hne)
    have hxl : xs.length ≤ sizeLine := by
      have h1 := dedup_len (ks.take i) []
      rw [← hxs, List.length_map, List.length_take, List.length_nil] at h1
      exact Nat.le_trans h1 (Nat.le_trans (Nat.le_of_eq (Nat.zero_add _)) (Nat.le_trans (Nat.min_le_right _ _) (Nat.le_trans (Nat.le_of_eq hlen) hsz)))
    refine wpAny_holding (wpAny_dictSet_pairs (knd := iKind prog w) (k := kk) (by simp [iKind, intKind, Value.isInt]) hd' (fun h₂ hd₂ hs₂ => ?_) hxl)
    have on₂ : D.on h₂ := Fz.on_but on' Dd hs₂.extBut
    have hc : ((i : Int) + 1) = ((i + 1 : Nat) : Int) := by push_cast; rfl
    show wpAny _ _ (again (.builtin "dict.update.loop" ⟨[.ref dd, .ref it, rawInt ((i : Int) + 1), .none], []⟩)) _ _ _
    rw [hc]
    refine wpAny_pure ⟨plainId_quiet plain_upd _, ?_⟩
    refine ih (i + 1) A (stored xs kk (.bool true)) _ R (by (with_reducible exact q_sb2 ‹_›)) on₂ ((hit'.extBut hs₂.extBut hne)) hd₂ (fun y hy => ?_) hu hh ?_ fun h₃ tk xs' a1 a2 a3 a4 a5 => ?_
    · unfold stored at hy
      split at hy
      · obtain ⟨z, hz, rfl⟩ := List.mem_map.mp hy
        split
        · rfl
        · exact hx z hz
      · rcases List.mem_append.mp hy with hz | hz
        · exact hx y hz
        · simp at hz; subst hz; rfl
    · rw [stored_fst, hxs, dedup_snoc ks i kk hkk]
    · exact hR h₃ tk xs' a1 a2 a3 a4 fun b o hb1 hb2 e => a5 b o hb1 hb2 ((hs₂.2 b hb1).trans ((hs'.2 b hb2).trans e))

theorem list_ne_dict : ((Value.type "list" != Value.type "dict") = true) := by decide

/-- dict(a list of pairs): up to the loop -/
theorem dict_start {l : Addr} {vs : List Value} {n : Nat} (on : D.on s.heap) (hl : D l = some (lstO vs n)) (hh : A.handled = none)
    (h : ∀ it h₁ tk, s.heap.objs.size < it → h₁.IsListIter it l 0 → s.heap.get? it = none → (h₁.get? s.heap.objs.size = some { cls := .type "dict", data := .dict #[] }) → (∀ b o, s.heap.get? b = some o → h₁.get? b = some o) →
      codeAny (model prog w) A.in1 (.builtin "dict.update.loop" ⟨[.ref s.heap.objs.size, .ref it, rawInt (0 : Nat), .none], []⟩) (wants (fun r s₂ => r = .none ∧ Q (.ref s.heap.objs.size) s₂) E) { s with heap := h₁, toks := tk }) :
    wpAny (model prog w) A (call (.type "dict") [.ref l]) Q E s := by
  refine callType_codes (Q₁ := fun obj s₁ => obj = .ref s.heap.objs.size ∧ s₁ = { s with heap := s.heap.push { cls := .type "dict", data := .dict #[] } }) F.kt_called_dict (F.kt_typeCall_dict_1 _) F.entry_dict_init (kt_code_dict_new _ ⟨rfl, rfl⟩) ?_
  rintro obj s₁ ⟨rfl, rfl⟩
  have hnew : (s.heap.push { cls := .type "dict", data := .dict #[] }).DictOf (iKind prog w) s.heap.objs.size [] := Heap.DictOf.new s.heap
  have h1 : ∀ b o, s.heap.get? b = some o → (s.heap.push { cls := .type "dict", data := .dict #[] }).get? b = some o := fun b o e => Heap.get?_push_of_some _ e
  have hg := h1 _ _ (on _ _ hl)
  refine ⟨hnew.typeIs, F.args_dict_init_2 _ _, ?_⟩
  unfold Builtin.«dict.__init__»
  refine wpAny_bind ?_
  unfold Builtin.Dict.selfAndRest
  refine wpAny_bind (wpAny_notOrdered_dict hnew.typeIs ?_)
  show wpAny _ _ (pure (s.heap.objs.size, [Value.ref l])) _ _ _
  refine wpAny_pure ?_
  show wpAny _ _ (Builtin.Dict.updateFrom "dict.__init__" s.heap.objs.size (.ref l) [] .none) _ _ _
  unfold Builtin.Dict.updateFrom
  refine wpAny_bind (wpAny_typeOf ⟨_, hg, rfl⟩ ?_)
  rw [if_pos list_ne_dict]
  refine wpAny_bind (getAttr?_keys hg hh fun h₂ tk₂ e₂ => ?_)
  rw [if_pos (by rfl)]
  refine wpAny_bind (wpAny_rule ?_)
  refine wpAny_bind (wpAny_pyIter_list ⟨_, e₂ _ _ hg, rfl, _, rfl⟩ ?_)
  have hne : (h₂.get? s.heap.objs.size) = some { cls := .type "dict", data := .dict #[] } := e₂ _ _ (Heap.get?_push_size _ rfl)
  have hlt : s.heap.objs.size < h₂.objs.size := Heap.lt_size hne
  refine wpAny_pure ⟨plainId_quiet plain_upd _, ?_⟩
  refine h _ _ tk₂ hlt ?_ (get?_ge (Nat.le_of_lt hlt)) (Heap.get?_push_of_some _ hne) fun b o e => Heap.get?_push_of_some _ (e₂ _ _ (h1 b o e))
  exact ⟨_, Heap.get?_push_size _ rfl, rfl, rfl⟩

theorem zip_keys_const {K : Type} (xs : List (K × Value)) (h : ∀ y ∈ xs, y.2 = .bool true) : xs = (xs.map (·.1)).zip ((xs.map (·.1)).map fun _ => .bool true) := by
  induction xs with
  | nil => rfl
  | cons y r ih => simp only [List.map_cons, List.zip_cons_cons]; rw [← ih fun z hz => h z (.tail _ hz), ← h y (.head _)]
theorem VRs.const {D : Fz} {K : Type} : ∀ (l : List K), VRs prog w d D (l.map fun _ => .bool true) (l.map fun _ => Value.bool true)
  | [] => VRs.nil
  | _ :: l => VRs.cons rfl (VRs.const l)

theorem dict_ok {p : PV} {l : List PV} {u : Value} (hu : A.in1.in1.in1.units < cLine) (hh : A.handled = none) (g : Gd prog w d cells H D σ s.heap) (x : VR prog w d D (.list l) u) (hsm : l.length ≤ sizeLine) (h : pairsDict l = some p)
    (e : Ends prog w d cells p σ D σ s Q) : wpAny (model prog w) A (call (.type "dict") [u]) Q E s := by
  refine Classical.byContradiction fun hG => ?_
  obtain ⟨a, vs, n, rfl, ea, x⟩ := x
  refine hG ?_
  have hvl := x.length
  unfold pairsDict at h
  refine dict_start g.on ea hh fun it h₁ tk hlt hit itn hdd hk => ?_
  have ddn : D s.heap.objs.size = none := g.free (get?_ge (Nat.le_refl _))
  have itD : D it = none := g.free itn
  have on₁ : D.on h₁ := fun b o eb => hk b o (g.on b o eb)
  have hoth := g.other (Nat.le_refl s.heap.objs.size)
  split at h
  · rename_i ks hks
    cases h
    obtain ⟨e1, e2⟩ := keysT_ok _ x hks
    refine upd_T itD ddn (Nat.ne_of_gt hlt) ea e1 (by (with_reducible exact Nat.le_trans (Nat.le_of_eq ‹_›) ‹_›)) e2 _ 0 A.in1 [] _ _ rfl on₁ hit ⟨_, #[], 0, hdd, ⟨rfl, rfl, rfl⟩ , rfl, rfl, by simp, by simp⟩ (by simp) hu hh rfl fun h' tk' xs' a1 a2 a3 a4 a5 => ⟨rfl, ?_⟩
    refine Classical.byContradiction fun hG => ?_
    obtain ⟨o, es, ep, ho, r1, r2, r3, r4, r5⟩ := a1
    refine hG ?_
    have le := Fz.put_le (o := o) ddn
    refine e _ (D.put s.heap.objs.size o) h' tk' (Ok.add g (fun b o eb => ?_) (get?_ge (Nat.le_refl _)) ho) ?_
    · exact a5 b o (Nat.ne_of_lt (Heap.lt_size eb)) (by rintro rfl; rw [itn] at eb; cases eb) (hk b o eb)
    · simp only [VR]
      exact ⟨_, rfl, o, es, ep, xs', Fz.put_at, r1, r2, r3, a2, dedup_nodup _ List.nodup_nil, fun y hy => let ⟨us, m, b1, b2⟩ := a3 y hy; ⟨us, m, le _ _ b1, b2⟩, hoth⟩
  · split at h
    · rename_i ks hks
      cases h
      obtain ⟨e1, e2⟩ := keysI_ok _ x hks
      refine upd_I itD ddn (Nat.ne_of_gt hlt) ea e1 (by (with_reducible exact Nat.le_trans (Nat.le_of_eq ‹_›) ‹_›)) e2 _ 0 A.in1 [] _ _ rfl on₁ hit ⟨_, #[], 0, hdd, ⟨rfl, rfl, rfl⟩ , rfl, fun _ he => by simp at he, .nil, List.nodup_nil⟩ (by simp) hu hh rfl fun h' tk' xs' a1 a2 a3 a4 a5 => ⟨rfl, ?_⟩
      refine Classical.byContradiction fun hG => ?_
      obtain ⟨o, es, ep, ho, r1, r2, r3, r4, r5⟩ := a1
      refine hG ?_
      refine e _ (D.put s.heap.objs.size o) h' tk' (Ok.add g (fun b o eb => ?_) (get?_ge (Nat.le_refl _)) ho) ?_
      · exact a5 b o (Nat.ne_of_lt (Heap.lt_size eb)) (by rintro rfl; rw [itn] at eb; cases eb) (hk b o eb)
      · rw [zip_keys_const xs' a3, a2] at r4
        exact ⟨_, _, rfl, ⟨o, es, ep, Fz.put_at, r1, r2, r3, r4, dedup_nodup _ List.nodup_nil, by simp, hoth⟩, VRs.const _⟩
    · cases h
end
end Mine

set_option tactic.hygienic false
/- part SortP -/
namespace Mine

/-- every question is in range, and the run along lt's answers ends in P -/
noncomputable def KP {α : Type} (lt : Nat → Nat → Bool) (n : Nat) : KasT α → (α → Prop) → Prop
  | .ret a, P => P a
  | .ask i j k, P => i < n ∧ j < n ∧ KP lt n (k (lt i j)) P
theorem KP.bind {α β : Type} {lt : Nat → Nat → Bool} {n : Nat} {f : α → KasT β} {P : β → Prop} : ∀ {t : KasT α}, KP lt n t (fun a => KP lt n (f a) P) → KP lt n (t.bind f) P
  | .ret _, h => h
  | .ask i j k, ⟨a, b, c⟩ => ⟨a, b, KP.bind (t := k (lt i j)) c⟩
theorem KP.mono {α : Type} {lt : Nat → Nat → Bool} {n : Nat} {P P' : α → Prop} (hp : ∀ a, P a → P' a) : ∀ {t : KasT α}, KP lt n t P → KP lt n t P'
  | .ret _, h => hp _ h
  | .ask i j k, ⟨a, b, c⟩ => ⟨a, b, KP.mono hp (t := k (lt i j)) c⟩
theorem KP.wp {α : Type} {lt : Nat → Nat → Bool} {n : Nat} {cmp : Nat → Nat → (Bool → Shared → Prop) → Shared → Prop} {St : Shared → Prop}
    (hc : ∀ i j (C : Bool → Shared → Prop) s, i < n → j < n → St s → (∀ s', St s' → C (lt i j) s') → cmp i j C s) :
    ∀ (t : KasT α) (P : α → Prop) (Q : α → Shared → Prop) (s : Shared), KP lt n t P → St s → (∀ a s', P a → St s' → Q a s') → t.kasWp cmp Q s
  | .ret a, P, Q, s, hp, hs, h => h a s hp hs
  | .ask i j k, P, Q, s, hp, hs, h => hc i j _ s hp.1 hp.2.1 hs fun s' hs' => KP.wp hc (k (lt i j)) P Q s' hp.2.2 hs' h

section
variable {lt : Nat → Nat → Bool} {n : Nat}
/-- a strict total order of 0 .. n-1 -/
structure STO (lt : Nat → Nat → Bool) (n : Nat) : Prop where
  asymm : ∀ a b, a < n → b < n → lt a b = true → lt b a = false
  trans : ∀ a b c, a < n → b < n → c < n → lt a b = true → lt b c = true → lt a c = true
  total : ∀ a b, a < n → b < n → a ≠ b → lt a b = false → lt b a = true

noncomputable abbrev gp (p : Array Nat) (i : Nat) : Nat := p.getD i 0
structure Gp (n : Nat) (p : Array Nat) : Prop where
  perm : p.Perm (List.range n).toArray
theorem Gp.size {p : Array Nat} (g : Gp n p) : p.size = n := by rw [g.perm.size_eq]; simp
theorem gp_eq {p : Array Nat} {i : Nat} (h : i < p.size) : gp p i = p[i] := by simp [gp, Array.getD, h]
theorem Gp.bd {p : Array Nat} (g : Gp n p) {i : Nat} (h : i < n) : gp p i < n := by
  have hs : i < p.size := by rw [g.size]; exact h
  rw [gp_eq hs]
  have hm : p[i] ∈ p.toList := by simp
  have := (Array.perm_iff_toList_perm.mp g.perm).mem_iff.mp hm
  simpa using this
theorem nodup_inj {α : Type} {l : List α} (nd : l.Nodup) {i j : Nat} (hi : i < l.length) (hj : j < l.length) (h : l[i] = l[j]) : i = j := by
  have q := List.pairwise_iff_getElem.mp nd
  rcases Nat.lt_trichotomy i j with c | c | c
  · exact absurd h (q i j hi hj c)
  · exact c
  · exact absurd h.symm (q j i hj hi c)
theorem Gp.inj {p : Array Nat} (g : Gp n p) {i j : Nat} (hi : i < n) (hj : j < n) (h : gp p i = gp p j) : i = j := by
  have hs : i < p.size := by rw [g.size]; exact hi
  have hs2 : j < p.size := by rw [g.size]; exact hj
  have nd : p.toList.Nodup := (Array.perm_iff_toList_perm.mp g.perm).nodup_iff.mpr (by simpa using List.nodup_range)
  rw [gp_eq hs, gp_eq hs2] at h
  exact nodup_inj nd (by simpa using hs) (by simpa using hs2) (by simpa using h)
theorem Gp.start (n : Nat) : Gp n (List.toArray (List.range n)) := ⟨Array.Perm.refl _⟩
theorem Gp.rev {p : Array Nat} (g : Gp n p) (i j : Nat) : Gp n (kas_rev p i j) := ⟨(mirror_perm _ _ _ _).trans g.perm⟩
theorem Gp.bub {p : Array Nat} (g : Gp n p) (i j : Nat) : Gp n (bubble p i j) := ⟨(bubble_perm _ _ _).trans g.perm⟩
theorem gp_get? {p q : Array Nat} {i j : Nat} (h : p[i]? = q[j]?) : gp p i = gp q j := by unfold gp; rw [Array.getD_eq_getD_getElem?, Array.getD_eq_getD_getElem?, h]
theorem gp_rev {p : Array Nat} {i j : Nat} (hj : j ≤ p.size) (k : Nat) : gp (kas_rev p i j) k = if i ≤ k ∧ k < j then gp p (i + j - 1 - k) else gp p k := by
  have e := getElem?_mirror_all (i := i) hj k
  unfold kas_rev
  split <;> rename_i h
  · rw [if_pos h] at e; exact gp_get? e
  · rw [if_neg h] at e; exact gp_get? e
theorem gp_bub {p : Array Nat} {src d : Nat} (hs : src < p.size) (hd : d ≤ src) (k : Nat) : gp (bubble p src d) k = if k = src - d then gp p src else if src - d < k ∧ k ≤ src then gp p (k - 1) else gp p k := by
  have e := getElem?_bubble hs d hd k
  by_cases h1 : k = src - d
  · rw [if_pos h1] at e ⊢; exact gp_get? e
  · rw [if_neg h1] at e ⊢
    by_cases h2 : src - d < k ∧ k ≤ src
    · rw [if_pos h2] at e ⊢; exact gp_get? e
    · rw [if_neg h2] at e ⊢; exact gp_get? e

noncomputable def Asc (lt : Nat → Nat → Bool) (p : Array Nat) (k : Nat) : Prop := ∀ i j, i < j → j < k → lt (gp p i) (gp p j) = true
noncomputable def Dsc (lt : Nat → Nat → Bool) (p : Array Nat) (k : Nat) : Prop := ∀ i j, i < j → j < k → lt (gp p j) (gp p i) = true

theorem Asc.ext (O : STO lt n) {p : Array Nat} (g : Gp n p) {k : Nat} (a : Asc lt p k) (hk : k < n) (h1 : 1 ≤ k) (h : lt (gp p k) (gp p (k - 1)) = false) : Asc lt p (k + 1) := by
  have hlast : lt (gp p (k - 1)) (gp p k) = true := O.total _ _ (g.bd hk) (g.bd (by (with_reducible exact q_pl ‹_›))) (fun e => by have := g.inj hk (by (with_reducible exact q_pl ‹_›)) e; (with_reducible exact q_np1 ‹_› ‹_›)) h
  intro i j hij hj
  by_cases hjk : j = k
  · subst hjk
    by_cases hi : i = j - 1
    · rw [hi]; exact hlast
    · exact O.trans _ _ _ (g.bd (by (with_reducible exact Nat.lt_trans ‹_› ‹_›))) (g.bd (by (with_reducible exact q_pl ‹_›))) (g.bd hk) (a i (j - 1) (Nat.lt_of_le_of_ne (Nat.le_sub_one_of_lt hij) hi) (by (with_reducible exact q_ps ‹_›))) hlast
  · exact a i j hij (by (with_reducible exact q_le1 ‹_› ‹_›))
theorem Dsc.ext (O : STO lt n) {p : Array Nat} (g : Gp n p) {k : Nat} (a : Dsc lt p k) (hk : k < n) (h1 : 1 ≤ k) (h : lt (gp p k) (gp p (k - 1)) = true) : Dsc lt p (k + 1) := by
  intro i j hij hj
  by_cases hjk : j = k
  · subst hjk
    by_cases hi : i = j - 1
    · rw [hi]; exact h
    · exact O.trans _ _ _ (g.bd hk) (g.bd (by (with_reducible exact q_pl ‹_›))) (g.bd (by (with_reducible exact Nat.lt_trans ‹_› ‹_›))) h (a i (j - 1) (Nat.lt_of_le_of_ne (Nat.le_sub_one_of_lt hij) hi) (by (with_reducible exact q_ps ‹_›)))
  · exact a i j hij (by (with_reducible exact q_le1 ‹_› ‹_›))

theorem asc_ok (O : STO lt n) {p : Array Nat} (g : Gp n p) : ∀ (f k : Nat), 1 ≤ k → k + f ≤ n → Asc lt p k →
    KP lt n (kas_asc p f k) fun m => k ≤ m ∧ m ≤ k + f ∧ Asc lt p m ∧ (m < k + f → lt (gp p m) (gp p (m - 1)) = true)
  | 0, k, _, _, a => ⟨Nat.le_refl _, Nat.le_refl _, a, fun h => absurd h (by (simp_all))⟩
  | f + 1, k, h1, hk, a => by
    refine ⟨g.bd (q_mll hk), g.bd (q_pl (q_mll hk)), ?_⟩
    cases e : lt (gp p k) (gp p (k - 1)) with
    | true =>
      simp only [if_true]
      exact ⟨Nat.le_refl _, by (with_reducible exact Nat.le_add_right _ _), a, fun _ => e⟩
    | false =>
      simp only [Bool.false_eq_true, if_false]
      refine KP.mono (fun m hm => ?_) (asc_ok O g f (k + 1) (by (with_reducible exact q_an ‹_›)) (by (with_reducible exact q_msl ‹_›)) (a.ext O g (by (with_reducible exact q_mll ‹_›)) h1 e))
      exact ⟨Nat.le_of_succ_le hm.1, Nat.le_trans hm.2.1 (Nat.le_of_eq (Nat.succ_add k f)), hm.2.2.1, fun h => hm.2.2.2 (Nat.lt_of_lt_of_le h (Nat.le_of_eq (Nat.succ_add k f).symm))⟩

theorem desc_ok (O : STO lt n) : ∀ (f : Nat) (p : Array Nat) (k : Nat), Gp n p → 2 ≤ k → k + f ≤ n → Dsc lt p k →
    KP lt n (kas_desc f p k 0) fun r => Gp n r.1 ∧ k ≤ r.2.1 ∧ r.2.1 ≤ k + f ∧ Dsc lt r.1 r.2.1 ∧ r.2.2 = 0
  | 0, p, k, g, _, _, a => ⟨g, Nat.le_refl _, Nat.le_refl _, a, rfl⟩
  | f + 1, p, k, g, h1, hk, a => by
    refine ⟨g.bd (q_mll hk), g.bd (q_pl (q_mll hk)), ?_⟩
    cases e : lt (gp p k) (gp p (k - 1)) with
    | true =>
      simp only [if_true]
      rw [if_neg (by (with_reducible exact (by decide)))]
      refine KP.mono (fun r hr => ?_) (desc_ok O f p (k + 1) g (by (with_reducible exact q_an ‹_›)) (by (with_reducible exact q_msl ‹_›)) (a.ext O g (by (with_reducible exact q_mll ‹_›)) (by (with_reducible exact Nat.le_of_succ_le ‹_›)) e))
      exact ⟨hr.1, Nat.le_of_succ_le hr.2.1, Nat.le_trans hr.2.2.1 (Nat.le_of_eq (Nat.succ_add k f)), hr.2.2.2.1, hr.2.2.2.2⟩
    | false =>
      simp only [Bool.false_eq_true, if_false]
      have e2 := O.total _ _ (g.bd (i := k) (by (with_reducible exact q_mll ‹_›))) (g.bd (i := k - 1) (q_pl (q_mll hk))) (fun e => by have := g.inj (i := k) (j := k - 1) (q_mll hk) (q_pl (q_mll hk)) e; (with_reducible exact q_np2 ‹_› ‹_›)) e
      refine ⟨g.bd (q_pl (q_mll hk)), g.bd (q_mll hk), ?_⟩
      rw [show lt (p.getD (k - 1) 0) (p.getD k 0) = true from e2]
      simp only [if_true]
      exact ⟨g, Nat.le_refl _, Nat.le_add_right _ _, a, rfl⟩

theorem tail3_ok (O : STO lt n) {p : Array Nat} (g : Gp n p) {k : Nat} (h1 : 1 ≤ k) (hk : k ≤ n) (a : Dsc lt p k) :
    KP lt n (kas_tail3 k n p) fun r => 1 ≤ r.1 ∧ r.1 ≤ n ∧ Gp n r.2 ∧ Asc lt r.2 r.1 := by
  have g' := g.rev 0 k
  have a' : Asc lt (kas_rev p 0 k) k := by
    intro i j hij hj
    rw [gp_rev (by rw [g.size]; exact hk), gp_rev (by rw [g.size]; exact hk), if_pos ⟨Nat.zero_le _, by (with_reducible exact Nat.lt_trans ‹_› ‹_›)⟩, if_pos ⟨Nat.zero_le _, by (with_reducible assumption)⟩]
    exact a _ _ (by exact q_137a hij hj) (by exact q_137b h1)
  unfold kas_tail3
  refine KP.bind (KP.mono (fun m hm => ?_) (asc_ok O g' (n - k) k h1 (by (simp_all)) a'))
  exact ⟨by have := hm.1; (with_reducible exact Nat.le_trans ‹_› ‹_›), Nat.le_trans hm.2.1 (Nat.le_of_eq (Nat.add_sub_of_le hk)), g', hm.2.2.1⟩

theorem count_ok (O : STO lt n) (h2 : 2 ≤ n) {p : Array Nat} (g : Gp n p) :
    KP lt n (kas_count n p) fun r => 1 ≤ r.1 ∧ r.1 ≤ n ∧ Gp n r.2 ∧ Asc lt r.2 r.1 := by
  unfold kas_count
  refine KP.bind (KP.mono (fun m hm => ?_) (asc_ok O g (n - 1) 1 (Nat.le_refl _) (Nat.le_of_eq (Nat.add_sub_of_le (Nat.le_of_succ_le h2))) fun i j hij hj => absurd (Nat.lt_of_le_of_lt (Nat.zero_le i) hij) (Nat.not_lt.mpr (Nat.le_of_lt_succ hj))))
  refine Classical.byContradiction fun hG => ?_
  obtain ⟨m1, m2, m3, m4⟩ := hm
  refine hG ?_
  have hmle : m ≤ n := Nat.le_trans m2 (Nat.le_of_eq (Nat.add_sub_of_le (Nat.le_of_succ_le h2)))
  by_cases hmn : m = n
  · rw [if_pos (by simp [hmn])]
    exact ⟨m1, by (with_reducible exact q_el ‹_›), g, m3⟩
  · rw [if_neg (by simp [hmn])]
    by_cases hm1 : m > 1
    · rw [if_pos hm1]
      refine ⟨g.bd (by (solve_by_elim (maxDepth := 6) only [Nat.le_trans, Nat.lt_of_lt_of_le, Nat.lt_of_le_of_lt, Nat.le_of_lt, *])), g.bd (Nat.lt_of_lt_of_le (Nat.sub_lt m1 Nat.one_pos) hmle), ?_⟩
      have e : lt (p.getD 0 0) (p.getD (m - 1) 0) = true := m3 0 (m - 1) (by (with_reducible exact q_sp ‹_›)) (by (with_reducible exact q_ps ‹_›))
      rw [e]
      simp only [if_true]
      exact ⟨m1, hmle, g, m3⟩
    · rw [if_neg hm1]
      have e1 : m = 1 := by (with_reducible exact Nat.le_antisymm (Nat.not_lt.mp ‹_›) ‹_›)
      subst e1
      have h0 : lt (gp p 1) (gp p 0) = true := m4 (Nat.lt_add_of_pos_right (Nat.sub_pos_of_lt h2))
      have d2 : Dsc lt p (1 + 1) := fun i j hij hj => by
        have : j = 1 := Nat.le_antisymm (Nat.le_of_lt_succ hj) (Nat.lt_of_le_of_lt (Nat.zero_le i) hij)
        have : i = 0 := by (simp_all)
        subst_vars; exact h0
      unfold kas_descPart
      refine KP.bind (KP.mono (fun r hr => ?_) (desc_ok O (n - (1 + 1)) p (1 + 1) g (Nat.le_refl _) (by (simp_all)) d2))
      refine Classical.byContradiction fun hG => ?_
      obtain ⟨q, k', z⟩ := r
      obtain ⟨r1, r2, r3, r4, r5⟩ := hr
      refine hG ?_
      dsimp only at r1 r2 r3 r4 r5 ⊢
      subst r5
      rw [if_neg (by (with_reducible exact (by decide)))]
      exact tail3_ok O r1 (by (with_reducible exact q_slack0 ‹_›)) (by (simp_all)) r4

theorem place_ok (O : STO lt n) {p : Array Nat} (g : Gp n p) {k : Nat} (hk : k < n) (a : Asc lt p k) : ∀ (f l r : Nat), l ≤ r → r ≤ k → r - l ≤ f →
    (∀ i, i < l → lt (gp p i) (gp p k) = true) → (∀ i, r ≤ i → i < k → lt (gp p k) (gp p i) = true) →
    KP lt n (kas_place p k f l r) fun m => m ≤ k ∧ (∀ i, i < m → lt (gp p i) (gp p k) = true) ∧ (∀ i, m ≤ i → i < k → lt (gp p k) (gp p i) = true)
  | 0, l, r, h1, h2, h3, a1, a2 => ⟨by (with_reducible exact Nat.le_trans ‹_› ‹_›), a1, fun i hi hk => a2 i (Nat.le_trans (Nat.le_of_sub_eq_zero (Nat.le_zero.mp h3)) hi) hk⟩
  | f + 1, l, r, h1, h2, h3, a1, a2 => by
    unfold kas_place
    by_cases hlr : l ≥ r
    · rw [if_pos hlr]
      exact ⟨by (with_reducible exact Nat.le_trans ‹_› ‹_›), a1, fun i hi hk => a2 i (by (with_reducible exact Nat.le_trans ‹_› ‹_›)) hk⟩
    · rw [if_neg hlr]
      refine ⟨g.bd hk, g.bd (by (with_reducible exact Nat.lt_trans (Nat.lt_of_lt_of_le (q_mid ‹_›) ‹_›) ‹_›)), ?_⟩
      cases e : lt (gp p k) (gp p ((l + r) / 2)) with
      | true =>
        simp only [if_true]
        refine place_ok O g hk a f l ((l + r) / 2) (by (with_reducible exact q_midl ‹_›)) (by (with_reducible exact Nat.le_of_lt (Nat.lt_of_lt_of_le (q_mid ‹_›) ‹_›))) (by (with_reducible exact q_mid1 ‹_› ‹_›)) a1 fun i hi hik => ?_
        by_cases hm : i = (l + r) / 2
        · rw [hm]; exact e
        · exact O.trans _ _ _ (g.bd hk) (g.bd (by (with_reducible exact Nat.lt_trans (Nat.lt_of_lt_of_le (q_mid ‹_›) ‹_›) ‹_›))) (g.bd (by (with_reducible exact Nat.lt_trans ‹_› ‹_›))) e (a _ _ (Nat.lt_of_le_of_ne hi (Ne.symm hm)) hik)
      | false =>
        simp only [Bool.false_eq_true, if_false]
        have e2 := O.total _ _ (g.bd hk) (g.bd (i := (l + r) / 2) (by (with_reducible exact Nat.lt_trans (Nat.lt_of_lt_of_le (q_mid ‹_›) ‹_›) ‹_›))) (fun e => by have := g.inj (i := k) (j := (l + r) / 2) (by (with_reducible assumption)) (by (with_reducible exact Nat.lt_trans (Nat.lt_of_lt_of_le (q_mid ‹_›) ‹_›) ‹_›)) e; exact absurd (Nat.lt_of_lt_of_le (q_mid hlr) (Nat.le_trans h2 (Nat.le_of_eq this))) (Nat.lt_irrefl _)) e
        refine place_ok O g hk a f ((l + r) / 2 + 1) r (q_mid hlr) h2 (by (with_reducible exact q_mid2 ‹_› ‹_›)) (fun i hi => ?_) a2
        by_cases hm : i = (l + r) / 2
        · rw [hm]; exact e2
        · exact O.trans _ _ _ (g.bd (Nat.lt_of_le_of_lt (Nat.le_of_lt_succ hi) (Nat.lt_trans (Nat.lt_of_lt_of_le (q_mid hlr) h2) hk))) (g.bd (by (with_reducible exact Nat.lt_trans (Nat.lt_of_lt_of_le (q_mid ‹_›) ‹_›) ‹_›))) (g.bd hk) (a _ _ (show i < (l + r) / 2 by (with_reducible exact q_le1 ‹_› ‹_›)) (by (with_reducible exact Nat.lt_of_lt_of_le (q_mid ‹_›) ‹_›))) e2

theorem bin_sorted (O : STO lt n) : ∀ (f : Nat) (p : Array Nat) (k : Nat), Gp n p → k + f = n → Asc lt p k → KP lt n (kas_bin f p k) fun q => Gp n q ∧ Asc lt q n
  | 0, p, k, g, h, a => ⟨g, (show k = n by (solve_by_elim (maxDepth := 6) only [Nat.le_trans, Nat.lt_of_lt_of_le, Nat.lt_of_le_of_lt, Nat.le_of_lt, *])) ▸ a⟩
  | f + 1, p, k, g, h, a => by
    unfold kas_bin
    have hk : k < n := by (with_reducible exact q_ml ‹_›)
    refine KP.bind (KP.mono (fun l hl => ?_) (place_ok O g hk a k 0 k (Nat.zero_le _) (Nat.le_refl _) (by (with_reducible exact Nat.sub_le _ _)) (fun i hi => absurd hi (by (with_reducible exact absurd ‹_› (Nat.not_lt_zero _)))) fun i hi hik => absurd hik (by (with_reducible exact Nat.not_lt.mpr ‹_›))))
    refine Classical.byContradiction fun hG => ?_
    obtain ⟨l1, l2, l3⟩ := hl
    refine hG ?_
    refine bin_sorted O f _ (k + 1) (g.bub _ _) (by (with_reducible exact q_ms ‹_›)) ?_
    have hks : k < p.size := by rw [g.size]; exact hk
    intro i j hij hj
    rw [gp_bub hks (by (with_reducible exact Nat.sub_le _ _)), gp_bub hks (by (with_reducible exact Nat.sub_le _ _)), show k - (k - l) = l by (with_reducible exact q_ss ‹_›)]
    have hl : l ≤ k := l1
    have hj1 : l < j → j - 1 < k := fun h => Nat.lt_of_lt_of_le (Nat.sub_lt (Nat.lt_of_le_of_lt (Nat.zero_le l) h) Nat.one_pos) (Nat.le_of_lt_succ hj)
    by_cases c1 : i = l
    · have hlj : l < j := c1 ▸ hij
      rw [if_pos c1, if_neg (Nat.ne_of_gt hlj), if_pos ⟨hlj, Nat.le_of_lt_succ hj⟩]
      exact l3 _ (Nat.le_sub_one_of_lt hlj) (hj1 hlj)
    · rw [if_neg c1]
      by_cases c2 : l < i ∧ i ≤ k
      · have hlj : l < j := Nat.lt_trans c2.1 hij
        rw [if_pos c2, if_neg (Nat.ne_of_gt hlj), if_pos ⟨hlj, Nat.le_of_lt_succ hj⟩]
        exact a _ _ (Nat.sub_lt_sub_right (Nat.lt_of_le_of_lt (Nat.zero_le l) c2.1) hij) (hj1 hlj)
      · rw [if_neg c2]
        by_cases c3 : j = l
        · rw [if_pos c3]; exact l2 _ (by (with_reducible exact (‹_ = _›).symm ▸ ‹_›))
        · rw [if_neg c3]
          by_cases c4 : l < j ∧ j ≤ k
          · rw [if_pos c4]; exact a _ _ (Nat.lt_of_lt_of_le (Nat.lt_of_le_of_ne (Nat.not_lt.mp fun h => c2 ⟨h, Nat.le_trans (Nat.le_of_lt hij) c4.2⟩) c1) (Nat.le_sub_one_of_lt c4.1)) (hj1 c4.1)
          · rw [if_neg c4]; exact a _ _ hij (Nat.lt_of_lt_of_le (Nat.lt_of_le_of_ne (Nat.not_lt.mp fun h => c4 ⟨h, Nat.le_of_lt_succ hj⟩) c3) hl)

theorem sort_ok (O : STO lt n) (h2 : 2 ≤ n) : KP lt n (kas_sort n) fun q => Gp n q ∧ Asc lt q n := by
  unfold kas_sort
  refine KP.bind (KP.mono (fun r hr => ?_) (count_ok O h2 (Gp.start n)))
  refine Classical.byContradiction fun hG => ?_
  obtain ⟨m, p⟩ := r
  obtain ⟨r1, r2, r3, r4⟩ := hr
  refine hG ?_
  dsimp only at r1 r2 r3 r4 ⊢
  by_cases h : m < n
  · rw [if_pos h]
    exact bin_sorted O _ _ _ r3 (by (simp_all)) (by rw [show max m 1 = m by (with_reducible exact Nat.max_eq_left ‹_›)]; exact r4)
  · rw [if_neg h]
    have : m = n := by (with_reducible exact Nat.le_antisymm ‹_› (Nat.not_lt.mp ‹_›))
    subst this
    exact ⟨r3, r4⟩
end

/-! the lists' order -/
theorem ltL_irrefl : ∀ a : List Int, ltL a a = false
  | [] => rfl
  | x :: a => by simp [ltL, ltL_irrefl a]
theorem ltL_asymm : ∀ a b : List Int, ltL a b = true → ltL b a = false
  | [], [], h => by simp [ltL] at h
  | [], _ :: _, _ => rfl
  | _ :: _, [], h => by simp [ltL] at h
  | x :: a, y :: b, h => by
    unfold ltL at h ⊢
    by_cases e : x = y
    · subst e; simp only [beq_self_eq_true, if_true] at h ⊢; exact ltL_asymm a b h
    · rw [if_neg (by simpa using e)] at h
      rw [if_neg (by simpa using fun q => e q.symm)]
      simp only [decide_eq_true_eq] at h
      simp; (with_reducible exact q_i1 ‹_›)
theorem ltL_trans : ∀ a b c : List Int, ltL a b = true → ltL b c = true → ltL a c = true
  | [], [], _, h, _ => by simp [ltL] at h
  | _, _ :: _, [], _, h => by simp [ltL] at h
  | [], _ :: _, _ :: _, _, _ => rfl
  | _ :: _, [], _, h, _ => by simp [ltL] at h
  | x :: a, y :: b, z :: c, h1, h2 => by
    unfold ltL at h1 h2 ⊢
    by_cases e1 : x = y
    · subst e1
      simp only [beq_self_eq_true, if_true] at h1
      by_cases e2 : x = z
      · subst e2
        simp only [beq_self_eq_true, if_true] at h2 ⊢
        exact ltL_trans a b c h1 h2
      · rw [if_neg (by simpa using e2)] at h2 ⊢; exact h2
    · rw [if_neg (by simpa using e1)] at h1
      simp only [decide_eq_true_eq] at h1
      by_cases e2 : y = z
      · subst e2
        rw [if_neg (by simpa using e1)]
        simpa using h1
      · rw [if_neg (by simpa using e2)] at h2
        simp only [decide_eq_true_eq] at h2
        rw [if_neg (by simp; exact Int.ne_of_lt (Int.lt_trans h1 h2))]
        simp; exact Int.lt_trans h1 h2
theorem ltL_total : ∀ a b : List Int, a ≠ b → ltL a b = false → ltL b a = true
  | [], [], h, _ => absurd rfl h
  | [], _ :: _, _, h => by simp [ltL] at h
  | _ :: _, [], _, _ => rfl
  | x :: a, y :: b, h, h1 => by
    unfold ltL at h1 ⊢
    by_cases e : x = y
    · subst e
      simp only [beq_self_eq_true, if_true] at h1 ⊢
      exact ltL_total a b (fun q => h (by rw [q])) h1
    · rw [if_neg (by simpa using e)] at h1
      rw [if_neg (by simpa using fun q => e q.symm)]
      simp only [decide_eq_false_iff_not] at h1
      simp; exact Int.lt_iff_le_and_ne.mpr ⟨Int.not_lt.mp h1, Ne.symm e⟩

theorem sorted_uniq {a b : List (List Int)} (p : a.Perm b) (ha : a.Pairwise (fun x y => ltL x y = true)) (hb : b.Pairwise (fun x y => ltL x y = true)) : a = b :=
  p.eq_of_pairwise (fun _ _ _ _ h1 h2 => absurd (ltL_asymm _ _ h1) (by rw [h2]; exact Bool.noConfusion)) ha hb

theorem insL_perm (x : List Int) : ∀ l, (insL x l).Perm (x :: l)
  | [] => .refl _
  | y :: r => by
    unfold insL
    split
    · exact .refl _
    · exact ((insL_perm x r).cons y).trans (.swap _ _ _)
theorem insL_sorted (x : List Int) : ∀ l, l.Pairwise (fun x y => ltL x y = true) → x ∉ l → (insL x l).Pairwise (fun x y => ltL x y = true)
  | [], _, _ => by simp [insL]
  | y :: r, h, hx => by
    unfold insL
    obtain ⟨h1, h2⟩ := List.pairwise_cons.mp h
    split
    · rename_i e
      refine List.pairwise_cons.mpr ⟨fun z hz => ?_, h⟩
      rcases List.mem_cons.mp hz with rfl | hz
      · exact e
      · exact ltL_trans _ _ _ e (h1 z hz)
    · rename_i e
      have e2 := ltL_total x y (fun q => hx (by rw [q]; exact .head _)) (by simpa using e)
      refine List.pairwise_cons.mpr ⟨fun z hz => ?_, insL_sorted x r h2 fun q => hx (.tail _ q)⟩
      rcases List.mem_cons.mp ((insL_perm x r).mem_iff.mp hz) with rfl | hz
      · exact e2
      · exact h1 z hz
theorem sortL_perm : ∀ l, (sortL l).Perm l
  | [] => .refl _
  | x :: l => (insL_perm x (sortL l)).trans ((sortL_perm l).cons x)
theorem sortL_sorted : ∀ l, l.Nodup → (sortL l).Pairwise (fun x y => ltL x y = true)
  | [], _ => .nil
  | x :: l, h => insL_sorted x (sortL l) (sortL_sorted l (List.nodup_cons.mp h).2) fun q => (List.nodup_cons.mp h).1 ((sortL_perm l).mem_iff.mp q)

/-- what the sort gives of keys that are all different -/
theorem sort_list {ks : List (List Int)} (nd : ks.Nodup) {q : Array Nat} (g : Gp ks.length q) (a : Asc (fun i j => ltL (ks.getD i []) (ks.getD j [])) q ks.length) :
    q.toList.map (fun i => ks.getD i []) = sortL ks := by
  have p1 : (q.toList.map (fun i => ks.getD i [])).Perm ks := by
    refine ((Array.perm_iff_toList_perm.mp g.perm).map _).trans ?_
    have : (List.range ks.length).toArray.toList.map (fun i => ks.getD i []) = ks := by
      refine List.ext_getElem (by simp) fun i h1 h2 => ?_
      simp [List.getElem?_eq_getElem h2]
    rw [this]
  refine sorted_uniq (p1.trans (sortL_perm ks).symm) ?_ (sortL_sorted ks nd)
  rw [List.pairwise_map, List.pairwise_iff_getElem]
  intro i j hi hj hij
  have hi' : i < q.size := by simpa using hi
  have hj' : j < q.size := by simpa using hj
  have := a i j hij (by rw [← g.size]; exact hj')
  dsimp only at this
  rw [gp_eq hi', gp_eq hj'] at this
  simpa using this
theorem sto_keys {ks : List (List Int)} (nd : ks.Nodup) : STO (fun i j => ltL (ks.getD i []) (ks.getD j [])) ks.length where
  asymm := fun a b _ _ h => ltL_asymm _ _ h
  trans := fun a b c _ _ _ h1 h2 => ltL_trans _ _ _ h1 h2
  total := fun a b ha hb hab h => ltL_total _ _ (fun e => hab (nodup_inj nd ha hb (by simpa [List.getD, ha, hb] using e))) h
end Mine

/- part Ops6 -/
namespace Mine
section
variable {prog : Program} {w : World} {A : Around} {E : Value → Shared → Prop} {s : Shared}

noncomputable def RawD (h : Heap) (d : Addr) (es : Array DictEntry) (ep : Nat) : Prop := ∃ o, h.get? d = some o ∧ o.ExactDict ∧ o.data = .dict es ep
theorem RawD.at' {h h' : Heap} {d es ep} (x : RawD h d es ep) (e : ∀ o, h.get? d = some o → h'.get? d = some o) : RawD h' d es ep := let ⟨o, ho, r⟩ := x; ⟨o, e _ ho, r⟩
theorem RawD.typeIs {d es ep} (x : RawD s.heap d es ep) : s.TypeIs (.ref d) "dict" := let ⟨o, ho, hc, _⟩ := x; ⟨o, ho, hc.1⟩

theorem raw_iter {d : Addr} {es : Array DictEntry} {ep : Nat} {Q : Value → Shared → Prop} (hd : (d == sysModules) = false) (hm : RawD s.heap d es ep)
    (hQ : Q (.ref s.heap.objs.size) { s with heap := s.heap.push { cls := .type "dict_keyiterator", data := .fields #[.ref d, .int 0 0, .int es.size 0, .int ep 0] } }) :
    wpAny (model prog w) A (pyIter (.ref d)) Q E s := by
  refine Classical.byContradiction fun hG => ?_
  obtain ⟨o, ho, hc, hdat⟩ := id hm
  refine hG ?_
  have hT : s.TypeIs (.ref d) "dict" := hm.typeIs
  refine wpAny_pyIter_slot hT PySem.F.slot_dict_iter (wpAny_call_entry PySem.F.slot_dict_iter hT PySem.F.entry_dict_iter ?_ (PySem.F.args_dict_iter_1 _))
  unfold Builtin.«dict.__iter__»
  refine wpAny_bind ?_
  unfold Builtin.Dict.dictSlotNone
  refine wpAny_bind (wpAny_notOrdered_dict hT ?_)
  show wpAny _ _ (pure (Value.ref d)) _ _ s
  refine wpAny_pure ?_
  show wpAny _ _ (Builtin.Dict.showsAll d >>= _) _ _ s
  unfold Builtin.Dict.showsAll
  rw [if_neg (by rw [hd]; exact Bool.false_ne_true)]
  refine wpAny_bind (wpAny_pure ?_)
  refine wpAny_bind (wpAny_dictEntries ho hdat ?_)
  refine wpAny_bind (wpAny_dictEpoch ho hdat ?_)
  refine wpAny_bind (wpAny_newObj_type (wpAny_pure ⟨_, rfl, "dict_keyiterator", _, ⟨_, Heap.get?_push_size _ rfl, rfl⟩, PySem.F.slot_dict_keyiterator_next.lookup, ?_⟩))
  simpa [rawInt] using hQ

theorem raw_next {it d : Addr} {i ep : Nat} {es : Array DictEntry} {Q : Option Value → Shared → Prop} (hit : s.heap.IsKeyIter it d i es.size ep) (hm : RawD s.heap d es ep) (hlt' : i < es.size)
    (hQ : ∀ h', h'.IsKeyIter it d (i + 1) es.size ep → Heap.SameBut it s.heap h' → Q (some es[i].key) { s with heap := h' }) :
    wpAny (model prog w) A (pyNext (.ref it)) Q E s := by
  refine Classical.byContradiction fun hG => ?_
  obtain ⟨o, ho, hc, hd⟩ := id hit
  obtain ⟨od, hod, hcd, hdd⟩ := id hm
  refine hG ?_
  unfold pyNext
  refine wpAny_bind (wpAny_attempt (wpAny_callSpecial?_slot (name := Str.ofString "__next__") hit.typeIs PySem.F.slot_dict_keyiterator_next
    (wpAny_call_entry PySem.F.slot_dict_keyiterator_next hit.typeIs PySem.F.entry_dict_keyiterator_next ?_ (PySem.F.args_dict_keyiterator_next_1 _))))
  refine wpAny_bind (wpAny_pure ?_)
  refine wpAny_bind ?_
  refine wpAny_bind ?_
  first | refine wpAny_bind (wpAny_typeNameOfWhole_keyiter hit.typeIs (wpAny_pure ?_)) | refine wpAny_bind (wpAny_typeNameOf_keyiter hit.typeIs (wpAny_pure ?_))
  refine wpAny_bind (wpAny_fieldsOf ho hd ?_)
  have hown : Builtin.Dict_items.ownsTuple "dict_keyiterator" = false := by decide
  simp only [hown, Bool.false_eq_true, if_false]
  show wpAny _ _ (if (Value.ref d == Value.none) = true then _ else _) _ _ s
  rw [if_neg (show ¬ ((Value.ref d == Value.none) = true) from Bool.false_ne_true)]
  refine wpAny_bind (wpAny_pure ?_)
  refine wpAny_bind (wpAny_dictEntries hod hdd ?_)
  rw [if_neg (by simp)]
  refine wpAny_bind (wpAny_pure ?_)
  refine wpAny_bind (wpAny_dictEpoch hod hdd ?_)
  rw [if_neg (by simp)]
  refine wpAny_pure ?_
  simp only [show ¬ ((i : Int) < 0) from by (with_reducible exact Int.not_lt.mpr (Int.natCast_nonneg _)), if_false, Int.toNat_natCast, Array.getElem?_eq_getElem hlt']
  refine wpAny_bind ?_
  first | refine wpAny_bind (wpAny_typeNameOfWhole_keyiter hit.typeIs (wpAny_pure ?_)) | refine wpAny_bind (wpAny_typeNameOf_keyiter hit.typeIs (wpAny_pure ?_))
  refine wpAny_bind (wpAny_isOneOf_keyiter hit.typeIs ?_)
  show wpAny _ _ (setField (.ref it) 1 (rawInt ((i : Int) + 1)) >>= _) _ _ s
  refine wpAny_bind (wpAny_setField ho hd (by simp) ?_)
  have hit' : (s.heap.update it (Obj.mapFields (·.setIfInBounds 1 (rawInt ((i : Int) + 1))))).IsKeyIter it d (i + 1) es.size ep :=
    ⟨_, Heap.get?_update_self _ ho (Obj.isFreed_of_fields (Obj.data_mapFields hd _)), (Obj.cls_mapFields ..).trans hc, by rw [Obj.data_mapFields hd]; simp [rawInt]⟩
  refine wpAny_bind (wpAny_holding ?_)
  refine wpAny_bind (wpAny_isOneOf_keyiter (s := { s with heap := s.heap.update it (Obj.mapFields (·.setIfInBounds 1 (rawInt ((i : Int) + 1)))) }) hit'.typeIs ?_)
  show wpAny _ _ (pure es[i].key) _ _ _
  exact wpAny_pure (wpAny_pure ⟨_, rfl, wpAny_pure (hQ _ hit' (Heap.SameBut.update ..))⟩)

theorem raw_end {it d : Addr} {i ep : Nat} {es : Array DictEntry} {Q : Option Value → Shared → Prop} (hh : A.handled = none) (hit : s.heap.IsKeyIter it d i es.size ep) (hm : RawD s.heap d es ep) (hge : es.size ≤ i)
    (hQ : ∀ h', Heap.ExtBut it s.heap h' → Q none { s with heap := h' }) : wpAny (model prog w) A (pyNext (.ref it)) Q E s := by
  refine Classical.byContradiction fun hG => ?_
  obtain ⟨o, ho, hc, hd⟩ := id hit
  obtain ⟨od, hod, hcd, hdd⟩ := id hm
  refine hG ?_
  unfold pyNext
  refine wpAny_bind (wpAny_attempt (wpAny_callSpecial?_slot (name := Str.ofString "__next__") hit.typeIs PySem.F.slot_dict_keyiterator_next
    (wpAny_call_entry PySem.F.slot_dict_keyiterator_next hit.typeIs PySem.F.entry_dict_keyiterator_next ?_ (PySem.F.args_dict_keyiterator_next_1 _))))
  refine wpAny_bind (wpAny_pure ?_)
  refine wpAny_bind ?_
  refine wpAny_bind ?_
  first | refine wpAny_bind (wpAny_typeNameOfWhole_keyiter hit.typeIs (wpAny_pure ?_)) | refine wpAny_bind (wpAny_typeNameOf_keyiter hit.typeIs (wpAny_pure ?_))
  refine wpAny_bind (wpAny_fieldsOf ho hd ?_)
  have hown : Builtin.Dict_items.ownsTuple "dict_keyiterator" = false := by decide
  simp only [hown, Bool.false_eq_true, if_false]
  show wpAny _ _ (if (Value.ref d == Value.none) = true then _ else _) _ _ s
  rw [if_neg (show ¬ ((Value.ref d == Value.none) = true) from Bool.false_ne_true)]
  refine wpAny_bind (wpAny_pure ?_)
  refine wpAny_bind (wpAny_dictEntries hod hdd ?_)
  rw [if_neg (by simp)]
  refine wpAny_bind (wpAny_pure ?_)
  refine wpAny_bind (wpAny_dictEpoch hod hdd ?_)
  rw [if_neg (by simp)]
  refine wpAny_pure ?_
  simp only [show ¬ ((i : Int) < 0) from by (with_reducible exact Int.not_lt.mpr (Int.natCast_nonneg _)), if_false, Int.toNat_natCast, Array.getElem?_eq_none hge]
  refine wpAny_bind ?_
  first | refine wpAny_bind (wpAny_typeNameOfWhole_keyiter hit.typeIs (wpAny_pure ?_)) | refine wpAny_bind (wpAny_typeNameOf_keyiter hit.typeIs (wpAny_pure ?_))
  show wpAny _ _ (setField (.ref it) 0 .none >>= _) _ _ s
  refine wpAny_bind (wpAny_setField ho hd (by simp) ?_)
  show wpAny _ _ (newExc (.type "StopIteration") [] >>= _) _ _ _
  refine wpAny_bind ?_
  simp only [newExc, newTuple]
  refine wpAny_bind (wpAny_newObj_type ?_ (by size_fits))
  refine wpAny_bind (m := firstArgMember _ _) (wpAny_of_eq (a := Value.none) (by first | rfl | (simp only [firstArgMember]; rfl)) ?_)
  refine wpAny_newObj_type ?_ (by size_fits)
  simp only [raiseNew]
  refine wpAny_bind (wpAny_handled ?_)
  rw [show A.in1.handled = none from hh]
  refine wpAny_bind (wpAny_pure (wpAny_throw ?_))
  refine wpAny_bind (wpAny_isInstance (T := "StopIteration") (b := true) ⟨_, Heap.get?_push_size _ rfl, rfl⟩ isSubtype_stop ?_)
  exact wpAny_pure (hQ _ (((Heap.SameBut.update ..).extBut.push _).push _))

theorem raw_walks (hh : A.handled = none) (I d : Addr) (hne : d ≠ I) (es : Array DictEntry) (ep : Nat) :
    Walks prog w A I [I, d] [I] es.size (fun i v => ∃ e, es[i]? = some e ∧ v = e.key) (fun i h => h.IsKeyIter I d i es.size ep ∧ RawD h d es ep) where
  sub := fun b hb => by simp at hb; simp [hb]
  frame := fun _ _ _ st hk => ⟨st.1.at fun o e => hk I (by simp) o e, st.2.at' fun o e => hk d (by simp) o e⟩
  item := fun i s Q E hi st hQ => by
    refine raw_next st.1 st.2 hi fun h' hit' hs' => ?_
    exact hQ es[i].key h' s.toks ⟨es[i], by simp [hi], rfl⟩ ⟨hit', st.2.at' fun o e => hs'.extBut d o hne e⟩ fun b o hb e => hs'.extBut b o (fun h => hb (by simp [h])) e
  done := fun s Q E st hQ => raw_end hh st.1 st.2 (Nat.le_refl _) fun h' he' => hQ h' s.toks fun b o hb e => he' b o (fun h => hb (by simp [h])) e
  self := fun _ _ _ _ st hQ => wpAny_pyIter_keyiter st.1 hQ

theorem raw_src {d : Addr} {es : Array DictEntry} {ep : Nat} (lo : (d == sysModules) = false) : KdlSrc prog w "dict" d d es.size (fun i v => ∃ e, es[i]? = some e ∧ v = e.key) (fun h => RawD h d es ep) where
  type := fun _ hm => hm.typeIs
  there := fun _ hm => let ⟨_, ho, _⟩ := hm; ⟨Heap.lt_size ho, Heap.lt_size ho⟩
  keep := fun _ _ hm hk => hm.at' fun o e => hk d (.inl rfl) o e
  notList := by decide
  notTuple := by decide
  hint := fun _ _ _ _ hm hq => kdl_hint_dict hm.typeIs hq
  iter := fun _ _ hh hm => ⟨_, _, (fun _ _ hq => raw_iter lo hm hq), raw_walks hh _ d (let ⟨_, ho, _⟩ := hm; Nat.ne_of_lt (Heap.lt_size ho)) es ep, ⟨⟨_, Heap.get?_push_size _ rfl, rfl, rfl⟩, hm.at' fun o e => Heap.get?_push_of_some _ e⟩⟩

theorem collect_raw {d : Addr} {es : Array DictEntry} {ep : Nat} {Q : List Value → Shared → Prop} (hh : A.handled = none) (lo : (d == sysModules) = false) (hm : RawD s.heap d es ep) (hsz : es.size ≤ sizeLine)
    (h : ∀ h' tk, (∀ b o, s.heap.get? b = some o → h'.get? b = some o) → Q (es.toList.map (·.key)) { s with heap := h', toks := tk }) :
    wpAny (model prog w) A (collect (.ref d)) Q E s := by
  have hlt : d < s.heap.objs.size := let ⟨_, ho, _⟩ := hm; Heap.lt_size ho
  have key : ∀ R : Result → Shared → Prop, (∀ h' tk acc' c', (∀ b o, b ≠ s.heap.objs.size → (s.heap.push (seqObj "list" #[] 0)).get? b = some o → h'.get? b = some o) →
      h'.get? s.heap.objs.size = some { cls := .type "list", dict := none, data := .seq acc' c', slots := #[] } → ItemsOf (fun i v => ∃ e, es[i]? = some e ∧ v = e.key) acc' es.size → R (.ok (.ret (.ref s.heap.objs.size))) { s with heap := h', toks := tk }) →
      codeAny (model prog w) A (.builtin "list.__iadd__" ⟨[.ref s.heap.objs.size, .ref d], []⟩) R { s with heap := s.heap.push (seqObj "list" #[] 0) } := fun R hR => by
    refine codeAny_builtin entry_list_iadd' ?_
    rw [Around.under_plainId PySem.F.plain_list_iadd _]
    exact kdl_extend (s := { s with heap := s.heap.push (seqObj "list" #[] 0) }) (raw_src lo) hh (hm.at' fun o e => Heap.get?_push_of_some _ e) s.heap.objs.size (Nat.ne_of_gt hlt) (Nat.ne_of_gt hlt) _ 0 (Heap.get?_push_size _ rfl) hR hsz
  unfold collect
  refine wpAny_bind (wpAny_runValue (codeAny_builtin entry_proto_collect' ?_))
  show wpAny _ _ (do again (.builtin "list.__iadd__" ⟨[← newList [], .ref d], []⟩)) _ _ s
  refine wpAny_bind (wpAny_newList (wpAny_pure ⟨Code.quiet_builtin _ (by decide +kernel), key _ fun h' tk acc' c' hk hS hacc => ?_⟩))
  show wpAny (model prog w) A (do
      let o ← load s.heap.objs.size
      match o.data with
      | .seq xs _ => pure xs.toList
      | _ => unsupported "internal:collect") Q E { s with heap := h', toks := tk }
  refine wpAny_bind (wpAny_load hS ?_)
  have e : acc'.toList = es.toList.map (·.key) := by
    refine List.ext_getElem (by simp [hacc.1]) fun i h1 h2 => ?_
    have hi : i < acc'.size := by simpa using h1
    refine Classical.byContradiction fun hG => ?_
    obtain ⟨x, ex, ev⟩ := hacc.2 i acc'[i] (by simp [hi])
    refine hG ?_
    have hie : i < es.size := by rw [← hacc.1]; exact hi
    rw [Array.getElem?_eq_getElem hie] at ex
    cases ex
    simpa using ev
  show wpAny _ _ (pure acc'.toList) Q E _
  rw [e]
  exact wpAny_pure (h h' tk fun b o eb => hk b o (Nat.ne_of_lt (Heap.lt_size eb)) (Heap.get?_push_of_some _ eb))
end
end Mine

/- part Ops7 -/
set_option tactic.hygienic true
namespace Mine
section
variable {prog : Program} {w : World} {A : Around} {E : Value → Shared → Prop} {s : Shared} {D : Fz}

theorem lex_ints {Q : Bool → Shared → Prop} : ∀ (i : Nat) (us vs : List Value) (a b : List Int) (s : Shared), IntsAre us a → IntsAre vs b → Q (ltL a b) s →
    (i ≠ 0 ∨ us ≠ [] ∧ vs ≠ [] ∨ True) → KatLex prog w A true (decide (us.length < vs.length)) Q (us.zip vs) i s
  | i, _, _, _, _, s, .nil, .nil, h, _ => kat_nil (by simpa [ltL] using h)
  | i, _, _, _, _, s, .nil, .cons _ _ _, h, _ => kat_nil (by simpa [ltL] using h)
  | i, _, _, _, _, s, .cons _ _ _, .nil, h, _ => kat_nil (by simpa [ltL] using h)
  | i, _, _, _, _, s, .cons (vs := us) (ns := a) x t ha, .cons (vs := vs) (ns := b) y u hb, h, _ => by
    rw [List.zip_cons_cons]
    refine kat_cons (wpAny_eqBool_int (kat_go (fun e => kat_yes ?_) fun e => kat_no ?_))
    · have e' : x = y := by simpa using e
      subst e'
      have h' : Q (ltL a b) s := by simpa [ltL] using h
      have := lex_ints (i + 1) us vs a b s ha hb h' (.inr (.inr trivial))
      simpa using this
    · have e' : ¬ x = y := by simpa using e
      have h' : Q (decide (x < y)) s := by simpa [ltL, e'] using h
      cases i with
      | zero => exact oneLt_int h'
      | succ i => exact kat_one _ _ (lt_int h')

noncomputable def KeyAt (D : Fz) (a : Addr) (k : List Int) : Prop := ∃ us m, D a = some (tupO us m) ∧ IntsAre us k

theorem key_lt {Q : Bool → Shared → Prop} {x y : Addr} {a b : List Int} (on : D.on s.heap) (hx : KeyAt D x a) (hy : KeyAt D y b) (h : Q (ltL a b) s) : wpAny (model prog w) A (keyLt' (tuples' true) (.ref x) (.ref y)) Q E s := by
  refine Classical.byContradiction fun hG => ?_
  obtain ⟨us, m, ex, hx⟩ := hx
  obtain ⟨vs, n, ey, hy⟩ := hy
  refine hG ?_
  refine kat_lt (on _ _ ex) rfl (on _ _ ey) rfl ?_
  simpa using lex_ints (prog := prog) (w := w) (A := A) 0 us vs a b s hx hy h (.inr (.inr trivial))

theorem tups_firsts {h : Heap} (on : D.on h) : ∀ (as : List Addr) (ks : List (List Int)), as.length = ks.length → (∀ (i : Nat) (a : Addr) (k : List Int), as[i]? = some a → ks[i]? = some k → KeyAt D a k ∧ k ≠ []) →
    ∃ fs, KatTups h (as.map .ref) fs ∧ fs.length = as.length ∧ ∀ v ∈ fs, ∃ i t, v = .int i t
  | [], [], _, _ => ⟨[], trivial, rfl, fun _ h => by simp at h⟩
  | [], _ :: _, h, _ => by simp at h
  | _ :: _, [], h, _ => by simp at h
  | a :: as, k :: ks, hl, hk => by
    refine Classical.byContradiction fun hG => ?_
    obtain ⟨fs, f1, f2, f3⟩ := tups_firsts on as ks (by simpa using hl) fun i a k e1 e2 => hk (i + 1) a k (by simpa using e1) (by simpa using e2)
    obtain ⟨⟨us, m, e, hu⟩, hne⟩ := hk 0 a k rfl rfl
    refine hG ?_
    cases hu with
    | nil => exact absurd rfl hne
    | cons x t hu =>
      rename_i us' k'
      exact ⟨.int x t :: fs, KatTups.cons (xs := (Value.int x t :: us').toArray) (on _ _ e) rfl rfl (by simp) f1, by simp [f2], fun v hv => by
        rcases List.mem_cons.mp hv with rfl | hv
        · exact ⟨_, _, rfl⟩
        · exact f3 v hv⟩

/-- list.sort of a list of int tuples that are all different -/
theorem sort_body {a : Addr} {as : List Addr} {ks : List (List Int)} {n : Nat} {P : PySem.Fin → Shared → Prop} (ho : s.heap.get? a = some (seqObj "list" (as.map Value.ref).toArray n)) (on : D.on s.heap) (Da : D a = none)
    (hl : as.length = ks.length) (hk : ∀ (i : Nat) (b : Addr) (k : List Int), as[i]? = some b → ks[i]? = some k → KeyAt D b k ∧ k ≠ []) (nd : ks.Nodup) (h64 : as.length < 64)
    (h : ∀ h' c (bs : List Addr), (∀ b o, b ≠ a → s.heap.get? b = some o → h'.get? b = some o) → h'.get? a = some (seqObj "list" (bs.map Value.ref).toArray c) → bs.length = (sortL ks).length →
      (∀ (i : Nat) (b : Addr) (k : List Int), bs[i]? = some b → (sortL ks)[i]? = some k → KeyAt D b k) → P (.done (.ret .none)) { s with heap := h' }) :
    wpAny (model prog w) A (Builtin.«list.sort» ⟨[.ref a], []⟩) P E s := by
  have ha : a < s.heap.objs.size := Heap.lt_size ho
  generalize hvs : as.map Value.ref = vs at ho
  have hvl : vs.length = as.length := by rw [← hvs]; simp
  have s1 := Heap.SameBut.update s.heap a (Obj.mapSeq fun _ => (#[] : Array Value))
  refine Classical.byContradiction fun hG => ?_
  obtain ⟨e1, ho1⟩ : ∃ e1, (s.heap.update a (Obj.mapSeq fun _ => (#[] : Array Value))).get? a = some (seqObj "list" #[] e1) := ⟨_, get?_update_seq ho fun _ => #[]⟩
  refine hG ?_
  have keep1 : ∀ b o, b ≠ a → s.heap.get? b = some o → (((s.heap.update a (Obj.mapSeq fun _ => (#[] : Array Value))).push (seqObj "tuple" vs.toArray 0)).push (seqObj "list" #[] 0)).get? b = some o :=
    fun b o hb e => Heap.get?_push_of_some _ (Heap.get?_push_of_some _ ((s1.2 b hb).trans e))
  have ho2 : (((s.heap.update a (Obj.mapSeq fun _ => (#[] : Array Value))).push (seqObj "tuple" vs.toArray 0)).push (seqObj "list" #[] 0)).get? a = some (seqObj "list" #[] e1) := Heap.get?_push_of_some _ (Heap.get?_push_of_some _ ho1)
  generalize hh2 : ((s.heap.update a (Obj.mapSeq fun _ => (#[] : Array Value))).push (seqObj "tuple" vs.toArray 0)).push (seqObj "list" #[] 0) = h2 at keep1 ho2
  have on2 : D.on h2 := fun b o e => keep1 b o (by rintro rfl; rw [Da] at e; cases e) (on b o e)
  -- the end: the sorted values are put back
  have fin : ∀ (s' : Shared) (bs : List Addr), s' = { s with heap := h2 } → bs.length = (sortL ks).length → (∀ (i : Nat) (b : Addr) (k : List Int), bs[i]? = some b → (sortL ks)[i]? = some k → KeyAt D b k) →
      P (.done (.ret .none)) { s' with heap := s'.heap.update a (Obj.mapSeq fun _ => (bs.map Value.ref).toArray) } := by
    rintro s' bs rfl b1 b2
    have s2 := Heap.SameBut.update h2 a (Obj.mapSeq fun _ => (bs.map Value.ref).toArray)
    refine Classical.byContradiction fun hG => ?_
    obtain ⟨c2, hc2⟩ : ∃ c2, (h2.update a (Obj.mapSeq fun _ => (bs.map Value.ref).toArray)).get? a = some (seqObj "list" (bs.map Value.ref).toArray c2) := ⟨_, get?_update_seq ho2 fun _ => (bs.map Value.ref).toArray⟩
    refine hG ?_
    exact h _ c2 bs (fun b o hb e => (s2.2 b hb).trans (keep1 b o hb e)) hc2 b1 b2
  rw [list_sort_plain]
  refine wpAny_bind (listItems_at ho rfl ?_)
  refine wpAny_bind (listUpdate_at ho rfl ?_ (by rw [List.size_toArray, sizeLine_eq]; exact q_e64 hvl h64 rfl) (Nat.zero_le _))
  refine wpAny_bind (seqEpoch_at ho1 rfl ?_)
  refine wpAny_bind (wpAny_newTuple ?_ (by show vs.length ≤ _; rw [sizeLine_eq]; exact q_e64 hvl h64 rfl))
  refine wpAny_bind (wpAny_newList ?_ (Nat.zero_le _))
  refine wpAny_holding ?_
  show wpAny (model prog w) A _ P E { s with heap := ((s.heap.update a (Obj.mapSeq fun _ => (#[] : Array Value))).push (seqObj "tuple" vs.toArray 0)).push (seqObj "list" #[] 0) }
  rw [hh2]
  dsimp only
  by_cases hn2 : vs.toArray.size < 2
  · rw [if_pos hn2, if_pos hn2]
    refine wpAny_bind (wpAny_pure ?_)
    rw [StateT.run_pure]
    refine wpAny_bind (wpAny_pure ?_)
    dsimp only
    refine wpAny_bind (seqEpoch_at ho2 rfl ?_)
    have hz : (vs.toArray.zip vs.toArray).map (·.2) = (as.map Value.ref).toArray := by
      apply Array.toList_inj.mp
      rw [Array.toList_map, ksk_zip, hvs]
      simp [List.map_snd_zip]
    have hz' : (arrOf (SortSt.mk' general' (vs.toArray.zip vs.toArray) #[] 7 none)).map (·.2) = (as.map Value.ref).toArray := hz
    rw [hz']
    refine wpAny_bind (listUpdate_at ho2 rfl ?_ (Nat.zero_le _) (by rw [hvs, List.size_toArray, sizeLine_eq]; exact q_e64 hvl h64 rfl))
    show wpAny _ _ (if (e1 != e1) = true then _ else _) _ _ _
    simp only [bne_self_eq_false, Bool.false_eq_true, if_false]
    refine wpAny_pure (fin { s with heap := h2 } as rfl ?_ ?_)
    · rw [hl, (sortL_perm ks).length_eq]
    · intro i b k e1 e2
      have hsk : sortL ks = ks := by
        have : ks.length < 2 := by rw [← hl, ← hvl]; simpa using hn2
        match ks, this with
        | [], _ => rfl
        | [_], _ => rfl
      rw [hsk] at e2
      exact (hk i b k e1 e2).1
  · rw [if_neg hn2, if_neg hn2]
    have hlen2 : 2 ≤ vs.length := by simpa using hn2
    refine Classical.byContradiction fun hG => ?_
    obtain ⟨fs, f1, f2, f3⟩ := tups_firsts on2 as ks hl hk
    refine hG ?_
    rw [hvs] at f1
    refine wpAny_bind (kat_kind (T := .type "int") f1 (by rw [f2, ← hvl]; (solve_by_elim (maxDepth := 6) only [Nat.le_trans, Nat.lt_of_lt_of_le, Nat.lt_of_le_of_lt, Nat.le_of_lt, *])) (fun v hv => ?_) (by rfl) ?_)
    · obtain ⟨i, t, rfl⟩ := f3 v hv
      exact Looks.of_pure rfl
    have hT : ((Value.type "int") != Value.type "tuple") = true := by decide
    rw [hT]
    have hg : ∀ i, i < ks.length → ∃ b, as[i]? = some b ∧ vs.getD i Value.none = .ref b ∧ KeyAt D b (ks.getD i []) := by
      intro i hi
      have hi2 : i < as.length := by rw [hl]; exact hi
      refine ⟨as[i], by simp [hi2], by rw [← hvs]; simp [hi2], ?_⟩
      have := (hk i as[i] ks[i] (by simp [hi2]) (by simp [hi])).1
      simpa [hi] using this
    have hkw : (kas_sort vs.length).kasWp (kas_ask prog w A (tuples' true) vs) (fun p s' => s' = { s with heap := h2 } ∧ Gp ks.length p ∧ Asc (fun i j => ltL (ks.getD i []) (ks.getD j [])) p ks.length) { s with heap := h2 } := by
      refine KP.wp (lt := fun i j => ltL (ks.getD i []) (ks.getD j [])) (n := ks.length) (St := fun s' => s' = { s with heap := h2 }) (fun i j C s' hi hj hs' hC => ?_) _ _ _ _ (by rw [hvl, hl]; exact sort_ok (sto_keys nd) (by rw [← hl, ← hvl]; exact hlen2)) rfl fun p s' hp hs' => ⟨hs', hp⟩
      subst hs'
      refine Classical.byContradiction fun hG => ?_
      obtain ⟨b1, _, g1, k1⟩ := hg i hi
      obtain ⟨b2, _, g2, k2⟩ := hg j hj
      refine hG ?_
      show wpAny _ _ (keyLt' (tuples' true) (vs.getD i Value.none) (vs.getD j Value.none)) _ _ _
      rw [g1, g2]
      exact key_lt (s := { s with heap := h2 }) on2 k1 k2 (hC _ rfl)
    refine wpAny_bind (wpAny_mono (kat_run (Q := fun st' s' => ∃ p : Array Nat, p.size = vs.length ∧ arrOf st' = p.map (kas_item (vs.toArray.zip vs.toArray)) ∧ failedOf st' = none ∧ s' = { s with heap := h2 } ∧ Gp ks.length p ∧ Asc (fun i j => ltL (ks.getD i []) (ks.getD j [])) p ks.length)
      rfl hlen2 (by rw [hvl]; exact h64) (fun p' st' s' a1 a2 a3 a4 => ⟨p', a1, a2, a3, a4.1, a4.2.1, a4.2.2⟩) hkw) ?_ fun _ _ e => e)
    rintro ⟨⟨⟩, st'⟩ s' ⟨p, hp, har, hf, rfl, gp, ap⟩
    dsimp only
    have hout := kat_snds rfl har
    refine wpAny_bind (seqEpoch_at ho2 rfl ?_)
    have hbs : p.toList.map (fun i => vs.getD i Value.none) = (p.toList.map fun i => as.getD i 0).map Value.ref := by
      rw [List.map_map]
      refine List.map_congr_left fun i hi => ?_
      have hi' : i < ks.length := by
        have := (Array.perm_iff_toList_perm.mp gp.perm).mem_iff.mp hi
        simpa using this
      refine Classical.byContradiction fun hG => ?_
      obtain ⟨b, g0, g1, _⟩ := hg i hi'
      refine hG ?_
      rw [g1]; simp [List.getD, g0]
    rw [hout, hbs]
    refine wpAny_bind (listUpdate_at ho2 rfl ?_ (Nat.zero_le _) (by rw [List.size_toArray, List.length_map, List.length_map, Array.length_toList, hp, sizeLine_eq]; exact q_e64 hvl h64 rfl))
    rw [hf]
    show wpAny _ _ (if (e1 != e1) = true then _ else _) _ _ _
    simp only [bne_self_eq_false, Bool.false_eq_true, if_false]
    have hsl := sort_list nd gp ap
    refine wpAny_pure (fin { s with heap := h2 } (p.toList.map fun i => as.getD i 0) rfl ?_ fun i b k e1 e2 => ?_)
    · rw [← hsl]; simp
    · rw [← hsl] at e2
      rw [List.getElem?_map] at e1 e2
      cases hpi : p.toList[i]? with
      | none => rw [hpi] at e1; simp at e1
      | some j =>
        rw [hpi] at e1 e2
        simp only [Option.map_some, Option.some.injEq] at e1 e2
        have hj : j < ks.length := by
          have := (Array.perm_iff_toList_perm.mp gp.perm).mem_iff.mp (List.mem_of_getElem? hpi)
          simpa using this
        refine Classical.byContradiction fun hG => ?_
        obtain ⟨b', g0, g1, g2⟩ := hg j hj
        refine hG ?_
        rw [← e1, ← e2]
        simpa [List.getD, g0] using g2
end
end Mine

set_option tactic.hygienic false
/- part Ops8 -/
set_option tactic.hygienic true
namespace Mine
section
variable {prog : Program} {w : World} {d : Addr} {cells : List Int} {H : Heap} {D : Fz} {σ : Nat} {s : Shared} {A : Around} {E : Value → Shared → Prop} {Q : Value → Shared → Prop}

theorem VRs.keys {D : Fz} : ∀ (bs : List Addr) (ks : List (List Int)), bs.length = ks.length → (∀ (i : Nat) (b : Addr) (k : List Int), bs[i]? = some b → ks[i]? = some k → KeyAt D b k) → VRs prog w d D (ks.map fun t => .tup (t.map .int)) (bs.map .ref)
  | [], [], _, _ => VRs.nil
  | [], _ :: _, h, _ => by simp at h
  | _ :: _, [], h, _ => by simp at h
  | b :: bs, k :: ks, hl, hk => by
    refine Classical.byContradiction fun hG => ?_
    obtain ⟨us, m, e, hu⟩ := hk 0 b k rfl rfl
    refine hG ?_
    exact VRs.cons (VR.tup_mk e (VRs.of_ints hu)) (VRs.keys bs ks (by simpa using hl) fun i b k e1 e2 => hk (i + 1) b k (by simpa using e1) (by simpa using e2))

theorem sorted_ok {ks : List (List Int)} {u : Value} (hh : A.handled = none) (g : Gd prog w d cells H D σ s.heap) (x : VR prog w d D (.dT ks) u) (h64 : ks.length < 64) (hne : ks.all (fun k => !k.isEmpty) = true)
    (e : Ends prog w d cells (.list ((sortL ks).map fun t => .tup (t.map .int))) σ D σ s Q) : wpAny (model prog w) A (call (.builtin "sorted") [u]) Q E s := by
  refine Classical.byContradiction fun hG => ?_
  obtain ⟨a, rfl, o, es, ep, xs, ea, r1, r2, r3, r4, r5, r6, r7⟩ := x
  refine hG ?_
  have hes : es.size = xs.length := size_of_entries r3
  have hxs : xs.length = ks.length := by rw [← r4]; simp
  refine Calls.call_function_entry kind_sorted plain_sorted entry_sorted (args_sorted1 _) ?_
  unfold Builtin.«sorted»
  refine wpAny_bind (m := checkCount "sorted" 1 1 _) (wpAny_pure ?_)
  refine wpAny_bind (collect_raw hh r7 ⟨o, g.on _ _ ea, r1, r2⟩ (by rw [hes, hxs, sizeLine_eq]; (with_reducible exact q_le' ‹_ < _› (by decide))) fun h₁ tk keep => ?_)
  have hvs : es.toList.map (·.key) = (xs.map (·.2.1)).map Value.ref := by rw [r3]; simp [entryOfKey]
  rw [hvs]
  have hla : ∀ l : List Addr, l.length = ks.length → (l.map Value.ref).length ≤ sizeLine := fun l hl => by rw [List.length_map, hl, sizeLine_eq]; (with_reducible exact q_le' ‹_ < _› (by decide))
  refine wpAny_bind (wpAny_newList ?_ (hla _ (by simpa using hxs)))
  have hfree : s.heap.get? h₁.objs.size = none := by
    cases q : s.heap.get? h₁.objs.size with
    | none => rfl
    | some o' => exact absurd (Heap.lt_size (keep _ _ q)) (Nat.lt_irrefl _)
  have Da : D h₁.objs.size = none := g.free hfree
  have keep2 : ∀ b o, s.heap.get? b = some o → (h₁.push (seqObj "list" ((xs.map (·.2.1)).map Value.ref).toArray 0)).get? b = some o := fun b o e => Heap.get?_push_of_some _ (keep b o e)
  have on2 : D.on (h₁.push (seqObj "list" ((xs.map (·.2.1)).map Value.ref).toArray 0)) := fun b o e => keep2 b o (g.on b o e)
  have hoL : (h₁.push (seqObj "list" ((xs.map (·.2.1)).map Value.ref).toArray 0)).get? h₁.objs.size = some (seqObj "list" ((xs.map (·.2.1)).map Value.ref).toArray 0) := Heap.get?_push_size _ rfl
  show wpAny _ _ (holding [Value.ref h₁.objs.size] (call (.builtin "list.sort") [.ref h₁.objs.size] []) >>= fun _ => ret (.ref h₁.objs.size)) _ _ { s with heap := h₁.push (seqObj "list" ((xs.map (·.2.1)).map Value.ref).toArray 0), toks := tk }
  refine wpAny_bind (wpAny_holding (wpAny_call_entry slot_list_sort ⟨_, hoL, rfl⟩ entry_list_sort (sort_body (s := { s with heap := h₁.push (seqObj "list" ((xs.map (·.2.1)).map Value.ref).toArray 0), toks := tk }) hoL on2 Da (ks := ks) (by simpa using hxs) (fun i b k e1 e2 => ?_) r5 (by simpa [hxs] using h64) fun h' c bs k1 k2 k3 k4 => ⟨_, rfl, ?_⟩) (args_list_sort _)))
  · rw [← r4] at e2
    rw [List.getElem?_map] at e1 e2
    cases hx : xs[i]? with
    | none => rw [hx] at e1; simp at e1
    | some y =>
      rw [hx] at e1 e2
      simp only [Option.map_some, Option.some.injEq] at e1 e2
      refine Classical.byContradiction fun hG => ?_
      obtain ⟨vs, n, q1, q2⟩ := r6 y (List.mem_of_getElem? hx)
      refine hG ?_
      refine ⟨⟨vs, n, e1 ▸ q1, e2 ▸ q2⟩, ?_⟩
      have hm : k ∈ ks := by rw [← r4, ← e2]; exact List.mem_map.mpr ⟨y, List.mem_of_getElem? hx, rfl⟩
      have := List.all_eq_true.mp hne k hm
      intro q; subst q; simp at this
  · refine wpAny_pure ⟨_, rfl, ?_⟩
    refine e _ (D.put h₁.objs.size (lstO (bs.map .ref) c)) h' tk (Ok.add g (fun b o eb => k1 b o (by rintro rfl; rw [hfree] at eb; cases eb) (keep2 b o eb)) hfree k2) ?_
    refine VR.list_mk Fz.put_at (VRs.keys bs _ k3 fun i b k e1 e2 => ?_)
    refine Classical.byContradiction fun hG => ?_
    obtain ⟨us, m, q1, q2⟩ := k4 i b k e1 e2
    refine hG ?_
    exact ⟨us, m, Fz.put_le Da _ _ q1, q2⟩

theorem len_ok {p : PV} {l : List PV} {u : Value} (hp : p = .tup l ∨ p = .list l) (g : Gd prog w d cells H D σ s.heap) (x : VR prog w d D p u) (hs : l.length ≤ 1000000) (e : Ends prog w d cells (.int l.length) σ D σ s Q) :
    wpAny (model prog w) A (call (.builtin "len") [u]) Q E s := by
  rcases hp with rfl | rfl
  · simp only [VR] at x
    refine Classical.byContradiction fun hG => ?_
    obtain ⟨a, vs, n, rfl, ea, x⟩ := x
    refine hG ?_
    have hl := x.length
    refine PyProof.Rows.len_tuple (items := vs.toArray) ⟨_, g.on _ _ ea, rfl, n, rfl⟩ (by rw [List.size_toArray]; exact q_i63n hl hs) ?_
    rw [List.size_toArray, hl]; exact e.int g _
  · simp only [VR] at x
    refine Classical.byContradiction fun hG => ?_
    obtain ⟨a, vs, n, rfl, ea, x⟩ := x
    refine hG ?_
    have hl := x.length
    refine Calls.call_len_list (IsList_of g.on ea) (by rw [List.size_toArray]; exact q_i63n hl hs) ?_
    rw [List.size_toArray, hl]; exact e.int g _

theorem tuple_ok {l : List PV} {u : Value} (g : Gd prog w d cells H D σ s.heap) (x : VR prog w d D (.list l) u) (hs : l.length ≤ 1000000) (e : Ends prog w d cells (.tup l) σ D σ s Q) :
    wpAny (model prog w) A (call (.type "tuple") [u]) Q E s := by
  refine Classical.byContradiction fun hG => ?_
  obtain ⟨a, vs, n, rfl, ea, x⟩ := x
  refine hG ?_
  have hl := x.length
  refine call_tuple_list (IsList_of g.on ea) (fun h' keep => ?_) (by rw [List.size_toArray, hl, sizeLine_eq]; (with_reducible exact q_le ‹_› (by decide)))
  have hfree : s.heap.get? h'.objs.size = none := by
    cases q : s.heap.get? h'.objs.size with
    | none => rfl
    | some o' => exact absurd (Heap.lt_size (keep _ _ q)) (Nat.lt_irrefl _)
  exact e _ (D.put h'.objs.size (tupO vs 0)) _ _ (Ok.add g (fun b o eb => Heap.get?_push_of_some _ (keep b o eb)) hfree (Heap.get?_push_size _ rfl)) (VR.tup_mk Fz.put_at (x.mono (Fz.put_le (g.free hfree))))

theorem list_ok {l : List PV} {u : Value} (g : Gd prog w d cells H D σ s.heap) (x : VR prog w d D (.list l) u) (hs : l.length ≤ 1000000) (e : Ends prog w d cells (.list l) σ D σ s Q) :
    wpAny (model prog w) A (call (.type "list") [u]) Q E s := by
  refine Classical.byContradiction fun hG => ?_
  obtain ⟨a, vs, n, rfl, ea, x⟩ := x
  refine hG ?_
  have hl := x.length
  refine call_list_seq a (.inl rfl) (g.on _ _ ea) rfl rfl (fun h' c keep hn => ?_) (by rw [List.size_toArray, hl, sizeLine_eq]; (with_reducible exact q_le ‹_› (by decide)))
  exact e _ (D.put s.heap.objs.size (lstO vs c)) h' s.toks (Ok.add g keep (get?_ge (Nat.le_refl _)) hn) (VR.list_mk Fz.put_at (x.mono (Fz.put_le (g.free (get?_ge (Nat.le_refl _))))))

theorem range_ok {n : Int} {u : Value} (g : Gd prog w d cells H D σ s.heap) (x : VR prog w d D (.int n) u) (e : Ends prog w d cells (.range n) σ D σ s Q) :
    wpAny (model prog w) A (call (.type "range") [u]) Q E s := by
  obtain ⟨t, rfl⟩ := x
  exact call_range_1 (e.pushed g rfl (by exact ⟨_, s.toks, t, s.toks + 1, rfl, Fz.put_at⟩) _)

theorem sumI_val : ∀ (l : List PV) (i : Int), sumI l = some i → ∃ ns : List Int, ints? l = some ns ∧ ns.sum = i
  | [], i, h => by simp [sumI] at h; exact ⟨[], rfl, by simpa using h⟩
  | p :: l, i, h => by
    cases p <;> simp only [sumI] at h <;> try (cases h; done)
    rename_i j
    simp only [Option.map_eq_some_iff] at h
    refine Classical.byContradiction fun hG => ?_
    obtain ⟨k, h, rfl⟩ := h
    obtain ⟨ns, e1, e2⟩ := sumI_val l k h
    refine hG ?_
    exact ⟨j :: ns, by simp [ints?, e1], by simp [e2]⟩

theorem sum_ok {l : List PV} {i : Int} {u : Value} (hh : A.handled = none) (g : Gd prog w d cells H D σ s.heap) (x : VR prog w d D (.list l) u) (h : sumI l = some i) (e : Ends prog w d cells (.int i) σ D σ s Q) :
    wpAny (model prog w) A (call (.builtin "sum") [u]) Q E s := by
  refine Classical.byContradiction fun hG => ?_
  obtain ⟨a, vs, n, rfl, ea, x⟩ := x
  obtain ⟨ns, e1, e2⟩ := sumI_val l i h
  refine hG ?_
  have hi := x.ints e1
  have hil : ns.length = vs.toArray.size := by rw [List.size_toArray]; exact hi.length.symm
  refine call_sum_walkAnyS (wpAny_pyIter_list (IsList_of g.on ea) ?_)
  have hne : a ≠ s.heap.objs.size := Nat.ne_of_lt (Heap.lt_size (g.on _ _ ea))
  refine ⟨_, _, _, _, _, _, _, fun j => ns.getD j 0, rfl, (Walks.list (A := A.in1) hh s.heap.objs.size a hne vs.toArray).toS, ?_, ?_, ?_, ?_⟩
  · exact ⟨⟨_, Heap.get?_push_size _ rfl, rfl, rfl⟩, (IsList_of (fun b o eb => Heap.get?_push_of_some _ (g.on b o eb)) ea)⟩
  · intro b hb
    rcases List.mem_cons.mp hb with rfl | hb
    · rw [Heap.size_push]; exact Nat.lt_succ_self _
    · rw [List.mem_singleton.mp hb, Heap.size_push]; exact Nat.lt_succ_of_lt (Heap.lt_size (g.on _ _ ea))
  · intro j v hv
    have hjl : j < vs.toArray.size := by
      rcases Nat.lt_or_ge j vs.toArray.size with q | q
      · exact q
      · rw [Array.getElem?_eq_none q] at hv; cases hv
    rw [List.getElem?_toArray] at hv
    refine Classical.byContradiction fun hG => ?_
    obtain ⟨m, t, rfl, hm⟩ := IntsAre.at hi j v hv
    refine hG ?_
    exact ⟨t, by simp [List.getD, hm]⟩
  · intro s' t' hm
    rw [Moved.eq_with hm]
    have hsum : preSum (fun j => ns.getD j 0) vs.toArray.size = i := by rw [preSum_getD, ← hil, List.take_length, e2]
    rw [hsum]
    exact e _ D s'.heap s'.toks (Ok.grown g fun b o eb => hm.heap b o (by
      intro hb; rw [List.mem_singleton.mp hb] at eb
      exact absurd (Heap.lt_size eb) (Nat.lt_irrefl _)) (Heap.get?_push_of_some _ eb)) (by exact ⟨t', rfl⟩)

/-- what a built-in's name holds -/
noncomputable def bval (f : Str) : Value :=
  if f == ("tuple" : Str) then .type "tuple" else if f == ("range" : Str) then .type "range" else if f == ("list" : Str) then .type "list" else if f == ("dict" : Str) then .type "dict"
  else if f == ("enumerate" : Str) then .type "enumerate" else if f == ("len" : Str) then .builtin "len" else if f == ("sum" : Str) then .builtin "sum" else .builtin "sorted"
end
end Mine

set_option tactic.hygienic false
/- part Ops9 -/
set_option tactic.hygienic true
namespace Mine
theorem isTupE_of {tg : Expr} (h : isTupE tg = true) : ∃ elts x tp, tg = .Tuple elts x tp := by
  cases tg <;> first | exact ⟨_, _, _, rfl⟩ | cases h
section
variable {prog : Program} {w : World} {d : Addr} {A : Around} {E : Value → Shared → Prop} {s : Shared}

theorem letGo_skip {tg : Expr} {r : Addr} {v : Value} {o : Obj} {n : String} {vs : Array Value} {Q : Unit → Shared → Prop} (ho : s.heap.get? r = some o) (hc : o.cls = .type n) (hd : o.data = .fields vs)
    (hn : ["enumerate", "zip", "dict_itemiterator", "dict_reverseitemiterator", "odict_iterator", "itertools.zip_longest", "itertools.pairwise"].contains n = false) (h : Q () s) :
    wpAny (model prog w) A (letOwnedTupleGo tg (.ref r) v) Q E s := by
  cases tg <;> first | exact wpAny_pure h | (
    cases v <;> first | exact wpAny_pure h | (
      refine wpAny_bind (wpAny_load ho ?_)
      rw [hc, hd]
      dsimp only
      rw [if_neg (by rw [hn]; simp)]
      exact wpAny_pure h))

variable (prog w d)
/-- an iterator at I that gives out the items of l: it may change wr, and its state lies in fp -/
structure Itr (A : Around) (tg : Expr) (I : Addr) (fp wr : List Addr) (l : List PV) (Inv : Nat → Fz → Heap → Prop) : Prop where
  sub : ∀ b ∈ wr, b ∈ fp
  frame : ∀ i D D' h h', Inv i D h → D.le D' → (∀ b ∈ fp, ∀ o, h.get? b = some o → h'.get? b = some o) → Inv i D' h'
  item : ∀ i p D (s : Shared) (N : Shared → Prop) (K : Value → Shared → Prop) (E E' : Value → Shared → Prop), l[i]? = some p → Inv i D s.heap → D.on s.heap → (∀ b ∈ wr, D b = none) →
    (∀ v D' h' tk, D.le D' → (∀ a o, s.heap.get? a = some o → D' a = D a) → D'.on h' → (∀ b o, b ∉ wr → s.heap.get? b = some o → h'.get? b = some o) → Inv (i + 1) D' h' → VR prog w d D' p v → K v { s with heap := h', toks := tk }) →
    wpAny (model prog w) A (pyNext (.ref I)) (fun r s₁ => match r with
      | none => N s₁
      | some v => wpAny (model prog w) A (letOwnedTupleGo tg (.ref I) v) (fun _ s' => K v s') E' s₁) E s
  done : ∀ D (s : Shared) (Q : Option Value → Shared → Prop) (E : Value → Shared → Prop), Inv l.length D s.heap →
    (∀ h' tk, (∀ b o, b ∉ wr → s.heap.get? b = some o → h'.get? b = some o) → Q none { s with heap := h', toks := tk }) → wpAny (model prog w) A (pyNext (.ref I)) Q E s
  self : ∀ D (s : Shared) (Q : Value → Shared → Prop) (E : Value → Shared → Prop), Inv 0 D s.heap → Q (.ref I) s → wpAny (model prog w) A (pyIter (.ref I)) Q E s
  livef : ∀ i D h, Inv i D h → ∀ b ∈ fp, ∃ o, h.get? b = some o

variable {prog w d}
theorem Itr.live {tg : Expr} {I : Addr} {fp wr : List Addr} {l : List PV} {Inv : Nat → Fz → Heap → Prop} (x : Itr prog w d A tg I fp wr l Inv) (i : Nat) (D : Fz) (h : Heap) (inv : Inv i D h) (b : Addr) (hb : b ∈ wr) : ∃ o, h.get? b = some o := x.livef i D h inv b (x.sub b hb)

/-- from the library's walks over what holds data -/
theorem Itr.of_walks {tg : Expr} {I : Addr} {fp : List Addr} {n : Nat} {P : Nat → Value → Prop} {St : Nat → Heap → Prop} {l : List PV} {D₀ : Fz} (W : Walks prog w A I fp [I] n P St) (hn : n = l.length)
    (hP : ∀ i v p, l[i]? = some p → P i v → VR prog w d D₀ p v)
    (hT : ∀ i h, St i h → ∃ o T vs, h.get? I = some o ∧ o.cls = .type T ∧ o.data = .fields vs ∧ ["enumerate", "zip", "dict_itemiterator", "dict_reverseitemiterator", "odict_iterator", "itertools.zip_longest", "itertools.pairwise"].contains T = false)
    (hL : ∀ i h, St i h → ∀ b ∈ fp, ∃ o, h.get? b = some o) :
    Itr prog w d A tg I fp [I] l (fun i D h => St i h ∧ D₀.le D) where
  sub := W.sub
  frame := fun i D D' h h' x le k => ⟨W.frame i h h' x.1 k, x.2.trans le⟩
  item := fun i p D s N K E E' hl x on hw h => by
    have hi : i < n := by
      rcases Nat.lt_or_ge i l.length with q | q
      · (with_reducible exact Nat.lt_of_lt_of_le ‹_› (Nat.le_of_eq (‹_ = _›).symm))
      · rw [List.getElem?_eq_none q] at hl; cases hl
    refine W.item i s _ _ hi x.1 fun v h' tk hp hs hk => ?_
    refine Classical.byContradiction fun hG => ?_
    obtain ⟨o, T, vs, e1, e2, e3, e4⟩ := hT _ _ hs
    refine hG ?_
    refine letGo_skip (s := { s with heap := h', toks := tk }) e1 e2 e3 e4 ?_
    refine h v D h' tk (Fz.le.refl D) (fun _ _ _ => rfl) (fun b o e => hk b o (fun hb => ?_) (on b o e)) hk ⟨hs, x.2⟩ ((hP i v p hl hp).mono x.2)
    have := hw b hb
    rw [this] at e; cases e
  done := fun D s Q E x h => W.done s Q E (hn ▸ x.1) h
  self := fun D s Q E x h => W.self 0 s Q E x.1 h
  livef := fun i D h x b hb => hL i h x.1 b hb

/-- pyIter of v at this state gives an iterator over its -/
noncomputable def IterV (prog : Program) (w : World) (d : Addr) (tg : Expr) (h₀ : Heap) (D : Fz) (its : List PV) (v : Value) (s : Shared) : Prop :=
  ∀ (A : Around) (Q : Value → Shared → Prop) (E : Value → Shared → Prop), A.handled = none →
    (∀ I fp wr Inv h' tk, Itr prog w d A tg I fp wr its Inv → Inv 0 D h' → (∀ b ∈ wr, h₀.get? b = none ∧ D b = none) → (∀ b ∈ fp, b ≠ d ∧ (∃ o, h'.get? b = some o) ∧ (h₀.get? b = none ∨ D b ≠ none)) → (∀ b o, s.heap.get? b = some o → h'.get? b = some o) → Q (.ref I) { s with heap := h', toks := tk }) →
    wpAny (model prog w) A (pyIter v) Q E s

variable {cells : List Int} {H : Heap} {D D₀ : Fz} {σ σ₀ : Nat} {h₀ : Heap}

theorem iter_ok {tg : Expr} {p : PV} {its : List PV} {v : Value} (g : Gd prog w d cells H D σ s.heap) (live : ∀ b o, h₀.get? b = some o → ∃ o', s.heap.get? b = some o') (x : VR prog w d D p v) (h : iterItems p = some its) : IterV prog w d tg h₀ D its v s := by
  intro A Q E hh hQ
  have hdl : d < s.heap.objs.size := g.tape.lt
  have free : ∀ b, s.heap.objs.size ≤ b → h₀.get? b = none ∧ D b = none := fun b hb => by
    refine ⟨?_, g.free (get?_ge hb)⟩
    cases e : h₀.get? b with
    | none => rfl
    | some o => obtain ⟨o', e'⟩ := live b o e; exact absurd (Heap.lt_size e') (Nat.not_lt.mpr hb)
  unfold iterItems at h
  split at h
  · rename_i l
    cases h
    refine Classical.byContradiction fun hG => ?_
    obtain ⟨a, vs, n, rfl, ea, x⟩ := x
    refine hG ?_
    have hl := x.length
    have hlt : a < s.heap.objs.size := Heap.lt_size (g.on _ _ ea)
    refine wpAny_pyIter_tuple (IsTuple_of g.on ea) ?_
    refine hQ s.heap.objs.size [s.heap.objs.size, a] [s.heap.objs.size] _ _ s.toks (Itr.of_walks (Walks.tuple hh s.heap.objs.size a (Nat.ne_of_lt hlt) vs.toArray) (by rw [List.size_toArray, hl]) (D₀ := D) (fun i v p e1 e2 => ?_) (fun i h st => ?_) (fun i h st b hb => by obtain ⟨⟨o1, q1, _⟩, ⟨o2, q2, _⟩⟩ := st; simp only [List.mem_cons, List.not_mem_nil, or_false] at hb; rcases hb with rfl | rfl; exact ⟨_, q1⟩; exact ⟨_, q2⟩)) ⟨⟨⟨_, Heap.get?_push_size _ rfl, rfl, rfl⟩, ?_⟩, Fz.le.refl D⟩ ?_ ?_ fun b o e => Heap.get?_push_of_some _ e
    · obtain ⟨v', e3, e4⟩ := x.get e1
      rw [List.getElem?_toArray] at e2
      rw [e3] at e2; cases e2; exact e4
    · obtain ⟨o, q1, q2, q3⟩ := st.1
      exact ⟨o, "tuple_iterator", _, q1, q2, q3, by decide⟩
    · exact ⟨_, Heap.get?_push_of_some _ (g.on _ _ ea), rfl, n, rfl⟩
    · intro b hb; rw [List.mem_singleton.mp hb]; exact free _ (Nat.le_refl _)
    · intro b hb
      rcases List.mem_cons.mp hb with rfl | hb
      · exact ⟨Nat.ne_of_gt hdl, ⟨_, Heap.get?_push_size _ rfl⟩, .inl (free _ (Nat.le_refl _)).1⟩
      · rw [List.mem_singleton.mp hb]; exact ⟨fun e => by (rw [e, g.dn] at ea; cases ea), ⟨_, Heap.get?_push_of_some _ (g.on _ _ ea)⟩, .inr (by rw [ea]; simp)⟩
  · rename_i l
    cases h
    refine Classical.byContradiction fun hG => ?_
    obtain ⟨a, vs, n, rfl, ea, x⟩ := x
    refine hG ?_
    have hl := x.length
    have hlt : a < s.heap.objs.size := Heap.lt_size (g.on _ _ ea)
    refine wpAny_pyIter_list (IsList_of g.on ea) ?_
    refine hQ s.heap.objs.size [s.heap.objs.size, a] [s.heap.objs.size] _ _ s.toks (Itr.of_walks (Walks.list hh s.heap.objs.size a (Nat.ne_of_lt hlt) vs.toArray) (by rw [List.size_toArray, hl]) (D₀ := D) (fun i v p e1 e2 => ?_) (fun i h st => ?_) (fun i h st b hb => by obtain ⟨⟨o1, q1, _⟩, ⟨o2, q2, _⟩⟩ := st; simp only [List.mem_cons, List.not_mem_nil, or_false] at hb; rcases hb with rfl | rfl; exact ⟨_, q1⟩; exact ⟨_, q2⟩)) ⟨⟨⟨_, Heap.get?_push_size _ rfl, rfl, rfl⟩, ?_⟩, Fz.le.refl D⟩ ?_ ?_ fun b o e => Heap.get?_push_of_some _ e
    · obtain ⟨v', e3, e4⟩ := x.get e1
      rw [List.getElem?_toArray] at e2
      rw [e3] at e2; cases e2; exact e4
    · obtain ⟨o, q1, q2, q3⟩ := st.1
      exact ⟨o, "list_iterator", _, q1, q2, q3, by decide⟩
    · exact ⟨_, Heap.get?_push_of_some _ (g.on _ _ ea), rfl, n, rfl⟩
    · intro b hb; rw [List.mem_singleton.mp hb]; exact free _ (Nat.le_refl _)
    · intro b hb
      rcases List.mem_cons.mp hb with rfl | hb
      · exact ⟨Nat.ne_of_gt hdl, ⟨_, Heap.get?_push_size _ rfl⟩, .inl (free _ (Nat.le_refl _)).1⟩
      · rw [List.mem_singleton.mp hb]; exact ⟨fun e => by (rw [e, g.dn] at ea; cases ea), ⟨_, Heap.get?_push_of_some _ (g.on _ _ ea)⟩, .inr (by rw [ea]; simp)⟩
  · rename_i n
    split at h
    · rename_i hn
      cases h
      refine Classical.byContradiction fun hG => ?_
      obtain ⟨a, t, u, y, rfl, ea⟩ := x
      refine hG ?_
      have hr : IsRange s.heap a 0 n 1 t u y := g.on _ _ ea
      have hsz : Builtin.Range.rangeSize 0 n 1 = n := by rw [rangeSize_one]; split <;> first | exact Int.sub_zero n | exact (Int.le_antisymm (Int.not_lt.mp ‹_›) hn.1).symm
      have hsm : Builtin.Range.small 0 n 1 = true := by
        unfold Builtin.Range.small
        rw [hsz]
        have q : ∀ x : Int, 0 ≤ x → x ≤ 1000000 → Builtin.Range.rangeFitsLong x = true := fun x h1 h2 => by
          unfold Builtin.Range.rangeFitsLong; simp; exact ⟨Int.le_trans (by decide) h1, Int.lt_of_le_of_lt h2 (by decide)⟩
        rw [q 0 (by (with_reducible exact (by decide))) (by (with_reducible exact (by decide))), q n hn.1 hn.2, q 1 (by (with_reducible exact (by decide))) (by (with_reducible exact (by decide))), if_pos (by (with_reducible exact (by decide))), show n + (1 - 1) = n by (simp_all), q n hn.1 hn.2]
        simp
      refine wpAny_pyIter_range hr hsm ?_
      rw [hsz]
      refine hQ s.heap.objs.size [s.heap.objs.size] [s.heap.objs.size] _ _ s.toks (Itr.of_walks (Walks.range hh s.heap.objs.size 0 1 n.toNat) (by simp) (D₀ := D) (fun i v p e1 e2 => ?_) (fun i h st => ?_) (fun i h st b hb => by rw [List.mem_singleton.mp hb]; exact ⟨_, st⟩)) ⟨?_, Fz.le.refl D⟩ ?_ ?_ fun b o e => Heap.get?_push_of_some _ e
      · obtain ⟨t, rfl⟩ := e2
        rw [List.getElem?_map] at e1
        simp only [Option.map_eq_some_iff] at e1
        refine Classical.byContradiction fun hG => ?_
        obtain ⟨j, e1, rfl⟩ := e1
        refine hG ?_
        have : i = j := by
          have := List.getElem?_eq_some_iff.mp e1
          obtain ⟨_, e⟩ := this
          simpa using e
        subst this
        exact ⟨t, by simp⟩
      · exact ⟨_, "range_iterator", _, st, rfl, rfl, by decide⟩
      · show (s.heap.push _).get? s.heap.objs.size = _
        rw [Heap.get?_push_size _ rfl]
        simp [rawInt, Int.toNat_of_nonneg hn.1]
      · intro b hb; rw [List.mem_singleton.mp hb]; exact free _ (Nat.le_refl _)
      · intro b hb
        rw [List.mem_singleton.mp hb]
        exact ⟨Nat.ne_of_gt hdl, ⟨_, Heap.get?_push_size _ rfl⟩, .inl (free _ (Nat.le_refl _)).1⟩
    · cases h
  · cases h

/-- enumerate of a list -/
theorem enum_ok {tg : Expr} {l : List PV} {v : Value} {Q : Value → Shared → Prop} (htg : isTupE tg = true) (g : Gd prog w d cells H D σ s.heap) (g₀ : Ok prog w d cells D₀ σ₀ h₀ D σ s.heap) (x : VR prog w d D (.list l) v)
    (h : ∀ e h' tk, Ok prog w d cells D₀ σ₀ h₀ D σ h' → IterV prog w d tg h₀ D (l.zipIdx.map fun y => .tup [.int y.2, y.1]) (.ref e) { s with heap := h', toks := tk } → Q (.ref e) { s with heap := h', toks := tk }) :
    wpAny (model prog w) A (call (.type "enumerate") [v]) Q E s := by
  refine Classical.byContradiction fun hG => ?_
  obtain ⟨a, vs, n, rfl, ea, x⟩ := x
  refine hG ?_
  have hl := x.length
  have hlt : a < s.heap.objs.size := Heap.lt_size (g.on _ _ ea)
  have hdl : d < s.heap.objs.size := g.tape.lt
  refine call_enumerate_list (IsList_of g.on ea) fun h' he hit hsz keep => ?_
  have free : ∀ b, s.heap.objs.size ≤ b → h₀.get? b = none ∧ D b = none := fun b hb => by
    refine ⟨?_, g.free (get?_ge hb)⟩
    cases e : h₀.get? b with
    | none => rfl
    | some o => obtain ⟨o', e'⟩ := g₀.live e; exact absurd (Heap.lt_size e') (Nat.not_lt.mpr hb)
  refine h _ h' s.toks (g₀.trans (Ok.grown g keep)) ?_
  intro A Q E hh hQ
  refine wpAny_pyIter_enum (s := { s with heap := h' }) he ?_
  have hlist : ∀ {D' : Fz} {h : Heap}, D.le D' → D'.on h → h.IsList a vs.toArray := fun le on => IsList_of on (le _ _ ea)
  refine hQ (s.heap.objs.size + 1) [s.heap.objs.size + 1, s.heap.objs.size, a] [s.heap.objs.size + 1, s.heap.objs.size]
    (fun i D' h => (∃ old, IsEnum h (s.heap.objs.size + 1) s.heap.objs.size i old) ∧ h.IsListIter s.heap.objs.size a i ∧ D.le D' ∧ h.get? a = some (lstO vs n)) h' s.toks ⟨?_, ?_, ?_, ?_, ?_, ?_⟩ ⟨⟨_, he⟩, hit, Fz.le.refl D, keep _ _ (g.on _ _ ea)⟩ ?_ ?_ fun _ _ e => e
  · intro b hb; simp at hb ⊢; rcases hb with rfl | rfl <;> simp
  · rintro i D1 D2 h1 h2 ⟨⟨old, q1⟩, q2, q3, q4⟩ le k
    exact ⟨⟨old, k _ (by simp) _ q1⟩, let ⟨o, q, r⟩ := q2; ⟨o, k _ (by simp) _ q, r⟩, q3.trans le, k _ (by simp) _ q4⟩
  · rintro i p D1 s1 N K E1 E2 e1 ⟨⟨old, q1⟩, q2, q3, q4⟩ on1 hw hK
    rw [List.getElem?_map] at e1
    simp only [Option.map_eq_some_iff] at e1
    refine Classical.byContradiction fun hG => ?_
    obtain ⟨⟨q, j⟩, e1, rfl⟩ := e1
    rw [List.getElem?_zipIdx] at e1
    simp only [Option.map_eq_some_iff] at e1
    obtain ⟨q', e1, e2⟩ := e1
    simp only [Nat.zero_add, Prod.mk.injEq] at e2
    obtain ⟨rfl, rfl⟩ := e2
    obtain ⟨v, e3, e4⟩ := x.get e1
    refine hG ?_
    refine wpAny_pyNext_enum_item q1 q2 (hlist q3 on1) (x := v) (by rw [List.getElem?_toArray]; exact e3) (by exact Nat.succ_ne_self _) fun h2 eo it2 ht2 hz2 k2 => ?_
    refine Classical.byContradiction fun hG => ?_
    obtain ⟨elts, x1, tp, rfl⟩ := isTupE_of htg
    refine hG ?_
    refine wpAny_letOwnedTupleGo_enum (s := { s1 with heap := h2, toks := s1.toks + 1 }) eo fun h3 eo3 hs3 => ?_
    have hse : s.heap.objs.size + 1 < s1.heap.objs.size := Heap.lt_size q1
    have hne1 : s1.heap.objs.size ≠ s.heap.objs.size + 1 := Nat.ne_of_gt hse
    have ht3 : h3.get? s1.heap.objs.size = some (tupO [.int i s1.toks, v] 0) := (hs3.2 _ hne1).trans ht2
    have k3 : ∀ b o, b ∉ [s.heap.objs.size + 1, s.heap.objs.size] → s1.heap.get? b = some o → h3.get? b = some o := fun b o hb e => by
      simp only [List.mem_cons, List.not_mem_nil, or_false, not_or] at hb
      exact (hs3.2 b hb.1).trans (k2 b o hb.1 hb.2 e)
    have fr : D1 s1.heap.objs.size = none := by
      cases q : D1 s1.heap.objs.size with
      | none => rfl
      | some o => exact absurd (Heap.lt_size (on1 _ _ q)) (Nat.lt_irrefl _)
    have le := Fz.put_le (o := tupO [.int i s1.toks, v] 0) fr
    refine hK (.ref s1.heap.objs.size) (D1.put s1.heap.objs.size (tupO [.int i s1.toks, v] 0)) h3 _ le (fun b o e => ?_) (fun b o e => ?_) k3 ⟨⟨_, by push_cast; exact eo3⟩, ?_, q3.trans le, ?_⟩ ?_
    · unfold Fz.put; rw [if_neg (Nat.ne_of_lt (Heap.lt_size e))]
    · unfold Fz.put at e
      split at e
      · subst_vars; cases e; exact ht3
      · refine k3 b o (fun hb => ?_) (on1 b o e)
        have := hw b hb
        rw [this] at e; cases e
    · obtain ⟨o, r1, r2⟩ := it2
      exact ⟨o, (hs3.2 _ (Nat.ne_of_lt (Nat.lt_succ_self _))).trans r1, r2⟩
    · exact k3 _ _ (by simp only [List.mem_cons, List.not_mem_nil, or_false, not_or]; exact ⟨Nat.ne_of_lt (Nat.lt_succ_of_lt hlt), Nat.ne_of_lt hlt⟩) q4
    · refine VR.tup_mk Fz.put_at (VRs.cons ?_ (VRs.cons ((e4.mono q3).mono le) VRs.nil))
      exact ⟨_, rfl⟩
  · rintro D1 s1 Q1 E1 ⟨⟨old, q1⟩, q2, q3, q4⟩ hQ1
    refine wpAny_pyNext_enum_end hh q1 q2 (l := a) (items := vs.toArray) ⟨_, q4, rfl, n, rfl⟩ (by simp [hl]) fun h2 k2 => ?_
    exact hQ1 h2 s1.toks fun b o hb e => k2 b o (by simp only [List.mem_cons, List.not_mem_nil, or_false, not_or] at hb; exact hb.2) e
  · rintro D1 s1 Q1 E1 ⟨⟨old, q1⟩, _⟩ hq
    exact wpAny_pyIter_enum q1 hq
  · rintro i D1 h1 ⟨⟨old, q1⟩, ⟨o, q2, _⟩, _, q3⟩ b hb
    simp only [List.mem_cons, List.not_mem_nil, or_false] at hb
    rcases hb with rfl | rfl | rfl
    · exact ⟨_, q1⟩
    · exact ⟨_, q2⟩
    · exact ⟨_, q3⟩
  · intro b hb
    simp only [List.mem_cons, List.not_mem_nil, or_false] at hb
    rcases hb with rfl | rfl
    · exact free _ (Nat.le_succ _)
    · exact free _ (Nat.le_refl _)
  · intro b hb
    simp only [List.mem_cons, List.not_mem_nil, or_false] at hb
    rcases hb with rfl | rfl | rfl
    · exact ⟨Nat.ne_of_gt (Nat.lt_succ_of_lt hdl), ⟨_, he⟩, .inl (free _ (Nat.le_succ _)).1⟩
    · exact ⟨Nat.ne_of_gt hdl, let ⟨o, q, _⟩ := hit; ⟨o, q⟩, .inl (free _ (Nat.le_refl _)).1⟩
    · exact ⟨fun e => by (rw [e, g.dn] at ea; cases ea), ⟨_, keep _ _ (g.on _ _ ea)⟩, .inr (by rw [ea]; simp)⟩

end
end Mine

set_option tactic.hygienic false
/- part Ops10 -/
namespace Mine
section
variable {prog : Program} {w : World} {d : Addr} {A : Around} {E : Value → Shared → Prop} {s : Shared}

theorem lookup_mem {α β : Type} [BEq α] [LawfulBEq α] : ∀ {l : List (α × β)} {x : α} {k : β}, l.lookup x = some k → (x, k) ∈ l
  | [], _, _, h => by simp at h
  | (y, k') :: r, x, k, h => by
    rw [List.lookup_cons] at h
    cases e : x == y with
    | true => rw [e] at h; simp at h; subst h; rw [eq_of_beq e]; exact .head _
    | false => rw [e] at h; exact .tail _ (lookup_mem h)

theorem relabel_lookup {env : Env} : ∀ {names : List (Str × NameKind)} {x : Str} {k : NameKind}, names.lookup x = some k →
    (names.map fun (n, k) => if (k == NameKind.free && env.scope.kind == .function && env.kindOf n == some .cell) then (n, NameKind.cell) else (n, k)).lookup x = some k ∨
    (k = .free ∧ (names.map fun (n, k) => if (k == NameKind.free && env.scope.kind == .function && env.kindOf n == some .cell) then (n, NameKind.cell) else (n, k)).lookup x = some .cell)
  | [], _, _, h => by simp at h
  | (n, k') :: r, x, k, h => by
    have ih := @relabel_lookup env r x k
    show List.lookup x ((if (k' == NameKind.free && env.scope.kind == .function && env.kindOf n == some .cell) = true then (n, NameKind.cell) else (n, k')) :: _) = _ ∨ (k = .free ∧ List.lookup x ((if (k' == NameKind.free && env.scope.kind == .function && env.kindOf n == some .cell) = true then (n, NameKind.cell) else (n, k')) :: _) = _)
    cases hx : x == n with
    | true =>
      simp only [List.lookup_cons, hx] at h
      cases h
      by_cases hc : (k' == NameKind.free && env.scope.kind == .function && env.kindOf n == some .cell) = true
      · rw [if_pos hc]
        refine .inr ⟨?_, by simp [List.lookup_cons, hx]⟩
        simp at hc; exact hc.1.1
      · rw [if_neg hc]; exact .inl (by simp [List.lookup_cons, hx])
    | false =>
      simp only [List.lookup_cons, hx] at h
      by_cases hc : (k' == NameKind.free && env.scope.kind == .function && env.kindOf n == some .cell) = true
      · rw [if_pos hc]; simp only [List.lookup_cons, hx]; exact ih h
      · rw [if_neg hc]; simp only [List.lookup_cons, hx]; exact ih h

theorem closure_go {env : Env} : ∀ (names : List (Str × NameKind)) (acc : List (Str × Addr)), (∀ y ∈ names, y.2 = .free → ∃ c, env.cells.lookup y.1 = some c) → (∀ x c, acc.lookup x = some c → env.cells.lookup x = some c) →
    ∃ cl, (forIn names acc fun (y : Str × NameKind) (cs : List (Str × Addr)) => (if y.2 == .free then do let c ← cellOf env y.1; pure (ForInStep.yield ((y.1, c) :: cs)) else pure (ForInStep.yield cs) : Sem (ForInStep (List (Str × Addr))))) = pure cl ∧
      (∀ x c, cl.lookup x = some c → env.cells.lookup x = some c) ∧ (∀ x, (acc.lookup x).isSome → (cl.lookup x).isSome) ∧ (∀ y ∈ names, y.2 = .free → (cl.lookup y.1).isSome)
  | [], acc, _, ha => ⟨acc, rfl, ha, fun _ h => h, fun _ h => by simp at h⟩
  | (n, k) :: r, acc, hf, ha => by
    rw [List.forIn_cons]
    by_cases hk : k = .free
    · subst hk
      refine Classical.byContradiction fun hG => ?_
      obtain ⟨c, hc⟩ := hf (n, .free) (.head _) rfl
      have hcell : cellOf env n = pure c := by unfold cellOf; rw [hc]
      obtain ⟨cl, e, q1, q2, q3⟩ := closure_go r ((n, c) :: acc) (fun y hy => hf y (.tail _ hy)) (fun x c' h => by
        rw [List.lookup_cons] at h
        cases e : x == n with
        | true => rw [e] at h; simp at h; subst h; rw [eq_of_beq e]; exact hc
        | false => rw [e] at h; exact ha x c' h)
      refine hG ?_
      refine ⟨cl, ?_, q1, fun x h => q2 x ?_, fun y hy hyf => ?_⟩
      · simp only [beq_self_eq_true, if_true, hcell, pure_bind]; exact e
      · rw [List.lookup_cons]; split <;> simp_all
      · rcases List.mem_cons.mp hy with rfl | hy
        · exact q2 _ (by simp)
        · exact q3 y hy hyf
    · obtain ⟨cl, e, q1, q2, q3⟩ := closure_go r acc (fun y hy => hf y (.tail _ hy)) ha
      refine ⟨cl, ?_, q1, q2, fun y hy hyf => ?_⟩
      · have : (k == NameKind.free) = false := by simpa using hk
        simp only [this, Bool.false_eq_true, if_false, pure_bind]; exact e
      · rcases List.mem_cons.mp hy with rfl | hy
        · exact absurd hyf hk
        · exact q3 y hy hyf

theorem comp_env {nm : NM} {env : Env} {sc : Scope} (X : EnvOk nm env) (hs : scopeOk nm sc = true) :
    ∃ cl, closureFor sc env = pure cl ∧ (∀ x c, cl.lookup x = some c → env.cells.lookup x = some c) ∧ (∀ x, sc.names.lookup x = some .free → ∃ c, cl.lookup x = some c) ∧
      (∀ C, EnvOk sc.names (compEnvC sc cl C env)) ∧ sc.kind = .function ∧ (∀ x ∈ sc.names, x.2 ≠ .cell) ∧ (∀ x ∈ sc.names, x.2 = .local → sc.names.lookup x.1 = some .local) ∧
      (∀ x, sc.names.lookup x = some .free → env.kindOf x ≠ some .local) := by
  unfold scopeOk at hs
  simp only [Bool.and_eq_true, List.all_eq_true] at hs
  refine Classical.byContradiction fun hG => ?_
  obtain ⟨⟨⟨h1, h2⟩, h3⟩, h4⟩ := hs
  have hf : ∀ y ∈ sc.names, y.2 = .free → nm.lookup y.1 = some .cell ∨ nm.lookup y.1 = some .free := fun y hy e => by
    have := h1 y hy; simp [e] at this; exact this
  obtain ⟨cl, e, q1, q2, q3⟩ := closure_go (env := env) sc.names [] (fun y hy e => X.cel y.1 (hf y hy e)) (fun x c h => by simp at h)
  refine hG ?_
  have hclos : closureFor sc env = pure cl := by
    unfold closureFor
    rw [← e]
    have : ∀ m : Sem (List (Str × Addr)), (m >>= fun cs => pure cs) = m := fun m => bind_pure m
    refine Eq.trans ?_ (this _)
    congr 1
  have hfree : ∀ x, sc.names.lookup x = some .free → ∃ c, cl.lookup x = some c := fun x hx => Option.isSome_iff_exists.mp (q3 (x, .free) (lookup_mem hx) rfl)
  have hk : sc.kind = .function := by simpa using h2
  refine ⟨cl, hclos, q1, hfree, fun C => ⟨hk, X.glob, X.blt, fun x h => ?_, fun x h => ?_, fun x h => ?_, fun x h => ?_, fun x h => ?_⟩, hk, fun x hx => by simpa using h3 x hx, fun x hx e => by have := h4 x hx; simp [e] at this; exact this, fun x hx => ?_⟩
  · rcases relabel_lookup (env := env) h with e | ⟨e, _⟩
    · exact e
    · cases e
  · rcases relabel_lookup (env := env) h with e | ⟨e, _⟩
    · exact e
    · cases e
  · have := h3 _ (lookup_mem h); simp at this
  · rcases relabel_lookup (env := env) h with e | ⟨_, e⟩
    · exact .inr e
    · exact .inl e
  · rcases h with h | h
    · have := h3 _ (lookup_mem h); simp at this
    · exact hfree x h
  · rcases hf _ (lookup_mem hx) rfl with e | e
    · rw [X.kc x e]; simp
    · rcases X.kf x e with q | q <;> rw [q] <;> simp

variable {cells : List Int} {H : Heap} {D : Fz} {σ : Nat} {ρ ρ' : Rho} {env : Env}

theorem tape_but {h h' : Heap} {C : Addr} (x : TapeAt prog w d cells D h σ) (hs : ∀ b o, b ≠ C → h.get? b = some o → h'.get? b = some o) (Cd : C ≠ d) : TapeAt prog w d cells D h' σ :=
  x.keeps (fun o e => hs d o (Ne.symm Cd) e) (Fz.le.refl D)
theorem Gd.but {h h' : Heap} {C : Addr} (g : Gd prog w d cells H D σ h) (hs : ∀ b o, b ≠ C → h.get? b = some o → h'.get? b = some o) (Cd : C ≠ d) (CD : D C = none) (CH : H.get? C = none) : Gd prog w d cells H D σ h' :=
  ⟨fun b o e => hs b o (by rintro rfl; rw [CH] at e; cases e) (g.base b o e), fun b o e => hs b o (by rintro rfl; rw [CD] at e; cases e) (g.on b o e), tape_but g.tape hs Cd, g.dH, g.dn, g.big⟩

theorem cellLive {h h' : Heap} {C : Addr} (hs : ∀ b o, b ≠ C → h.get? b = some o → h'.get? b = some o) (hC : ∃ o, h'.get? C = some o) {b : Addr} {o : Obj} (e : h.get? b = some o) : ∃ o', h'.get? b = some o' := by
  by_cases q : b = C
  · subst q; exact hC
  · exact ⟨o, hs b o q e⟩

/-- the namespace changes -/
theorem RSt.store {h h' : Heap} {C : Addr} {m' : Str → Option Value} (r : RSt prog w d cells H env ρ σ D h) (hC : env.locals = C) (hs : ∀ b o, b ≠ C → h.get? b = some o → h'.get? b = some o) (hn : h'.Ns C m') (CD : D C = none) (CH : H.get? C = none)
    (cc : ∀ x c, env.cells.lookup x = some c → c ≠ C)
    (vars : ∀ y p, ρ' y = some (.val p) → (∃ v, env.kindOf y = some .local ∧ m' y = some v ∧ VR prog w d D p v) ∨ (ρ y = some (.val p) ∧ env.kindOf y ≠ some .local)) : RSt prog w d cells H env ρ' σ D h' := by
  have Cd : C ≠ d := hC ▸ r.Ld
  refine ⟨r.toGd.but hs Cd CD CH, r.Ld, r.cd, fun x c e => let ⟨o, q⟩ := r.cl x c e; ⟨o, hs c o (cc x c e) q⟩, fun y p e => ?_⟩
  rcases vars y p e with ⟨v, q1, q2, q3⟩ | ⟨q1, q2⟩
  · exact ⟨v, .inl ⟨q1, m', hC ▸ hn, q2⟩, q3⟩
  · obtain ⟨v, a, b⟩ := r.vars y p q1
    refine ⟨v, ?_, b⟩
    rcases a with ⟨k, _⟩ | ⟨k, c, l, o, ho, hd⟩
    · exact absurd k q2
    · exact .inr ⟨k, c, l, o, hs c o (cc y c l) ho, hd⟩

/-- another object changes (an iterator, a list that is being built) -/
theorem RSt.other {h h' : Heap} {W : List Addr} (r : RSt prog w d cells H env ρ σ D h) (hs : ∀ b o, b ∉ W → h.get? b = some o → h'.get? b = some o) (hL : env.locals ∉ W) (Wd : d ∉ W) (WH : ∀ b ∈ W, H.get? b = none)
    (cc : ∀ x c, env.cells.lookup x = some c → c ∉ W) {D' : Fz} (le : D.le D') (new : ∀ a o, h.get? a = some o → D' a = D a) (on : D'.on h') : RSt prog w d cells H env ρ σ D' h' := by
  refine ⟨⟨fun b o e => hs b o (fun hb => by rw [WH b hb] at e; cases e) (r.base b o e), on, r.tape.keeps (fun o e => hs d o Wd e) le, r.dH, ?_, r.big⟩, r.Ld, r.cd, fun x c e => let ⟨o, q⟩ := r.cl x c e; ⟨o, hs c o (cc x c e) q⟩, fun y p e => ?_⟩
  · obtain ⟨o, e⟩ := r.tape.some
    exact (new d o e).trans r.dn
  · obtain ⟨v, a, b⟩ := r.vars y p e
    refine ⟨v, ?_, b.mono le⟩
    rcases a with ⟨k, m, n, q⟩ | ⟨k, c, l, o, ho, hd⟩
    · exact .inl ⟨k, m, n.at' fun o e => hs _ o hL e, q⟩
    · exact .inr ⟨k, c, l, o, hs c o (cc y c l) ho, hd⟩

theorem Ok.chg {D₀ D' : Fz} {σ₀ : Nat} {h₀ h h' : Heap} {W : List Addr} (x : Ok prog w d cells D₀ σ₀ h₀ D σ h) (hs : ∀ b o, b ∉ W → h.get? b = some o → h'.get? b = some o) (W0 : ∀ b ∈ W, h₀.get? b = none) (Wd : d ∉ W)
    (le : D.le D') (new : ∀ a o, h.get? a = some o → D' a = D a) (on : D'.on h') : Ok prog w d cells D₀ σ₀ h₀ D' σ h' :=
  ⟨fun b o n e => hs b o (fun hb => by rw [W0 b hb] at e; cases e) (x.pres b o n e), x.le.trans le, fun a o l => by obtain ⟨o', e⟩ := x.live l; exact (new a o' e).trans (x.new a o l), on, x.tape.keeps (fun o e => hs d o Wd e) le⟩

theorem pair_inv : ∀ {p : PV} {q : PV × PV}, pair? p = some q → p = .tup [q.1, q.2]
  | .tup [_, _], _, h => by cases h; rfl
theorem bindT_name {n : Nat} {t : Expr} {p : PV} {ρ ρ' : Rho} {r : List Expr} (h : bindT n t p ρ = some ρ') : assignEach (t :: r) env = (false, assign t env) :: assignEach r env := by
  cases n with
  | zero => cases h
  | succ n =>
    have key : ∀ v : BV t, bindV (bindT n) v p ρ = some ρ' → assignEach (t :: r) env = (false, assign t env) :: assignEach r env := fun v h => by
      cases v with
      | name => rfl
      | pair => rfl
      | other => cases h
    exact key (bv t) h

/-- binding the names of a target, whatever the store does -/
noncomputable def StoreOk (prog : Program) (w : World) (env : Env) (A : Around) (D : Fz) (okx : Str → Prop) (P : Rho → Heap → Prop) : Prop :=
  ∀ ρ x p v (s : Shared) (Q : Unit → Shared → Prop) (E : Value → Shared → Prop), okx x → P ρ s.heap → VR prog w d D p v → (∀ h' tk, P (upd ρ x (.val p)) h' → Q () { s with heap := h', toks := tk }) → wpAny (model prog w) A (storeName env x v) Q E s
theorem assign_ok {P : Rho → Heap → Prop} (okx : Str → Prop) (hh : A.handled = none) (grow : ∀ ρ h h', P ρ h → (∀ b o, h.get? b = some o → h'.get? b = some o) → P ρ h') (on : ∀ ρ h, P ρ h → D.on h)
    (store : StoreOk (d := d) prog w env A D okx P) (n : Nat) : ∀ (t : Expr) (p : PV) (ρ ρ' : Rho) (v : Value) (s : Shared) (Q : Unit → Shared → Prop) (E : Value → Shared → Prop), bindT n t p ρ = some ρ' → (∀ x ∈ tnames n t, okx x) → VR prog w d D p v → P ρ s.heap →
      (∀ h' tk, P ρ' h' → Q () { s with heap := h', toks := tk }) → wpAny (model prog w) A (assign t env v) Q E s := by
  induction n with
  | zero => exact fun _ _ _ _ _ _ _ _ h => nomatch h
  | succ n ih =>
    intro t p ρ ρ' v s Q E h ok x hP hQ
    have key : ∀ b : BV t, bindV (bindT n) b p ρ = some ρ' → (∀ x ∈ tnV (tnames n) b, okx x) → wpAny (model prog w) A (assign t env v) Q E s := fun b h ok => by
      cases b with
      | name y =>
        cases h
        exact wpAny_assign_Name (store _ _ _ _ _ _ _ (ok _ (List.mem_singleton.mpr rfl)) hP x hQ)
      | pair t₁ t₂ =>
        refine ob_e h fun q hq h => ob_e h fun ρ₁ h₁ h => ?_
        rw [pair_inv hq] at x
        refine Classical.byContradiction fun hG => ?_
        obtain ⟨a, _, m, rfl, ea, v₁, _, rfl, y₁, v₂, _, rfl, y₂, rfl⟩ := x
        refine hG ?_
        have e1 : assignEach [t₁, t₂] env = [(false, assign t₁ env), (false, assign t₂ env)] := by rw [bindT_name h₁, bindT_name h]; rfl
        refine assign_Tuple_tuple hh (items := [v₁, v₂].toArray) ⟨_, on _ _ hP _ _ ea, rfl, m, rfl⟩ (by rw [e1]; rfl) (by rw [e1]; rfl) fun h' he => ?_
        rw [e1]
        refine assignInOrder_cons (ih t₁ _ ρ ρ₁ v₁ _ _ _ h₁ (fun x hx => ok x (List.mem_append_left _ hx)) y₁ (grow _ _ _ hP fun b o e => he b o (Nat.ne_of_lt (Heap.lt_size e)) e) fun h'' tk hP'' => ?_)
        exact assignInOrder_cons (ih t₂ _ ρ₁ ρ' v₂ _ _ _ h (fun x hx => ok x (List.mem_append_right _ hx)) y₂ hP'' fun h3 tk3 hP3 => assignInOrder_nil (hQ h3 tk3 hP3))
      | other => cases h
    exact key (bv t) h ok
end
end Mine

/- part Ops11 -/
namespace Mine

theorem folded_not {it : Expr} {env : Env} (h : isSetE it = false) (x : Value) : foldedSetIterable it env x = pure x := by
  cases it <;> first | rfl | cases h

/-- a comprehension's turn, at its last clause -/
noncomputable def turnL (e : Expr) (k : Nat) (tg elt : Expr) (ifs : List Expr) (pos : Pos) (it acc : Value) (env : Env) : Sem PySem.Fin := do
  standAt pos
  match ← pyNext it with
  | none => pure (.done .next)
  | some v =>
    letOwnedTupleGo tg it v
    assign tg env v
    let mut ok := true
    for c in ifs do
      if ok then ok ← isTrue c env (eval c env)
    if ok then
      (do let _ ← call (.builtin "list.append") [acc, ← eval elt env])
    again (.compLoop e k it acc env)

theorem turnL_one (elt target iter : Expr) (ifs : List Expr) (scope : Scope) (pos : Pos) (it acc : Value) (env : Env) :
    compTurn (.ListComp elt [⟨target, iter, ifs, 0⟩] scope pos) 0 it acc env = turnL (.ListComp elt [⟨target, iter, ifs, 0⟩] scope pos) 0 target elt ifs iter.pos it acc env := by rfl
theorem turnL_two (elt t1 i1 target iter : Expr) (ifs1 ifs : List Expr) (scope : Scope) (pos : Pos) (it acc : Value) (env : Env) :
    compTurn (.ListComp elt [⟨t1, i1, ifs1, 0⟩, ⟨target, iter, ifs, 0⟩] scope pos) 1 it acc env = turnL (.ListComp elt [⟨t1, i1, ifs1, 0⟩, ⟨target, iter, ifs, 0⟩] scope pos) 1 target elt ifs iter.pos it acc env := by rfl

/-- the first clause's turn of two -/
noncomputable def turnF (e : Expr) (tg it2 : Expr) (ifs : List Expr) (pos : Pos) (it acc : Value) (env : Env) : Sem PySem.Fin := do
  standAt pos
  match ← pyNext it with
  | none => pure (.done .next)
  | some v =>
    letOwnedTupleGo tg it v
    assign tg env v
    let mut ok := true
    for c in ifs do
      if ok then ok ← isTrue c env (eval c env)
    if ok then do
        let x ← eval it2 env
        standAt it2.pos
        let x ← foldedSetIterable it2 env x
        let _ ← runOwn (.compStart e 1 (← holding [x] (pyIter x)) acc env) env
        again (.compLoop e 0 it acc env)
    else again (.compLoop e 0 it acc env)
theorem turnF_two (elt t1 i1 target iter : Expr) (ifs1 ifs : List Expr) (scope : Scope) (pos : Pos) (it acc : Value) (env : Env) :
    compTurn (.ListComp elt [⟨t1, i1, ifs1, 0⟩, ⟨target, iter, ifs, 0⟩] scope pos) 0 it acc env = turnF (.ListComp elt [⟨t1, i1, ifs1, 0⟩, ⟨target, iter, ifs, 0⟩] scope pos) t1 iter ifs1 i1.pos it acc env := by
  rfl

section
variable {prog : Program} {w : World} {A : Around} {E : Value → Shared → Prop} {s : Shared} {R : Result → Shared → Prop}

noncomputable abbrev testsS (ifs : List Expr) (env : Env) : Sem Bool := forIn ifs true fun c r => if r = true then do let ok ← isTrue c env (eval c env); pure (ForInStep.yield ok) else pure (ForInStep.yield r)

abbrev NB (prog : Program) (w : World) (A : Around) (env : Env) (R : Result → Shared → Prop) : Value → Shared → Prop := notedBy (model prog w) A env fun e s' => R (.error e) s'

theorem codeAny_compL {e0 : Expr} {gs : List Comprehension} {sc0 : Scope} {ps0 : Pos} {k : Nat} {tg elt : Expr} {ifs : List Expr} {pos : Pos} {it acc : Value} {env : Env} (hden : compTurn (.ListComp e0 gs sc0 ps0) k it acc env = turnL (.ListComp e0 gs sc0 ps0) k tg elt ifs pos it acc env) (I : Nat → Shared → Prop)
    (turn : ∀ n s, I n s → wpAny (model prog w) A (pyNext it) (fun r s₁ => match r with
      | none => R (.ok .next) s₁
      | some v => wpAny (model prog w) A (letOwnedTupleGo tg it v) (fun _ s₁' => wpAny (model prog w) A (assign tg env v) (fun _ s₂ => wpAny (model prog w) A (testsS ifs env) (fun ok s₃ =>
            cond ok (wpAny (model prog w) A (eval elt env) (fun x s₄ => wpAny (model prog w) A (call (.builtin "list.append") [acc, x]) (fun _ s₅ => ∃ m, m < n ∧ I m s₅) (NB prog w A env R) s₄) (NB prog w A env R) s₃)
              (∃ m, m < n ∧ I m s₃)) (NB prog w A env R) s₂) (NB prog w A env R) s₁') (NB prog w A env R) s₁) (NB prog w A env R) s)
    (n : Nat) (h : I n s) : codeAny (model prog w) A (.compLoop (.ListComp e0 gs sc0 ps0) k it acc env) R s := by
  refine codeAny_loop rfl I (fun n s hI => ?_) n h
  show wpAny _ A ((compTurn (.ListComp e0 gs sc0 ps0) k it acc env).onRaise (fun x => do noteFrame x env; theTreesLotGoes x)) _ _ s
  refine wpAny_noted ?_
  rw [hden]
  unfold turnL
  refine wpAny_bind (wpAny_standAt (wpAny_bind (wpAny_mono (turn n s hI) (fun r s₁ h₁ => ?_) fun _ _ h' => h')))
  cases r with
  | none => exact wpAny_pure h₁
  | some v =>
    refine wpAny_bind (wpAny_mono h₁ (fun _ s₁' h₁' => ?_) fun _ _ h' => h')
    refine wpAny_bind (wpAny_mono h₁' (fun _ s₂ h₂ => ?_) fun _ _ h' => h')
    refine wpAny_bind (wpAny_mono h₂ (fun ok s₃ h₃ => ?_) fun _ _ h' => h')
    cases ok with
    | false => exact wpAny_pure ⟨rfl, h₃⟩
    | true =>
      refine wpAny_bind (wpAny_bind (wpAny_mono h₃ (fun x s₄ h₄ => ?_) fun _ _ h' => h'))
      exact wpAny_bind (wpAny_mono h₄ (fun _ s₅ h₅ => wpAny_pure (wpAny_pure ⟨rfl, h₅⟩)) fun _ _ h' => h')
end
end Mine

/- part Ops12 -/
namespace Mine
section
variable {prog : Program} {w : World} {A : Around} {E : Value → Shared → Prop} {s : Shared} {R : Result → Shared → Prop}

theorem codeAny_compStart1 {elt t1 i1 target iter : Expr} {ifs1 ifs : List Expr} {scope : Scope} {pos : Pos} {it acc : Value} {env : Env}
    (h0 : codeAny (model prog w) A (.compLoop (.ListComp elt [⟨t1, i1, ifs1, 0⟩, ⟨target, iter, ifs, 0⟩] scope pos) 1 it acc env) R s)
    (h : wpAny (model prog w) A (pyIter it) (fun it' s' => codeAny (model prog w) A (.compLoop (.ListComp elt [⟨t1, i1, ifs1, 0⟩, ⟨target, iter, ifs, 0⟩] scope pos) 1 it' acc env) R s')
      (notedBy (model prog w) A env fun x s' => R (.error x) s') s) :
    codeAny (model prog w) A (.compStart (.ListComp elt [⟨t1, i1, ifs1, 0⟩, ⟨target, iter, ifs, 0⟩] scope pos) 1 it acc env) R s := by
  refine codeAny_of_tree ?_
  show wpAny _ _ ((compStart (.ListComp elt [⟨t1, i1, ifs1, 0⟩, ⟨target, iter, ifs, 0⟩] scope pos) 1 it acc env).onRaise (fun x => do noteFrame x env; standAt theWindowsPlace)) _ _ s
  refine wpAny_notedAt ?_
  unfold compStart
  show wpAny _ _ (ask >>= _) _ _ s
  refine wpAny_bind (wpAny_askSetting (wpAny_ite ?_))
  split
  · first
      | exact wpAny_bind (wpAny_pure (wpAny_pure (And.intro rfl h0)))
      | exact wpAny_pure (And.intro rfl h0)
  · first
      | exact wpAny_bind (wpAny_rule (wpAny_bind (wpAny_standAt (wpAny_bind (wpAny_mono h (fun it' s' h' => wpAny_pure (And.intro rfl h')) fun _ _ x => x)))))
      | (refine wpAny_bind (wpAny_rule ?_); show wpAny _ _ (standAt iter.pos >>= _) _ _ s; exact wpAny_bind (wpAny_standAt (wpAny_bind (wpAny_mono h (fun it' s' h' => wpAny_pure (And.intro rfl h')) fun _ _ x => x))))

/-- the outer loop of two, where nothing raises: E' of one's own, always «false» here -/
theorem codeAny_compF {elt t1 i1 target iter : Expr} {ifs : List Expr} {scope : Scope} {pos : Pos} {it acc : Value} {env : Env} (hfold : ∀ x, foldedSetIterable iter env x = pure x) (I : Nat → Shared → Prop)
    (turn : ∀ n s, I n s → wpAny (model prog w) A (pyNext it) (fun r s₁ => match r with
      | none => R (.ok .next) s₁
      | some v => wpAny (model prog w) A (letOwnedTupleGo t1 it v) (fun _ s₁' => wpAny (model prog w) A (assign t1 env v) (fun _ s₂ => wpAny (model prog w) A (eval iter env) (fun x s₃ =>
            wpAny (model prog w) A (pyIter x) (fun it2 s₄ => codeAny (model prog w) A (.compStart (.ListComp elt [⟨t1, i1, [], 0⟩, ⟨target, iter, ifs, 0⟩] scope pos) 1 it2 acc env)
              (fun r s₅ => match r with | .ok _ => ∃ m, m < n ∧ I m s₅ | .error e => cameBackBy (model prog w) A env (NB prog w A env R) e s₅) s₄) (NB prog w A env R) s₃) (NB prog w A env R) s₂) (NB prog w A env R) s₁') (NB prog w A env R) s₁) (NB prog w A env R) s)
    (n : Nat) (h : I n s) : codeAny (model prog w) A (.compLoop (.ListComp elt [⟨t1, i1, [], 0⟩, ⟨target, iter, ifs, 0⟩] scope pos) 0 it acc env) R s := by
  refine codeAny_loop rfl I (fun n s hI => ?_) n h
  show wpAny _ A ((compTurn (.ListComp elt [⟨t1, i1, [], 0⟩, ⟨target, iter, ifs, 0⟩] scope pos) 0 it acc env).onRaise (fun x => do noteFrame x env; theTreesLotGoes x)) _ _ s
  refine wpAny_noted ?_
  rw [turnF_two]
  unfold turnF
  refine wpAny_bind (wpAny_standAt (wpAny_bind (wpAny_mono (turn n s hI) (fun r s₁ h₁ => ?_) fun _ _ h' => h')))
  cases r with
  | none => exact wpAny_pure h₁
  | some v =>
    refine wpAny_bind (wpAny_mono h₁ (fun _ s₁' h₁' => ?_) fun _ _ h' => h')
    refine wpAny_bind (wpAny_mono h₁' (fun _ s₂ h₂ => ?_) fun _ _ h' => h')
    refine wpAny_bind (wpAny_mono (wpAny_tests_nil (Q := fun ok s₃ => ok = true ∧ s₃ = s₂) ⟨rfl, rfl⟩) (fun ok s₃ h₃ => ?_) fun _ _ h' => h')
    obtain ⟨rfl, rfl⟩ := h₃
    simp only [if_true]
    refine wpAny_bind (wpAny_mono h₂ (fun x s₃ h₃ => ?_) fun _ _ h' => h')
    refine wpAny_bind (wpAny_standAt ?_)
    rw [hfold]
    refine wpAny_bind (wpAny_pure ?_)
    refine wpAny_bind (wpAny_holding (wpAny_mono h₃ (fun it2 s₄ h₄ => ?_) fun _ _ h' => h'))
    refine wpAny_bind (wpAny_runOwn (by
      rw [Around.mark_none]
      refine codeAny_mono h₄ fun r s₅ h₅ => ?_
      cases r with
      | ok f => exact wpAny_pure ⟨rfl, h₅⟩
      | error e => exact h₅))
end
end Mine

/- part Ops13 -/
namespace Mine

section
variable (prog : Program) (w : World) (d : Addr) (H : Heap) (T : Tab) (C : Orc) (m : Nat)
noncomputable def EvG (n : Nat) : Prop := ∀ nm env ρ e σ p σ' D s A Q E, EnvOk nm env → RSt prog w d T.cells H env ρ σ D s.heap → Room m A → ev T C n nm ρ e σ = some (p, σ') →
  Ends prog w d T.cells p σ' D σ s Q → wpAny (model prog w) A (eval e env) Q E s
noncomputable def EvTG (n : Nat) : Prop := ∀ nm env ρ e σ b σ' D s A (Q : Bool → Shared → Prop) E, EnvOk nm env → RSt prog w d T.cells H env ρ σ D s.heap → Room m A → evT T C n nm ρ e σ = some (b, σ') →
  (∀ D' h' tk, Ok prog w d T.cells D σ s.heap D' σ' h' → Q b { s with heap := h', toks := tk }) → wpAny (model prog w) A (isTrue e env (eval e env)) Q E s
noncomputable def EvIG (n : Nat) : Prop := ∀ nm env ρ e tg σ its σ' D s A (Q : Value → Shared → Prop) E, EnvOk nm env → RSt prog w d T.cells H env ρ σ D s.heap → Room m A → (isEnumE e = true → isTupE tg = true) → evI T C n nm ρ e σ = some (its, σ') →
  (∀ v D' h' tk, Ok prog w d T.cells D σ s.heap D' σ' h' → IterV prog w d tg s.heap D' its v { s with heap := h', toks := tk } → Q v { s with heap := h', toks := tk }) → wpAny (model prog w) A (eval e env) Q E s
end

/-- what does not change while a comprehension runs: its namespace C, its list L -/
structure Fx (d : Addr) (H h₀ : Heap) (cenv : Env) (C L : Addr) : Prop where
  c0 : h₀.get? C = none
  l0 : h₀.get? L = none
  H0 : ∀ b o, H.get? b = some o → h₀.get? b = some o
  CL : C ≠ L
  Cd : C ≠ d
  Ld : L ≠ d
  loc : cenv.locals = C
  cc : ∀ x c, cenv.cells.lookup x = some c → c ≠ C ∧ c ≠ L

structure CS (prog : Program) (w : World) (d : Addr) (cells : List Int) (H : Heap) (D₀ : Fz) (σ₀ : Nat) (h₀ : Heap) (cenv : Env) (C L : Addr) (ks : List Rho) (ρ : Rho) (acc : List PV) (σ : Nat) (D : Fz) (h : Heap) : Prop where
  ok : Ok prog w d cells D₀ σ₀ h₀ D σ h
  st : RSt prog w d cells H cenv ρ σ D h
  kp : ∀ ρk ∈ ks, RSt prog w d cells H cenv ρk σ D h
  ns : ∃ m, h.Ns C m
  ac : ∃ vs c, h.get? L = some (lstO vs c) ∧ VRs prog w d D acc vs
  DC : D C = none
  DL : D L = none

section
variable {prog : Program} {w : World} {d : Addr} {cells : List Int} {H : Heap} {D₀ D D' : Fz} {σ₀ σ σ' : Nat} {h₀ h h' : Heap} {cenv : Env} {C L : Addr} {ks : List Rho} {ρ ρ' : Rho} {acc : List PV}

theorem Fx.H_none {b : Addr} (F : Fx d H h₀ cenv C L) (e : h₀.get? b = none) : H.get? b = none := by
  cases q : H.get? b with
  | none => rfl
  | some o => rw [F.H0 b o q] at e; cases e

theorem CS.step (x : CS prog w d cells H D₀ σ₀ h₀ cenv C L ks ρ acc σ D h) (F : Fx d H h₀ cenv C L) (y : Ok prog w d cells D σ h D' σ' h') : CS prog w d cells H D₀ σ₀ h₀ cenv C L ks ρ acc σ' D' h' := by
  refine Classical.byContradiction fun hG => ?_
  obtain ⟨m, hn⟩ := x.ns
  obtain ⟨vs, c, hl, hv⟩ := x.ac
  have hns := hn
  obtain ⟨oC, _, _, hC, _⟩ := hns
  refine hG ?_
  exact ⟨x.ok.trans y, x.st.step y, fun ρk hk => (x.kp ρk hk).step y, ⟨m, hn.at' fun o e => y.pres _ o F.Cd e⟩, ⟨vs, c, y.pres _ _ F.Ld hl, hv.mono y.le⟩, (y.new _ _ hC).trans x.DC, (y.new _ _ hl).trans x.DL⟩

/-- an iterator gives an item: its own objects W change -/
theorem CS.other {W : List Addr} (x : CS prog w d cells H D₀ σ₀ h₀ cenv C L ks ρ acc σ D h) (F : Fx d H h₀ cenv C L) (hs : ∀ b o, b ∉ W → h.get? b = some o → h'.get? b = some o) (W0 : ∀ b ∈ W, h₀.get? b = none) (Wd : d ∉ W) (WC : C ∉ W) (WL : L ∉ W)
    (Wc : ∀ x c, cenv.cells.lookup x = some c → c ∉ W) (le : D.le D') (new : ∀ a o, h.get? a = some o → D' a = D a) (on : D'.on h') : CS prog w d cells H D₀ σ₀ h₀ cenv C L ks ρ acc σ D' h' := by
  refine Classical.byContradiction fun hG => ?_
  obtain ⟨m, hn⟩ := x.ns
  obtain ⟨vs, c, hl, hv⟩ := x.ac
  have hns := hn
  obtain ⟨oC, _, _, hC, _⟩ := hns
  refine hG ?_
  have WH : ∀ b ∈ W, H.get? b = none := fun b hb => F.H_none (W0 b hb)
  exact ⟨x.ok.chg hs W0 Wd le new on, x.st.other hs (F.loc ▸ WC) Wd WH Wc le new on, fun ρk hk => (x.kp ρk hk).other hs (F.loc ▸ WC) Wd WH Wc le new on, ⟨m, hn.at' fun o e => hs _ o WC e⟩, ⟨vs, c, hs _ _ WL hl, hv.mono le⟩, (new _ _ hC).trans x.DC, (new _ _ hl).trans x.DL⟩

theorem CS.grow (x : CS prog w d cells H D₀ σ₀ h₀ cenv C L ks ρ acc σ D h) (F : Fx d H h₀ cenv C L) (hs : ∀ b o, h.get? b = some o → h'.get? b = some o) : CS prog w d cells H D₀ σ₀ h₀ cenv C L ks ρ acc σ D h' :=
  x.other (W := []) F (fun b o _ e => hs b o e) (fun _ h => nomatch h) (fun h => nomatch h) (fun h => nomatch h) (fun h => nomatch h) (fun _ _ _ h => nomatch h) (Fz.le.refl D) (fun _ _ _ => rfl) fun b o e => hs b o (x.ok.on b o e)

/-- a name of the block is stored -/
theorem CS.store {prog : Program} {w : World} {A : Around} {x : Str} {p : PV} {v : Value} {s : Shared} {Q : Unit → Shared → Prop} {E : Value → Shared → Prop} {nm : NM} (y : CS prog w d cells H D₀ σ₀ h₀ cenv C L ks ρ acc σ D s.heap) (F : Fx d H h₀ cenv C L) (X : EnvOk nm cenv)
    (hx : cenv.kindOf x = some .local) (hk : ∀ ρk ∈ ks, ρk x = none) (vr : VR prog w d D p v) (hQ : ∀ h' tk, (∀ b o, b ≠ C → s.heap.get? b = some o → h'.get? b = some o) → CS prog w d cells H D₀ σ₀ h₀ cenv C L ks (upd ρ x (.val p)) acc σ D h' → Q () { s with heap := h', toks := tk }) :
    wpAny (model prog w) A (storeName cenv x v) Q E s := by
  refine Classical.byContradiction fun hG => ?_
  obtain ⟨m, hn⟩ := y.ns
  obtain ⟨vs, c, hl, hv⟩ := y.ac
  refine hG ?_
  refine wpAny_storeName_local hx (F.loc.symm ▸ hn) (fun h' hn' hs => hQ h' _ (F.loc ▸ hs.extBut) ?_) (by rw [X.kind]; rfl)
  rw [F.loc] at hn' hs
  have hs' : ∀ b o, b ≠ C → s.heap.get? b = some o → h'.get? b = some o := hs.extBut
  have hsW : ∀ b o, b ∉ [C] → s.heap.get? b = some o → h'.get? b = some o := fun b o hb e => hs' b o (by simpa using hb) e
  have old : ∀ (ρ₁ : Rho) (q : Str) (p' : PV), RSt prog w d cells H cenv ρ₁ σ D s.heap → q ≠ x → ρ₁ q = some (.val p') → (∃ v', cenv.kindOf q = some .local ∧ (if q = x then some v else m q) = some v' ∧ VR prog w d D p' v') ∨ (ρ₁ q = some (.val p') ∧ cenv.kindOf q ≠ some .local) := by
    intro ρ₁ q p' r hq e
    refine Classical.byContradiction fun hG => ?_
    obtain ⟨v', a, b⟩ := r.vars q p' e
    refine hG ?_
    rcases a with ⟨k, m₂, n₂, e₂⟩ | ⟨k, _⟩
    · refine .inl ⟨v', k, ?_, b⟩
      rw [if_neg hq, ← e₂]; exact (hn.agree (F.loc ▸ n₂) q)
    · refine .inr ⟨e, ?_⟩
      rcases k with k | k <;> rw [k] <;> simp
  refine ⟨y.ok.chg hsW (fun b hb => by rw [List.mem_singleton.mp hb]; exact F.c0) (fun hb => F.Cd (List.mem_singleton.mp hb).symm) (Fz.le.refl D) (fun _ _ _ => rfl) (fun b o e => hs' b o (by rintro rfl; rw [y.DC] at e; cases e) (y.ok.on b o e)),
    y.st.store F.loc hs' hn' y.DC (F.H_none F.c0) (fun x c e => (F.cc x c e).1) (fun q p' e => ?_), fun ρk hm => (y.kp ρk hm).store F.loc hs' hn' y.DC (F.H_none F.c0) (fun x c e => (F.cc x c e).1) (fun q p' e => old ρk q p' (y.kp ρk hm) (by rintro rfl; rw [hk ρk hm] at e; cases e) e), ⟨_, hn'⟩, ⟨vs, c, hs' _ _ (Ne.symm F.CL) hl, hv⟩, y.DC, y.DL⟩
  unfold upd at e
  by_cases hq : q = x
  · subst hq
    simp only [beq_self_eq_true, if_true, Option.some.injEq, Slot.val.injEq] at e
    subst e
    exact .inl ⟨v, hx, by rw [if_pos rfl], vr⟩
  · rw [if_neg (by simpa using hq)] at e
    exact old ρ q p' y.st hq e

/-- an item is added to the list -/
theorem CS.append {prog : Program} {w : World} {A : Around} {p : PV} {v : Value} {s : Shared} {Q : Value → Shared → Prop} {E : Value → Shared → Prop} (y : CS prog w d cells H D₀ σ₀ h₀ cenv C L ks ρ acc σ D s.heap) (F : Fx d H h₀ cenv C L)
    (vr : VR prog w d D p v) (hsz : acc.length ≤ sizeLine) (hQ : ∀ h', (∀ b o, b ≠ L → s.heap.get? b = some o → h'.get? b = some o) → CS prog w d cells H D₀ σ₀ h₀ cenv C L ks ρ (acc ++ [p]) σ D h' → Q .none { s with heap := h' }) :
    wpAny (model prog w) A (call (.builtin "list.append") [.ref L, v]) Q E s := by
  refine Classical.byContradiction fun hG => ?_
  obtain ⟨m, hn⟩ := y.ns
  obtain ⟨vs, c, hl, hv⟩ := y.ac
  refine hG ?_
  refine append_at hl (fun h' hs hl' => hQ h' hs.extBut ?_) (by rw [List.size_toArray, hv.length]; exact hsz)
  have hsW : ∀ b o, b ∉ [L] → s.heap.get? b = some o → h'.get? b = some o := fun b o hb e => hs.extBut b o (by simpa using hb) e
  have on' : D.on h' := fun b o e => hs.extBut b o (by rintro rfl; rw [y.DL] at e; cases e) (y.ok.on b o e)
  have Wd : d ∉ [L] := fun hb => F.Ld (List.mem_singleton.mp hb).symm
  have WH : ∀ b ∈ [L], H.get? b = none := fun b hb => by rw [List.mem_singleton.mp hb]; exact F.H_none F.l0
  have Wc : ∀ x c, cenv.cells.lookup x = some c → c ∉ [L] := fun x c e hb => (F.cc x c e).2 (List.mem_singleton.mp hb)
  have WC : cenv.locals ∉ [L] := by rw [F.loc]; simpa using F.CL
  refine ⟨y.ok.chg hsW (fun b hb => by rw [List.mem_singleton.mp hb]; exact F.l0) Wd (Fz.le.refl D) (fun _ _ _ => rfl) on', y.st.other hsW WC Wd WH Wc (Fz.le.refl D) (fun _ _ _ => rfl) on', fun ρk hm => (y.kp ρk hm).other hsW WC Wd WH Wc (Fz.le.refl D) (fun _ _ _ => rfl) on',
    ⟨m, hn.at' fun o e => hs.extBut _ o F.CL e⟩, ⟨vs ++ [v], c + 1, by rw [hl']; simp, hv.append (VRs.cons vr VRs.nil)⟩, y.DC, y.DL⟩

theorem CS.to_keep {ρk : Rho} (y : CS prog w d cells H D₀ σ₀ h₀ cenv C L ks ρ acc σ D h) (hk : ρk ∈ ks) : CS prog w d cells H D₀ σ₀ h₀ cenv C L ks ρk acc σ D h := { y with st := y.kp ρk hk }
theorem CS.more {ρ₁ : Rho} (y : CS prog w d cells H D₀ σ₀ h₀ cenv C L ks ρ acc σ D h) (r : RSt prog w d cells H cenv ρ₁ σ D h) : CS prog w d cells H D₀ σ₀ h₀ cenv C L (ρ₁ :: ks) ρ acc σ D h :=
  { y with kp := List.forall_mem_cons.mpr ⟨r, y.kp⟩ }
theorem CS.less {ρ₁ : Rho} (y : CS prog w d cells H D₀ σ₀ h₀ cenv C L (ρ₁ :: ks) ρ acc σ D h) : CS prog w d cells H D₀ σ₀ h₀ cenv C L ks ρ acc σ D h := { y with kp := fun ρk hk => y.kp ρk (.tail _ hk) }

/-- what moves: only what lies in W -/
structure Mv (W : List Addr) (D : Fz) (h : Heap) (D' : Fz) (h' : Heap) : Prop where
  pres : ∀ b o, b ∉ W → h.get? b = some o → h'.get? b = some o
  le : D.le D'
  new : ∀ a o, h.get? a = some o → D' a = D a
  live : ∀ b o, h.get? b = some o → ∃ o', h'.get? b = some o'
theorem Mv.refl (W : List Addr) (D : Fz) (h : Heap) : Mv W D h D h := ⟨fun _ _ _ e => e, Fz.le.refl D, fun _ _ _ => rfl, fun _ o e => ⟨o, e⟩⟩
theorem Mv.trans {W : List Addr} {D'' : Fz} {h'' : Heap} (x : Mv W D h D' h') (y : Mv W D' h' D'' h'') : Mv W D h D'' h'' :=
  ⟨fun b o n e => y.pres b o n (x.pres b o n e), x.le.trans y.le, fun a o e => let ⟨o', q⟩ := x.live a o e; (y.new a o' q).trans (x.new a o e), fun b o e => let ⟨o', q⟩ := x.live b o e; y.live b o' q⟩
theorem Mv.mono {W W' : List Addr} (x : Mv W D h D' h') (s : ∀ b ∈ W, b ∈ W') : Mv W' D h D' h' := ⟨fun b o n e => x.pres b o (fun q => n (s b q)) e, x.le, x.new, x.live⟩
theorem Mv.of_ok {W : List Addr} (y : Ok prog w d cells D σ h D' σ' h') (hd : d ∈ W) : Mv W D h D' h' := ⟨fun b o n e => y.pres b o (fun q => n (q ▸ hd)) e, y.le, y.new, fun b o e => y.live e⟩
theorem Mv.of_but {W : List Addr} {C : Addr} (hs : ∀ b o, b ≠ C → h.get? b = some o → h'.get? b = some o) (hC : C ∈ W) (hl : ∃ o, h'.get? C = some o) : Mv W D h D h' :=
  ⟨fun b o n e => hs b o (fun q => n (q ▸ hC)) e, Fz.le.refl D, fun _ _ _ => rfl, fun b o e => by
    by_cases q : b = C
    · subst q; exact hl
    · exact ⟨o, hs b o q e⟩⟩
theorem Mv.of_grow {W : List Addr} (hs : ∀ b o, h.get? b = some o → h'.get? b = some o) : Mv W D h D h' := ⟨fun b o _ e => hs b o e, Fz.le.refl D, fun _ _ _ => rfl, fun b o e => ⟨o, hs b o e⟩⟩
theorem Mv.none {W : List Addr} {b : Addr} (x : Mv W D h D' h') (hb : D b = none) (hl : ∃ o, h.get? b = some o) : D' b = .none := let ⟨o, q⟩ := hl; (x.new b o q).trans hb
end
end Mine

/- part Ops14 -/
namespace Mine

section
variable {prog : Program} {w : World} {d : Addr} {H : Heap} {T : Tab} {C : Orc} {m n : Nat} {A : Around} {nm : NM} {env : Env} {ρ : Rho}

theorem forIn_false (env : Env) : ∀ ifs : List Expr, (forIn ifs false fun c r => if r = true then do let ok ← PySem.isTrue c env (eval c env); pure (ForInStep.yield ok) else pure (ForInStep.yield r) : Sem Bool) = pure false
  | [] => rfl
  | _ :: r => by rw [List.forIn_cons]; simp only [Bool.false_eq_true, if_false, pure_bind]; exact forIn_false env r

theorem tests_ok (hT : EvTG prog w d H T C m n) (X : EnvOk nm env) (hr : Room m A) (Q : Bool → Shared → Prop) (E : Value → Shared → Prop) (b : Bool) (σ' : Nat) (ifs : List Expr) : ∀ (σ : Nat) (D : Fz) (s : Shared),
    RSt prog w d T.cells H env ρ σ D s.heap → allWith (evT T C n nm ρ) ifs σ = some (b, σ') → (∀ D' h' tk, Ok prog w d T.cells D σ s.heap D' σ' h' → Q b { s with heap := h', toks := tk }) → wpAny (model prog w) A (testsS ifs env) Q E s := by
  induction ifs with
  | nil => exact fun σ D s r h hQ => sp_e h fun e1 e2 => wpAny_pure (e1 ▸ hQ D s.heap s.toks (e2 ▸ Ok.refl r.toGd))
  | cons e rest ih =>
    refine fun σ D s r h hQ => bnd_e h fun c σ₁ h₁ h => ?_
    unfold testsS
    rw [List.forIn_cons, if_pos rfl]
    refine wpAny_bind (wpAny_bind (hT nm env ρ e σ c σ₁ D s A _ E X r hr h₁ fun D' h' tk ok => wpAny_pure ?_))
    cases c with
    | true => exact ih σ₁ D' { s with heap := h', toks := tk } (r.step ok) h fun D'' h'' tk' ok' => hQ D'' h'' tk' (ok.trans ok')
    | false =>
      refine sp_e h fun e1 e2 => ?_
      subst e1 e2
      dsimp only
      rw [forIn_false]
      exact wpAny_pure (hQ D' h' tk ok)

theorem drop_get {α : Type} {l : List α} {i : Nat} (h : i < l.length) : l.drop i = l[i] :: l.drop (i + 1) := by rw [List.drop_eq_getElem_cons h]
theorem lt_turn {i n : Nat} (h : i < n) : n + 1 - (i + 1) < n + 1 - i := by rw [Nat.add_sub_add_right, Nat.succ_sub (Nat.le_of_lt h)]; exact Nat.lt_succ_self _
theorem len_left {α : Type} {a b c l : List α} {k : Nat} (h : a ++ (b ++ c) = l) (hl : l.length ≤ k) : (a ++ b).length ≤ k := by
  subst h
  refine Nat.le_trans ?_ hl
  rw [← List.append_assoc, List.length_append (as := a ++ b)]
  exact Nat.le_add_right _ _

/-- as Mv, but what lies in V may be gone -/
structure Me (W V : List Addr) (D : Fz) (h : Heap) (D' : Fz) (h' : Heap) : Prop where
  pres : ∀ b o, b ∉ W → h.get? b = some o → h'.get? b = some o
  le : D.le D'
  new : ∀ a o, h.get? a = some o → D' a = D a
  live : ∀ b o, b ∉ V → h.get? b = some o → ∃ o', h'.get? b = some o'
end

/-- what a comprehension's loop goes by -/
structure LQ where
  prog : Program
  w : World
  d : Addr
  T : Tab
  H : Heap
  D₀ : Fz
  σ₀ : Nat
  h₀ : Heap
  cenv : Env
  CA : Addr
  L : Addr
  A : Around
  ks : List Rho
  tg : Expr
  I : Addr
  fp : List Addr
  wr : List Addr
  its : List PV
  Inv : Nat → Fz → Heap → Prop
  Da : Fz
  ha : Heap

abbrev LQ.W (q : LQ) : List Addr := q.CA :: q.L :: q.d :: q.wr
abbrev LQ.CS (q : LQ) (ρ : Rho) (acc : List PV) (σ : Nat) (D : Fz) (h : Heap) : Prop := Mine.CS q.prog q.w q.d q.T.cells q.H q.D₀ q.σ₀ q.h₀ q.cenv q.CA q.L q.ks ρ acc σ D h
/-- where the loop stands -/
structure LQ.St (q : LQ) (i : Nat) (ρ : Rho) (acc : List PV) (σ : Nat) (D : Fz) (h : Heap) : Prop where
  x : q.CS ρ acc σ D h
  inv : q.Inv i D h
  WD : ∀ b ∈ q.wr, D b = none
  mv : Mv q.W q.Da q.ha D h
structure LQ.Good (q : LQ) : Prop where
  F : Fx q.d q.H q.h₀ q.cenv q.CA q.L
  it : Itr q.prog q.w q.d q.A q.tg q.I q.fp q.wr q.its q.Inv
  W0 : ∀ b ∈ q.wr, q.h₀.get? b = none
  fpd : ∀ b ∈ q.fp, b ≠ q.d ∧ b ≠ q.CA ∧ b ≠ q.L
  Wc : ∀ x c, q.cenv.cells.lookup x = some c → c ∉ q.wr
  tn : ∀ x ∈ tnames 4 q.tg, q.cenv.kindOf x = some .local ∧ ∀ ρ ∈ q.ks, ρ x = none
section
variable {q : LQ} {i : Nat} {ρ : Rho} {acc : List PV} {σ σ' : Nat} {D D' : Fz} {h h' : Heap}

theorem LQ.St.step (t : q.St i ρ acc σ D h) (G : q.Good) (ok : Ok q.prog q.w q.d q.T.cells D σ h D' σ' h') : q.St i ρ acc σ' D' h' :=
  ⟨t.x.step G.F ok, G.it.frame _ _ _ _ _ t.inv ok.le fun b hb o e => ok.pres b o (G.fpd b hb).1 e,
    fun b hb => (Mv.of_ok (W := [q.d]) ok (.head _)).none (t.WD b hb) (G.it.live _ _ _ t.inv b hb), t.mv.trans (Mv.of_ok ok (.tail _ (.tail _ (.head _))))⟩
theorem LQ.St.grow (t : q.St i ρ acc σ D h) (G : q.Good) (hg : ∀ b o, h.get? b = some o → h'.get? b = some o) : q.St i ρ acc σ D h' :=
  ⟨t.x.grow G.F hg, G.it.frame _ _ _ _ _ t.inv (Fz.le.refl _) fun b _ o e => hg b o e, t.WD, t.mv.trans (Mv.of_grow hg)⟩
theorem LQ.St.store (G : q.Good) {nm : NM} (X : EnvOk nm q.cenv) : StoreOk (d := q.d) q.prog q.w q.cenv q.A D (fun x => q.cenv.kindOf x = some .local ∧ ∀ ρ ∈ q.ks, ρ x = none) (fun ρ h => q.St i ρ acc σ D h) :=
  fun ρ x p v s Q E okx t vr hQ => t.x.store G.F X okx.1 okx.2 vr fun h' tk hs' x3 => hQ h' tk ⟨x3, G.it.frame _ _ _ _ _ t.inv (Fz.le.refl _) fun b hb o e => hs' b o (G.fpd b hb).2.1 e, t.WD,
    t.mv.trans (Mv.of_but hs' (.head _) (let ⟨m, hn⟩ := x3.ns; let ⟨o, _, _, q, _⟩ := hn; ⟨o, q⟩))⟩
theorem LQ.St.next (t : q.St i ρ acc σ D h) (G : q.Good) (le : D.le D') (new : ∀ a o, h.get? a = some o → D' a = D a) (on : D'.on h') (hs : ∀ b o, b ∉ q.wr → h.get? b = some o → h'.get? b = some o) (inv : q.Inv (i + 1) D' h') : q.St (i + 1) ρ acc σ D' h' :=
  have m1 : Mv q.W D h D' h' := ⟨fun b o hb e => hs b o (fun q => hb (.tail _ (.tail _ (.tail _ q)))) e, le, new, fun b o e => by
    by_cases c : b ∈ q.wr
    · exact G.it.live _ _ _ inv b c
    · exact ⟨o, hs b o c e⟩⟩
  ⟨t.x.other G.F hs G.W0 (fun p => (G.fpd _ (G.it.sub _ p)).1 rfl) (fun p => (G.fpd _ (G.it.sub _ p)).2.1 rfl) (fun p => (G.fpd _ (G.it.sub _ p)).2.2 rfl) G.Wc le new on, inv, fun b hb => m1.none (t.WD b hb) (G.it.live _ _ _ t.inv b hb), t.mv.trans m1⟩
theorem LQ.St.append {p : PV} {v : Value} {s : Shared} {Q : Value → Shared → Prop} {E : Value → Shared → Prop} (t : q.St i ρ acc σ D s.heap) (G : q.Good) (vr : VR q.prog q.w q.d D p v) (hsz : acc.length ≤ sizeLine)
    (hQ : ∀ h', q.St i ρ (acc ++ [p]) σ D h' → Q .none { s with heap := h' }) : wpAny (model q.prog q.w) q.A (call (.builtin "list.append") [.ref q.L, v]) Q E s :=
  t.x.append G.F vr hsz fun h6 hs6 x6 => hQ h6 ⟨x6, G.it.frame _ _ _ _ _ t.inv (Fz.le.refl _) fun b hb o e => hs6 b o (G.fpd b hb).2.2 e, t.WD, t.mv.trans (Mv.of_but hs6 (.tail _ (.head _)) (let ⟨vs, c, q, _⟩ := x6.ac; ⟨_, q⟩))⟩
theorem LQ.St.keep {ρk : Rho} (t : q.St i ρ acc σ D h) (hk : ρk ∈ q.ks) : q.St i ρk acc σ D h := ⟨t.x.to_keep hk, t.inv, t.WD, t.mv⟩
/-- the iterator is done -/
theorem LQ.St.done (t : q.St q.its.length ρ acc σ D h) (G : q.Good) (hs : ∀ b o, b ∉ q.wr → h.get? b = some o → h'.get? b = some o) : q.CS ρ acc σ D h' ∧ Me q.W q.wr q.Da q.ha D h' :=
  ⟨t.x.other G.F hs G.W0 (fun p => (G.fpd _ (G.it.sub _ p)).1 rfl) (fun p => (G.fpd _ (G.it.sub _ p)).2.1 rfl) (fun p => (G.fpd _ (G.it.sub _ p)).2.2 rfl) G.Wc (Fz.le.refl _) (fun _ _ _ => rfl) (fun b o e => hs b o (fun q => by rw [t.WD b q] at e; cases e) (t.x.ok.on b o e)),
    fun b o hb e => hs b o (fun q => hb (.tail _ (.tail _ (.tail _ q)))) (t.mv.pres b o hb e), t.mv.le, t.mv.new, fun b o hb e => let ⟨o', p⟩ := t.mv.live b o e; ⟨o', hs b o' hb p⟩⟩

/-- the loop's turns: what is left, what stands -/
inductive LQ.Turn (q : LQ) (f : PV → Nat → Option (List PV × Nat)) (ρ : Rho) (out : List PV) (σ₂ : Nat) (s : Shared) : Nat → Shared → Prop
  | mk (i : Nat) (acc rest : List PV) (σ : Nat) (D : Fz) (h : Heap) (tk : Nat) (hi : i ≤ q.its.length) (t : q.St i ρ acc σ D h) (hf : compFold f (q.its.drop i) σ = some (rest, σ₂)) (ha : acc ++ rest = out) :
    LQ.Turn q f ρ out σ₂ s (q.its.length + 1 - i) { s with heap := h, toks := tk }
end

section
variable {H : Heap} {C : Orc} {m n : Nat} {nm : NM} {q : LQ}

theorem fold_e {P : Prop} {f : PV → Nat → Option (List PV × Nat)} {p : PV} {r l : List PV} {σ σ₂ : Nat} (h : compFold f (p :: r) σ = some (l, σ₂)) (k : ∀ l₁ σ₁ l₂, f p σ = some (l₁, σ₁) → compFold f r σ₁ = some (l₂, σ₂) → l₁ ++ l₂ = l → P) : P :=
  bnd_e h fun l₁ σ₁ h₁ h => bnd_e h fun l₂ _ h₂ e => sp_e e fun e1 e2 => k l₁ σ₁ l₂ h₁ (e2 ▸ h₂) e1
theorem elt_e {P : Prop} {f : Nat → Option (List PV × Nat)} {o : Option (PV × Nat)} {l₁ l₂ : List PV} {σ₁ σ₂ : Nat} (h : elt1 o = some (l₁, σ₁)) (hf : f σ₁ = some (l₂, σ₂)) (k : ∀ y σ₅, o = some (y, σ₅) → f σ₅ = some (l₂, σ₂) → [y] = l₁ → P) : P :=
  bnd_e h fun y σ₅ h₁ e => sp_e e fun e1 e2 => k y σ₅ h₁ (e2 ▸ hf) e1
theorem len_l {α : Type} {a c l : List α} {k : Nat} (h : a ++ c = l) (hl : l.length ≤ k) : a.length ≤ k := by subst h; exact Nat.le_trans (List.length_append ▸ Nat.le_add_right _ _) hl
theorem app_next {a b l₁ l₂ rest out : List PV} (hl : b = l₁) (e : l₁ ++ l₂ = rest) (h : a ++ rest = out) : (a ++ b) ++ l₂ = out := by subst hl e h; exact List.append_assoc ..
theorem LQ.St.fin {q : LQ} {i : Nat} {ρ : Rho} {acc rest out : List PV} {σ σ₂ : Nat} {D : Fz} {h h' : Heap} (t : q.St i ρ acc σ D h) (G : q.Good) (e : i = q.its.length) (hf : some (([] : List PV), σ) = some (rest, σ₂)) (ha : acc ++ rest = out) (hs : ∀ b o, b ∉ q.wr → h.get? b = some o → h'.get? b = some o) : q.CS ρ out σ₂ D h' ∧ Me q.W q.wr q.Da q.ha D h' := by
  refine sp_e hf fun e1 e2 => ?_
  subst e e1 e2 ha
  rw [List.append_nil]
  exact t.done G hs
theorem drop_end {α : Type} {l : List α} {i : Nat} {β : Type} {f : List α → β} {x : β} (e : i = l.length) (h : f (l.drop i) = x) : f [] = x := by subst e; rw [List.drop_length] at h; exact h
theorem loopL {e0 elt : Expr} {gs : List Comprehension} {sc0 : Scope} {ps0 pos : Pos} {ifs : List Expr} {k : Nat} {R : Result → Shared → Prop} {ρk : Rho} {acc l : List PV} {σ σ₂ : Nat} {s : Shared} (G : q.Good)
    (hden : ∀ it acc, compTurn (.ListComp e0 gs sc0 ps0) k it acc q.cenv = turnL (.ListComp e0 gs sc0 ps0) k q.tg elt ifs pos it acc q.cenv)
    (hE : EvG q.prog q.w q.d q.H q.T C m n) (hT : EvTG q.prog q.w q.d q.H q.T C m n) (X : EnvOk nm q.cenv) (hr : Room m q.A) (hk : ρk ∈ q.ks)
    (t : q.St 0 ρk acc σ q.Da s.heap) (hf : compFold (turn1 q.T C n nm ρk q.tg elt ifs) q.its σ = some (l, σ₂)) (hsz : (acc ++ l).length ≤ sizeLine)
    (hR : ∀ D' h' tk, q.CS ρk (acc ++ l) σ₂ D' h' ∧ Me q.W q.wr q.Da q.ha D' h' → R (.ok .next) { s with heap := h', toks := tk }) :
    codeAny (model q.prog q.w) q.A (.compLoop (.ListComp e0 gs sc0 ps0) k (.ref q.I) (.ref q.L) q.cenv) R s := by
  refine codeAny_compL (hden _ _) (q.Turn (turn1 q.T C n nm ρk q.tg elt ifs) ρk (acc ++ l) σ₂ s) (fun k' s' tu => ?_) (q.its.length + 1) (.mk 0 acc l σ q.Da s.heap s.toks (Nat.zero_le _) t hf rfl)
  cases tu with | mk i acc' rest σ' D' h tk hi t' hf' hacc =>
  rcases Nat.lt_or_eq_of_le hi with hlt | e
  · refine fold_e ((congrArg (fun z => compFold _ z _) (drop_get hlt)).symm.trans hf') fun l₁ σ₁ l₂ hb hf₂ hl => ob_e hb fun ρ' hbind hb => bnd_e hb fun b σ4 hall hb => ?_
    refine G.it.item i q.its[i] D' _ _ _ _ _ (List.getElem?_eq_getElem hlt) t'.inv t'.x.ok.on t'.WD fun v D'' h'' tk'' le new on hs inv'' vr => ?_
    refine assign_ok (D := D'') (d := q.d) (P := fun ρ h => q.St (i + 1) ρ acc' σ' D'' h) _ hr.hand (fun ρ h h' x hg => x.grow G hg) (fun ρ h x => x.x.ok.on) (LQ.St.store G X) 4 q.tg q.its[i] ρk ρ' v _ _ _ hbind G.tn vr (t'.next G le new on hs inv'') fun h3 tk3 t3 => ?_
    refine tests_ok hT X hr _ _ b σ4 ifs σ' D'' _ (t3.x.st) hall fun D4 h4 tk4 ok4 => ?_
    have t4 := t3.step G (ok4)
    cases b with
    | true =>
      refine elt_e (f := compFold _ _) hb hf₂ fun p σ5 hev hf₂ e => ?_
      refine hE nm q.cenv ρ' elt σ4 p σ5 D4 _ q.A _ _ X (t4.x.st) hr hev fun y D5 h5 tk5 ok5 vr5 => ?_
      have ha := app_next e hl hacc
      refine (t4.step G (ok5)).append (s := { s with heap := h5, toks := tk5 }) G vr5 (len_l hacc hsz) fun h6 t6 => ?_
      exact ⟨_, lt_turn hlt, .mk (i + 1) _ l₂ σ5 D5 h6 tk5 hlt (t6.keep hk) hf₂ ha⟩
    | false =>
      refine sp_e hb fun e1 e2 => ?_
      exact ⟨_, lt_turn hlt, .mk (i + 1) acc' l₂ σ4 D4 h4 tk4 hlt (t4.keep hk) (e2 ▸ hf₂) (by rw [← hacc, ← hl, ← e1]; rfl)⟩
  · exact G.it.done D' _ _ _ (e ▸ t'.inv) fun h'' tk'' hs => hR D' h'' tk'' (t'.fin G e (drop_end (f := fun z => compFold _ z _) e hf') hacc hs)
end
end Mine

/- part Ops15 -/
namespace Mine

theorem bindT_none (n : Nat) : ∀ (t : Expr) (p : PV) (ρ ρ' : Rho), bindT n t p ρ = some ρ' → ∀ x, x ∉ tnames n t → ρ' x = ρ x := by
  induction n with
  | zero => exact fun _ _ _ _ h => nomatch h
  | succ n ih =>
    intro t p ρ ρ' h x hx
    have key : ∀ v : BV t, bindV (bindT n) v p ρ = some ρ' → x ∉ tnV (tnames n) v → ρ' x = ρ x := fun v h hx => by
      cases v with
      | name y =>
        cases h
        unfold upd
        exact if_neg fun q => hx (List.mem_singleton.mpr (eq_of_beq q))
      | pair t₁ t₂ =>
        exact ob_e h fun q _ h => ob_e h fun ρ₁ h₁ h => (ih t₂ _ _ _ h x fun m => hx (List.mem_append_right _ m)).trans (ih t₁ _ _ _ h₁ x fun m => hx (List.mem_append_left _ m))
      | other => cases h
    exact key (bv t) h hx

section
variable {q : LQ} {i : Nat} {ρ ρ' : Rho} {acc acc' : List PV} {σ σ' σ₄ : Nat} {D D' D5 : Fz} {h h' h5 : Heap}
/-- the inner loop is done -/
theorem LQ.St.after {wr2 : List Addr} (t : q.St i ρ acc σ D h) (G : q.Good) (t5 : q.St i ρ acc σ₄ D5 h5) (fresh : ∀ b ∈ wr2, h.get? b = none) (me : Me (q.CA :: q.L :: q.d :: wr2) wr2 D5 h5 D' h') (x : q.CS ρ' acc' σ' D' h') : q.St i ρ' acc' σ' D' h' :=
  have out : ∀ b o, b ∉ q.W → q.ha.get? b = some o → b ∉ q.CA :: q.L :: q.d :: wr2 := fun b o nb e hb => by
    rcases List.mem_cons.mp hb with rfl | hb
    · exact nb (.head _)
    · rcases List.mem_cons.mp hb with rfl | hb
      · exact nb (.tail _ (.head _))
      · rcases List.mem_cons.mp hb with rfl | hb
        · exact nb (.tail _ (.tail _ (.head _)))
        · obtain ⟨o', p⟩ := t.mv.live b o e
          rw [fresh b hb] at p; cases p
  have live : ∀ b o, q.ha.get? b = some o → b ∉ wr2 := fun b o e hb => by
    obtain ⟨o', p⟩ := t.mv.live b o e
    rw [fresh b hb] at p; cases p
  ⟨x, G.it.frame _ _ _ _ _ t5.inv me.le fun b hb o e => me.pres b o (fun p => by
      have n := G.fpd b hb
      rcases List.mem_cons.mp p with p | p
      · exact n.2.1 p
      · rcases List.mem_cons.mp p with p | p
        · exact n.2.2 p
        · rcases List.mem_cons.mp p with p | p
          · exact n.1 p
          · obtain ⟨o', p'⟩ := G.it.livef _ _ _ t.inv b hb
            rw [fresh b p] at p'; cases p') e,
    fun b hb => let ⟨o, p⟩ := G.it.live _ _ _ t5.inv b hb; (me.new b o p).trans (t5.WD b hb),
    ⟨fun b o nb e => me.pres b o (out b o nb e) (t5.mv.pres b o nb e), t5.mv.le.trans me.le, fun a o e => let ⟨o', p⟩ := t5.mv.live a o e; (me.new a o' p).trans (t5.mv.new a o e),
      fun b o e => let ⟨o', p⟩ := t5.mv.live b o e; me.live b o' (live b o e) p⟩⟩
end

section
variable {C : Orc} {m n : Nat} {nm : NM} {q : LQ}

theorem loopF {elt i1 tg iter : Expr} {sc0 : Scope} {ps0 : Pos} {R : Result → Shared → Prop} {ρk : Rho} {acc l : List PV} {σ σ₂ : Nat} {s : Shared} (G : q.Good)
    (hfold : ∀ x, foldedSetIterable iter q.cenv x = pure x) (henum : isEnumE iter = true → isTupE tg = true)
    (hE : EvG q.prog q.w q.d q.H q.T C m n) (hT : EvTG q.prog q.w q.d q.H q.T C m n) (hI : EvIG q.prog q.w q.d q.H q.T C m n) (X : EnvOk nm q.cenv) (hr : Room m q.A) (hk : ρk ∈ q.ks)
    (tn2 : ∀ x ∈ tnames 4 tg, q.cenv.kindOf x = some .local ∧ x ∉ tnames 4 q.tg ∧ ∀ ρ ∈ q.ks, ρ x = none)
    (t : q.St 0 ρk acc σ q.Da s.heap) (hf : compFold (turn2 q.T C n nm ρk q.tg tg iter elt) q.its σ = some (l, σ₂)) (hsz : (acc ++ l).length ≤ sizeLine)
    (hR : ∀ D' h' tk, q.CS ρk (acc ++ l) σ₂ D' h' → R (.ok .next) { s with heap := h', toks := tk }) :
    codeAny (model q.prog q.w) q.A (.compLoop (.ListComp elt [⟨q.tg, i1, [], 0⟩, ⟨tg, iter, [], 0⟩] sc0 ps0) 0 (.ref q.I) (.ref q.L) q.cenv) R s := by
  refine codeAny_compF hfold (q.Turn (turn2 q.T C n nm ρk q.tg tg iter elt) ρk (acc ++ l) σ₂ s) (fun k' s' tu => ?_) (q.its.length + 1) (.mk 0 acc l σ q.Da s.heap s.toks (Nat.zero_le _) t hf rfl)
  cases tu with | mk i acc' rest σ' D' h tk hi t' hf' hacc =>
  rcases Nat.lt_or_eq_of_le hi with hlt | e
  · refine fold_e ((congrArg (fun z => compFold _ z _) (drop_get hlt)).symm.trans hf') fun l₁ σ₁ l₂ hb hf₂ hl => ob_e hb fun ρ' hbind hb => bnd_e hb fun its₂ σ4 hiter hb => ?_
    refine G.it.item i q.its[i] D' _ _ _ _ _ (List.getElem?_eq_getElem hlt) t'.inv t'.x.ok.on t'.WD fun v D'' h'' tk'' le new on hs inv'' vr => ?_
    refine assign_ok (D := D'') (d := q.d) (P := fun ρ h => q.St (i + 1) ρ acc' σ' D'' h) _ hr.hand (fun ρ h h' x hg => x.grow G hg) (fun ρ h x => x.x.ok.on) (LQ.St.store G X) 4 q.tg q.its[i] ρk ρ' v _ _ _ hbind G.tn vr (t'.next G le new on hs inv'') fun h3 tk3 t3 => ?_
    refine hI nm q.cenv ρ' iter tg σ' its₂ σ4 D'' _ q.A _ _ X t3.x.st hr henum hiter fun v4 D4 h4 tk4 ok4 iv => ?_
    refine iv q.A _ _ hr.hand fun I2 fp2 wr2 Inv2 h5 tk5 it2 inv5 c1 c2 keep => ?_
    have t4 := t3.step G ok4
    have t5 := t4.grow G keep
    have G2 : LQ.Good { q with ks := ρ' :: q.ks, tg := tg, I := I2, fp := fp2, wr := wr2, its := its₂, Inv := Inv2, Da := D4, ha := h5 } := {
      F := G.F, it := it2
      W0 := fun b hb => by
        cases p : q.h₀.get? b with
        | none => rfl
        | some o => obtain ⟨o', p'⟩ := t3.x.ok.live p; exact nomatch (c1 b hb).1.symm.trans p'
      fpd := fun b hb => by
        refine Classical.byContradiction fun hG => ?_
        obtain ⟨n1, _, n2⟩ := c2 b hb
        obtain ⟨_, ⟨o, _, _, lC, _⟩⟩ := t3.x.ns
        obtain ⟨_, _, lL, _⟩ := t3.x.ac
        refine hG ?_
        refine ⟨n1, fun p => ?_, fun p => ?_⟩
        · subst p
          rcases n2 with n2 | n2
          · exact nomatch n2.symm.trans lC
          · exact n2 t4.x.DC
        · subst p
          rcases n2 with n2 | n2
          · exact nomatch n2.symm.trans lL
          · exact n2 t4.x.DL
      Wc := fun x c e hb => by
        obtain ⟨o, p⟩ := t3.x.st.cl x c e
        exact nomatch (c1 c hb).1.symm.trans p
      tn := fun x hx => ⟨(tn2 x hx).1, fun ρ hρ => by
        rcases List.mem_cons.mp hρ with rfl | hρ
        · rw [bindT_none 4 _ _ _ _ hbind x (tn2 x hx).2.1]; exact (tn2 x hx).2.2 ρk hk
        · exact (tn2 x hx).2.2 ρ hρ⟩ }
    have inner : ∀ E' : Value → Shared → Prop, codeAny (model q.prog q.w) q.A (.compLoop (.ListComp elt [⟨q.tg, i1, [], 0⟩, ⟨tg, iter, [], 0⟩] sc0 ps0) 1 (.ref I2) (.ref q.L) q.cenv)
        (fun r s₅ => match r with | .ok _ => ∃ m, m < q.its.length + 1 - i ∧ q.Turn (turn2 q.T C n nm ρk q.tg tg iter elt) ρk (acc ++ l) σ₂ s m s₅ | .error e => E' e s₅) { s with heap := h5, toks := tk5 } := fun E' =>
      loopL G2 (fun it acc => turnL_two elt q.tg i1 tg iter [] [] sc0 ps0 it acc q.cenv) hE hT X hr (.head _) ⟨t5.x.more t5.x.st, inv5, fun b hb => (c1 b hb).2, Mv.refl _ _ _⟩ hb (len_left (l := acc ++ l) ((congrArg (acc' ++ ·) hl).trans hacc) hsz) fun D6 h6 tk6 x6 =>
        ⟨_, lt_turn hlt, .mk (i + 1) _ l₂ σ₁ D6 h6 tk6 hlt (t3.after G t5 (fun b hb => (c1 b hb).1) x6.2 (x6.1.less.to_keep hk)) hf₂ (app_next rfl hl hacc)⟩
    exact codeAny_compStart1 (inner _) (it2.self D4 _ _ _ inv5 (inner _))
  · exact G.it.done D' _ _ _ (e ▸ t'.inv) fun h'' tk'' hs => hR D' h'' tk'' (t'.fin G e (drop_end (f := fun z => compFold _ z _) e hf') hacc hs).1
end
end Mine

/- part Ops16 -/
namespace Mine

section
variable {prog : Program} {w : World} {d : Addr} {H : Heap} {T : Tab} {C : Orc} {m n : Nat} {A : Around} {nm : NM} {env : Env} {ρ : Rho}

theorem seen_val {sc : Scope} {ρ : Rho} {x : Str} {p : PV} (h : seen sc ρ x = some (.val p)) : sc.names.lookup x = some .free ∧ ρ x = some (.val p) := by
  unfold seen at h
  split at h
  · rename_i e
    split at h
    · rename_i q; cases h; exact ⟨e, q⟩
    · cases h
  · cases h
theorem seen_local {sc : Scope} {ρ : Rho} {x : Str} (h : sc.names.lookup x = some .local) : seen sc ρ x = none := by
  unfold seen; rw [h]

theorem kind_local {sc : Scope} {cl : List (Str × Addr)} {CA : Addr} {x : Str} (h : sc.names.lookup x = some .local) : (compEnvC sc cl CA env).kindOf x = some .local := lookup_relabel_local h

theorem tnames_P {P : Str → Bool} (n : Nat) : ∀ t : Expr, targetsP P n t = true → ∀ x ∈ tnames n t, P x = true := by
  induction n with
  | zero => exact fun _ h => nomatch h
  | succ n ih =>
    intro t h x hx
    have key : ∀ v : BV t, tgtV P (targetsP P n) v = true → x ∈ tnV (tnames n) v → P x = true := fun v h hx => by
      cases v with
      | name y => rw [List.mem_singleton.mp hx]; exact h
      | pair t₁ t₂ =>
        have h := Bool.and_eq_true_iff.mp h
        exact (List.mem_append.mp hx).elim (ih t₁ h.1 x) (ih t₂ h.2 x)
      | other => cases h
    exact key (bv t) h hx
theorem tnames_in {sc : Scope} (n : Nat) (t : Expr) (h : targetsIn sc n t = true) (x : Str) (hx : x ∈ tnames n t) : sc.names.lookup x = some .local := eq_of_beq (tnames_P n t h x hx)

/-- the frame of a comprehension: from the clause's iterator to the list -/
theorem comp_frame {elt : Expr} {g : Comprehension} {gs : List Comprehension} {sc : Scope} {pos : Pos} {its : List PV} {l : List PV} {σ σ₁ σ₂ : Nat} {D : Fz} {s : Shared} {Q : Value → Shared → Prop} {E : Value → Shared → Prop} {env : Env}
    (X : EnvOk nm env) (r : RSt prog w d T.cells H env ρ σ D s.heap) (hr : Room m A) (hs : scopeOk nm sc = true) (hfold : isSetE g.iter = false) (henum : isEnumE g.iter = true → isTupE g.target = true)
    (hI : EvIG prog w d H T C m n) (hiter : evI T C n nm ρ g.iter σ = some (its, σ₁)) (e : Ends prog w d T.cells (.list l) σ₂ D σ s Q)
    (tin : targetsIn sc 4 g.target = true)
    (body : ∀ (cl : List (Str × Addr)) (I : Addr) (fp wr : List Addr) (Inv : Nat → Fz → Heap → Prop) (CA L : Addr) (D1 : Fz) (h3 : Heap) (tk : Nat) (R : Result → Shared → Prop), EnvOk sc.names (compEnvC sc cl CA env) →
      LQ.Good (.mk prog w d T H D σ s.heap (compEnvC sc cl CA env) CA L A [seen sc ρ] g.target I fp wr its Inv D1 h3) → LQ.St (.mk prog w d T H D σ s.heap (compEnvC sc cl CA env) CA L A [seen sc ρ] g.target I fp wr its Inv D1 h3) 0 (seen sc ρ) [] σ₁ D1 h3 →
      (∀ D' h' tk, CS prog w d T.cells H D σ s.heap (compEnvC sc cl CA env) CA L [seen sc ρ] (seen sc ρ) l σ₂ D' h' → R (.ok .next) { s with heap := h', toks := tk }) →
      codeAny (model prog w) A (.compLoop (.ListComp elt (g :: gs) sc pos) 0 (.ref I) (.ref L) (compEnvC sc cl CA env)) R { s with heap := h3, toks := tk })
    (hasync : g.is_async = 0) : wpAny (model prog w) A (eval (.ListComp elt (g :: gs) sc pos) env) Q E s := by
  refine Classical.byContradiction fun hG => ?_
  obtain ⟨cl, hclos, c1, c2, c3, hk, hcell, hnames, hfree⟩ := comp_env X hs
  obtain ⟨tg, iter, ifs, async⟩ := g
  refine hG ?_
  dsimp only at hasync hfold henum hiter body tin
  subst hasync
  rw [eval_ListComp]
  refine wpAny_comprehension_free (use := none) (e := .ListComp elt (⟨tg, iter, ifs, 0⟩ :: gs) sc pos) rfl (fun x => ?_) hclos hk hnames ?_
  · exact folded_not hfold x
  refine hI nm env ρ iter tg σ its σ₁ D s A _ _ X r hr henum hiter fun v D1 h1 tk1 ok1 iv => ?_
  refine iv A _ _ hr.hand fun I fp wr Inv h2 tk2 it inv q1 q2 keep => ?_
  refine wpAny_newObj_type (wpAny_newFunctionEnv hcell (by intro y hy; simp at hy) (fun h3 hns hsb => ?_) hk)
  dsimp only at hns hsb ⊢ inv
  generalize hH2 : h2.push { cls := .type "list", dict := none, data := .seq ([] : List Value).toArray } = H2 at hns hsb ⊢
  have hC : H2.objs.size = h2.objs.size + 1 := by rw [← hH2, Heap.size_push]
  have old : ∀ b o, h2.get? b = some o → h3.get? b = some o := fun b o e => hsb.extBut b o (Nat.ne_of_lt (by rw [hC]; exact Nat.lt_succ_of_lt (Heap.lt_size e))) (Heap.get?_push_of_some _ (hH2 ▸ Heap.get?_push_of_some _ e))
  have hL3 : h3.get? h2.objs.size = some (lstO [] 0) := hsb.extBut _ _ (by rw [hC]; exact Nat.ne_of_lt (Nat.lt_succ_self _)) (Heap.get?_push_of_some _ (hH2 ▸ Heap.get?_push_size _ rfl))
  have g1 : Gd prog w d T.cells H D1 σ₁ h1 := r.toGd.step ok1
  have ok3 : Ok prog w d T.cells D σ s.heap D1 σ₁ h3 := ok1.trans (Ok.grown g1 fun b o e => old b o (keep b o e))
  have r3 := r.step ok3
  have free : ∀ b, h2.objs.size ≤ b → s.heap.get? b = none ∧ D1 b = none := fun b hb => by
    have f1 : h1.get? b = none := by
      cases q : h1.get? b with
      | none => rfl
      | some o => exact absurd (Heap.lt_size (keep b o q)) (Nat.not_lt.mpr hb)
    refine ⟨?_, g1.free f1⟩
    cases q : s.heap.get? b with
    | none => rfl
    | some o => obtain ⟨o', q'⟩ := ok1.live q; rw [f1] at q'; cases q'
  have dlt : d < h2.objs.size := by obtain ⟨o, q⟩ := ok1.tape.some; exact Heap.lt_size (keep d o q)
  have hCd : H2.objs.size ≠ d := by rw [hC]; exact Nat.ne_of_gt (Nat.lt_succ_of_lt dlt)
  have hLd : h2.objs.size ≠ d := Nat.ne_of_gt dlt
  have hCL : H2.objs.size ≠ h2.objs.size := by rw [hC]; exact Nat.succ_ne_self _
  have cclt : ∀ x c, cl.lookup x = some c → c < h2.objs.size := fun x c e => by
    refine Classical.byContradiction fun hG => ?_
    obtain ⟨o, q⟩ := r.cl x c (c1 x c e)
    obtain ⟨o', q'⟩ := ok1.live q
    refine hG ?_
    exact Heap.lt_size (keep c o' q')
  have F : Fx d H s.heap (compEnvC sc cl H2.objs.size env) H2.objs.size h2.objs.size :=
    ⟨(free _ (by rw [hC]; exact Nat.le_succ _)).1, (free _ (Nat.le_refl _)).1, r.base, hCL, hCd, hLd, rfl, fun x c e => ⟨by rw [hC]; exact Nat.ne_of_lt (Nat.lt_succ_of_lt (cclt x c e)), Nat.ne_of_lt (cclt x c e)⟩⟩
  have st : RSt prog w d T.cells H (compEnvC sc cl H2.objs.size env) (seen sc ρ) σ₁ D1 h3 := by
    refine ⟨r3.toGd, hCd, fun x c e => r.cd x c (c1 x c e), fun x c e => r3.cl x c (c1 x c e), fun x p e => ?_⟩
    refine Classical.byContradiction fun hG => ?_
    obtain ⟨e1, e2⟩ := seen_val e
    obtain ⟨v, a, b⟩ := r3.vars x p e2
    refine hG ?_
    refine ⟨v, ?_, b⟩
    rcases a with ⟨k, _⟩ | ⟨k, c, lk, n⟩
    · exact absurd k (hfree x e1)
    · obtain ⟨c', lk'⟩ := c2 x e1
      have := c1 x c' lk'
      rw [lk] at this
      cases this
      exact .inr ⟨(c3 H2.objs.size).kf x e1, c, lk', n⟩
  have cs : CS prog w d T.cells H D σ s.heap (compEnvC sc cl H2.objs.size env) H2.objs.size h2.objs.size [seen sc ρ] (seen sc ρ) [] σ₁ D1 h3 :=
    ⟨ok3, st, fun ρk hk => by rw [List.mem_singleton.mp hk]; exact st, ⟨_, hns⟩, ⟨[], 0, hL3, VRs.nil⟩, (free _ (by rw [hC]; exact Nat.le_succ _)).2, (free _ (Nat.le_refl _)).2⟩
  have fpd : ∀ b ∈ fp, b ≠ d ∧ b ≠ H2.objs.size ∧ b ≠ h2.objs.size := fun b hb => by
    refine Classical.byContradiction fun hG => ?_
    obtain ⟨n1, ⟨o, q⟩, _⟩ := q2 b hb
    refine hG ?_
    have := Heap.lt_size q
    exact ⟨n1, Nat.ne_of_lt (by rw [hC]; exact Nat.lt_succ_of_lt this), Nat.ne_of_lt this⟩
  have Wc : ∀ x c, (compEnvC sc cl H2.objs.size env).cells.lookup x = some c → c ∉ wr := fun x c e hb => by
    obtain ⟨o, q⟩ := r.cl x c (c1 x c e)
    have := (q1 c hb).1
    rw [q] at this; cases this
  have inv3 : Inv 0 D1 h3 := it.frame _ _ _ _ _ inv (Fz.le.refl _) fun b _ o e => old b o e
  have loop : codeAny (model prog w) A (.compLoop (.ListComp elt (⟨tg, iter, ifs, 0⟩ :: gs) sc pos) 0 (.ref I) (.ref h2.objs.size) (compEnvC sc cl H2.objs.size env)) (compPost (model prog w) A E none Q (.ref h2.objs.size) H2.objs.size) { s with heap := h3, toks := tk2 + ([] : List (Str × Value)).length } := by
    refine body cl I fp wr Inv H2.objs.size h2.objs.size D1 h3 _ _ (c3 _) ⟨F, it, fun b hb => (q1 b hb).1, fpd, Wc, fun x hx => ⟨kind_local (tnames_in 4 tg tin x hx), fun ρ hρ => by rw [List.mem_singleton.mp hρ]; exact seen_local (tnames_in 4 tg tin x hx)⟩⟩
      ⟨cs, inv3, fun b hb => (q1 b hb).2, Mv.refl _ _ _⟩ fun D' h' tk x => ?_
    refine Classical.byContradiction fun hG => ?_
    obtain ⟨mC, hnC⟩ := x.ns
    obtain ⟨vs, c, hl, hv⟩ := x.ac
    refine hG ?_
    refine ⟨mC, hnC, fun h'' hs'' => ?_⟩
    have le := Fz.put_le (o := lstO vs c) x.DL
    refine e (.ref h2.objs.size) (D'.put h2.objs.size (lstO vs c)) h'' tk ⟨fun b o n eb => hs''.extBut b o (fun q => by rw [q, F.c0] at eb; cases eb) (x.ok.pres b o n eb), x.ok.le.trans le, fun a o ea => ?_, fun b o eb => ?_, x.ok.tape.keeps (fun o eb => hs''.extBut _ o (Ne.symm hCd) eb) le⟩ (VR.list_mk Fz.put_at (hv.mono le))
    · unfold Fz.put; rw [if_neg (fun q => by rw [q, F.l0] at ea; cases ea)]; exact x.ok.new a o ea
    · unfold Fz.put at eb
      split at eb
      · subst_vars; cases eb; exact hs''.extBut _ _ (Ne.symm hCL) hl
      · exact hs''.extBut b o (fun q => by rw [q, x.DC] at eb; cases eb) (x.ok.on b o eb)
  exact codeAny_compStart_list loop (it.self D1 _ _ _ inv3 loop)

theorem not_t {a : Bool} (h : (!a) = true) : a = false := by cases a <;> first | rfl | cases h
theorem gens1 {sc : Scope} {g : Comprehension} {gs : List Comprehension} (h : gensOk sc (g :: gs) = true) : (g.is_async = 0 ∧ targetsIn sc 4 g.target = true ∧ isSetE g.iter = false ∧ (isEnumE g.iter = true → isTupE g.target = true)) ∧ gensOk sc gs = true := by
  have h : (_ && gensOk sc gs) = true := h
  refine Classical.byContradiction fun hG => ?_
  obtain ⟨h, hs⟩ := Bool.and_eq_true_iff.mp h
  obtain ⟨h, h4⟩ := Bool.and_eq_true_iff.mp h
  obtain ⟨h, h3⟩ := Bool.and_eq_true_iff.mp h
  obtain ⟨h1, h2⟩ := Bool.and_eq_true_iff.mp h
  refine hG ?_
  exact ⟨⟨eq_of_beq h1, h2, not_t h3, fun e => by rw [e] at h4; exact h4⟩, hs⟩

theorem comp1_ok {elt : Expr} {g : Comprehension} {sc : Scope} {pos : Pos} {its l : List PV} {σ σ₁ σ₂ : Nat} {D : Fz} {s : Shared} {Q : Value → Shared → Prop} {E : Value → Shared → Prop}
    (X : EnvOk nm env) (r : RSt prog w d T.cells H env ρ σ D s.heap) (hr : Room m A) (hs : scopeOk nm sc = true) (hg : gensOk sc [g] = true) (hE : EvG prog w d H T C m n) (hT : EvTG prog w d H T C m n) (hI : EvIG prog w d H T C m n)
    (hiter : evI T C n nm ρ g.iter σ = some (its, σ₁)) (hf : compFold (turn1 T C n sc.names (seen sc ρ) g.target elt g.ifs) its σ₁ = some (l, σ₂)) (hsz : small l.length = true) (e : Ends prog w d T.cells (.list l) σ₂ D σ s Q) :
    wpAny (model prog w) A (eval (.ListComp elt [g] sc pos) env) Q E s := by
  refine Classical.byContradiction fun hG => ?_
  obtain ⟨⟨g1, g2, g3, g4⟩, _⟩ := gens1 hg
  obtain ⟨tg, iter, ifs, async⟩ := g
  refine hG ?_
  cases (show async = 0 from g1)
  refine comp_frame (g := ⟨tg, iter, ifs, 0⟩) X r hr hs g3 g4 hI hiter e g2 (fun cl I fp wr Inv CA L D1 h3 tk R X' G t hR => ?_) rfl
  exact loopL G (fun it acc => turnL_one elt tg iter ifs sc pos it acc _) hE hT X' hr (.head _) t hf (small_le hsz) fun D' h' tk x => hR D' h' tk x.1

theorem comp2_ok {elt : Expr} {g g₂ : Comprehension} {sc : Scope} {pos : Pos} {its l : List PV} {σ σ₁ σ₂ : Nat} {D : Fz} {s : Shared} {Q : Value → Shared → Prop} {E : Value → Shared → Prop}
    (X : EnvOk nm env) (r : RSt prog w d T.cells H env ρ σ D s.heap) (hr : Room m A) (hs : scopeOk nm sc = true) (hg : gensOk sc [g, g₂] = true) (hE : EvG prog w d H T C m n) (hT : EvTG prog w d H T C m n) (hI : EvIG prog w d H T C m n)
    (hifs : g.ifs = []) (hifs2 : g₂.ifs = []) (hnd : ∀ x ∈ tnames 4 g₂.target, x ∉ tnames 4 g.target)
    (hiter : evI T C n nm ρ g.iter σ = some (its, σ₁)) (hf : compFold (turn2 T C n sc.names (seen sc ρ) g.target g₂.target g₂.iter elt) its σ₁ = some (l, σ₂)) (hsz : small l.length = true) (e : Ends prog w d T.cells (.list l) σ₂ D σ s Q) :
    wpAny (model prog w) A (eval (.ListComp elt [g, g₂] sc pos) env) Q E s := by
  refine Classical.byContradiction fun hG => ?_
  obtain ⟨⟨g1, g2, g3, g4⟩, hg⟩ := gens1 hg
  obtain ⟨⟨k1, k2, k3, k4⟩, _⟩ := gens1 hg
  obtain ⟨tg, iter, ifs, async⟩ := g
  obtain ⟨tg2, iter2, ifs2, async2⟩ := g₂
  refine hG ?_
  cases (show async = 0 from g1)
  cases (show async2 = 0 from k1)
  cases (show ifs = [] from hifs)
  cases (show ifs2 = [] from hifs2)
  refine comp_frame (g := ⟨tg, iter, [], 0⟩) X r hr hs g3 g4 hI hiter e g2 (fun cl I fp wr Inv CA L D1 h3 tk R X' G t hR => ?_) rfl
  exact loopF G (folded_not k3) k4 hE hT hI X' hr (.head _) (fun x hx => ⟨kind_local (tnames_in 4 tg2 k2 x hx), hnd x hx, fun ρ hρ => by rw [List.mem_singleton.mp hρ]; exact seen_local (tnames_in 4 tg2 k2 x hx)⟩) t hf (small_le hsz) hR
end
end Mine

/- part Ops17 -/
set_option tactic.hygienic true
namespace Mine

noncomputable def bnames : List Str := ["tuple", "range", "list", "dict", "enumerate", "len", "sum", "sorted"]

abbrev Base (H h : Heap) : Prop := ∀ b o, H.get? b = some o → h.get? b = some o

structure TabOk (prog : Program) (w : World) (H : Heap) (T : Tab) : Prop where
  glob : ∀ {f : Str} {a : Nat} {env : Env} {pos : Pos} {A : Around} {s : Shared} {Q : Value → Shared → Prop} {E : Value → Shared → Prop}, T.glob.lookup f = some a → env.scope.kind = .function → env.globals = mainGlobals → env.kindOf f = some .globalImplicit →
    (f == ("__debug__" : Str)) = false → Base H s.heap → Q (.ref a) s → wpAny (model prog w) A (eval (.Name f pos) env) Q E s
  blt : ∀ {f : Str} {env : Env} {pos : Pos} {A : Around} {s : Shared} {Q : Value → Shared → Prop} {E : Value → Shared → Prop}, T.glob.lookup f = none → f ∈ bnames → env.scope.kind = .function → env.globals = mainGlobals → env.builtins = builtinsNs → env.kindOf f = some .globalImplicit →
    (f == ("__debug__" : Str)) = false → Base H s.heap → Q (bval f) s → wpAny (model prog w) A (eval (.Name f pos) env) Q E s
  keepG : ∀ {f : Str} {a : Nat}, T.glob.lookup f = some a → ∀ h, Base H h → ∃ k, (k = Keeper.frame ∨ k = Keeper.machine ∨ k = Keeper.boundFrame) ∧ Looks (model prog w) h (keeperOf (.ref a)) k
  keepM : ∀ {f : Str} {a : Nat}, T.meth.lookup f = some a → ∀ h, Base H h → ∃ k, (k = Keeper.frame ∨ k = Keeper.machine ∨ k = Keeper.boundFrame) ∧ Looks (model prog w) h (keeperOf (.ref a)) k
  meth : ∀ {f : Str} {a : Nat} {x : Addr} {mv iv : Value} {D : Fz} {pl : Sem Bool} {A : Around} {s : Shared} {Q : Value × List Value → Shared → Prop} {E : Value → Shared → Prop}, T.meth.lookup f = some a → InstOf D mv iv x → D.on s.heap → Base H s.heap → Q (.ref a, [.ref x]) s →
    wpAny (model prog w) A (getMethod (.ref x) f pl) Q E s
  many : ∀ {x : Addr} {mv iv : Value} {D : Fz} {ex : Bool} {A : Around} {s : Shared} {Q : Value → Shared → Prop} {E : Value → Shared → Prop}, InstOf D mv iv x → D.on s.heap → Base H s.heap → handedIn mv = true → Q mv { s with toks := s.toks + 1 } → wpAny (model prog w) A (getAttr (.ref x) "many" ex) Q E s
  inst : ∀ {x : Addr} {mv iv : Value} {D : Fz} {ex : Bool} {A : Around} {s : Shared} {Q : Value → Shared → Prop} {E : Value → Shared → Prop}, InstOf D mv iv x → D.on s.heap → Base H s.heap → handedIn iv = true → Q iv { s with toks := s.toks + 1 } → wpAny (model prog w) A (getAttr (.ref x) "instance" ex) Q E s

noncomputable def OrcOk (prog : Program) (w : World) (d : Addr) (H : Heap) (cells : List Int) (C : Orc) (m : Nat) : Prop := ∀ (a : Nat) (args : List PV) (σ : Nat) (p : PV) (σ' : Nat) (D : Fz) (s : Shared) (A : Around) (Q : Value → Shared → Prop) (E : Value → Shared → Prop) (vs : List Value),
  C a args σ = some (p, σ') → Gd prog w d cells H D σ s.heap → VRs prog w d D args vs → Room m A → Ends prog w d cells p σ' D σ s Q → wpAny (model prog w) A (call (.ref a) vs) Q E s

section
variable {prog : Program} {w : World} {d : Addr} {H : Heap} {T : Tab} {C : Orc} {m n : Nat} {A : Around} {nm : NM} {env : Env} {ρ : Rho}

theorem VR.handed {D : Fz} {p : PV} {v : Value} (x : VR prog w d D p v) : handedIn v = true := by
  cases p <;> simp only [VR] at x
  · subst x; rfl
  · subst x; rfl
  · obtain ⟨t, rfl⟩ := x; rfl
  · obtain ⟨t, rfl⟩ := x; rfl
  · obtain ⟨a, _, _, rfl, _⟩ := x; rfl
  · obtain ⟨a, _, _, rfl, _⟩ := x; rfl
  · obtain ⟨a, _, _, _, rfl, _⟩ := x; rfl
  · obtain ⟨a, _, rfl, _⟩ := x; rfl
  · obtain ⟨a, _, rfl, _⟩ := x; rfl
  · obtain ⟨a, rfl, _⟩ := x; rfl
  · obtain ⟨a, _, _, rfl, _⟩ := x; rfl
  · subst x; rfl

theorem star_cons {e : Expr} {r : List Expr} {pos : Pos} (h : isStarred e = false) : backTo pos (starEach (e :: r) env) = (false, eval e env) :: backTo pos (starEach r env) := by
  have : starEach (e :: r) env = (false, eval e env) :: starEach r env := by
    cases e <;> first | rfl | simp [isStarred] at h
  rw [this]; rfl
theorem star_all {pos : Pos} : ∀ {es : List Expr}, es.any isStarred = false → (backTo pos (starEach es env)).any (·.1) = false ∧ (backTo pos (starEach es env)).all (fun x => !x.1) = true
  | [], _ => ⟨rfl, rfl⟩
  | e :: r, h => by
    simp only [List.any_cons, Bool.or_eq_false_iff] at h
    obtain ⟨a, b⟩ := star_all (pos := pos) h.2
    rw [star_cons h.1]
    simp only [List.any_cons, List.all_cons, a, b]; exact ⟨rfl, rfl⟩

theorem args_ok (hE : EvG prog w d H T C m n) (X : EnvOk nm env) (hr : Room m A) {pos : Pos} (E : Value → Shared → Prop) (es : List Expr) : ∀ (σ : Nat) (ps : List PV) (σ' : Nat) (D : Fz) (s : Shared) (Q : List Value → Shared → Prop),
    RSt prog w d T.cells H env ρ σ D s.heap → evsWith (ev T C n nm ρ) es σ = some (ps, σ') → es.any isStarred = false → (∀ vs D' h' tk, Ok prog w d T.cells D σ s.heap D' σ' h' → VRs prog w d D' ps vs → Q vs { s with heap := h', toks := tk }) →
    wpAny (model prog w) A (spliced (backTo pos (starEach es env))) Q E s := by
  induction es with
  | nil => exact fun σ ps σ' D s Q r h _ hQ => Calls.spliced_nil (sp_e h fun e1 e2 => hQ [] D s.heap s.toks (e2 ▸ Ok.refl r.toGd) (e1 ▸ VRs.nil))
  | cons e es ih =>
    refine fun σ ps σ' D s Q r h hst hQ => bnd_e h fun p σ₁ h₁ h => bnd_e h fun ps' σ₂ h₂ h => sp_e h fun e1 e2 => ?_
    subst e1 e2
    have hst := or_f hst
    rw [star_cons hst.1]
    refine Calls.spliced_cons (hE nm env ρ e σ p σ₁ D s A _ E X r hr h₁ fun v D' h' tk ok vr => ?_)
    exact ih σ₁ ps' σ₂ D' { s with heap := h', toks := tk } _ (r.step ok) h₂ hst.2 fun vs D'' h'' tk' ok' vrs => hQ (v :: vs) D'' h'' tk' (ok.trans ok') (VRs.cons (vr.mono ok'.le) vrs)

theorem callw_ok (hE : EvG prog w d H T C m n) (X : EnvOk nm env) (hr : Room m A) {pos : Pos} {f : Value} {first : List Value} {es : List Expr} {σ σ' : Nat} {ps : List PV} {D : Fz} {s : Shared} {Q : Value → Shared → Prop} {E : Value → Shared → Prop}
    (hk : ∀ h, Base H h → ∃ k, (k = Keeper.frame ∨ k = Keeper.machine ∨ k = Keeper.boundFrame) ∧ Looks (model prog w) h (keeperOf f) k) (r : RSt prog w d T.cells H env ρ σ D s.heap) (h : evsWith (ev T C n nm ρ) es σ = some (ps, σ')) (hst : es.any isStarred = false)
    (next : ∀ vs D' h' tk, Ok prog w d T.cells D σ s.heap D' σ' h' → VRs prog w d D' ps vs → wpAny (model prog w) A (call f (first ++ vs)) Q E { s with heap := h', toks := tk }) :
    wpAny (model prog w) A (callWith pos f first (backTo pos (starEach es env)) []) Q E s := by
  have key := args_ok (pos := pos) hE X hr E es σ ps σ' D s (fun vs s' => Base H s'.heap ∧ wpAny (model prog w) A (call f (first ++ vs)) Q E s') r h hst fun vs D' h' tk ok vr => ⟨(r.toGd.step ok).base, next vs D' h' tk ok vr⟩
  refine callWith_of (P := Base H) (by rw [(star_all hst).1]; rfl) hk ?_
  cases es with
  | nil => exact evalArgs_nil3 (sp_e h fun e1 e2 => ⟨r.base, next [] D s.heap s.toks (e2 ▸ Ok.refl r.toGd) (e1 ▸ VRs.nil)⟩)
  | cons e es =>
    rw [star_cons (or_f hst).1] at key ⊢
    exact Calls.evalArgs_plain key

theorem keep_builtin {id : String} (h : Heap) : ∃ k, (k = Keeper.frame ∨ k = Keeper.machine ∨ k = Keeper.boundFrame) ∧ Looks (model prog w) h (keeperOf (.builtin id)) k := ⟨.machine, .inr (.inl rfl), Looks.of_pure rfl⟩
theorem keep_type {id : String} (h : Heap) : ∃ k, (k = Keeper.frame ∨ k = Keeper.machine ∨ k = Keeper.boundFrame) ∧ Looks (model prog w) h (keeperOf (.type id)) k := ⟨.machine, .inr (.inl rfl), Looks.of_pure rfl⟩
theorem keep_bval {f : Str} (h : Heap) : ∃ k, (k = Keeper.frame ∨ k = Keeper.machine ∨ k = Keeper.boundFrame) ∧ Looks (model prog w) h (keeperOf (bval f)) k := by
  unfold bval; repeat' split
  all_goals first | exact keep_type h | exact keep_builtin h

theorem builtin_names {f : Str} {ps : List PV} {p : PV} (h : builtinP f ps = some p) : f ∈ bnames := by
  unfold builtinP at h
  split at h
  · unfold bnames
    split at h
    · cases h
    repeat (first | (split at h; rename_i e; (have := eq_of_beq e; subst this; decide)) | (cases h; done))
  · cases h

/-- the built-ins, called -/
theorem builtin_ok {f : Str} {ps : List PV} {p : PV} {vs : List Value} {σ : Nat} {D : Fz} {s : Shared} {Q : Value → Shared → Prop} {E : Value → Shared → Prop} (hr : Room m A) (h : builtinP f ps = some p)
    (g : Gd prog w d T.cells H D σ s.heap) (x : VRs prog w d D ps vs) (e : Ends prog w d T.cells p σ D σ s Q) : wpAny (model prog w) A (call (bval f) vs) Q E s := by
  have hu := hr.units
  unfold builtinP at h
  split at h
  · rename_i q
    refine Classical.byContradiction fun hG => ?_
    obtain ⟨v, _, rfl, x, rfl⟩ := x
    refine hG ?_
    split at h
    · cases h
    rename_i hsm
    have hq : ∀ l, q = .tup l ∨ q = .list l → l.length ≤ 1000000 := fun l hl => by
      rcases hl with rfl | rfl <;> simpa [smallP, small] using hsm
    split at h
    · rename_i hf; have := eq_of_beq hf; subst this
      split at h
      · rename_i l; cases h; exact len_ok (.inl rfl) g x (hq l (.inl rfl)) e
      · rename_i l; cases h; exact len_ok (.inr rfl) g x (hq l (.inr rfl)) e
      · cases h
    · split at h
      · rename_i hf; have := eq_of_beq hf; subst this
        split at h
        · rename_i l; cases h; exact tuple_ok g x (hq l (.inr rfl)) e
        · cases h
      · split at h
        · rename_i hf; have := eq_of_beq hf; subst this
          split at h
          · split at h
            · cases h; exact range_ok g x e
            · cases h
          · cases h
        · split at h
          · rename_i hf; have := eq_of_beq hf; subst this
            split at h
            · rename_i l
              simp only [Option.map_eq_some_iff] at h
              refine Classical.byContradiction fun hG => ?_
              obtain ⟨i, h, rfl⟩ := h
              refine hG ?_
              exact sum_ok hr.hand g x h e
            · cases h
          · split at h
            · rename_i hf; have := eq_of_beq hf; subst this
              split at h
              · rename_i l; cases h; exact list_ok g x (hq l (.inr rfl)) e
              · cases h
            · split at h
              · rename_i hf; have := eq_of_beq hf; subst this
                split at h
                · rename_i l
                  exact dict_ok (by have h1 := Around.in1_units A; have h2 := Around.in1_units A.in1; have h3 := Around.in1_units A.in1.in1; exact q_in3 hr.units h1 h2 h3) hr.hand g x (by have := hq l (.inr rfl); rw [sizeLine_eq]; (with_reducible exact q_le ‹_› (by decide))) h e
                · cases h
              · split at h
                · rename_i hf; have := eq_of_beq hf; subst this
                  split at h
                  · split at h
                    · rename_i hks
                      cases h
                      exact sorted_ok hr.hand g x hks.1 hks.2 e
                    · cases h
                  · cases h
                · cases h
  · cases h
end
end Mine

set_option tactic.hygienic false
/- part Ops18 -/
namespace Mine

section
variable {prog : Program} {w : World} {d : Addr} {H : Heap} {T : Tab} {C : Orc} {m n : Nat} {A : Around} {nm : NM} {env : Env} {ρ : Rho}

theorem Ends.after {cells : List Int} {p : PV} {σ' σ σ₁ : Nat} {D D1 : Fz} {s : Shared} {h1 : Heap} {Q : Value → Shared → Prop} (e : Ends prog w d cells p σ' D σ s Q) (ok : Ok prog w d cells D σ s.heap D1 σ₁ h1) (tk : Nat) :
    Ends prog w d cells p σ' D1 σ₁ { s with heap := h1, toks := tk } Q := fun v D' h' tk ok' vr => e v D' h' tk (ok.trans ok') vr

theorem Ok.seal {cells : List Int} {D D' : Fz} {σ σ' : Nat} {h h1 h2 : Heap} {a : Addr} {o : Obj} (x : Ok prog w d cells D σ h D' σ' h1) (ha : h.get? a = none) (Da : D' a = none) (hs : ∀ b o, b ≠ a → h1.get? b = some o → h2.get? b = some o) (ho : h2.get? a = some o) (had : a ≠ d) :
    Ok prog w d cells D σ h (D'.put a o) σ' h2 := by
  have le := Fz.put_le (o := o) Da
  refine ⟨fun b ob n e => hs b ob (by rintro rfl; rw [ha] at e; cases e) (x.pres b ob n e), x.le.trans le, fun b ob e => ?_, fun b ob e => ?_, x.tape.keeps (fun o e => hs d o (Ne.symm had) e) le⟩
  · unfold Fz.put; rw [if_neg (by rintro rfl; rw [ha] at e; cases e)]; exact x.new b ob e
  · unfold Fz.put at e
    split at e
    · subst_vars; cases e; exact ho
    · rename_i q; exact hs b ob q (x.on b ob e)

theorem dict1_ok {x : Str} {k : Nat} {kp pos : Pos} {v : Expr} {p : PV} {σ σ' : Nat} {D : Fz} {s : Shared} {Q : Value → Shared → Prop} {E : Value → Shared → Prop} (hE : EvG prog w d H T C m n) (X : EnvOk nm env) (r : RSt prog w d T.cells H env ρ σ D s.heap) (hr : Room m A)
    (h : ev T C n nm ρ v σ = some (p, σ')) (e : Ends prog w d T.cells (.dS [x] [p]) σ' D σ s Q) : wpAny (model prog w) A (eval (.Dict [some (.Constant (.str x) k kp)] [v] pos) env) Q E s := by
  have g := r.toGd
  have hfree : s.heap.get? s.heap.objs.size = none := get?_ge (Nat.le_refl _)
  have ok0 : Ok prog w d T.cells D σ s.heap D σ (s.heap.push { cls := .type "dict", data := .dict #[] }) := Ok.grown g fun b o eb => Heap.get?_push_of_some _ eb
  refine wpAny_Dict_walk (knd := PySem.strKind prog w) rfl rfl (by simp) (by simp) (pairTrees_cons_walk (wpAny_Constant_str ?_))
  refine hE nm env ρ v σ p σ' D _ A _ _ X (r.step ok0) hr h fun vv D' h' tk ok vr => ?_
  refine pairTrees_nil_walk ⟨[(x, vv)], ⟨by simp [PySem.strKind, Value.isStrOf], rfl, trivial⟩, ?_, fun h2 hd2 hs2 => ?_⟩
  · exact ⟨_, #[], 0, ok.pres _ _ (Nat.ne_of_gt g.tape.lt) (Heap.get?_push_size _ rfl), ⟨rfl, rfl, rfl⟩, rfl, fun _ he => by simp at he, .nil, List.nodup_nil⟩
  · obtain ⟨o, es, ep, ho, r1, r2, r3, r4, r5⟩ := hd2
    have Da : D' s.heap.objs.size = none := (ok.new _ _ (Heap.get?_push_size _ rfl)).trans (g.free hfree)
    have had : s.heap.objs.size ≠ d := Nat.ne_of_gt g.tape.lt
    refine e _ _ h2 _ ((ok0.trans ok).seal hfree Da (fun b ob n eb => hs2.extBut b ob n eb) ho had) ?_
    refine ⟨_, [vv], rfl, ⟨o, es, ep, Fz.put_at, r1, r2, r3, ?_, by simp, rfl, g.other (Nat.le_refl _)⟩, VRs.cons (vr.mono (Fz.put_le Da)) VRs.nil⟩
    simpa [merged, stored] using r4

theorem part_ok {o : Option Expr} {a : Option Int} {s : Shared} {Q : Value → Shared → Prop} {E : Value → Shared → Prop} (h : litOpt o = some a) (hQ : ∀ v tk, optV a v → Q v { s with toks := tk }) : wpAny (model prog w) A (evalPart o env) Q E s := by
  cases o with
  | none => exact wpAny_evalPart_none (hQ .none s.toks (Option.some.inj h ▸ rfl))
  | some e =>
    have key : ∀ v : LV e, (litV v).map some = some a → wpAny (model prog w) A (eval e env) Q E s := fun v h => by
      cases v with
      | int i => exact wpAny_Constant_int (hQ _ _ (Option.some.inj h ▸ ⟨_, rfl⟩))
      | neg i => exact wpAny_UnaryOp (wpAny_Constant_int (PyProof.Rows.neg_int (hQ _ _ (Option.some.inj h ▸ ⟨_, rfl⟩))))
      | other => exact no h
    exact wpAny_evalPart_some (key (lv e) h)

theorem name_ok {x : Str} {pos : Pos} {p : PV} {σ : Nat} {D : Fz} {s : Shared} {Q : Value → Shared → Prop} {E : Value → Shared → Prop} (X : EnvOk nm env) (r : RSt prog w d T.cells H env ρ σ D s.heap) (h1 : (x == ("__debug__" : Str)) = false) (h2 : (x == ("__classdict__" : Str)) = false)
    (h : ρ x = some (.val p)) (e : ∀ v, VR prog w d D p v → Q v s) : wpAny (model prog w) A (eval (.Name x pos) env) Q E s := by
  refine Classical.byContradiction fun hG => ?_
  obtain ⟨v, a, b⟩ := r.vars x p h
  refine hG ?_
  refine wpAny_Name ?_ h1
  rcases a with ⟨k, mm, hn, hv⟩ | ⟨k | k, c, l, hn⟩
  · exact wpAny_loadName_local X.kind k hn hv (e v b)
  · exact wpAny_loadName_cell X.kind k l hn (e v b)
  · exact wpAny_loadName_free X.kind k l hn (e v b) h2

/-- a method of an object: up to the call -/
theorem methodCall_ok {o : Expr} {name : Str} {apos pos : Pos} {args : List Expr} {s : Shared} {Q : Value → Shared → Prop} {E : Value → Shared → Prop} (hbase : attributeBase o name env (eval o env) = eval o env) (hst : args.any isStarred = false) (hlen : args.length ≤ 20) (hline : (apos.endLine == pos.line) = true)
    (h : wpAny (model prog w) A (eval o env) (fun ov s₁ => wpAny (model prog w) A (getMethod ov name (do return (← importBound o env).getD true)) (fun fx s₂ => wpAny (model prog w) A (callWith pos fx.1 fx.2 (backTo pos (starEach args env)) []) Q E s₂) E s₁) E s) :
    wpAny (model prog w) A (eval (.Call (.Attribute o name apos) args [] pos) env) Q E s := by
  rw [arm_eval_Call, hbase]
  refine wpAny_bind (wpAny_mono h (fun ov s₁ h₁ => wpAny_bind (wpAny_standAt ?_)) fun _ _ e => e)
  have hform : methodCallForm (args.length + ([] : List Keyword).length) (backTo pos (starEach args env)) (backToKw pos (keywordEach [] env)) = true := by
    unfold methodCallForm
    rw [(star_all hst).2]
    simp [keywordEach, backToKw]
    (with_reducible exact q_lt ‹_ ≤ _› (by decide))
  have hpos : methodCallPos true o env apos pos = pure pos := by unfold methodCallPos; simp [hline]
  unfold methodCall
  rw [hform]
  refine wpAny_bind (wpAny_holding (wpAny_mono h₁ (fun fx s₂ h₂ => ?_) fun _ _ e => e))
  exact wpAny_bind (wpAny_of_eq hpos h₂)
end
end Mine

/- part Ops19 -/
namespace Mine

section
variable {prog : Program} {w : World} {d : Addr} {H : Heap} {T : Tab} {C : Orc} {m n : Nat}

theorem sp_ends {cells : List Int} {a p : PV} {σ σ' σ₀ : Nat} {D : Fz} {s : Shared} {Q : Value → Shared → Prop} (h : some (a, σ) = some (p, σ')) (en : Ends prog w d cells p σ' D σ₀ s Q) : Ends prog w d cells a σ D σ₀ s Q := by
  obtain ⟨e1, e2⟩ := sp_inj h
  subst e1 e2
  exact en
theorem rt_ends {cells : List Int} {o : Option PV} {p : PV} {σ σ' σ₀ : Nat} {D : Fz} {s : Shared} {Q : Value → Shared → Prop} {P : Prop} (h : rt o σ = some (p, σ')) (en : Ends prog w d cells p σ' D σ₀ s Q) (k : o = some p → Ends prog w d cells p σ D σ₀ s Q → P) : P :=
  rt_e h fun e1 e2 => k e1 (e2 ▸ en)
theorem evs_len {f : Expr → Nat → Option (PV × Nat)} (es : List Expr) : ∀ {σ : Nat} {ps : List PV} {σ' : Nat}, evsWith f es σ = some (ps, σ') → ps.length = es.length := by
  induction es with
  | nil => exact fun h => sp_e h fun e _ => e ▸ rfl
  | cons e es ih => exact fun h => bnd_e h fun p σ₁ _ h => bnd_e h fun ps' σ₂ h₂ h => sp_e h fun e _ => e ▸ congrArg (· + 1) (ih h₂)

theorem un_ok {cells : List Int} {op : UnaryOp} {q p : PV} {u : Value} {σ σ' : Nat} {D : Fz} {s : Shared} {A : Around} {Q : Value → Shared → Prop} {E : Value → Shared → Prop} (h : evUn op q σ = some (p, σ')) (g : Gd prog w d cells H D σ s.heap) (x : VR prog w d D q u)
    (en : Ends prog w d cells p σ' D σ s Q) : wpAny (model prog w) A (unaryOp op u) Q E s := by
  cases op with
  | Not =>
    cases q with
    | bool b => rw [x.bool_i]; exact not_value (wpAny_truthy_bool ((sp_ends h en).bool g _))
    | _ => exact no h
  | Invert =>
    cases q with
    | int i => obtain ⟨t, rfl⟩ := x.int_i; exact PyProof.Rows.invert_int ((sp_ends h en).int g _)
    | _ => exact no h
  | USub =>
    cases q with
    | int i => obtain ⟨t, rfl⟩ := x.int_i; exact PyProof.Rows.neg_int ((sp_ends h en).int g _)
    | _ => exact no h
  | UAdd => exact no h
theorem cut_ok {cells : List Int} {value slice : Expr} {a b : Option (Option Int)} {q p : PV} {u vl vh : Value} {sl : Addr} {n σ σ' : Nat} {D : Fz} {s : Shared} {A : Around} {Q : Value → Shared → Prop} {E : Value → Shared → Prop} (h : evCut a b q σ = some (p, σ')) (g : Gd prog w d cells H D σ s.heap)
    (x : VR prog w d D q u) (hs : s.heap.IsSliceOf sl vl vh .none) (h1 : ∀ i, a = some i → optV i vl) (h2 : ∀ i, b = some i → optV i vh) (en : Ends prog w d cells p σ' D σ s Q) : wpAny (model prog w) A (subscriptTail value slice u (.ref sl)) Q E s := by
  cases q with
  | tup l =>
    cases a with
    | none => exact no h
    | some a =>
      cases b with
      | none => exact no h
      | some b => exact gd_e h fun hsm h => slice_ok (n := n) g x hs (h1 _ rfl) (h2 _ rfl) (not_f hsm) (sp_ends h en)
  | _ => exact no h
theorem attr_ok (tab : TabOk prog w H T) {a : Str} {q p : PV} {u : Value} {ex : Bool} {σ σ' : Nat} {D : Fz} {s : Shared} {A : Around} {Q : Value → Shared → Prop} {E : Value → Shared → Prop} (h : evAttr a q σ = some (p, σ')) (g : Gd prog w d T.cells H D σ s.heap) (x : VR prog w d D q u)
    (en : Ends prog w d T.cells p σ' D σ s Q) : wpAny (model prog w) A (getAttr u a ex) Q E s := by
  cases q with
  | inst mp ip =>
    refine Classical.byContradiction fun hG => ?_
    obtain ⟨y, mv, iv, rfl, io, x1, x2⟩ := x.inst_i
    refine hG ?_
    by_cases c : (a == ("many" : Str)) = true
    · rw [eq_of_beq c] at h ⊢
      exact tab.many io g.on g.base x1.handed ((sp_ends h en).same g x1 _)
    · have h := (if_neg c).symm.trans h
      by_cases c : (a == ("instance" : Str)) = true
      · rw [eq_of_beq c] at h ⊢
        exact tab.inst io g.on g.base x2.handed ((sp_ends h en).same g x2 _)
      · exact no ((if_neg c).symm.trans h)
  | _ => exact no h
theorem name_e {o : Option Slot} {p : PV} {σ σ' : Nat} (h : evName σ o = some (p, σ')) : o = some (.val p) ∧ σ = σ' := by
  cases o with
  | none => exact no h
  | some sl =>
    cases sl with
    | val q => exact sp_e h fun e1 e2 => ⟨congrArg (fun p => some (Slot.val p)) e1, e2⟩
    | _ => exact no h

theorem getArgs_e {ks : List Int} {vs ps : List PV} {p : PV} {σ σ' : Nat} (h : getArgs ks vs σ ps = some (p, σ')) : ∃ i dv, ps = [.int i, dv] ∧ (valAt i ks vs).getD dv = p ∧ σ = σ' := by
  cases ps with
  | nil => exact no h
  | cons a ps =>
    cases ps with
    | nil => cases a <;> exact no h
    | cons dv ps =>
      cases ps with
      | nil =>
        cases a with
        | int i => exact ⟨i, dv, rfl, sp_inj h⟩
        | _ => exact no h
      | cons => cases a <;> exact no h
/-- d.get(k, v) -/
theorem get_ok {ks : List Int} {vs ps : List PV} {us : List Value} {p : PV} {σ σ' : Nat} {a : Addr} {vals : List Value} {D : Fz} {s : Shared} {A : Around} {Q : Value → Shared → Prop} {E : Value → Shared → Prop} (h : getArgs ks vs σ ps = some (p, σ')) (g : Gd prog w d T.cells H D σ s.heap)
    (ds : DIAt prog w D ks vals a) (xs : VRs prog w d D vs vals) (vrs : VRs prog w d D ps us) (en : Ends prog w d T.cells p σ' D σ s Q) : wpAny (model prog w) A (call (.builtin "dict.get") (.ref a :: us)) Q E s := by
  refine Classical.byContradiction fun hG => ?_
  obtain ⟨i, dv, rfl, e1, e2⟩ := getArgs_e h
  subst e1 e2
  obtain ⟨u1, _, rfl, y1, u2, _, rfl, y2, rfl⟩ := vrs
  obtain ⟨t, rfl⟩ := y1.int_i
  refine hG ?_
  have hd2 := ds.dictOf (prog := prog) (w := w) g.on
  refine wpAny_call_entry PySem.F.slot_dict_get hd2.typeIs PySem.F.entry_dict_get ?_ (PySem.F.args_dict_get_3 _ _ _)
  have hlen2 : ks.length = vals.length := let ⟨_, _, _, _, _, _, _, _, _, q, _⟩ := ds; q
  show wpAny _ _ (dictGet a (.int i t) >>= _) _ _ _
  refine wpAny_bind (wpAny_dictGet_of (knd := iKind prog w) (k := i) (by simp [iKind, intKind, Value.isInt]) hd2.mapOf ?_)
  cases hv : valAt i ks vs with
  | none =>
    rw [valueAt_none i ks vs vals hlen2 xs hv]
    show wpAny _ _ (Builtin.Dict.missed a (.int i t) >>= _) _ _ _
    refine wpAny_bind (wpAny_missed_other ds.other (wpAny_pure ⟨u2, rfl, ?_⟩))
    rw [hv] at en
    exact en.same g y2 _
  | some q =>
    refine Classical.byContradiction fun hG => ?_
    obtain ⟨v, e1, e2⟩ := valueAt_val i ks vs vals q hlen2 xs hv
    refine hG ?_
    rw [e1]
    refine wpAny_pure ⟨v, rfl, ?_⟩
    rw [hv] at en
    exact en.same g e2 _

section
variable (prog w d H T C m n)
/-- one form of an expression, as the evaluator takes it -/
noncomputable def SndV {e : Expr} (v : EV e) : Prop := ∀ nm env ρ σ p σ' D s A Q E, EnvOk nm env → RSt prog w d T.cells H env ρ σ D s.heap → Room m A → stepV T C (evs T C n) nm ρ σ v = some (p, σ') → Ends prog w d T.cells p σ' D σ s Q → wpAny (model prog w) A (eval e env) Q E s
end
theorem sv_const {c : Const} {k : Nat} {pos : Pos} : SndV prog w d H T C m n (.const c k pos) := fun nm env ρ σ p σ' D s A Q E X r hr h en => by
  cases c with
  | int i => exact wpAny_Constant_int ((sp_ends h en).int r.toGd _)
  | str x => exact wpAny_Constant_str ((sp_ends h en).same r.toGd (VR.str_mk) _)
  | bool b => exact wpAny_Constant_bool ((sp_ends h en).bool r.toGd _)
  | _ => exact no h
theorem sv_name {x : Str} {pos : Pos} : SndV prog w d H T C m n (.name x pos) := fun nm env ρ σ p σ' D s A Q E X r hr h en => gd_e h fun hd h =>
  have q := name_e h
  name_ok X r (or_f hd).1 (or_f hd).2 q.1 fun v vr => (show Ends prog w d T.cells p σ D σ s Q from q.2 ▸ en).same r.toGd vr s.toks
theorem sv_tup (hE : EvG prog w d H T C m n) {es : List Expr} {k : Nat} {pos : Pos} : SndV prog w d H T C m n (.tup es k pos) := fun nm env ρ σ p σ' D s A Q E X r hr h en => gd_e h fun hc h => bnd_e h fun ps σ₁ h₁ h =>
  wpAny_Tuple (args_ok hE X hr E es σ ps σ₁ D s _ r h₁ (or_f hc).1 fun vs D' h' tk ok vrs => ⟨by rw [vrs.length, evs_len es h₁]; exact small_le (not_f (or_f hc).2), ((sp_ends h en).after ok tk).newTup (r.step ok).toGd vrs tk⟩)
theorem sv_lst (hE : EvG prog w d H T C m n) {es : List Expr} {pos : Pos} : SndV prog w d H T C m n (.lst es pos) := fun nm env ρ σ p σ' D s A Q E X r hr h en => gd_e h fun hc h => bnd_e h fun ps σ₁ h₁ h =>
  wpAny_List (args_ok hE X hr E es σ ps σ₁ D s _ r h₁ (or_f hc).1 fun vs D' h' tk ok vrs => ⟨by rw [vrs.length, evs_len es h₁]; exact small_le (not_f (or_f hc).2), ((sp_ends h en).after ok tk).newLst (r.step ok).toGd vrs tk⟩)
theorem sv_dict1 (hE : EvG prog w d H T C m n) {x : Str} {k : Nat} {kp : Pos} {v : Expr} {pos : Pos} : SndV prog w d H T C m n (.dict1 x k kp v pos) := fun nm env ρ σ p σ' D s A Q E X r hr h en => bnd_e h fun q σ₁ h₁ h => dict1_ok hE X r hr h₁ (sp_ends h en)
theorem sv_bin (hE : EvG prog w d H T C m n) {l r : Expr} {op : Operator} {pos : Pos} : SndV prog w d H T C m n (.bin l op r pos) := fun nm env ρ σ p σ' D s A Q E X r hr h en => bnd_e h fun a σ₁ h₁ h => bnd_e h fun b σ₂ h₂ h => rt_ends h en fun h en =>
  wpAny_BinOp (hE nm env ρ _ σ a σ₁ D s A _ E X r hr h₁ fun u D1 h1 tk1 ok1 x => hE nm env ρ _ σ₁ b σ₂ D1 _ A _ E X (r.step ok1) hr h₂ fun v D2 h2 tk2 ok2 y => bin_ok h ((r.step ok1).step ok2).toGd (x.mono ok2.le) y ((en.after ok1 tk1).after ok2 tk2))
theorem sv_un (hE : EvG prog w d H T C m n) {op : UnaryOp} {x : Expr} {pos : Pos} : SndV prog w d H T C m n (.un op x pos) := fun nm env ρ σ p σ' D s A Q E X r hr h en => bnd_e h fun q σ₁ h₁ h =>
  wpAny_UnaryOp (hE nm env ρ _ σ q σ₁ D s A _ E X r hr h₁ fun u D1 h1 tk1 ok1 x => un_ok h (r.step ok1).toGd x (en.after ok1 tk1))
theorem sv_ite (hE : EvG prog w d H T C m n) (hT : EvTG prog w d H T C m n) {t a b : Expr} {pos : Pos} : SndV prog w d H T C m n (.ite t a b pos) := fun nm env ρ σ p σ' D s A Q E X r hr h en => bnd_e h fun c σ₁ h₁ h => by
  refine wpAny_IfExp (hT nm env ρ _ σ c σ₁ D s A _ E X r hr h₁ fun D1 h1 tk1 ok1 => ?_)
  have k := hE nm env ρ (if c = true then a else b) σ₁ p σ' D1 _ A _ E X (r.step ok1) hr h (en.after ok1 tk1)
  cases c with
  | true => exact k
  | false => exact k
theorem cmp_e (hE : EvG prog w d H T C m n) {l r : Expr} {op : CmpOp} {c : Bool} {nm : NM} {env : Env} {ρ : Rho} {σ σ' : Nat} {D : Fz} {s : Shared} {A : Around} {Q : Value → Shared → Prop} {E : Value → Shared → Prop} {P : Prop} (X : EnvOk nm env) (y : RSt prog w d T.cells H env ρ σ D s.heap) (hr : Room m A) (h : evCmp (ev T C n nm ρ) l op r σ = some (c, σ'))
    (e : ∀ D' h' tk, Ok prog w d T.cells D σ s.heap D' σ' h' → Q (.bool c) { s with heap := h', toks := tk })
    (k : behindInMarks op r = false → wpAny (model prog w) A (eval l env) (fun u s₁ => wpAny (model prog w) A (eval r env) (fun v s₂ => wpAny (model prog w) A (compareOp op u v) Q E s₂) E s₁) E s → P) : P := gd_e h fun hm h => bnd_e h fun a σ₁ h₁ h => bnd_e h fun b σ₂ h₂ h => rt_e h fun h e2 =>
  k hm (hE nm env ρ _ σ a σ₁ D s A _ E X y hr h₁ fun u D1 h1 tk1 ok1 x => hE nm env ρ _ σ₁ b σ₂ D1 _ A _ E X (y.step ok1) hr h₂ fun v D2 h2 tk2 ok2 z => cmp_ok hr.u20 ((y.step ok1).step ok2).toGd (x.mono ok2.le) z h fun tk => e D2 h2 tk (e2 ▸ ok1.trans ok2))
theorem sv_cmp (hE : EvG prog w d H T C m n) {l r : Expr} {op : CmpOp} {pos : Pos} : SndV prog w d H T C m n (.cmp l op r pos) := fun nm env ρ σ p σ' D s A Q E X y hr h en => bnd_e h fun c σ₁ h₁ h =>
  cmp_e hE X y hr h₁ (fun D' h' tk ok => ((sp_ends h en).after ok tk).bool (y.step ok).toGd tk) fun hm k => wpAny_Compare1 k hm
theorem sv_sub (hE : EvG prog w d H T C m n) {v i : Expr} {pos : Pos} : SndV prog w d H T C m n (.sub v i pos) := fun nm env ρ σ p σ' D s A Q E X r hr h en => by
  have key : ∀ y : SLV i, evSub T.cells (ev T C n nm ρ) v σ y = some (p, σ') → wpAny (model prog w) A (eval (.Subscript v i pos) env) Q E s := fun y h => by
    cases y with
    | slice lo hi sp =>
      refine bnd_e h fun q σ₁ h₁ h => Subscript_ (hE nm env ρ _ σ _ _ D s A _ E X r hr h₁ fun u D1 h1 tk1 ok1 x => ?_)
      have ha : ∀ o, litOpt lo = some o → ∀ o', litOpt hi = some o' → True := fun _ _ _ _ => trivial
      cases el : litOpt lo with
      | none => rw [el] at h; cases q <;> exact no h
      | some a =>
        cases eh : litOpt hi with
        | none => rw [el, eh] at h; cases q <;> exact no h
        | some b =>
          refine wpAny_Slice (part_ok el fun va tka hva => part_ok eh fun vb tkb hvb => wpAny_evalPart_none ?_)
          have ok2 : Ok prog w d T.cells D1 _ h1 D1 _ (h1.push { cls := .type "slice", data := .fields #[va, vb, .none] }) := Ok.grown (r.step ok1).toGd fun b o eb => Heap.get?_push_of_some _ eb
          exact cut_ok (n := 0) h ((r.step ok1).step ok2).toGd x (Heap.IsSliceOf.new ..) (fun i e => Option.some.inj (el.symm.trans e) ▸ hva) (fun i e => Option.some.inj (eh.symm.trans e) ▸ hvb) ((en.after ok1 tk1).after ok2 _)
    | other =>
      exact bnd_e h fun a σ₁ h₁ h => bnd_e h fun b σ₂ h₂ h => rt_ends h en fun h en => Subscript_ (hE nm env ρ _ σ a σ₁ D s A _ E X r hr h₁ fun u D1 h1 tk1 ok1 x =>
        hE nm env ρ _ σ₁ b σ₂ D1 _ A _ E X (r.step ok1) hr h₂ fun v D2 h2 tk2 ok2 y => index_ok ((r.step ok1).step ok2).toGd (x.mono ok2.le) y h ((en.after ok1 tk1).after ok2 tk2))
  exact key (slv i) h
theorem sv_attr (tab : TabOk prog w H T) (hE : EvG prog w d H T C m n) {x : Str} {xp : Pos} {a : Str} {pos : Pos} : SndV prog w d H T C m n (.attr x xp a pos) := fun nm env ρ σ p σ' D s A Q E X r hr h en => bnd_e h fun q σ₁ h₁ h =>
  Attribute_name (hE nm env ρ _ σ _ _ D s A _ E X r hr h₁ fun u D1 h1 tk1 ok1 x => attr_ok tab h (r.step ok1).toGd x (en.after ok1 tk1))
theorem sv_meth (tab : TabOk prog w H T) (orc : OrcOk prog w d H T.cells C m) (hE : EvG prog w d H T C m n) {o : Str} {op : Pos} {mt : Str} {ap : Pos} {args : List Expr} {pos : Pos} : SndV prog w d H T C m n (.meth o op mt ap args pos) := fun nm env ρ σ p σ' D s A Q E X r hr h en => gd_e h fun hc h => bnd_e h fun q σ₁ h₁ h => by
  refine Classical.byContradiction fun hG => ?_
  obtain ⟨hc, hline⟩ := or_f hc
  obtain ⟨hst, hlen⟩ := or_f hc
  refine hG ?_
  refine methodCall_ok rfl hst (Nat.not_lt.mp (of_decide_eq_false hlen)) (not_f hline) (hE nm env ρ _ σ _ _ D s A _ E X r hr h₁ fun u D1 h1 tk1 ok1 x => ?_)
  have r1 := r.step ok1
  cases q with
  | inst mp ip =>
    refine Classical.byContradiction fun hG => ?_
    obtain ⟨a, mv, iv, rfl, io, x1, x2⟩ := x.inst_i
    refine hG ?_
    have h : (match T.meth.lookup mt with | some f => bnd (evsWith (ev T C n nm ρ) args σ₁) fun ps σ₂ => C f (.inst mp ip :: ps) σ₂ | .none => .none) = some (p, σ') := h
    cases hf : T.meth.lookup mt with
    | none => rw [hf] at h; exact no h
    | some f =>
      rw [hf] at h
      exact bnd_e h fun ps σ₂ h₂ h => tab.meth hf io r1.on r1.base (callw_ok hE X hr (tab.keepM hf) r1 h₂ hst fun vs D2 h2 tk2 ok2 vrs => orc _ _ _ _ _ D2 _ A _ E _ h (r1.step ok2).toGd (VRs.cons (x.mono ok2.le) vrs) hr ((en.after ok1 tk1).after ok2 tk2))
  | dI ks vs =>
    refine gd_e h fun hm h => bnd_e h fun ps σ₂ h₂ h₃ => ?_
    cases (show mt = ("get" : Str) from eq_of_beq (not_f hm))
    refine Classical.byContradiction fun hG => ?_
    obtain ⟨a, vals, rfl, ds, xs⟩ := x.dI_i
    refine hG ?_
    have hd1 := ds.dictOf (prog := prog) (w := w) r1.on
    refine getMethod_builtin hd1.typeIs PySem.F.plainAttrs_dict PySem.F.slot_dict_get PySem.F.type_dict_get hd1.mapOf.noDict ?_
    exact callw_ok hE X hr (fun h _ => keep_builtin h) r1 h₂ hst fun us D2 h2 tk2 ok2 vrs => get_ok h₃ (r1.step ok2).toGd (ds.mono ok2.le) (xs.mono ok2.le) vrs ((en.after ok1 tk1).after ok2 tk2)
  | _ => exact no h
theorem sv_call (tab : TabOk prog w H T) (orc : OrcOk prog w d H T.cells C m) (hE : EvG prog w d H T C m n) {f : Str} {fp : Pos} {args : List Expr} {pos : Pos} : SndV prog w d H T C m n (.call f fp args pos) := fun nm env ρ σ p σ' D s A Q E X r hr h en => gd_e h fun hc h => bnd_e h fun ps σ₁ h₁ h => by
  refine Classical.byContradiction fun hG => ?_
  obtain ⟨hc, hdb⟩ := or_f hc
  obtain ⟨hc, hgl⟩ := or_f hc
  obtain ⟨hst, hlen⟩ := or_f hc
  refine hG ?_
  have hkg := X.kg _ (eq_of_beq (not_f hgl))
  cases ha : T.glob.lookup f with
  | some a =>
    rw [ha] at h
    exact Call_ (tab.glob ha X.kind X.glob hkg hdb r.base (callw_ok hE X hr (tab.keepG ha) r h₁ hst fun vs D1 h1 tk1 ok1 vrs => orc _ _ _ _ _ D1 _ A _ E _ h (r.step ok1).toGd vrs hr (en.after ok1 tk1)))
  | none =>
    rw [ha] at h
    exact rt_ends h en fun h en => Call_ (tab.blt ha (builtin_names h) X.kind X.glob X.blt hkg hdb r.base (callw_ok hE X hr (fun h _ => keep_bval h) r h₁ hst fun vs D1 h1 tk1 ok1 vrs => builtin_ok hr h (r.step ok1).toGd vrs (en.after ok1 tk1)))
theorem fit_ends {cells : List Int} {l : List PV} {p : PV} {σ σ' σ₀ : Nat} {D : Fz} {s : Shared} {Q : Value → Shared → Prop} {P : Prop} (h : fitL l σ = some (p, σ')) (en : Ends prog w d cells p σ' D σ₀ s Q) (k : small l.length = true → Ends prog w d cells (.list l) σ D σ₀ s Q → P) : P := gd_e h fun hs h => k (not_f hs) (sp_ends h en)
theorem all_in {a b : List Str} (h : (!(a.all fun x => !b.contains x)) = false) (x : Str) (hx : x ∈ a) : x ∉ b := fun hb => by
  have := List.all_eq_true.mp (not_f h) x hx
  rw [List.contains_iff_mem.mpr hb] at this
  cases this
theorem nil_of {α : Type} : ∀ {l : List α}, (!l.isEmpty) = false → l = []
  | [], _ => rfl
  | _ :: _, h => nomatch h
theorem sv_comp (hE : EvG prog w d H T C m n) (hT : EvTG prog w d H T C m n) (hI : EvIG prog w d H T C m n) {elt : Expr} {gens : List Comprehension} {sc : Scope} {pos : Pos} : SndV prog w d H T C m n (.comp elt gens sc pos) := fun nm env ρ σ p σ' D s A Q E X r hr h en => gd_e h fun hc h => by
  have hc := Bool.and_eq_true_iff.mp (not_f hc)
  match gens, hc, h with
  | [g], hc, h => exact bnd_e h fun its σ₁ hi h => bnd_e h fun l σ₂ hf h => fit_ends h en fun hsm en => comp1_ok X r hr hc.1 hc.2 hE hT hI hi hf hsm en
  | [g, g₂], hc, h =>
    refine gd_e h fun hq h => bnd_e h fun its σ₁ hi h => bnd_e h fun l σ₂ hf h => fit_ends h en fun hsm en => ?_
    exact comp2_ok X r hr hc.1 hc.2 hE hT hI (nil_of (or_f (or_f hq).1).1) (nil_of (or_f (or_f hq).1).2) (all_in (or_f hq).2) hi hf hsm en

theorem sv_all (tab : TabOk prog w H T) (orc : OrcOk prog w d H T.cells C m) (hE : EvG prog w d H T C m n) (hT : EvTG prog w d H T C m n) (hI : EvIG prog w d H T C m n) {e : Expr} (v : EV e) : SndV prog w d H T C m n v := by
  cases v with
  | const => exact sv_const
  | name => exact sv_name
  | tup => exact sv_tup hE
  | lst => exact sv_lst hE
  | dict1 => exact sv_dict1 hE
  | bin => exact sv_bin hE
  | un => exact sv_un hE
  | ite => exact sv_ite hE hT
  | cmp => exact sv_cmp hE
  | sub => exact sv_sub hE
  | attr => exact sv_attr tab hE
  | meth => exact sv_meth tab orc hE
  | call => exact sv_call tab orc hE
  | comp => exact sv_comp hE hT hI
  | other => exact fun nm env ρ σ p σ' D s A Q E X r hr h => no h
theorem ev_step (tab : TabOk prog w H T) (orc : OrcOk prog w d H T.cells C m) (hE : EvG prog w d H T C m n) (hT : EvTG prog w d H T C m n) (hI : EvIG prog w d H T C m n) : EvG prog w d H T C m (n + 1) :=
  fun nm env ρ e => sv_all tab orc hE hT hI (view e) nm env ρ

theorem all_ok (hT : EvTG prog w d H T C m n) {nm : NM} {env : Env} {ρ : Rho} {A : Around} (X : EnvOk nm env) (hr : Room m A) (b : Bool) (σ' : Nat) (Q : Bool → Shared → Prop) (E : Value → Shared → Prop) (es : List Expr) : ∀ (σ : Nat) (D : Fz) (s : Shared),
    RSt prog w d T.cells H env ρ σ D s.heap → allWith (evT T C n nm ρ) es σ = some (b, σ') → (∀ D' h' tk, Ok prog w d T.cells D σ s.heap D' σ' h' → Q b { s with heap := h', toks := tk }) → wpAny (model prog w) A (allTrue .And es env) Q E s := by
  induction es with
  | nil => exact fun σ D s r h hQ => sp_e h fun e1 e2 => wpAny_allTrue_And_nil (e1 ▸ hQ D s.heap s.toks (e2 ▸ Ok.refl r.toGd))
  | cons e rest ih =>
    refine fun σ D s r h hQ => bnd_e h fun c σ₁ h₁ h => wpAny_allTrue_And_cons (hT nm env ρ e σ c σ₁ D s A _ E X r hr h₁ fun D' h' tk ok => ?_)
    cases c with
    | true => exact ih σ₁ D' { s with heap := h', toks := tk } (r.step ok) h fun D'' h'' tk' ok' => hQ D'' h'' tk' (ok.trans ok')
    | false => exact sp_e h fun e1 e2 => by subst e1 e2; exact hQ D' h' tk ok

theorem truthy_e {p : PV} {b : Bool} (h : truthyP p = some b) : p = .bool b := by
  cases p with
  | bool c => exact congrArg PV.bool (Option.some.inj h)
  | _ => exact no h
theorem evT_step (hE : EvG prog w d H T C m n) (hT : EvTG prog w d H T C m n) : EvTG prog w d H T C m (n + 1) := by
  intro nm env ρ e σ b σ' D s A Q E X r hr h hQ
  have key : ∀ v : TV e, stepT (evs T C n) nm ρ σ v = some (b, σ') → wpAny (model prog w) A (isTrue e env (eval e env)) Q E s := fun v h => by
    cases v with
    | not => exact bnd_e h fun c σ₁ h₁ h => sp_e h fun e1 e2 => wpAny_isTrue_Not (hT nm env ρ _ σ c _ D s A _ E X r hr h₁ fun D' h' tk ok => e1 ▸ hQ D' h' tk (e2 ▸ ok))
    | and vs => exact wpAny_isTrue_BoolOp (all_ok hT X hr b σ' Q E vs σ D s r h hQ)
    | cmp => exact cmp_e hE X r hr h (Q := fun v s => wpAny (model prog w) A (truthy v) Q E s) (fun D' h' tk ok => wpAny_truthy_bool (hQ D' h' tk ok)) fun hm k => wpAny_isTrue_Compare1 k hm
    | call => exact bnd_e h fun p σ₁ h₁ h => rt_e h fun h e2 => wpAny_isTrue_value (hE nm env ρ _ σ p _ D s A _ E X r hr h₁ fun u D1 h1 tk1 ok1 x => by
        rw [truthy_e h] at x
        rw [x.bool_i]
        exact wpAny_truthy_bool (hQ D1 h1 tk1 (e2 ▸ ok1)))
    | other => exact no h
  exact key (tv e) h

theorem evI_step (tab : TabOk prog w H T) (hE : EvG prog w d H T C m n) : EvIG prog w d H T C m (n + 1) := by
  intro nm env ρ e tg σ its σ' D s A Q E X r hr htg h hQ
  have h : (match isEnumV (cv e) with
    | some x => gd (isStarred x || nm.lookup ("enumerate" : Str) != some .globalImplicit || (T.glob.lookup ("enumerate" : Str)).isSome) (bnd (ev T C n nm ρ x σ) enumI)
    | .none => bnd (ev T C n nm ρ e σ) fitI) = some (its, σ') := h
  cases hc : isEnumV (cv e) with
  | none =>
    rw [hc] at h
    exact bnd_e h fun p σ₁ h₁ h => hE nm env ρ _ σ p σ₁ D s A _ E X r hr h₁ fun v D1 h1 tk1 ok1 x => ob_e h fun l hl h => gd_e h fun _ h => sp_e h fun e1 e2 => hQ v D1 h1 tk1 (e2 ▸ ok1) (e1 ▸ iter_ok (r.step ok1).toGd (fun b o e => ok1.live e) x hl)
  | some y =>
    rw [hc] at h
    have key : ∀ v : CV e, isEnumV v = some y → ∃ fp pos, e = .Call (.Name ("enumerate" : Str) fp) [y] [] pos := fun v hv => by
      cases v with
      | call f fp x pos =>
        by_cases c : (f == ("enumerate" : Str)) = true
        · have hv := (if_pos c).symm.trans hv
          exact ⟨fp, pos, by rw [eq_of_beq c, Option.some.inj hv]⟩
        · exact no ((if_neg c).symm.trans hv)
      | _ => exact no hv
    refine Classical.byContradiction fun hG => ?_
    obtain ⟨fp, pos, rfl⟩ := key _ hc
    refine hG ?_
    refine gd_e h fun hg h => bnd_e h fun p σ₁ h₁ h => ?_
    refine Classical.byContradiction fun hG => ?_
    obtain ⟨hg, hno⟩ := or_f hg
    obtain ⟨hst, hgl⟩ := or_f hg
    refine hG ?_
    cases p with
    | list l =>
      refine gd_e h fun hsm h => sp_e h fun e1 e2 => ?_
      refine Call_ (tab.blt (Option.isSome_eq_false_iff.mp hno |> Option.isNone_iff_eq_none.mp) (by decide) X.kind X.glob X.blt (X.kg _ (eq_of_beq (not_f hgl))) (by decide) r.base ?_)
      refine callw_ok (ps := [.list l]) hE X hr (fun h _ => keep_bval h) r (bnd_to h₁ (bnd_to rfl rfl)) (by rw [List.any_cons, hst]; rfl) fun vs D1 h1 tk1 ok1 vrs => ?_
      refine Classical.byContradiction fun hG => ?_
      obtain ⟨u, _, rfl, y, rfl⟩ := vrs
      refine hG ?_
      exact enum_ok (htg rfl) (r.step ok1).toGd ok1 y fun e h' tk ok iv => hQ _ D1 h' tk (e2 ▸ ok) (e1 ▸ iv)
    | _ => exact no h

theorem ev_all (tab : TabOk prog w H T) (orc : OrcOk prog w d H T.cells C m) : ∀ n, EvG prog w d H T C m n ∧ EvTG prog w d H T C m n ∧ EvIG prog w d H T C m n
  | 0 => ⟨fun _ _ _ _ _ _ _ _ _ _ _ _ _ _ _ h => no h, fun _ _ _ _ _ _ _ _ _ _ _ _ _ _ _ h => no h, fun _ _ _ _ _ _ _ _ _ _ _ _ _ _ _ _ _ h => no h⟩
  | n + 1 => let ⟨a, b, c⟩ := ev_all tab orc n; ⟨ev_step tab orc a b c, evT_step a b, evI_step tab a⟩
end
end Mine

/- part Stm1 -/
namespace Mine

/-- a slot is held by the value v; what it owns is fp -/
noncomputable def SV (prog : Program) (w : World) (d : Addr) (D : Fz) (h : Heap) (s : Slot) (v : Value) (fp : List Addr) : Prop := match s with
  | .val p => VR prog w d D p v ∧ fp = []
  | .lst l => ∃ a vs c, v = .ref a ∧ fp = [a] ∧ h.get? a = some (lstO vs c) ∧ VRs prog w d D l vs
  | .dct ks vs => ∃ a vals, v = .ref a ∧ fp = [a] ∧ h.DictOf (PySem.strKind prog w) a (ks.zip vals) ∧ ks.length = vals.length ∧ VRs prog w d D vs vals
  | .mm ks ls => ∃ a as, v = .ref a ∧ fp = a :: as ∧ (a :: as).Nodup ∧ h.DictOf (intKind prog w) a (ks.zip (as.map .ref)) ∧ ks.length = as.length ∧ ls.length = as.length ∧ ∀ (i : Nat) (b : Addr) (l : List PV), as[i]? = some b → ls[i]? = some l → ∃ vs c, h.get? b = some (lstO vs c) ∧ VRs prog w d D l vs

abbrev Fp := Str → List Addr

/-- what a function's own acts keep -/
structure Kp (d : Addr) (env : Env) (F : Fp) (D : Fz) (h : Heap) (F' : Fp) (D' : Fz) (h' : Heap) : Prop where
  pres : ∀ b o, b ≠ d → b ≠ env.locals → (∀ x c, env.cells.lookup x = some c → b ≠ c) → (∀ x, b ∉ F x) → h.get? b = some o → h'.get? b = some o
  le : D.le D'
  new : ∀ b o, (∀ x, b ∉ F x) → h.get? b = some o → D' b = D b
  fresh : ∀ y b, b ∈ F' y → (∃ x, b ∈ F x) ∨ h.get? b = none
  live : ∀ b o, h.get? b = some o → ∃ o', h'.get? b = some o'

structure SSt (prog : Program) (w : World) (d : Addr) (cells : List Int) (H : Heap) (D₀ : Fz) (σ₀ : Nat) (h₀ : Heap) (env : Env) (ρ : Rho) (F : Fp) (σ : Nat) (D : Fz) (h : Heap) : Prop where
  ok : Ok prog w d cells D₀ σ₀ h₀ D σ h
  gd : Gd prog w d cells H D σ h
  H0 : ∀ b o, H.get? b = some o → h₀.get? b = some o
  L0 : h₀.get? env.locals = none
  Ld : env.locals ≠ d
  DL : D env.locals = none
  ns : ∃ mm, h.Ns env.locals mm
  cel : ∀ x c, env.cells.lookup x = some c → h₀.get? c = none ∧ c ≠ d ∧ c ≠ env.locals ∧ D c = none ∧ ∃ v₀, h.IsCell c v₀
  inj : ∀ x y c, env.cells.lookup x = some c → env.cells.lookup y = some c → x = y
  own : ∀ x b, b ∈ F x → h₀.get? b = none ∧ D b = none ∧ b ≠ d ∧ b ≠ env.locals ∧ (∀ y c, env.cells.lookup y = some c → b ≠ c) ∧ (∃ o, h.get? b = some o) ∧ (b == sysModules) = false
  disj : ∀ x y b, b ∈ F x → b ∈ F y → x = y
  slot : ∀ x s, ρ x = some s → ∃ v, VarIs env h x v ∧ SV prog w d D h s v (F x)
  emp : ∀ x, ρ x = none → F x = []

section
variable {prog : Program} {w : World} {d : Addr} {cells : List Int} {H : Heap} {D₀ D D' : Fz} {σ₀ σ σ' : Nat} {h₀ h h' : Heap} {env : Env} {ρ ρ' : Rho} {F F' F'' : Fp}

theorem Kp.refl : Kp d env F D h F D h := ⟨fun _ _ _ _ _ _ e => e, Fz.le.refl D, fun _ _ _ _ => rfl, fun y b hb => .inl ⟨y, hb⟩, fun _ o e => ⟨o, e⟩⟩
theorem Kp.trans {D'' : Fz} {h'' : Heap} (x : Kp d env F D h F' D' h') (y : Kp d env F' D' h' F'' D'' h'') : Kp d env F D h F'' D'' h'' := by
  have out : ∀ b o, (∀ x, b ∉ F x) → h.get? b = some o → ∀ z, b ∉ F' z := fun b o n e z hb => by
    rcases x.fresh z b hb with ⟨q, hq⟩ | q
    · exact n q hq
    · rw [q] at e; cases e
  refine ⟨fun b o n1 n2 n3 n4 e => y.pres b o n1 n2 n3 (out b o n4 e) (x.pres b o n1 n2 n3 n4 e), x.le.trans y.le, fun b o n e => ?_, fun z b hb => ?_, fun b o e => let ⟨o', q⟩ := x.live b o e; y.live b o' q⟩
  · obtain ⟨o', q⟩ := x.live b o e
    exact (y.new b o' (out b o n e) q).trans (x.new b o n e)
  · rcases y.fresh z b hb with ⟨q, hq⟩ | q
    · exact x.fresh q b hq
    · refine .inr ?_
      cases e : h.get? b with
      | none => rfl
      | some o => obtain ⟨o', q'⟩ := x.live b o e; rw [q] at q'; cases q'
theorem Kp.of_ok (y : Ok prog w d cells D σ h D' σ' h') : Kp d env F D h F D' h' := ⟨fun b o n1 _ _ _ e => y.pres b o n1 e, y.le, fun b o _ e => y.new b o e, fun y b hb => .inl ⟨y, hb⟩, fun b o e => y.live e⟩

theorem SV.step {s : Slot} {v : Value} {fp : List Addr} (x : SV prog w d D h s v fp) (le : D.le D') (hs : ∀ b ∈ fp, ∀ o, h.get? b = some o → h'.get? b = some o) : SV prog w d D' h' s v fp := by
  cases s with
  | val p => exact ⟨x.1.mono le, x.2⟩
  | lst l => obtain ⟨a, vs, c, rfl, rfl, e, r⟩ := x; exact ⟨a, vs, c, rfl, rfl, hs a (.head _) _ e, r.mono le⟩
  | dct ks vs =>
    refine Classical.byContradiction fun hG => ?_
    obtain ⟨a, vals, rfl, rfl, ⟨o, es, ep, ho, q⟩, l, r⟩ := x
    refine hG ?_
    exact ⟨a, vals, rfl, rfl, ⟨o, es, ep, hs a (.head _) _ ho, q⟩, l, r.mono le⟩
  | mm ks ls =>
    refine Classical.byContradiction fun hG => ?_
    obtain ⟨a, as, rfl, rfl, nd, ⟨o, es, ep, ho, q⟩, l1, l2, r⟩ := x
    refine hG ?_
    refine ⟨a, as, rfl, rfl, nd, ⟨o, es, ep, hs a (.head _) _ ho, q⟩, l1, l2, fun i b l e1 e2 => ?_⟩
    refine Classical.byContradiction fun hG => ?_
    obtain ⟨vs, c, e3, e4⟩ := r i b l e1 e2
    refine hG ?_
    exact ⟨vs, c, hs b (.tail _ (List.mem_of_getElem? e1)) _ e3, e4.mono le⟩

theorem SSt.toRSt (x : SSt prog w d cells H D₀ σ₀ h₀ env ρ F σ D h) : RSt prog w d cells H env ρ σ D h :=
  ⟨x.gd, x.Ld, fun y c e => (x.cel y c e).2.1, fun y c e => let ⟨_, _, _, _, _, o, q, _⟩ := x.cel y c e; ⟨o, q⟩, fun y p e => let ⟨v, a, b⟩ := x.slot y _ e; ⟨v, a, b.1⟩⟩

theorem SSt.step (x : SSt prog w d cells H D₀ σ₀ h₀ env ρ F σ D h) (y : Ok prog w d cells D σ h D' σ' h') : SSt prog w d cells H D₀ σ₀ h₀ env ρ F σ' D' h' := by
  refine Classical.byContradiction fun hG => ?_
  obtain ⟨mm, hn⟩ := x.ns
  have hns := hn
  obtain ⟨oL, _, _, hL, _⟩ := hns
  refine hG ?_
  have hcd : ∀ z c, env.cells.lookup z = some c → c ≠ d := fun z c e => (x.cel z c e).2.1
  refine ⟨x.ok.trans y, x.gd.step y, x.H0, x.L0, x.Ld, (y.new _ _ hL).trans x.DL, ⟨mm, hn.at' fun o e => y.pres _ o x.Ld e⟩, fun z c e => ?_, x.inj, fun z b hb => ?_, x.disj, fun z s e => ?_, x.emp⟩
  · obtain ⟨q1, q2, q3, q4, v₀, o, q5, q6⟩ := x.cel z c e
    exact ⟨q1, q2, q3, (y.new _ _ q5).trans q4, v₀, o, y.pres _ _ q2 q5, q6⟩
  · obtain ⟨q1, q2, q3, q4, q5, ⟨o, q6⟩, q7⟩ := x.own z b hb
    exact ⟨q1, (y.new _ _ q6).trans q2, q3, q4, q5, ⟨o, y.pres _ _ q3 q6⟩, q7⟩
  · obtain ⟨v, a, b⟩ := x.slot z s e
    exact ⟨v, a.step y.pres x.Ld hcd, b.step y.le fun b hb o e => y.pres b o (x.own z b hb).2.2.1 e⟩

/-- an iterator's own objects W change, new data may be there -/
theorem SSt.other {W : List Addr} (x : SSt prog w d cells H D₀ σ₀ h₀ env ρ F σ D h) (hs : ∀ b o, b ∉ W → h.get? b = some o → h'.get? b = some o) (W0 : ∀ b ∈ W, h₀.get? b = none) (Wd : d ∉ W) (WL : env.locals ∉ W) (Wc : ∀ z c, env.cells.lookup z = some c → c ∉ W)
    (WF : ∀ z b, b ∈ F z → b ∉ W) (le : D.le D') (new : ∀ a o, h.get? a = some o → D' a = D a) (on : D'.on h') : SSt prog w d cells H D₀ σ₀ h₀ env ρ F σ D' h' := by
  refine Classical.byContradiction fun hG => ?_
  obtain ⟨mm, hn⟩ := x.ns
  have hns := hn
  obtain ⟨oL, _, _, hL, _⟩ := hns
  refine hG ?_
  have WH : ∀ b ∈ W, H.get? b = none := fun b hb => by
    cases q : H.get? b with
    | none => rfl
    | some o => have := x.H0 b o q; rw [W0 b hb] at this; cases this
  have ok := x.ok.chg hs W0 Wd le new on
  refine ⟨ok, ⟨fun b o e => hs b o (fun hb => by rw [WH b hb] at e; cases e) (x.gd.base b o e), on, ok.tape, x.gd.dH, ?_, x.gd.big⟩, x.H0, x.L0, x.Ld, (new _ _ hL).trans x.DL, ⟨mm, hn.at' fun o e => hs _ o WL e⟩, fun z c e => ?_, x.inj, fun z b hb => ?_, x.disj, fun z s e => ?_, x.emp⟩
  · obtain ⟨o, e⟩ := x.gd.tape.some; exact (new d o e).trans x.gd.dn
  · obtain ⟨q1, q2, q3, q4, v₀, o, q5, q6⟩ := x.cel z c e
    exact ⟨q1, q2, q3, (new _ _ q5).trans q4, v₀, o, hs _ _ (Wc z c e) q5, q6⟩
  · obtain ⟨q1, q2, q3, q4, q5, ⟨o, q6⟩, q7⟩ := x.own z b hb
    exact ⟨q1, (new _ _ q6).trans q2, q3, q4, q5, ⟨o, hs _ _ (WF z b hb) q6⟩, q7⟩
  · obtain ⟨v, a, b⟩ := x.slot z s e
    refine ⟨v, ?_, b.step le fun b hb o e => hs b o (WF z b hb) e⟩
    rcases a with ⟨k, m, n, q⟩ | ⟨k, c, l, o, ho, hd⟩
    · exact .inl ⟨k, m, n.at' fun o e => hs _ o WL e, q⟩
    · exact .inr ⟨k, c, l, o, hs c o (Wc z c l) ho, hd⟩

open Classical in
/-- the data, with what the names of f own -/
noncomputable def frzD (f : Str → Bool) (F : Fp) (D : Fz) (h : Heap) : Fz := fun b => if ∃ x, f x = true ∧ b ∈ F x then h.get? b else D b
noncomputable def frzF (f : Str → Bool) (F : Fp) : Fp := fun x => if f x then [] else F x

theorem frz_le (x : SSt prog w d cells H D₀ σ₀ h₀ env ρ F σ D h) (f : Str → Bool) : D.le (frzD f F D h) := fun b o e => by
  unfold frzD
  split
  · rename_i q; obtain ⟨y, _, hb⟩ := q; rw [(x.own y b hb).2.1] at e; cases e
  · exact e
theorem frz_in {f : Str → Bool} {x : Str} {b : Addr} (hf : f x = true) (hb : b ∈ F x) : frzD f F D h b = h.get? b := by unfold frzD; rw [if_pos ⟨x, hf, hb⟩]
theorem frz_out {f : Str → Bool} {b : Addr} (hb : ∀ x, b ∉ F x) : frzD f F D h b = D b := by unfold frzD; rw [if_neg fun ⟨x, _, q⟩ => hb x q]

theorem SSt.frz (x : SSt prog w d cells H D₀ σ₀ h₀ env ρ F σ D h) (f : Str → Bool) :
    SSt prog w d cells H D₀ σ₀ h₀ env (frz f ρ) (frzF f F) σ (frzD f F D h) h ∧ Kp d env F D h (frzF f F) (frzD f F D h) h := by
  have le := frz_le x f
  have nF : ∀ b, (h₀.get? b ≠ none ∨ b = d ∨ b = env.locals ∨ (∃ y c, env.cells.lookup y = some c ∧ b = c)) → ∀ z, b ∉ F z := fun b hb z hz => by
    refine Classical.byContradiction fun hG => ?_
    obtain ⟨q1, _, q3, q4, q5, _⟩ := x.own z b hz
    refine hG ?_
    rcases hb with q | q | q | ⟨y, c, q, q'⟩
    · exact q q1
    · exact q3 q
    · exact q4 q
    · exact q5 y c q q'
  have on : (frzD f F D h).on h := fun b o e => by
    unfold frzD at e
    split at e
    · exact e
    · exact x.gd.on b o e
  have sub : ∀ y b, b ∈ frzF f F y → b ∈ F y ∧ f y = false := fun y b hb => by
    unfold frzF at hb
    split at hb
    · cases hb
    · rename_i q; exact ⟨hb, by simpa using q⟩
  have dn : frzD f F D h d = none := (frz_out (nF d (.inr (.inl rfl)))).trans x.gd.dn
  refine ⟨⟨⟨x.ok.pres, x.ok.le.trans le, fun a o e => (frz_out (nF a (.inl (by rw [e]; simp)))).trans (x.ok.new a o e), on, x.ok.tape.keeps (fun o e => e) le⟩, ⟨x.gd.base, on, x.gd.tape.keeps (fun o e => e) le, x.gd.dH, dn, x.gd.big⟩, x.H0, x.L0, x.Ld, (frz_out (nF _ (.inr (.inr (.inl rfl))))).trans x.DL, x.ns,
    fun z c e => ?_, x.inj, fun z b hb => ?_, fun y z b h1 h2 => x.disj y z b (sub y b h1).1 (sub z b h2).1, fun z s e => ?_, fun z e => ?_⟩, ⟨fun _ _ _ _ _ _ e => e, le, fun b o n e => frz_out n, fun y b hb => .inl ⟨y, (sub y b hb).1⟩, fun _ o e => ⟨o, e⟩⟩⟩
  · obtain ⟨q1, q2, q3, q4, q5⟩ := x.cel z c e
    exact ⟨q1, q2, q3, (frz_out (nF c (.inr (.inr (.inr ⟨z, c, e, rfl⟩))))).trans q4, q5⟩
  · obtain ⟨hb', hf⟩ := sub z b hb
    refine Classical.byContradiction fun hG => ?_
    obtain ⟨q1, q2, q3⟩ := x.own z b hb'
    refine hG ?_
    refine ⟨q1, ?_, q3⟩
    unfold frzD
    rw [if_neg]
    · exact q2
    · rintro ⟨y, fy, hy⟩
      have := x.disj y z b hy hb'
      subst this
      rw [hf] at fy; cases fy
  · unfold Mine.frz at e
    unfold frzF
    by_cases hf : f z = true
    · rw [if_pos hf] at e ⊢
      simp only [Option.map_eq_some_iff] at e
      refine Classical.byContradiction fun hG => ?_
      obtain ⟨s', e, rfl⟩ := e
      obtain ⟨v, a, b⟩ := x.slot z s' e
      refine hG ?_
      refine ⟨v, a, ?_⟩
      cases s' with
      | val p => exact ⟨b.1.mono le, rfl⟩
      | lst l =>
        refine Classical.byContradiction fun hG => ?_
        obtain ⟨a', vs, c, rfl, q, e1, r⟩ := b
        refine hG ?_
        refine ⟨?_, rfl⟩
        have ha : a' ∈ F z := by rw [q]; exact .head _
        exact VR.list_mk ((frz_in hf ha).trans e1) (r.mono le)
      | dct ks vs =>
        refine Classical.byContradiction fun hG => ?_
        obtain ⟨a', vals, rfl, q, ⟨o, es, ep, ho, r1, r2, r3, r4, r5⟩, l, r⟩ := b
        refine hG ?_
        refine ⟨?_, rfl⟩
        have ha : a' ∈ F z := by rw [q]; exact .head _
        simp only [Slot.frz, VR]
        exact ⟨a', vals, rfl, ⟨o, es, ep, (frz_in hf ha).trans ho, r1, r2, r3, r4, by rw [List.map_fst_zip (by (with_reducible exact q_el ‹_›))] at r5; exact r5, l, (x.own z a' ha).2.2.2.2.2.2⟩, r.mono le⟩
      | mm ks ls =>
        refine Classical.byContradiction fun hG => ?_
        obtain ⟨a', as, rfl, q, nd, ⟨o, es, ep, ho, r1, r2, r3, r4, r5⟩, l1, l2, r⟩ := b
        refine hG ?_
        refine ⟨?_, rfl⟩
        have ha : a' ∈ F z := by rw [q]; exact .head _
        simp only [Slot.frz, VR]
        refine ⟨a', as.map .ref, rfl, ⟨o, es, ep, (frz_in hf ha).trans ho, r1, r2, r3, r4, by rw [List.map_fst_zip (by simp; (with_reducible exact q_el ‹_›))] at r5; exact r5, by simpa using l1, (x.own z a' ha).2.2.2.2.2.2⟩, ?_⟩
        have : ∀ (as : List Addr) (ls : List (List PV)), ls.length = as.length → (∀ b ∈ as, b ∈ F z) → (∀ (i : Nat) (b : Addr) (l : List PV), as[i]? = some b → ls[i]? = some l → ∃ vs c, h.get? b = some (lstO vs c) ∧ VRs prog w d D l vs) → VRs prog w d (frzD f F D h) (ls.map .list) (as.map .ref) := by
          intro as
          induction as with
          | nil => intro ls hl _ _; have : ls = [] := List.length_eq_zero_iff.mp hl; subst this; exact VRs.nil
          | cons b as ih =>
            intro ls hl hm hr
            cases ls with
            | nil => simp at hl
            | cons l ls =>
              refine Classical.byContradiction fun hG => ?_
              obtain ⟨vs, c, e1, e2⟩ := hr 0 b l rfl rfl
              refine hG ?_
              exact VRs.cons (VR.list_mk ((frz_in hf (hm b (.head _))).trans e1) (e2.mono le)) (ih ls (by simpa using hl) (fun b hb => hm b (.tail _ hb)) fun i b l e1 e2 => hr (i + 1) b l (by simpa using e1) (by simpa using e2))
        exact this as ls l2 (fun b hb => by rw [q]; exact .tail _ hb) r
    · rw [if_neg hf] at e ⊢
      refine Classical.byContradiction fun hG => ?_
      obtain ⟨v, a, b⟩ := x.slot z s e
      refine hG ?_
      exact ⟨v, a, b.step le fun _ _ _ e => e⟩
  · unfold Mine.frz at e
    unfold frzF
    split
    · rfl
    · rename_i hf
      rw [if_neg hf] at e
      exact x.emp z e
end
end Mine

/- part Stm2 -/
namespace Mine

section
variable {prog : Program} {w : World} {d : Addr} {cells : List Int} {H : Heap} {D₀ D D' : Fz} {σ₀ σ σ' : Nat} {h₀ h h' : Heap} {env : Env} {ρ ρ' : Rho} {F F' F'' : Fp} {A : Around}

/-- one of the function's own objects changes -/
theorem SSt.wr {t : Addr} (y : SSt prog w d cells H D₀ σ₀ h₀ env ρ F σ D h) (hs : ∀ b o, b ≠ t → h.get? b = some o → h'.get? b = some o) (ht0 : h₀.get? t = none) (td : t ≠ d) (Dt : D t = none)
    (ns : ∃ mm, h'.Ns env.locals mm) (cel : ∀ x c, env.cells.lookup x = some c → ∃ v₀, h'.IsCell c v₀)
    (own : ∀ x b, b ∈ F' x → h₀.get? b = none ∧ D b = none ∧ b ≠ d ∧ b ≠ env.locals ∧ (∀ y c, env.cells.lookup y = some c → b ≠ c) ∧ (∃ o, h'.get? b = some o) ∧ (b == sysModules) = false)
    (disj : ∀ x y b, b ∈ F' x → b ∈ F' y → x = y) (slot : ∀ x s, ρ' x = some s → ∃ v, VarIs env h' x v ∧ SV prog w d D h' s v (F' x)) (emp : ∀ x, ρ' x = none → F' x = []) :
    SSt prog w d cells H D₀ σ₀ h₀ env ρ' F' σ D h' := by
  have hsW : ∀ b o, b ∉ [t] → h.get? b = some o → h'.get? b = some o := fun b o hb e => hs b o (by simpa using hb) e
  have on : D.on h' := fun b o e => hs b o (by rintro rfl; rw [Dt] at e; cases e) (y.gd.on b o e)
  have ok := y.ok.chg hsW (fun b hb => by rw [List.mem_singleton.mp hb]; exact ht0) (fun q => td (List.mem_singleton.mp q).symm) (Fz.le.refl D) (fun _ _ _ => rfl) on
  exact ⟨ok, ⟨fun b o e => hs b o (by rintro rfl; have := y.H0 _ _ e; rw [ht0] at this; cases this) (y.gd.base b o e), on, ok.tape, y.gd.dH, y.gd.dn, y.gd.big⟩, y.H0, y.L0, y.Ld, y.DL, ns,
    fun x c e => let ⟨q1, q2, q3, q4, _⟩ := y.cel x c e; ⟨q1, q2, q3, q4, cel x c e⟩, y.inj, own, disj, slot, emp⟩

/-- what may become a name's own -/
noncomputable def Fresh (d : Addr) (h₀ : Heap) (env : Env) (D : Fz) (h : Heap) (b : Addr) : Prop := h₀.get? b = none ∧ D b = none ∧ b ≠ d ∧ b ≠ env.locals ∧ (∀ y c, env.cells.lookup y = some c → b ≠ c) ∧ (∃ o, h.get? b = some o) ∧ (b == sysModules) = false

noncomputable def setF (F : Fp) (x : Str) (fp : List Addr) : Fp := fun z => if z = x then fp else F z

theorem SSt.store {x : Str} {sl : Slot} {v : Value} {fp : List Addr} {nm : NM} {s : Shared} {Q : Unit → Shared → Prop} {E : Value → Shared → Prop} (y : SSt prog w d cells H D₀ σ₀ h₀ env ρ F σ D s.heap) (X : EnvOk nm env) (hx : ownName nm x = true)
    (sv : SV prog w d D s.heap sl v fp) (fo : ∀ b ∈ fp, Fresh d h₀ env D s.heap b) (fd : ∀ z b, z ≠ x → b ∈ fp → b ∉ F z)
    (hQ : ∀ h' tk, SSt prog w d cells H D₀ σ₀ h₀ env (upd ρ x sl) (setF F x fp) σ D h' → (∀ b o, b ≠ env.locals → (∀ z c, env.cells.lookup z = some c → b ≠ c) → s.heap.get? b = some o → h'.get? b = some o) → (∀ b o, s.heap.get? b = some o → ∃ o', h'.get? b = some o') → Q () { s with heap := h', toks := tk }) :
    wpAny (model prog w) A (storeName env x v) Q E s := by
  obtain ⟨mm, hn⟩ := y.ns
  have hdisj : ∀ a b c, c ∈ setF F x fp a → c ∈ setF F x fp b → a = b := fun a b c h1 h2 => by
    unfold setF at h1 h2
    split at h1
    · split at h2
      · subst_vars; rfl
      · rename_i q; exact absurd h2 (fd b c q h1)
    · split at h2
      · rename_i q _; exact absurd h1 (fd a c q h2)
      · exact y.disj a b c h1 h2
  have hemp : ∀ z, upd ρ x sl z = none → setF F x fp z = [] := fun z e => by
    unfold upd at e; unfold setF
    by_cases q : z = x
    · subst q; simp at e
    · rw [if_neg (by simpa using q)] at e; rw [if_neg q]; exact y.emp z e
  have hown : ∀ z b, b ∈ setF F x fp z → Fresh d h₀ env D s.heap b := fun z b hb => by
    unfold setF at hb
    split at hb
    · exact fo b hb
    · exact y.own z b hb
  have hupd : ∀ z s', upd ρ x sl z = some s' → (z = x ∧ s' = sl) ∨ (z ≠ x ∧ ρ z = some s') := fun z s' e => by
    unfold upd at e
    by_cases q : z = x
    · subst q; simp at e; exact .inl ⟨rfl, e.symm⟩
    · rw [if_neg (by simpa using q)] at e; exact .inr ⟨q, e⟩
  unfold ownName at hx
  simp only [Bool.or_eq_true, beq_iff_eq] at hx
  rcases hx with hx | hx
  · have hk := X.kl x hx
    refine wpAny_storeName_local hk hn (fun h' hn' hs => hQ h' _ ?_ (fun b o n _ e => hs.extBut b o n e) fun b o e => cellLive hs.extBut (let ⟨o, _, _, q, _⟩ := hn'; ⟨o, q⟩) e) (by rw [X.kind]; rfl)
    refine y.wr hs.extBut y.L0 y.Ld y.DL ⟨_, hn'⟩ (fun z c e => ?_) (fun z b hb => ?_) hdisj (fun z s' e => ?_) hemp
    · obtain ⟨_, _, q3, _, v₀, o, q, q'⟩ := y.cel z c e
      exact ⟨v₀, o, hs.extBut c o q3 q, q'⟩
    · obtain ⟨q1, q2, q3, q4, q5, ⟨o, q6⟩, q7⟩ := hown z b hb
      exact ⟨q1, q2, q3, q4, q5, ⟨o, hs.extBut b o q4 q6⟩, q7⟩
    · rcases hupd z s' e with ⟨rfl, rfl⟩ | ⟨hz, e'⟩
      · refine ⟨v, .inl ⟨hk, _, hn', by simp⟩, ?_⟩
        have : setF F z fp z = fp := by unfold setF; rw [if_pos rfl]
        rw [this]
        exact sv.step (Fz.le.refl D) fun b hb o e => hs.extBut b o (fo b hb).2.2.2.1 e
      · obtain ⟨v', a, b⟩ := y.slot z s' e'
        have : setF F x fp z = F z := by unfold setF; rw [if_neg hz]
        rw [this]
        refine ⟨v', ?_, b.step (Fz.le.refl D) fun b hb o e => hs.extBut b o (y.own z b hb).2.2.2.1 e⟩
        rcases a with ⟨k, m, n, q⟩ | ⟨k, c, l, o, ho, hd⟩
        · exact .inl ⟨k, _, hn', by rw [if_neg hz, ← q]; exact hn.agree n z⟩
        · exact .inr ⟨k, c, l, o, hs.extBut c o (y.cel z c l).2.2.1 ho, hd⟩
  · have hk := X.kc x hx
    refine Classical.byContradiction fun hG => ?_
    obtain ⟨c, hc⟩ := X.cel x (.inl hx)
    obtain ⟨c0, cd, cL, Dc, v₀, hv⟩ := y.cel x c hc
    refine hG ?_
    refine wpAny_storeName_cell X.kind hk hc hv fun h' hn' hs => hQ h' _ ?_ (fun b o _ n e => hs.extBut b o (n x c hc) e) fun b o e => cellLive hs.extBut (let ⟨o, q, _⟩ := hn'; ⟨o, q⟩) e
    refine y.wr hs.extBut c0 cd Dc ⟨mm, hn.at' fun o e => hs.extBut _ o (Ne.symm cL) e⟩ (fun z c' e => ?_) (fun z b hb => ?_) hdisj (fun z s' e => ?_) hemp
    · by_cases q : c' = c
      · subst q; exact ⟨_, hn'⟩
      · obtain ⟨_, _, _, _, v₀, o, q1, q2⟩ := y.cel z c' e
        exact ⟨v₀, o, hs.extBut c' o q q1, q2⟩
    · obtain ⟨q1, q2, q3, q4, q5, ⟨o, q6⟩, q7⟩ := hown z b hb
      exact ⟨q1, q2, q3, q4, q5, ⟨o, hs.extBut b o (q5 x c hc) q6⟩, q7⟩
    · rcases hupd z s' e with ⟨rfl, rfl⟩ | ⟨hz, e'⟩
      · refine ⟨v, .inr ⟨.inl hk, c, hc, hn'⟩, ?_⟩
        have : setF F z fp z = fp := by unfold setF; rw [if_pos rfl]
        rw [this]
        exact sv.step (Fz.le.refl D) fun b hb o e => hs.extBut b o ((fo b hb).2.2.2.2.1 _ c hc) e
      · obtain ⟨v', a, b⟩ := y.slot z s' e'
        have : setF F x fp z = F z := by unfold setF; rw [if_neg hz]
        rw [this]
        refine ⟨v', ?_, b.step (Fz.le.refl D) fun b hb o e => hs.extBut b o ((y.own z b hb).2.2.2.2.1 x c hc) e⟩
        rcases a with ⟨k, m, n, q⟩ | ⟨k, c', l, o, ho, hd⟩
        · exact .inl ⟨k, m, n.at' fun o e => hs.extBut _ o (Ne.symm cL) e, q⟩
        · exact .inr ⟨k, c', l, o, hs.extBut c' o (fun q => hz (y.inj z x c (q ▸ l) hc)) ho, hd⟩

/-- dict(d): a copy -/
theorem copy_ok {H : Heap} {T : Tab} {m : Nat} {p : PV} {us : List Value} {sl : Slot} {D : Fz} {s : Shared} {Q : Value → Shared → Prop} {E : Value → Shared → Prop} (hr : Room m A) (g1 : Gd prog w d T.cells H D σ s.heap) (h : copyO p σ = some (sl, σ')) (vrs : VRs prog w d D [p] us)
    (hQ : ∀ v D' h' tk fp, Ok prog w d T.cells D σ s.heap D' σ' h' → SV prog w d D' h' sl v fp → (∀ b ∈ fp, s.heap.get? b = none ∧ D' b = none ∧ b ≠ d ∧ (∃ o, h'.get? b = some o) ∧ (b == sysModules) = false) → Q v { s with heap := h', toks := tk }) :
    wpAny (model prog w) A (call (bval ("dict" : Str)) ([] ++ us)) Q E s := by
  have rest : rt ((builtinP ("dict" : Str) [p]).map .val) σ = some (sl, σ') → wpAny (model prog w) A (call (bval ("dict" : Str)) ([] ++ us)) Q E s := fun h => rt_e h fun h e2 => by
    cases hb : builtinP ("dict" : Str) [p] with
    | none => rw [hb] at h; exact no h
    | some q =>
      rw [hb] at h
      exact builtin_ok hr hb g1 vrs fun v D' h' tk ok2 vr => hQ v D' h' tk [] (e2 ▸ ok2) (Option.some.inj h ▸ ⟨vr, rfl⟩) fun b hb => nomatch hb
  cases p with
  | dS ks vs =>
    refine gd_e h fun hsm h => sp_e h fun e1 e2 => ?_
    subst e1 e2
    refine Classical.byContradiction fun hG => ?_
    obtain ⟨u, _, rfl, y, rfl⟩ := vrs
    obtain ⟨a, vals, rfl, ds, ys⟩ := y.dS_i
    refine hG ?_
    have hd1 := ds.dictOf (prog := prog) (w := w) g1.on
    have hlen : ks.length = vals.length := let ⟨_, _, _, _, _, _, _, _, _, q, _⟩ := ds; q
    have hl2 : (ks.zip vals).length ≤ sizeLine := by rw [List.length_zip, ← hlen, Nat.min_self]; exact small_le (not_f hsm)
    refine kt_call_dict ds.other hd1 hl2 fun h3 hd3 hs3 => ?_
    have hfree1 : s.heap.get? s.heap.objs.size = none := get?_ge (Nat.le_refl _)
    refine hQ _ D h3 s.toks [s.heap.objs.size] (Ok.grown g1 fun b o eb => hs3.extBut b o (Nat.ne_of_lt (Heap.lt_size eb)) (Heap.get?_push_of_some _ eb)) ⟨_, vals, rfl, rfl, hd3, hlen, ys⟩ fun b hb => ?_
    rw [List.mem_singleton.mp hb]
    exact ⟨hfree1, g1.free hfree1, Nat.ne_of_gt g1.tape.lt, let ⟨o, _, _, q, _⟩ := hd3; ⟨o, q⟩, g1.other (Nat.le_refl _)⟩
  | _ => exact rest h

/-- a value that an assignment may own, evaluated -/
theorem evO_ok {H : Heap} {T : Tab} {C : Orc} {m n : Nat} {nm : NM} {e : Expr} {sl : Slot} {D : Fz} {s : Shared} {Q : Value → Shared → Prop} {E : Value → Shared → Prop} (tab : TabOk prog w H T) (orc : OrcOk prog w d H T.cells C m) (X : EnvOk nm env) (hr : Room m A)
    (r : RSt prog w d T.cells H env ρ σ D s.heap) (h : evO T C n nm ρ e σ = some (sl, σ'))
    (hQ : ∀ v D' h' tk fp, Ok prog w d T.cells D σ s.heap D' σ' h' → SV prog w d D' h' sl v fp → (∀ b ∈ fp, s.heap.get? b = none ∧ D' b = none ∧ b ≠ d ∧ (∃ o, h'.get? b = some o) ∧ (b == sysModules) = false) → Q v { s with heap := h', toks := tk }) :
    wpAny (model prog w) A (eval e env) Q E s := by
  refine Classical.byContradiction fun hG => ?_
  obtain ⟨hE, hT, hI⟩ := ev_all tab orc n
  refine hG ?_
  have g := r.toGd
  have hfree : s.heap.get? s.heap.objs.size = none := get?_ge (Nat.le_refl _)
  have plain : ∀ {e : Expr}, bnd (ev T C n nm ρ e σ) (fun p σ => some (Slot.val p, σ)) = some (sl, σ') → wpAny (model prog w) A (eval e env) Q E s := fun {e} h => bnd_e h fun p σ₁ h₂ h =>
    sp_e h fun e1 e2 => hE nm env ρ e σ p σ₁ D s A _ E X r hr h₂ fun v D' h' tk ok vr => hQ v D' h' tk [] (e2 ▸ ok) (e1 ▸ ⟨vr, rfl⟩) fun b hb => nomatch hb
  have fresh0 : ∀ b, b ∈ [s.heap.objs.size] → ∀ h' : Heap, (∃ o, h'.get? s.heap.objs.size = some o) → s.heap.get? b = none ∧ D b = none ∧ b ≠ d ∧ (∃ o, h'.get? b = some o) ∧ (b == sysModules) = false := fun b hb h' ho => by
    rw [List.mem_singleton.mp hb]
    exact ⟨hfree, g.free hfree, Nat.ne_of_gt g.tape.lt, ho, g.other (Nat.le_refl _)⟩
  have key : ∀ v : CV e, stepO T C n nm ρ σ v = some (sl, σ') → wpAny (model prog w) A (eval e env) Q E s := fun v h => by
    cases v with
    | nilL =>
      refine sp_e h fun e1 e2 => wpAny_List (Calls.spliced_nil ⟨Nat.zero_le _, ?_⟩)
      subst e1 e2
      exact hQ _ D _ s.toks [s.heap.objs.size] (Ok.grown g fun b o eb => Heap.get?_push_of_some _ eb) ⟨_, [], 0, rfl, rfl, Heap.get?_push_size _ rfl, VRs.nil⟩ fun b hb => fresh0 b hb _ ⟨_, Heap.get?_push_size _ rfl⟩
    | nilD =>
      refine sp_e h fun e1 e2 => wpAny_Dict_empty ?_
      subst e1 e2
      exact hQ _ D _ s.toks [s.heap.objs.size] (Ok.grown g fun b o eb => Heap.get?_push_of_some _ eb) ⟨_, [], rfl, rfl, by simp, Heap.DictOf.new s.heap, rfl, rfl, fun i b l e => by simp at e⟩ fun b hb => fresh0 b hb _ ⟨_, Heap.get?_push_size _ rfl⟩
    | other => exact plain h
    | call f fp x pos =>
      cases hf : (f == ("dict" : Str)) with
      | false =>
        have h : (bif f == ("dict" : Str) then gd (isStarred x || nm.lookup f != some .globalImplicit || (T.glob.lookup f).isSome) (bnd (ev T C n nm ρ x σ) copyO) else bnd (ev T C n nm ρ (.Call (.Name f fp) [x] [] pos) σ) fun p σ => some (.val p, σ)) = some (sl, σ') := h
        rw [hf] at h
        exact plain h
      | true =>
        cases (show f = ("dict" : Str) from eq_of_beq hf)
        refine gd_e (show gd _ (bnd (ev T C n nm ρ x σ) copyO) = some (sl, σ') from h) fun hc h => bnd_e h fun p σ₁ h₁ h => ?_
        refine Classical.byContradiction fun hG => ?_
        obtain ⟨hc, hno⟩ := or_f hc
        obtain ⟨hst, hgl⟩ := or_f hc
        refine hG ?_
        refine Call_ (tab.blt (Option.isSome_eq_false_iff.mp hno |> Option.isNone_iff_eq_none.mp) (by decide) X.kind X.glob X.blt (X.kg _ (eq_of_beq (not_f hgl))) (by decide) r.base ?_)
        refine callw_ok (ps := [p]) hE X hr (fun h _ => keep_bval h) r (bnd_to h₁ (bnd_to rfl rfl)) (by rw [List.any_cons, hst]; rfl) fun us D1 h1 tk1 ok1 vrs => ?_
        exact copy_ok hr (r.step ok1).toGd h vrs fun v D' h' tk fp ok2 sv fr => hQ v D' h' tk fp (ok1.trans ok2) sv fun b hb => by
          obtain ⟨q1, q2⟩ := fr b hb
          refine ⟨?_, q2⟩
          cases e : s.heap.get? b with
          | none => rfl
          | some o => obtain ⟨o', q⟩ := ok1.live e; exact nomatch q1.symm.trans q
  exact key (cv e) h
end
end Mine

/- part Stm3 -/
namespace Mine

noncomputable def SVs (prog : Program) (w : World) (d : Addr) (D : Fz) (h : Heap) : List Slot → List Value → List (List Addr) → Prop
  | [], [], [] => True
  | s :: ss, v :: vs, fp :: fps => SV prog w d D h s v fp ∧ SVs prog w d D h ss vs fps
  | _, _, _ => False

section
variable {prog : Program} {w : World} {d : Addr} {H : Heap} {T : Tab} {C : Orc} {m n : Nat} {A : Around} {nm : NM} {env : Env} {ρ : Rho}

theorem SVs.lens {D : Fz} {h : Heap} : ∀ {ss : List Slot} {vs : List Value} {fps : List (List Addr)}, SVs prog w d D h ss vs fps → vs.length = ss.length ∧ fps.length = ss.length
  | [], [], [], _ => ⟨rfl, rfl⟩
  | _ :: _, _ :: _, _ :: _, x => let ⟨a, b⟩ := SVs.lens x.2; ⟨by simp [a], by simp [b]⟩
  | [], _ :: _, _, x => x.elim
  | [], [], _ :: _, x => x.elim
  | _ :: _, [], _, x => x.elim
  | _ :: _, _ :: _, [], x => x.elim

/-- the own objects of slots, new since h -/
abbrev NewIn (d : Addr) (h : Heap) (D' : Fz) (h' : Heap) (b : Addr) : Prop := h.get? b = none ∧ D' b = none ∧ b ≠ d ∧ (∃ o, h'.get? b = some o) ∧ (b == sysModules) = false
theorem evsO_ok (tab : TabOk prog w H T) (orc : OrcOk prog w d H T.cells C m) (X : EnvOk nm env) (hr : Room m A) {pos : Pos} (E : Value → Shared → Prop) (es : List Expr) : ∀ (σ : Nat) (ss : List Slot) (σ' : Nat) (D : Fz) (s : Shared) (Q : List Value → Shared → Prop),
    RSt prog w d T.cells H env ρ σ D s.heap → evsO T C n nm ρ es σ = some (ss, σ') → es.any isStarred = false →
    (∀ vs fps D' h' tk, Ok prog w d T.cells D σ s.heap D' σ' h' → SVs prog w d D' h' ss vs fps → (∀ fp ∈ fps, ∀ b ∈ fp, NewIn d s.heap D' h' b) → fps.Pairwise (fun a b => ∀ x ∈ a, x ∉ b) → Q vs { s with heap := h', toks := tk }) →
    wpAny (model prog w) A (spliced (backTo pos (starEach es env))) Q E s := by
  induction es with
  | nil => exact fun σ ss σ' D s Q r h _ hQ => Calls.spliced_nil (sp_e h fun e1 e2 => hQ [] [] D s.heap s.toks (e2 ▸ Ok.refl r.toGd) (e1 ▸ trivial) (fun _ h => nomatch h) .nil)
  | cons e es ih =>
    refine fun σ ss σ' D s Q r h hst hQ => bnd_e h fun sl σ₁ h₁ h => bnd_e h fun ss' σ₂ h₂ h => sp_e h fun e1 e2 => ?_
    subst e1 e2
    have hst := or_f hst
    rw [star_cons hst.1]
    refine Calls.spliced_cons (evO_ok tab orc X hr r h₁ fun v D1 h1 tk1 fp ok1 sv f1 => ?_)
    refine ih σ₁ ss' σ₂ D1 { s with heap := h1, toks := tk1 } _ (r.step ok1) h₂ hst.2 fun vs fps D2 h2 tk2 ok2 svs f2 pw => ?_
    refine hQ (v :: vs) (fp :: fps) D2 h2 tk2 (ok1.trans ok2) ⟨sv.step ok2.le fun b hb o e => ok2.pres b o (f1 b hb).2.2.1 e, svs⟩ (fun fp' hfp b hb => ?_) (List.pairwise_cons.mpr ⟨fun fp' hfp x hx hx' => ?_, pw⟩)
    · rcases List.mem_cons.mp hfp with rfl | hfp
      · obtain ⟨q1, q2, q3, ⟨o, q4⟩, q5⟩ := f1 b hb
        exact ⟨q1, (ok2.new b o q4).trans q2, q3, ok2.live q4, q5⟩
      · obtain ⟨q1, q2⟩ := f2 fp' hfp b hb
        refine ⟨?_, q2⟩
        cases e : s.heap.get? b with
        | none => rfl
        | some o => obtain ⟨o', q⟩ := ok1.live e; exact nomatch q1.symm.trans q
    · obtain ⟨_, _, _, ⟨o, q4⟩, _⟩ := f1 x hx
      exact nomatch (f2 fp' hfp x hx').1.symm.trans q4

variable {cells : List Int} {D₀ : Fz} {σ₀ : Nat} {h₀ : Heap}

abbrev Sto := Str × Slot × Value × List Addr × (Value → Sem Unit)

theorem stores_ok (X : EnvOk nm env) {σ : Nat} {D : Fz} : ∀ (l : List Sto) (ρ : Rho) (F : Fp) (s : Shared) (Q : Unit → Shared → Prop) (E : Value → Shared → Prop), SSt prog w d cells H D₀ σ₀ h₀ env ρ F σ D s.heap →
    (∀ q ∈ l, ownName nm q.1 = true ∧ SV prog w d D s.heap q.2.1 q.2.2.1 q.2.2.2.1 ∧ (∀ b ∈ q.2.2.2.1, Fresh d h₀ env D s.heap b) ∧ (∀ z b, b ∈ q.2.2.2.1 → b ∉ F z) ∧
      ∀ v (s : Shared) (Q : Unit → Shared → Prop) (E : Value → Shared → Prop), wpAny (model prog w) A (storeName env q.1 v) Q E s → wpAny (model prog w) A (q.2.2.2.2 v) Q E s) →
    (l.map (·.2.2.2.1)).Pairwise (fun a b => ∀ x ∈ a, x ∉ b) →
    (∀ h' tk F', SSt prog w d cells H D₀ σ₀ h₀ env (l.foldl (fun ρ q => upd ρ q.1 q.2.1) ρ) F' σ D h' → (∀ z b, b ∈ F' z → b ∈ F z ∨ ∃ q ∈ l, b ∈ q.2.2.2.1) → (∀ b o, b ≠ env.locals → (∀ z c, env.cells.lookup z = some c → b ≠ c) → s.heap.get? b = some o → h'.get? b = some o) → (∀ b o, s.heap.get? b = some o → ∃ o', h'.get? b = some o') → Q () { s with heap := h', toks := tk }) →
    wpAny (model prog w) A (assignInOrder (l.map (·.2.2.2.2)) (l.map (·.2.2.1))) Q E s
  | [], ρ, F, s, Q, E, y, _, _, hQ => assignInOrder_nil (hQ s.heap s.toks F y (fun z b hb => .inl hb) (fun _ _ _ _ e => e) fun _ o e => ⟨o, e⟩)
  | q :: l, ρ, F, s, Q, E, y, hl, pw, hQ => by
    refine Classical.byContradiction fun hG => ?_
    obtain ⟨a1, a2, a3, a4, a5⟩ := hl q (.head _)
    obtain ⟨p1, p2⟩ := List.pairwise_cons.mp pw
    refine hG ?_
    simp only [List.map_cons]
    refine assignInOrder_cons (a5 _ _ _ _ (y.store X a1 a2 a3 (fun z b _ hb => a4 z b hb) fun h' tk y' pr lv => ?_))
    refine stores_ok X l _ _ { s with heap := h', toks := tk } Q E y' (fun q' hq' => ?_) p2 fun h2 tk2 F2 y2 f2 pr2 lv2 => ?_
    · obtain ⟨b1, b2, b3, b4, b5⟩ := hl q' (.tail _ hq')
      refine ⟨b1, b2.step (Fz.le.refl D) fun b hb o e => pr b o (b3 b hb).2.2.2.1 (b3 b hb).2.2.2.2.1 e, fun b hb => ?_, fun z b hb => ?_, b5⟩
      · obtain ⟨c1, c2, c3, c4, c5, ⟨o, c6⟩, c7⟩ := b3 b hb
        exact ⟨c1, c2, c3, c4, c5, lv b o c6, c7⟩
      · unfold setF
        split
        · exact fun hb' => p1 q'.2.2.2.1 (List.mem_map.mpr ⟨q', hq', rfl⟩) b hb' hb
        · exact b4 z b hb
    · refine hQ h2 tk2 F2 y2 (fun z b hb => ?_) (fun b o n1 n2 e => pr2 b o n1 n2 (pr b o n1 n2 e)) fun b o e => let ⟨o', q⟩ := lv b o e; lv2 b o' q
      rcases f2 z b hb with hb | ⟨q', hq', hb⟩
      · unfold setF at hb
        split at hb
        · exact .inr ⟨q, .head _, hb⟩
        · exact .inl hb
      · exact .inr ⟨q', .tail _ hq', hb⟩

theorem fold_out : ∀ (l : List Sto) (ρ : Rho) (y : Str), (∀ q ∈ l, q.1 ≠ y) → l.foldl (fun ρ q => upd ρ q.1 q.2.1) ρ y = ρ y
  | [], _, _, _ => rfl
  | q :: l, ρ, y, h => by
    rw [List.foldl_cons, fold_out l _ y fun q' hq' => h q' (.tail _ hq')]
    unfold upd; rw [if_neg (by simpa using fun e => h q (.head _) e.symm)]
theorem fold_in (l : List Sto) : ∀ (ρ : Rho) (q : Sto), (l.map (·.1)).Nodup → q ∈ l → l.foldl (fun ρ q => upd ρ q.1 q.2.1) ρ q.1 = some q.2.1 := by
  induction l with
  | nil => exact fun ρ q _ hq => nomatch hq
  | cons q' l ih =>
    intro ρ q nd hq
    have nd := List.nodup_cons.mp nd
    rw [List.foldl_cons]
    rcases List.mem_cons.mp hq with rfl | hq
    · rw [fold_out l _ _ fun q' hq' e => nd.1 (List.mem_map.mpr ⟨q', hq', e⟩)]
      exact if_pos (beq_self_eq_true _)
    · exact ih _ q nd.2 hq
theorem fold_rev (l : List Sto) (ρ : Rho) (nd : (l.map (·.1)).Nodup) : l.reverse.foldl (fun ρ q => upd ρ q.1 q.2.1) ρ = l.foldl (fun ρ q => upd ρ q.1 q.2.1) ρ := by
  funext y
  by_cases h : ∃ q ∈ l, q.1 = y
  · obtain ⟨q, hq, rfl⟩ := h
    rw [fold_in l ρ q nd hq, fold_in l.reverse ρ q (by rw [List.map_reverse, List.Nodup, List.pairwise_reverse]; exact nd.imp fun h => Ne.symm h) (List.mem_reverse.mpr hq)]
  · have h' : ∀ q ∈ l, q.1 ≠ y := fun q hq e => h ⟨q, hq, e⟩
    rw [fold_out l ρ y h', fold_out l.reverse ρ y fun q hq => h' q (List.mem_reverse.mp hq)]

/-- the stores of names, slots, values, what they own -/
noncomputable def mkSto : List Str → List Slot → List Value → List (List Addr) → List (Value → Sem Unit) → List Sto
  | [] => fun _ _ _ _ => []
  | x :: xs => fun ss vs fps gs => match ss with
    | [] => []
    | s :: ss => match vs with
      | [] => []
      | v :: vs => match fps with
        | [] => []
        | fp :: fps => match gs with
          | [] => []
          | g :: gs => (x, s, v, fp, g) :: mkSto xs ss vs fps gs

theorem SVs.cons_i {D : Fz} {h : Heap} {s : Slot} {ss : List Slot} {vs : List Value} {fps : List (List Addr)} (x : SVs prog w d D h (s :: ss) vs fps) : ∃ v vs' fp fps', vs = v :: vs' ∧ fps = fp :: fps' ∧ SV prog w d D h s v fp ∧ SVs prog w d D h ss vs' fps' := by
  cases vs with
  | nil => cases fps <;> exact x.elim
  | cons v vs =>
    cases fps with
    | nil => exact x.elim
    | cons fp fps => exact ⟨v, vs, fp, fps, rfl, rfl, x.1, x.2⟩
theorem SVs.nil_i {D : Fz} {h : Heap} {vs : List Value} {fps : List (List Addr)} (x : SVs prog w d D h [] vs fps) : vs = [] ∧ fps = [] := by
  cases vs with
  | nil =>
    cases fps with
    | nil => exact ⟨rfl, rfl⟩
    | cons => exact x.elim
  | cons => cases fps <;> exact x.elim
theorem mkSto_facts {D : Fz} {h : Heap} (xs : List Str) : ∀ (ss : List Slot) (vs : List Value) (fps : List (List Addr)) (gs : List (Value → Sem Unit)), SVs prog w d D h ss vs fps → xs.length = ss.length → gs.length = xs.length →
    (mkSto xs ss vs fps gs).map (·.1) = xs ∧ (mkSto xs ss vs fps gs).map (·.2.2.1) = vs ∧ (mkSto xs ss vs fps gs).map (·.2.2.2.1) = fps ∧ (mkSto xs ss vs fps gs).map (·.2.2.2.2) = gs ∧
    (∀ ρ, (mkSto xs ss vs fps gs).foldl (fun ρ q => upd ρ q.1 q.2.1) ρ = updAll xs ss ρ) ∧ ∀ q ∈ mkSto xs ss vs fps gs, q.1 ∈ xs ∧ q.2.2.2.1 ∈ fps ∧ SV prog w d D h q.2.1 q.2.2.1 q.2.2.2.1 ∧ ∃ i : Nat, xs[i]? = some q.1 ∧ gs[i]? = some q.2.2.2.2 := by
  induction xs with
  | nil =>
    intro ss vs fps gs y hl hg
    cases List.eq_nil_of_length_eq_zero hl.symm
    cases List.eq_nil_of_length_eq_zero hg
    obtain ⟨rfl, rfl⟩ := SVs.nil_i y
    exact ⟨rfl, rfl, rfl, rfl, fun _ => rfl, fun _ h => nomatch h⟩
  | cons x xs ih =>
    intro ss vs fps gs y hl hg
    cases ss with
    | nil => exact absurd hl.symm (Nat.ne_of_lt (Nat.succ_pos _))
    | cons s ss =>
      cases gs with
      | nil => exact absurd hg (Nat.ne_of_lt (Nat.succ_pos _))
      | cons g gs =>
        refine Classical.byContradiction fun hG => ?_
        obtain ⟨v, vs, fp, fps, rfl, rfl, y1, y2⟩ := SVs.cons_i y
        obtain ⟨a1, a2, a3, a4, a5, a6⟩ := ih ss vs fps gs y2 (Nat.succ.inj hl) (Nat.succ.inj hg)
        refine hG ?_
        refine ⟨congrArg (x :: ·) a1, congrArg (v :: ·) a2, congrArg (fp :: ·) a3, congrArg (g :: ·) a4, fun ρ => a5 _, fun q hq => ?_⟩
        rcases List.mem_cons.mp hq with rfl | hq
        · exact ⟨.head _, .head _, y1, 0, rfl, rfl⟩
        · obtain ⟨b1, b2, b3, i, b4, b5⟩ := a6 q hq
          exact ⟨.tail _ b1, .tail _ b2, b3, i + 1, b4, b5⟩

theorem name_inv : ∀ {e : Expr} {x : Str}, nameOfE e = some x → ∃ p, e = .Name x p := fun {e x} h => by
  cases e with
  | Name y p => exact ⟨p, congrArg (fun z => Expr.Name z p) (Option.some.inj h)⟩
  | _ => exact no h
theorem names_cons {e : Expr} {ts : List Expr} {xs : List Str} (h : namesOfE (e :: ts) = some xs) : ∃ x r, nameOfE e = some x ∧ namesOfE ts = some r ∧ xs = x :: r := by
  unfold namesOfE at h
  cases e1 : nameOfE e with
  | none => rw [e1] at h; exact no h
  | some x =>
    cases e2 : namesOfE ts with
    | none => rw [e1, e2] at h; exact no h
    | some r => rw [e1, e2] at h; exact ⟨x, r, rfl, rfl, (Option.some.inj h).symm⟩
theorem names_targets (ts : List Expr) : ∀ {xs : List Str}, namesOfE ts = some xs → ts.length = xs.length ∧ (assignEach ts env).findIdx? (·.1) = none ∧ ∃ g : List (Value → Sem Unit), (assignEach ts env).map (·.2) = g ∧ g.length = xs.length ∧
    ∀ (i : Nat) (x : Str) (f : Value → Sem Unit), xs[i]? = some x → g[i]? = some f → ∃ p, f = assign (.Name x p) env := by
  induction ts with
  | nil => intro xs h; cases h; exact ⟨rfl, rfl, [], rfl, rfl, fun i x f e => by simp at e⟩
  | cons e ts ih =>
    intro xs h
    refine Classical.byContradiction fun hG => ?_
    obtain ⟨x, r, h1, h2, rfl⟩ := names_cons h
    obtain ⟨p, rfl⟩ := name_inv h1
    obtain ⟨a1, a2, g, a3, a4, a5⟩ := ih h2
    refine hG ?_
    refine ⟨congrArg (· + 1) a1, by simp [assignEach, List.findIdx?_cons, a2], assign (.Name x p) env :: g, congrArg (assign (.Name x p) env :: ·) a3, congrArg (· + 1) a4, fun i y f e1 e2 => ?_⟩
    cases i with
    | zero => exact ⟨p, (Option.some.inj e2).symm.trans (congrArg (fun z => assign (.Name z p) env) (Option.some.inj e1))⟩
    | succ i => exact a5 i y f e1 e2
end
end Mine

/- part Stm4 -/
namespace Mine

section
variable {prog : Program} {w : World} {d : Addr} {H : Heap} {T : Tab} {C : Orc} {m n : Nat} {A : Around} {nm : NM} {env : Env} {ρ : Rho} {cells : List Int} {D₀ : Fz} {σ₀ : Nat} {h₀ : Heap}

theorem Kp.stores {F F1 F3 : Fp} {D D2 : Fz} {h h2 h3 : Heap} (k : Kp d env F D h F1 D2 h2) (pr : ∀ b o, b ≠ env.locals → (∀ z c, env.cells.lookup z = some c → b ≠ c) → h2.get? b = some o → h3.get? b = some o) (lv : ∀ b o, h2.get? b = some o → ∃ o', h3.get? b = some o')
    (f : ∀ z b, b ∈ F3 z → b ∈ F1 z ∨ h.get? b = none) : Kp d env F D h F3 D2 h3 :=
  ⟨fun b o n1 n2 n3 n4 e => pr b o n2 n3 (k.pres b o n1 n2 n3 n4 e), k.le, k.new, fun z b hb => (f z b hb).elim (k.fresh z b) .inr, fun b o e => let ⟨o', q⟩ := k.live b o e; lv b o' q⟩

theorem SSt.grow {F : Fp} {σ : Nat} {D : Fz} {h h' : Heap} (x : SSt prog w d cells H D₀ σ₀ h₀ env ρ F σ D h) (hs : ∀ b o, h.get? b = some o → h'.get? b = some o) : SSt prog w d cells H D₀ σ₀ h₀ env ρ F σ D h' :=
  x.step (Ok.grown x.gd hs)
theorem SVs.step {D D' : Fz} {h h' : Heap} : ∀ {ss : List Slot} {vs : List Value} {fps : List (List Addr)}, SVs prog w d D h ss vs fps → D.le D' → (∀ fp ∈ fps, ∀ b ∈ fp, ∀ o, h.get? b = some o → h'.get? b = some o) → SVs prog w d D' h' ss vs fps
  | [], [], [], _, _, _ => trivial
  | _ :: _, _ :: _, fp :: _, x, le, hs => ⟨x.1.step le (hs fp (.head _)), SVs.step x.2 le fun fp' h => hs fp' (.tail _ h)⟩
  | [], _ :: _, _, x, _, _ => x.elim
  | [], [], _ :: _, x, _, _ => x.elim
  | _ :: _, [], _, x, _, _ => x.elim
  | _ :: _, _ :: _, [], x, _, _ => x.elim

/-- the stores of a tuple's items, either way round -/
theorem storeAll_ok (X : EnvOk nm env) {σ : Nat} {D : Fz} {F : Fp} {s : Shared} {xs : List Str} {ss : List Slot} {vs : List Value} {fps : List (List Addr)} {gs : List (Value → Sem Unit)} {Q : Unit → Shared → Prop} {E : Value → Shared → Prop} (b : Bool)
    (y : SSt prog w d cells H D₀ σ₀ h₀ env ρ F σ D s.heap) (svs : SVs prog w d D s.heap ss vs fps) (hl : xs.length = ss.length) (hg : gs.length = xs.length) (nd : xs.Nodup) (ow : xs.all (ownName nm) = true)
    (st : ∀ (i : Nat) (x : Str) (f : Value → Sem Unit), xs[i]? = some x → gs[i]? = some f → ∀ v (s : Shared) (Q : Unit → Shared → Prop) (E : Value → Shared → Prop), wpAny (model prog w) A (storeName env x v) Q E s → wpAny (model prog w) A (f v) Q E s)
    (fr : ∀ fp ∈ fps, ∀ b ∈ fp, Fresh d h₀ env D s.heap b ∧ ∀ z, b ∉ F z) (pw : fps.Pairwise (fun a b => ∀ x ∈ a, x ∉ b))
    (hQ : ∀ h' tk F', SSt prog w d cells H D₀ σ₀ h₀ env (updAll xs ss ρ) F' σ D h' → (∀ z b, b ∈ F' z → b ∈ F z ∨ ∃ fp ∈ fps, b ∈ fp) → (∀ b o, b ≠ env.locals → (∀ z c, env.cells.lookup z = some c → b ≠ c) → s.heap.get? b = some o → h'.get? b = some o) → (∀ b o, s.heap.get? b = some o → ∃ o', h'.get? b = some o') → Q () { s with heap := h', toks := tk }) :
    wpAny (model prog w) A (if b then assignInOrder gs.reverse vs.reverse else assignInOrder gs vs) Q E s := by
  refine Classical.byContradiction fun hG => ?_
  obtain ⟨a1, a2, a3, a4, a5, a6⟩ := mkSto_facts xs ss vs fps gs svs hl hg
  refine hG ?_
  have hq : ∀ q ∈ mkSto xs ss vs fps gs, ownName nm q.1 = true ∧ SV prog w d D s.heap q.2.1 q.2.2.1 q.2.2.2.1 ∧ (∀ b ∈ q.2.2.2.1, Fresh d h₀ env D s.heap b) ∧ (∀ z b, b ∈ q.2.2.2.1 → b ∉ F z) ∧
      ∀ v (s : Shared) (Q : Unit → Shared → Prop) (E : Value → Shared → Prop), wpAny (model prog w) A (storeName env q.1 v) Q E s → wpAny (model prog w) A (q.2.2.2.2 v) Q E s := fun q hq => by
    refine Classical.byContradiction fun hG => ?_
    obtain ⟨b1, b2, b3, i, b4, b5⟩ := a6 q hq
    refine hG ?_
    exact ⟨List.all_eq_true.mp ow q.1 b1, b3, fun b hb => (fr _ b2 b hb).1, fun z b hb => (fr _ b2 b hb).2 z, st i _ _ b4 b5⟩
  have fin : ∀ z b (F' : Fp), (b ∈ F z ∨ ∃ q ∈ mkSto xs ss vs fps gs, b ∈ q.2.2.2.1) → b ∈ F z ∨ ∃ fp ∈ fps, b ∈ fp := fun z b _ h => by
    rcases h with h | ⟨q, hq, hb⟩
    · exact .inl h
    · exact .inr ⟨_, (a6 q hq).2.1, hb⟩
  cases b with
  | false =>
    simp only [Bool.false_eq_true, if_false]
    have := stores_ok X (mkSto xs ss vs fps gs) ρ F s Q E y hq (by rw [a3]; exact pw) fun h' tk F' y' f pr lv => hQ h' tk F' (by rw [a5] at y'; exact y') (fun z b hb => fin z b F' (f z b hb)) pr lv
    rw [a4, a2] at this; exact this
  | true =>
    simp only [if_true]
    have := stores_ok X (mkSto xs ss vs fps gs).reverse ρ F s Q E y (fun q h => hq q (List.mem_reverse.mp h)) (by
        rw [List.map_reverse, a3, List.pairwise_reverse]
        exact pw.imp fun h x hx hx' => h x hx' hx) fun h' tk F' y' f pr lv => hQ h' tk F' (by rw [fold_rev _ _ (by rw [a1]; exact nd), a5] at y'; exact y') (fun z b hb => fin z b F' (by
        rcases f z b hb with q | ⟨q, hq, hb⟩
        · exact .inl q
        · exact .inr ⟨q, List.mem_reverse.mp hq, hb⟩)) pr lv
    rw [List.map_reverse, List.map_reverse, a4, a2] at this; exact this

theorem filter_names {f : Expr → Option Str} (hf : ∀ e y, f e = some y → nameOfE e = some y) (ts : List Expr) : ∀ {xs : List Str}, namesOfE ts = some xs → (ts.filterMap f).length = ts.length → ts.filterMap f = xs := by
  induction ts with
  | nil => intro xs h _; cases h; rfl
  | cons t ts ih =>
    intro xs h hl
    refine Classical.byContradiction fun hG => ?_
    obtain ⟨x, r, h1, h2, rfl⟩ := names_cons h
    refine hG ?_
    rw [List.filterMap_cons] at hl ⊢
    cases e : f t with
    | none =>
      rw [e] at hl
      exact absurd (Nat.le_trans (Nat.le_of_eq hl.symm) (List.length_filterMap_le f ts)) (Nat.not_succ_le_self _)
    | some y =>
      rw [e] at hl
      cases h1.symm.trans (hf t y e)
      exact congrArg (x :: ·) (ih h2 (Nat.succ.inj hl))

theorem swapped_cases {ts es : List Expr} {k k2 : Nat} {tp vp : Pos} {xs : List Str} (hn : namesOfE ts = some xs) (hc : es.all (constantsAlone 8) = false) :
    swappedStores [.Tuple ts k tp] (.Tuple es k2 vp) env = pure none ∨ swappedStores [.Tuple ts k tp] (.Tuple es k2 vp) env = pure (some xs) := by
  unfold swappedStores
  dsimp only
  split
  · exact .inl rfl
  · split
    · exact .inl rfl
    · split
      · exact .inl rfl
      · rename_i hl
        split
        · exact .inl rfl
        · split
          · rename_i h; rw [hc] at h; cases h
          · right
            congr 2
            simp only [Bool.or_eq_true, bne_iff_ne, ne_eq, not_or, Classical.not_not] at hl
            refine filter_names (fun e y h => ?_) ts hn hl.1
            split at h
            · split at h
              · cases h; rfl
              · cases h
            · cases h

theorem evsO_len (es : List Expr) : ∀ {σ : Nat} {ss : List Slot} {σ' : Nat}, evsO T C n nm ρ es σ = some (ss, σ') → ss.length = es.length := by
  induction es with
  | nil => exact fun h => sp_e h fun e _ => e ▸ rfl
  | cons e es ih => exact fun h => bnd_e h fun p σ₁ _ h => bnd_e h fun ps' σ₂ h₂ h => sp_e h fun e _ => e ▸ congrArg (· + 1) (ih h₂)

theorem tupleAssign_ok (tab : TabOk prog w H T) (orc : OrcOk prog w d H T.cells C m) (X : EnvOk nm env) (hr : Room m A) {ts es : List Expr} {k k2 : Nat} {tp vp pos : Pos} {xs : List Str} {ss : List Slot} {σ σ' : Nat} {D : Fz} {F : Fp} {s : Shared} {Q : Flow → Shared → Prop} {E : Value → Shared → Prop}
    (y : SSt prog w d T.cells H D₀ σ₀ h₀ env ρ F σ D s.heap) (hn : namesOfE ts = some xs) (ow : xs.all (ownName nm) = true) (nd : xs.Nodup) (hl : xs.length = es.length) (hst : es.any isStarred = false) (hc : es.all (constantsAlone 8) = false) (hsm : es.length ≤ 10)
    (h : evsO T C n nm ρ es σ = some (ss, σ')) (hQ : ∀ F' D' h' tk, SSt prog w d T.cells H D₀ σ₀ h₀ env (updAll xs ss ρ) F' σ' D' h' → Kp d env F D s.heap F' D' h' → Q .next { s with heap := h', toks := tk }) :
    wpAny (model prog w) A (exec (.Assign [.Tuple ts k tp] (.Tuple es k2 vp) pos) env) Q E s := by
  have hsl := evsO_len es h
  -- the value's tuple, and then whatever way the stores go
  have value : ∀ (R : Value → Shared → Prop), (∀ t vs fps D2 h2 tk, Ok prog w d T.cells D σ s.heap D2 σ' h2 → IsTup h2 t vs.toArray → SVs prog w d D2 h2 ss vs fps → (∀ fp ∈ fps, ∀ b ∈ fp, NewIn d s.heap D2 h2 b) → fps.Pairwise (fun a b => ∀ x ∈ a, x ∉ b) → R (.ref t) { s with heap := h2, toks := tk }) →
      wpAny (model prog w) A (eval (.Tuple es k2 vp) env) R E s := fun R hR => by
    refine wpAny_Tuple (evsO_ok tab orc X hr E es σ ss σ' D s _ y.toRSt h hst fun vs fps D2 h2 tk ok svs fr pw => ⟨?_, ?_⟩)
    · rw [svs.lens.1, hsl, sizeLine_eq]; (with_reducible exact q_le ‹_› (by decide))
    · have g2 := y.gd.step ok
      have keep : ∀ b o, h2.get? b = some o → (h2.push (tupO vs 0)).get? b = some o := fun b o e => Heap.get?_push_of_some _ e
      refine hR _ vs fps D2 _ tk (ok.trans (Ok.grown g2 keep)) ⟨_, Heap.get?_push_size _ rfl, rfl, 0, rfl⟩ (svs.step (Fz.le.refl _) fun fp _ b _ o e => keep b o e) (fun fp hfp b hb => ?_) pw
      refine Classical.byContradiction fun hG => ?_
      obtain ⟨q1, q2, q3, ⟨o, q4⟩, q5⟩ := fr fp hfp b hb
      refine hG ?_
      exact ⟨q1, q2, q3, ⟨o, keep b o q4⟩, q5⟩
  -- the stores, from where the tuple lies unpacked
  have finish : ∀ (b : Bool) (gs : List (Value → Sem Unit)) (vs : List Value) (fps : List (List Addr)) (D2 : Fz) (h2 h3 : Heap) (tk : Nat), Ok prog w d T.cells D σ s.heap D2 σ' h2 → SVs prog w d D2 h2 ss vs fps →
      (∀ fp ∈ fps, ∀ b ∈ fp, NewIn d s.heap D2 h2 b) → fps.Pairwise (fun a b => ∀ x ∈ a, x ∉ b) → (∀ b o, h2.get? b = some o → h3.get? b = some o) → gs.length = xs.length →
      (∀ (i : Nat) (x : Str) (f : Value → Sem Unit), xs[i]? = some x → gs[i]? = some f → ∀ v (s : Shared) (Q : Unit → Shared → Prop) (E : Value → Shared → Prop), wpAny (model prog w) A (storeName env x v) Q E s → wpAny (model prog w) A (f v) Q E s) →
      wpAny (model prog w) A (if b then assignInOrder gs.reverse vs.reverse else assignInOrder gs vs) (fun _ => Q .next) E { s with heap := h3, toks := tk } := fun b gs vs fps D2 h2 h3 tk ok svs fr pw keep hg st => by
    have y2 := y.step ok
    have y3 := y2.grow keep
    have liveF : ∀ z b, b ∈ F z → ∃ o, s.heap.get? b = some o := fun z b hb => (y.own z b hb).2.2.2.2.2.1
    refine storeAll_ok (s := { s with heap := h3, toks := tk }) X b y3 (svs.step (Fz.le.refl _) fun fp _ b _ o e => keep b o e) (by rw [hl, hsl]) hg nd ow st (fun fp hfp b hb => ?_) pw fun h' tk' F' y' f pr lv => ?_
    · obtain ⟨q1, q2, q3, ⟨o, q4⟩, q5⟩ := fr fp hfp b hb
      refine ⟨⟨?_, q2, q3, fun e => ?_, fun z c e e' => ?_, ⟨o, keep b o q4⟩, q5⟩, fun z hz => ?_⟩
      · cases e : h₀.get? b with
        | none => rfl
        | some o => obtain ⟨o', q⟩ := y.ok.live e; rw [q1] at q; cases q
      · obtain ⟨mm, _, _, _, q, _⟩ := y.ns; rw [← e, q1] at q; cases q
      · obtain ⟨_, _, _, _, _, _, q, _⟩ := y.cel z c e; rw [← e', q1] at q; cases q
      · obtain ⟨o, q⟩ := liveF z b hz; rw [q1] at q; cases q
    · refine hQ F' D2 h' tk' y' (((Kp.of_ok ok).stores (fun b o _ _ e => keep b o e) (fun b o e => ⟨o, keep b o e⟩) fun z b hb => .inl hb).stores pr lv fun z b hb => ?_)
      rcases f z b hb with q | ⟨fp, hfp, q⟩
      · exact .inl q
      · exact .inr (fr fp hfp b q).1
  refine Classical.byContradiction fun hG => ?_
  obtain ⟨n1, n2, gs, n3, n4, n5⟩ := names_targets (env := env) ts hn
  refine hG ?_
  have hasg : (assignEach ts env).length = xs.length := by
    have := congrArg List.length n3; rw [List.length_map] at this; rw [this, n4]
  rcases swapped_cases (env := env) (k := k) (k2 := k2) (tp := tp) (vp := vp) hn hc with hw | hw
  · refine Assign_Tuple (value _ fun t vs fps D2 h2 tk ok ht svs fr pw => ?_) rfl hw
    refine assign_Tuple_tuple hr.hand ht (by rw [hasg, List.size_toArray, svs.lens.1, hsl, hl]) n2 fun h3 he => ?_
    rw [n3]
    have := finish false gs vs fps D2 h2 h3 tk ok svs fr pw (fun b o e => he b o (Nat.ne_of_lt (Heap.lt_size e)) e) n4 fun i x f e1 e2 v s Q E hh => by
      obtain ⟨p, rfl⟩ := n5 i x f e1 e2
      exact wpAny_assign_Name hh
    simpa using this
  · refine Assign_Tuple_swapped (value _ fun t vs fps D2 h2 tk ok ht svs fr pw => ?_) rfl hw
    have hz : xs.length = vs.toArray.size := by rw [List.size_toArray, svs.lens.1, hsl, hl]
    rw [hz]
    refine unpackItems_tuple hr.hand ht fun h3 he => ?_
    have := finish true (xs.map fun n => bindName env n) vs fps D2 h2 h3 tk ok svs fr pw (fun b o e => he b o (Nat.ne_of_lt (Heap.lt_size e)) e) (by simp) fun i x f e1 e2 v s Q E hh => by
      rw [List.getElem?_map, e1] at e2
      simp only [Option.map_some, Option.some.injEq] at e2
      subst e2
      exact wpAny_bindName hh
    rw [List.map_reverse]
    simpa using this
end
end Mine

/- part Stm5 -/
namespace Mine

section
variable {prog : Program} {w : World} {d : Addr} {H : Heap} {T : Tab} {C : Orc} {m n : Nat} {A : Around} {nm : NM} {env : Env} {ρ : Rho} {cells : List Int} {D₀ : Fz} {σ₀ : Nat} {h₀ : Heap}

theorem load_var {x : Str} {pos : Pos} {v : Value} {s : Shared} {Q : Value → Shared → Prop} {E : Value → Shared → Prop} (X : EnvOk nm env) (hb : badName x = false) (a : VarIs env s.heap x v) (h : Q v s) : wpAny (model prog w) A (eval (.Name x pos) env) Q E s := by
  unfold badName at hb
  simp only [Bool.or_eq_false_iff] at hb
  refine wpAny_Name ?_ hb.1
  rcases a with ⟨k, mm, hn, hv⟩ | ⟨k | k, c, l, hn⟩
  · exact wpAny_loadName_local X.kind k hn hv h
  · exact wpAny_loadName_cell X.kind k l hn h
  · exact wpAny_loadName_free X.kind k l hn h hb.2

/-- what a name owns changes, at one place -/
theorem SSt.own1 {F : Fp} {σ : Nat} {D : Fz} {h h' : Heap} {x : Str} {t : Addr} {sl' : Slot} {fp' : List Addr} {v : Value} (y : SSt prog w d cells H D₀ σ₀ h₀ env ρ F σ D h) (ht : t ∈ F x) (hs : ∀ b o, b ≠ t → h.get? b = some o → h'.get? b = some o) (lt : ∃ o, h'.get? t = some o)
    (hv : VarIs env h x v) (sv : SV prog w d D h' sl' v fp') (hfp : ∀ b ∈ fp', b ∈ F x) : SSt prog w d cells H D₀ σ₀ h₀ env (upd ρ x sl') (setF F x fp') σ D h' ∧ Kp d env F D h (setF F x fp') D h' := by
  refine Classical.byContradiction fun hG => ?_
  obtain ⟨t0, tD, td, tL, tc, _, _⟩ := y.own x t ht
  refine hG ?_
  have sub : ∀ z b, b ∈ setF F x fp' z → b ∈ F z := fun z b hb => by
    unfold setF at hb
    split at hb
    · rename_i q; subst q; exact hfp b hb
    · exact hb
  have lv : ∀ b o, h.get? b = some o → ∃ o', h'.get? b = some o' := fun b o e => cellLive hs lt e
  have var : ∀ z u, VarIs env h z u → VarIs env h' z u := fun z u a => by
    rcases a with ⟨k, m, n, q⟩ | ⟨k, c, l, o, ho, hd⟩
    · exact .inl ⟨k, m, n.at' fun o e => hs _ o (Ne.symm tL) e, q⟩
    · exact .inr ⟨k, c, l, o, hs c o (Ne.symm (tc z c l)) ho, hd⟩
  refine ⟨y.wr hs t0 td tD (let ⟨mm, n⟩ := y.ns; ⟨mm, n.at' fun o e => hs _ o (Ne.symm tL) e⟩) (fun z c e => let ⟨_, _, _, _, v₀, o, q, q'⟩ := y.cel z c e; ⟨v₀, o, hs c o (Ne.symm (tc z c e)) q, q'⟩) (fun z b hb => ?_) (fun a b c h1 h2 => y.disj a b c (sub a c h1) (sub b c h2)) (fun z s' e => ?_) (fun z e => ?_),
    ⟨fun b o _ _ _ n e => hs b o (fun q => n x (q ▸ ht)) e, Fz.le.refl D, fun _ _ _ _ => rfl, fun z b hb => .inl ⟨z, sub z b hb⟩, lv⟩⟩
  · obtain ⟨q1, q2, q3, q4, q5, ⟨o, q6⟩, q7⟩ := y.own z b (sub z b hb)
    exact ⟨q1, q2, q3, q4, q5, lv b o q6, q7⟩
  · unfold upd at e
    by_cases q : z = x
    · subst q
      simp only [beq_self_eq_true, if_true, Option.some.injEq] at e
      subst e
      refine ⟨v, var z v hv, ?_⟩
      have : setF F z fp' z = fp' := by unfold setF; rw [if_pos rfl]
      rw [this]; exact sv
    · rw [if_neg (by simpa using q)] at e
      refine Classical.byContradiction fun hG => ?_
      obtain ⟨v', a, b⟩ := y.slot z s' e
      refine hG ?_
      have : setF F x fp' z = F z := by unfold setF; rw [if_neg q]
      rw [this]
      exact ⟨v', var z v' a, b.step (Fz.le.refl D) fun b hb o e => hs b o (fun q' => q (y.disj z x b hb (q' ▸ ht))) e⟩
  · unfold upd at e; unfold setF
    by_cases q : z = x
    · subst q; simp at e
    · rw [if_neg (by simpa using q)] at e; rw [if_neg q]; exact y.emp z e

theorem frz_same {f : Str → Bool} {x : Str} (h : f x = false) : frz f ρ x = ρ x := by unfold frz; rw [h]; simp
theorem frzF_same {f : Str → Bool} {F : Fp} {x : Str} (h : f x = false) : frzF f F x = F x := by unfold frzF; rw [h]; simp

/-- the variable is what it was: one value alone -/
theorem VarIs.agree {h : Heap} {x : Str} {u v : Value} (a : VarIs env h x u) (b : VarIs env h x v) : u = v := by
  rcases a with ⟨k, m, n, e⟩ | ⟨k, c, l, o, ho, hd⟩
  · rcases b with ⟨_, m', n', e'⟩ | ⟨k', _⟩
    · have := n.agree n' x; rw [e, e'] at this; exact Option.some.inj this
    · rcases k' with k' | k' <;> rw [k] at k' <;> cases k'
  · rcases b with ⟨k', _⟩ | ⟨_, c', l', o', ho', hd'⟩
    · rcases k with k | k <;> rw [k'] at k <;> cases k
    · rw [l] at l'; cases l'
      rw [ho] at ho'; cases ho'
      rw [hd] at hd'; cases hd'; rfl

theorem append_ok (tab : TabOk prog w H T) (orc : OrcOk prog w d H T.cells C m) (X : EnvOk nm env) (hr : Room m A) {x mth : Str} {xp apos pos spos : Pos} {e : Expr} {l : List PV} {p : PV} {σ σ' : Nat} {D : Fz} {F : Fp} {s : Shared} {Q : Flow → Shared → Prop} {E : Value → Shared → Prop}
    (y : SSt prog w d T.cells H D₀ σ₀ h₀ env ρ F σ D s.heap) (hm : mth = ("append" : Str)) (hst : isStarred e = false) (hrd : reads e x = false) (hb : badName x = false) (hline : (apos.endLine == pos.line) = true) (hx : ρ x = some (.lst l)) (hsm : small l.length = true)
    (h : ev T C n nm (frz (reads e) ρ) e σ = some (p, σ')) (hQ : ∀ F' D' h' tk, SSt prog w d T.cells H D₀ σ₀ h₀ env (upd (frz (reads e) ρ) x (.lst (l ++ [p]))) F' σ' D' h' → Kp d env F D s.heap F' D' h' → Q .next { s with heap := h', toks := tk }) :
    wpAny (model prog w) A (exec (.Expr (.Call (.Attribute (.Name x xp) mth apos) [e] [] pos) spos) env) Q E s := by
  subst hm
  refine Classical.byContradiction fun hG => ?_
  obtain ⟨hE, hT, hI⟩ := ev_all tab orc n
  obtain ⟨y1, k1⟩ := y.frz (reads e)
  obtain ⟨v, va, sv⟩ := y.slot x _ hx
  obtain ⟨a, vs, c, rfl, hF, ha, hv⟩ := sv
  refine hG ?_
  refine wpAny_Expr_any (methodCall_ok rfl (by simp [hst]) (by simp) hline (load_var X hb va ?_)) (by unfold interactive; rw [X.kind]; rfl) rfl
  refine getMethod_builtin (T := "list") ⟨_, ha, rfl⟩ PySem.F.plainAttrs_list PySem.F.slot_list_append PySem.F.type_list_append (fun b e => by cases e; exact ⟨_, ha, rfl⟩) ?_
  refine callw_ok (ps := [p]) hE X hr (fun h _ => keep_builtin h) y1.toRSt (bnd_to h (bnd_to rfl rfl)) (by simp [hst]) fun us D2 h2 tk2 ok vrs => ?_
  refine Classical.byContradiction fun hG => ?_
  obtain ⟨u, _, rfl, vr, rfl⟩ := vrs
  have y2 := y1.step ok
  have hx1 : frz (reads e) ρ x = some (.lst l) := (frz_same hrd).trans hx
  have hF1 : frzF (reads e) F x = [a] := (frzF_same hrd).trans hF
  obtain ⟨v2, va2, sv2⟩ := y2.slot x _ hx1
  obtain ⟨a2, vs2, c2, rfl, hF2, ha2, hv2⟩ := sv2
  refine hG ?_
  have : a2 = a := by rw [hF1] at hF2; simpa using hF2.symm
  subst this
  have hl2 := hv2.length
  refine append_at ha2 (fun h3 hs3 ho3 => ?_) (by rw [List.size_toArray, hl2]; exact small_le hsm)
  obtain ⟨y3, k3⟩ := y2.own1 (x := x) (t := a2) (sl' := .lst (l ++ [p])) (fp' := [a2]) (by rw [hF1]; exact .head _) hs3.extBut ⟨_, ho3⟩ va2 ⟨a2, vs2 ++ [u], c2 + 1, rfl, rfl, by rw [ho3]; simp, hv2.append (VRs.cons vr VRs.nil)⟩ (fun b hb => by rw [hF1]; exact hb)
  exact hQ _ D2 h3 tk2 y3 ((k1.trans (Kp.of_ok ok)).trans k3)

theorem setdefault_pairs {K : Type} [DecidableEq K] {knd : KeyKind prog w K} {a : Addr} {kvs : List (K × Value)} {k : K} {key dflt : Value} {s : Shared} {Q : Value → Shared → Prop} {E : Value → Shared → Prop} (hkey : knd.is k key = true) (hm : s.heap.DictOf knd a kvs)
    (hthere : ∀ v, valueAt kvs k = some v → Q v { s with toks := s.toks + 1 })
    (hnew : valueAt kvs k = none → ∀ h', h'.DictOf knd a (kvs ++ [(k, dflt)]) → Heap.SameBut a s.heap h' → Q dflt { s with heap := h', toks := s.toks + 1 }) (hsz : kvs.length ≤ sizeLine) :
    wpAny (model prog w) A (dictSetDefault a key dflt) Q E s :=
  kt_dictSetDefault_pairs hkey hm hthere (fun hv h' hd => hnew hv h' (by
    have hne : kvs.any (fun kv => decide (kv.1 = k)) = false := by rw [← valueAt_isSome_eq_any, hv]; rfl
    unfold stored at hd
    rw [hne] at hd
    exact hd)) hsz

end
end Mine

/- part Stm6 -/
namespace Mine

section
variable {prog : Program} {w : World} {d : Addr} {H : Heap} {T : Tab} {C : Orc} {m n : Nat} {A : Around} {nm : NM} {env : Env} {ρ : Rho} {cells : List Int} {D₀ : Fz} {σ₀ : Nat} {h₀ : Heap}

theorem tf {P : Prop} (h : true = false) : P := nomatch h
theorem swaps_plain {e : Expr} {t : Option Expr} {l : Nat} (h : isCompE e = false) : swapsWith e t l env = pure false := by
  cases e <;> first | rfl | exact tf h

/-- tape[..] = .. -/
theorem tapeSet_ok (tab : TabOk prog w H T) (orc : OrcOk prog w d H T.cells C m) (X : EnvOk nm env) (hr : Room m A) {x k : Str} {xp sp pos : Pos} {i e : Expr} {j : Int} {σ σ₁ σ₂ : Nat} {D : Fz} {F : Fp} {s : Shared} {Q : Flow → Shared → Prop} {E : Value → Shared → Prop}
    (y : SSt prog w d T.cells H D₀ σ₀ h₀ env ρ F σ D s.heap) (hc : isCompE e = false) (hb : badName x = false) (h : ev T C n nm (frz (reads e) ρ) e σ = some (.int j, σ₁)) (hx : frz (reads e) ρ x = some (.val .tape))
    (hi : ev T C n nm (frz (reads e) ρ) i σ₁ = some (.str k, σ₂)) (hk : k = ("spot" : Str)) (hj : 0 ≤ j)
    (hQ : ∀ F' D' h' tk, SSt prog w d T.cells H D₀ σ₀ h₀ env (frz (reads e) ρ) F' j.toNat D' h' → Kp d env F D s.heap F' D' h' → Q .next { s with heap := h', toks := tk }) :
    wpAny (model prog w) A (exec (.Assign [.Subscript (.Name x xp) i sp] e pos) env) Q E s := by
  subst hk
  refine Classical.byContradiction fun hG => ?_
  obtain ⟨hE, hT, hI⟩ := ev_all tab orc n
  obtain ⟨y1, k1⟩ := y.frz (reads e)
  refine hG ?_
  refine wpAny_Assign_Subscript (hE nm env _ e σ _ σ₁ _ s A _ E X y1.toRSt hr h fun u D2 h2 tk2 ok2 vr => ?_) (swaps_plain hc)
  have y2 := y1.step ok2
  refine Classical.byContradiction fun hG => ?_
  obtain ⟨v, va, sv⟩ := y2.slot x _ hx
  refine hG ?_
  have hvd : v = .ref d := by have := sv.1; simp only [VR] at this; exact this
  subst hvd
  refine load_var X hb va ?_
  refine hE nm env _ i σ₁ _ σ₂ D2 _ A _ E X y2.toRSt hr hi fun iv D3 h3 tk3 ok3 vri => ?_
  have y3 := y2.step ok3
  refine Classical.byContradiction fun hG => ?_
  obtain ⟨t, rfl⟩ := vr
  obtain ⟨t', rfl⟩ := vri
  obtain ⟨cl, tt, hd, hcl⟩ := y3.gd.tape
  refine hG ?_
  refine wpAny_setItem_pairs (knd := PySem.strKind prog w) (k := ("spot" : Str)) (by simp [PySem.strKind, Value.isStrOf]) hd (fun h4 hd4 hs4 => ?_) (by simp [sizeLine_eq])
  have ok4 : Ok prog w d T.cells D3 σ₂ h3 D3 j.toNat h4 := ⟨fun b o nb eb => hs4.extBut b o nb eb, Fz.le.refl _, fun _ _ _ => rfl, fun b o eb => hs4.extBut b o (by rintro rfl; rw [y3.gd.dn] at eb; cases eb) (y3.gd.on b o eb), cl, t, by
    have e1 : stored [(("cells" : Str), cl), (("spot" : Str), Value.int (↑σ₂) tt)] ("spot" : Str) (Value.int j t) = [(("cells" : Str), cl), (("spot" : Str), Value.int (↑j.toNat) t)] := by
      have h1 : ¬ ((("cells" : Str) : Str) = (("spot" : Str) : Str)) := by decide
      simp [stored, h1, Int.toNat_of_nonneg hj]
    rw [e1] at hd4; exact hd4, hcl⟩
  exact hQ _ D3 h4 _ (y3.step ok4) (((k1.trans (Kp.of_ok ok2)).trans (Kp.of_ok ok3)).trans (Kp.of_ok ok4))

theorem stored_zip {K : Type} [DecidableEq K] {D : Fz} {k : K} {p : PV} {u : Value} (hu : VR prog w d D p u) : ∀ {ks : List K} {vs : List PV} {vals : List Value}, ks.length = vals.length → VRs prog w d D vs vals →
    ∃ vals', stored (ks.zip vals) k u = (putK k p ks vs).1.zip vals' ∧ (putK k p ks vs).1.length = vals'.length ∧ VRs prog w d D (putK k p ks vs).2 vals' := by
  intro ks vs vals hl hv
  have hvl := hv.length
  by_cases hm : k ∈ ks
  · have hany : ((ks.zip vals).any fun kv => decide (kv.1 = k)) = true := by
      rw [List.any_eq_true]
      refine Classical.byContradiction fun hG => ?_
      obtain ⟨i, hi, e⟩ := List.getElem_of_mem hm
      refine hG ?_
      exact ⟨(ks[i], vals[i]'(by (with_reducible exact Nat.lt_of_lt_of_le ‹_› (Nat.le_of_eq ‹_›)))), by rw [← List.getElem_zip (h := by simp; (with_reducible exact q_mn ‹_› ‹_› ‹_›))]; exact List.getElem_mem _, by simpa using e⟩
    have hrep : ∀ (ks : List K) (vs : List PV) (vals : List Value), ks.length = vals.length → VRs prog w d D vs vals → ∃ vals', (ks.zip vals).map (fun kv => if kv.1 = k then (kv.1, u) else kv) = ks.zip vals' ∧ ks.length = vals'.length ∧ VRs prog w d D (repl k p ks vs) vals' := by
      intro ks
      induction ks with
      | nil =>
        intro vs vals hl hv
        have : vals = [] := List.length_eq_zero_iff.mp hl.symm
        subst this
        have : vs = [] := List.length_eq_zero_iff.mp (by simpa using hv.length.symm)
        subst this
        exact ⟨[], rfl, rfl, VRs.nil⟩
      | cons k' ks ih =>
        intro vs vals hl hv
        cases vals with
        | nil => simp at hl
        | cons v vals =>
          cases vs with
          | nil => have := hv.length; simp at this
          | cons q vs =>
            refine Classical.byContradiction fun hG => ?_
            obtain ⟨h1, h2⟩ := hv.cons_inv
            obtain ⟨vals', e1, e2, e3⟩ := ih vs vals (by simpa using hl) h2
            refine hG ?_
            by_cases hk : k' = k
            · exact ⟨u :: vals', by simp [hk, e1], by simp [e2], by simp only [repl, hk, if_true]; exact VRs.cons hu e3⟩
            · exact ⟨v :: vals', by simp [hk, e1], by simp [e2], by simp only [repl, hk, if_false]; exact VRs.cons h1 e3⟩
    refine Classical.byContradiction fun hG => ?_
    obtain ⟨vals', e1, e2, e3⟩ := hrep ks vs vals hl hv
    refine hG ?_
    have hp : putK k p ks vs = (ks, repl k p ks vs) := by unfold putK memb; rw [if_pos (by simpa using hm)]
    rw [hp]
    refine ⟨vals', ?_, e2, e3⟩
    rw [← e1]
    unfold stored
    rw [if_pos hany]
  · have hany : ¬ ((ks.zip vals).any fun kv => decide (kv.1 = k)) = true := by
      rw [List.any_eq_true]
      rintro ⟨kv, hkv, e⟩
      exact hm (of_decide_eq_true e ▸ (List.of_mem_zip hkv).1)
    have hp : putK k p ks vs = (ks ++ [k], vs ++ [p]) := by unfold putK memb; rw [if_neg (by simpa using hm)]
    rw [hp]
    refine ⟨vals ++ [u], ?_, by simp [hl], hv.append (VRs.cons hu VRs.nil)⟩
    unfold stored
    rw [if_neg hany]
    show _ = (ks ++ [k]).zip (vals ++ [u])
    rw [List.zip_append hl]; rfl

/-- an own dict: d[..] = .. -/
theorem dctSet_ok (tab : TabOk prog w H T) (orc : OrcOk prog w d H T.cells C m) (X : EnvOk nm env) (hr : Room m A) {x k : Str} {xp sp pos : Pos} {i e : Expr} {p : PV} {ks : List Str} {vs : List PV} {σ σ₁ σ₂ : Nat} {D : Fz} {F : Fp} {s : Shared} {Q : Flow → Shared → Prop} {E : Value → Shared → Prop}
    (y : SSt prog w d T.cells H D₀ σ₀ h₀ env ρ F σ D s.heap) (hc : isCompE e = false) (hb : badName x = false) (hrd : reads i x = false) (hsm : small ks.length = true) (h : ev T C n nm (frz (reads e) ρ) e σ = some (p, σ₁)) (hx : frz (reads e) ρ x = some (.dct ks vs))
    (hi : ev T C n nm (frz (reads i) (frz (reads e) ρ)) i σ₁ = some (.str k, σ₂))
    (hQ : ∀ F' D' h' tk, SSt prog w d T.cells H D₀ σ₀ h₀ env (upd (frz (reads i) (frz (reads e) ρ)) x (.dct (putK k p ks vs).1 (putK k p ks vs).2)) F' σ₂ D' h' → Kp d env F D s.heap F' D' h' → Q .next { s with heap := h', toks := tk }) :
    wpAny (model prog w) A (exec (.Assign [.Subscript (.Name x xp) i sp] e pos) env) Q E s := by
  refine Classical.byContradiction fun hG => ?_
  obtain ⟨hE, hT, hI⟩ := ev_all tab orc n
  obtain ⟨y1, k1⟩ := y.frz (reads e)
  refine hG ?_
  refine wpAny_Assign_Subscript (hE nm env _ e σ _ σ₁ _ s A _ E X y1.toRSt hr h fun u D2 h2 tk2 ok2 vr => ?_) (swaps_plain hc)
  have y2 := y1.step ok2
  refine Classical.byContradiction fun hG => ?_
  obtain ⟨v, va, sv⟩ := y2.slot x _ hx
  obtain ⟨a, vals, rfl, hF, hd, hl, hv⟩ := sv
  refine hG ?_
  refine load_var X hb va ?_
  obtain ⟨y3, k3⟩ := y2.frz (reads i)
  refine hE nm env _ i σ₁ _ σ₂ _ _ A _ E X y3.toRSt hr hi fun iv D4 h4 tk4 ok4 vri => ?_
  have y4 := y3.step ok4
  refine Classical.byContradiction fun hG => ?_
  obtain ⟨t', rfl⟩ := vri
  obtain ⟨v4, va4, sv4⟩ := y4.slot x _ ((frz_same hrd).trans hx)
  obtain ⟨a4, vals4, rfl, hF4, hd4, hl4, hv4⟩ := sv4
  have : a4 = a := by rw [frzF_same hrd, hF] at hF4; simpa using hF4.symm
  subst this
  have vr4 := vr.mono (k3.le.trans ok4.le)
  obtain ⟨vals', e1, e2, e3⟩ := stored_zip vr4 (k := k) hl4 hv4
  refine hG ?_
  refine wpAny_setItem_pairs (knd := PySem.strKind prog w) (k := k) (by simp [PySem.strKind, Value.isStrOf]) hd4 (fun h5 hd5 hs5 => ?_) (by rw [List.length_zip, ← hl4, Nat.min_self]; exact small_le hsm)
  have hd5' := hd5
  refine Classical.byContradiction fun hG => ?_
  obtain ⟨o5, _, _, q5, _⟩ := hd5'
  obtain ⟨y5, k5⟩ := y4.own1 (x := x) (t := a4) (sl' := .dct (putK k p ks vs).1 (putK k p ks vs).2) (fp' := [a4]) (by rw [hF4]; exact .head _) hs5.extBut ⟨o5, q5⟩ va4 ⟨a4, vals', rfl, rfl, by rw [← e1]; exact hd5, e2, e3⟩ (fun b hb => by rw [hF4]; exact hb)
  refine hG ?_
  exact hQ _ D4 h5 _ y5 ((((k1.trans (Kp.of_ok ok2)).trans k3).trans (Kp.of_ok ok4)).trans k5)
end
end Mine

/- part Stm7 -/
namespace Mine

noncomputable def mmGet (i : Int) (ks : List Int) (ls : List (List PV)) : List Int × List (List PV) := if memb i ks then (ks, ls) else (ks ++ [i], ls ++ [[]])

theorem mmAdd_none {i : Int} {p : PV} : ∀ {ks : List Int} {ls : List (List PV)}, ls.length = ks.length → i ∉ ks → mmAdd i p ks ls = ls
  | [], [], _, _ => rfl
  | k :: ks, l :: ls, h, hm => by
    simp only [List.mem_cons, not_or] at hm
    simp only [mmAdd, if_neg (Ne.symm hm.1), mmAdd_none (by simpa using h) hm.2]
  | [], _ :: _, h, _ => by simp at h
  | _ :: _, [], h, _ => by simp at h
theorem mmAdd_append {i : Int} {p : PV} {l : List PV} {k : Int} : ∀ {ks : List Int} {ls : List (List PV)}, ls.length = ks.length → mmAdd i p (ks ++ [k]) (ls ++ [l]) = mmAdd i p ks ls ++ [if k = i then l ++ [p] else l]
  | [], [], _ => rfl
  | k :: ks, l :: ls, h => by
    simp only [List.cons_append, mmAdd, mmAdd_append (ks := ks) (ls := ls) (by simpa using h)]
  | [], _ :: _, h => by simp at h
  | _ :: _, [], h => by simp at h
theorem mmPut_eq {i : Int} {p : PV} {ks : List Int} {ls : List (List PV)} (hl : ls.length = ks.length) : mmPut i p ks ls = ((mmGet i ks ls).1, mmAdd i p (mmGet i ks ls).1 (mmGet i ks ls).2) := by
  unfold mmPut mmGet
  by_cases h : memb i ks = true
  · rw [if_pos h, if_pos h]
  · rw [if_neg h, if_neg h, mmAdd_append hl, mmAdd_none hl (by simpa [memb] using h)]; simp
theorem mmAdd_len {i : Int} {p : PV} : ∀ {ks : List Int} {ls : List (List PV)}, ls.length = ks.length → (mmAdd i p ks ls).length = ks.length
  | [], [], _ => rfl
  | k :: ks, l :: ls, h => by simp only [mmAdd, List.length_cons, mmAdd_len (ks := ks) (ls := ls) (by simpa using h)]
  | [], _ :: _, h => by simp at h
  | _ :: _, [], h => by simp at h
theorem mmAdd_get {i : Int} {p : PV} {q : List PV} : ∀ {ks : List Int} {ls : List (List PV)} {j : Nat}, (mmAdd i p ks ls)[j]? = some q → ∃ k l, ks[j]? = some k ∧ ls[j]? = some l ∧ q = if k = i then l ++ [p] else l
  | [], ls, j, h => by simp [mmAdd] at h
  | k :: ks, [], j, h => by simp [mmAdd] at h
  | k :: ks, l :: ls, 0, h => by simp only [mmAdd, List.getElem?_cons_zero, Option.some.injEq] at h; exact ⟨k, l, rfl, rfl, h.symm⟩
  | k :: ks, l :: ls, j + 1, h => by
    simp only [mmAdd, List.getElem?_cons_succ] at h
    refine Classical.byContradiction fun hG => ?_
    obtain ⟨k', l', a, b, c⟩ := mmAdd_get h
    refine hG ?_
    exact ⟨k', l', by simpa using a, by simpa using b, c⟩

theorem upd_self {ρ : Rho} {x : Str} {s : Slot} : upd ρ x s x = some s := by unfold upd; simp
theorem upd_ne {ρ : Rho} {x z : Str} {s : Slot} (h : z ≠ x) : upd ρ x s z = ρ z := by unfold upd; rw [if_neg (by simpa using h)]
theorem frz_at {ρ ρ' : Rho} {f : Str → Bool} {z : Str} (h : ρ z = ρ' z) : frz f ρ z = frz f ρ' z := by unfold frz; rw [h]

section
variable {prog : Program} {w : World} {d : Addr} {H : Heap} {T : Tab} {C : Orc} {m n : Nat} {A : Around} {nm : NM} {env : Env} {ρ : Rho} {cells : List Int} {D₀ : Fz} {σ₀ : Nat} {h₀ : Heap}

/-- a new key with a new list -/
theorem SSt.sdef {F : Fp} {σ : Nat} {D : Fz} {h h4 : Heap} {x : Str} {ks : List Int} {ls : List (List PV)} {a : Addr} {as : List Addr} {i : Int} (y : SSt prog w d cells H D₀ σ₀ h₀ env ρ F σ D h) (va : VarIs env h x (.ref a)) (hF : F x = a :: as) (nd : (a :: as).Nodup)
    (l1 : ks.length = as.length) (l2 : ls.length = as.length) (hr : ∀ (i : Nat) (b : Addr) (l : List PV), as[i]? = some b → ls[i]? = some l → ∃ vs c, h.get? b = some (lstO vs c) ∧ VRs prog w d D l vs)
    (hd : h4.DictOf (intKind prog w) a ((ks ++ [i]).zip ((as ++ [h.objs.size]).map .ref))) (hs : Heap.SameBut a (h.push (lstO [] 0)) h4) :
    SSt prog w d cells H D₀ σ₀ h₀ env (upd ρ x (.mm (ks ++ [i]) (ls ++ [[]]))) (setF F x (a :: (as ++ [h.objs.size]))) σ D h4 ∧ Kp d env F D h (setF F x (a :: (as ++ [h.objs.size]))) D h4 := by
  have keep : ∀ b o, h.get? b = some o → (h.push (lstO [] 0)).get? b = some o := fun b o e => Heap.get?_push_of_some _ e
  have y3 := y.grow keep
  have ha : a ∈ F x := by rw [hF]; exact .head _
  refine Classical.byContradiction fun hG => ?_
  obtain ⟨t0, tD, td, tL, tc, _, _⟩ := y.own x a ha
  refine hG ?_
  have hL : (h.push (lstO [] 0)).get? h.objs.size = some (lstO [] 0) := Heap.get?_push_size _ rfl
  have free : h.get? h.objs.size = none := get?_ge (Nat.le_refl _)
  have hs' := hs.extBut
  have lt : ∃ o, h4.get? a = some o := by obtain ⟨o, _, _, q, _⟩ := hd; exact ⟨o, q⟩
  have live : ∀ z b, b ∈ F z → b ≠ h.objs.size := fun z b hb e => by obtain ⟨o, q⟩ := (y.own z b hb).2.2.2.2.2.1; rw [e, free] at q; cases q
  have haL : a ≠ h.objs.size := live x a ha
  have L0 : h₀.get? h.objs.size = none := by
    cases e : h₀.get? h.objs.size with
    | none => rfl
    | some o => obtain ⟨o', q⟩ := y.ok.live e; rw [free] at q; cases q
  have frL : Fresh d h₀ env D h4 h.objs.size := by
    refine ⟨L0, y.gd.free free, Nat.ne_of_gt y.gd.tape.lt, fun e => ?_, fun z c e e' => ?_, ⟨_, hs' _ _ (Ne.symm haL) hL⟩, y.gd.other (Nat.le_refl _)⟩
    · obtain ⟨mm, _, _, _, q, _⟩ := y.ns; rw [← e, free] at q; cases q
    · obtain ⟨_, _, _, _, _, _, q, _⟩ := y.cel z c e; rw [← e', free] at q; cases q
  have sub : ∀ z b, b ∈ setF F x (a :: (as ++ [h.objs.size])) z → b ∈ F z ∨ (z = x ∧ b = h.objs.size) := fun z b hb => by
    unfold setF at hb
    split at hb
    · rename_i q; subst q
      rw [hF]
      simp only [List.mem_cons, List.mem_append, List.not_mem_nil, or_false] at hb ⊢
      rcases hb with hb | hb | hb
      · exact .inl (.inl hb)
      · exact .inl (.inr hb)
      · exact .inr ⟨trivial, hb⟩
    · exact .inl hb
  have var : ∀ z u, VarIs env h z u → VarIs env h4 z u := fun z u q => by
    rcases q with ⟨k, m, n, q⟩ | ⟨k, c, l, o, ho, hd⟩
    · exact .inl ⟨k, m, n.at' fun o e => hs' _ o (Ne.symm tL) (keep _ o e), q⟩
    · exact .inr ⟨k, c, l, o, hs' c o (Ne.symm (tc z c l)) (keep _ o ho), hd⟩
  have nL : h.objs.size ∉ as := fun hb => live x _ (by rw [hF]; exact .tail _ hb) rfl
  have nd2 : (a :: (as ++ [h.objs.size])).Nodup := by
    have := List.nodup_cons.mp nd
    refine List.nodup_cons.mpr ⟨fun hb => ?_, ?_⟩
    · rcases List.mem_append.mp hb with hb | hb
      · exact this.1 hb
      · exact haL (List.mem_singleton.mp hb)
    · refine List.nodup_append.mpr ⟨this.2, by simp, fun b hb c hc e => ?_⟩
      rw [List.mem_singleton.mp hc] at e; exact nL (e ▸ hb)
  refine ⟨y3.wr hs' t0 td tD (let ⟨mm, n⟩ := y3.ns; ⟨mm, n.at' fun o e => hs' _ o (Ne.symm tL) e⟩) (fun z c e => let ⟨_, _, _, _, v₀, o, q, q'⟩ := y3.cel z c e; ⟨v₀, o, hs' c o (Ne.symm (tc z c e)) q, q'⟩) (fun z b hb => ?_) (fun z1 z2 b h1 h2 => ?_) (fun z s' e => ?_) (fun z e => ?_), ⟨fun b o _ _ _ n e => hs' b o (fun q => n x (q ▸ ha)) (keep b o e), Fz.le.refl D, fun _ _ _ _ => rfl, fun z b hb => ?_, fun b o e => cellLive hs' lt (keep b o e)⟩⟩
  · rcases sub z b hb with q | ⟨_, q⟩
    · obtain ⟨q1, q2, q3, q4, q5, ⟨o, q6⟩, q7⟩ := y3.own z b q
      exact ⟨q1, q2, q3, q4, q5, cellLive hs' lt q6, q7⟩
    · subst q; exact frL
  · rcases sub z1 b h1 with q | ⟨q, e⟩ <;> rcases sub z2 b h2 with q' | ⟨q', e'⟩
    · exact y.disj z1 z2 b q q'
    · exact absurd e' (live z1 b q)
    · exact absurd e (live z2 b q')
    · rw [q, q']
  · unfold upd at e
    by_cases q : z = x
    · subst q
      simp only [beq_self_eq_true, if_true, Option.some.injEq] at e
      subst e
      refine ⟨.ref a, var z _ va, ?_⟩
      have : setF F z (a :: (as ++ [h.objs.size])) z = a :: (as ++ [h.objs.size]) := by unfold setF; rw [if_pos rfl]
      rw [this]
      refine ⟨a, as ++ [h.objs.size], rfl, rfl, nd2, hd, by simp [l1], by simp [l2], fun j b l e1 e2 => ?_⟩
      rcases Nat.lt_trichotomy j as.length with q | q | q
      · rw [List.getElem?_append_left q] at e1
        rw [List.getElem?_append_left (by (with_reducible exact Nat.lt_of_lt_of_le ‹_› (Nat.le_of_eq (‹_ = _›).symm)))] at e2
        refine Classical.byContradiction fun hG => ?_
        obtain ⟨vs, c, r1, r2⟩ := hr j b l e1 e2
        refine hG ?_
        exact ⟨vs, c, hs' b _ (fun e => (List.nodup_cons.mp nd).1 (e ▸ List.mem_of_getElem? e1)) (keep b _ r1), r2⟩
      · rw [List.getElem?_append_right (by (with_reducible exact q_el' ‹_›)), q] at e1
        rw [List.getElem?_append_right (by exact Nat.le_of_eq (l2.trans q.symm)), show j - ls.length = 0 by exact Nat.sub_eq_zero_of_le (Nat.le_of_eq (q.trans l2.symm))] at e2
        simp at e1 e2
        subst e1 e2
        exact ⟨[], 0, hs' _ _ (Ne.symm haL) hL, VRs.nil⟩
      · rw [List.getElem?_eq_none (by simp; (with_reducible exact Nat.succ_le_of_lt ‹_›))] at e1; cases e1
    · rw [if_neg (by simpa using q)] at e
      refine Classical.byContradiction fun hG => ?_
      obtain ⟨v', a', b⟩ := y.slot z s' e
      refine hG ?_
      have : setF F x (a :: (as ++ [h.objs.size])) z = F z := by unfold setF; rw [if_neg q]
      rw [this]
      exact ⟨v', var z v' a', b.step (Fz.le.refl D) fun b hb o e => hs' b o (fun q' => q (y.disj z x b hb (q' ▸ ha))) (keep b o e)⟩
  · unfold upd at e; unfold setF
    by_cases q : z = x
    · subst q; simp at e
    · rw [if_neg (by simpa using q)] at e; rw [if_neg q]; exact y.emp z e
  · rcases sub z b hb with q | ⟨_, q⟩
    · exact .inl ⟨z, q⟩
    · exact .inr (q ▸ free)

theorem valueAt_place {i : Int} {v : Value} : ∀ {ks : List Int} {as : List Addr}, valueAt (ks.zip (as.map Value.ref)) i = some v → ∃ (j : Nat) (b : Addr), ks[j]? = some i ∧ as[j]? = some b ∧ v = .ref b
  | [], as, h => by simp [valueAt] at h
  | k :: ks, [], h => by simp [valueAt] at h
  | k :: ks, a :: as, h => by
    simp only [valueAt, List.map_cons, List.zip_cons_cons, List.find?_cons] at h
    by_cases e : k = i
    · subst e
      simp at h
      exact ⟨0, a, rfl, rfl, h.symm⟩
    · simp only [e, decide_false] at h
      refine Classical.byContradiction fun hG => ?_
      obtain ⟨j, b, r1, r2, r3⟩ := valueAt_place (i := i) (v := v) (ks := ks) (as := as) h
      refine hG ?_
      exact ⟨j + 1, b, by simpa using r1, by simpa using r2, r3⟩

theorem RSt.drop {ρ' : Rho} {σ : Nat} {D : Fz} {h : Heap} (r : RSt prog w d cells H env ρ σ D h) (hv : ∀ x p, ρ' x = some (.val p) → ρ x = some (.val p)) : RSt prog w d cells H env ρ' σ D h :=
  ⟨r.toGd, r.Ld, r.cd, r.cl, fun x p e => r.vars x p (hv x p e)⟩

theorem nth_inj {α : Type} {l : List α} (nd : l.Nodup) {i j : Nat} {x : α} (h1 : l[i]? = some x) (h2 : l[j]? = some x) : i = j :=
  (List.getElem?_inj (by
    rcases Nat.lt_or_ge i l.length with q | q
    · exact q
    · rw [List.getElem?_eq_none q] at h1; cases h1) nd).mp (h1.trans h2.symm)
theorem nth_of_len {α β : Type} {l : List α} {m : List β} (hl : l.length = m.length) {j : Nat} {b : β} (h : m[j]? = some b) : ∃ x, l[j]? = some x := by
  rcases Nat.lt_or_ge j m.length with q | q
  · exact ⟨l[j]'(hl ▸ q), List.getElem?_eq_getElem _⟩
  · rw [List.getElem?_eq_none q] at h; cases h
/-- the list at a key grows -/
theorem SSt.mmadd {F : Fp} {σ : Nat} {D : Fz} {h : Heap} {x : Str} {ks : List Int} {ls : List (List PV)} {a : Addr} {as : List Addr} {i : Int} {p : PV} {j : Nat} {b : Addr} (y : SSt prog w d cells H D₀ σ₀ h₀ env ρ F σ D h) (hx : ρ x = some (.mm ks ls)) (hF : F x = a :: as) (hkj : ks[j]? = some i) (hbj : as[j]? = some b) :
    ∃ vs c l, h.get? b = some (lstO vs c) ∧ ls[j]? = some l ∧ VRs prog w d D l vs ∧ ls.length = ks.length ∧ ∀ u h8, VR prog w d D p u → Heap.SameBut b h h8 → h8.get? b = some (lstO (vs ++ [u]) (c + 1)) →
      SSt prog w d cells H D₀ σ₀ h₀ env (upd ρ x (.mm ks (mmAdd i p ks ls))) (setF F x (a :: as)) σ D h8 ∧ Kp d env F D h (setF F x (a :: as)) D h8 := by
  refine Classical.byContradiction fun hG => ?_
  obtain ⟨v, va, sv⟩ := y.slot x _ hx
  obtain ⟨a7, as7, rfl, hFx, nd, hd, l1, l2, hls⟩ := sv
  rw [hF] at hFx
  obtain ⟨rfl, rfl⟩ := List.cons.inj hFx
  obtain ⟨l, hl⟩ := nth_of_len l2 hbj
  obtain ⟨vs, c, hb, hv⟩ := hls j b l hbj hl
  refine hG ?_
  refine ⟨vs, c, l, hb, hl, hv, l2.trans l1.symm, fun u h8 vr hs ho => ?_⟩
  have hs8' := hs.extBut
  have hab : a ≠ b := fun e => (List.nodup_cons.mp nd).1 (e ▸ List.mem_of_getElem? hbj)
  have kn : ks.Nodup := by
    refine Classical.byContradiction fun hG => ?_
    obtain ⟨_, _, _, _, _, _, _, _, q⟩ := hd
    refine hG ?_
    rwa [List.map_fst_zip (by rw [List.length_map]; exact Nat.le_of_eq l1)] at q
  refine y.own1 (x := x) (t := b) (by rw [hF]; exact .tail _ (List.mem_of_getElem? hbj)) hs8' ⟨_, ho⟩ va
    ⟨a, as, rfl, rfl, nd, let ⟨o, es, ep, q, r⟩ := hd; ⟨o, es, ep, hs8' _ _ hab q, r⟩, l1, by rw [mmAdd_len (l2.trans l1.symm)]; exact l1, fun j' b' q e1 e2 => ?_⟩ (fun b' hb' => by rw [hF]; exact hb')
  refine Classical.byContradiction fun hG => ?_
  obtain ⟨kk, l', r1, r2, rfl⟩ := mmAdd_get e2
  refine hG ?_
  by_cases hj' : j' = j
  · subst hj'
    cases hkj.symm.trans r1
    cases hbj.symm.trans e1
    cases hl.symm.trans r2
    rw [if_pos rfl]
    exact ⟨vs ++ [u], c + 1, ho, hv.append (VRs.cons vr VRs.nil)⟩
  · have hne : kk ≠ i := fun e => hj' (nth_inj kn (e ▸ r1) hkj)
    rw [if_neg hne]
    refine Classical.byContradiction fun hG => ?_
    obtain ⟨vs', c', r3, r4⟩ := hls j' b' l' e1 r2
    refine hG ?_
    exact ⟨vs', c', hs8' _ _ (fun e => hj' (nth_inj (List.nodup_cons.mp nd).2 (e ▸ e1) hbj)) r3, r4⟩

theorem upd_frz2 {e k : Expr} {x : Str} {s s' : Slot} : upd (frz (reads e) (upd (frz (reads k) ρ) x s)) x s' = upd (frz (reads e) (frz (reads k) ρ)) x s' := by
  funext z
  by_cases hz : z = x
  · subst hz; rw [upd_self, upd_self]
  · rw [upd_ne hz, upd_ne hz, frz_at (upd_ne hz)]

/-- .append(e), at the list of a key -/
theorem mmRest_ok (tab : TabOk prog w H T) (orc : OrcOk prog w d H T.cells C m) (X : EnvOk nm env) (hr : Room m A) {x : Str} {pos : Pos} {k e : Expr} {i : Int} {p : PV} {σ₁ σ₂ : Nat} {D2 : Fz} {F5 : Fp} {s : Shared} {Q : Flow → Shared → Prop} {E : Value → Shared → Prop} {ks : List Int} {ls : List (List PV)} {as : List Addr} {a b : Addr} {j : Nat} {sl0 : Slot} {pl : Sem Bool}
    (y5 : SSt prog w d T.cells H D₀ σ₀ h₀ env (upd (frz (reads k) ρ) x (.mm ks ls)) F5 σ₁ D2 s.heap) (hF5 : F5 x = a :: as) (hkj : ks[j]? = some i) (hbj : as[j]? = some b) (hsml : ∀ l ∈ ls, small l.length = true) (hst : isStarred e = false) (hrd : reads e x = false)
    (hx0 : frz (reads k) ρ x = some sl0) (hn0 : ∀ q, sl0 ≠ .val q) (h2 : ev T C n nm (frz (reads e) (frz (reads k) ρ)) e σ₁ = some (p, σ₂))
    (hQ : ∀ F' D' h' tk, SSt prog w d T.cells H D₀ σ₀ h₀ env (upd (frz (reads e) (frz (reads k) ρ)) x (.mm ks (mmAdd i p ks ls))) F' σ₂ D' h' → Kp d env F5 D2 s.heap F' D' h' → Q .next { s with heap := h', toks := tk }) :
    wpAny (model prog w) A (getMethod (.ref b) ("append" : Str) pl) (fun fx s₂ => wpAny (model prog w) A (callWith pos fx.1 fx.2 (backTo pos (starEach [e] env)) []) (fun _ => Q .next) E s₂) E s := by
  refine Classical.byContradiction fun hG => ?_
  obtain ⟨_, _, _, hb5, _⟩ := y5.mmadd (p := p) upd_self hF5 hkj hbj
  refine hG ?_
  refine getMethod_builtin (T := "list") ⟨_, hb5, rfl⟩ PySem.F.plainAttrs_list PySem.F.slot_list_append PySem.F.type_list_append (fun b' e => by cases e; exact ⟨_, hb5, rfl⟩) ?_
  obtain ⟨y6, k6⟩ := y5.frz (reads e)
  have r6 : RSt prog w d T.cells H env (frz (reads e) (frz (reads k) ρ)) σ₁ (frzD (reads e) F5 D2 s.heap) s.heap := y6.toRSt.drop fun z q e' => by
    by_cases hz : z = x
    · subst hz
      rw [frz_same hrd, hx0] at e'; exact absurd (Option.some.inj e') (hn0 q)
    · rw [frz_at (upd_ne hz)]; exact e'
  refine callw_ok (ps := [p]) (ev_all tab orc n).1 X hr (fun h _ => keep_builtin h) r6 (bnd_to h2 (bnd_to rfl rfl)) (by simp [hst]) fun us D7 h7 tk7 ok7 vrs => ?_
  refine Classical.byContradiction fun hG => ?_
  obtain ⟨u, _, rfl, vr, rfl⟩ := vrs
  have y7 := y6.step ok7
  obtain ⟨vs7, c7, l7, hb7, hl7, hv7, _, grow⟩ := y7.mmadd (p := p) ((frz_same hrd).trans upd_self) ((frzF_same hrd).trans hF5) hkj hbj
  refine hG ?_
  refine append_at hb7 (fun h8 hs8 ho8 => ?_) (by rw [List.size_toArray, hv7.length]; exact small_le (hsml _ (List.mem_of_getElem? hl7)))
  obtain ⟨y8, k8⟩ := grow u h8 vr hs8 (by rw [ho8]; simp)
  rw [upd_frz2] at y8
  exact hQ _ D7 h8 tk7 y8 ((k6.trans (Kp.of_ok ok7)).trans k8)

theorem mmAppend_ok (tab : TabOk prog w H T) (orc : OrcOk prog w d H T.cells C m) (X : EnvOk nm env) (hr : Room m A) {x m1 m2 : Str} {xp apos pos1 apos2 pos spos lp : Pos} {k e : Expr} {i : Int} {ks : List Int} {ls : List (List PV)} {p : PV} {σ σ₁ σ₂ : Nat} {D : Fz} {F : Fp} {s : Shared} {Q : Flow → Shared → Prop} {E : Value → Shared → Prop}
    (y : SSt prog w d T.cells H D₀ σ₀ h₀ env ρ F σ D s.heap) (hm1 : m1 = ("setdefault" : Str)) (hm2 : m2 = ("append" : Str)) (hst : isStarred e = false) (hstk : isStarred k = false) (hrd : reads e x = false) (hrk : reads k x = false) (hb : badName x = false) (hline : (apos.endLine == pos1.line) = true) (hline2 : (apos2.endLine == pos.line) = true)
    (hx : ρ x = some (.mm ks ls)) (hsm : small ks.length = true) (hsl : ls.all (fun l => small l.length) = true)
    (h1 : ev T C n nm (frz (reads k) ρ) k σ = some (.int i, σ₁)) (h2 : ev T C n nm (frz (reads e) (frz (reads k) ρ)) e σ₁ = some (p, σ₂))
    (hQ : ∀ F' D' h' tk, SSt prog w d T.cells H D₀ σ₀ h₀ env (upd (frz (reads e) (frz (reads k) ρ)) x (.mm (mmPut i p ks ls).1 (mmPut i p ks ls).2)) F' σ₂ D' h' → Kp d env F D s.heap F' D' h' → Q .next { s with heap := h', toks := tk }) :
    wpAny (model prog w) A (exec (.Expr (.Call (.Attribute (.Call (.Attribute (.Name x xp) m1 apos) [k, .List [] lp] [] pos1) m2 apos2) [e] [] pos) spos) env) Q E s := by
  subst hm1 hm2
  refine Classical.byContradiction fun hG => ?_
  obtain ⟨hE, hT, hI⟩ := ev_all tab orc n
  obtain ⟨y1, k1⟩ := y.frz (reads k)
  obtain ⟨v, va, sv⟩ := y.slot x _ hx
  obtain ⟨a, as, rfl, hF, nd, hd, l1, l2, hls⟩ := sv
  refine hG ?_
  refine wpAny_Expr_any (methodCall_ok rfl (by simp [hst]) (by simp) hline2 (methodCall_ok rfl (by simp only [List.any_cons, hstk, List.any_nil]; rfl) (by simp) hline (load_var X hb va ?_))) (by unfold interactive; rw [X.kind]; rfl) rfl
  refine getMethod_builtin (T := "dict") hd.typeIs PySem.F.plainAttrs_dict PySem.F.slot_dict_setdefault PySem.F.type_dict_setdefault hd.mapOf.noDict ?_
  -- the key, the default
  refine callWith_of (P := Base H) (by rw [(star_all (by simp only [List.any_cons, hstk, List.any_nil]; rfl)).1]; rfl) (fun h _ => keep_builtin h) ?_
  rw [star_cons hstk, star_cons (by rfl)]
  refine Calls.evalArgs_plain (Calls.spliced_cons (hE nm env _ k σ _ σ₁ _ s A _ E X y1.toRSt hr h1 fun kv D2 h2' tk2 ok2 vrk => ?_))
  refine Calls.spliced_cons (wpAny_List (Calls.spliced_nil ⟨Nat.zero_le _, ?_⟩))
  refine Calls.spliced_nil ?_
  have y2 := y1.step ok2
  have hx1 : frz (reads k) ρ x = some (.mm ks ls) := (frz_same hrk).trans hx
  have hF1 : frzF (reads k) F x = a :: as := (frzF_same hrk).trans hF
  have keep : ∀ b o, h2'.get? b = some o → (h2'.push (lstO [] 0)).get? b = some o := fun b o e => Heap.get?_push_of_some _ e
  refine ⟨(y2.grow keep).gd.base, ?_⟩
  refine Classical.byContradiction fun hG => ?_
  obtain ⟨t, rfl⟩ := vrk
  obtain ⟨v2, va2, sv2⟩ := y2.slot x _ hx1
  obtain ⟨a2, as2, rfl, hF2, nd2, hd2, l12, l22, hls2⟩ := sv2
  rw [hF1] at hF2
  obtain ⟨rfl, rfl⟩ := List.cons.inj hF2
  have ha : a ∈ frzF (reads k) F x := by rw [hF1]; exact .head _
  obtain ⟨t0, tD, td, tL, tc, _, tsm⟩ := y2.own x a ha
  refine hG ?_
  have hd3 : (h2'.push (lstO [] 0)).DictOf (intKind prog w) a (ks.zip (as.map .ref)) := let ⟨o, es, ep, q, r⟩ := hd2; ⟨o, es, ep, keep _ _ q, r⟩
  have hzl : (ks.zip (as.map Value.ref)).length = ks.length := by rw [List.length_zip, List.length_map, ← l12, Nat.min_self]
  have rest : ∀ (ks' : List Int) (ls' : List (List PV)) (as' : List Addr) (b : Addr) (F5 : Fp) (h5 : Heap) (tk5 : Nat) (j : Nat), SSt prog w d T.cells H D₀ σ₀ h₀ env (upd (frz (reads k) ρ) x (.mm ks' ls')) F5 σ₁ D2 h5 → Kp d env F D s.heap F5 D2 h5 →
      F5 x = a :: as' → ks'[j]? = some i → as'[j]? = some b → (mmGet i ks ls) = (ks', ls') → (∀ l ∈ ls', small l.length = true) →
      wpAny (model prog w) A (getMethod (.ref b) ("append" : Str) (do return (← importBound (.Call (.Attribute (.Name x xp) ("setdefault" : Str) apos) [k, .List [] lp] [] pos1) env).getD true)) (fun fx s₂ => wpAny (model prog w) A (callWith pos fx.1 fx.2 (backTo pos (starEach [e] env)) []) (fun _ => Q .next) E s₂) E { s with heap := h5, toks := tk5 } :=
    fun ks' ls' as' b F5 h5 tk5 j y5 k5 hF5 hkj hbj hmm hsml => mmRest_ok (s := { s with heap := h5, toks := tk5 }) tab orc X hr y5 hF5 hkj hbj hsml hst hrd hx1 (fun q e => by cases e) h2 fun F' D' h' tk y' k' => hQ F' D' h' tk (by rw [mmPut_eq (l22.trans l12.symm), hmm]; exact y') (k5.trans k')
  refine call_meetsIn PySem.F.slot_dict_setdefault hd3.typeIs PySem.F.entry_dict_setdefault (PySem.F.args_dict_setdefault_3 _ _ _) (kt_meets_setdefault (intKind prog w) (k := i) a (by simp [intKind, Value.isInt]) tsm (.ref h2'.objs.size)) ⟨_, hd3, by rw [hzl]; exact small_le hsm, fun v hv => ?_, fun hnone h4 hd4 hs4 => ?_⟩
  · obtain ⟨j, b, r1, r2, rfl⟩ := valueAt_place (as := as) hv
    have hm : memb i ks = true := by simpa [memb] using List.mem_of_getElem? r1
    have y3 := y2.grow keep
    have hup : upd (frz (reads k) ρ) x (.mm ks ls) = frz (reads k) ρ := by
      funext z; unfold upd
      by_cases hz : z = x
      · subst hz; simp [hx1]
      · rw [if_neg (by simpa using hz)]
    exact rest ks ls as b (frzF (reads k) F) _ _ j (by rw [hup]; exact y3) ((k1.trans (Kp.of_ok ok2)).trans (Kp.of_ok (Ok.grown y2.gd keep))) hF1 r1 r2 (by unfold mmGet; rw [if_pos hm]) (fun l hl => List.all_eq_true.mp hsl l hl)
  · have hm : ¬ memb i ks = true := by
      intro q
      have := valueAt_zip i ks (as.map Value.ref) (by simpa using l12)
      rw [hnone, q] at this; simp at this
    have e4 : stored (ks.zip (as.map Value.ref)) i (.ref h2'.objs.size) = (ks ++ [i]).zip ((as ++ [h2'.objs.size]).map .ref) := by
      unfold stored
      rw [if_neg, List.map_append, List.zip_append (by simpa using l12)]
      · rfl
      · rw [List.any_eq_true]
        rintro ⟨kv, hkv, e⟩
        exact hm (by simpa [memb] using of_decide_eq_true e ▸ (List.of_mem_zip hkv).1)
    rw [e4] at hd4
    obtain ⟨y5, k5⟩ := y2.sdef va2 hF1 nd2 l12 l22 hls2 hd4 hs4
    refine rest (ks ++ [i]) (ls ++ [[]]) (as ++ [h2'.objs.size]) h2'.objs.size _ h4 _ ks.length y5 ((k1.trans (Kp.of_ok ok2)).trans k5) (by unfold setF; rw [if_pos rfl]) (by simp) (by rw [l12]; simp) (by unfold mmGet; rw [if_neg hm]) fun l hl => ?_
    rcases List.mem_append.mp hl with q | q
    · exact List.all_eq_true.mp hsl l q
    · rw [List.mem_singleton.mp q]; rfl
end
end Mine

/- part Stm8 -/
namespace Mine

section
variable {prog : Program} {w : World} {d : Addr} {H : Heap} {T : Tab} {C : Orc} {m n : Nat} {A : Around} {nm : NM} {env : Env} {ρ : Rho} {D₀ : Fz} {σ₀ : Nat} {h₀ : Heap}

theorem swaps_name {e : Expr} {x : Str} {p : Pos} {l : Nat} (X : EnvOk nm env) (hx : ownName nm x = true) (h : (isCompE e && nm.lookup x == some .local) = false) : swapsWith e (some (.Name x p)) l env = pure false := by
  cases hc : isCompE e with
  | false => exact swaps_plain hc
  | true =>
    rw [hc] at h
    unfold ownName at hx
    simp only [Bool.true_and] at h
    rw [h] at hx
    simp only [Bool.false_or, beq_iff_eq] at hx
    have hk := X.kc x hx
    have h2 : (env.kindOf x == some NameKind.local) = false := by rw [hk]; rfl
    cases e <;> first
      | exact tf hc.symm
      | (unfold swapsWith
         dsimp only
         rw [h2]
         simp)

theorem Kp.other {F F1 : Fp} {D D1 D' : Fz} {h h1 h' : Heap} {W : List Addr} (k : Kp d env F D h F1 D1 h1) (hs : ∀ b o, b ∉ W → h1.get? b = some o → h'.get? b = some o) (hW : ∀ b ∈ W, h.get? b = none) (le : D1.le D') (new : ∀ a o, h1.get? a = some o → D' a = D1 a) : Kp d env F D h F1 D' h' :=
  ⟨fun b o n1 n2 n3 n4 e => hs b o (fun hb => by rw [hW b hb] at e; cases e) (k.pres b o n1 n2 n3 n4 e), k.le.trans le, fun b o n e => let ⟨o', q⟩ := k.live b o e; (new b o' q).trans (k.new b o n e), k.fresh, fun b o e => let ⟨o', q⟩ := k.live b o e; ⟨o', hs b o' (fun hb => by rw [hW b hb] at e; cases e) q⟩⟩

theorem Fresh.of_new {F : Fp} {σ : Nat} {D D' : Fz} {h h' : Heap} {b : Addr} (y : SSt prog w d T.cells H D₀ σ₀ h₀ env ρ F σ D h) (q : h.get? b = none ∧ D' b = none ∧ b ≠ d ∧ (∃ o, h'.get? b = some o) ∧ (b == sysModules) = false) : Fresh d h₀ env D' h' b ∧ ∀ z, b ∉ F z := by
  refine Classical.byContradiction fun hG => ?_
  obtain ⟨q1, q2, q3, q4, q5⟩ := q
  refine hG ?_
  refine ⟨⟨?_, q2, q3, fun e => ?_, fun z c e e' => ?_, q4, q5⟩, fun z hz => ?_⟩
  · cases e : h₀.get? b with
    | none => rfl
    | some o => obtain ⟨o', q⟩ := y.ok.live e; rw [q1] at q; cases q
  · obtain ⟨mm, _, _, _, q, _⟩ := y.ns; rw [← e, q1] at q; cases q
  · obtain ⟨_, _, _, _, _, _, q, _⟩ := y.cel z c e; rw [← e', q1] at q; cases q
  · obtain ⟨_, _, _, _, _, ⟨o, q⟩, _⟩ := y.own z b hz; rw [q1] at q; cases q

theorem assignName_ok (tab : TabOk prog w H T) (orc : OrcOk prog w d H T.cells C m) (X : EnvOk nm env) (hr : Room m A) {x : Str} {xp pos : Pos} {e : Expr} {sl : Slot} {σ σ' : Nat} {D : Fz} {F : Fp} {s : Shared} {Q : Flow → Shared → Prop} {E : Value → Shared → Prop}
    (y : SSt prog w d T.cells H D₀ σ₀ h₀ env ρ F σ D s.heap) (hx : ownName nm x = true) (hc : (isCompE e && nm.lookup x == some .local) = false) (h : evO T C n nm (frz (reads e) ρ) e σ = some (sl, σ'))
    (hQ : ∀ F' D' h' tk, SSt prog w d T.cells H D₀ σ₀ h₀ env (upd (frz (reads e) ρ) x sl) F' σ' D' h' → Kp d env F D s.heap F' D' h' → Q .next { s with heap := h', toks := tk }) :
    wpAny (model prog w) A (exec (.Assign [.Name x xp] e pos) env) Q E s := by
  obtain ⟨y1, k1⟩ := y.frz (reads e)
  refine wpAny_Assign_Name (evO_ok tab orc X hr y1.toRSt h fun v D' h' tk fp ok sv fr => ?_) (swaps_name X hx hc)
  have y2 := y1.step ok
  have fr' := fun b hb => Fresh.of_new y1 (fr b hb)
  refine (SSt.store (s := { s with heap := h', toks := tk }) y2 X hx sv (fun b hb => (fr' b hb).1) (fun z b _ hb => (fr' b hb).2 z) fun h3 tk3 y3 pr lv => ?_)
  refine hQ _ D' h3 tk3 y3 ((k1.trans (Kp.of_ok ok)).stores pr lv fun z b hb => ?_)
  unfold setF at hb
  split at hb
  · exact .inr (fr b hb).1
  · exact .inl hb

noncomputable def FlowIs (prog : Program) (w : World) (d : Addr) (D : Fz) : Res → Flow → Prop
  | .next, f => f = .next
  | .ret p, f => ∃ v, f = .ret v ∧ VR prog w d D p v

variable (prog w d H T C m)
noncomputable def EvSG (n : Nat) : Prop := ∀ D₀ σ₀ h₀ nm env ρ st σ r ρ' σ' F D s A (Q : Flow → Shared → Prop) E, EnvOk nm env → SSt prog w d T.cells H D₀ σ₀ h₀ env ρ F σ D s.heap → Room m A → evS T C n nm ρ st σ = some (r, ρ', σ') →
  (∀ f F' D' h' tk, FlowIs prog w d D' r f → SSt prog w d T.cells H D₀ σ₀ h₀ env ρ' F' σ' D' h' → Kp d env F D s.heap F' D' h' → Q f { s with heap := h', toks := tk }) → wpAny (model prog w) A (exec st env) Q E s
noncomputable def EvSsG (n : Nat) : Prop := ∀ D₀ σ₀ h₀ nm env ρ st σ r ρ' σ' F D s A (Q : Flow → Shared → Prop) E, EnvOk nm env → SSt prog w d T.cells H D₀ σ₀ h₀ env ρ F σ D s.heap → Room m A → evSs T C n nm ρ st σ = some (r, ρ', σ') →
  (∀ f F' D' h' tk, FlowIs prog w d D' r f → SSt prog w d T.cells H D₀ σ₀ h₀ env ρ' F' σ' D' h' → Kp d env F D s.heap F' D' h' → Q f { s with heap := h', toks := tk }) → wpAny (model prog w) A (execs st env) Q E s
variable {prog w d H T C m}

theorem res_e {a r : Res} {b ρ' : Rho} {c σ' : Nat} (h : (a, b, c) = (r, ρ', σ')) : a = r ∧ b = ρ' ∧ c = σ' := by cases h; exact ⟨rfl, rfl, rfl⟩
/-- a loop's turns -/
inductive WTurn (prog : Program) (w : World) (d : Addr) (cells : List Int) (H : Heap) (D₀ : Fz) (σ₀ : Nat) (h₀ : Heap) (env : Env) (F : Fp) (D : Fz) (g : Nat → Rho → Nat → Option (Res × Rho × Nat)) (x : Res × Rho × Nat) (s : Shared) : Nat → Shared → Prop
  | mk (k : Nat) (ρ : Rho) (σ : Nat) (F₁ : Fp) (D₁ : Fz) (h : Heap) (tk : Nat) (y : SSt prog w d cells H D₀ σ₀ h₀ env ρ F₁ σ D₁ h) (k₁ : Kp d env F D s.heap F₁ D₁ h) (e : g k ρ σ = some x) : WTurn prog w d cells H D₀ σ₀ h₀ env F D g x s k { s with heap := h, toks := tk }
theorem while_ok (hT : EvTG prog w d H T C m n) (hS : EvSsG prog w d H T C m n) (X : EnvOk nm env) (hr : Room m A) {t : Expr} {body : List Stmt} {pos : Pos} {σ σ' : Nat} {r : Res} {ρ' : Rho} {D : Fz} {F : Fp} {s : Shared} {Q : Flow → Shared → Prop} {E : Value → Shared → Prop} {k : Nat}
    (y : SSt prog w d T.cells H D₀ σ₀ h₀ env ρ F σ D s.heap) (h : whileFold (fun ρ σ => evT T C n nm ρ t σ) (fun ρ σ => evSs T C n nm ρ body σ) k ρ σ = some (r, ρ', σ'))
    (hQ : ∀ f F' D' h' tk, FlowIs prog w d D' r f → SSt prog w d T.cells H D₀ σ₀ h₀ env ρ' F' σ' D' h' → Kp d env F D s.heap F' D' h' → Q f { s with heap := h', toks := tk }) :
    wpAny (model prog w) A (exec (.While t body [] pos) env) Q E s := by
  refine wpAny_While (codeAny_whileLoop (WTurn prog w d T.cells H D₀ σ₀ h₀ env F D (whileFold (fun ρ σ => evT T C n nm ρ t σ) (fun ρ σ => evSs T C n nm ρ body σ)) (r, ρ', σ') s) (fun k' s' tu => ?_) k (.mk k ρ σ F D s.heap s.toks y Kp.refl h))
  cases tu with | mk ρ₁ σ₁ F₁ D₁ h₁ tk₁ y₁ k₁ h' =>
  have hr' : Room m (A.mark none) := by rw [Around.mark_none]; exact hr
  cases k' with
  | zero => exact no h'
  | succ k' =>
    refine bnd_e h' fun b σ₂ ht h' => hT nm env ρ₁ t σ₁ b σ₂ D₁ _ _ _ _ X y₁.toRSt hr' ht fun D₂ h₂ tk₂ ok => ?_
    have k₂ := k₁.trans (Kp.of_ok ok)
    cases b with
    | false =>
      have e := res_e (Option.some.inj h')
      exact wpAny_execs_nil (hQ .next F₁ D₂ h₂ tk₂ (e.1 ▸ rfl) (e.2.1 ▸ e.2.2 ▸ y₁.step ok) k₂)
    | true =>
      refine seq_e h' (fun ρ₃ σ₃ hb h' => ?_) fun q ρ₃ σ₃ hb e => ?_
      · exact hS D₀ σ₀ h₀ nm env ρ₁ body σ₂ .next ρ₃ σ₃ F₁ D₂ { s with heap := h₂, toks := tk₂ } _ _ _ X (y₁.step ok) hr' hb fun f F₃ D₃ h₃ tk₃ hf y₃ k₃ => by
          cases (show f = .next from hf)
          exact ⟨k', Nat.lt_succ_self _, .mk k' ρ₃ σ₃ F₃ D₃ h₃ tk₃ y₃ (k₂.trans k₃) h'⟩
      · have e := res_e e
        refine hS D₀ σ₀ h₀ nm env ρ₁ body σ₂ (.ret q) ρ₃ σ₃ F₁ D₂ { s with heap := h₂, toks := tk₂ } _ _ _ X (y₁.step ok) hr' hb fun f F₃ D₃ h₃ tk₃ hf y₃ k₃ => ?_
        obtain ⟨v, rfl, vr⟩ := hf
        exact hQ (.ret v) F₃ D₃ h₃ tk₃ (e.1 ▸ ⟨v, rfl, vr⟩) (e.2.1 ▸ e.2.2 ▸ y₃) (k₂.trans k₃)

theorem targets_in (n : Nat) (t : Expr) (h : targetsOk nm n t = true) (x : Str) (hx : x ∈ tnames n t) : ownName nm x = true := tnames_P n t h x hx
end

theorem pred_turn {i k n : Nat} (h : i < n) (e : i + k = n) : k - 1 < k := by exact q_ps (q_kp h e)
theorem succ_turn {i k n : Nat} (h : i < n) (e : i + k = n) : i + 1 + (k - 1) = n := by rw [Nat.add_assoc, Nat.add_sub_cancel' (q_kp h e)]; exact e
/-- what a for loop goes by -/
structure FQ where
  prog : Program
  w : World
  d : Addr
  T : Tab
  H : Heap
  D₀ : Fz
  σ₀ : Nat
  h₀ : Heap
  env : Env
  nm : NM
  A : Around
  t : Expr
  I : Addr
  fp : List Addr
  wr : List Addr
  its : List PV
  Inv : Nat → Fz → Heap → Prop
  F : Fp
  D : Fz
  h : Heap
abbrev FQ.SSt (q : FQ) (ρ : Rho) (F : Fp) (σ : Nat) (D : Fz) (h : Heap) : Prop := Mine.SSt q.prog q.w q.d q.T.cells q.H q.D₀ q.σ₀ q.h₀ q.env ρ F σ D h
structure FQ.St (q : FQ) (i : Nat) (ρ : Rho) (F : Fp) (σ : Nat) (D : Fz) (h : Heap) : Prop where
  y : q.SSt ρ F σ D h
  k : Kp q.d q.env q.F q.D q.h F D h
  inv : q.Inv i D h
  wD : ∀ b ∈ q.wr, D b = none
  fpF : ∀ z b, b ∈ F z → b ∉ q.fp
structure FQ.Good (q : FQ) : Prop where
  itr : Itr q.prog q.w q.d q.A q.t q.I q.fp q.wr q.its q.Inv
  fpd : ∀ b ∈ q.fp, b ≠ q.d
  fpL : q.env.locals ∉ q.fp
  fpc : ∀ z c, q.env.cells.lookup z = some c → c ∉ q.fp
  wh₀ : ∀ b ∈ q.wr, q.h₀.get? b = none
  wh : ∀ b ∈ q.wr, q.h.get? b = none
  X : EnvOk q.nm q.env
section
variable {q : FQ} {i : Nat} {ρ ρ' : Rho} {F F' : Fp} {σ σ' : Nat} {D D' : Fz} {h h' : Heap}
theorem FQ.St.grow (t : q.St i ρ F σ D h) (G : q.Good) (kp : ∀ b o, h.get? b = some o → h'.get? b = some o) : q.St i ρ F σ D h' :=
  ⟨t.y.grow kp, t.k.trans (Kp.of_ok (Ok.grown t.y.gd kp)), G.itr.frame _ _ _ _ _ t.inv (Fz.le.refl _) fun b _ o e => kp b o e, t.wD, t.fpF⟩
theorem FQ.St.next (t : q.St i ρ F σ D h) (G : q.Good) (le : D.le D') (new : ∀ a o, h.get? a = some o → D' a = D a) (on : D'.on h') (hs : ∀ b o, b ∉ q.wr → h.get? b = some o → h'.get? b = some o) (inv : q.Inv (i + 1) D' h') : q.St (i + 1) ρ F σ D' h' :=
  ⟨t.y.other hs G.wh₀ (fun hb => G.fpd _ (G.itr.sub _ hb) rfl) (fun hb => G.fpL (G.itr.sub _ hb)) (fun z c e hb => G.fpc z c e (G.itr.sub _ hb)) (fun z b hz hb => t.fpF z b hz (G.itr.sub _ hb)) le new on, t.k.other hs G.wh le new, inv,
    fun b hb => let ⟨o, p⟩ := G.itr.livef _ _ _ t.inv b (G.itr.sub b hb); (new b o p).trans (t.wD b hb), t.fpF⟩
theorem FQ.St.done (t : q.St i ρ F σ D h) (G : q.Good) (hs : ∀ b o, b ∉ q.wr → h.get? b = some o → h'.get? b = some o) : q.SSt ρ F σ D h' ∧ Kp q.d q.env q.F q.D q.h F D h' :=
  ⟨t.y.other hs G.wh₀ (fun hb => G.fpd _ (G.itr.sub _ hb) rfl) (fun hb => G.fpL (G.itr.sub _ hb)) (fun z c e hb => G.fpc z c e (G.itr.sub _ hb)) (fun z b hz hb => t.fpF z b hz (G.itr.sub _ hb)) (Fz.le.refl _) (fun _ _ _ => rfl)
    fun b o e => hs b o (fun hb => by rw [t.wD b hb] at e; cases e) (t.y.gd.on b o e), t.k.other hs G.wh (Fz.le.refl _) fun _ _ _ => rfl⟩
theorem setF_nil {F : Fp} {x : Str} (z : Str) (b : Addr) (hb : b ∈ setF F x [] z) : b ∈ F z := by
  unfold setF at hb
  by_cases c : z = x
  · rw [if_pos c] at hb; cases hb
  · rw [if_neg c] at hb; exact hb
theorem FQ.St.store (G : q.Good) : StoreOk (d := q.d) q.prog q.w q.env q.A D (fun x => ownName q.nm x = true) (fun ρ h => ∃ F, q.St i ρ F σ D h) := fun ρ x p v s Q E hx t vr hQ => by
  obtain ⟨F, t⟩ := t
  refine t.y.store G.X hx (sl := .val p) (fp := []) ⟨vr, rfl⟩ (fun _ hb => nomatch hb) (fun _ _ _ hb => nomatch hb) fun h' tk y' pr lv => hQ h' tk ⟨setF F x [], y', t.k.stores pr lv (fun z b hb => .inl (setF_nil z b hb)),
    G.itr.frame _ _ _ _ _ t.inv (Fz.le.refl _) (fun b hb o e => pr b o (fun p => G.fpL (p ▸ hb)) (fun z c e' p => G.fpc z c e' (p ▸ hb)) e), t.wD, fun z b hb => t.fpF z b (setF_nil z b hb)⟩
/-- a block has run -/
theorem FQ.St.body (t : q.St i ρ F σ D h) (G : q.Good) (y : q.SSt ρ' F' σ' D' h') (k : Kp q.d q.env F D h F' D' h') : q.St i ρ' F' σ' D' h' :=
  have lv := G.itr.livef _ _ _ t.inv
  ⟨y, t.k.trans k, G.itr.frame _ _ _ _ _ t.inv k.le fun b hb o e => k.pres b o (G.fpd b hb) (fun p => G.fpL (p ▸ hb)) (fun z c e' p => G.fpc z c e' (p ▸ hb)) (fun z hz => t.fpF z b hz hb) e,
    fun b hb => let ⟨o, p⟩ := lv b (G.itr.sub b hb); (k.new b o (fun z hz => t.fpF z b hz (G.itr.sub b hb)) p).trans (t.wD b hb), fun z b hz hb => by
      rcases k.fresh z b hz with ⟨x, hx⟩ | p
      · exact t.fpF x b hx hb
      · obtain ⟨o, p'⟩ := lv b hb; exact nomatch p.symm.trans p'⟩
inductive FQ.Turn (q : FQ) (f : PV → Rho → Nat → Option (Res × Rho × Nat)) (x : Res × Rho × Nat) (s : Shared) : Nat → Shared → Prop
  | mk (i : Nat) (k : Nat) (ρ : Rho) (F : Fp) (σ : Nat) (D : Fz) (h : Heap) (tk : Nat) (hi : i + k = q.its.length) (t : q.St i ρ F σ D h) (hf : forFold f (q.its.drop i) ρ σ = some x) : FQ.Turn q f x s k { s with heap := h, toks := tk }
end

section
variable {prog : Program} {w : World} {d : Addr} {H : Heap} {T : Tab} {C : Orc} {m n : Nat} {A : Around} {nm : NM} {env : Env} {ρ : Rho} {D₀ : Fz} {σ₀ : Nat} {h₀ : Heap}
/-- the loop, from its iterator on -/
theorem forL {q : FQ} (G : q.Good) (hS : EvSsG q.prog q.w q.d q.H q.T C m n) (hr : Room m q.A) {body : List Stmt} {σ₁ σ' : Nat} {r : Res} {ρ ρ' : Rho} {F₁ : Fp} {D₁ : Fz} {s : Shared} {R : Result → Shared → Prop} (ht : targetsOk q.nm 4 q.t = true)
    (t : q.St 0 ρ F₁ σ₁ D₁ s.heap) (h : forFold (forTurn q.T C n q.nm q.t body) q.its ρ σ₁ = some (r, ρ', σ'))
    (hQ : ∀ f F' D' h' tk, FlowIs q.prog q.w q.d D' r f → q.SSt ρ' F' σ' D' h' → Kp q.d q.env q.F q.D q.h F' D' h' → R (.ok f) { s with heap := h', toks := tk }) :
    codeAny (model q.prog q.w) q.A (.forLoop q.t (.ref q.I) body [] q.env) R s := by
  refine codeAny_forLoop_any (q.Turn (forTurn q.T C n q.nm q.t body) (r, ρ', σ') s) (fun k s' tu => ?_) q.its.length (.mk 0 _ ρ F₁ σ₁ D₁ s.heap s.toks (Nat.zero_add _) t h)
  cases tu with | mk i _ ρ₁ F₂ σ₂ D₂ h₂ tk₂ hik t₂ hf =>
  rcases Nat.lt_or_ge i q.its.length with hi | hi
  · rw [drop_get hi] at hf
    refine G.itr.item i q.its[i] D₂ { s with heap := h₂, toks := tk₂ } _ _ _ _ (List.getElem?_eq_getElem hi) t₂.inv t₂.y.gd.on t₂.wD fun v D₄ h₄ tk₄ le new on hs inv₄ vr => ?_
    have t₄ := t₂.next G le new on hs inv₄
    have go : ∀ (x : Res × Rho × Nat), forTurn q.T C n q.nm q.t body q.its[i] ρ₁ σ₂ = some x → ∀ (K : Flow → Shared → Prop) (E : Value → Shared → Prop), (∀ f F₆ D₆ h₆ tk₆, FlowIs q.prog q.w q.d D₆ x.1 f → q.St (i + 1) x.2.1 F₆ x.2.2 D₆ h₆ → K f { s with heap := h₆, toks := tk₆ }) →
        wpAny (model q.prog q.w) q.A (assign q.t q.env v) (fun _ s₂ => wpAny (model q.prog q.w) q.A (execs body q.env) K E s₂) E { s with heap := h₄, toks := tk₄ } := fun x hx K E hK =>
      ob_e hx fun ρ₅ hbt hb => assign_ok (D := D₄) (d := q.d) (P := fun ρ h => ∃ F, q.St (i + 1) ρ F σ₂ D₄ h) _ hr.hand (fun ρ h h' ⟨F₅, a⟩ kp => ⟨F₅, a.grow G kp⟩) (fun ρ h ⟨F₅, a⟩ => a.y.gd.on) (FQ.St.store G) 4 q.t q.its[i] ρ₁ ρ₅ v _ _ _ hbt (targets_in 4 q.t ht) vr ⟨F₂, t₄⟩ fun h₅ tk₅ ⟨F₅, t₅⟩ =>
        hS q.D₀ q.σ₀ q.h₀ q.nm q.env ρ₅ body σ₂ x.1 x.2.1 x.2.2 F₅ D₄ { s with heap := h₅, toks := tk₅ } q.A K E G.X t₅.y hr hb fun f F₆ D₆ h₆ tk₆ hf y₆ k₆ => hK f F₆ D₆ h₆ tk₆ hf (t₅.body G y₆ k₆)
    refine seq_e hf (fun ρ₇ σ₇ hb hf => go _ hb _ _ fun f F₆ D₆ h₆ tk₆ hf' t₆ => ?_) fun p ρ₇ σ₇ hb e => go _ hb _ _ fun f F₆ D₆ h₆ tk₆ hf' t₆ => ?_
    · cases (show f = .next from hf')
      exact ⟨k - 1, pred_turn hi hik, .mk (i + 1) (k - 1) ρ₇ F₆ σ₇ D₆ h₆ tk₆ (succ_turn hi hik) t₆ hf⟩
    · have e := res_e e
      obtain ⟨v', rfl, vr'⟩ := hf'
      exact hQ (.ret v') F₆ D₆ h₆ tk₆ (e.1 ▸ ⟨v', rfl, vr'⟩) (e.2.1 ▸ e.2.2 ▸ t₆.y) t₆.k
  · have hi' : i = q.its.length := Nat.le_antisymm (Nat.le.intro hik) hi
    have e := res_e (Option.some.inj (drop_end (f := fun z => forFold _ z _ _) hi' hf))
    exact G.itr.done D₂ { s with heap := h₂, toks := tk₂ } _ _ (hi' ▸ t₂.inv) fun h₄ tk₄ hs => have z := FQ.St.done (hi' ▸ t₂) G hs; wpAny_execs_nil (hQ .next F₂ D₂ h₄ tk₄ (e.1 ▸ rfl) (e.2.1 ▸ e.2.2 ▸ z.1) z.2)

theorem for_ok (hI : EvIG prog w d H T C m n) (hS : EvSsG prog w d H T C m n) (X : EnvOk nm env) (hr : Room m A) {t it : Expr} {body : List Stmt} {pos : Pos} {σ σ₁ σ' : Nat} {its : List PV} {r : Res} {ρ' : Rho} {D : Fz} {F : Fp} {s : Shared} {Q : Flow → Shared → Prop} {E : Value → Shared → Prop}
    (y : SSt prog w d T.cells H D₀ σ₀ h₀ env ρ F σ D s.heap) (ht : targetsOk nm 4 t = true) (hset : isSetE it = false) (hen : isEnumE it = false) (h1 : evI T C n nm (frz (reads it) ρ) it σ = some (its, σ₁))
    (h : forFold (forTurn T C n nm t body) its (frz (reads it) ρ) σ₁ = some (r, ρ', σ'))
    (hQ : ∀ f F' D' h' tk, FlowIs prog w d D' r f → SSt prog w d T.cells H D₀ σ₀ h₀ env ρ' F' σ' D' h' → Kp d env F D s.heap F' D' h' → Q f { s with heap := h', toks := tk }) :
    wpAny (model prog w) A (exec (.For t it body [] pos) env) Q E s := by
  obtain ⟨y0, k0⟩ := y.frz (reads it)
  refine wpAny_For ?_ (folded_not hset)
  refine hI nm env _ it t σ its σ₁ _ s A _ _ X y0.toRSt hr (fun e => nomatch hen.symm.trans e) h1 fun v D1 h1' tk1 ok1 iv => ?_
  refine iv A _ _ hr.hand fun I fp wr Inv h2 tk2 itr inv q1 q2 keep => ?_
  have y1 := (y0.step ok1)
  -- what holds of the iterator's objects
  have hlive : ∀ b o, s.heap.get? b = some o → D1 b = none → b ∉ fp := fun b o e e2 hb => by
    rcases (q2 b hb).2.2 with q | q
    · exact nomatch q.symm.trans e
    · exact q e2
  have G : FQ.Good (.mk prog w d T H D₀ σ₀ h₀ env nm A t I fp wr its Inv F D s.heap) := {
    itr := itr
    fpd := fun b hb => (q2 b hb).1
    fpL := let ⟨mm, o, _, _, q, _⟩ := y.ns; hlive _ o q y1.DL
    fpc := fun z c e => let ⟨_, _, _, _, _, o, q, _⟩ := y.cel z c e; hlive c o q (y1.cel z c e).2.2.2.1
    wh₀ := fun b hb => by
      cases e : h₀.get? b with
      | none => rfl
      | some o => obtain ⟨o', q⟩ := y.ok.live e; exact nomatch (q1 b hb).1.symm.trans q
    wh := fun b hb => (q1 b hb).1
    X := X }
  exact forL (s := { s with heap := h2, toks := tk2 }) G hS hr ht ⟨y1.grow keep, (k0.trans (Kp.of_ok ok1)).trans (Kp.of_ok (Ok.grown y1.gd keep)), inv, fun b hb => (q1 b hb).2, fun z b hb => let ⟨_, _, _, _, _, ⟨o, q⟩, _⟩ := y0.own z b hb; hlive b o q (y1.own z b hb).2.1⟩ h hQ
end
end Mine

/- part Stm9 -/
namespace Mine

section
variable {prog : Program} {w : World} {d : Addr} {H : Heap} {T : Tab} {C : Orc} {m n : Nat}

theorem evSs_step (hS : EvSG prog w d H T C m n) (hSs : EvSsG prog w d H T C m n) : EvSsG prog w d H T C m (n + 1) := by
  intro D₀ σ₀ h₀ nm env ρ sts σ r ρ' σ' F D s A Q E X y hr h hQ
  cases sts with
  | nil =>
    cases h
    exact wpAny_execs_nil (hQ .next F D s.heap s.toks rfl y Kp.refl)
  | cons st rest =>
    refine wpAny_execs_cons (seq_e h (fun ρ₁ σ₁ h1 h => ?_) fun p ρ₁ σ₁ h1 e => ?_)
    · refine hS D₀ σ₀ h₀ nm env ρ st σ .next ρ₁ σ₁ F D s A _ E X y hr h1 fun f F₁ D₁ h₁ tk₁ hf y₁ k₁ => ?_
      cases (show f = .next from hf)
      exact hSs D₀ σ₀ h₀ nm env ρ₁ rest σ₁ r ρ' σ' F₁ D₁ { s with heap := h₁, toks := tk₁ } A Q E X y₁ hr h fun f F₂ D₂ h₂ tk₂ hf y₂ k₂ => hQ f F₂ D₂ h₂ tk₂ hf y₂ (k₁.trans k₂)
    · cases e
      refine hS D₀ σ₀ h₀ nm env ρ st σ (.ret p) _ _ F D s A _ E X y hr h1 fun f F₁ D₁ h₁ tk₁ hf y₁ k₁ => ?_
      refine Classical.byContradiction fun hG => ?_
      obtain ⟨v, rfl, vr⟩ := hf
      refine hG ?_
      exact hQ (.ret v) F₁ D₁ h₁ tk₁ ⟨v, rfl, vr⟩ y₁ k₁

section
variable (prog w d H T C m n)
/-- one form of a statement -/
noncomputable def SndS {st : Stmt} (v : StV st) : Prop := ∀ D₀ σ₀ h₀ nm env ρ σ (x : Res × Rho × Nat) F D s A (Q : Flow → Shared → Prop) E, EnvOk nm env → SSt prog w d T.cells H D₀ σ₀ h₀ env ρ F σ D s.heap → Room m A → stepS T C n (sts T C n) nm ρ σ v = some x →
  (∀ f F' D' h' tk, FlowIs prog w d D' x.1 f → SSt prog w d T.cells H D₀ σ₀ h₀ env x.2.1 F' x.2.2 D' h' → Kp d env F D s.heap F' D' h' → Q f { s with heap := h', toks := tk }) → wpAny (model prog w) A (exec st env) Q E s
end
theorem ss_ret' (tab : TabOk prog w H T) (orc : OrcOk prog w d H T.cells C m) {e : Expr} {pos : Pos} : SndS prog w d H T C m n (.ret e pos) := fun D₀ σ₀ h₀ nm env ρ σ x F D s A Q E X y hr h hQ => bnd_e h fun p σ₁ h1 h => by
  cases h
  obtain ⟨y1, k1⟩ := y.frz (reads e)
  exact wpAny_Return_some ((ev_all tab orc n).1 nm env _ _ σ p _ _ s A _ E X y1.toRSt hr h1 fun v D' h' tk ok vr => hQ (.ret v) _ D' h' tk ⟨v, rfl, vr⟩ (y1.step ok) (k1.trans (Kp.of_ok ok)))
theorem ss_asg (tab : TabOk prog w H T) (orc : OrcOk prog w d H T.cells C m) {x : Str} {xp : Pos} {e : Expr} {pos : Pos} : SndS prog w d H T C m n (.asg x xp e pos) := fun D₀ σ₀ h₀ nm env ρ σ x F D s A Q E X y hr h hQ => gd_e h fun hc h => bnd_e h fun sl σ₁ h1 h => by
  cases h
  exact assignName_ok tab orc X hr y (not_f (or_f hc).1) (or_f hc).2 h1 fun F' D' h' tk y' k' => hQ .next F' D' h' tk rfl y' k'
theorem tup_e {f : Nat → Option (List Slot × Nat)} {nm : NM} {es : List Expr} {ρ : Rho} {σ : Nat} {o : Option (List Str)} {x : Res × Rho × Nat} (h : evTup f nm es ρ σ o = some x) :
    ∃ xs ss σ₁, o = some xs ∧ f σ = some (ss, σ₁) ∧ x = (.next, updAll xs ss ρ, σ₁) ∧ xs.all (ownName nm) = true ∧ xs.Nodup ∧ xs.length = es.length ∧ es.any isStarred = false ∧ es.all (constantsAlone 8) = false ∧ es.length ≤ 10 := by
  cases o with
  | none => exact no h
  | some xs =>
    refine gd_e h fun hc h => bnd_e h fun ss σ₁ h1 h => ?_
    refine Classical.byContradiction fun hG => ?_
    obtain ⟨hc, c6⟩ := or_f hc
    obtain ⟨hc, c5⟩ := or_f hc
    obtain ⟨hc, c4⟩ := or_f hc
    obtain ⟨hc, c3⟩ := or_f hc
    obtain ⟨c1, c2⟩ := or_f hc
    refine hG ?_
    exact ⟨xs, ss, σ₁, rfl, h1, (Option.some.inj h).symm, not_f c1, of_decide_eq_true (not_f c2), eq_of_beq (not_f c3), c4, c5, Nat.not_lt.mp (of_decide_eq_false c6)⟩
theorem ss_tup (tab : TabOk prog w H T) (orc : OrcOk prog w d H T.cells C m) {ts : List Expr} {k : Nat} {tp : Pos} {es : List Expr} {k2 : Nat} {ep pos : Pos} : SndS prog w d H T C m n (.tup ts k tp es k2 ep pos) := fun D₀ σ₀ h₀ nm env ρ σ x F D s A Q E X y hr h hQ => by
  refine Classical.byContradiction fun hG => ?_
  obtain ⟨xs, ss, σ₁, hn, h1, rfl, c1, c2, c3, c4, c5, c6⟩ := tup_e h
  obtain ⟨y1, k1⟩ := y.frz (readss es)
  refine hG ?_
  exact tupleAssign_ok tab orc X hr y1 hn c1 c2 c3 c4 c5 c6 h1 fun F' D' h' tk y' k' => hQ .next F' D' h' tk rfl y' (k1.trans k')
theorem tape_e {ρ : Rho} {p k : PV} {x : Res × Rho × Nat} (h : setTape ρ p k = some x) : ∃ j, k = .str ("spot" : Str) ∧ p = .int j ∧ 0 ≤ j ∧ x = (.next, ρ, j.toNat) := by
  cases k with
  | str k =>
    cases p with
    | int j =>
      refine gd_e h fun hk h => ?_
      have hk := Bool.and_eq_true_iff.mp (not_f hk)
      exact ⟨j, congrArg PV.str (eq_of_beq hk.1), rfl, of_decide_eq_true hk.2, (Option.some.inj h).symm⟩
    | _ => exact no h
  | _ => exact no h
theorem dct_e {ρ : Rho} {y : Str} {ks : List Str} {vs : List PV} {p k : PV} {σ : Nat} {x : Res × Rho × Nat} (h : setDct ρ y ks vs p k σ = some x) : ∃ j, k = .str j ∧ x = (.next, upd ρ y (.dct (putK j p ks vs).1 (putK j p ks vs).2), σ) := by
  cases k with
  | str k => exact ⟨k, rfl, (Option.some.inj h).symm⟩
  | _ => exact no h
theorem isTape_e {q : PV} (h : isTape q = true) : q = .tape := by
  cases q with
  | tape => rfl
  | _ => cases h
theorem ss_sub (tab : TabOk prog w H T) (orc : OrcOk prog w d H T.cells C m) {x : Str} {xp : Pos} {i : Expr} {sp : Pos} {e : Expr} {pos : Pos} : SndS prog w d H T C m n (.sub x xp i sp e pos) := fun D₀ σ₀ h₀ nm env ρ σ z F D s A Q E X y hr h hQ => gd_e h fun hc h => bnd_e h fun p σ₁ h1 h => by
  have hc := or_f hc
  cases hx : frz (reads e) ρ x with
  | none => rw [hx] at h; exact no h
  | some sl =>
    rw [hx] at h
    cases sl with
    | val q =>
      refine gd_e h fun ht h => bnd_e h fun k σ₂ h2 h => ?_
      refine Classical.byContradiction fun hG => ?_
      obtain ⟨j, rfl, rfl, hj, rfl⟩ := tape_e h
      refine hG ?_
      cases isTape_e (not_f ht)
      exact tapeSet_ok tab orc X hr y hc.1 hc.2 h1 hx h2 rfl hj fun F' D' h' tk y' k' => hQ .next F' D' h' tk rfl y' k'
    | dct ks vs =>
      refine gd_e h fun hc2 h => bnd_e h fun k σ₂ h2 h => ?_
      refine Classical.byContradiction fun hG => ?_
      obtain ⟨j, rfl, rfl⟩ := dct_e h
      refine hG ?_
      exact dctSet_ok tab orc X hr y hc.1 hc.2 (or_f hc2).1 (not_f (or_f hc2).2) h1 hx h2 fun F' D' h' tk y' k' => hQ .next F' D' h' tk rfl y' k'
    | _ => exact no h
theorem ss_app (tab : TabOk prog w H T) (orc : OrcOk prog w d H T.cells C m) {x : Str} {xp : Pos} {mt : Str} {ap : Pos} {e : Expr} {pos sp : Pos} : SndS prog w d H T C m n (.app x xp mt ap e pos sp) := fun D₀ σ₀ h₀ nm env ρ σ z F D s A Q E X y hr h hQ => gd_e h fun hc hh => by
  refine Classical.byContradiction fun hG => ?_
  obtain ⟨hc, c5⟩ := or_f hc
  obtain ⟨hc, c4⟩ := or_f hc
  obtain ⟨hc, c3⟩ := or_f hc
  obtain ⟨c1, c2⟩ := or_f hc
  refine hG ?_
  cases (show mt = ("append" : Str) from eq_of_beq (not_f c1))
  cases hx : ρ x with
  | none => rw [hx] at hh; exact no hh
  | some sl =>
    rw [hx] at hh
    cases sl with
    | lst l =>
      refine bnd_e hh fun p σ₁ h1 h => gd_e h fun hsm h => ?_
      cases h
      exact append_ok tab orc X hr y rfl c2 c3 c4 (by rw [beq_iff_eq]; exact eq_of_beq (not_f c5)) hx (not_f hsm) h1 fun F' D' h' tk y' k' => hQ .next F' D' h' tk rfl y' k'
    | _ => exact no hh
theorem key_e {f : Int → Option (Res × Rho × Nat)} {k : PV} {x : Res × Rho × Nat} (h : keyI f k = some x) : ∃ i, k = .int i ∧ f i = some x := by
  cases k with
  | int i => exact ⟨i, rfl, h⟩
  | _ => exact no h
theorem ss_mm (tab : TabOk prog w H T) (orc : OrcOk prog w d H T.cells C m) {x : Str} {xp : Pos} {mt : Str} {ap : Pos} {k : Expr} {lp p1 : Pos} {m2 : Str} {ap2 : Pos} {e : Expr} {pos sp : Pos} : SndS prog w d H T C m n (.mm x xp mt ap k lp p1 m2 ap2 e pos sp) := fun D₀ σ₀ h₀ nm env ρ σ z F D s A Q E X y hr h hQ => gd_e h fun hc h => by
  refine Classical.byContradiction fun hG => ?_
  obtain ⟨hc, c9⟩ := or_f hc
  obtain ⟨hc, c8⟩ := or_f hc
  obtain ⟨hc, c7⟩ := or_f hc
  obtain ⟨hc, c6⟩ := or_f hc
  obtain ⟨hc, c5⟩ := or_f hc
  obtain ⟨hc, c4⟩ := or_f hc
  obtain ⟨hc, c3⟩ := or_f hc
  obtain ⟨c1, c2⟩ := or_f hc
  refine hG ?_
  cases hx : ρ x with
  | none => rw [hx] at h; exact no h
  | some sl =>
    rw [hx] at h
    cases sl with
    | mm ks ls =>
      refine bnd_e h fun kv σ₁ h1 h => ?_
      refine Classical.byContradiction fun hG => ?_
      obtain ⟨i, rfl, h⟩ := key_e h
      refine hG ?_
      refine bnd_e h fun p σ₂ h2 h => gd_e h fun hsm h => ?_
      cases h
      have hsm := Bool.and_eq_true_iff.mp (not_f hsm)
      exact mmAppend_ok tab orc X hr y (eq_of_beq (not_f c1)) (eq_of_beq (not_f c2)) c3 c4 c5 c6 c7 (by rw [beq_iff_eq]; exact eq_of_beq (not_f c8)) (by rw [beq_iff_eq]; exact eq_of_beq (not_f c9)) hx hsm.1 hsm.2 h1 h2 fun F' D' h' tk y' k' => hQ .next F' D' h' tk rfl y' k'
    | _ => exact no h
theorem ss_ite (tab : TabOk prog w H T) (orc : OrcOk prog w d H T.cells C m) (hSs : EvSsG prog w d H T C m n) {t : Expr} {a b : List Stmt} {pos : Pos} : SndS prog w d H T C m n (.ite t a b pos) := fun D₀ σ₀ h₀ nm env ρ σ z F D s A Q E X y hr h hQ => bnd_e h fun c σ₁ h1 h => by
  obtain ⟨y1, k1⟩ := y.frz (reads t)
  refine wpAny_If ((ev_all tab orc n).2.1 nm env _ _ σ c σ₁ _ s A _ E X y1.toRSt hr h1 fun D' h' tk ok => ?_)
  have key := hSs D₀ σ₀ h₀ nm env _ (if c = true then a else b) σ₁ z.1 z.2.1 z.2.2 _ D' { s with heap := h', toks := tk } A Q E X (y1.step ok) hr h fun f F₂ D₂ h₂ tk₂ hf y₂ k₂ => hQ f F₂ D₂ h₂ tk₂ hf y₂ ((k1.trans (Kp.of_ok ok)).trans k₂)
  cases c with
  | true => exact key
  | false => exact key
theorem ss_for (tab : TabOk prog w H T) (orc : OrcOk prog w d H T.cells C m) (hSs : EvSsG prog w d H T C m n) {t it : Expr} {b : List Stmt} {pos : Pos} : SndS prog w d H T C m n (.for_ t it b pos) := fun D₀ σ₀ h₀ nm env ρ σ z F D s A Q E X y hr h hQ => gd_e h fun hc h => bnd_e h fun its σ₁ h1 h =>
  for_ok (ev_all tab orc n).2.2 hSs X hr y (not_f (or_f (or_f hc).1).1) (or_f (or_f hc).1).2 (or_f hc).2 h1 h hQ
theorem ss_while (tab : TabOk prog w H T) (orc : OrcOk prog w d H T.cells C m) (hSs : EvSsG prog w d H T C m n) {t : Expr} {b : List Stmt} {pos : Pos} : SndS prog w d H T C m n (.while_ t b pos) := fun D₀ σ₀ h₀ nm env ρ σ z F D s A Q E X y hr h hQ => while_ok (ev_all tab orc n).2.1 hSs X hr y h hQ
theorem ss_all (tab : TabOk prog w H T) (orc : OrcOk prog w d H T.cells C m) (hSs : EvSsG prog w d H T C m n) {st : Stmt} (v : StV st) : SndS prog w d H T C m n v := by
  cases v with
  | ret => exact ss_ret' tab orc
  | asg => exact ss_asg tab orc
  | tup => exact ss_tup tab orc
  | sub => exact ss_sub tab orc
  | app => exact ss_app tab orc
  | mm => exact ss_mm tab orc
  | ite => exact ss_ite tab orc hSs
  | for_ => exact ss_for tab orc hSs
  | while_ => exact ss_while tab orc hSs
  | other => exact fun D₀ σ₀ h₀ nm env ρ σ z F D s A Q E X y hr h => no h
theorem evS_step (tab : TabOk prog w H T) (orc : OrcOk prog w d H T.cells C m) (hSs : EvSsG prog w d H T C m n) : EvSG prog w d H T C m (n + 1) :=
  fun D₀ σ₀ h₀ nm env ρ st σ r ρ' σ' F D s A Q E X y hr h hQ => ss_all tab orc hSs (sview st) D₀ σ₀ h₀ nm env ρ σ (r, ρ', σ') F D s A Q E X y hr h hQ

theorem evS_all (tab : TabOk prog w H T) (orc : OrcOk prog w d H T.cells C m) : ∀ n, EvSG prog w d H T C m n ∧ EvSsG prog w d H T C m n
  | 0 => ⟨fun _ _ _ _ _ _ _ _ _ _ _ _ _ _ _ _ _ _ _ _ h => no h, fun _ _ _ _ _ _ _ _ _ _ _ _ _ _ _ _ _ _ _ _ h => no h⟩
  | n + 1 => let ⟨a, b⟩ := evS_all tab orc n; ⟨evS_step tab orc b, evSs_step a b⟩
end
end Mine

/- part Fun1 -/
set_option tactic.hygienic true
namespace Mine

/-- a function object as the evaluator reads it -/
structure FnOk (H : Heap) (a : Addr) (f : Fn) : Prop where
  ex : ∃ o fd, H.get? a = some o ∧ o.data = .func fd ∧ fd.body = .stmts f.body ∧ fd.scope.names = f.names ∧ fd.closure = [] ∧ fd.globals = mainGlobals ∧ fd.builtins = builtinsNs ∧ H.CodeRec fd.code fd.qualname ∧
    fd.scope.kind = .function ∧ fd.scope.isCoroutine = false ∧ fd.scope.isGenerator = false ∧ ∀ vals : List Value, vals.length = f.params.length → PySem.bindArgs fd ⟨vals, []⟩ = pure (f.params.zip vals)
  par : f.params.all (ownName f.names) = true
  fre : f.names.all (fun y => y.2 != .free) = true

theorem bindL_eq {k : Str → Option NameKind} : ∀ (binds : List (Str × Value)) (m : Str → Option Value) (x : Str), bindL k binds m x = if k x = some .local then (binds.reverse.lookup x).or (m x) else m x
  | [], m, x => by simp [bindL]
  | (n, v) :: r, m, x => by
    unfold bindL
    rw [bindL_eq r _ x, List.reverse_cons, List.lookup_append]
    by_cases hx : k x = some .local
    · rw [if_pos hx, if_pos hx]
      cases List.lookup x r.reverse with
      | some u => rfl
      | none =>
        by_cases e : x = n
        · subst e; rw [if_pos hx]; simp
        · have : (x == n) = false := by simpa using e
          simp only [Option.none_or, List.lookup_cons, this, List.lookup_nil]
          split <;> simp [e]
    · rw [if_neg hx, if_neg hx]
      split
      · rename_i hn
        dsimp only
        rw [if_neg (fun (e : x = n) => hx (by rw [e]; exact hn))]
      · rfl
theorem bindC_eq {k : Str → Option NameKind} : ∀ (binds : List (Str × Value)) (m : Str → Option Value) (x : Str), bindC k binds m x = if k x = some .local then m x else (binds.reverse.lookup x).or (m x)
  | [], m, x => by simp [bindC]
  | (n, v) :: r, m, x => by
    unfold bindC
    rw [bindC_eq r _ x, List.reverse_cons, List.lookup_append]
    by_cases hx : k x = some .local
    · rw [if_pos hx, if_pos hx]
      split
      · rfl
      · rename_i hn
        dsimp only
        rw [if_neg (fun (e : x = n) => hn (by rw [← e]; exact hx))]
    · rw [if_neg hx, if_neg hx]
      cases List.lookup x r.reverse with
      | some u => rfl
      | none =>
        by_cases e : x = n
        · subst e; rw [if_neg hx]; simp
        · have : (x == n) = false := by simpa using e
          simp only [Option.none_or, List.lookup_cons, this, List.lookup_nil]
          split <;> simp [e]

theorem cellsFrom_mem : ∀ {names : List (Str × NameKind)} {n : Nat} {acc : List (Str × Addr)} {x : Str}, ((x, NameKind.cell) ∈ names ∨ (acc.lookup x).isSome = true) → ((cellsFrom n names acc).lookup x).isSome = true
  | [], n, acc, x, h => by
    rcases h with h | h
    · cases h
    · exact h
  | (y, k) :: r, n, acc, x, h => by
    unfold cellsFrom
    split
    · rename_i hk
      refine cellsFrom_mem ?_
      rcases h with h | h
      · rcases List.mem_cons.mp h with e | h
        · cases e; exact .inr (by simp)
        · exact .inl h
      · right
        rw [List.lookup_cons]
        split
        · rfl
        · exact h
    · rename_i hk
      refine cellsFrom_mem ?_
      rcases h with h | h
      · rcases List.mem_cons.mp h with e | h
        · cases e; exact absurd rfl hk
        · exact .inl h
      · exact .inr h

section
variable {prog : Program} {w : World} {d : Addr} {H : Heap} {T : Tab} {C : Orc} {m : Nat} {A : Around}

theorem zip_lookup {D : Fz} {x : Str} {p : PV} : ∀ {ps : List Str} {args : List PV} {vs : List Value}, VRs prog w d D args vs → ((ps.zip args).reverse.lookup x) = some p → ∃ v, (ps.zip vs).reverse.lookup x = some v ∧ VR prog w d D p v
  | [], _, _, _, h => by simp at h
  | _ :: _, [], _, _, h => by simp at h
  | n :: ps, a :: args, vs, r, h => by
    refine Classical.byContradiction fun hG => ?_
    obtain ⟨v, vs', rfl, r1, r2⟩ := r
    refine hG ?_
    simp only [List.zip_cons_cons, List.reverse_cons, List.lookup_append] at h ⊢
    cases e : List.lookup x (ps.zip args).reverse with
    | some q =>
      rw [e] at h
      simp only [Option.some_or, Option.some.injEq] at h
      subst h
      refine Classical.byContradiction fun hG => ?_
      obtain ⟨u, e1, e2⟩ := zip_lookup r2 e
      refine hG ?_
      exact ⟨u, by rw [e1]; rfl, e2⟩
    | none =>
      rw [e] at h
      simp only [Option.none_or] at h
      have e3 : List.lookup x (ps.zip vs').reverse = none := by
        cases e4 : List.lookup x (ps.zip vs').reverse with
        | none => rfl
        | some u =>
          exfalso
          have h1 := lookup_mem e4
          rw [List.mem_reverse] at h1
          refine Classical.byContradiction fun hG => ?_
          obtain ⟨i, hi, e5⟩ := List.getElem_of_mem h1
          refine hG ?_
          have hl := r2.length
          have : (x, args[i]'(by simp at hi; exact hl ▸ Nat.lt_of_lt_of_le hi (Nat.min_le_right _ _))) ∈ ps.zip args := by
            simp only [List.length_zip] at hi
            have e6 : (ps.zip vs')[i].1 = x := by rw [e5]
            simp only [List.getElem_zip] at e6
            rw [← e6, ← List.getElem_zip (h := by simp; exact hl ▸ hi)]
            exact List.getElem_mem _
          rw [List.lookup_eq_none_iff] at e
          have := e _ (List.mem_reverse.mpr this)
          simp at this
      rw [e3]
      simp only [Option.none_or]
      by_cases q : x = n
      · subst q; simp at h ⊢; subst h; exact r1
      · have : (x == n) = false := by simpa using q
        simp [List.lookup_cons, this] at h

theorem entry_env {fd : FuncData} {f : Fn} {L a : Addr} (hn : fd.scope.names = f.names) (hg : fd.globals = mainGlobals) (hb : fd.builtins = builtinsNs) (hk : fd.scope.kind = .function) (fre : f.names.all (fun y => y.2 != .free) = true) : EnvOk f.names (callEnvC fd L a) := by
  have kk : ∀ x, (callEnvC fd L a).kindOf x = f.names.lookup x := fun x => by rw [← hn]; rfl
  have nf : ∀ x, f.names.lookup x ≠ some .free := fun x e => by
    have := List.all_eq_true.mp fre _ (lookup_mem e); simp at this
  refine ⟨hk, hg, hb, fun x e => (kk x).trans e, fun x e => (kk x).trans e, fun x e => (kk x).trans e, fun x e => absurd e (nf x), fun x e => ?_⟩
  rcases e with e | e
  · have : (x, NameKind.cell) ∈ fd.scope.names := by rw [hn]; exact lookup_mem e
    exact Option.isSome_iff_exists.mp (cellsFrom_mem (n := L + 1) (acc := []) (.inl this))
  · exact absurd e (nf x)

theorem run_ok (tab : TabOk prog w H T) (orc : OrcOk prog w d H T.cells C m) {a : Addr} {f : Fn} (fo : FnOk H a f) (hlim : H.NoLimit) {args : List PV} {vs : List Value} {p : PV} {σ σ' : Nat} {D : Fz} {s : Shared} {Q : Value → Shared → Prop} {E : Value → Shared → Prop}
    (h : runFn T C f args σ = some (p, σ')) (g : Gd prog w d T.cells H D σ s.heap) (vrs : VRs prog w d D args vs) (hr : Room (m + 1) A) (en : Ends prog w d T.cells p σ' D σ s Q) : wpAny (model prog w) A (call (.ref a) vs) Q E s := by
  refine Classical.byContradiction fun hG => ?_
  obtain ⟨o, fd, ho, hd, hb, hn, hcl, hg, hbl, hcr, hk, hco, hgen, hbind⟩ := fo.ex
  refine hG ?_
  unfold runFn at h
  split at h
  · cases h
  rename_i hlen
  have hlen : f.params.length = args.length := by simpa using hlen
  have hlv : vs.length = f.params.length := by rw [vrs.length, hlen]
  have key : ∀ (r : Res) (ρ' : Rho), evSs T C 40 f.names (rho0 f.params args) f.body σ = some (r, ρ', σ') → (∀ D' fl, FlowIs prog w d D' r fl → VR prog w d D' p (match fl with | .ret v => v | _ => .none)) → wpAny (model prog w) A (call (.ref a) vs) Q E s := by
    intro r ρ' h hp
    have X : EnvOk f.names (callEnvC fd s.heap.objs.size a) := entry_env hn hg hbl hk fo.fre
    have kk : ∀ x, (callEnvC fd s.heap.objs.size a).kindOf x = f.names.lookup x := fun x => by rw [← hn]; rfl
    refine wpAny_call (codeAny_call_cells (vals := vs) (binds := f.params.zip vs) (by have := hr.depth; (with_reducible exact q_mll' ‹_›)) (g.base _ _ ho) hd (hlim.keeps g.base) (let ⟨c, oc, vs, tq, hc, hoc, r⟩ := hcr; ⟨c, oc, vs, tq, hc, g.base _ _ hoc, r⟩) hb (hbind vs hlv) hcl (fun x hx => ?_) (fun s₁ ic => ?_) hco hgen hk)
    · have := List.all_eq_true.mp fo.par _ (List.of_mem_zip hx).1
      unfold ownName at this
      rw [hn]
      simp only [Bool.or_eq_true, beq_iff_eq] at this
      rcases this with e | e
      · exact .inl e
      · exact .inr ⟨e, cellsFrom_mem (.inl (lookup_mem e))⟩
    · obtain ⟨h1, tk1, rfl, keep⟩ := ic.done
      have hL : (callEnvC fd s.heap.objs.size a).locals = s.heap.objs.size := rfl
      have free : s.heap.get? s.heap.objs.size = none := get?_ge (Nat.le_refl _)
      have ok : Ok prog w d T.cells D σ s.heap D σ h1 := Ok.grown g keep
      have cgt : ∀ x c, (callEnvC fd s.heap.objs.size a).cells.lookup x = some c → s.heap.objs.size < c := fun x c e => ic.above x c (lookup_mem e)
      have st : SSt prog w d T.cells H D σ s.heap (callEnvC fd s.heap.objs.size a) (rho0 f.params args) (fun _ => []) σ D h1 := by
        refine ⟨ok, g.step ok, g.base, by rw [hL]; exact free, by rw [hL]; exact Nat.ne_of_gt g.tape.lt, by rw [hL]; exact g.free free, ⟨_, ic.toInCall.ns⟩, fun x c e => ?_, fun x y c e1 e2 => name_of_addr ic.apart (lookup_mem e1) (lookup_mem e2), fun x b hb => (by cases hb), fun x y b hb => (by cases hb), fun x sl e => ?_, fun _ _ => rfl⟩
        · have hc := cgt x c e
          have fc : s.heap.get? c = none := get?_ge (Nat.le_of_lt hc)
          exact ⟨fc, Nat.ne_of_gt (Nat.lt_trans g.tape.lt hc), by rw [hL]; exact Nat.ne_of_gt hc, g.free fc, _, ic.cell x c e⟩
        · unfold rho0 at e
          simp only [Option.map_eq_some_iff] at e
          refine Classical.byContradiction fun hG => ?_
          obtain ⟨q, e, rfl⟩ := e
          obtain ⟨v, e1, e2⟩ := zip_lookup vrs e
          refine hG ?_
          refine ⟨v, ?_, e2, rfl⟩
          have hx : x ∈ f.params := by
            have := lookup_mem e
            rw [List.mem_reverse] at this
            exact (List.of_mem_zip this).1
          have ow := List.all_eq_true.mp fo.par x hx
          unfold ownName at ow
          simp only [Bool.or_eq_true, beq_iff_eq] at ow
          rcases ow with e3 | e3
          · refine .inl ⟨(kk x).trans e3, _, ic.toInCall.ns, ?_⟩
            rw [bindL_eq, if_pos ((kk x).trans e3), e1]; rfl
          · obtain ⟨c, hc⟩ := X.cel x (.inl e3)
            refine .inr ⟨.inl ((kk x).trans e3), c, hc, ?_⟩
            have := ic.cell x c hc
            rw [bindC_eq, if_neg (by rw [kk x, e3]; decide), e1] at this
            exact this
      have hr' : Room m (A.deeper (callEnvC fd s.heap.objs.size a)) := ⟨by have := hr.depth; rw [depth_deeper]; (with_reducible exact q_msl' ‹_›), by have := hr.units; rw [units_deeper]; exact q_203 this, hr.hand⟩
      refine (evS_all tab orc 40).2 D σ s.heap f.names _ _ f.body σ r ρ' σ' _ D { s with heap := h1, toks := tk1 } _ _ _ X st hr' h fun fl F' D' h' tk hf y k => ?_
      exact en _ D' h' tk y.ok (hp D' fl hf)
  split at h
  · rename_i q ρ' σ1 h1
    cases h
    exact key (.ret p) ρ' h1 fun D' fl ⟨v, e, vr⟩ => by subst e; exact vr
  · rename_i ρ' σ1 h1
    cases h
    exact key .next ρ' h1 fun D' fl e => by
      have e : fl = .next := e
      subst e; simp only [VR]
  · cases h
end
end Mine

set_option tactic.hygienic false
/- part Top1 -/
namespace Mine

noncomputable abbrev KK (P : Params) : Frag := hd.heap_1 P

noncomputable def addrs : List (Str × Nat) := [("set_of",19),("univ_of",24),("iden_of",29),("union",36),("meet",41),("minus",46),("is_within",53),("product",58),("join",63),("override",87),("ahead",92),("behind",97),
 ("_law_tape",173),("_law_draw",180),("_law_leaf",185),("_law_truth",192),("_law_comp",199),("_law_expr",206),("_law_arity",213),("_law_places",220),("_law_block",227),("_law_bits",232),("_law_chosen",239),("_law_holds",246),("_law_tuples",253),("law",258),
 ("set_of_sets",19),("Evaluator",164)]
noncomputable def maddrs : List (Str × Nat) := [("opened",118),("set_of",123),("of_one",130),("of_two",137),("number_of",142),("truth",147),("compared",154),("has_many",161)]
noncomputable def tab (cells : List Int) : Tab := { glob := addrs, meth := maddrs, cells := cells }

theorem glob_in (P : Params) : (addrs.all fun x => nsIn (KK P) mainGlobals x.1 == some (some (.ref x.2))) = true := by kernel_rfl
theorem keep_in (P : Params) : (addrs.all fun x => keepIn (KK P) (.ref x.2)) = true := by kernel_rfl
theorem keepM_in (P : Params) : (maddrs.all fun x => keepIn (KK P) (.ref x.2)) = true := by kernel_rfl
theorem blt_in (P : Params) : (bnames.all fun x => nsIn (KK P) mainGlobals x == some none) = true := by kernel_rfl
theorem blt_v : (bnames.all fun x => bootBuiltins x == some (bval x)) = true := by kernel_rfl
theorem meth_in (P : Params) : (maddrs.all fun x => findIn (KK P) (.ref 164) x.1 == some (some (.ref x.2)) && isFn (KK P) (.ref x.2)) = true := by kernel_rfl
theorem pg1 (P : Params) : plainGet (KK P) 164 "many" = true := by kernel_rfl
theorem hd1 (P : Params) : hasDictIn (KK P) 164 = true := by kernel_rfl
theorem fi1 (P : Params) : findIn (KK P) (.ref 164) "many" = some none := by kernel_rfl
theorem fi2 (P : Params) : findIn (KK P) (.ref 164) "instance" = some none := by kernel_rfl
theorem getL_meth {q1 q2 : Int} {t1 t2 : Tok} {mv iv : Value} : ∀ x ∈ maddrs, getL x.1 [⟨q1, .str "many" t1, mv⟩, ⟨q2, .str "instance" t2, iv⟩] = some none := by
  intro x hx
  simp only [maddrs, List.mem_cons, List.not_mem_nil, or_false] at hx
  rcases hx with rfl | rfl | rfl | rfl | rfl | rfl | rfl | rfl <;> rfl

theorem tab_ok {prog : Program} {w : World} {H : Heap} {cells : List Int} {p : Program} {loose : List Str} {mg mb : Str → Option Value} (X : (KK w.params).In H) (T : TopRead p loose mg mb H) : TabOk prog w H (tab cells) where
  glob := fun {f a env pos A s Q E} hf hk hg hx hd hb h => by
    have e := List.all_eq_true.mp (glob_in w.params) _ (lookup_mem hf)
    exact Calls.Name_function_global hk hx (Calls.loadGlobal_global (mg := mg) (by rw [hg]; exact T.g.keeps hb) (mg_of X T.g (beq_iff_eq.mp e)) h) hd
  blt := fun {f env pos A s Q E} hno hf hk hg hbl hx hd hb h => by
    have e1 := beq_iff_eq.mp (List.all_eq_true.mp (blt_in w.params) _ hf)
    have e2 := beq_iff_eq.mp (List.all_eq_true.mp blt_v _ hf)
    have hn : f ≠ "__name__" := by
      rintro rfl
      exact absurd hf (by decide +kernel)
    exact Calls.Name_function_global hk hx (Calls.loadGlobal_builtin (mg := mg) (mb := mb) (by rw [hg]; exact T.g.keeps hb) (mg_none_of X T.g e1) (by rw [hbl]; exact T.b.keeps hb) ((T.builtins _ hn).trans e2) h) hd
  keepG := fun {f a} hf h hb => keeps_K (List.all_eq_true.mp (keep_in w.params) _ (lookup_mem hf)) h (X.keeps hb)
  keepM := fun {f a} hf h hb => keeps_K (List.all_eq_true.mp (keepM_in w.params) _ (lookup_mem hf)) h (X.keeps hb)
  meth := fun {f a x mv iv D pl A s Q E} hf I on hb h => by
    have hm := lookup_mem hf
    have e := List.all_eq_true.mp (meth_in w.params) _ hm
    simp only [Bool.and_eq_true] at e
    refine Classical.byContradiction fun hG => ?_
    obtain ⟨dx, q1, q2, t1, t2, n, h1, h2⟩ := I
    refine hG ?_
    have X' := X.keeps hb
    have I' : InstAt s.heap x (instObj 164 dx) 164 (some (dictOf [⟨q1, .str "many" t1, mv⟩, ⟨q2, .str "instance" t2, iv⟩] n)) := ⟨on _ _ h1, rfl, rfl, on _ _ h2⟩
    have pg := plainGet_of (pg1 w.params)
    refine method_fn X' I' pg.1 pg.2 (beq_iff_eq.mp e.1) (beq_iff_eq.mp e.2) ?_ h
    show (lookIn f (dictOf _ n)).map _ = _
    rw [lookIn_dict, getL_meth _ hm]; rfl
  many := fun {x mv iv D ex A s Q E} I on hb hh h => by
    refine Classical.byContradiction fun hG => ?_
    obtain ⟨dx, q1, q2, t1, t2, n, h1, h2⟩ := I
    refine hG ?_
    have I' : InstAt s.heap x (instObj 164 dx) 164 (some (dictOf [⟨q1, .str "many" t1, mv⟩, ⟨q2, .str "instance" t2, iv⟩] n)) := ⟨on _ _ h1, rfl, rfl, on _ _ h2⟩
    exact get_value (X.keeps hb) I' (plainGet_of (pg1 w.params)).1 (findObj_own (hd1 w.params) (fi1 w.params) rfl rfl) hh h
  inst := fun {x mv iv D ex A s Q E} I on hb hh h => by
    refine Classical.byContradiction fun hG => ?_
    obtain ⟨dx, q1, q2, t1, t2, n, h1, h2⟩ := I
    refine hG ?_
    have I' : InstAt s.heap x (instObj 164 dx) 164 (some (dictOf [⟨q1, .str "many" t1, mv⟩, ⟨q2, .str "instance" t2, iv⟩] n)) := ⟨on _ _ h1, rfl, rfl, on _ _ h2⟩
    exact get_value (X.keeps hb) I' (plainGet_of (pg1 w.params)).1 (findObj_own (hd1 w.params) (fi2 w.params) rfl rfl) hh h
end Mine

/- part Fns -/
namespace Mine

noncomputable def body : List Stmt := PySem.Challenge.pw_nz0387_01.main.body
noncomputable def findDef (n : Str) : List Stmt → Option Fn
  | .FunctionDef m args b _ _ _ sc _ _ _ :: r => if m == n then some { params := args.args.map (·.arg), names := sc.names, body := b } else findDef n r
  | _ :: r => findDef n r
  | [] => none
noncomputable def findCls : List Stmt → List Stmt
  | .ClassDef _ _ _ b _ _ _ _ _ _ _ :: _ => b
  | _ :: r => findCls r
  | [] => []
noncomputable def cbody : List Stmt := findCls body

noncomputable def f_set_of : Fn := (findDef ("set_of" : Str) body).getD ⟨[], [], []⟩
noncomputable def f_univ_of : Fn := (findDef ("univ_of" : Str) body).getD ⟨[], [], []⟩
noncomputable def f_iden_of : Fn := (findDef ("iden_of" : Str) body).getD ⟨[], [], []⟩
noncomputable def f_minus : Fn := (findDef ("minus" : Str) body).getD ⟨[], [], []⟩
noncomputable def f_is_within : Fn := (findDef ("is_within" : Str) body).getD ⟨[], [], []⟩
noncomputable def f_product : Fn := (findDef ("product" : Str) body).getD ⟨[], [], []⟩
noncomputable def f_join : Fn := (findDef ("join" : Str) body).getD ⟨[], [], []⟩
noncomputable def f_override : Fn := (findDef ("override" : Str) body).getD ⟨[], [], []⟩
noncomputable def f_ahead : Fn := (findDef ("ahead" : Str) body).getD ⟨[], [], []⟩
noncomputable def f_behind : Fn := (findDef ("behind" : Str) body).getD ⟨[], [], []⟩
noncomputable def f_l_draw : Fn := (findDef ("_law_draw" : Str) body).getD ⟨[], [], []⟩
noncomputable def f_l_leaf : Fn := (findDef ("_law_leaf" : Str) body).getD ⟨[], [], []⟩
noncomputable def f_l_truth : Fn := (findDef ("_law_truth" : Str) body).getD ⟨[], [], []⟩
noncomputable def f_l_comp : Fn := (findDef ("_law_comp" : Str) body).getD ⟨[], [], []⟩
noncomputable def f_l_expr : Fn := (findDef ("_law_expr" : Str) body).getD ⟨[], [], []⟩
noncomputable def f_l_arity : Fn := (findDef ("_law_arity" : Str) body).getD ⟨[], [], []⟩
noncomputable def f_l_places : Fn := (findDef ("_law_places" : Str) body).getD ⟨[], [], []⟩
noncomputable def f_l_block : Fn := (findDef ("_law_block" : Str) body).getD ⟨[], [], []⟩
noncomputable def f_l_bits : Fn := (findDef ("_law_bits" : Str) body).getD ⟨[], [], []⟩
noncomputable def f_l_chosen : Fn := (findDef ("_law_chosen" : Str) body).getD ⟨[], [], []⟩
noncomputable def f_l_holds : Fn := (findDef ("_law_holds" : Str) body).getD ⟨[], [], []⟩
noncomputable def f_l_tuples : Fn := (findDef ("_law_tuples" : Str) body).getD ⟨[], [], []⟩
noncomputable def m_opened : Fn := (findDef ("opened" : Str) cbody).getD ⟨[], [], []⟩
noncomputable def m_set_of : Fn := (findDef ("set_of" : Str) cbody).getD ⟨[], [], []⟩
noncomputable def m_of_two : Fn := (findDef ("of_two" : Str) cbody).getD ⟨[], [], []⟩
noncomputable def m_number_of : Fn := (findDef ("number_of" : Str) cbody).getD ⟨[], [], []⟩
noncomputable def m_truth : Fn := (findDef ("truth" : Str) cbody).getD ⟨[], [], []⟩
noncomputable def m_compared : Fn := (findDef ("compared" : Str) cbody).getD ⟨[], [], []⟩
noncomputable def m_has_many : Fn := (findDef ("has_many" : Str) cbody).getD ⟨[], [], []⟩
noncomputable def fnsL : List (Nat × Fn) := [(19, f_set_of), (24, f_univ_of), (29, f_iden_of), (46, f_minus), (53, f_is_within), (58, f_product), (63, f_join), (87, f_override), (92, f_ahead), (97, f_behind), (180, f_l_draw), (185, f_l_leaf), (192, f_l_truth), (199, f_l_comp), (206, f_l_expr), (213, f_l_arity), (220, f_l_places), (227, f_l_block), (232, f_l_bits), (239, f_l_chosen), (246, f_l_holds), (253, f_l_tuples), (118, m_opened), (123, m_set_of), (137, m_of_two), (142, m_number_of), (147, m_truth), (154, m_compared), (161, m_has_many)]
noncomputable def fns (a : Nat) : Option Fn := fnsL.lookup a
theorem lenZ {P : List Value → Prop} (h : P []) (vals : List Value) (e : vals.length = 0) : P vals := List.eq_nil_of_length_eq_zero e ▸ h
theorem lenS {P : List Value → Prop} {n : Nat} (h : ∀ a (r : List Value), r.length = n → P (a :: r)) (vals : List Value) (e : vals.length = n + 1) : P vals := by
  cases vals with
  | nil => exact absurd e (Nat.ne_of_lt (Nat.succ_pos n))
  | cons a r => exact h a r (Nat.succ.inj e)
theorem len1 {P : List Value → Prop} (h : ∀ a, P [a]) : ∀ vals : List Value, vals.length = 1 → P vals := lenS fun a => lenZ (P := fun r => P (a :: r)) (h a)
theorem len2 {P : List Value → Prop} (h : ∀ a b, P [a, b]) : ∀ vals : List Value, vals.length = 2 → P vals := lenS fun a => len1 (P := fun r => P (a :: r)) (h a)
theorem len3 {P : List Value → Prop} (h : ∀ a b c, P [a, b, c]) : ∀ vals : List Value, vals.length = 3 → P vals := lenS fun a => len2 (P := fun r => P (a :: r)) (h a)
theorem len4 {P : List Value → Prop} (h : ∀ a b c d, P [a, b, c, d]) : ∀ vals : List Value, vals.length = 4 → P vals := lenS fun a => len3 (P := fun r => P (a :: r)) (h a)
theorem len5 {P : List Value → Prop} (h : ∀ a b c d e, P [a, b, c, d, e]) : ∀ vals : List Value, vals.length = 5 → P vals := lenS fun a => len4 (P := fun r => P (a :: r)) (h a)
section
variable {P : Params} {H : Heap}

theorem ok_f_set_of (X : (KK P).In H) : FnOk H 19 f_set_of := ⟨⟨_, _, X 19 _ rfl, rfl, by kernel_rfl, by kernel_rfl, rfl, rfl, rfl, codeRec_of X (by kernel_rfl), by kernel_rfl, by kernel_rfl, by kernel_rfl, len1 fun _ => by kernel_rfl⟩, by kernel_rfl, by kernel_rfl⟩
theorem ok_f_univ_of (X : (KK P).In H) : FnOk H 24 f_univ_of := ⟨⟨_, _, X 24 _ rfl, rfl, by kernel_rfl, by kernel_rfl, rfl, rfl, rfl, codeRec_of X (by kernel_rfl), by kernel_rfl, by kernel_rfl, by kernel_rfl, len1 fun _ => by kernel_rfl⟩, by kernel_rfl, by kernel_rfl⟩
theorem ok_f_iden_of (X : (KK P).In H) : FnOk H 29 f_iden_of := ⟨⟨_, _, X 29 _ rfl, rfl, by kernel_rfl, by kernel_rfl, rfl, rfl, rfl, codeRec_of X (by kernel_rfl), by kernel_rfl, by kernel_rfl, by kernel_rfl, len1 fun _ => by kernel_rfl⟩, by kernel_rfl, by kernel_rfl⟩
theorem ok_f_minus (X : (KK P).In H) : FnOk H 46 f_minus := ⟨⟨_, _, X 46 _ rfl, rfl, by kernel_rfl, by kernel_rfl, rfl, rfl, rfl, codeRec_of X (by kernel_rfl), by kernel_rfl, by kernel_rfl, by kernel_rfl, len2 fun _ _ => by kernel_rfl⟩, by kernel_rfl, by kernel_rfl⟩
theorem ok_f_is_within (X : (KK P).In H) : FnOk H 53 f_is_within := ⟨⟨_, _, X 53 _ rfl, rfl, by kernel_rfl, by kernel_rfl, rfl, rfl, rfl, codeRec_of X (by kernel_rfl), by kernel_rfl, by kernel_rfl, by kernel_rfl, len2 fun _ _ => by kernel_rfl⟩, by kernel_rfl, by kernel_rfl⟩
theorem ok_f_product (X : (KK P).In H) : FnOk H 58 f_product := ⟨⟨_, _, X 58 _ rfl, rfl, by kernel_rfl, by kernel_rfl, rfl, rfl, rfl, codeRec_of X (by kernel_rfl), by kernel_rfl, by kernel_rfl, by kernel_rfl, len2 fun _ _ => by kernel_rfl⟩, by kernel_rfl, by kernel_rfl⟩
theorem ok_f_join (X : (KK P).In H) : FnOk H 63 f_join := ⟨⟨_, _, X 63 _ rfl, rfl, by kernel_rfl, by kernel_rfl, rfl, rfl, rfl, codeRec_of X (by kernel_rfl), by kernel_rfl, by kernel_rfl, by kernel_rfl, len2 fun _ _ => by kernel_rfl⟩, by kernel_rfl, by kernel_rfl⟩
theorem ok_f_override (X : (KK P).In H) : FnOk H 87 f_override := ⟨⟨_, _, X 87 _ rfl, rfl, by kernel_rfl, by kernel_rfl, rfl, rfl, rfl, codeRec_of X (by kernel_rfl), by kernel_rfl, by kernel_rfl, by kernel_rfl, len2 fun _ _ => by kernel_rfl⟩, by kernel_rfl, by kernel_rfl⟩
theorem ok_f_ahead (X : (KK P).In H) : FnOk H 92 f_ahead := ⟨⟨_, _, X 92 _ rfl, rfl, by kernel_rfl, by kernel_rfl, rfl, rfl, rfl, codeRec_of X (by kernel_rfl), by kernel_rfl, by kernel_rfl, by kernel_rfl, len2 fun _ _ => by kernel_rfl⟩, by kernel_rfl, by kernel_rfl⟩
theorem ok_f_behind (X : (KK P).In H) : FnOk H 97 f_behind := ⟨⟨_, _, X 97 _ rfl, rfl, by kernel_rfl, by kernel_rfl, rfl, rfl, rfl, codeRec_of X (by kernel_rfl), by kernel_rfl, by kernel_rfl, by kernel_rfl, len2 fun _ _ => by kernel_rfl⟩, by kernel_rfl, by kernel_rfl⟩
theorem ok_f_l_draw (X : (KK P).In H) : FnOk H 180 f_l_draw := ⟨⟨_, _, X 180 _ rfl, rfl, by kernel_rfl, by kernel_rfl, rfl, rfl, rfl, codeRec_of X (by kernel_rfl), by kernel_rfl, by kernel_rfl, by kernel_rfl, len2 fun _ _ => by kernel_rfl⟩, by kernel_rfl, by kernel_rfl⟩
theorem ok_f_l_leaf (X : (KK P).In H) : FnOk H 185 f_l_leaf := ⟨⟨_, _, X 185 _ rfl, rfl, by kernel_rfl, by kernel_rfl, rfl, rfl, rfl, codeRec_of X (by kernel_rfl), by kernel_rfl, by kernel_rfl, by kernel_rfl, len3 fun _ _ _ => by kernel_rfl⟩, by kernel_rfl, by kernel_rfl⟩
theorem ok_f_l_truth (X : (KK P).In H) : FnOk H 192 f_l_truth := ⟨⟨_, _, X 192 _ rfl, rfl, by kernel_rfl, by kernel_rfl, rfl, rfl, rfl, codeRec_of X (by kernel_rfl), by kernel_rfl, by kernel_rfl, by kernel_rfl, len2 fun _ _ => by kernel_rfl⟩, by kernel_rfl, by kernel_rfl⟩
theorem ok_f_l_comp (X : (KK P).In H) : FnOk H 199 f_l_comp := ⟨⟨_, _, X 199 _ rfl, rfl, by kernel_rfl, by kernel_rfl, rfl, rfl, rfl, codeRec_of X (by kernel_rfl), by kernel_rfl, by kernel_rfl, by kernel_rfl, len3 fun _ _ _ => by kernel_rfl⟩, by kernel_rfl, by kernel_rfl⟩
theorem ok_f_l_expr (X : (KK P).In H) : FnOk H 206 f_l_expr := ⟨⟨_, _, X 206 _ rfl, rfl, by kernel_rfl, by kernel_rfl, rfl, rfl, rfl, codeRec_of X (by kernel_rfl), by kernel_rfl, by kernel_rfl, by kernel_rfl, len4 fun _ _ _ _ => by kernel_rfl⟩, by kernel_rfl, by kernel_rfl⟩
theorem ok_f_l_arity (X : (KK P).In H) : FnOk H 213 f_l_arity := ⟨⟨_, _, X 213 _ rfl, rfl, by kernel_rfl, by kernel_rfl, rfl, rfl, rfl, codeRec_of X (by kernel_rfl), by kernel_rfl, by kernel_rfl, by kernel_rfl, len1 fun _ => by kernel_rfl⟩, by kernel_rfl, by kernel_rfl⟩
theorem ok_f_l_places (X : (KK P).In H) : FnOk H 220 f_l_places := ⟨⟨_, _, X 220 _ rfl, rfl, by kernel_rfl, by kernel_rfl, rfl, rfl, rfl, codeRec_of X (by kernel_rfl), by kernel_rfl, by kernel_rfl, by kernel_rfl, len1 fun _ => by kernel_rfl⟩, by kernel_rfl, by kernel_rfl⟩
theorem ok_f_l_block (X : (KK P).In H) : FnOk H 227 f_l_block := ⟨⟨_, _, X 227 _ rfl, rfl, by kernel_rfl, by kernel_rfl, rfl, rfl, rfl, codeRec_of X (by kernel_rfl), by kernel_rfl, by kernel_rfl, by kernel_rfl, len3 fun _ _ _ => by kernel_rfl⟩, by kernel_rfl, by kernel_rfl⟩
theorem ok_f_l_bits (X : (KK P).In H) : FnOk H 232 f_l_bits := ⟨⟨_, _, X 232 _ rfl, rfl, by kernel_rfl, by kernel_rfl, rfl, rfl, rfl, codeRec_of X (by kernel_rfl), by kernel_rfl, by kernel_rfl, by kernel_rfl, len3 fun _ _ _ => by kernel_rfl⟩, by kernel_rfl, by kernel_rfl⟩
theorem ok_f_l_chosen (X : (KK P).In H) : FnOk H 239 f_l_chosen := ⟨⟨_, _, X 239 _ rfl, rfl, by kernel_rfl, by kernel_rfl, rfl, rfl, rfl, codeRec_of X (by kernel_rfl), by kernel_rfl, by kernel_rfl, by kernel_rfl, len5 fun _ _ _ _ _ => by kernel_rfl⟩, by kernel_rfl, by kernel_rfl⟩
theorem ok_f_l_holds (X : (KK P).In H) : FnOk H 246 f_l_holds := ⟨⟨_, _, X 246 _ rfl, rfl, by kernel_rfl, by kernel_rfl, rfl, rfl, rfl, codeRec_of X (by kernel_rfl), by kernel_rfl, by kernel_rfl, by kernel_rfl, len3 fun _ _ _ => by kernel_rfl⟩, by kernel_rfl, by kernel_rfl⟩
theorem ok_f_l_tuples (X : (KK P).In H) : FnOk H 253 f_l_tuples := ⟨⟨_, _, X 253 _ rfl, rfl, by kernel_rfl, by kernel_rfl, rfl, rfl, rfl, codeRec_of X (by kernel_rfl), by kernel_rfl, by kernel_rfl, by kernel_rfl, len3 fun _ _ _ => by kernel_rfl⟩, by kernel_rfl, by kernel_rfl⟩
theorem ok_m_opened (X : (KK P).In H) : FnOk H 118 m_opened := ⟨⟨_, _, X 118 _ rfl, rfl, by kernel_rfl, by kernel_rfl, rfl, rfl, rfl, codeRec_of X (by kernel_rfl), by kernel_rfl, by kernel_rfl, by kernel_rfl, len3 fun _ _ _ => by kernel_rfl⟩, by kernel_rfl, by kernel_rfl⟩
theorem ok_m_set_of (X : (KK P).In H) : FnOk H 123 m_set_of := ⟨⟨_, _, X 123 _ rfl, rfl, by kernel_rfl, by kernel_rfl, rfl, rfl, rfl, codeRec_of X (by kernel_rfl), by kernel_rfl, by kernel_rfl, by kernel_rfl, len3 fun _ _ _ => by kernel_rfl⟩, by kernel_rfl, by kernel_rfl⟩
theorem ok_m_of_two (X : (KK P).In H) : FnOk H 137 m_of_two := ⟨⟨_, _, X 137 _ rfl, rfl, by kernel_rfl, by kernel_rfl, rfl, rfl, rfl, codeRec_of X (by kernel_rfl), by kernel_rfl, by kernel_rfl, by kernel_rfl, len4 fun _ _ _ _ => by kernel_rfl⟩, by kernel_rfl, by kernel_rfl⟩
theorem ok_m_number_of (X : (KK P).In H) : FnOk H 142 m_number_of := ⟨⟨_, _, X 142 _ rfl, rfl, by kernel_rfl, by kernel_rfl, rfl, rfl, rfl, codeRec_of X (by kernel_rfl), by kernel_rfl, by kernel_rfl, by kernel_rfl, len3 fun _ _ _ => by kernel_rfl⟩, by kernel_rfl, by kernel_rfl⟩
theorem ok_m_truth (X : (KK P).In H) : FnOk H 147 m_truth := ⟨⟨_, _, X 147 _ rfl, rfl, by kernel_rfl, by kernel_rfl, rfl, rfl, rfl, codeRec_of X (by kernel_rfl), by kernel_rfl, by kernel_rfl, by kernel_rfl, len3 fun _ _ _ => by kernel_rfl⟩, by kernel_rfl, by kernel_rfl⟩
theorem ok_m_compared (X : (KK P).In H) : FnOk H 154 m_compared := ⟨⟨_, _, X 154 _ rfl, rfl, by kernel_rfl, by kernel_rfl, rfl, rfl, rfl, codeRec_of X (by kernel_rfl), by kernel_rfl, by kernel_rfl, by kernel_rfl, len4 fun _ _ _ _ => by kernel_rfl⟩, by kernel_rfl, by kernel_rfl⟩
theorem ok_m_has_many (X : (KK P).In H) : FnOk H 161 m_has_many := ⟨⟨_, _, X 161 _ rfl, rfl, by kernel_rfl, by kernel_rfl, rfl, rfl, rfl, codeRec_of X (by kernel_rfl), by kernel_rfl, by kernel_rfl, by kernel_rfl, len3 fun _ _ _ => by kernel_rfl⟩, by kernel_rfl, by kernel_rfl⟩
theorem fns_ok (X : (KK P).In H) {a : Nat} {f : Fn} (h : fns a = some f) : FnOk H a f := by
  have h := lookup_mem h
  simp only [fnsL, List.mem_cons, List.not_mem_nil, or_false, Prod.mk.injEq] at h
  rcases h with ⟨rfl, rfl⟩ | ⟨rfl, rfl⟩ | ⟨rfl, rfl⟩ | ⟨rfl, rfl⟩ | ⟨rfl, rfl⟩ | ⟨rfl, rfl⟩ | ⟨rfl, rfl⟩ | ⟨rfl, rfl⟩ | ⟨rfl, rfl⟩ | ⟨rfl, rfl⟩ | ⟨rfl, rfl⟩ | ⟨rfl, rfl⟩ | ⟨rfl, rfl⟩ | ⟨rfl, rfl⟩ | ⟨rfl, rfl⟩ | ⟨rfl, rfl⟩ | ⟨rfl, rfl⟩ | ⟨rfl, rfl⟩ | ⟨rfl, rfl⟩ | ⟨rfl, rfl⟩ | ⟨rfl, rfl⟩ | ⟨rfl, rfl⟩ | ⟨rfl, rfl⟩ | ⟨rfl, rfl⟩ | ⟨rfl, rfl⟩ | ⟨rfl, rfl⟩ | ⟨rfl, rfl⟩ | ⟨rfl, rfl⟩ | ⟨rfl, rfl⟩
  · exact ok_f_set_of X
  · exact ok_f_univ_of X
  · exact ok_f_iden_of X
  · exact ok_f_minus X
  · exact ok_f_is_within X
  · exact ok_f_product X
  · exact ok_f_join X
  · exact ok_f_override X
  · exact ok_f_ahead X
  · exact ok_f_behind X
  · exact ok_f_l_draw X
  · exact ok_f_l_leaf X
  · exact ok_f_l_truth X
  · exact ok_f_l_comp X
  · exact ok_f_l_expr X
  · exact ok_f_l_arity X
  · exact ok_f_l_places X
  · exact ok_f_l_block X
  · exact ok_f_l_bits X
  · exact ok_f_l_chosen X
  · exact ok_f_l_holds X
  · exact ok_f_l_tuples X
  · exact ok_m_opened X
  · exact ok_m_set_of X
  · exact ok_m_of_two X
  · exact ok_m_number_of X
  · exact ok_m_truth X
  · exact ok_m_compared X
  · exact ok_m_has_many X
end
end Mine

/- part Con1 -/
namespace Mine

theorem mk1 (P : Params) : makesIn (KK P) 164 = true := by kernel_rfl
theorem mk2 (P : Params) : findIn (KK P) (.ref 164) "__init__" = some (some (.ref 111)) := by kernel_rfl
theorem mk3 (P : Params) : typeIn (KK P) (.ref 111) = some (.type "function") := by kernel_rfl
theorem mk4 (P : Params) : findIn (KK P) (.ref 164) "__setattr__" = some (some (.builtin "object.__setattr__")) := by kernel_rfl
theorem mk5 (P : Params) : plainOver (KK P) 164 = true := by kernel_rfl
theorem mk6 (P : Params) : takerIn (KK P) 164 "many" = some none := by kernel_rfl
theorem mk7 (P : Params) : takerIn (KK P) 164 "instance" = some none := by kernel_rfl

theorem con_ok {prog : Program} {w : World} {d : Addr} {cells : List Int} {H : Heap} (X : (KK w.params).In H) (hlim : H.NoLimit) {D : Fz} {σ : Nat} {s : Shared} {A : Around} {Q : Value → Shared → Prop} {E : Value → Shared → Prop} {p q : PV} {v1 v2 : Value}
    (g : Gd prog w d cells H D σ s.heap) (r1 : VR prog w d D p v1) (r2 : VR prog w d D q v2) (hr : Room 1 A) (en : Ends prog w d cells (.inst p q) σ D σ s Q) : wpAny (model prog w) A (call (.ref 164) [v1, v2]) Q E s := by
  refine Classical.byContradiction fun hG => ?_
  obtain ⟨hh, gg, dr, tk, os⟩ := s
  refine hG ?_
  dsimp only at g
  have X' := X.keeps g.base
  refine wpAny_call (make_core (makes_of X' (mk1 _)) (looks_findIn X' (mk2 _)) (fun self => bind_fn X' self (mk3 _)) (.inl rfl) ?_)
  have kp : ∀ b o, hh.get? b = some o → ((hh.push emptyDict).push (instObj 164 hh.objs.size)).get? b = some o := fun b o e => Heap.get?_push_of_some _ (Heap.get?_push_of_some _ e)
  have X2 := X'.keeps kp
  have hs1 : (hh.push emptyDict).objs.size = hh.objs.size + 1 := Heap.size_push ..
  have hs2 : ((hh.push emptyDict).push (instObj 164 hh.objs.size)).objs.size = hh.objs.size + 2 := by rw [Heap.size_push, hs1]
  refine codeAny_call_plain (vals := [.ref (hh.objs.size + 1), v1, v2]) (binds := [(("self" : Str), .ref (hh.objs.size + 1)), (("many" : Str), v1), (("instance" : Str), v2)]) (by have := hr.depth; rw [depth_under_make]; (with_reducible assumption)) (X2 111 _ rfl) rfl ((hlim.keeps g.base).keeps kp) (codeRec_of X2 (by kernel_rfl)) (by rfl) (by kernel_rfl) (by decide) (locs (by rfl)) (fun h1 hns keep => ?_) (by rfl) (by rfl) (by rfl)
  rw [hs2] at hns ⊢
  have F : Fr hh (hh.objs.size + 2) h1 _ := ⟨hns, fun b o e => keep b o (kp b o e), Nat.le_add_right _ _⟩
  have gx : ((hh.push emptyDict).push (instObj 164 hh.objs.size)).get? (hh.objs.size + 1) = some (instObj 164 hh.objs.size) := by rw [← hs1]; exact Heap.get?_push_size _ rfl
  have gd : ((hh.push emptyDict).push (instObj 164 hh.objs.size)).get? hh.objs.size = some (dictOf [] 0) := Heap.get?_push_of_some _ (Heap.get?_push_size _ rfl)
  have n1 : hh.get? (hh.objs.size + 1) = none := get?_ge (Nat.le_succ _)
  have n0 : hh.get? hh.objs.size = none := get?_ge (Nat.le_refl _)
  have N : News hh (hh.objs.size + 2) h1 [(hh.objs.size + 1, instObj 164 hh.objs.size), (hh.objs.size, dictOf [] 0)] := by
    intro z hz
    simp only [List.mem_cons, List.not_mem_nil, or_false] at hz
    rcases hz with rfl | rfl
    · exact ⟨keep _ _ gx, by simp, n1⟩
    · exact ⟨keep _ _ gd, by simp, n0⟩
  have ne : hh.objs.size + 1 ≠ hh.objs.size := by (simp)
  refine wpAny_execs_cons (plainObj_wpAny_Assign_Attribute ?_ (by rfl))
  refine wpAny_Name (wpAny_loadName_local (v := v1) rfl rfl F.ns rfl ?_) (by decide)
  refine wpAny_Name (wpAny_loadName_local (v := .ref (hh.objs.size + 1)) rfl rfl F.ns rfl ?_) (by decide)
  refine set_dict (K := KK w.params) (C := 164) (es := []) (n := 0) F X' N (InstAt.of_news N (.head _) (.tail _ (.head _))) rfl (mk4 _) (mk5 _) (mk6 _) (hd1 _) rfl rfl (Upd.tail ne (Upd.head fun z hz => by cases hz)) (show (1 : Nat) ≤ 1000 by decide) fun h2 F2 N2 => ?_
  refine wpAny_execs_cons (plainObj_wpAny_Assign_Attribute ?_ (by rfl))
  refine wpAny_Name (wpAny_loadName_local (v := v2) rfl rfl F2.ns rfl ?_) (by decide)
  refine wpAny_Name (wpAny_loadName_local (v := .ref (hh.objs.size + 1)) rfl rfl F2.ns rfl ?_) (by decide)
  refine set_dict (K := KK w.params) (C := 164) (n := 1) F2 X' N2 (InstAt.of_news N2 (.head _) (.tail _ (.head _))) rfl (mk4 _) (mk5 _) (mk7 _) (hd1 _) rfl rfl (Upd.tail ne (Upd.head fun z hz => by cases hz)) (show (2 : Nat) ≤ 1000 by decide) fun h3 F3 N3 => ?_
  refine wpAny_execs_nil ⟨rfl, ?_⟩
  have o1 := (N3 _ (.head _)).1
  refine Classical.byContradiction fun hG => ?_
  obtain ⟨od, o2, hod⟩ : ∃ od, h3.get? hh.objs.size = some od ∧ ∃ q1 q2 t1 t2 n, od = dictOf [⟨q1, .str "many" t1, v1⟩, ⟨q2, .str "instance" t2, v2⟩] n := ⟨_, (N3 _ (.tail _ (.head _))).1, _, _, _, _, _, rfl⟩
  refine hG ?_
  have d0 : D hh.objs.size = none := g.free n0
  have d1 : (D.put hh.objs.size od) (hh.objs.size + 1) = none := by unfold Fz.put; rw [if_neg ne]; exact g.free n1
  have le1 : D.le (D.put hh.objs.size od) := Fz.put_le d0
  have le2 := Fz.put_le (o := instObj 164 hh.objs.size) d1
  refine en (.ref (hh.objs.size + 1)) ((D.put hh.objs.size od).put (hh.objs.size + 1) (instObj 164 hh.objs.size)) h3 _ (Ok.grow g F3.keep (le1.trans le2) (fun a o e => ?_) fun a o e => ?_) ?_
  · unfold Fz.put
    rw [if_neg (by rintro rfl; rw [n1] at e; cases e), if_neg (by rintro rfl; rw [n0] at e; cases e)]
  · unfold Fz.put at e
    split at e
    · subst_vars; cases e; exact o1
    · split at e
      · subst_vars; cases e; exact o2
      · exact F3.keep a o (g.on a o e)
  · simp only [VR]
    refine Classical.byContradiction fun hG => ?_
    obtain ⟨q1, q2, t1, t2, n, rfl⟩ := hod
    refine hG ?_
    exact ⟨_, v1, v2, rfl, ⟨_, _, _, _, _, _, Fz.put_at, le2 _ _ Fz.put_at⟩, r1.mono (le1.trans le2), r2.mono (le1.trans le2)⟩
theorem callF_ok {prog : Program} {w : World} {d : Addr} {cells : List Int} {H : Heap} {p : Program} {loose : List Str} {mg mb : Str → Option Value} (X : (KK w.params).In H) (T : TopRead p loose mg mb H) : ∀ m, OrcOk prog w d H (tab cells).cells (callF (tab cells) fns m) m
  | 0 => fun a args σ q σ' D s A Q E vs h => by simp [callF] at h
  | m + 1 => fun a args σ q σ' D s A Q E vs h g vrs hr en => by
    simp only [callF] at h
    split at h
    · rename_i ha
      subst ha
      split at h
      · cases h
        refine Classical.byContradiction fun hG => ?_
        obtain ⟨v1, _, rfl, r1, v2, _, rfl, r2, rfl⟩ := vrs
        refine hG ?_
        exact con_ok X T.nolimit g r1 r2 (hr.mono (by (with_reducible exact Nat.le_add_left _ _))) en
      · cases h
    · split at h
      · rename_i f hf
        exact run_ok (tab_ok X T) (callF_ok X T m) (fns_ok X hf) T.nolimit h g vrs hr en
      · cases h

end Mine

/- part Main1 -/
namespace Mine
noncomputable def lawNames : NM := ((findDef ("law" : Str) body).getD ⟨[], [], []⟩).names
noncomputable def lawRest : List Stmt := (((findDef ("law" : Str) body).getD ⟨[], [], []⟩).body).drop 1
noncomputable def rhoT : Rho := fun x => if x == ("tape" : Str) then some (.val .tape) else none

/-- behind the law's first statement -/
noncomputable def Mid (prog : Program) (w : World) (H : Heap) (env : Env) (ns : List Int) (s₁ : Shared) (f : Flow) (s : Shared) : Prop :=
  f = .next ∧ ∃ d D h tk, s = { s₁ with heap := h, toks := tk } ∧ SSt prog w d (tab ns).cells H D 0 H env rhoT (fun _ => []) 0 D h ∧ H.objs.size ≤ d

theorem mid_of {prog : Program} {w : World} {H h : Heap} {L d D' D1 : Nat} {m : Str → Option Value} {oD1 od w1 w2 o : Obj} {ys : List Value} {ns : List Int} {env : Env} {es : List (Value × Value)} {k1 k2 t : Tok}
    (F : Fr H L h m) (N : News H L h [(D', LCg.lst ys), (D1, oD1), (d, od), (L + 1 + 1 + 1, w2), (L + 1 + 1, w1), (L + 1, o)]) (hL : H.objs.size = L) (dge : L + 1 + 1 + 1 < d) (e2 : w2.data = .cell none) (e1 : w1.data = .cell none) (e0 : o.data = .cell (some (.ref d)))
    (hd : od.IsDictOf (PySem.strKind prog w) (strPairs es)) (hes : es = [(.str ("cells" : Str) k1, .ref D'), (.str ("spot" : Str) k2, .int 0 t)]) (hI : IntsAre ys ns) (low : sysModules < H.objs.size)
    (hloc : env.locals = L) (hk : env.kindOf ("tape" : Str) = some .cell) (hc : env.cells = [(("world" : Str), L + 1 + 1 + 1), (("n" : Str), L + 1 + 1), (("tape" : Str), L + 1)]) :
    ∃ D, SSt prog w d (tab ns).cells H D 0 H env rhoT (fun _ => []) 0 D h ∧ H.objs.size ≤ d := by
  subst hes
  have n1 := N (D', LCg.lst ys) (by simp)
  have n3 := N (d, od) (by simp)
  have n4 := N (L + 1 + 1 + 1, w2) (by simp)
  have n5 := N (L + 1 + 1, w1) (by simp)
  have n6 := N (L + 1, o) (by simp)
  dsimp only at n1 n3 n4 n5 n6
  have hd0 := hd
  refine Classical.byContradiction fun hG => ?_
  obtain ⟨es, ep, q1, q2, q3⟩ := hd
  refine hG ?_
  have dD : d ≠ D' := by
    rintro rfl
    have := n1.1.symm.trans n3.1
    cases this; cases q2
  have cD : ∀ (c : Addr) (oc : Obj) (v : Option Value), h.get? c = some oc → oc.data = .cell v → c ≠ D' := fun c oc v hc hv => by
    rintro rfl
    have := hc.symm.trans n1.1
    cases this; cases hv
  have hsd : H.objs.size ≤ d := by exact q_44 hL dge
  let D : Fz := fun a => if a = D' then some (LCg.lst ys) else none
  have Dat : D D' = some (LCg.lst ys) := by show (if D' = D' then _ else _) = _; rw [if_pos rfl]
  have Dne : ∀ a, a ≠ D' → D a = none := fun a ha => by show (if a = D' then _ else _) = _; rw [if_neg ha]
  have on : D.on h := fun b o e => by
    by_cases q : b = D'
    · subst q; rw [Dat] at e; cases e; exact n1.1
    · rw [Dne b q] at e; cases e
  have tape : TapeAt prog w d (tab ns).cells D h 0 := ⟨.ref D', t, Heap.dictOf_iff.mpr ⟨od, n3.1, hd0⟩, VR.list_mk Dat (VRs.of_ints hI)⟩
  refine ⟨D, ⟨⟨fun b o _ e => F.keep b o e, Fz.le.refl D, fun _ _ _ => rfl, on, tape⟩, ⟨F.keep, on, tape, hsd, Dne d dD, Nat.lt_of_lt_of_le low hsd⟩, fun _ _ e => e, ?_, ?_, ?_, ⟨m, by rw [hloc]; exact F.ns⟩, fun x (c : Nat) e => ?_, fun x y (c : Nat) e1 e2 => ?_, fun x b hb => (by cases hb), fun x y b hb => (by cases hb), fun x s e => ?_, fun _ _ => rfl⟩, hsd⟩
  · rw [hloc, ← hL]; exact get?_ge (Nat.le_refl _)
  · rw [hloc]; exact Nat.ne_of_lt (by exact q_l3 dge)
  · rw [hloc]; exact Dne L (Ne.symm n1.2.1)
  · have hge : @LT.lt Nat _ L c ∧ c ≠ d ∧ c ≠ D' ∧ ∃ v, h.IsCell c v := by
      rw [hc] at e
      have := lookup_mem e
      simp only [List.mem_cons, List.not_mem_nil, or_false, Prod.mk.injEq] at this
      rcases this with ⟨_, rfl⟩ | ⟨_, rfl⟩ | ⟨_, rfl⟩
      · exact ⟨by (simp [Nat.add_assoc]), by (with_reducible exact Nat.ne_of_lt ‹_›), cD _ _ _ n4.1 e2, _, _, n4.1, e2⟩
      · exact ⟨by (simp [Nat.add_assoc]), by exact Nat.ne_of_lt (Nat.lt_trans (Nat.lt_succ_self _) dge), cD _ _ _ n5.1 e1, _, _, n5.1, e1⟩
      · exact ⟨by (with_reducible exact Nat.lt_succ_self _), by exact Nat.ne_of_lt (Nat.lt_trans (Nat.lt_trans (Nat.lt_succ_self _) (Nat.lt_succ_self _)) dge), cD _ _ _ n6.1 e0, _, _, n6.1, e0⟩
    exact ⟨get?_ge (by exact Nat.le_trans (Nat.le_of_eq hL) (Nat.le_of_lt hge.1)), hge.2.1, by rw [hloc]; exact Nat.ne_of_gt hge.1, Dne c hge.2.2.1, hge.2.2.2⟩
  · rw [hc] at e1 e2
    have m1 := lookup_mem e1
    have m2 := lookup_mem e2
    simp only [List.mem_cons, List.not_mem_nil, or_false, Prod.mk.injEq] at m1 m2
    rcases m1 with ⟨rfl, r1⟩ | ⟨rfl, r1⟩ | ⟨rfl, r1⟩ <;> rcases m2 with ⟨rfl, r2⟩ | ⟨rfl, r2⟩ | ⟨rfl, r2⟩ <;> first | rfl | exact absurd (show @Eq Nat _ _ from r1.symm.trans r2) (by first | exact Nat.succ_ne_self _ | exact Ne.symm (Nat.succ_ne_self _) | exact q_ss2 | exact Ne.symm q_ss2)
  · unfold rhoT at e
    split at e
    · rename_i hx
      cases e
      have hx := eq_of_beq hx
      subst hx
      exact ⟨.ref d, .inr ⟨.inl hk, L + 1, by rw [hc]; rfl, o, n6.1, e0⟩, rfl, rfl⟩
    · cases e

theorem fin_of {c : ClaimW} {cl : Str → Option Addr} {mean : ExcName → Option Value} {args : List WData} {s₁ : Shared} {h' : Heap} {tk : Nat} (hr : ∀ a b, c.raises a b = false) (hp : c.post args (ofPy (.bool true)) args = true) (hu : c.unshared = true → True)
    (hk : ∀ b o, s₁.heap.get? b = some o → h'.get? b = some o) (hg : s₁.gens = #[]) : GoodW c cl mean args s₁ (.ok (.ret (.bool true))) { s₁ with heap := h', toks := tk } :=
  ⟨.inl ⟨_, ofPy (.bool true), [], rfl, hr args, ReadsW.bool true, hp, fun _ => ⟨List.nodup_nil, fun _ h => by cases h⟩⟩, hk, rfl, hg⟩
end Mine

/- part Main2 -/
set_option tactic.hygienic true
namespace Mine
/-- the plain law: what the evaluator makes of the law, whatever the cells -/
noncomputable def Plain : Prop := ∀ cells : List Int, cells.length ≤ 60 → ∃ ρ' σ', evSs (tab cells) (callF (tab cells) fns 60) 40 lawNames rhoT lawRest 0 = some (.ret (.bool true), ρ', σ')

theorem rest_ok (plain : Plain) {prog : Program} {w : World} {p : Program} {loose : List Str} {mean : ExcName → Option Value} {mg mb : Str → Option Value} {env : Env} {ns : List Int} {s₁ s : Shared} {f : Flow} {A : Around} {Q : Flow → Shared → Prop} {E : Value → Shared → Prop}
    (X : (KK w.params).In s₁.heap) (T : Top p loose mean mg mb s₁.heap) (M : Mid prog w s₁.heap env ns s₁ f s) (hns : ns.length ≤ 60) (Xe : EnvOk lawNames env) (hr : Room 60 A)
    (hQ : ∀ h' tk, (∀ b o, s₁.heap.get? b = some o → h'.get? b = some o) → Q (.ret (.bool true)) { s₁ with heap := h', toks := tk }) : wpAny (model prog w) A (execs lawRest env) Q E s := by
  obtain ⟨rfl, d, D, h, tk, rfl, st, hd⟩ := M
  obtain ⟨ρ', σ', pl⟩ := plain ns hns
  have TR := topRead_of T
  refine (evS_all (tab_ok X TR) (callF_ok X TR 60) 40).2 D 0 s₁.heap lawNames env rhoT lawRest 0 _ ρ' σ' _ D { s₁ with heap := h, toks := tk } A Q E Xe st hr pl fun f F' D' h' tk' hf y k => ?_
  obtain ⟨v, rfl, vr⟩ := hf
  subst vr
  exact hQ h' tk' fun b o e => y.ok.pres b o (by rintro rfl; exact absurd (Heap.lt_size e) (Nat.not_lt.mpr hd)) e

theorem lawEnv {L a : Addr} {cd : Value} {fd : FuncData} (h : fd.scope.names = lawNames) (hk : fd.scope.kind = .function) : EnvOk lawNames (envOfC ("law" : Str) fd.scope L a cd) := by
  have kk : ∀ x, (envOfC ("law" : Str) fd.scope L a cd).kindOf x = lawNames.lookup x := fun x => by rw [← h]; rfl
  have nf : ∀ x, lawNames.lookup x ≠ some .free := fun x e => by
    have : lawNames.all (fun y => y.2 != .free) = true := by kernel_rfl
    have := List.all_eq_true.mp this _ (lookup_mem e); simp at this
  refine ⟨hk, rfl, rfl, fun x e => (kk x).trans e, fun x e => (kk x).trans e, fun x e => (kk x).trans e, fun x e => absurd e (nf x), fun x e => ?_⟩
  rcases e with e | e
  · have : (x, NameKind.cell) ∈ fd.scope.names := by rw [h]; exact lookup_mem e
    exact Option.isSome_iff_exists.mp (cellsFrom_mem (n := L + 1) (acc := []) (.inl this))
  · exact absurd e (nf x)
theorem mid_out {prog : Program} {w : World} {s₁ : Shared} {h : Heap} {L d D' D1 : Nat} {m : Str → Option Value} {oD1 od w1 w2 o : Obj} {ys : List Value} {ns : List Int} {env : Env} {es : List (Value × Value)} {k1 k2 t : Tok} {tk : Nat}
    (F : Fr s₁.heap L h m) (N : News s₁.heap L h [(D', LCg.lst ys), (D1, oD1), (d, od), (L + 1 + 1 + 1, w2), (L + 1 + 1, w1), (L + 1, o)]) (hL : s₁.heap.objs.size = L) (dge : L + 1 + 1 + 1 < d) (e2 : w2.data = .cell none) (e1 : w1.data = .cell none) (e0 : o.data = .cell (some (.ref d)))
    (hd : od.IsDictOf (PySem.strKind prog w) (strPairs es)) (hes : es = [(.str ("cells" : Str) k1, .ref D'), (.str ("spot" : Str) k2, .int 0 t)]) (hI : IntsAre ys ns) (low : sysModules < s₁.heap.objs.size)
    (hloc : env.locals = L) (hk : env.kindOf ("tape" : Str) = some .cell) (hc : env.cells = [(("world" : Str), L + 1 + 1 + 1), (("n" : Str), L + 1 + 1), (("tape" : Str), L + 1)]) : Mid prog w s₁.heap env ns s₁ .next { s₁ with heap := h, toks := tk } := by
  obtain ⟨D, st, ge⟩ := mid_of F N hL dge e2 e1 e0 hd hes hI low hloc hk hc
  exact ⟨rfl, d, D, h, tk, rfl, st, ge⟩
noncomputable def intsOf {vs : List Value} {ns : List Int} (_ : IntsAre vs ns) : List Int := ns
theorem law_split (plain : Plain) {prog : Program} {w : World} {p : Program} {loose : List Str} {mean : ExcName → Option Value} {mg mb : Str → Option Value} {env : Env} {s₁ s : Shared} {A : Around} {Q : Flow → Shared → Prop} {E : Value → Shared → Prop} {st : Stmt}
    (X : (KK w.params).In s₁.heap) (T : Top p loose mean mg mb s₁.heap) (ns : List Int) (hns : ns.length ≤ 60) (Xe : EnvOk lawNames env) (hr : Room 60 A)
    (hQ : ∀ h' tk, (∀ b o, s₁.heap.get? b = some o → h'.get? b = some o) → Q (.ret (.bool true)) { s₁ with heap := h', toks := tk })
    (walk : wpAny (model prog w) A (exec st env) (fun f s' => Mid prog w s₁.heap env ns s₁ f s') E s) : wpAny (model prog w) A (execs (st :: lawRest) env) Q E s := by
  refine wpAny_execs_cons (wpAny_mono walk (fun f s' M => ?_) fun _ _ h => h)
  obtain rfl := M.1
  exact rest_ok plain X T M hns Xe hr hQ
theorem lawEnv' {sc : Scope} {L a : Addr} {cd : Value} (h : sc.names = lawNames) (hk : sc.kind = .function) : EnvOk lawNames (envOfC ("law" : Str) sc L a cd) :=
  lawEnv (fd := { name := "law", qualname := "law", params := ⟨[], [], none, [], [], none, []⟩, body := .stmts [], scope := sc, globals := 0, closure := [], defaults := .none, kwdefaults := .none, pyModule := .none, code := .none }) h hk
local macro_rules | `(tactic| k_qdec) => `(tactic| decide +kernel)
theorem main_of (plain : Plain) : PySem.Challenge.rw_nz0387_01.Holds := law_of (hd (by
  k_go0
  rename_i h1 tk1 F0 w2 w1 w0 e2 e1 e0 N0 X0
  rename Frag.In _ _ => X9
  rename Top _ _ _ _ _ _ => T9
  rename Ground _ _ _ _ _ _ _ _ _ => G9
  rename _ = #[] => g9
  rename IntsAre _ (_ : List Int) => I9
  have low9 := G9.low
  obtain ⟨ns, hns⟩ : ∃ ns : List Int, ns = List.take 60 (intsOf I9) := ⟨_, rfl⟩
  refine law_split plain X9 T9 ns (by rw [hns, List.length_take]; exact Nat.min_le_left _ _) ?env ⟨by rw [depth_deeper]; decide, by rw [units_deeper]; decide, rfl⟩ (fun h' tk' hk => ?post) ?walk
  case env => exact lawEnv' (by kernel_rfl) rfl
  case post => exact fin_of (fun _ _ => rfl) (by wrow_post) (fun _ => trivial) hk g9
  case walk =>
    k_steps
    rename_i d9
    rename Fr _ _ _ _ => F9
    rename News _ _ _ _ => N9
    rename Obj.IsDictOf _ _ _ => D9
    rename IntsAre _ _ => I8
    rename _ + 1 + 1 + 1 < _ ∧ _ => l9
    rw [List.map_id'] at I8
    change IntsAre _ (List.take 60 (intsOf I9)) at I8
    rw [← hns] at I8
    exact mid_out F9 N9 rfl l9.1 e2 e1 d9 D9 rfl I8 low9 rfl rfl rfl))
end Mine

set_option tactic.hygienic false
/- part X1 -/
namespace Mine

section
variable {T : Tab} {C : Orc} {n : Nat} {nm : NM} {ρ ρ₁ ρ₂ : Rho} {σ σ₁ σ₂ σ₃ : Nat}

/- parts of a text -/
noncomputable def nthS (l : List Stmt) (i : Nat) : Stmt := l.getD i (.Pass ⟨0, 0, 0, 0⟩)
noncomputable def stB : Stmt → List Stmt
  | .For _ _ b _ _ => b
  | .While _ b _ _ => b
  | .If _ b _ _ => b
  | _ => []
noncomputable def stT : Stmt → Expr
  | .For t _ _ _ _ => t
  | .While t _ _ _ => t
  | .If t _ _ _ => t
  | .Assign _ e _ => e
  | _ => .Name ("x" : Str) ⟨0, 0, 0, 0⟩
noncomputable def stI : Stmt → Expr
  | .For _ i _ _ _ => i
  | _ => .Name ("x" : Str) ⟨0, 0, 0, 0⟩
noncomputable def stP : Stmt → Pos
  | .For _ _ _ _ p => p
  | _ => ⟨0, 0, 0, 0⟩
noncomputable def eltsE : Expr → List Expr
  | .Tuple es _ _ => es
  | _ => []
/- names -/
theorem r_frz {f : Str → Bool} {x : Str} {p : PV} (h : ρ x = some (.val p)) : frz f ρ x = some (.val p) := by unfold frz; rw [h]; split <;> rfl
theorem r_frzL {f : Str → Bool} {x : Str} {l : List PV} (hf : f x = true) (h : ρ x = some (.lst l)) : frz f ρ x = some (.val (.list l)) := by unfold frz; rw [h, if_pos hf]; rfl
theorem r_frzD {f : Str → Bool} {x : Str} {ks : List Str} {vs : List PV} (hf : f x = true) (h : ρ x = some (.dct ks vs)) : frz f ρ x = some (.val (.dS ks vs)) := by unfold frz; rw [h, if_pos hf]; rfl
theorem r_frzM {f : Str → Bool} {x : Str} {ks : List Int} {vs : List (List PV)} (hf : f x = true) (h : ρ x = some (.mm ks vs)) : frz f ρ x = some (.val (.dI ks (vs.map .list))) := by unfold frz; rw [h, if_pos hf]; rfl
theorem r_frzO {f : Str → Bool} {x : Str} {s : Slot} (hf : f x = false) (h : ρ x = some s) : frz f ρ x = some s := by unfold frz; rw [h, if_neg (by rw [hf]; exact Bool.false_ne_true)]
theorem r_upd {x : Str} {s : Slot} : upd ρ x s x = some s := by unfold upd; simp
theorem r_updE {x y : Str} {s : Slot} (h : (y == x) = true) : upd ρ x s y = some s := by unfold upd; rw [if_pos h]
theorem r_updN {x y : Str} {s : Slot} {r : Option Slot} (hn : (y == x) = false) (h : ρ y = r) : upd ρ x s y = r := by unfold upd; rw [if_neg (by rw [hn]; exact Bool.false_ne_true)]; exact h
theorem r_seen {sc : Scope} {x : Str} {p : PV} (h1 : sc.names.lookup x = some .free) (h : ρ x = some (.val p)) : seen sc ρ x = some (.val p) := by unfold seen; rw [h1]; dsimp only; rw [h]

/- expressions -/
theorem x_int {i : Int} {k : Nat} {p : Pos} : ev T C (n + 1) nm ρ (.Constant (.int i) k p) σ = some (.int i, σ) := rfl
theorem x_str {i : Str} {k : Nat} {p : Pos} : ev T C (n + 1) nm ρ (.Constant (.str i) k p) σ = some (.str i, σ) := rfl
theorem x_bool {i : Bool} {k : Nat} {p : Pos} : ev T C (n + 1) nm ρ (.Constant (.bool i) k p) σ = some (.bool i, σ) := rfl
theorem x_name {x : Str} {pos : Pos} {p : PV} (h0 : (x == ("__debug__" : Str) || x == ("__classdict__" : Str)) = false) (h : ρ x = some (.val p)) : ev T C (n + 1) nm ρ (.Name x pos) σ = some (p, σ) := gd_to h0 (by rw [h]; rfl)
theorem xs_nil {f : Expr → Nat → Option (PV × Nat)} : evsWith f [] σ = some ([], σ) := rfl
theorem xs_cons {f : Expr → Nat → Option (PV × Nat)} {e : Expr} {r : List Expr} {p : PV} {ps : List PV} (h1 : f e σ = some (p, σ₁)) (h2 : evsWith f r σ₁ = some (ps, σ₂)) : evsWith f (e :: r) σ = some (p :: ps, σ₂) := bnd_to h1 (bnd_to h2 rfl)
theorem x_tuple {es : List Expr} {k : Nat} {pos : Pos} {ps : List PV} (h0 : (es.any isStarred || !small es.length) = false) (h : evsWith (ev T C n nm ρ) es σ = some (ps, σ₁)) : ev T C (n + 1) nm ρ (.Tuple es k pos) σ = some (.tup ps, σ₁) := gd_to h0 (bnd_to h rfl)
theorem x_list {es : List Expr} {pos : Pos} {ps : List PV} (h0 : (es.any isStarred || !small es.length) = false) (h : evsWith (ev T C n nm ρ) es σ = some (ps, σ₁)) : ev T C (n + 1) nm ρ (.List es pos) σ = some (.list ps, σ₁) := gd_to h0 (bnd_to h rfl)
theorem x_dict1 {x : Str} {k : Nat} {kp pos : Pos} {v : Expr} {p : PV} (h : ev T C n nm ρ v σ = some (p, σ₁)) : ev T C (n + 1) nm ρ (.Dict [some (.Constant (.str x) k kp)] [v] pos) σ = some (.dS [x] [p], σ₁) := bnd_to h rfl
theorem x_bin {l r : Expr} {op : Operator} {pos : Pos} {a b c : PV} (h1 : ev T C n nm ρ l σ = some (a, σ₁)) (h2 : ev T C n nm ρ r σ₁ = some (b, σ₂)) (h3 : binOp op a b = some c) : ev T C (n + 1) nm ρ (.BinOp l op r pos) σ = some (c, σ₂) := bnd_to h1 (bnd_to h2 (rt_to h3))
theorem x_not {x : Expr} {pos : Pos} {b : Bool} (h : ev T C n nm ρ x σ = some (.bool b, σ₁)) : ev T C (n + 1) nm ρ (.UnaryOp .Not x pos) σ = some (.bool (!b), σ₁) := bnd_to h rfl
theorem x_inv {x : Expr} {pos : Pos} {i : Int} (h : ev T C n nm ρ x σ = some (.int i, σ₁)) : ev T C (n + 1) nm ρ (.UnaryOp .Invert x pos) σ = some (.int (Builtin.bitNot i), σ₁) := bnd_to h rfl
theorem x_neg {x : Expr} {pos : Pos} {i : Int} (h : ev T C n nm ρ x σ = some (.int i, σ₁)) : ev T C (n + 1) nm ρ (.UnaryOp .USub x pos) σ = some (.int (-i), σ₁) := bnd_to h rfl
theorem x_ifT {t a b : Expr} {pos : Pos} {r : Option (PV × Nat)} (h : evT T C n nm ρ t σ = some (true, σ₁)) (h2 : ev T C n nm ρ a σ₁ = r) : ev T C (n + 1) nm ρ (.IfExp t a b pos) σ = r := bnd_to h h2
theorem x_ifF {t a b : Expr} {pos : Pos} {r : Option (PV × Nat)} (h : evT T C n nm ρ t σ = some (false, σ₁)) (h2 : ev T C n nm ρ b σ₁ = r) : ev T C (n + 1) nm ρ (.IfExp t a b pos) σ = r := bnd_to h h2
theorem x_cmp {l r : Expr} {op : CmpOp} {pos : Pos} {a b : PV} {c : Bool} (h0 : behindInMarks op r = false) (h1 : ev T C n nm ρ l σ = some (a, σ₁)) (h2 : ev T C n nm ρ r σ₁ = some (b, σ₂)) (h3 : cmpOp op a b = some c) : ev T C (n + 1) nm ρ (.Compare l [op] [r] pos) σ = some (.bool c, σ₂) := bnd_to (gd_to h0 (bnd_to h1 (bnd_to h2 (rt_to h3)))) rfl
theorem x_slice {v : Expr} {lo hi : Option Expr} {sp pos : Pos} {l : List PV} {a b : Option Int} (h1 : ev T C n nm ρ v σ = some (.tup l, σ₁)) (ha : litOpt lo = some a) (hb : litOpt hi = some b) (hs : small l.length = true) : ev T C (n + 1) nm ρ (.Subscript v (.Slice lo hi .none sp) pos) σ = some (.tup (sliceL l a b), σ₁) := bnd_to h1 (by show evCut (litOpt lo) (litOpt hi) (.tup l) σ₁ = _; rw [ha, hb]; exact gd_to (gn hs) rfl)
theorem x_sub {v i : Expr} {pos : Pos} {a b p : PV} (h0 : slv i = .other i) (h1 : ev T C n nm ρ v σ = some (a, σ₁)) (h2 : ev T C n nm ρ i σ₁ = some (b, σ₂)) (h3 : index T.cells σ₂ a b = some p) : ev T C (n + 1) nm ρ (.Subscript v i pos) σ = some (p, σ₂) := (congrArg (evSub T.cells (ev T C n nm ρ) v σ) h0).trans (bnd_to h1 (bnd_to h2 (rt_to h3)))
theorem x_many {x : Str} {xp pos : Pos} {m i : PV} (h : ev T C n nm ρ (.Name x xp) σ = some (.inst m i, σ₁)) : ev T C (n + 1) nm ρ (.Attribute (.Name x xp) ("many" : Str) pos) σ = some (m, σ₁) := bnd_to h rfl
theorem x_inst {x : Str} {xp pos : Pos} {m i : PV} (h : ev T C n nm ρ (.Name x xp) σ = some (.inst m i, σ₁)) : ev T C (n + 1) nm ρ (.Attribute (.Name x xp) ("instance" : Str) pos) σ = some (i, σ₁) := bnd_to h rfl
theorem x_meth {o m : Str} {op apos pos : Pos} {args : List Expr} {a b : PV} {f : Nat} {ps : List PV} {r : Option (PV × Nat)} (h0 : (args.any isStarred || decide (20 < args.length) || apos.endLine != pos.line) = false) (h1 : ev T C n nm ρ (.Name o op) σ = some (.inst a b, σ₁)) (hm : T.meth.lookup m = some f) (h2 : evsWith (ev T C n nm ρ) args σ₁ = some (ps, σ₂)) (h3 : C f (.inst a b :: ps) σ₂ = r) :
    ev T C (n + 1) nm ρ (.Call (.Attribute (.Name o op) m apos) args [] pos) σ = r := gd_to h0 (bnd_to h1 (by show evGet T C m (evsWith (ev T C n nm ρ) args) (.inst a b) σ₁ = r; unfold evGet; rw [hm]; exact bnd_to h2 h3))
theorem x_get {o : Str} {op apos pos : Pos} {args : List Expr} {ks : List Int} {vs : List PV} {i : Int} {d : PV} (h0 : (args.any isStarred || decide (20 < args.length) || apos.endLine != pos.line) = false) (h1 : ev T C n nm ρ (.Name o op) σ = some (.dI ks vs, σ₁)) (h2 : evsWith (ev T C n nm ρ) args σ₁ = some ([.int i, d], σ₂)) :
    ev T C (n + 1) nm ρ (.Call (.Attribute (.Name o op) ("get" : Str) apos) args [] pos) σ = some ((valAt i ks vs).getD d, σ₂) := gd_to h0 (bnd_to h1 (gd_to rfl (bnd_to h2 rfl)))
theorem x_callF {f : Str} {fp pos : Pos} {args : List Expr} {a : Nat} {ps : List PV} {r : Option (PV × Nat)} (h0 : (args.any isStarred || decide (20 < args.length) || nm.lookup f != some .globalImplicit || f == ("__debug__" : Str)) = false) (hg : T.glob.lookup f = some a) (h2 : evsWith (ev T C n nm ρ) args σ = some (ps, σ₁)) (h3 : C a ps σ₁ = r) :
    ev T C (n + 1) nm ρ (.Call (.Name f fp) args [] pos) σ = r := gd_to h0 (bnd_to h2 (by show evCall C f (T.glob.lookup f) ps σ₁ = r; rw [hg]; exact h3))
theorem x_callB {f : Str} {fp pos : Pos} {args : List Expr} {ps : List PV} {p : PV} (h0 : (args.any isStarred || decide (20 < args.length) || nm.lookup f != some .globalImplicit || f == ("__debug__" : Str)) = false) (hg : T.glob.lookup f = none) (h2 : evsWith (ev T C n nm ρ) args σ = some (ps, σ₁)) (h3 : builtinP f ps = some p) :
    ev T C (n + 1) nm ρ (.Call (.Name f fp) args [] pos) σ = some (p, σ₁) := gd_to h0 (bnd_to h2 (by show evCall C f (T.glob.lookup f) ps σ₁ = _; rw [hg]; exact rt_to h3))
theorem x_comp1 {elt tg it : Expr} {ifs : List Expr} {as : Nat} {sc : Scope} {pos : Pos} {its l : List PV} (h0 : (!(scopeOk nm sc && gensOk sc [⟨tg, it, ifs, as⟩])) = false) (h1 : evI T C n nm ρ it σ = some (its, σ₁))
    (h2 : compFold (turn1 T C n sc.names (seen sc ρ) tg elt ifs) its σ₁ = some (l, σ₂)) (hs : small l.length = true) : ev T C (n + 1) nm ρ (.ListComp elt [⟨tg, it, ifs, as⟩] sc pos) σ = some (.list l, σ₂) := gd_to h0 (bnd_to h1 (bnd_to h2 (gd_to (gn hs) rfl)))
theorem x_comp2 {elt tg it tg2 it2 : Expr} {as as2 : Nat} {sc : Scope} {pos : Pos} {its l : List PV} (h0 : (!(scopeOk nm sc && gensOk sc [⟨tg, it, [], as⟩, ⟨tg2, it2, [], as2⟩])) = false) (h00 : (!([] : List Expr).isEmpty || !([] : List Expr).isEmpty || !((tnames 4 tg2).all fun x => !(tnames 4 tg).contains x)) = false) (h1 : evI T C n nm ρ it σ = some (its, σ₁))
    (h2 : compFold (turn2 T C n sc.names (seen sc ρ) tg tg2 it2 elt) its σ₁ = some (l, σ₂)) (hs : small l.length = true) : ev T C (n + 1) nm ρ (.ListComp elt [⟨tg, it, [], as⟩, ⟨tg2, it2, [], as2⟩] sc pos) σ = some (.list l, σ₂) := gd_to h0 (gd_to h00 (bnd_to h1 (bnd_to h2 (gd_to (gn hs) rfl))))
theorem fold_nil {f : PV → Nat → Option (List PV × Nat)} : compFold f [] σ = some ([], σ) := rfl
theorem fold_cons {f : PV → Nat → Option (List PV × Nat)} {p : PV} {r l l' : List PV} (h1 : f p σ = some (l, σ₁)) (h2 : compFold f r σ₁ = some (l', σ₂)) : compFold f (p :: r) σ = some (l ++ l', σ₂) := bnd_to h1 (bnd_to h2 rfl)
/-- a fold over items of a kind, none of which draws -/
theorem fold_map {α : Type} {f : PV → Nat → Option (List PV × Nat)} {g : α → PV} {h : α → List PV} : ∀ (L : List α), (∀ x ∈ L, f (g x) σ = some (h x, σ)) → compFold f (L.map g) σ = some (L.flatMap h, σ)
  | [], _ => rfl
  | x :: r, hf => by
    rw [List.map_cons]
    rw [fold_cons (hf x (.head _)) (fold_map r fun y hy => hf y (.tail _ hy)), List.flatMap_cons]
theorem turn_in {tg elt : Expr} {ifs : List Expr} {p q : PV} (h1 : bindT 4 tg p ρ = some ρ₁) (h2 : allWith (evT T C n nm ρ₁) ifs σ = some (true, σ₁)) (h3 : ev T C n nm ρ₁ elt σ₁ = some (q, σ₂)) : turn1 T C n nm ρ tg elt ifs p σ = some ([q], σ₂) := obind_to h1 (bnd_to h2 (bnd_to h3 rfl))
theorem turn_out {tg elt : Expr} {ifs : List Expr} {p : PV} (h1 : bindT 4 tg p ρ = some ρ₁) (h2 : allWith (evT T C n nm ρ₁) ifs σ = some (false, σ₁)) : turn1 T C n nm ρ tg elt ifs p σ = some ([], σ₁) := obind_to h1 (bnd_to h2 rfl)
theorem turn_two {tg tg2 it2 elt : Expr} {p : PV} {its l : List PV} (h1 : bindT 4 tg p ρ = some ρ₁) (h2 : evI T C n nm ρ₁ it2 σ = some (its, σ₁)) (h3 : compFold (turn1 T C n nm ρ₁ tg2 elt []) its σ₁ = some (l, σ₂)) : turn2 T C n nm ρ tg tg2 it2 elt p σ = some (l, σ₂) := obind_to h1 (bnd_to h2 h3)
theorem b_name {x : Str} {pos : Pos} {p : PV} {k : Nat} : bindT (k + 1) (.Name x pos) p ρ = some (upd ρ x (.val p)) := rfl
theorem b_pair {t₁ t₂ : Expr} {k : Nat} {pos : Pos} {p₁ p₂ : PV} {m : Nat} (h1 : bindT m t₁ p₁ ρ = some ρ₁) (h2 : bindT m t₂ p₂ ρ₁ = some ρ₂) : bindT (m + 1) (.Tuple [t₁, t₂] k pos) (.tup [p₁, p₂]) ρ = some ρ₂ := obind_to rfl (obind_to h1 h2)
theorem a_nil {f : Expr → Nat → Option (Bool × Nat)} : allWith f [] σ = some (true, σ) := rfl
theorem a_T {f : Expr → Nat → Option (Bool × Nat)} {e : Expr} {r : List Expr} {x : Option (Bool × Nat)} (h : f e σ = some (true, σ₁)) (h2 : allWith f r σ₁ = x) : allWith f (e :: r) σ = x := bnd_to h h2
theorem a_F {f : Expr → Nat → Option (Bool × Nat)} {e : Expr} {r : List Expr} (h : f e σ = some (false, σ₁)) : allWith f (e :: r) σ = some (false, σ₁) := bnd_to h rfl
theorem a_one {f : Expr → Nat → Option (Bool × Nat)} {e : Expr} {b : Bool} (h : f e σ = some (b, σ₁)) : allWith f [e] σ = some (b, σ₁) := bnd_to h (by cases b <;> rfl)
/- tests -/
theorem t_not {x : Expr} {pos : Pos} {b : Bool} (h : evT T C n nm ρ x σ = some (b, σ₁)) : evT T C (n + 1) nm ρ (.UnaryOp .Not x pos) σ = some (!b, σ₁) := bnd_to h rfl
theorem t_and {vs : List Expr} {pos : Pos} {x : Option (Bool × Nat)} (h : allWith (evT T C n nm ρ) vs σ = x) : evT T C (n + 1) nm ρ (.BoolOp .And vs pos) σ = x := h
theorem t_cmp {l r : Expr} {op : CmpOp} {pos : Pos} {a b : PV} {c : Bool} (h0 : behindInMarks op r = false) (h1 : ev T C n nm ρ l σ = some (a, σ₁)) (h2 : ev T C n nm ρ r σ₁ = some (b, σ₂)) (h3 : cmpOp op a b = some c) : evT T C (n + 1) nm ρ (.Compare l [op] [r] pos) σ = some (c, σ₂) := gd_to h0 (bnd_to h1 (bnd_to h2 (rt_to h3)))
theorem t_call {f : Expr} {args : List Expr} {kw : List Keyword} {pos : Pos} {b : Bool} (h : ev T C n nm ρ (.Call f args kw pos) σ = some (.bool b, σ₁)) : evT T C (n + 1) nm ρ (.Call f args kw pos) σ = some (b, σ₁) := bnd_to h (rt_to rfl)
/- what is gone over -/
theorem i_plain {e : Expr} {p : PV} {l : List PV} (h0 : isEnumV (cv e) = none) (h1 : ev T C n nm ρ e σ = some (p, σ₁)) (h2 : iterItems p = some l) (hs : small l.length = true) : evI T C (n + 1) nm ρ e σ = some (l, σ₁) := by
  show stepI T (evs T C n) nm ρ e σ = _
  unfold stepI; rw [h0]; exact bnd_to h1 (obind_to h2 (gd_to (gn hs) rfl))
theorem i_enum {fp pos : Pos} {x : Expr} {l : List PV} (h0 : (isStarred x || nm.lookup ("enumerate" : Str) != some .globalImplicit || (T.glob.lookup ("enumerate" : Str)).isSome) = false) (h1 : ev T C n nm ρ x σ = some (.list l, σ₁)) (hs : small l.length = true) :
    evI T C (n + 1) nm ρ (.Call (.Name ("enumerate" : Str) fp) [x] [] pos) σ = some (l.zipIdx.map fun y => .tup [.int y.2, y.1], σ₁) := gd_to h0 (bnd_to h1 (gd_to (gn hs) rfl))
/- own values -/
theorem o_list {pos : Pos} : evO T C n nm ρ (.List [] pos) σ = some (.lst [], σ) := rfl
theorem o_dict {pos : Pos} : evO T C n nm ρ (.Dict [] [] pos) σ = some (.mm [] [], σ) := rfl
theorem o_copy {fp pos : Pos} {x : Expr} {ks : List Str} {vs : List PV} (h0 : (isStarred x || nm.lookup ("dict" : Str) != some .globalImplicit || (T.glob.lookup ("dict" : Str)).isSome) = false) (h1 : ev T C n nm ρ x σ = some (.dS ks vs, σ₁)) (hs : small ks.length = true) :
    evO T C n nm ρ (.Call (.Name ("dict" : Str) fp) [x] [] pos) σ = some (.dct ks vs, σ₁) := gd_to h0 (bnd_to h1 (gd_to (gn hs) rfl))
theorem o_built {fp pos : Pos} {x : Expr} {q p : PV} (h0 : (isStarred x || nm.lookup ("dict" : Str) != some .globalImplicit || (T.glob.lookup ("dict" : Str)).isSome) = false) (h1 : ev T C n nm ρ x σ = some (q, σ₁)) (hq : (match q with | .dS _ _ => false | _ => true) = true) (h2 : builtinP ("dict" : Str) [q] = some p) :
    evO T C n nm ρ (.Call (.Name ("dict" : Str) fp) [x] [] pos) σ = some (.val p, σ₁) := gd_to h0 (bnd_to h1 (by cases q <;> first | (cases hq; done) | (show rt ((builtinP _ _).map Slot.val) σ₁ = _; rw [h2]; exact rt_to rfl)))
theorem o_plain {e : Expr} {p : PV} (h0 : isOwnV (cv e) = false) (h1 : ev T C n nm ρ e σ = some (p, σ₁)) : evO T C n nm ρ e σ = some (.val p, σ₁) := by
  have key : ∀ v : CV e, isOwnV v = false → stepO T C n nm ρ σ v = some (.val p, σ₁) := fun v hv => by
    cases v with
    | nilL => cases hv
    | nilD => cases hv
    | call f fp x pos =>
      have hv : (f == ("dict" : Str)) = false := hv
      show cond (f == ("dict" : Str)) _ _ = _; rw [hv]; exact bnd_to h1 rfl
    | other => exact bnd_to h1 rfl
  exact key (cv e) h0
theorem os_nil : evsO T C n nm ρ [] σ = some ([], σ) := rfl
theorem os_cons {e : Expr} {r : List Expr} {p : Slot} {ps : List Slot} (h1 : evO T C n nm ρ e σ = some (p, σ₁)) (h2 : evsO T C n nm ρ r σ₁ = some (ps, σ₂)) : evsO T C n nm ρ (e :: r) σ = some (p :: ps, σ₂) := bnd_to h1 (bnd_to h2 rfl)
/- statements -/
theorem s_ret {e : Expr} {pos : Pos} {p : PV} (h : ev T C n nm (frz (reads e) ρ) e σ = some (p, σ₁)) : evS T C (n + 1) nm ρ (.Return (some e) pos) σ = some (.ret p, frz (reads e) ρ, σ₁) := bnd_to h rfl
theorem s_asg {x : Str} {xp pos : Pos} {e : Expr} {s : Slot} (h0 : (!ownName nm x || (isCompE e && nm.lookup x == some .local)) = false) (h : evO T C n nm (frz (reads e) ρ) e σ = some (s, σ₁)) : evS T C (n + 1) nm ρ (.Assign [.Name x xp] e pos) σ = some (.next, upd (frz (reads e) ρ) x s, σ₁) := gd_to h0 (bnd_to h rfl)
theorem s_tup {ts es : List Expr} {k k2 : Nat} {tp vp pos : Pos} {xs : List Str} {ss : List Slot} (hn : namesOfE ts = some xs) (h0 : (!(xs.all (ownName nm)) || !decide xs.Nodup || xs.length != es.length || es.any isStarred || es.all (constantsAlone 8) || decide (10 < es.length)) = false) (h : evsO T C n nm (frz (readss es) ρ) es σ = some (ss, σ₁)) :
    evS T C (n + 1) nm ρ (.Assign [.Tuple ts k tp] (.Tuple es k2 vp) pos) σ = some (.next, updAll xs ss (frz (readss es) ρ), σ₁) := by show evTup _ _ _ _ _ (namesOfE ts) = _; rw [hn]; exact gd_to h0 (bnd_to h rfl)
theorem s_tape {x : Str} {xp sp pos : Pos} {i e : Expr} {j : Int} (h0 : (isCompE e || badName x) = false) (h1 : ev T C n nm (frz (reads e) ρ) e σ = some (.int j, σ₁)) (hx : frz (reads e) ρ x = some (.val .tape)) (h2 : ev T C n nm (frz (reads e) ρ) i σ₁ = some (.str ("spot" : Str), σ₂)) (hj : 0 ≤ j) :
    evS T C (n + 1) nm ρ (.Assign [.Subscript (.Name x xp) i sp] e pos) σ = some (.next, frz (reads e) ρ, j.toNat) := gd_to h0 (bnd_to h1 (by show evSet _ _ _ x _ _ (frz (reads e) ρ x) = _; rw [hx]; exact gd_to rfl (bnd_to h2 (gd_to (gn (Bool.and_eq_true_iff.mpr ⟨rfl, decide_eq_true hj⟩)) rfl))))
theorem s_dct {x k : Str} {xp sp pos : Pos} {i e : Expr} {p : PV} {ks : List Str} {vs : List PV} (h0 : (isCompE e || badName x) = false) (h1 : ev T C n nm (frz (reads e) ρ) e σ = some (p, σ₁)) (hx : frz (reads e) ρ x = some (.dct ks vs)) (h00 : (reads i x || !small ks.length) = false) (h2 : ev T C n nm (frz (reads i) (frz (reads e) ρ)) i σ₁ = some (.str k, σ₂)) :
    evS T C (n + 1) nm ρ (.Assign [.Subscript (.Name x xp) i sp] e pos) σ = some (.next, upd (frz (reads i) (frz (reads e) ρ)) x (.dct (putK k p ks vs).1 (putK k p ks vs).2), σ₂) := gd_to h0 (bnd_to h1 (by show evSet _ _ _ x _ _ (frz (reads e) ρ x) = _; rw [hx]; exact gd_to h00 (bnd_to h2 rfl)))
theorem s_app {x : Str} {xp apos pos spos : Pos} {e : Expr} {l : List PV} {p : PV} (h0 : (isStarred e || reads e x || badName x || apos.endLine != pos.line) = false) (hx : ρ x = some (.lst l)) (h1 : ev T C n nm (frz (reads e) ρ) e σ = some (p, σ₁)) (hs : small l.length = true) :
    evS T C (n + 1) nm ρ (.Expr (.Call (.Attribute (.Name x xp) ("append" : Str) apos) [e] [] pos) spos) σ = some (.next, upd (frz (reads e) ρ) x (.lst (l ++ [p])), σ₁) := gd_to h0 (by show evApp _ _ x σ (ρ x) = _; rw [hx]; exact bnd_to h1 (gd_to (gn hs) rfl))
theorem s_mm {x : Str} {xp apos pos1 apos2 pos spos lp : Pos} {k e : Expr} {i : Int} {p : PV} {ks : List Int} {vs : List (List PV)} (h0 : (isStarred e || isStarred k || reads e x || reads k x || badName x || apos.endLine != pos1.line || apos2.endLine != pos.line) = false) (hx : ρ x = some (.mm ks vs))
    (h1 : ev T C n nm (frz (reads k) ρ) k σ = some (.int i, σ₁)) (h2 : ev T C n nm (frz (reads e) (frz (reads k) ρ)) e σ₁ = some (p, σ₂)) (hs : (small ks.length && vs.all (fun l => small l.length)) = true) :
    evS T C (n + 1) nm ρ (.Expr (.Call (.Attribute (.Call (.Attribute (.Name x xp) ("setdefault" : Str) apos) [k, .List [] lp] [] pos1) ("append" : Str) apos2) [e] [] pos) spos) σ = some (.next, upd (frz (reads e) (frz (reads k) ρ)) x (.mm (mmPut i p ks vs).1 (mmPut i p ks vs).2), σ₂) := gd_to h0 (by show evMm _ _ _ x σ (ρ x) = _; rw [hx]; exact bnd_to h1 (bnd_to h2 (gd_to (gn hs) rfl)))
theorem s_ifT {t : Expr} {a b : List Stmt} {pos : Pos} {r : Option (Res × Rho × Nat)} (h : evT T C n nm (frz (reads t) ρ) t σ = some (true, σ₁)) (h2 : evSs T C n nm (frz (reads t) ρ) a σ₁ = r) : evS T C (n + 1) nm ρ (.If t a b pos) σ = r := bnd_to h h2
theorem s_ifF {t : Expr} {a b : List Stmt} {pos : Pos} {r : Option (Res × Rho × Nat)} (h : evT T C n nm (frz (reads t) ρ) t σ = some (false, σ₁)) (h2 : evSs T C n nm (frz (reads t) ρ) b σ₁ = r) : evS T C (n + 1) nm ρ (.If t a b pos) σ = r := bnd_to h h2
theorem s_for {t it : Expr} {body : List Stmt} {pos : Pos} {its : List PV} {r : Option (Res × Rho × Nat)} (h0 : (!targetsOk nm 4 t || isSetE it || isEnumE it) = false) (h1 : evI T C n nm (frz (reads it) ρ) it σ = some (its, σ₁)) (h2 : forFold (forTurn T C n nm t body) its (frz (reads it) ρ) σ₁ = r) :
    evS T C (n + 1) nm ρ (.For t it body [] pos) σ = r := gd_to h0 (bnd_to h1 h2)
theorem f_turn {t : Expr} {body : List Stmt} {p : PV} {r : Option (Res × Rho × Nat)} (h1 : bindT 4 t p ρ = some ρ₁) (h2 : evSs T C n nm ρ₁ body σ = r) : forTurn T C n nm t body p ρ σ = r := obind_to h1 h2
theorem f_nil {f : PV → Rho → Nat → Option (Res × Rho × Nat)} : forFold f [] ρ σ = some (.next, ρ, σ) := rfl
theorem f_next {f : PV → Rho → Nat → Option (Res × Rho × Nat)} {p : PV} {l : List PV} {r : Option (Res × Rho × Nat)} (h1 : f p ρ σ = some (.next, ρ₁, σ₁)) (h2 : forFold f l ρ₁ σ₁ = r) : forFold f (p :: l) ρ σ = r := seq_next h1 h2
theorem f_ret {f : PV → Rho → Nat → Option (Res × Rho × Nat)} {p q : PV} {l : List PV} (h1 : f p ρ σ = some (.ret q, ρ₁, σ₁)) : forFold f (p :: l) ρ σ = some (.ret q, ρ₁, σ₁) := seq_ret h1
theorem s_while {t : Expr} {body : List Stmt} {pos : Pos} {r : Option (Res × Rho × Nat)} (h : whileFold (fun ρ σ => evT T C n nm ρ t σ) (fun ρ σ => evSs T C n nm ρ body σ) 40 ρ σ = r) : evS T C (n + 1) nm ρ (.While t body [] pos) σ = r := h
theorem ss_nil : evSs T C (n + 1) nm ρ [] σ = some (.next, ρ, σ) := rfl
theorem ss_next {st : Stmt} {l : List Stmt} {r : Option (Res × Rho × Nat)} (h1 : evS T C n nm ρ st σ = some (.next, ρ₁, σ₁)) (h2 : evSs T C n nm ρ₁ l σ₁ = r) : evSs T C (n + 1) nm ρ (st :: l) σ = r := seq_next h1 h2
theorem ss_ret {st : Stmt} {l : List Stmt} {p : PV} (h1 : evS T C n nm ρ st σ = some (.ret p, ρ₁, σ₁)) : evSs T C (n + 1) nm ρ (st :: l) σ = some (.ret p, ρ₁, σ₁) := seq_ret h1
theorem run_ret {f : Fn} {args : List PV} {p : PV} (hl : (f.params.length != args.length) = false) (h : ∃ ρ', evSs T C 40 f.names (rho0 f.params args) f.body σ = some (.ret p, ρ', σ₁)) : runFn T C f args σ = some (p, σ₁) := by
  obtain ⟨ρ', h⟩ := h; unfold runFn; rw [if_neg (by rw [hl]; exact Bool.false_ne_true), h]
end

/-- the block returns p -/
noncomputable def Rets (T : Tab) (C : Orc) (n : Nat) (nm : NM) (ρ : Rho) (b : List Stmt) (σ : Nat) (p : PV) (σ' : Nat) : Prop := ∃ ρ', evSs T C n nm ρ b σ = some (.ret p, ρ', σ')
section
variable {T : Tab} {C : Orc} {n : Nat} {nm : NM} {ρ ρ₁ ρ₂ : Rho} {σ σ₁ σ₂ σ₃ : Nat} {p : PV} {l : List Stmt}
theorem rt_ret {e : Expr} {pos : Pos} (h : ev T C n nm (frz (reads e) ρ) e σ = some (p, σ₁)) : Rets T C (n + 2) nm ρ (.Return (some e) pos :: l) σ p σ₁ := ⟨_, ss_ret (s_ret h)⟩
theorem rt_next {st : Stmt} (h1 : evS T C n nm ρ st σ = some (.next, ρ₁, σ₁)) (h2 : Rets T C n nm ρ₁ l σ₁ p σ₂) : Rets T C (n + 1) nm ρ (st :: l) σ p σ₂ := let ⟨ρ', h⟩ := h2; ⟨ρ', ss_next h1 h⟩
theorem rt_ifT {t : Expr} {a b : List Stmt} {pos : Pos} (h : evT T C n nm (frz (reads t) ρ) t σ = some (true, σ₁)) (h2 : Rets T C n nm (frz (reads t) ρ) a σ₁ p σ₂) : Rets T C (n + 2) nm ρ (.If t a b pos :: l) σ p σ₂ := let ⟨ρ', q⟩ := h2; ⟨ρ', ss_ret (s_ifT h q)⟩
theorem rt_ifF {t : Expr} {a : List Stmt} {pos : Pos} (h : evT T C (n + 1) nm (frz (reads t) ρ) t σ = some (false, σ₁)) (h2 : Rets T C (n + 2) nm (frz (reads t) ρ) l σ₁ p σ₂) : Rets T C (n + 3) nm ρ (.If t a [] pos :: l) σ p σ₂ := rt_next (s_ifF h ss_nil) h2
theorem rt_else {t : Expr} {a b : List Stmt} {pos : Pos} (h : evT T C n nm (frz (reads t) ρ) t σ = some (false, σ₁)) (h2 : Rets T C n nm (frz (reads t) ρ) b σ₁ p σ₂) : Rets T C (n + 2) nm ρ (.If t a b pos :: l) σ p σ₂ := let ⟨ρ', q⟩ := h2; ⟨ρ', ss_ret (s_ifF h q)⟩
end
theorem call_step {T : Tab} {m a : Nat} {f : Fn} {args : List PV} {σ : Nat} {r : Option (PV × Nat)} (hf : fns a = some f) (h0 : (a == 164) = false) (h : runFn T (callF T fns m) f args σ = r) : callF T fns (m + 1) a args σ = r := by
  simp only [callF]; rw [if_neg (by simpa using h0), hf]; exact h
theorem call_ret {T : Tab} {m a : Nat} {f : Fn} {args : List PV} {σ σ₁ : Nat} {p : PV} (hf : fns a = some f) (h0 : (a == 164) = false) (hl : (f.params.length != args.length) = false) (h : Rets T (callF T fns m) 40 f.names (rho0 f.params args) f.body σ p σ₁) : callF T fns (m + 1) a args σ = some (p, σ₁) :=
  call_step hf h0 (run_ret hl h)

/- part X2 -/
-- a name's value
local macro_rules | `(tactic| walk_at "n") => `(tactic| first
  | ((with_reducible show _ = some _); with_reducible assumption)
  | with_reducible exact r_upd
  | ((with_reducible apply r_updN); rfl; walk_at "n")
  | ((with_reducible apply r_frz); walk_at "n")
  | ((with_reducible apply r_frzL); rfl; walk_at "n")
  | ((with_reducible apply r_frzD); rfl; walk_at "n")
  | ((with_reducible apply r_frzM); rfl; walk_at "n")
  | ((with_reducible apply r_frzO); rfl; walk_at "n")
  | ((with_reducible apply r_seen); rfl; walk_at "n")
  | rfl)
-- an expression's step
local macro_rules | `(tactic| walk_at "e") => `(tactic| first
  | ((with_reducible show _ = some _); with_reducible assumption)
  | with_reducible exact x_int | with_reducible exact x_str | with_reducible exact x_bool | with_reducible exact xs_nil | with_reducible exact a_nil | with_reducible exact b_name
  | ((with_reducible apply x_name); rfl; walk_at "n")
  | with_reducible apply xs_cons
  | ((with_reducible apply x_tuple); rfl)
  | ((with_reducible apply x_list); rfl)
  | ((with_reducible apply x_callF); rfl; rfl)
  | ((with_reducible apply x_callB); rfl; rfl)
  | ((with_reducible apply x_meth); rfl; walk_at "e"; rfl)
  | with_reducible apply x_many
  | with_reducible apply x_inst
  | ((with_reducible apply x_cmp); rfl)
  | ((with_reducible apply t_cmp); rfl)
  | with_reducible apply t_not
  | with_reducible apply x_inv
  | with_reducible apply x_bin
  | ((with_reducible apply x_ifT); · (repeat' walk_at "e"))
  | ((with_reducible apply x_ifF); · (repeat' walk_at "e"))
  | with_reducible apply t_call
  | ((with_reducible apply x_sub); rfl)
  | with_reducible apply a_one
  | with_reducible apply t_and
  | ((with_reducible apply a_F); · (repeat' walk_at "e"))
  | ((with_reducible apply a_T); · (repeat' walk_at "e"))
  | ((with_reducible show cmpOp _ _ _ = _); rfl)
  | ((with_reducible show index _ _ _ _ = _); rfl)
  | ((with_reducible show binOp _ _ _ = _); rfl))
-- an if, decided
local macro_rules | `(tactic| walk_at "i") => `(tactic| first
  | ((with_reducible apply rt_ifF); · (repeat' walk_at "e"))
  | ((with_reducible apply rt_ifT); · (repeat' walk_at "e")))
noncomputable abbrev encT (l : List Int) : PV := .tup (l.map .int)
noncomputable abbrev encS (S : List (List Int)) : PV := .tup (S.map encT)

section
variable {T : Tab} {C : Orc} {n : Nat} {nm : NM} {ρ ρ₁ ρ₂ : Rho} {σ σ₁ σ₂ σ₃ : Nat}
theorem turn_if {tg elt : Expr} {ifs : List Expr} {p q : PV} {P : Bool} (h1 : bindT 4 tg p ρ = some ρ₁) (h2 : allWith (evT T C n nm ρ₁) ifs σ = some (P, σ)) (h3 : P = true → ev T C n nm ρ₁ elt σ = some (q, σ)) : turn1 T C n nm ρ tg elt ifs p σ = some (if P then [q] else [], σ) := by
  cases P with
  | true => rw [if_pos rfl]; exact turn_in h1 h2 (h3 rfl)
  | false => rw [if_neg Bool.false_ne_true]; exact turn_out h1 h2
theorem flatMap_if {α β : Type} {P : α → Bool} {q : α → β} : ∀ L : List α, L.flatMap (fun x => if P x then [q x] else []) = (L.filter P).map q
  | [] => rfl
  | x :: r => by rw [List.flatMap_cons, flatMap_if r, List.filter_cons]; cases P x <;> rfl
theorem flatMap_one {α β : Type} {q : α → β} : ∀ L : List α, L.flatMap (fun x => [q x]) = L.map q
  | [] => rfl
  | x :: r => by rw [List.flatMap_cons, flatMap_one r]; rfl
theorem x_compF {α : Type} {g q : α → PV} {P : α → Bool} {elt tg it : Expr} {ifs : List Expr} {as : Nat} {sc : Scope} {pos : Pos} (L : List α) (h0 : (!(scopeOk nm sc && gensOk sc [⟨tg, it, ifs, as⟩])) = false) (h1 : evI T C n nm ρ it σ = some (L.map g, σ₁))
    (hs : small L.length = true) (hb : ∀ x ∈ L, turn1 T C n sc.names (seen sc ρ) tg elt ifs (g x) σ₁ = some (if P x then [q x] else [], σ₁)) : ev T C (n + 1) nm ρ (.ListComp elt [⟨tg, it, ifs, as⟩] sc pos) σ = some (.list ((L.filter P).map q), σ₁) := by
  rw [← flatMap_if]
  refine x_comp1 h0 h1 (fold_map L hb) ?_
  rw [flatMap_if]
  have := List.length_filter_le P L
  simp only [small, decide_eq_true_eq, List.length_map] at hs ⊢; (with_reducible exact q_lele ‹_ ≤ _› ‹_› (by decide))
theorem x_compM {α : Type} {g q : α → PV} {elt tg it : Expr} {ifs : List Expr} {as : Nat} {sc : Scope} {pos : Pos} (L : List α) (h0 : (!(scopeOk nm sc && gensOk sc [⟨tg, it, ifs, as⟩])) = false) (h1 : evI T C n nm ρ it σ = some (L.map g, σ₁))
    (hs : small L.length = true) (hb : ∀ x ∈ L, turn1 T C n sc.names (seen sc ρ) tg elt ifs (g x) σ₁ = some ([q x], σ₁)) : ev T C (n + 1) nm ρ (.ListComp elt [⟨tg, it, ifs, as⟩] sc pos) σ = some (.list (L.map q), σ₁) := by
  rw [← flatMap_one]
  refine x_comp1 h0 h1 (fold_map L hb) ?_
  rw [flatMap_one]
  simpa [small] using hs
theorem i_map {α : Type} {e : Expr} {p : PV} {g : α → PV} {L : List α} (h0 : isEnumV (cv e) = none) (h1 : ev T C n nm ρ e σ = some (p, σ₁)) (h2 : iterItems p = some (L.map g)) (hs : small L.length = true) : evI T C (n + 1) nm ρ e σ = some (L.map g, σ₁) := i_plain h0 h1 h2 (by simpa [small] using hs)

theorem smallP_tup {l : List PV} (h : small l.length = true) : (!smallP (.tup l)) = false := by simp [smallP, h]
theorem smallP_list {l : List PV} (h : small l.length = true) : (!smallP (.list l)) = false := by simp [smallP, h]
theorem bi_tuple {l : List PV} (h : small l.length = true) : builtinP ("tuple" : Str) [.list l] = some (.tup l) := by
  unfold builtinP; dsimp only; rw [smallP_list h, if_neg Bool.false_ne_true, if_neg (by decide), if_pos (by decide)]
theorem bi_list {l : List PV} (h : small l.length = true) : builtinP ("list" : Str) [.list l] = some (.list l) := by
  unfold builtinP; dsimp only; rw [smallP_list h, if_neg Bool.false_ne_true, if_neg (by decide), if_neg (by decide), if_neg (by decide), if_neg (by decide), if_pos (by decide)]
theorem bi_dict {l : List PV} (h : small l.length = true) : builtinP ("dict" : Str) [.list l] = pairsDict l := by
  unfold builtinP; dsimp only; rw [smallP_list h, if_neg Bool.false_ne_true, if_neg (by decide), if_neg (by decide), if_neg (by decide), if_neg (by decide), if_neg (by decide), if_pos (by decide)]
theorem bi_len {l : List PV} (h : small l.length = true) : builtinP ("len" : Str) [.list l] = some (.int l.length) := by
  unfold builtinP; dsimp only; rw [smallP_list h, if_neg Bool.false_ne_true, if_pos (by decide)]
theorem bi_lenT {l : List PV} (h : small l.length = true) : builtinP ("len" : Str) [.tup l] = some (.int l.length) := by
  unfold builtinP; dsimp only; rw [smallP_tup h, if_neg Bool.false_ne_true, if_pos (by decide)]
theorem bi_sum {l : List PV} (h : small l.length = true) : builtinP ("sum" : Str) [.list l] = (sumI l).map .int := by
  unfold builtinP; dsimp only; rw [smallP_list h, if_neg Bool.false_ne_true, if_neg (by decide), if_neg (by decide), if_neg (by decide), if_pos (by decide)]
theorem bi_range {i : Int} (h : 0 ≤ i ∧ i ≤ 1000000) : builtinP ("range" : Str) [.int i] = some (.range i) := by
  unfold builtinP; dsimp only; rw [if_neg (by simp [smallP]), if_neg (by decide), if_neg (by decide), if_pos (by decide), if_pos h]
theorem bi_sorted {ks : List (List Int)} (h : ks.length < 64 ∧ ks.all (fun k => !k.isEmpty)) : builtinP ("sorted" : Str) [.dT ks] = some (.list ((sortL ks).map encT)) := by
  unfold builtinP; dsimp only; rw [if_neg (by simp [smallP]), if_neg (by decide), if_neg (by decide), if_neg (by decide), if_neg (by decide), if_neg (by decide), if_neg (by decide), if_pos (by decide), if_pos h]
theorem it_range {k : Nat} (h : k ≤ 1000000) : iterItems (.range (k : Int)) = some ((List.range k).map fun i => .int (i : Nat)) := by
  unfold iterItems; dsimp only; rw [if_pos (by exact ⟨q_c0, q_iM h⟩)]; simp
theorem ints_map : ∀ l : List Int, ints? (l.map .int) = some l
  | [] => rfl
  | i :: r => by simp [ints?, ints_map r]
theorem keysT_map : ∀ S : List (List Int), keysT (S.map fun x => .tup [encT x, .bool true]) = some S
  | [] => rfl
  | x :: r => by
    have e : ((key? (.tup [encT x, .bool true])).bind tup?).bind ints? = some x := ints_map x
    rw [List.map_cons, keysT, e]; dsimp only; rw [keysT_map r]; rfl
theorem pairs_map (S : List (List Int)) : pairsDict (S.map fun x => .tup [encT x, .bool true]) = some (.dT (dedup S)) := by unfold pairsDict; rw [keysT_map]
theorem in_dT {x : List Int} {ks : List (List Int)} : inDict (encT x) (.dT ks) = some (memb x ks) := by unfold inDict encT; dsimp only; rw [ints_map]; rfl
end

-- a name's value
-- an expression's step

theorem memb_dedup_aux {K : Type} [DecidableEq K] : ∀ (l acc : List K) (x : K), x ∈ l.foldl addK acc ↔ x ∈ acc ∨ x ∈ l
  | [], acc, x => by simp
  | y :: l, acc, x => by
    rw [List.foldl_cons, memb_dedup_aux l]
    unfold addK memb
    by_cases h : y ∈ acc
    · rw [if_pos (by simpa using h)]
      simp only [List.mem_cons]
      constructor
      · rintro (h1 | h1); exact .inl h1; exact .inr (.inr h1)
      · rintro (h1 | rfl | h1); exact .inl h1; exact .inl h; exact .inr h1
    · rw [if_neg (by simpa using h)]
      simp only [List.mem_append, List.mem_cons, List.not_mem_nil, or_false]
      constructor
      · rintro ((h1 | h1) | h1); exact .inl h1; exact .inr (.inl h1); exact .inr (.inr h1)
      · rintro (h1 | h1 | h1); exact .inl (.inl h1); exact .inl (.inr h1); exact .inr h1
theorem mem_dedup {K : Type} [DecidableEq K] {l : List K} {x : K} : x ∈ dedup l ↔ x ∈ l := by unfold dedup; rw [memb_dedup_aux]; simp
theorem memb_dedup {K : Type} [DecidableEq K] {l : List K} {x : K} : memb x (dedup l) = memb x l := by unfold memb; simp [mem_dedup]

theorem c_minus {cells : List Int} {m σ : Nat} (S Q : List (List Int)) (hS : S.length ≤ 1000) (hQ : Q.length ≤ 1000) : callF (tab cells) fns (m + 1) 46 [encS S, encS Q] σ = some (encS (S.filter fun t => !(memb t Q)), σ) := by
  have sS : small S.length = true := by simp only [small, decide_eq_true_eq]; (with_reducible exact q_le ‹_› (by decide))
  have sQ : small Q.length = true := by simp only [small, decide_eq_true_eq]; (with_reducible exact q_le ‹_› (by decide))
  have sF : small ((S.filter fun t => !(memb t Q)).map encT).length = true := by have := List.length_filter_le (fun t => !(memb t Q)) S; simp only [small, decide_eq_true_eq, List.length_map]; (with_reducible exact q_lele ‹_ ≤ _› ‹_› (by decide))
  refine call_ret rfl rfl rfl ?_
  have hb : f_minus.body = [_, _] := rfl
  rw [hb]
  apply rt_next
  · apply s_asg (by rfl)
    refine o_built (by rfl) (x_compM (g := encT) (q := fun x => .tup [encT x, .bool true]) Q (by rfl) (i_map (by rfl) (x_name (by rfl) (by walk_at "n")) rfl sQ) sQ fun x _ => ?_) rfl ((bi_dict (by simpa using sQ)).trans (pairs_map Q))
    apply turn_in
    repeat' walk_at "e"
  · apply rt_ret
    walk_at "e"
    · walk_at "e"
      · refine x_compF (g := encT) (q := encT) (P := fun t => !(memb t Q)) S (by rfl) (i_map (by rfl) (x_name (by rfl) (by walk_at "n")) rfl sS) sS fun x _ => ?_
        apply turn_if
        repeat' walk_at "e"
        · show (inDict (encT x) (.dT (dedup Q))).map (!·) = _
          rw [in_dT, memb_dedup]; rfl
        · intro _; repeat' walk_at "e"
      · repeat' walk_at "e"
    · exact bi_tuple sF

/- part X3 -/
-- a name's value
-- an expression's step

theorem c_set_of {cells : List Int} {m σ : Nat} (S : List (List Int)) {p : PV} (hp : iterItems p = some (S.map encT)) (hS : S.length ≤ 1000) (h1 : (dedup S).length < 64) (h2 : ∀ t ∈ S, t ≠ []) : callF (tab cells) fns (m + 1) 19 [p] σ = some (encS (sortL (dedup S)), σ) := by
  have sS : small S.length = true := by simp only [small, decide_eq_true_eq]; (with_reducible exact q_le ‹_› (by decide))
  have sl : ∀ (l : List (List Int)), (sortL l).length = l.length := by
    have ins : ∀ (x : List Int) (l : List (List Int)), (insL x l).length = l.length + 1 := by
      intro x l
      induction l with
      | nil => rfl
      | cons y r ih => unfold insL; split <;> simp [ih]
    intro l
    induction l with
    | nil => rfl
    | cons y r ih => show (insL y (sortL r)).length = _; rw [ins, ih]; rfl
  refine call_ret rfl rfl rfl ?_
  have hb : f_set_of.body = [_] := rfl
  rw [hb]
  apply rt_ret
  walk_at "e"
  · walk_at "e"
    · apply x_callB (by rfl) (by rfl)
      · walk_at "e"
        · apply x_callB (by rfl) (by rfl)
          · walk_at "e"
            · refine x_compM (g := encT) (q := fun x => .tup [encT x, .bool true]) S (by rfl) (i_map (by rfl) (x_name (by rfl) (by walk_at "n")) hp sS) sS fun x _ => ?_
              apply turn_in
              repeat' walk_at "e"
            · repeat' walk_at "e"
          · exact (bi_dict (by simpa using sS)).trans (pairs_map S)
        · repeat' walk_at "e"
      · refine bi_sorted ⟨h1, ?_⟩
        rw [List.all_eq_true]
        intro x hx
        have := h2 x (mem_dedup.mp hx)
        cases x <;> simp at this ⊢
    · repeat' walk_at "e"
  · exact bi_tuple (by simp only [small, decide_eq_true_eq, List.length_map, sl]; (with_reducible exact q_le' ‹_ < _› (by decide)))

theorem c_univ {cells : List Int} {m σ : Nat} (k : Nat) (hk : k ≤ 10) : callF (tab cells) fns (m + 1) 24 [.int k] σ = some (encS ((List.range k).map fun a : Nat => [(a : Int)]), σ) := by
  have sS : small (List.range k).length = true := by simp only [small, decide_eq_true_eq, List.length_range]; (with_reducible exact q_le ‹_› (by decide))
  refine call_ret rfl rfl rfl ?_
  have hb : f_univ_of.body = [_] := rfl
  rw [hb]
  apply rt_ret
  walk_at "e"
  · walk_at "e"
    · refine x_compM (g := fun i : Nat => .int i) (q := fun x => .tup [.int x]) (List.range k) (by rfl) (i_map (by rfl) (x_callB (by rfl) (by rfl) (xs_cons (x_name (by rfl) (by walk_at "n")) xs_nil) (bi_range ⟨by (with_reducible exact q_c0), by exact q_iM (q_le hk rfl)⟩)) (it_range (by (with_reducible exact q_le ‹_› (by decide)))) sS) sS fun x _ => ?_
      apply turn_in
      repeat' walk_at "e"
    · repeat' walk_at "e"
  · rw [bi_tuple (by simpa using sS)]; unfold encS; rw [List.map_map]; rfl

theorem c_iden {cells : List Int} {m σ : Nat} (k : Nat) (hk : k ≤ 10) : callF (tab cells) fns (m + 1) 29 [.int k] σ = some (encS ((List.range k).map fun a : Nat => [(a : Int), (a : Int)]), σ) := by
  have sS : small (List.range k).length = true := by simp only [small, decide_eq_true_eq, List.length_range]; (with_reducible exact q_le ‹_› (by decide))
  refine call_ret rfl rfl rfl ?_
  have hb : f_iden_of.body = [_] := rfl
  rw [hb]
  apply rt_ret
  walk_at "e"
  · walk_at "e"
    · refine x_compM (g := fun i : Nat => .int i) (q := fun x => .tup [.int x, .int x]) (List.range k) (by rfl) (i_map (by rfl) (x_callB (by rfl) (by rfl) (xs_cons (x_name (by rfl) (by walk_at "n")) xs_nil) (bi_range ⟨by (with_reducible exact q_c0), by exact q_iM (q_le hk rfl)⟩)) (it_range (by (with_reducible exact q_le ‹_› (by decide)))) sS) sS fun x _ => ?_
      apply turn_in
      repeat' walk_at "e"
    · repeat' walk_at "e"
  · rw [bi_tuple (by simpa using sS)]; unfold encS; rw [List.map_map]; rfl

theorem eq_nil (S : List PV) : cmpOp .Eq (.tup S) (.tup []) = some S.isEmpty := by
  cases S <;> rfl
theorem c_within {cells : List Int} {m σ : Nat} (S Q : List (List Int)) (hS : S.length ≤ 1000) (hQ : Q.length ≤ 1000) : callF (tab cells) fns (m + 2) 53 [encS S, encS Q] σ = some (.bool (S.filter fun t => !(memb t Q)).isEmpty, σ) := by
  have hc := c_minus (cells := cells) (m := m) (σ := σ) S Q hS hQ
  refine call_ret rfl rfl rfl ?_
  have hb : f_is_within.body = [_] := rfl
  rw [hb]
  apply rt_ret
  apply x_cmp (by rfl)
  · apply x_callF (by rfl) (by rfl)
    · repeat' walk_at "e"
    · exact hc
  · repeat' walk_at "e"
  · rw [eq_nil]; simp

theorem slice_1 (l : List PV) : sliceL l .none (some 1) = l.take 1 := by
  unfold sliceL hiB loB clamp
  dsimp only
  simp only [List.drop_zero]
  rw [if_neg (by decide)]
  cases l with
  | nil => rfl
  | cons a r => simp
theorem slice_last (l : List PV) : sliceL l (some (-1)) .none = l.drop (l.length - 1) := by
  unfold sliceL hiB loB clamp
  dsimp only
  rw [if_pos (by decide), List.take_length]
  congr 1; exact q_m1t
theorem slice_init (l : List PV) : sliceL l .none (some (-1)) = l.take (l.length - 1) := by
  unfold sliceL hiB loB clamp
  dsimp only
  rw [if_pos (by decide), List.drop_zero]
  congr 1; exact q_m1t
theorem slice_rest (l : List PV) : sliceL l (some 1) .none = l.drop 1 := by
  unfold sliceL hiB loB clamp
  dsimp only
  rw [if_neg (by decide), List.take_length]
  cases l with
  | nil => rfl
  | cons a r => simp

theorem c_ahead {cells : List Int} {m σ : Nat} (S R : List (List Int)) (hS : S.length ≤ 1000) (hR : R.length ≤ 1000) (ht : ∀ t ∈ R, t.length ≤ 10) : callF (tab cells) fns (m + 1) 92 [encS S, encS R] σ = some (encS (R.filter fun t => memb (t.take 1) S), σ) := by
  have sS : small S.length = true := by simp only [small, decide_eq_true_eq]; (with_reducible exact q_le ‹_› (by decide))
  have sR : small R.length = true := by simp only [small, decide_eq_true_eq]; (with_reducible exact q_le ‹_› (by decide))
  have sF : small ((R.filter fun t => memb (t.take 1) S).map encT).length = true := by have := List.length_filter_le (fun t => memb (t.take 1) S) R; simp only [small, decide_eq_true_eq, List.length_map]; (with_reducible exact q_lele ‹_ ≤ _› ‹_› (by decide))
  refine call_ret rfl rfl rfl ?_
  have hb : f_ahead.body = [_, _] := rfl
  rw [hb]
  apply rt_next
  · apply s_asg (by rfl)
    refine o_built (by rfl) (x_compM (g := encT) (q := fun x => .tup [encT x, .bool true]) S (by rfl) (i_map (by rfl) (x_name (by rfl) (by walk_at "n")) rfl sS) sS fun x _ => ?_) rfl ((bi_dict (by simpa using sS)).trans (pairs_map S))
    apply turn_in
    repeat' walk_at "e"
  · apply rt_ret
    walk_at "e"
    · walk_at "e"
      · refine x_compF (g := encT) (q := encT) (P := fun t => memb (t.take 1) S) R (by rfl) (i_map (by rfl) (x_name (by rfl) (by walk_at "n")) rfl sR) sR fun x hx => ?_
        have hl := ht x hx
        apply turn_if
        · exact b_name
        · apply a_one
          apply t_cmp (by rfl)
          · refine x_slice (l := x.map .int) (x_name (by rfl) (by walk_at "n")) (by rfl) (by rfl) ?_
            simp only [small, decide_eq_true_eq, List.length_map]; (with_reducible exact q_le ‹_› (by decide))
          · walk_at "e"
          · show inDict (.tup _) (.dT (dedup S)) = _
            rw [slice_1, ← List.map_take]
            exact (in_dT (x := x.take 1)).trans (by rw [memb_dedup])
        · intro _; repeat' walk_at "e"
      · repeat' walk_at "e"
    · exact bi_tuple sF

theorem c_behind {cells : List Int} {m σ : Nat} (S R : List (List Int)) (hS : S.length ≤ 1000) (hR : R.length ≤ 1000) (ht : ∀ t ∈ R, t.length ≤ 10) : callF (tab cells) fns (m + 1) 97 [encS R, encS S] σ = some (encS (R.filter fun t => memb (t.drop (t.length - 1)) S), σ) := by
  have sS : small S.length = true := by simp only [small, decide_eq_true_eq]; (with_reducible exact q_le ‹_› (by decide))
  have sR : small R.length = true := by simp only [small, decide_eq_true_eq]; (with_reducible exact q_le ‹_› (by decide))
  have sF : small ((R.filter fun t => memb (t.drop (t.length - 1)) S).map encT).length = true := by have := List.length_filter_le (fun t => memb (t.drop (t.length - 1)) S) R; simp only [small, decide_eq_true_eq, List.length_map]; (with_reducible exact q_lele ‹_ ≤ _› ‹_› (by decide))
  refine call_ret rfl rfl rfl ?_
  have hb : f_behind.body = [_, _] := rfl
  rw [hb]
  apply rt_next
  · apply s_asg (by rfl)
    refine o_built (by rfl) (x_compM (g := encT) (q := fun x => .tup [encT x, .bool true]) S (by rfl) (i_map (by rfl) (x_name (by rfl) (by walk_at "n")) rfl sS) sS fun x _ => ?_) rfl ((bi_dict (by simpa using sS)).trans (pairs_map S))
    apply turn_in
    repeat' walk_at "e"
  · apply rt_ret
    walk_at "e"
    · walk_at "e"
      · refine x_compF (g := encT) (q := encT) (P := fun t => memb (t.drop (t.length - 1)) S) R (by rfl) (i_map (by rfl) (x_name (by rfl) (by walk_at "n")) rfl sR) sR fun x hx => ?_
        have hl := ht x hx
        apply turn_if
        · exact b_name
        · apply a_one
          apply t_cmp (by rfl)
          · refine x_slice (l := x.map .int) (x_name (by rfl) (by walk_at "n")) (by rfl) (by rfl) ?_
            simp only [small, decide_eq_true_eq, List.length_map]; (with_reducible exact q_le ‹_› (by decide))
          · walk_at "e"
          · show inDict (.tup _) (.dT (dedup S)) = _
            rw [slice_last, ← List.map_drop, List.length_map]
            exact (in_dT (x := x.drop (x.length - 1))).trans (by rw [memb_dedup])
        · intro _; repeat' walk_at "e"
      · repeat' walk_at "e"
    · exact bi_tuple sF

theorem keysI_map : ∀ S : List Int, keysI (S.map fun x => .tup [.int x, .bool true]) = some S
  | [] => rfl
  | x :: r => by simp [keysI, key?, int?, keysI_map r]
theorem pairsI_in (S : List Int) : ∃ p, pairsDict (S.map fun x => .tup [.int x, .bool true]) = some p ∧ ∀ i, inDict (.int i) p = some (memb i S) := by
  cases S with
  | nil => exact ⟨.dT [], rfl, fun i => rfl⟩
  | cons x r =>
    refine ⟨.dI (dedup (x :: r)) ((dedup (x :: r)).map fun _ => .bool true), ?_, fun i => ?_⟩
    · unfold pairsDict
      have : keysT ((x :: r).map fun x => PV.tup [.int x, .bool true]) = none := rfl
      rw [this]; dsimp only; rw [keysI_map]
    · show some (memb i (dedup (x :: r))) = _; rw [memb_dedup]
theorem idx_0 {x : List Int} (h : x ≠ []) (hl : x.length ≤ 10) : idxAt (x.map .int) 0 = some (.int (x.headD 0)) := by
  cases x with
  | nil => exact absurd rfl h
  | cons a r =>
    unfold idxAt
    rw [if_neg (by simp at hl ⊢; (with_reducible exact q_le ‹_› (by decide))), if_pos (by simp only [List.map_cons, List.length_cons]; exact ⟨Int.le_refl 0, Int.natCast_pos.mpr (Nat.succ_pos _)⟩)]; rfl

theorem c_override {cells : List Int} {m σ : Nat} (S Q : List (List Int)) (hS : S.length ≤ 400) (hQ : Q.length ≤ 400) (ht : ∀ t ∈ S ++ Q, t ≠ [] ∧ t.length ≤ 10) (h64 : (dedup (Q ++ S.filter fun t => !(memb (t.headD 0) (Q.map (·.headD 0))))).length < 64) :
    callF (tab cells) fns (m + 2) 87 [encS S, encS Q] σ = some (encS (sortL (dedup (Q ++ S.filter fun t => !(memb (t.headD 0) (Q.map (·.headD 0)))))), σ) := by
  have sS : small S.length = true := by simp only [small, decide_eq_true_eq]; (with_reducible exact q_le ‹_› (by decide))
  have sQ : small Q.length = true := by simp only [small, decide_eq_true_eq]; (with_reducible exact q_le ‹_› (by decide))
  have lF := List.length_filter_le (fun t : List Int => !(memb (t.headD 0) (Q.map (·.headD 0)))) S
  have sF : small ((S.filter fun t => !(memb (t.headD 0) (Q.map (·.headD 0)))).map encT).length = true := by simp only [small, decide_eq_true_eq, List.length_map]; (with_reducible exact q_lele ‹_ ≤ _› ‹_› (by decide))
  refine Classical.byContradiction fun hG => ?_
  obtain ⟨pd, e1, e2⟩ := pairsI_in (Q.map (·.headD 0))
  refine hG ?_
  have hc := c_set_of (cells := cells) (m := m) (σ := σ) (Q ++ S.filter fun t => !(memb (t.headD 0) (Q.map (·.headD 0)))) (p := encS _) rfl (by simp only [List.length_append]; exact q_a4 hQ (Nat.le_trans lF hS) rfl) h64 (fun t h => by
    rcases List.mem_append.mp h with h | h
    · exact (ht t (List.mem_append_right _ h)).1
    · exact (ht t (List.mem_append_left _ (List.mem_filter.mp h).1)).1)
  refine call_ret rfl rfl rfl ?_
  have hb : f_override.body = [_, _] := rfl
  rw [hb]
  apply rt_next
  · apply s_asg (by rfl)
    refine o_built (p := pd) (by rfl) (x_compM (g := encT) (q := fun x => .tup [.int (x.headD 0), .bool true]) Q (by rfl) (i_map (by rfl) (x_name (by rfl) (by walk_at "n")) rfl sQ) sQ fun x hx => ?_) rfl ((bi_dict (by simpa using sQ)).trans ?_)
    · apply turn_in
      · exact b_name
      · exact a_nil
      · apply x_tuple (by rfl)
        apply xs_cons
        · apply x_sub (by rfl)
          · walk_at "e"
          · walk_at "e"
          · exact idx_0 (ht x (List.mem_append_right _ hx)).1 (ht x (List.mem_append_right _ hx)).2
        · repeat' walk_at "e"
    · rw [← e1, List.map_map]; rfl
  · apply rt_ret
    apply x_callF (by rfl) (by rfl)
    · apply xs_cons
      · refine x_bin (σ₂ := σ) (a := encS Q) (b := .tup ((S.filter fun t => !(memb (t.headD 0) (Q.map (·.headD 0)))).map encT)) (c := encS (Q ++ S.filter fun t => !(memb (t.headD 0) (Q.map (·.headD 0))))) (x_name (by rfl) (by walk_at "n")) ?_ ?_
        · apply x_callB (by rfl) (by rfl)
          · apply xs_cons
            · refine x_compF (g := encT) (q := encT) (P := fun t => !(memb (t.headD 0) (Q.map (·.headD 0)))) S (by rfl) (i_map (by rfl) (x_name (by rfl) (by walk_at "n")) rfl sS) sS fun x hx => ?_
              apply turn_if
              · exact b_name
              · apply a_one
                apply t_cmp (by rfl)
                · apply x_sub (by rfl)
                  · walk_at "e"
                  · walk_at "e"
                  · exact idx_0 (ht x (List.mem_append_left _ hx)).1 (ht x (List.mem_append_left _ hx)).2
                · walk_at "e"
                · show (inDict _ pd).map (!·) = _
                  rw [e2]; rfl
              · intro _; repeat' walk_at "e"
            · repeat' walk_at "e"
          · exact bi_tuple sF
        · show (if small _ then _ else _) = _
          rw [if_pos (by simp only [small, decide_eq_true_eq, List.length_map]; exact q_a4 hQ (Nat.le_trans lF hS) rfl), ← List.map_append]
      · repeat' walk_at "e"
    · exact hc

/- part X4 -/
-- a name's value
-- an expression's step

section
variable {T : Tab} {C : Orc} {n : Nat} {nm : NM} {ρ ρ₁ ρ₂ : Rho} {σ σ₁ σ₂ σ₃ : Nat}
theorem for_inv {α : Type} {g : α → PV} {f : PV → Rho → Nat → Option (Res × Rho × Nat)} (I : List α → Rho → Prop) : ∀ (L pre : List α) (ρ : Rho), I pre ρ → (∀ p x q ρ, p ++ x :: q = pre ++ L → I p ρ → ∃ ρ', f (g x) ρ σ = some (.next, ρ', σ) ∧ I (p ++ [x]) ρ') →
    ∃ ρ', forFold f (L.map g) ρ σ = some (.next, ρ', σ) ∧ I (pre ++ L) ρ'
  | [], pre, ρ, h, _ => ⟨ρ, rfl, by simpa using h⟩
  | x :: L, pre, ρ, h, st => by
    refine Classical.byContradiction fun hG => ?_
    obtain ⟨ρ₁, e1, i1⟩ := st pre x L ρ rfl h
    obtain ⟨ρ₂, e2, i2⟩ := for_inv I L (pre ++ [x]) ρ₁ i1 fun p y q r hy => st p y q r (by rw [hy]; simp)
    refine hG ?_
    exact ⟨ρ₂, by rw [List.map_cons]; exact f_next e1 e2, by simpa using i2⟩
theorem rt_for {α : Type} {g : α → PV} {L : List α} {t it : Expr} {body l : List Stmt} {pos : Pos} {p : PV} (I : List α → Rho → Prop) (h0 : (!targetsOk nm 4 t || isSetE it || isEnumE it) = false) (h1 : evI T C n nm (frz (reads it) ρ) it σ = some (L.map g, σ₁)) (hi : I [] (frz (reads it) ρ))
    (st : ∀ pre x q ρ, pre ++ x :: q = L → I pre ρ → ∃ ρ', forTurn T C n nm t body (g x) ρ σ₁ = some (.next, ρ', σ₁) ∧ I (pre ++ [x]) ρ') (rest : ∀ ρ', I L ρ' → Rets T C (n + 1) nm ρ' l σ₁ p σ₂) : Rets T C (n + 2) nm ρ (.For t it body [] pos :: l) σ p σ₂ := by
  refine Classical.byContradiction fun hG => ?_
  obtain ⟨ρ', e, i⟩ := for_inv I L [] _ hi (fun p x q ρ h => st p x q ρ h)
  refine hG ?_
  exact rt_next (s_for h0 h1 e) (rest ρ' i)
end
theorem len_prod {α β γ : Type} {f : α → β → γ} {Q : List β} : ∀ S : List α, (S.flatMap fun a => Q.map (f a)).length = S.length * Q.length
  | [] => by simp
  | a :: r => by rw [List.flatMap_cons, List.length_append, len_prod r, List.length_map, List.length_cons, Nat.add_mul, Nat.one_mul, Nat.add_comm]

theorem c_product {cells : List Int} {m σ : Nat} (S Q : List (List Int)) (hS : S.length ≤ 400) (hQ : Q.length ≤ 400) (ht : ∀ t ∈ S ++ Q, t.length ≤ 10) : callF (tab cells) fns (m + 1) 58 [encS S, encS Q] σ = some (encS (S.flatMap fun a => Q.map fun b => a ++ b), σ) := by
  have sS : small S.length = true := by simp only [small, decide_eq_true_eq]; (with_reducible exact q_le ‹_› (by decide))
  have sQ : small Q.length = true := by simp only [small, decide_eq_true_eq]; (with_reducible exact q_le ‹_› (by decide))
  have e0 : (S.flatMap fun a => Q.map fun b => encT (a ++ b)) = (S.flatMap fun a => Q.map fun b => a ++ b).map encT := by rw [List.map_flatMap]; congr 1; funext a; rw [List.map_map]; rfl
  have sP : small (S.flatMap fun a => Q.map fun b => encT (a ++ b)).length = true := by
    rw [len_prod]; simp only [small, decide_eq_true_eq]
    exact Nat.le_trans (Nat.mul_le_mul hS hQ) (by decide)
  refine call_ret rfl rfl rfl ?_
  have hb : f_product.body = [_] := rfl
  rw [hb]
  apply rt_ret
  apply x_callB (by rfl) (by rfl)
  · apply xs_cons
    · refine x_comp2 (by rfl) (by rfl) (i_map (g := encT) (L := S) (by rfl) (x_name (by rfl) (by walk_at "n")) rfl sS) (fold_map S (h := fun a => Q.map fun b => encT (a ++ b)) fun a ha => ?_) sP
      refine turn_two b_name (i_map (g := encT) (L := Q) (by rfl) (x_name (by rfl) (by walk_at "n")) rfl sQ) ?_
      rw [← flatMap_one (q := fun b => encT (a ++ b))]
      refine fold_map Q fun b hb => ?_
      have la := ht a (List.mem_append_left _ ha)
      have lb := ht b (List.mem_append_right _ hb)
      apply turn_in
      · exact b_name
      · exact a_nil
      · refine x_bin (σ₂ := σ) (a := encT a) (b := encT b) (c := encT (a ++ b)) (x_name (by rfl) (by walk_at "n")) (x_name (by rfl) (by walk_at "n")) ?_
        show (if small _ then _ else _) = _
        rw [if_pos (by simp only [small, decide_eq_true_eq, List.length_map]; (with_reducible exact q_a4 ‹_› ‹_› (by decide))), ← List.map_append]
    · repeat' walk_at "e"
  · rw [bi_tuple sP, e0]

/-- the dict of lists after the tuples Q -/
structure RepM (Q : List (List Int)) (ks : List Int) (vs : List (List PV)) : Prop where
  len : vs.length = ks.length
  kl : ks.length ≤ Q.length
  vl : ∀ l ∈ vs, l.length ≤ Q.length
  get : ∀ i, (valAt i ks (vs.map .list)).getD (.list []) = .list ((Q.filter fun r => decide (r.headD 0 = i)).map fun r => encT (r.drop 1))
theorem valAt_mm {i j : Int} {p : PV} : ∀ {ks : List Int} {vs : List (List PV)}, vs.length = ks.length → j ∈ ks → (valAt i ks ((mmAdd j p ks vs).map .list)) = if i = j then (valAt i ks (vs.map .list)).map (fun q => match q with | .list l => .list (l ++ [p]) | q => q) else valAt i ks (vs.map .list)
  | [], _, _, h => by cases h
  | k :: ks, [], h, _ => by simp at h
  | k :: ks, v :: vs, hl, h => by
    simp only [mmAdd, List.map_cons, valAt]
    by_cases hk : k = i
    · subst hk
      simp only [if_true]
      by_cases hj : k = j
      · subst hj; simp
      · rw [if_neg hj, if_neg hj]
    · simp only [if_neg hk]
      by_cases hm : j ∈ ks
      · rw [valAt_mm (by simpa using hl) hm]
      · have hkj : k = j := by rcases List.mem_cons.mp h with e | e; exact e.symm; exact absurd e hm
        subst hkj
        rw [mmAdd_none (by simpa using hl) hm, if_neg (Ne.symm hk)]
theorem valAt_app {i j : Int} {q : PV} : ∀ {ks : List Int} {vs : List PV}, vs.length = ks.length → valAt i (ks ++ [j]) (vs ++ [q]) = (valAt i ks vs).or (if j = i then some q else none)
  | [], [], _ => by simp only [List.nil_append, valAt]; split <;> simp
  | [], _ :: _, h => by simp at h
  | _ :: _, [], h => by simp at h
  | k :: ks, v :: vs, h => by
    simp only [List.cons_append, valAt]
    split
    · simp
    · exact valAt_app (by simpa using h)
theorem valAt_some {i : Int} : ∀ {ks : List Int} {vs : List (List PV)}, vs.length = ks.length → i ∈ ks → ∃ l, valAt i ks (vs.map .list) = some (.list l)
  | [], _, _, h => by cases h
  | _ :: _, [], h, _ => by simp at h
  | k :: ks, v :: vs, hl, h => by
    simp only [List.map_cons, valAt]
    by_cases e : k = i
    · exact ⟨v, by rw [if_pos e]⟩
    · rw [if_neg e]
      exact valAt_some (by simpa using hl) (by rcases List.mem_cons.mp h with q | q; exact absurd q.symm e; exact q)
theorem valAt_not {i : Int} : ∀ {ks : List Int} {vs : List PV}, i ∉ ks → valAt i ks vs = none
  | [], vs, _ => by cases vs <;> rfl
  | _ :: _, [], _ => rfl
  | k :: ks, v :: vs, h => by
    simp only [List.mem_cons, not_or] at h
    simp only [valAt]; rw [if_neg (Ne.symm h.1)]; exact valAt_not h.2
theorem RepM.step {Q : List (List Int)} {ks : List Int} {vs : List (List PV)} (R : RepM Q ks vs) (r : List Int) : RepM (Q ++ [r]) (mmPut (r.headD 0) (encT (r.drop 1)) ks vs).1 (mmPut (r.headD 0) (encT (r.drop 1)) ks vs).2 := by
  refine Classical.byContradiction fun hG => ?_
  obtain ⟨len, kl, vl, get⟩ := R
  refine hG ?_
  have fil : ∀ i, ((Q ++ [r]).filter fun r => decide (r.headD 0 = i)).map (fun r => encT (r.drop 1)) = (Q.filter fun r => decide (r.headD 0 = i)).map (fun r => encT (r.drop 1)) ++ if r.headD 0 = i then [encT (r.drop 1)] else [] := fun i => by
    rw [List.filter_append, List.map_append]
    congr 1
    by_cases e : r.headD 0 = i
    · rw [if_pos e, List.filter_cons_of_pos (by rw [e]; exact decide_eq_true rfl)]; rfl
    · rw [if_neg e, List.filter_cons_of_neg (by rw [decide_eq_true_eq]; exact e)]; rfl
  unfold mmPut
  by_cases hm : memb (r.headD 0) ks = true
  · rw [if_pos hm]
    have hm : r.headD 0 ∈ ks := by simpa [memb] using hm
    refine ⟨mmAdd_len len, by simp; (with_reducible exact q_an ‹_›), fun l hl => ?_, fun i => ?_⟩
    · obtain ⟨j, hj, e⟩ := List.getElem_of_mem hl
      refine Classical.byContradiction fun hG => ?_
      obtain ⟨k, l', _, h2, rfl⟩ := mmAdd_get (by rw [List.getElem?_eq_getElem hj, e])
      refine hG ?_
      have := vl l' (List.mem_of_getElem? h2)
      split <;> simp <;> (first | with_reducible assumption | with_reducible exact q_an ‹_›)
    · dsimp only
      rw [fil, valAt_mm len hm]
      have gi := get i
      by_cases e : i = r.headD 0
      · subst e
        obtain ⟨l, el⟩ := valAt_some len hm
        rw [el] at gi ⊢
        simp only [if_true, Option.map_some, Option.getD_some] at gi ⊢
        cases gi; rfl
      · rw [if_neg e, if_neg (Ne.symm e), gi, List.append_nil]
  · rw [if_neg hm]
    have hm : r.headD 0 ∉ ks := by simpa [memb] using hm
    refine ⟨by simp [len], by simp; (with_reducible assumption), fun l hl => ?_, fun i => ?_⟩
    · rcases List.mem_append.mp hl with q | q
      · have := vl l q; simp; (with_reducible exact q_an ‹_›)
      · rw [List.mem_singleton.mp q]; simp
    · dsimp only
      rw [fil, List.map_append, List.map_cons, List.map_nil, valAt_app (by simpa using len)]
      have gi := get i
      by_cases e : r.headD 0 = i
      · subst e
        rw [valAt_not hm] at gi ⊢
        rw [if_pos rfl]
        simp only [Option.getD_none, Option.none_or, if_true, Option.getD_some] at gi ⊢
        have := (PV.list.inj gi).symm
        rw [this]; rfl
      · rw [if_neg e, if_neg e, Option.or_none, gi, List.append_nil]

theorem idx_last {x : List Int} (h : x ≠ []) (hl : x.length ≤ 10) : idxAt (x.map .int) (-1) = some (.int (x.getLastD 0)) := by
  have hp : 0 < x.length := List.length_pos_iff.mpr h
  unfold idxAt
  rw [if_neg (by simp; (with_reducible exact q_le ‹_› (by decide))), if_neg (by (simp)), if_pos (by simp only [List.length_map]; exact ⟨by decide, Int.neg_le_neg (Int.ofNat_le.mpr hp)⟩)]
  have : (-1 + ((x.map PV.int).length : Int)).toNat = x.length - 1 := by simp only [List.length_map]; exact q_m1t
  rw [this, List.getElem?_map, List.getLastD_eq_getLast?, List.getLast?_eq_getElem?]
  rw [List.getElem?_eq_getElem (by (with_reducible exact Nat.sub_lt ‹_› Nat.one_pos))]; rfl

theorem c_join {cells : List Int} {m σ : Nat} (S Q : List (List Int)) (hS : S.length ≤ 30) (hQ : Q.length ≤ 30) (ht : ∀ t ∈ S ++ Q, t ≠ [] ∧ t.length ≤ 10) (J : List (List Int)) (hJ : J = S.flatMap fun a => (Q.filter fun r => decide (r.headD 0 = a.getLastD 0)).map fun r => a.take (a.length - 1) ++ r.drop 1)
    (hn : ∀ t ∈ J, t ≠ []) (h64 : (dedup J).length < 64) : callF (tab cells) fns (m + 2) 63 [encS S, encS Q] σ = some (encS (sortL (dedup J)), σ) := by
  have sS : small S.length = true := by simp only [small, decide_eq_true_eq]; (with_reducible exact q_le ‹_› (by decide))
  have sQ : small Q.length = true := by simp only [small, decide_eq_true_eq]; (with_reducible exact q_le ‹_› (by decide))
  have lJ : J.length ≤ 900 := by
    rw [hJ]
    have : ∀ S : List (List Int), (S.flatMap fun a => (Q.filter fun r => decide (r.headD 0 = a.getLastD 0)).map fun r => a.take (a.length - 1) ++ r.drop 1).length ≤ S.length * 30 := by
      intro S
      induction S with
      | nil => simp
      | cons a S ih =>
        rw [List.flatMap_cons, List.length_append, List.length_map, List.length_cons]
        have := List.length_filter_le (fun r : List Int => decide (r.headD 0 = a.getLastD 0)) Q
        exact q_Lk ih this hQ
    have := this S; exact Nat.le_trans this (Nat.le_trans (Nat.mul_le_mul_right 30 hS) (by decide))
  have hc := c_set_of (cells := cells) (m := m) (σ := σ) J (p := .list (J.map encT)) rfl (by (with_reducible exact q_le ‹_› (by decide))) h64 hn
  refine call_ret rfl rfl rfl ?_
  have hb : f_join.body = [_, _, _] := rfl
  rw [hb]
  refine rt_next (s_asg (by rfl) o_dict) ?_
  refine rt_for (g := encT) (L := Q) (σ₁ := σ) (fun pre ρ => ρ ("s" : Str) = some (.val (encS S)) ∧ ∃ ks vs, ρ ("begun" : Str) = some (.mm ks vs) ∧ RepM pre ks vs) (by rfl) (i_map (by rfl) (x_name (by rfl) (by walk_at "n")) rfl sQ)
    ⟨by walk_at "n", [], [], by walk_at "n", ⟨rfl, Nat.le_refl _, fun _ h => (by cases h), fun i => rfl⟩⟩ (fun pre x q ρ hx ⟨j1, ks, vs, j2, R⟩ => ?_) (fun ρ' ⟨j1, ks, vs, j2, R⟩ => ?_)
  · have hq : pre.length + 1 ≤ Q.length := by rw [← hx]; simp
    obtain ⟨hx0, hxl⟩ := ht x (List.mem_append_right _ (by rw [← hx]; simp))
    refine ⟨_, f_turn b_name (ss_next (s_mm (ks := ks) (vs := vs) (i := x.headD 0) (p := encT (x.drop 1)) (σ₁ := σ) (σ₂ := σ) (by rfl) (by walk_at "n") ?_ ?_ ?_) ss_nil), ?_, _, _, r_upd, R.step x⟩
    · exact x_sub (a := encT x) (b := .int 0) (σ₁ := σ) (σ₂ := σ) (by rfl) (x_name (by rfl) (by walk_at "n")) x_int (idx_0 hx0 hxl)
    · refine (x_slice (l := x.map .int) (σ₁ := σ) (x_name (by rfl) (by walk_at "n")) (by rfl) (by rfl) ?_).trans ?_
      · simp only [small, decide_eq_true_eq, List.length_map]; (with_reducible exact q_le ‹_› (by decide))
      · rw [slice_rest, ← List.map_drop]
    · have := R.kl
      rw [Bool.and_eq_true, List.all_eq_true]
      refine ⟨by simp only [small, decide_eq_true_eq]; exact Nat.le_trans this (Nat.le_trans (Nat.le_of_succ_le hq) (q_le hQ rfl)), fun l hl => ?_⟩
      have := R.vl l hl
      simp only [small, decide_eq_true_eq]; exact Nat.le_trans this (Nat.le_trans (Nat.le_of_succ_le hq) (q_le hQ rfl))
    · walk_at "n"
  · have eJ : (S.flatMap fun a => ((Q.filter fun r => decide (r.headD 0 = a.getLastD 0)).map fun r => encT (a.take (a.length - 1) ++ r.drop 1))) = J.map encT := by
      rw [hJ, List.map_flatMap]; congr 1; funext a; rw [List.map_map]; rfl
    have sJ : small (J.map encT).length = true := by simp only [small, decide_eq_true_eq, List.length_map]; (with_reducible exact q_le ‹_› (by decide))
    apply rt_ret
    apply x_callF (by rfl) (by rfl)
    · apply xs_cons
      · refine (x_comp2 (σ₁ := σ) (σ₂ := σ) (by rfl) (by rfl) (i_map (g := encT) (L := S) (by rfl) (x_name (by rfl) (by walk_at "n")) rfl sS) (fold_map S (h := fun a => (Q.filter fun r => decide (r.headD 0 = a.getLastD 0)).map fun r => encT (a.take (a.length - 1) ++ r.drop 1)) fun a ha => ?_) (by rw [eJ]; exact sJ)).trans (by rw [eJ])
        obtain ⟨ha0, hal⟩ := ht a (List.mem_append_left _ ha)
        have lq := List.length_filter_le (fun r : List Int => decide (r.headD 0 = a.getLastD 0)) Q
        refine turn_two b_name (i_map (σ₁ := σ) (p := .list _) (g := fun r : List Int => encT (r.drop 1)) (L := Q.filter fun r => decide (r.headD 0 = a.getLastD 0)) (by rfl) ((x_get (ks := ks) (vs := vs.map .list) (i := a.getLastD 0) (d := .list []) (σ₁ := σ) (σ₂ := σ) (by rfl) (x_name (by rfl) (by walk_at "n")) ?_).trans (by rw [R.get])) rfl (by simp only [small, decide_eq_true_eq]; (with_reducible exact q_lele ‹_ ≤ _› ‹_› (by decide)))) ?_
        · apply xs_cons
          · exact x_sub (a := encT a) (b := .int (-1)) (σ₁ := σ) (σ₂ := σ) (by rfl) (x_name (by rfl) (by walk_at "n")) (x_neg x_int) (idx_last ha0 hal)
          · apply xs_cons
            · apply x_list (by rfl); exact xs_nil
            · exact xs_nil
        · rw [← flatMap_one (q := fun r : List Int => encT (a.take (a.length - 1) ++ r.drop 1))]
          refine fold_map _ fun r hr => ?_
          obtain ⟨hr0, hrl⟩ := ht r (List.mem_append_right _ (List.mem_filter.mp hr).1)
          apply turn_in
          · exact b_name
          · exact a_nil
          · refine x_bin (σ₁ := σ) (σ₂ := σ) (a := encT (a.take (a.length - 1))) (b := encT (r.drop 1)) (c := encT (a.take (a.length - 1) ++ r.drop 1)) ?_ (x_name (by rfl) (by walk_at "n")) ?_
            · refine (x_slice (l := a.map .int) (σ₁ := σ) (x_name (by rfl) (by walk_at "n")) (by rfl) (by rfl) ?_).trans ?_
              · simp only [small, decide_eq_true_eq, List.length_map]; (with_reducible exact q_le ‹_› (by decide))
              · rw [slice_init, List.length_map, ← List.map_take]
            · show (if small _ then _ else _) = _
              rw [if_pos (by simp only [small, decide_eq_true_eq, List.length_map, List.length_take, List.length_drop]; exact q_a4 (Nat.le_trans (Nat.min_le_right _ _) hal) (Nat.le_trans (Nat.sub_le _ _) hrl) rfl), ← List.map_append]
      · exact xs_nil
    · exact hc

/- part X5 -/
-- a name's value
-- an expression's step
-- an if, decided
section
variable {cells : List Int} {m σ : Nat} {A B env SA SB R F : PV} {mm ii : PV}
theorem st_for {T : Tab} {C : Orc} {n : Nat} {nm : NM} {ρ : Rho} {σ σ₁ : Nat} {α : Type} {g : α → PV} {L : List α} {t it : Expr} {body : List Stmt} {pos : Pos} (I : List α → Rho → Prop) (h0 : (!targetsOk nm 4 t || isSetE it || isEnumE it) = false) (h1 : evI T C n nm (frz (reads it) ρ) it σ = some (L.map g, σ₁)) (hi : I [] (frz (reads it) ρ))
    (st : ∀ pre x q ρ, pre ++ x :: q = L → I pre ρ → ∃ ρ', forTurn T C n nm t body (g x) ρ σ₁ = some (.next, ρ', σ₁) ∧ I (pre ++ [x]) ρ') : ∃ ρ', evS T C (n + 1) nm ρ (.For t it body [] pos) σ = some (.next, ρ', σ₁) ∧ I L ρ' := by
  refine Classical.byContradiction fun hG => ?_
  obtain ⟨ρ', e, i⟩ := for_inv I L [] _ hi (fun p x q ρ h => st p x q ρ h)
  refine hG ?_
  exact ⟨ρ', s_for h0 h1 e, i⟩
theorem m_two_minus (hA : ∀ σ, callF (tab cells) fns (m + 1) 123 [.inst mm ii, A, env] σ = some (SA, σ)) (hB : ∀ σ, callF (tab cells) fns (m + 1) 123 [.inst mm ii, B, env] σ = some (SB, σ)) (hR : ∀ σ, callF (tab cells) fns m 46 [SA, SB] σ = some (R, σ)) :
    callF (tab cells) fns (m + 2) 123 [.inst mm ii, .tup [.str "minus", A, B], env] σ = some (R, σ) := by
  have h2 : callF (tab cells) fns (m + 1) 137 [.inst mm ii, .str "minus", SA, SB] σ = some (R, σ) := by
    have hR := hR σ
    refine call_ret rfl rfl rfl ?_
    have hb : m_of_two.body = [_, _, _, _, _, _, _] := rfl
    rw [hb]
    repeat walk_at "i"
    with_reducible apply rt_ret
    repeat' walk_at "e"
  have hA := hA σ
  have hB := hB σ
  refine call_ret rfl rfl rfl ?_
  have hb : m_set_of.body = [_, _, _, _, _, _, _, _, _, _, _] := rfl
  rw [hb]
  apply rt_next
  · apply s_asg (by rfl)
    apply o_plain (by rfl)
    repeat' walk_at "e"
  repeat walk_at "i"
  with_reducible apply rt_ret
  repeat' walk_at "e"
theorem m_two_join (hA : ∀ σ, callF (tab cells) fns (m + 1) 123 [.inst mm ii, A, env] σ = some (SA, σ)) (hB : ∀ σ, callF (tab cells) fns (m + 1) 123 [.inst mm ii, B, env] σ = some (SB, σ)) (hR : ∀ σ, callF (tab cells) fns m 63 [SA, SB] σ = some (R, σ)) :
    callF (tab cells) fns (m + 2) 123 [.inst mm ii, .tup [.str "join", A, B], env] σ = some (R, σ) := by
  have h2 : callF (tab cells) fns (m + 1) 137 [.inst mm ii, .str "join", SA, SB] σ = some (R, σ) := by
    have hR := hR σ
    refine call_ret rfl rfl rfl ?_
    have hb : m_of_two.body = [_, _, _, _, _, _, _] := rfl
    rw [hb]
    repeat walk_at "i"
    with_reducible apply rt_ret
    repeat' walk_at "e"
  have hA := hA σ
  have hB := hB σ
  refine call_ret rfl rfl rfl ?_
  have hb : m_set_of.body = [_, _, _, _, _, _, _, _, _, _, _] := rfl
  rw [hb]
  apply rt_next
  · apply s_asg (by rfl)
    apply o_plain (by rfl)
    repeat' walk_at "e"
  repeat walk_at "i"
  with_reducible apply rt_ret
  repeat' walk_at "e"
theorem m_two_product (hA : ∀ σ, callF (tab cells) fns (m + 1) 123 [.inst mm ii, A, env] σ = some (SA, σ)) (hB : ∀ σ, callF (tab cells) fns (m + 1) 123 [.inst mm ii, B, env] σ = some (SB, σ)) (hR : ∀ σ, callF (tab cells) fns m 58 [SA, SB] σ = some (R, σ)) :
    callF (tab cells) fns (m + 2) 123 [.inst mm ii, .tup [.str "product", A, B], env] σ = some (R, σ) := by
  have h2 : callF (tab cells) fns (m + 1) 137 [.inst mm ii, .str "product", SA, SB] σ = some (R, σ) := by
    have hR := hR σ
    refine call_ret rfl rfl rfl ?_
    have hb : m_of_two.body = [_, _, _, _, _, _, _] := rfl
    rw [hb]
    repeat walk_at "i"
    with_reducible apply rt_ret
    repeat' walk_at "e"
  have hA := hA σ
  have hB := hB σ
  refine call_ret rfl rfl rfl ?_
  have hb : m_set_of.body = [_, _, _, _, _, _, _, _, _, _, _] := rfl
  rw [hb]
  apply rt_next
  · apply s_asg (by rfl)
    apply o_plain (by rfl)
    repeat' walk_at "e"
  repeat walk_at "i"
  with_reducible apply rt_ret
  repeat' walk_at "e"
theorem m_two_override (hA : ∀ σ, callF (tab cells) fns (m + 1) 123 [.inst mm ii, A, env] σ = some (SA, σ)) (hB : ∀ σ, callF (tab cells) fns (m + 1) 123 [.inst mm ii, B, env] σ = some (SB, σ)) (hR : ∀ σ, callF (tab cells) fns m 87 [SA, SB] σ = some (R, σ)) :
    callF (tab cells) fns (m + 2) 123 [.inst mm ii, .tup [.str "override", A, B], env] σ = some (R, σ) := by
  have h2 : callF (tab cells) fns (m + 1) 137 [.inst mm ii, .str "override", SA, SB] σ = some (R, σ) := by
    have hR := hR σ
    refine call_ret rfl rfl rfl ?_
    have hb : m_of_two.body = [_, _, _, _, _, _, _] := rfl
    rw [hb]
    repeat walk_at "i"
    with_reducible apply rt_ret
    repeat' walk_at "e"
  have hA := hA σ
  have hB := hB σ
  refine call_ret rfl rfl rfl ?_
  have hb : m_set_of.body = [_, _, _, _, _, _, _, _, _, _, _] := rfl
  rw [hb]
  apply rt_next
  · apply s_asg (by rfl)
    apply o_plain (by rfl)
    repeat' walk_at "e"
  repeat walk_at "i"
  with_reducible apply rt_ret
  repeat' walk_at "e"
theorem m_two_ahead (hA : ∀ σ, callF (tab cells) fns (m + 1) 123 [.inst mm ii, A, env] σ = some (SA, σ)) (hB : ∀ σ, callF (tab cells) fns (m + 1) 123 [.inst mm ii, B, env] σ = some (SB, σ)) (hR : ∀ σ, callF (tab cells) fns m 92 [SA, SB] σ = some (R, σ)) :
    callF (tab cells) fns (m + 2) 123 [.inst mm ii, .tup [.str "ahead", A, B], env] σ = some (R, σ) := by
  have h2 : callF (tab cells) fns (m + 1) 137 [.inst mm ii, .str "ahead", SA, SB] σ = some (R, σ) := by
    have hR := hR σ
    refine call_ret rfl rfl rfl ?_
    have hb : m_of_two.body = [_, _, _, _, _, _, _] := rfl
    rw [hb]
    repeat walk_at "i"
    with_reducible apply rt_ret
    repeat' walk_at "e"
  have hA := hA σ
  have hB := hB σ
  refine call_ret rfl rfl rfl ?_
  have hb : m_set_of.body = [_, _, _, _, _, _, _, _, _, _, _] := rfl
  rw [hb]
  apply rt_next
  · apply s_asg (by rfl)
    apply o_plain (by rfl)
    repeat' walk_at "e"
  repeat walk_at "i"
  with_reducible apply rt_ret
  repeat' walk_at "e"
theorem m_two_behind (hA : ∀ σ, callF (tab cells) fns (m + 1) 123 [.inst mm ii, A, env] σ = some (SA, σ)) (hB : ∀ σ, callF (tab cells) fns (m + 1) 123 [.inst mm ii, B, env] σ = some (SB, σ)) (hR : ∀ σ, callF (tab cells) fns m 97 [SA, SB] σ = some (R, σ)) :
    callF (tab cells) fns (m + 2) 123 [.inst mm ii, .tup [.str "behind", A, B], env] σ = some (R, σ) := by
  have h2 : callF (tab cells) fns (m + 1) 137 [.inst mm ii, .str "behind", SA, SB] σ = some (R, σ) := by
    have hR := hR σ
    refine call_ret rfl rfl rfl ?_
    have hb : m_of_two.body = [_, _, _, _, _, _, _] := rfl
    rw [hb]
    repeat walk_at "i"
    with_reducible apply rt_ret
    repeat' walk_at "e"
  have hA := hA σ
  have hB := hB σ
  refine call_ret rfl rfl rfl ?_
  have hb : m_set_of.body = [_, _, _, _, _, _, _, _, _, _, _] := rfl
  rw [hb]
  apply rt_next
  · apply s_asg (by rfl)
    apply o_plain (by rfl)
    repeat' walk_at "e"
  repeat walk_at "i"
  with_reducible apply rt_ret
  repeat' walk_at "e"
theorem m_rel {k : Int} (h : ∀ σ, index cells σ ii (.int k) = some R) : callF (tab cells) fns (m + 1) 123 [.inst mm ii, .tup [.str "rel", .int k], env] σ = some (R, σ) := by
  refine call_ret rfl rfl rfl ?_
  have hb : m_set_of.body = [_, _, _, _, _, _, _, _, _, _, _] := rfl
  rw [hb]
  apply rt_next
  · apply s_asg (by rfl)
    apply o_plain (by rfl)
    repeat' walk_at "e"
  repeat walk_at "i"
  with_reducible apply rt_ret
  refine x_sub (a := ii) (b := .int k) (σ₁ := σ) (σ₂ := σ) (by rfl) ?_ ?_ (h σ)
  · repeat' walk_at "e"
  · repeat' walk_at "e"
theorem m_univ (h : ∀ σ, callF (tab cells) fns m 24 [mm] σ = some (R, σ)) : callF (tab cells) fns (m + 1) 123 [.inst mm ii, .tup [.str "univ"], env] σ = some (R, σ) := by
  have h := h σ
  refine call_ret rfl rfl rfl ?_
  have hb : m_set_of.body = [_, _, _, _, _, _, _, _, _, _, _] := rfl
  rw [hb]
  apply rt_next
  · apply s_asg (by rfl)
    apply o_plain (by rfl)
    repeat' walk_at "e"
  repeat walk_at "i"
  with_reducible apply rt_ret
  repeat' walk_at "e"
theorem m_iden (h : ∀ σ, callF (tab cells) fns m 29 [mm] σ = some (R, σ)) : callF (tab cells) fns (m + 1) 123 [.inst mm ii, .tup [.str "iden"], env] σ = some (R, σ) := by
  have h := h σ
  refine call_ret rfl rfl rfl ?_
  have hb : m_set_of.body = [_, _, _, _, _, _, _, _, _, _, _] := rfl
  rw [hb]
  apply rt_next
  · apply s_asg (by rfl)
    apply o_plain (by rfl)
    repeat' walk_at "e"
  repeat walk_at "i"
  with_reducible apply rt_ret
  repeat' walk_at "e"
theorem m_none {k : Int} : callF (tab cells) fns (m + 1) 123 [.inst mm ii, .tup [.str "none", .int k], env] σ = some (.tup [], σ) := by
  refine call_ret rfl rfl rfl ?_
  have hb : m_set_of.body = [_, _, _, _, _, _, _, _, _, _, _] := rfl
  rw [hb]
  apply rt_next
  · apply s_asg (by rfl)
    apply o_plain (by rfl)
    repeat' walk_at "e"
  repeat walk_at "i"
  with_reducible apply rt_ret
  repeat' walk_at "e"
theorem m_var {x : Str} {ks : List Str} {vs : List PV} (h : valAt x ks vs = some R) : callF (tab cells) fns (m + 1) 123 [.inst mm ii, .tup [.str "var", .str x], .dS ks vs] σ = some (R, σ) := by
  refine call_ret rfl rfl rfl ?_
  have hb : m_set_of.body = [_, _, _, _, _, _, _, _, _, _, _] := rfl
  rw [hb]
  apply rt_next
  · apply s_asg (by rfl)
    apply o_plain (by rfl)
    repeat' walk_at "e"
  repeat walk_at "i"
  with_reducible apply rt_ret
  refine x_sub (a := .dS ks vs) (b := .str x) (σ₁ := σ) (σ₂ := σ) (by rfl) ?_ ?_ h
  · repeat' walk_at "e"
  · repeat' walk_at "e"
theorem m_either {b : Bool} (hF : ∀ σ, callF (tab cells) fns m 147 [.inst mm ii, F, env] σ = some (.bool b, σ)) (hA : ∀ σ, callF (tab cells) fns m 123 [.inst mm ii, A, env] σ = some (SA, σ)) (hB : ∀ σ, callF (tab cells) fns m 123 [.inst mm ii, B, env] σ = some (SB, σ)) :
    callF (tab cells) fns (m + 1) 123 [.inst mm ii, .tup [.str "either", F, A, B], env] σ = some (if b then SA else SB, σ) := by
  have hF := hF σ
  have hA := hA σ
  have hB := hB σ
  refine call_ret rfl rfl rfl ?_
  have hb : m_set_of.body = [_, _, _, _, _, _, _, _, _, _, _] := rfl
  rw [hb]
  apply rt_next
  · apply s_asg (by rfl)
    apply o_plain (by rfl)
    repeat' walk_at "e"
  repeat walk_at "i"
  with_reducible apply rt_ret
  cases b
  · rw [if_neg Bool.false_ne_true]
    repeat' walk_at "e"
  · rw [if_pos rfl]
    repeat' walk_at "e"
theorem m_comp {α : Type} {L : List α} {at' : α → List Int} {en : α → PV} {P : α → Bool} {D : PV} (hL : L.length ≤ 1000) (hO : ∀ σ, callF (tab cells) fns m 118 [.inst mm ii, D, env] σ = some (.list (L.map fun x => .tup [encT (at' x), en x]), σ))
    (hP : ∀ x ∈ L, ∀ σ, callF (tab cells) fns m 147 [.inst mm ii, F, en x] σ = some (.bool (P x), σ)) (hR : ∀ σ, callF (tab cells) fns m 19 [.list (((L.filter P).map at').map encT)] σ = some (R, σ)) :
    callF (tab cells) fns (m + 1) 123 [.inst mm ii, .tup [.str "comp", D, F], env] σ = some (R, σ) := by
  have hO := hO σ
  have hR := hR σ
  have sL : small L.length = true := by simp only [small, decide_eq_true_eq]; (with_reducible exact q_le ‹_› (by decide))
  refine call_ret rfl rfl rfl ?_
  have hb : m_set_of.body = [_, _, _, _, _, _, _, _, _, _, _] := rfl
  rw [hb]
  apply rt_next
  · apply s_asg (by rfl)
    apply o_plain (by rfl)
    repeat' walk_at "e"
  repeat walk_at "i"
  with_reducible apply rt_ret
  apply x_callF (by rfl) (by rfl)
  · apply xs_cons
    · refine x_compF (σ₁ := σ) (g := fun x => .tup [encT (at' x), en x]) (q := fun x => encT (at' x)) (P := P) L (by rfl) (i_map (σ₁ := σ) (p := .list _) (by rfl) ?_ rfl sL) sL fun x hx => ?_
      · repeat' walk_at "e"
      · have hP := hP x hx σ
        apply turn_if
        · exact b_pair b_name b_name
        · apply a_one
          apply t_call
          repeat' walk_at "e"
        · intro _; repeat' walk_at "e"
    · exact xs_nil
  · rw [List.map_map] at hR; exact hR
theorem m_t_not {b : Bool} (hF : ∀ σ, callF (tab cells) fns m 147 [.inst mm ii, F, env] σ = some (.bool b, σ)) : callF (tab cells) fns (m + 1) 147 [.inst mm ii, .tup [.str "not", F], env] σ = some (.bool (!b), σ) := by
  have hF := hF σ
  refine call_ret rfl rfl rfl ?_
  have hb : m_truth.body = [_, _, _, _, _, _, _, _, _, _, _] := rfl
  rw [hb]
  apply rt_next
  · apply s_asg (by rfl)
    apply o_plain (by rfl)
    repeat' walk_at "e"
  repeat walk_at "i"
  with_reducible apply rt_ret
  apply x_not
  repeat' walk_at "e"
theorem m_t_some {S : List PV} (hS : S.length ≤ 1000) (hA : ∀ σ, callF (tab cells) fns (m + 1) 123 [.inst mm ii, A, env] σ = some (.tup S, σ)) : callF (tab cells) fns (m + 2) 147 [.inst mm ii, .tup [.str "some", A], env] σ = some (.bool (decide (0 < S.length)), σ) := by
  have hA := hA σ
  have h2 : callF (tab cells) fns (m + 1) 161 [.inst mm ii, .str "some", .int S.length] σ = some (.bool (decide (0 < S.length)), σ) := by
    refine call_ret rfl rfl rfl ?_
    have hb : m_has_many.body = [_, _, _] := rfl
    rw [hb]
    repeat walk_at "i"
    with_reducible apply rt_ret
    refine x_cmp (σ₁ := σ) (σ₂ := σ) (a := .int S.length) (b := .int 0) (by rfl) ?_ ?_ ?_
    · repeat' walk_at "e"
    · repeat' walk_at "e"
    · show some (decide ((0 : Int) < S.length)) = _
      simp
  refine call_ret rfl rfl rfl ?_
  have hb : m_truth.body = [_, _, _, _, _, _, _, _, _, _, _] := rfl
  rw [hb]
  apply rt_next
  · apply s_asg (by rfl)
    apply o_plain (by rfl)
    repeat' walk_at "e"
  repeat walk_at "i"
  with_reducible apply rt_ret
  have hlen : builtinP ("len" : Str) [.tup S] = some (.int S.length) := bi_lenT (by simp only [small, decide_eq_true_eq]; (with_reducible exact q_le ‹_› (by decide)))
  repeat' walk_at "e"
theorem m_t_in {S Q : List (List Int)} (hS : S.length ≤ 1000) (hQ : Q.length ≤ 1000) (hA : ∀ σ, callF (tab cells) fns (m + 2) 123 [.inst mm ii, A, env] σ = some (encS S, σ)) (hB : ∀ σ, callF (tab cells) fns (m + 2) 123 [.inst mm ii, B, env] σ = some (encS Q, σ)) :
    callF (tab cells) fns (m + 3) 147 [.inst mm ii, .tup [.str "in", A, B], env] σ = some (.bool (S.filter fun t => !(memb t Q)).isEmpty, σ) := by
  have hA := hA σ
  have hB := hB σ
  have hW := c_within (cells := cells) (m := m) (σ := σ) S Q hS hQ
  refine call_ret rfl rfl rfl ?_
  have hb : m_truth.body = [_, _, _, _, _, _, _, _, _, _, _] := rfl
  rw [hb]
  apply rt_next
  · apply s_asg (by rfl)
    apply o_plain (by rfl)
    repeat' walk_at "e"
  repeat walk_at "i"
  apply rt_next
  · refine s_tup (ss := [.val (encS S), .val (encS Q)]) (σ₁ := σ) (by rfl) (by rfl) (os_cons (σ₁ := σ) (o_plain (by rfl) ?_) (os_cons (σ₁ := σ) (o_plain (by rfl) ?_) os_nil))
    · repeat' walk_at "e"
    · repeat' walk_at "e"
  · show Rets _ _ _ _ (upd (upd _ _ _) _ _) _ _ _ _
    with_reducible apply rt_ret
    repeat' walk_at "e"
theorem m_t_lt {k : Int} {S : List PV} (hS : S.length ≤ 1000) (hA : ∀ σ, callF (tab cells) fns m 123 [.inst mm ii, A, env] σ = some (.tup S, σ)) : callF (tab cells) fns (m + 2) 147 [.inst mm ii, .tup [.str "lt", .tup [.str "num", .int k], .tup [.str "count", A]], env] σ = some (.bool (decide (k < S.length)), σ) := by
  have hA := hA σ
  have h1 : callF (tab cells) fns (m + 1) 142 [.inst mm ii, .tup [.str "num", .int k], env] σ = some (.int k, σ) := by
    refine call_ret rfl rfl rfl ?_
    have hb : m_number_of.body = [_, _, _, _, _, _, _, _] := rfl
    rw [hb]
    apply rt_next
    · apply s_asg (by rfl)
      apply o_plain (by rfl)
      repeat' walk_at "e"
    repeat walk_at "i"
    with_reducible apply rt_ret
    repeat' walk_at "e"
  have h2 : callF (tab cells) fns (m + 1) 142 [.inst mm ii, .tup [.str "count", A], env] σ = some (.int S.length, σ) := by
    refine call_ret rfl rfl rfl ?_
    have hb : m_number_of.body = [_, _, _, _, _, _, _, _] := rfl
    rw [hb]
    apply rt_next
    · apply s_asg (by rfl)
      apply o_plain (by rfl)
      repeat' walk_at "e"
    repeat walk_at "i"
    with_reducible apply rt_ret
    have hlen : builtinP ("len" : Str) [.tup S] = some (.int S.length) := bi_lenT (by simp only [small, decide_eq_true_eq]; (with_reducible exact q_le ‹_› (by decide)))
    repeat' walk_at "e"
  have h3 : callF (tab cells) fns (m + 1) 154 [.inst mm ii, .str "lt", .int k, .int S.length] σ = some (.bool (decide (k < S.length)), σ) := by
    refine call_ret rfl rfl rfl ?_
    have hb : m_compared.body = [_, _] := rfl
    rw [hb]
    repeat walk_at "i"
    with_reducible apply rt_ret
    repeat' walk_at "e"
  refine call_ret rfl rfl rfl ?_
  have hb : m_truth.body = [_, _, _, _, _, _, _, _, _, _, _] := rfl
  rw [hb]
  apply rt_next
  · apply s_asg (by rfl)
    apply o_plain (by rfl)
    repeat' walk_at "e"
  repeat walk_at "i"
  with_reducible apply rt_ret
  repeat' walk_at "e"
end

/- part X6 -/
-- a name's value
-- an expression's step
-- an if, decided
structure En where
  ks : List Str
  as : List Int
noncomputable def replN (k : Str) (v : Int) : List Str → List Int → List Int
  | k' :: ks, u :: vs => (if k' = k then v else u) :: replN k v ks vs
  | _, _ => []
noncomputable def En.set (e : En) (x : Str) (a : Int) : En := if memb x e.ks then ⟨e.ks, replN x a e.ks e.as⟩ else ⟨e.ks ++ [x], e.as ++ [a]⟩
noncomputable def getN (k : Str) : List Str → List Int → Option Int
  | k' :: ks, v :: vs => if k' = k then some v else getN k ks vs
  | _, _ => .none
noncomputable def En.get (e : En) (x : Str) : Int := (getN x e.ks e.as).getD 0
/-- the two dicts of names -/
noncomputable abbrev rowE (a : Int) : PV := .tup [.tup [.int a]]
noncomputable def encEn (e : En) : PV := .dS e.ks (e.as.map rowE)
noncomputable def encEl (e : En) : PV := .dS e.ks (e.as.map .int)
theorem repl_map {f : Int → PV} {k : Str} {a : Int} : ∀ {ks : List Str} {as : List Int}, repl k (f a) ks (as.map f) = (replN k a ks as).map f
  | [], [] => rfl
  | [], _ :: _ => rfl
  | _ :: _, [] => rfl
  | k' :: ks, b :: as => by simp only [List.map_cons, repl, replN, repl_map (ks := ks) (as := as)]; split <;> rfl
theorem putK_map {f : Int → PV} {x : Str} {a : Int} {e : En} : (putK x (f a) e.ks (e.as.map f)).1 = (e.set x a).ks ∧ (putK x (f a) e.ks (e.as.map f)).2 = (e.set x a).as.map f := by
  unfold putK En.set
  split
  · exact ⟨rfl, repl_map⟩
  · exact ⟨rfl, by simp⟩
theorem valAt_map {f : Int → PV} {k : Str} : ∀ {ks : List Str} {as : List Int}, valAt k ks (as.map f) = (getN k ks as).map f
  | [], [] => rfl
  | [], _ :: _ => rfl
  | _ :: _, [] => rfl
  | k' :: ks, b :: as => by simp only [List.map_cons, valAt, getN, valAt_map (ks := ks) (as := as)]; split <;> rfl
theorem replN_len {k : Str} {a : Int} : ∀ {ks : List Str} {as : List Int}, ks.length = as.length → (replN k a ks as).length = as.length
  | [], [], _ => rfl
  | [], _ :: _, h => by simp at h
  | _ :: _, [], h => by simp at h
  | k' :: ks, b :: as, h => by simp only [replN, List.length_cons, replN_len (ks := ks) (as := as) (by simpa using h)]
noncomputable def En.ok (e : En) : Prop := e.ks.length = e.as.length ∧ e.ks.length ≤ 10
theorem set_len {e : En} {x : Str} {a : Int} (h : e.ks.length = e.as.length) : (e.set x a).ks.length = (e.set x a).as.length := by
  unfold En.set; split
  · rw [replN_len h]; exact h
  · simp [h]
theorem getN_some {k : Str} : ∀ {ks : List Str} {as : List Int}, ks.length = as.length → k ∈ ks → ∃ a, getN k ks as = some a
  | [], _, _, h => by cases h
  | _ :: _, [], h, _ => by simp at h
  | k' :: ks, b :: as, hl, h => by
    simp only [getN]
    by_cases e : k' = k
    · exact ⟨b, by rw [if_pos e]⟩
    · rw [if_neg e]; exact getN_some (by simpa using hl) (by rcases List.mem_cons.mp h with q | q; exact absurd q.symm e; exact q)

/-- a declaration: its name, its expression, the atoms that it ranges over -/
structure Dec where
  x : Str
  e : PV
  R : En → List Int
abbrev Row := List Int × En
noncomputable def openStep (d : Dec) (L : List Row) : List Row := L.flatMap fun r => (d.R r.2).map fun a => (r.1 ++ [a], r.2.set d.x a)
noncomputable def openL : List Dec → List Row → List Row
  | [], L => L
  | d :: ds, L => openL ds (openStep d L)
theorem openL_app (d : Dec) : ∀ (p : List Dec) (L : List Row), openL (p ++ [d]) L = openStep d (openL p L)
  | [], _ => rfl
  | _ :: p, L => openL_app d p _
noncomputable abbrev encR (r : Row) : PV := .tup [encT r.1, encEn r.2]

theorem c_opened {cells : List Int} {m σ : Nat} {mm ii : PV} (ds : List Dec) (en : En) (hsz : ∀ p q, p ++ q = ds → (openL p [([], en)]).length ≤ 1000) (hR : ∀ d ∈ ds, ∀ e, (d.R e).length ≤ 100) (hl : ∀ p q, p ++ q = ds → ∀ r ∈ openL p [([], en)], r.1.length ≤ 100 ∧ r.2.ks.length ≤ 100) (hds : ds.length ≤ 100)
    (hC : ∀ p d q, p ++ d :: q = ds → ∀ r ∈ openL p [([], en)], ∀ σ, callF (tab cells) fns m 123 [.inst mm ii, d.e, encEn r.2] σ = some (encS ((d.R r.2).map ([·])), σ)) :
    callF (tab cells) fns (m + 1) 118 [.inst mm ii, .tup (ds.map fun d => .tup [.str d.x, d.e]), encEn en] σ = some (.list ((openL ds [([], en)]).map encR), σ) := by
  have sD : small ds.length = true := by simp only [small, decide_eq_true_eq]; (with_reducible exact q_le ‹_› (by decide))
  refine call_ret rfl rfl rfl ?_
  have hb : m_opened.body = [_, _, _] := rfl
  rw [hb]
  apply rt_next
  · apply s_asg (by rfl)
    apply o_plain (by rfl)
    repeat' walk_at "e"
  refine rt_for (g := fun d : Dec => .tup [.str d.x, d.e]) (L := ds) (σ₁ := σ) (fun pre ρ => ρ ("self" : Str) = some (.val (.inst mm ii)) ∧ ρ ("found" : Str) = some (.val (.list ((openL pre [([], en)]).map encR)))) (by rfl) (i_map (by rfl) (x_name (by rfl) (by walk_at "n")) rfl sD)
    ⟨by walk_at "n", by walk_at "n"⟩ (fun pre d q ρ hd ⟨j1, j2⟩ => ?_) (fun ρ' ⟨j1, j2⟩ => ?_)
  · have sF : small (openL pre [([], en)]).length = true := by have := hsz pre (d :: q) hd; simp only [small, decide_eq_true_eq]; (with_reducible exact q_le ‹_› (by decide))
    have total : (openStep d (openL pre [([], en)])).length ≤ 1000 := by rw [← openL_app]; exact hsz (pre ++ [d]) q (by rw [← hd]; simp)
    -- the middle loop
    have mid : ∃ ρ', evS (tab cells) (callF (tab cells) fns m) 35 m_opened.names (upd (frz (reads (.List [] ⟨0, 0, 0, 0⟩)) (upd (upd ρ ("name" : Str) (.val (.str d.x))) ("expr" : Str) (.val d.e))) ("late" : Str) (.lst []))
      (nthS (stB (nthS m_opened.body 1)) 1) σ = some (.next, ρ', σ) ∧ ρ' ("self" : Str) = some (.val (.inst mm ii)) ∧ (ρ' ("name" : Str) = some (.val (.str d.x)) ∧ ρ' ("expr" : Str) = some (.val d.e)) ∧ ρ' ("late" : Str) = some (.lst ((openStep d (openL pre [([], en)])).map encR)) := by
      refine st_for (n := 34) (σ₁ := σ) (g := encR) (L := openL pre [([], en)])
        (fun p ρ => ρ ("self" : Str) = some (.val (.inst mm ii)) ∧ (ρ ("name" : Str) = some (.val (.str d.x)) ∧ ρ ("expr" : Str) = some (.val d.e)) ∧ ρ ("late" : Str) = some (.lst ((openStep d p).map encR))) (by rfl) (i_map (p := .list _) (by rfl) (x_name (by rfl) (by walk_at "n")) rfl sF)
        ⟨by walk_at "n", ⟨by walk_at "n", by walk_at "n"⟩, by walk_at "n"⟩ (fun p r q' ρ₁ hr ⟨i1, ⟨i2, i3⟩, i4⟩ => ?_)
      have hmem : r ∈ openL pre [([], en)] := by rw [← hr]; simp
      have hrl := hl pre (d :: q) hd r hmem
      have hCr := hC pre d q hd r hmem σ
      have hRl := hR d (by rw [← hd]; simp) r.2
      have sR : small (d.R r.2).length = true := by simp only [small, decide_eq_true_eq]; (with_reducible exact q_le ‹_› (by decide))
      have part : (openStep d p).length + (d.R r.2).length ≤ 1000 := by
        rw [← hr] at total
        unfold openStep at total ⊢
        rw [List.flatMap_append, List.flatMap_cons, List.length_append, List.length_append, List.length_map] at total
        exact Nat.le_trans (Nat.add_le_add_left (Nat.le_add_right _ _) _) total
      -- the inner loop
      have inn : ∃ ρ', evS (tab cells) (callF (tab cells) fns m) 33 m_opened.names (upd (upd ρ₁ ("atoms" : Str) (.val (encT r.1))) ("one" : Str) (.val (encEn r.2)))
        (nthS (stB (nthS (stB (nthS m_opened.body 1)) 1)) 0) σ = some (.next, ρ', σ) ∧ ρ' ("self" : Str) = some (.val (.inst mm ii)) ∧ (ρ' ("name" : Str) = some (.val (.str d.x)) ∧ ρ' ("expr" : Str) = some (.val d.e)) ∧ (ρ' ("atoms" : Str) = some (.val (encT r.1)) ∧ ρ' ("one" : Str) = some (.val (encEn r.2))) ∧ ρ' ("late" : Str) = some (.lst ((openStep d p).map encR ++ ((d.R r.2).map fun a => (r.1 ++ [a], r.2.set d.x a)).map encR)) := by
        refine st_for (n := 32) (σ₁ := σ) (g := fun a : Int => encT [a]) (L := d.R r.2)
          (fun w ρ => ρ ("self" : Str) = some (.val (.inst mm ii)) ∧ (ρ ("name" : Str) = some (.val (.str d.x)) ∧ ρ ("expr" : Str) = some (.val d.e)) ∧ (ρ ("atoms" : Str) = some (.val (encT r.1)) ∧ ρ ("one" : Str) = some (.val (encEn r.2))) ∧ ρ ("late" : Str) = some (.lst ((openStep d p).map encR ++ (w.map fun a => (r.1 ++ [a], r.2.set d.x a)).map encR))) (by rfl)
          (i_map (p := encS ((d.R r.2).map ([·]))) (by rfl) ?_ (by show some _ = _; rw [List.map_map]; rfl) sR) ⟨by walk_at "n", ⟨by walk_at "n", by walk_at "n"⟩, ⟨by walk_at "n", by walk_at "n"⟩, by (simp only [List.map_nil, List.append_nil]; walk_at "n")⟩ (fun w a w' ρ₃ hw ⟨l1, ⟨l2, l3⟩, ⟨l4, l5⟩, l6⟩ => ?_)
        · repeat' walk_at "e"
        · have wl : w.length + 1 ≤ (d.R r.2).length := by rw [← hw]; simp
          have l5' : ρ₃ ("one" : Str) = some (.val (.dS r.2.ks (r.2.as.map rowE))) := l5
          have sK : small r.2.ks.length = true := by have := hrl.2; simp only [small, decide_eq_true_eq]; (with_reducible exact q_le ‹_› (by decide))
          have h00 : (false || !small r.2.ks.length) = false := by rw [sK]; rfl
          have sL : small ((openStep d p).map encR ++ (w.map fun a => (r.1 ++ [a], r.2.set d.x a)).map encR).length = true := by
            simp only [small, decide_eq_true_eq, List.length_append, List.length_map]; exact q_le (Nat.le_trans (Nat.add_le_add_left (Nat.le_of_succ_le wl) _) part) rfl
          have pk := putK_map (f := rowE) (x := d.x) (a := a) (e := r.2)
          refine ⟨_, f_turn b_name (ss_next (s_asg (by rfl) (o_copy (ks := r.2.ks) (vs := r.2.as.map rowE) (by rfl) (x_name (by rfl) (by walk_at "n")) sK)) (ss_next (s_dct (k := d.x) (p := rowE a) (ks := r.2.ks) (vs := r.2.as.map rowE) (σ₁ := σ) (σ₂ := σ) (by rfl) ?_ (by walk_at "n") h00 ?_)
            (ss_next (s_app (p := encR (r.1 ++ [a], r.2.set d.x a)) (l := (openStep d p).map encR ++ (w.map fun a => (r.1 ++ [a], r.2.set d.x a)).map encR) (σ₁ := σ) (by rfl) (by walk_at "n") ?_ sL) ss_nil))), ?_, ⟨?_, ?_⟩, ⟨?_, ?_⟩, ?_⟩
          · repeat' walk_at "e"
          · repeat' walk_at "e"
          · refine x_tuple (by rfl) (xs_cons (σ₁ := σ) ?_ (xs_cons (σ₁ := σ) (p := encEn (r.2.set d.x a)) ?_ xs_nil))
            · refine x_bin (σ₁ := σ) (σ₂ := σ) (a := encT r.1) (b := encT [a]) (c := encT (r.1 ++ [a])) (x_name (by rfl) (by walk_at "n")) (x_name (by rfl) (by walk_at "n")) ?_
              have := hrl.1
              show (if small _ then _ else _) = _
              rw [if_pos (by simp only [small, decide_eq_true_eq, List.length_map, List.length_singleton]; (with_reducible exact q_a5 ‹_› (by decide))), ← List.map_append]
            · unfold encEn
              rw [← pk.1, ← pk.2]
              exact x_name (by rfl) (by walk_at "n")
          · walk_at "n"
          · walk_at "n"
          · walk_at "n"
          · walk_at "n"
          · walk_at "n"
          · rw [List.map_append, List.map_append, ← List.append_assoc]; exact r_upd
      refine Classical.byContradiction fun hG => ?_
      obtain ⟨ρ₄, e4, q1, ⟨q2, q3⟩, _, q5⟩ := inn
      refine hG ?_
      refine ⟨ρ₄, f_turn (b_pair b_name b_name) (ss_next e4 ss_nil), q1, ⟨q2, q3⟩, ?_⟩
      rw [q5]; unfold openStep; rw [List.flatMap_append, List.map_append]; simp
    refine Classical.byContradiction fun hG => ?_
    obtain ⟨ρ₂, e2, k1, ⟨k2, k3⟩, k4⟩ := mid
    refine hG ?_
    refine ⟨_, f_turn (b_pair b_name b_name) (ss_next (s_asg (by rfl) o_list) (ss_next e2 (ss_next (s_asg (σ₁ := σ) (by rfl) (o_plain (p := .list ((openStep d (openL pre [([], en)])).map encR)) (by rfl) (x_name (by rfl) (by walk_at "n")))) ss_nil))), by walk_at "n", ?_⟩
    rw [openL_app]; exact r_upd
  · with_reducible apply rt_ret
    repeat' walk_at "e"

/- part X7 -/
-- a name's value
-- an expression's step
-- an if, decided
/- the lists' order -/
theorem lt_irrefl : ∀ x : List Int, ltL x x = false
  | [] => rfl
  | a :: l => by simp [ltL, lt_irrefl l]
theorem lt_trans : ∀ {x y z : List Int}, ltL x y = true → ltL y z = true → ltL x z = true
  | [], [], _, h, _ => by simp [ltL] at h
  | [], _ :: _, [], _, h => by simp [ltL] at h
  | [], _ :: _, _ :: _, _, _ => rfl
  | _ :: _, [], _, h, _ => by simp [ltL] at h
  | _ :: _, _ :: _, [], _, h => by simp [ltL] at h
  | a :: l, b :: r, c :: q, h1, h2 => by
    simp only [ltL] at h1 h2 ⊢
    by_cases e1 : a = b
    · subst e1
      by_cases e2 : a = c
      · subst e2; simp at h1 h2 ⊢; exact lt_trans h1 h2
      · simp [e2] at h2 ⊢; exact h2
    · by_cases e2 : b = c
      · subst e2; simp [e1] at h1 ⊢; exact h1
      · simp [e1] at h1; simp [e2] at h2
        have : a ≠ c := by exact Int.ne_of_lt (Int.lt_trans h1 h2)
        simp [this]; exact Int.lt_trans h1 h2
theorem lt_total : ∀ {x y : List Int}, x ≠ y → ltL x y = true ∨ ltL y x = true
  | [], [], h => absurd rfl h
  | [], _ :: _, _ => .inl rfl
  | _ :: _, [], _ => .inr rfl
  | a :: l, b :: r, h => by
    simp only [ltL]
    by_cases e : a = b
    · subst e
      have : l ≠ r := fun q => h (by rw [q])
      simpa using lt_total this
    · have e' : b ≠ a := Ne.symm e
      simp [e, e']; exact Int.lt_or_gt_of_ne e
abbrev Sd (l : List (List Int)) : Prop := l.Pairwise fun x y => ltL x y = true
theorem sd_uniq : ∀ {l r : List (List Int)}, Sd l → Sd r → (∀ x, x ∈ l ↔ x ∈ r) → l = r
  | [], [], _, _, _ => rfl
  | [], b :: r, _, _, h => absurd ((h b).mpr (.head _)) (by simp)
  | a :: l, [], _, _, h => absurd ((h a).mp (.head _)) (by simp)
  | a :: l, b :: r, h1, h2, h => by
    refine Classical.byContradiction fun hG => ?_
    obtain ⟨p1, p2⟩ := List.pairwise_cons.mp h1
    obtain ⟨q1, q2⟩ := List.pairwise_cons.mp h2
    refine hG ?_
    have e : a = b := by
      rcases List.mem_cons.mp ((h a).mp (.head _)) with e | e
      · exact e
      · rcases List.mem_cons.mp ((h b).mpr (.head _)) with e' | e'
        · exact e'.symm
        · have := lt_trans (q1 a e) (p1 b e'); rw [lt_irrefl] at this; cases this
    subst e
    congr 1
    refine sd_uniq p2 q2 fun x => ⟨fun hx => ?_, fun hx => ?_⟩
    · rcases List.mem_cons.mp ((h x).mp (.tail _ hx)) with e | e
      · subst e; have := p1 x hx; rw [lt_irrefl] at this; cases this
      · exact e
    · rcases List.mem_cons.mp ((h x).mpr (.tail _ hx)) with e | e
      · subst e; have := q1 x hx; rw [lt_irrefl] at this; cases this
      · exact e
theorem mem_insL {x y : List Int} : ∀ {l : List (List Int)}, y ∈ insL x l ↔ y = x ∨ y ∈ l
  | [] => by simp [insL]
  | z :: r => by
    unfold insL
    split
    · simp
    · simp only [List.mem_cons, mem_insL (l := r)]
      constructor
      · rintro (h | h | h); exact .inr (.inl h); exact .inl h; exact .inr (.inr h)
      · rintro (h | h | h); exact .inr (.inl h); exact .inl h; exact .inr (.inr h)
theorem sd_insL {x : List Int} : ∀ {l : List (List Int)}, Sd l → x ∉ l → Sd (insL x l)
  | [], _, _ => List.pairwise_singleton _ _
  | z :: r, h, hx => by
    obtain ⟨p1, p2⟩ := List.pairwise_cons.mp h
    simp only [List.mem_cons, not_or] at hx
    unfold insL
    split
    · rename_i q
      exact List.pairwise_cons.mpr ⟨fun y hy => by rcases List.mem_cons.mp hy with rfl | hy; exact q; exact lt_trans q (p1 y hy), h⟩
    · rename_i q
      refine List.pairwise_cons.mpr ⟨fun y hy => ?_, sd_insL p2 hx.2⟩
      rcases mem_insL.mp hy with rfl | hy
      · exact (lt_total hx.1).resolve_left q
      · exact p1 y hy
theorem mem_sortL {y : List Int} : ∀ {l : List (List Int)}, y ∈ sortL l ↔ y ∈ l
  | [] => by simp [sortL]
  | x :: r => by show y ∈ insL x (sortL r) ↔ _; rw [mem_insL, mem_sortL (l := r)]; simp
theorem sd_sortL : ∀ {l : List (List Int)}, l.Nodup → Sd (sortL l)
  | [], _ => List.Pairwise.nil
  | x :: r, h => sd_insL (sd_sortL (List.nodup_cons.mp h).2) (by show x ∉ sortL r; rw [mem_sortL]; exact (List.nodup_cons.mp h).1)
theorem len_insL {x : List Int} : ∀ l : List (List Int), (insL x l).length = l.length + 1
  | [] => rfl
  | y :: r => by unfold insL; split <;> simp [len_insL r]
theorem len_sortL : ∀ l : List (List Int), (sortL l).length = l.length
  | [] => rfl
  | x :: r => by show (insL x (sortL r)).length = _; rw [len_insL, len_sortL r]; rfl
theorem nodup_fold {K : Type} [DecidableEq K] : ∀ (l acc : List K), acc.Nodup → (l.foldl addK acc).Nodup
  | [], acc, h => h
  | x :: l, acc, h => by
    rw [List.foldl_cons]
    refine nodup_fold l _ ?_
    unfold addK memb
    split
    · exact h
    · rename_i q
      refine List.nodup_append.mpr ⟨h, by simp, fun a ha b hb e => ?_⟩
      rw [List.mem_singleton.mp hb] at e
      exact q (by simpa using e ▸ ha)
theorem nodup_dedup {K : Type} [DecidableEq K] (l : List K) : (dedup l).Nodup := nodup_fold l [] List.nodup_nil

/- all tuples -/
noncomputable def allT (n : Nat) : Nat → List (List Int)
  | 0 => [[]]
  | r + 1 => (List.range n).flatMap fun a : Nat => (allT n r).map ((a : Int) :: ·)
noncomputable def TL (n r : Nat) (P : List Int → Bool) : List (List Int) := (allT n r).filter P
theorem mem_allT {n : Nat} : ∀ {r : Nat} {t : List Int}, t ∈ allT n r ↔ t.length = r ∧ ∀ a ∈ t, 0 ≤ a ∧ a < n
  | 0, t => by
    simp only [allT, List.mem_singleton]
    constructor
    · rintro rfl; simp
    · rintro ⟨h, _⟩; exact List.length_eq_zero_iff.mp h
  | r + 1, t => by
    simp only [allT, List.mem_flatMap, List.mem_range, List.mem_map]
    constructor
    · rintro ⟨a, ha, u, hu, rfl⟩
      obtain ⟨h1, h2⟩ := mem_allT.mp hu
      refine ⟨by simp [h1], fun b hb => ?_⟩
      rcases List.mem_cons.mp hb with rfl | hb
      · (with_reducible exact q_c2 ‹_›)
      · exact h2 b hb
    · rintro ⟨h1, h2⟩
      cases t with
      | nil => simp at h1
      | cons a u =>
        have ha := h2 a (.head _)
        exact ⟨a.toNat, by exact q_tn ha, u, mem_allT.mpr ⟨by simpa using h1, fun b hb => h2 b (.tail _ hb)⟩, by rw [Int.toNat_of_nonneg ha.1]⟩
theorem sd_range {f : Nat → List (List Int)} : ∀ (k s : Nat), (∀ a, Sd (f a)) → (∀ a b, a < b → ∀ x ∈ f a, ∀ y ∈ f b, ltL x y = true) → Sd ((List.range' s k).flatMap f)
  | 0, _, _, _ => List.Pairwise.nil
  | k + 1, s, h1, h2 => by
    rw [List.range'_succ, List.flatMap_cons]
    refine List.pairwise_append.mpr ⟨h1 s, sd_range k (s + 1) h1 h2, fun x hx y hy => ?_⟩
    refine Classical.byContradiction fun hG => ?_
    obtain ⟨b, hb, hy⟩ := List.mem_flatMap.mp hy
    refine hG ?_
    have := (List.mem_range'_1.mp hb).1
    exact h2 s b (by (with_reducible exact q_mll ‹_›)) x hx y hy
theorem sd_allT (n : Nat) : ∀ r, Sd (allT n r)
  | 0 => List.pairwise_singleton _ _
  | r + 1 => by
    unfold allT
    rw [List.range_eq_range']
    refine sd_range n 0 (fun a => ?_) fun a b hab x hx y hy => ?_
    · rw [Sd, List.pairwise_map]
      exact (sd_allT n r).imp fun h => by simpa [ltL] using h
    · obtain ⟨u, _, rfl⟩ := List.mem_map.mp hx
      refine Classical.byContradiction fun hG => ?_
      obtain ⟨v, _, rfl⟩ := List.mem_map.mp hy
      refine hG ?_
      have : ¬ ((a : Int) = b) := by exact fun e => absurd (Int.ofNat.inj e) (Nat.ne_of_lt hab)
      simp [ltL, this]; (with_reducible assumption)
theorem sd_TL (n r : Nat) (P : List Int → Bool) : Sd (TL n r P) := (sd_allT n r).filter _
theorem mem_TL {n r : Nat} {P : List Int → Bool} {t : List Int} : t ∈ TL n r P ↔ t ∈ allT n r ∧ P t = true := List.mem_filter
theorem len_flat {α β : Type} {c : Nat} {f : α → List β} : ∀ l : List α, (∀ a ∈ l, (f a).length = c) → (l.flatMap f).length = l.length * c
  | [], _ => by simp
  | a :: r, h => by rw [List.flatMap_cons, List.length_append, h a (.head _), len_flat r fun b hb => h b (.tail _ hb), List.length_cons, Nat.add_mul, Nat.one_mul, Nat.add_comm]
theorem len_allT (n : Nat) : ∀ r, (allT n r).length = n ^ r
  | 0 => rfl
  | r + 1 => by unfold allT; rw [len_flat (c := n ^ r) _ (fun a _ => by rw [List.length_map, len_allT n r]), List.length_range, Nat.pow_succ, Nat.mul_comm]
theorem len_TL {n r : Nat} {P : List Int → Bool} (hn : n ≤ 3) (hr : r ≤ 3) : (TL n r P).length ≤ 27 := by
  refine Nat.le_trans (List.length_filter_le _ _) ?_
  rw [len_allT]
  exact Nat.le_trans (Nat.pow_le_pow_left hn r) (Nat.pow_le_pow_right (by decide) hr)
/-- a sorted list is the list of its members -/
theorem TL_eq {n r : Nat} {P : List Int → Bool} {l : List (List Int)} (h : Sd l) (hm : ∀ t, t ∈ l ↔ t ∈ allT n r ∧ P t = true) : l = TL n r P := sd_uniq h (sd_TL n r P) fun t => (hm t).trans mem_TL.symm
theorem TL_sort {n r : Nat} {P : List Int → Bool} {l : List (List Int)} (hm : ∀ t, t ∈ l ↔ t ∈ allT n r ∧ P t = true) : sortL (dedup l) = TL n r P :=
  TL_eq (sd_sortL (nodup_dedup l)) fun t => by rw [mem_sortL, mem_dedup]; exact hm t
theorem TL_64 {n r : Nat} {P : List Int → Bool} {l : List (List Int)} (hn : n ≤ 3) (hr : r ≤ 3) (hm : ∀ t, t ∈ l ↔ t ∈ allT n r ∧ P t = true) : (dedup l).length < 64 := by
  rw [← len_sortL, TL_sort hm]; have := len_TL (P := P) hn hr; (with_reducible exact q_lt ‹_ ≤ _› (by decide))
theorem TL_congr {n r : Nat} {P Q : List Int → Bool} (h : ∀ t ∈ allT n r, P t = Q t) : TL n r P = TL n r Q := List.filter_congr h

/- part X8 -/
-- a name's value
-- an expression's step
-- an if, decided
mutual
inductive Ex where
  | rel (k : Nat) | univ | iden | none (k : Nat) | var (x : Str) | comp (ds : Ds) (f : Fm)
  | minus (a b : Ex) | product (a b : Ex) | join (a b : Ex) | override (a b : Ex) | ahead (a b : Ex) | behind (a b : Ex) | either (f : Fm) (a b : Ex)
inductive Fm where
  | some (e : Ex) | inn (a b : Ex) | not (f : Fm) | lt (k : Int) (e : Ex)
inductive Ds where
  | nil | cons (x : Str) (e : Ex) (r : Ds)
end
noncomputable def Ds.len : Ds → Nat
  | .nil => 0
  | .cons _ _ r => r.len + 1
mutual
noncomputable def enc : Ex → PV
  | .rel k => .tup [.str "rel", .int k]
  | .univ => .tup [.str "univ"]
  | .iden => .tup [.str "iden"]
  | .none k => .tup [.str "none", .int k]
  | .var x => .tup [.str "var", .str x]
  | .comp ds f => .tup [.str "comp", .tup (encD ds), encF f]
  | .minus a b => .tup [.str "minus", enc a, enc b]
  | .product a b => .tup [.str "product", enc a, enc b]
  | .join a b => .tup [.str "join", enc a, enc b]
  | .override a b => .tup [.str "override", enc a, enc b]
  | .ahead a b => .tup [.str "ahead", enc a, enc b]
  | .behind a b => .tup [.str "behind", enc a, enc b]
  | .either f a b => .tup [.str "either", encF f, enc a, enc b]
noncomputable def encF : Fm → PV
  | .some e => .tup [.str "some", enc e]
  | .inn a b => .tup [.str "in", enc a, enc b]
  | .not f => .tup [.str "not", encF f]
  | .lt k e => .tup [.str "lt", .tup [.str "num", .int k], .tup [.str "count", enc e]]
noncomputable def encD : Ds → List PV
  | .nil => []
  | .cons x e r => .tup [.str x, enc e] :: encD r
end
noncomputable def ar : Ex → Nat
  | .rel k => k + 1
  | .univ => 1
  | .iden => 2
  | .none k => k
  | .var _ => 1
  | .comp ds _ => ds.len
  | .minus a _ => ar a
  | .product a b => ar a + ar b
  | .join a b => ar a + ar b - 2
  | .override a _ => ar a
  | .ahead _ b => ar b
  | .behind a _ => ar a
  | .either _ a _ => ar a
mutual
noncomputable def dep : Ex → Nat
  | .comp ds f => 5 + max (depD ds) (depF f)
  | .minus a b => 5 + max (dep a) (dep b)
  | .product a b => 5 + max (dep a) (dep b)
  | .join a b => 5 + max (dep a) (dep b)
  | .override a b => 5 + max (dep a) (dep b)
  | .ahead a b => 5 + max (dep a) (dep b)
  | .behind a b => 5 + max (dep a) (dep b)
  | .either f a b => 5 + max (depF f) (max (dep a) (dep b))
  | _ => 5
noncomputable def depF : Fm → Nat
  | .some e => 5 + dep e
  | .inn a b => 5 + max (dep a) (dep b)
  | .not f => 5 + depF f
  | .lt _ e => 5 + dep e
noncomputable def depD : Ds → Nat
  | .nil => 5
  | .cons _ e r => max (dep e) (depD r)
end
noncomputable def val (n : Nat) (t : List Int) : Nat := t.foldl (fun p a => p * n + a.toNat) 0
noncomputable def relP (n : Nat) (B : Nat → Nat) (k : Nat) (t : List Int) : Bool := (B k).testBit (val n t)
mutual
noncomputable def sem (n : Nat) (B : Nat → Nat) : Ex → En → List Int → Bool
  | .rel k, _, t => relP n B k t
  | .univ, _, _ => true
  | .iden, _, t => t.headD 0 == t.getLastD 0
  | .none _, _, _ => false
  | .var x, en, t => t == [en.get x]
  | .comp ds f, en, t => semD n B ds (semF n B f) en t
  | .minus a b, en, t => sem n B a en t && !sem n B b en t
  | .product a b, en, t => sem n B a en (t.take 1) && sem n B b en (t.drop 1)
  | .join a b, en, t => (List.range n).any fun y => sem n B a en (t.take (ar a - 1) ++ [(y : Int)]) && sem n B b en ((y : Int) :: t.drop (ar a - 1))
  | .override a b, en, t => sem n B b en t || (sem n B a en t && !((allT n (ar b)).any fun u => sem n B b en u && u.headD 0 == t.headD 0))
  | .ahead a b, en, t => sem n B a en (t.take 1) && sem n B b en t
  | .behind a b, en, t => sem n B a en t && sem n B b en (t.drop (t.length - 1))
  | .either f a b, en, t => if semF n B f en then sem n B a en t else sem n B b en t
noncomputable def semF (n : Nat) (B : Nat → Nat) : Fm → En → Bool
  | .some e, en => (allT n (ar e)).any (sem n B e en)
  | .inn a b, en => (allT n (ar a)).all fun t => !sem n B a en t || sem n B b en t
  | .not f, en => !semF n B f en
  | .lt k e, en => decide (k < (TL n (ar e) (sem n B e en)).length)
noncomputable def semD (n : Nat) (B : Nat → Nat) : Ds → (En → Bool) → En → List Int → Bool
  | .nil, F, en, _ => F en
  | .cons x e r, F, en, t => sem n B e en (t.take 1) && semD n B r F (en.set x (t.headD 0)) (t.drop 1)
end
noncomputable abbrev addS (ks : List Str) (x : Str) : List Str := if memb x ks then ks else ks ++ [x]
mutual
noncomputable def WE (ks : List Str) : Ex → Prop
  | .rel k => k ≤ 2
  | .univ => True
  | .iden => True
  | .none k => 1 ≤ k ∧ k ≤ 3
  | .var x => x ∈ ks
  | .comp ds f => 1 ≤ ds.len ∧ ds.len ≤ 3 ∧ ks.length ≤ 50 ∧ WD ks ds (fun ks' => WF ks' f)
  | .minus a b => WE ks a ∧ WE ks b ∧ ar a = ar b
  | .product a b => WE ks a ∧ WE ks b ∧ ar a = 1 ∧ ar b ≤ 2
  | .join a b => WE ks a ∧ WE ks b ∧ ar a + ar b = 3
  | .override a b => WE ks a ∧ WE ks b ∧ ar a = ar b
  | .ahead a b => WE ks a ∧ WE ks b ∧ ar a = 1
  | .behind a b => WE ks a ∧ WE ks b ∧ ar b = 1
  | .either f a b => WF ks f ∧ WE ks a ∧ WE ks b ∧ ar a = ar b
noncomputable def WF (ks : List Str) : Fm → Prop
  | .some e => WE ks e
  | .inn a b => WE ks a ∧ WE ks b ∧ ar a = ar b
  | .not f => WF ks f
  | .lt _ e => WE ks e
noncomputable def WD (ks : List Str) : Ds → (List Str → Prop) → Prop
  | .nil, P => P ks
  | .cons x e r, P => WE ks e ∧ ar e = 1 ∧ WD (addS ks x) r P
end
theorem set_ks {e : En} {x : Str} {a : Int} : (e.set x a).ks = addS e.ks x := by unfold En.set addS; split <;> rfl
theorem ar_le : ∀ {e : Ex} {ks : List Str}, WE ks e → 1 ≤ ar e ∧ ar e ≤ 3
  | .rel k, ks, h => by simp only [WE, ar] at h ⊢; exact ⟨Nat.le_add_left 1 _, Nat.succ_le_succ h⟩
  | .univ, ks, h => by simp [ar]
  | .iden, ks, h => by simp [ar]
  | .none k, ks, h => by simpa only [WE, ar] using h
  | .var x, ks, h => by simp [ar]
  | .comp ds f, ks, h => by simp only [WE, ar] at h ⊢; exact ⟨h.1, h.2.1⟩
  | .minus a b, ks, h => by simp only [WE, ar] at h ⊢; exact ar_le h.1
  | .product a b, ks, h => by simp only [WE, ar] at h ⊢; have := ar_le h.2.1; exact q_181 h.2.2
  | .join a b, ks, h => by simp only [WE, ar] at h ⊢; exact q_182 h.2.2
  | .override a b, ks, h => by simp only [WE, ar] at h ⊢; exact ar_le h.1
  | .ahead a b, ks, h => by simp only [WE, ar] at h ⊢; exact ar_le h.2.1
  | .behind a b, ks, h => by simp only [WE, ar] at h ⊢; exact ar_le h.1
  | .either f a b, ks, h => by simp only [WE, ar] at h ⊢; exact ar_le h.2.1
noncomputable def Good (n : Nat) (e : En) : Prop := e.ks.length = e.as.length ∧ ∀ a ∈ e.as, 0 ≤ a ∧ a < n
theorem replN_mem {k : Str} {a b : Int} : ∀ {ks : List Str} {as : List Int}, b ∈ replN k a ks as → b = a ∨ b ∈ as
  | [], as, h => by simp [replN] at h
  | _ :: _, [], h => by simp [replN] at h
  | k' :: ks, c :: as, h => by
    simp only [replN, List.mem_cons] at h
    rcases h with h | h
    · split at h
      · exact .inl h
      · exact .inr (by rw [h]; exact .head _)
    · rcases replN_mem h with q | q
      · exact .inl q
      · exact .inr (.tail _ q)
theorem Good.set {n : Nat} {e : En} (g : Good n e) {x : Str} {a : Int} (ha : 0 ≤ a ∧ a < n) : Good n (e.set x a) := by
  refine ⟨set_len g.1, fun b hb => ?_⟩
  unfold En.set at hb
  split at hb
  · rcases replN_mem hb with rfl | q
    · exact ha
    · exact g.2 b q
  · rcases List.mem_append.mp hb with q | q
    · exact g.2 b q
    · rw [List.mem_singleton.mp q]; exact ha
theorem getN_mem {k : Str} {a : Int} : ∀ {ks : List Str} {as : List Int}, getN k ks as = some a → a ∈ as
  | [], as, h => by simp [getN] at h
  | _ :: _, [], h => by simp [getN] at h
  | k' :: ks, c :: as, h => by
    simp only [getN] at h
    split at h
    · cases h; exact .head _
    · exact .tail _ (getN_mem h)
theorem Good.get {n : Nat} {e : En} (g : Good n e) {x : Str} (hx : x ∈ e.ks) : getN x e.ks e.as = some (e.get x) ∧ 0 ≤ e.get x ∧ e.get x < n := by
  obtain ⟨a, ha⟩ := getN_some g.1 hx
  unfold En.get
  rw [ha]
  exact ⟨rfl, g.2 a (getN_mem ha)⟩
noncomputable def decs (n : Nat) (B : Nat → Nat) : Ds → List Dec
  | .nil => []
  | .cons x e r => ⟨x, enc e, fun en => ((List.range n).map fun a : Nat => (a : Int)).filter fun a => sem n B e en [a]⟩ :: decs n B r
theorem decs_len {n : Nat} {B : Nat → Nat} : ∀ ds : Ds, (decs n B ds).length = ds.len
  | .nil => rfl
  | .cons x e r => by simp [decs, Ds.len, decs_len r]
theorem decs_enc {n : Nat} {B : Nat → Nat} : ∀ ds : Ds, ((decs n B ds).map fun d => PV.tup [.str d.x, d.e]) = encD ds
  | .nil => rfl
  | .cons x e r => by simp only [decs, encD, List.map_cons, decs_enc r]
theorem allT_1 (n : Nat) : allT n 1 = ((List.range n).map fun a : Nat => (a : Int)).map ([·]) := by
  simp only [allT, List.map_cons, List.map_nil, List.map_map]
  rw [flatMap_one]; rfl
theorem TL_1 {n : Nat} {P : List Int → Bool} : TL n 1 P = (((List.range n).map fun a : Nat => (a : Int)).filter fun a => P [a]).map ([·]) := by
  unfold TL; rw [allT_1, List.filter_map]; rfl
theorem dec_R {n : Nat} {a : Int} {P : Int → Bool} : a ∈ ((List.range n).map fun a : Nat => (a : Int)).filter P ↔ (0 ≤ a ∧ a < n) ∧ P a = true := by
  simp only [List.mem_filter, List.mem_map, List.mem_range]
  constructor
  · rintro ⟨⟨k, hk, rfl⟩, h⟩; exact ⟨⟨by (with_reducible exact q_c0), by (with_reducible exact q_c1 ‹_›)⟩, h⟩
  · rintro ⟨h1, h⟩; exact ⟨⟨a.toNat, by exact q_tn h1, by exact Int.toNat_of_nonneg h1.1⟩, h⟩
/-- the rows, opened -/
theorem rows_mem {n : Nat} {B : Nat → Nat} {F : En → Bool} {t : List Int} : ∀ (ds : Ds) (L : List Row), (∃ r ∈ openL (decs n B ds) L, r.1 = t ∧ F r.2 = true) ↔ ∃ r ∈ L, ∃ u ∈ allT n ds.len, t = r.1 ++ u ∧ semD n B ds F r.2 u = true
  | .nil, L => by
    simp only [decs, openL, Ds.len, allT, List.mem_singleton, semD]
    constructor
    · rintro ⟨r, hr, rfl, hF⟩; exact ⟨r, hr, [], rfl, by simp, hF⟩
    · rintro ⟨r, hr, u, rfl, rfl, hF⟩; exact ⟨r, hr, by simp, hF⟩
  | .cons x e q, L => by
    simp only [decs, openL]
    rw [rows_mem q]
    constructor
    · rintro ⟨r, hr, u, hu, rfl, hF⟩
      refine Classical.byContradiction fun hG => ?_
      obtain ⟨r0, h0, hr⟩ := List.mem_flatMap.mp hr
      obtain ⟨a, ha, rfl⟩ := List.mem_map.mp hr
      obtain ⟨ha, hs⟩ := dec_R.mp ha
      obtain ⟨u1, u2⟩ := mem_allT.mp hu
      refine hG ?_
      refine ⟨r0, h0, a :: u, mem_allT.mpr ⟨by simp [u1, Ds.len], fun b hb => ?_⟩, by simp, ?_⟩
      · rcases List.mem_cons.mp hb with rfl | hb
        · exact ha
        · exact u2 b hb
      · show (sem n B e r0.2 [a] && semD n B q F (r0.2.set x a) u) = true
        rw [hs, hF]; rfl
    · rintro ⟨r0, h0, w, hw, rfl, hF⟩
      obtain ⟨w1, w2⟩ := mem_allT.mp hw
      cases w with
      | nil => simp [Ds.len] at w1
      | cons a u =>
        have hF : (sem n B e r0.2 [a] && semD n B q F (r0.2.set x a) u) = true := hF
        simp only [Bool.and_eq_true] at hF
        refine ⟨(r0.1 ++ [a], r0.2.set x a), List.mem_flatMap.mpr ⟨r0, h0, List.mem_map.mpr ⟨a, dec_R.mpr ⟨w2 a (.head _), hF.1⟩, rfl⟩⟩, u, mem_allT.mpr ⟨by simpa [Ds.len] using w1, fun b hb => w2 b (.tail _ hb)⟩, by simp, hF.2⟩

/- part X9 -/
-- a name's value
-- an expression's step
-- an if, decided
section
variable {n r : Nat} {P Q : List Int → Bool}
theorem memb_iff {K : Type} [DecidableEq K] {k : K} {l : List K} : memb k l = true ↔ k ∈ l := by simp [memb]
theorem memb_TL {t : List Int} (h : t ∈ allT n r) : memb t (TL n r P) = P t :=
  Bool.eq_iff_iff.mpr (memb_iff.trans (mem_TL.trans ⟨fun q => q.2, fun q => ⟨h, q⟩⟩))
theorem L_minus : (TL n r P).filter (fun t => !(memb t (TL n r Q))) = TL n r (fun t => P t && !Q t) := by
  unfold TL
  rw [List.filter_filter]
  refine List.filter_congr fun t ht => ?_
  have := memb_TL (P := Q) ht
  unfold TL at this
  rw [this, Bool.and_comm]
theorem take_allT {t : List Int} {k : Nat} (h : t ∈ allT n r) (hk : k ≤ r) : t.take k ∈ allT n k := by
  obtain ⟨h1, h2⟩ := mem_allT.mp h
  exact mem_allT.mpr ⟨by simp; exact Nat.min_eq_left (Nat.le_trans hk (Nat.le_of_eq h1.symm)), fun a ha => h2 a (List.mem_of_mem_take ha)⟩
theorem drop_allT {t : List Int} {k : Nat} (h : t ∈ allT n r) : t.drop k ∈ allT n (r - k) := by
  obtain ⟨h1, h2⟩ := mem_allT.mp h
  exact mem_allT.mpr ⟨by simp; ((subst_vars; first | assumption | rfl | decide)), fun a ha => h2 a (List.mem_of_mem_drop ha)⟩
theorem L_ahead (hr : 1 ≤ r) : (TL n r Q).filter (fun t => memb (t.take 1) (TL n 1 P)) = TL n r (fun t => P (t.take 1) && Q t) := by
  have e : TL n r Q = (allT n r).filter Q := rfl
  rw [e, List.filter_filter]
  exact List.filter_congr fun t ht => by rw [memb_TL (take_allT ht hr)]
theorem L_behind (hr : 1 ≤ r) : (TL n r Q).filter (fun t => memb (t.drop (t.length - 1)) (TL n 1 P)) = TL n r (fun t => Q t && P (t.drop (t.length - 1))) := by
  have e : TL n r Q = (allT n r).filter Q := rfl
  rw [e, List.filter_filter]
  refine List.filter_congr fun t ht => ?_
  have hd := drop_allT (k := t.length - 1) ht
  have hl := (mem_allT.mp ht).1
  rw [show r - (t.length - 1) = 1 by exact q_79 hr hl] at hd
  rw [memb_TL hd, Bool.and_comm]
theorem flatMap_filter {α β : Type} {p : α → Bool} {f : α → List β} : ∀ l : List α, (l.filter p).flatMap f = l.flatMap fun a => if p a then f a else []
  | [] => rfl
  | a :: l => by rw [List.filter_cons, List.flatMap_cons, ← flatMap_filter l]; cases p a <;> simp
theorem L_product : (TL n 1 P).flatMap (fun a => (TL n r Q).map fun b => a ++ b) = TL n (r + 1) (fun t => P (t.take 1) && Q (t.drop 1)) := by
  have e : TL n (r + 1) (fun t => P (t.take 1) && Q (t.drop 1)) = ((List.range n).flatMap fun a : Nat => (allT n r).map ((a : Int) :: ·)).filter (fun t => P (t.take 1) && Q (t.drop 1)) := rfl
  rw [e, List.filter_flatMap, TL_1, List.flatMap_map, flatMap_filter, List.flatMap_map]
  congr 1
  funext a
  rw [List.filter_map]
  unfold TL
  by_cases h : P [(a : Int)] = true
  · rw [if_pos h]
    have : ((fun t : List Int => P (t.take 1) && Q (t.drop 1)) ∘ fun x => (a : Int) :: x) = Q := by
      funext x; show (P [(a : Int)] && Q x) = _; rw [h]; rfl
    rw [this]; rfl
  · have h : P [(a : Int)] = false := by simpa using h
    rw [if_neg (by rw [h]; exact Bool.false_ne_true)]
    have : ((fun t : List Int => P (t.take 1) && Q (t.drop 1)) ∘ fun x => (a : Int) :: x) = fun _ => false := by
      funext x; show (P [(a : Int)] && Q x) = _; rw [h]; rfl
    rw [this]; simp
theorem M_override {t : List Int} : t ∈ (TL n r Q ++ (TL n r P).filter fun t => !(memb (t.headD 0) ((TL n r Q).map (·.headD 0)))) ↔ t ∈ allT n r ∧ (Q t || (P t && !((allT n r).any fun u => Q u && u.headD 0 == t.headD 0))) = true := by
  have key : memb (t.headD 0) ((TL n r Q).map (·.headD 0)) = (allT n r).any fun u => Q u && u.headD 0 == t.headD 0 := by
    unfold memb
    by_cases h : ∃ u ∈ allT n r, Q u = true ∧ u.headD 0 = t.headD 0
    · rw [decide_eq_true (by obtain ⟨u, h1, h2, h3⟩ := h; exact List.mem_map.mpr ⟨u, mem_TL.mpr ⟨h1, h2⟩, h3⟩)]
      symm; rw [List.any_eq_true]
      refine Classical.byContradiction fun hG => ?_
      obtain ⟨u, h1, h2, h3⟩ := h
      refine hG ?_
      exact ⟨u, h1, by rw [h2, h3]; simp⟩
    · rw [decide_eq_false (fun q => h (by obtain ⟨u, h1, h3⟩ := List.mem_map.mp q; exact ⟨u, (mem_TL.mp h1).1, (mem_TL.mp h1).2, h3⟩))]
      symm; rw [Bool.eq_false_iff]
      intro q
      rw [List.any_eq_true] at q
      refine Classical.byContradiction fun hG => ?_
      obtain ⟨u, h1, h2⟩ := q
      refine hG ?_
      simp only [Bool.and_eq_true, beq_iff_eq] at h2
      exact h ⟨u, h1, h2.1, h2.2⟩
  rw [List.mem_append, List.mem_filter, mem_TL, mem_TL, key]
  simp only [Bool.or_eq_true, Bool.and_eq_true]
  constructor
  · rintro (⟨h1, h2⟩ | ⟨⟨h1, h2⟩, h3⟩)
    · exact ⟨h1, .inl h2⟩
    · exact ⟨h1, .inr ⟨h2, h3⟩⟩
  · rintro ⟨h1, h2 | ⟨h2, h3⟩⟩
    · exact .inl ⟨h1, h2⟩
    · exact .inr ⟨⟨h1, h2⟩, h3⟩
theorem last_split {a : List Int} {p : Nat} (h : a.length = p + 1) : a = a.take (a.length - 1) ++ [a.getLastD 0] := by
  have hne : a ≠ [] := by rintro rfl; simp at h
  have h1 := (List.dropLast_concat_getLast hne).symm
  rw [List.dropLast_eq_take] at h1
  have : a.getLastD 0 = a.getLast hne := by cases a with
    | nil => exact absurd rfl hne
    | cons x r => rfl
  rw [this]; exact h1
theorem M_join {p q : Nat} {t : List Int} : t ∈ ((TL n (p + 1) P).flatMap fun a => ((TL n (q + 1) Q).filter fun r => decide (r.headD 0 = a.getLastD 0)).map fun r => a.take (a.length - 1) ++ r.drop 1) ↔
    t ∈ allT n (p + q) ∧ ((List.range n).any fun y => P (t.take p ++ [(y : Int)]) && Q ((y : Int) :: t.drop p)) = true := by
  rw [List.mem_flatMap, List.any_eq_true]
  constructor
  · rintro ⟨a, ha, ht⟩
    refine Classical.byContradiction fun hG => ?_
    obtain ⟨r, hr, rfl⟩ := List.mem_map.mp ht
    obtain ⟨hr, hd⟩ := List.mem_filter.mp hr
    have hd := of_decide_eq_true hd
    obtain ⟨ha, hP⟩ := mem_TL.mp ha
    obtain ⟨hr, hQ⟩ := mem_TL.mp hr
    obtain ⟨a1, a2⟩ := mem_allT.mp ha
    obtain ⟨r1, r2⟩ := mem_allT.mp hr
    refine hG ?_
    have hs := last_split a1
    cases r with
    | nil => simp at r1
    | cons y u =>
      have hy : y = a.getLastD 0 := hd
      have hyr := r2 y (.head _)
      have hl : (a.take (a.length - 1)).length = p := by simp; (with_reducible exact q_p2 ‹_›)
      refine ⟨mem_allT.mpr ⟨by simp at r1 ⊢; exact q_158 a1 r1, fun b hb => ?_⟩, y.toNat, List.mem_range.mpr (by exact q_tn hyr), ?_⟩
      · rcases List.mem_append.mp hb with h | h
        · exact a2 b (List.mem_of_mem_take h)
        · exact r2 b (.tail _ h)
      · rw [Int.toNat_of_nonneg hyr.1]
        show (P ((a.take (a.length - 1) ++ u).take p ++ [y]) && Q (y :: (a.take (a.length - 1) ++ u).drop p)) = true
        rw [List.take_left' hl, List.drop_left' hl, hy, ← hs, hP, ← hy, hQ]; rfl
  · rintro ⟨ht, y, hy, h⟩
    obtain ⟨t1, t2⟩ := mem_allT.mp ht
    have hy := List.mem_range.mp hy
    simp only [Bool.and_eq_true] at h
    have hl : (t.take p).length = p := by simp; exact Nat.min_eq_left (Nat.le.intro t1.symm)
    refine ⟨t.take p ++ [(y : Int)], mem_TL.mpr ⟨mem_allT.mpr ⟨by simp; exact Nat.min_eq_left (Nat.le.intro t1.symm), fun b hb => ?_⟩, h.1⟩, List.mem_map.mpr ⟨(y : Int) :: t.drop p, List.mem_filter.mpr ⟨mem_TL.mpr ⟨mem_allT.mpr ⟨by simp; exact q_sum t1.symm, fun b hb => ?_⟩, h.2⟩, ?_⟩, ?_⟩⟩
    · rcases List.mem_append.mp hb with q | q
      · exact t2 b (List.mem_of_mem_take q)
      · rw [List.mem_singleton.mp q]; (with_reducible exact q_c2 ‹_›)
    · rcases List.mem_cons.mp hb with rfl | q
      · (with_reducible exact q_c2 ‹_›)
      · exact t2 b (List.mem_of_mem_drop q)
    · simp
    · have : (t.take p ++ [(y : Int)]).length - 1 = p := by simp; exact Nat.min_eq_left (Nat.le.intro t1.symm)
      rw [this, List.take_left' hl]
      exact List.take_append_drop p t
theorem T_some : decide (0 < (TL n r P).length) = (allT n r).any P := by
  by_cases h : ∃ t ∈ allT n r, P t = true
  · rw [decide_eq_true (by obtain ⟨t, h1, h2⟩ := h; exact List.length_pos_of_mem (mem_TL.mpr ⟨h1, h2⟩)), eq_comm, List.any_eq_true]; exact h
  · rw [decide_eq_false (fun q => h (by obtain ⟨t, ht⟩ := List.exists_mem_of_length_pos q; exact ⟨t, mem_TL.mp ht⟩)), eq_comm, Bool.eq_false_iff]
    intro q; rw [List.any_eq_true] at q; exact h q
theorem T_in : ((TL n r P).filter fun t => !(memb t (TL n r Q))).isEmpty = (allT n r).all fun t => !P t || Q t := by
  rw [L_minus]
  by_cases h : ∃ t ∈ allT n r, P t = true ∧ Q t = false
  · obtain ⟨t, h1, h2, h3⟩ := h
    have : t ∈ TL n r (fun t => P t && !Q t) := mem_TL.mpr ⟨h1, by rw [h2, h3]; rfl⟩
    have e1 : (TL n r (fun t => P t && !Q t)).isEmpty = false := by rw [List.isEmpty_eq_false_iff]; exact List.ne_nil_of_mem this
    rw [e1, eq_comm, Bool.eq_false_iff]
    intro q; rw [List.all_eq_true] at q
    have := q t h1; rw [h2, h3] at this; cases this
  · have e1 : TL n r (fun t => P t && !Q t) = [] := by
      rw [List.eq_nil_iff_forall_not_mem]
      intro t ht
      obtain ⟨h1, h2⟩ := mem_TL.mp ht
      simp only [Bool.and_eq_true, Bool.not_eq_true'] at h2
      exact h ⟨t, h1, h2⟩
    rw [e1, eq_comm]
    show _ = true
    rw [List.all_eq_true]
    intro t ht
    by_cases hp : P t = true
    · by_cases hq : Q t = true
      · rw [hq]; simp
      · exact absurd ⟨t, ht, hp, by simpa using hq⟩ h
    · have : P t = false := by simpa using hp
      rw [this]; rfl
end

/- part X10 -/
-- a name's value
-- an expression's step
-- an if, decided
section
variable {cells : List Int} {n : Nat} {B : Nat → Nat}
noncomputable def inst (n : Nat) (B : Nat → Nat) : PV := .list [encS (TL n 1 (relP n B 0)), encS (TL n 2 (relP n B 1)), encS (TL n 3 (relP n B 2))]
/-- what the Evaluator makes of an expression, of a formula -/
noncomputable def EvE (cells : List Int) (n : Nat) (B : Nat → Nat) (e : Ex) : Prop := ∀ (en : En) (m : Nat), WE en.ks e → Good n en → dep e ≤ m → ∀ σ, callF (tab cells) fns m 123 [.inst (.int n) (inst n B), enc e, encEn en] σ = some (encS (TL n (ar e) (sem n B e en)), σ)
noncomputable def EvF (cells : List Int) (n : Nat) (B : Nat → Nat) (f : Fm) : Prop := ∀ (en : En) (m : Nat), WF en.ks f → Good n en → depF f ≤ m → ∀ σ, callF (tab cells) fns m 147 [.inst (.int n) (inst n B), encF f, encEn en] σ = some (.bool (semF n B f en), σ)
noncomputable def EvD (cells : List Int) (n : Nat) (B : Nat → Nat) (ds : Ds) : Prop := ∀ (ks : List Str) (Q : List Str → Prop) (L : List Row) (m : Nat), WD ks ds Q → depD ds ≤ m → (∀ r ∈ L, Good n r.2 ∧ r.2.ks = ks) →
  (∀ p d q, p ++ d :: q = decs n B ds → ∀ r ∈ openL p L, ∀ σ, callF (tab cells) fns m 123 [.inst (.int n) (inst n B), d.e, encEn r.2] σ = some (encS ((d.R r.2).map ([·])), σ)) ∧
  ∃ ks', Q ks' ∧ ks'.length ≤ ks.length + ds.len ∧ ∀ r ∈ openL (decs n B ds) L, Good n r.2 ∧ r.2.ks = ks'

theorem open_facts (hn : n ≤ 3) : ∀ (p : List Dec) (L : List Row), (∀ d ∈ p, ∀ e, (d.R e).length ≤ n) → (openL p L).length ≤ L.length * 3 ^ p.length ∧ ∀ r ∈ openL p L, ∃ r0 ∈ L, r.1.length ≤ r0.1.length + p.length ∧ r.2.ks.length ≤ r0.2.ks.length + p.length
  | [], L, _ => ⟨by simp [openL], fun r hr => ⟨r, hr, by simp, by simp⟩⟩
  | d :: p, L, h => by
    obtain ⟨h1, h2⟩ := open_facts hn p (openStep d L) fun d' hd => h d' (.tail _ hd)
    have hd := h d (.head _)
    have hs : (openStep d L).length ≤ L.length * 3 := by
      have : ∀ L : List Row, (openStep d L).length ≤ L.length * 3 := by
        intro L
        induction L with
        | nil => simp [openStep]
        | cons r L ih =>
          unfold openStep at ih ⊢
          rw [List.flatMap_cons, List.length_append, List.length_map, List.length_cons]
          have := hd r.2
          exact q_L3 ih this hn
      exact this L
    refine ⟨?_, fun r hr => ?_⟩
    · refine Nat.le_trans h1 (Nat.le_trans (Nat.mul_le_mul_right _ hs) ?_)
      rw [List.length_cons, Nat.pow_succ, Nat.mul_assoc, Nat.mul_comm 3]; exact Nat.le_refl _
    · obtain ⟨r1, hr1, a1, a2⟩ := h2 r hr
      refine Classical.byContradiction fun hG => ?_
      obtain ⟨r0, h0, hr1⟩ := List.mem_flatMap.mp hr1
      obtain ⟨a, _, rfl⟩ := List.mem_map.mp hr1
      refine hG ?_
      refine ⟨r0, h0, by simp at a1 ⊢; exact Nat.le_trans a1 (Nat.le_of_eq (Nat.succ_add_eq_add_succ _ _)), ?_⟩
      have : (r0.2.set d.x a).ks.length ≤ r0.2.ks.length + 1 := by rw [set_ks]; unfold addS; split <;> simp
      simp only [List.length_cons] at a2 ⊢
      exact q_ks a2 this
theorem decs_R : ∀ {ds : Ds}, ∀ d ∈ decs n B ds, ∀ e, (d.R e).length ≤ n
  | .nil, d, h, _ => by simp [decs] at h
  | .cons x e r, d, h, en => by
    simp only [decs, List.mem_cons] at h
    rcases h with rfl | h
    · refine Nat.le_trans (List.length_filter_le _ _) ?_; simp
    · exact decs_R d h en

theorem evD_nil : EvD cells n B .nil := fun ks Q L m h hm hL => ⟨fun p d q hp => by simp [decs] at hp, ks, h, by simp [Ds.len], hL⟩
theorem evD_cons {x : Str} {e : Ex} {r : Ds} (hE : EvE cells n B e) (hD : EvD cells n B r) : EvD cells n B (.cons x e r) := by
  intro ks Q L m h hm hL
  simp only [WD] at h
  refine Classical.byContradiction fun hG => ?_
  obtain ⟨h1, h2, h3⟩ := h
  simp only [depD] at hm
  have hd : ∀ d ∈ [(⟨x, enc e, fun en => ((List.range n).map fun a : Nat => (a : Int)).filter fun a => sem n B e en [a]⟩ : Dec)], True := fun _ _ => trivial
  have hL' : ∀ w ∈ openStep ⟨x, enc e, fun en => ((List.range n).map fun a : Nat => (a : Int)).filter fun a => sem n B e en [a]⟩ L, Good n w.2 ∧ w.2.ks = addS ks x := fun w hw => by
    obtain ⟨r0, h0, hw⟩ := List.mem_flatMap.mp hw
    obtain ⟨a, ha, rfl⟩ := List.mem_map.mp hw
    obtain ⟨g, hk⟩ := hL r0 h0
    exact ⟨g.set (dec_R.mp ha).1, by rw [set_ks, hk]⟩
  obtain ⟨k1, ks', k2, k3, k4⟩ := hD (addS ks x) Q _ m h3 (by (with_reducible exact q_maxr ‹_›)) hL'
  refine hG ?_
  refine ⟨fun p d q hp w hw σ => ?_, ks', k2, ?_, k4⟩
  · cases p with
    | nil =>
      simp only [decs, List.nil_append, List.cons.injEq] at hp
      refine Classical.byContradiction fun hG => ?_
      obtain ⟨rfl, _⟩ := hp
      obtain ⟨g, hk⟩ := hL w hw
      refine hG ?_
      have := hE w.2 m (hk ▸ h1) g (by (with_reducible exact q_maxl ‹_›)) σ
      rw [h2, TL_1] at this
      exact this
    | cons d0 p =>
      simp only [decs, List.cons_append, List.cons.injEq] at hp
      obtain ⟨rfl, hp⟩ := hp
      exact k1 p d q hp w hw σ
  · have : (addS ks x).length ≤ ks.length + 1 := by unfold addS; split <;> simp
    simp only [Ds.len]; exact Nat.le_trans k3 (Nat.le_trans (Nat.add_le_add_right this _) (Nat.le_of_eq (Nat.succ_add_eq_add_succ _ _)))

theorem ne_of_allT {r : Nat} {t : List Int} (h : t ∈ allT n r) (hr : 1 ≤ r) : t ≠ [] := by rintro rfl; have := (mem_allT.mp h).1; simp at this; exact absurd this (Nat.ne_of_lt hr)
theorem len_of_allT {r : Nat} {t : List Int} (h : t ∈ allT n r) (hr : r ≤ 3) : t.length ≤ 10 := by have := (mem_allT.mp h).1; (with_reducible exact q_le (Nat.le_trans (Nat.le_of_eq ‹_›) ‹_›) (by decide))

theorem evE_comp (hn : n ≤ 3) {ds : Ds} {f : Fm} (hD : EvD cells n B ds) (hF : EvF cells n B f) : EvE cells n B (.comp ds f) := by
  intro en m hw g hm σ
  refine Classical.byContradiction fun hG => ?_
  obtain ⟨w1, w2, w3, w4⟩ := hw
  have hm : 5 + max (depD ds) (depF f) ≤ m := hm
  obtain ⟨k, rfl⟩ : ∃ k, m = k + 3 := ⟨m - 3, by (with_reducible exact q_sa ‹5 + _ ≤ _› (by decide))⟩
  obtain ⟨h1, ks', h2, h3, h4⟩ := hD en.ks _ [([], en)] (k + 1) w4 (by (with_reducible exact q_d3 ‹_› q_m1)) (fun r hr => by rw [List.mem_singleton.mp hr]; exact ⟨g, rfl⟩)
  refine hG ?_
  have hlen : (decs n B ds).length ≤ 3 := by rw [decs_len]; exact w2
  have fct : ∀ p q, p ++ q = decs n B ds → (openL p [([], en)]).length ≤ 27 ∧ ∀ r ∈ openL p [([], en)], r.1.length ≤ 100 ∧ r.2.ks.length ≤ 100 := fun p q hp => by
    have hp3 : p.length ≤ 3 := by have := congrArg List.length hp; simp at this; exact q_pd this hlen
    obtain ⟨f1, f2⟩ := open_facts hn p [([], en)] fun d hd => decs_R (B := B) (ds := ds) d (by rw [← hp]; exact List.mem_append_left _ hd)
    refine ⟨Nat.le_trans f1 ?_, fun r hr => ?_⟩
    · have := Nat.pow_le_pow_right (n := 3) (by decide) hp3
      simpa using this
    · obtain ⟨r0, hr0, a1, a2⟩ := f2 r hr
      rw [List.mem_singleton.mp hr0] at a1 a2
      simp only [List.length_nil] at a1 a2
      exact ⟨by exact q_le (Nat.le_trans a1 (Nat.le_trans (Nat.le_of_eq (Nat.zero_add _)) hp3)) rfl, by exact Nat.le_trans a2 (q_a4 w3 hp3 rfl)⟩
  have hO : ∀ σ, callF (tab cells) fns (k + 2) 118 [.inst (.int n) (inst n B), .tup (encD ds), encEn en] σ = some (.list ((openL (decs n B ds) [([], en)]).map encR), σ) := fun σ => by
    rw [← decs_enc (n := n) (B := B)]
    exact c_opened (decs n B ds) en (fun p q hp => Nat.le_trans (fct p q hp).1 (by decide)) (fun d hd e => Nat.le_trans (decs_R d hd e) (by (with_reducible exact q_le ‹_› (by decide)))) (fun p q hp => (fct p q hp).2) (by (with_reducible exact q_le ‹_› (by decide))) h1
  have hsz := (fct (decs n B ds) [] (by simp)).1
  have hmem : ∀ t, t ∈ ((openL (decs n B ds) [([], en)]).filter fun r => semF n B f r.2).map (·.1) ↔ t ∈ allT n ds.len ∧ semD n B ds (semF n B f) en t = true := fun t => by
    have := rows_mem (n := n) (B := B) (F := semF n B f) (t := t) ds [([], en)]
    simp only [List.mem_map, List.mem_filter]
    constructor
    · rintro ⟨r, ⟨hr, hf⟩, ht⟩
      refine Classical.byContradiction fun hG => ?_
      obtain ⟨r0, hr0, u, hu, rfl, hs⟩ := this.mp ⟨r, hr, ht, hf⟩
      refine hG ?_
      rw [List.mem_singleton.mp hr0] at hs ⊢
      exact ⟨hu, hs⟩
    · rintro ⟨hu, hs⟩
      refine Classical.byContradiction fun hG => ?_
      obtain ⟨r, hr, ht, hf⟩ := this.mpr ⟨([], en), .head _, t, hu, rfl, hs⟩
      refine hG ?_
      exact ⟨r, ⟨hr, hf⟩, ht⟩
  refine (m_comp (m := k + 2) (L := openL (decs n B ds) [([], en)]) (at' := (·.1)) (en := fun r => encEn r.2) (P := fun r => semF n B f r.2) (by (with_reducible exact q_le ‹_› (by decide))) hO (fun r hr σ => ?_) (fun σ => c_set_of (m := k + 1) (((openL (decs n B ds) [([], en)]).filter fun r => semF n B f r.2).map (·.1)) rfl ?_ (TL_64 hn w2 hmem) fun t ht => ne_of_allT ((hmem t).mp ht).1 w1)).trans ?_
  · obtain ⟨gr, hk⟩ := h4 r hr
    exact hF r.2 (k + 2) (hk ▸ h2) gr (by (with_reducible exact q_d1 ‹_› q_m2)) σ
  · have := List.length_filter_le (fun r : Row => semF n B f r.2) (openL (decs n B ds) [([], en)])
    simp only [List.length_map]; (with_reducible exact q_lele ‹_ ≤ _› ‹_› (by decide))
  · rw [TL_sort hmem]; rfl
theorem idx3 {a b c : PV} : ∀ σ, index cells σ (.list [a, b, c]) (.int 0) = some a ∧ index cells σ (.list [a, b, c]) (.int 1) = some b ∧ index cells σ (.list [a, b, c]) (.int 2) = some c := fun σ => ⟨by simp [index], by simp [index], by simp [index]⟩
theorem evE_rel {k : Nat} : EvE cells n B (.rel k) := by
  intro en m hw g hm σ
  have hw : k ≤ 2 := hw
  have hm : 5 ≤ m := hm
  refine Classical.byContradiction fun hG => ?_
  obtain ⟨m', rfl⟩ : ∃ k, m = k + 1 := ⟨m - 1, by (with_reducible exact q_sb ‹5 ≤ _› (by decide))⟩
  refine hG ?_
  refine m_rel fun σ => ?_
  have := idx3 (cells := cells) (a := encS (TL n 1 (relP n B 0))) (b := encS (TL n 2 (relP n B 1))) (c := encS (TL n 3 (relP n B 2))) σ
  rcases k with _ | _ | _ | k
  · exact this.1
  · exact this.2.1
  · exact this.2.2
  · exact (q_no3 (Nat.lt_succ_of_le hw)).elim
theorem evE_univ (hn : n ≤ 3) : EvE cells n B .univ := by
  intro en m hw g hm σ
  have hm : 5 ≤ m := hm
  refine Classical.byContradiction fun hG => ?_
  obtain ⟨m', rfl⟩ : ∃ k, m = k + 2 := ⟨m - 2, by (with_reducible exact q_sb ‹5 ≤ _› (by decide))⟩
  refine hG ?_
  refine m_univ fun σ => (c_univ n (by (with_reducible exact q_le ‹_› (by decide)))).trans ?_
  have : TL n (ar .univ) (sem n B .univ en) = (List.range n).map fun a : Nat => [(a : Int)] := by
    show TL n 1 (fun _ => true) = _
    rw [TL_1, List.filter_eq_self.mpr (fun _ _ => rfl), List.map_map]; rfl
  rw [this]
theorem evE_iden (hn : n = 2 ∨ n = 3) : EvE cells n B .iden := by
  intro en m hw g hm σ
  have hm : 5 ≤ m := hm
  refine Classical.byContradiction fun hG => ?_
  obtain ⟨m', rfl⟩ : ∃ k, m = k + 2 := ⟨m - 2, by (with_reducible exact q_sb ‹5 ≤ _› (by decide))⟩
  refine hG ?_
  refine m_iden fun σ => (c_iden n (by (with_reducible exact q_n ‹_ = 2 ∨ _ = 3› (by decide)))).trans ?_
  have : TL n (ar .iden) (sem n B .iden en) = (List.range n).map fun a : Nat => [(a : Int), (a : Int)] := by
    show TL n 2 (fun t => t.headD 0 == t.getLastD 0) = _
    rcases hn with rfl | rfl <;> decide
  rw [this]
theorem evE_none {k : Nat} : EvE cells n B (.none k) := by
  intro en m hw g hm σ
  have hm : 5 ≤ m := hm
  refine Classical.byContradiction fun hG => ?_
  obtain ⟨m', rfl⟩ : ∃ k, m = k + 1 := ⟨m - 1, by (with_reducible exact q_sb ‹5 ≤ _› (by decide))⟩
  refine hG ?_
  refine m_none.trans ?_
  have : TL n (ar (.none k)) (sem n B (.none k) en) = [] := by
    show (allT n k).filter (fun _ => false) = []
    simp
  rw [this]; rfl
theorem evE_var {x : Str} : EvE cells n B (.var x) := by
  intro en m hw g hm σ
  have hm : 5 ≤ m := hm
  refine Classical.byContradiction fun hG => ?_
  obtain ⟨m', rfl⟩ : ∃ k, m = k + 1 := ⟨m - 1, by (with_reducible exact q_sb ‹5 ≤ _› (by decide))⟩
  obtain ⟨g1, g2, g3⟩ := g.get hw
  refine hG ?_
  refine (m_var (R := rowE (en.get x)) (by rw [valAt_map, g1]; rfl)).trans ?_
  have : TL n (ar (.var x)) (sem n B (.var x) en) = [[en.get x]] := by
    refine (TL_eq (l := [[en.get x]]) (List.pairwise_singleton _ _) fun t => ?_).symm
    show t ∈ _ ↔ t ∈ allT n 1 ∧ (t == [en.get x]) = true
    rw [List.mem_singleton, beq_iff_eq]
    constructor
    · rintro rfl; exact ⟨mem_allT.mpr ⟨rfl, fun a ha => by rw [List.mem_singleton.mp ha]; exact ⟨g2, g3⟩⟩, rfl⟩
    · exact fun h => h.2
  rw [this]; rfl
theorem evE_minus (hn : n ≤ 3) {a b : Ex} (hA : EvE cells n B a) (hB : EvE cells n B b) : EvE cells n B (.minus a b) := by
  intro en m hw g hm σ
  refine Classical.byContradiction fun hG => ?_
  obtain ⟨w1, w2, w3⟩ := hw
  have hm : 5 + max (dep a) (dep b) ≤ m := hm
  obtain ⟨k, rfl⟩ : ∃ k, m = k + 5 := ⟨m - 5, by (with_reducible exact q_sa ‹5 + _ ≤ _› (by decide))⟩
  refine hG ?_
  have la := len_TL (P := sem n B a en) hn (ar_le w1).2
  have lb := len_TL (P := sem n B b en) hn (ar_le w2).2
  refine (m_two_minus (m := k + 3) (hA en _ w1 g (by (with_reducible exact q_d1 ‹_› q_m1))) (hB en _ w2 g (by (with_reducible exact q_d1 ‹_› q_m2))) fun σ => c_minus _ _ (by (with_reducible exact q_le ‹_› (by decide))) (by (with_reducible exact q_le ‹_› (by decide)))).trans ?_
  rw [← w3, L_minus]; rfl
theorem evE_product (hn : n ≤ 3) {a b : Ex} (hA : EvE cells n B a) (hB : EvE cells n B b) : EvE cells n B (.product a b) := by
  intro en m hw g hm σ
  refine Classical.byContradiction fun hG => ?_
  obtain ⟨w1, w2, w3, w4⟩ := hw
  have hm : 5 + max (dep a) (dep b) ≤ m := hm
  obtain ⟨k, rfl⟩ : ∃ k, m = k + 5 := ⟨m - 5, by (with_reducible exact q_sa ‹5 + _ ≤ _› (by decide))⟩
  refine hG ?_
  have la := len_TL (P := sem n B a en) hn (ar_le w1).2
  have lb := len_TL (P := sem n B b en) hn (ar_le w2).2
  refine (m_two_product (m := k + 3) (hA en _ w1 g (by (with_reducible exact q_d1 ‹_› q_m1))) (hB en _ w2 g (by (with_reducible exact q_d1 ‹_› q_m2))) fun σ => c_product _ _ (by (with_reducible exact q_le ‹_› (by decide))) (by (with_reducible exact q_le ‹_› (by decide))) fun t ht => ?_).trans ?_
  · rcases List.mem_append.mp ht with h | h
    · exact len_of_allT (mem_TL.mp h).1 (ar_le w1).2
    · exact len_of_allT (mem_TL.mp h).1 (ar_le w2).2
  · rw [w3, L_product, show ar (.product a b) = ar b + 1 by simp only [ar]; exact (congrArg (· + ar b) w3).trans (Nat.add_comm 1 _)]; rfl
theorem evE_ahead (hn : n ≤ 3) {a b : Ex} (hA : EvE cells n B a) (hB : EvE cells n B b) : EvE cells n B (.ahead a b) := by
  intro en m hw g hm σ
  refine Classical.byContradiction fun hG => ?_
  obtain ⟨w1, w2, w3⟩ := hw
  have hm : 5 + max (dep a) (dep b) ≤ m := hm
  obtain ⟨k, rfl⟩ : ∃ k, m = k + 5 := ⟨m - 5, by (with_reducible exact q_sa ‹5 + _ ≤ _› (by decide))⟩
  refine hG ?_
  have la := len_TL (P := sem n B a en) hn (ar_le w1).2
  have lb := len_TL (P := sem n B b en) hn (ar_le w2).2
  refine (m_two_ahead (m := k + 3) (hA en _ w1 g (by (with_reducible exact q_d1 ‹_› q_m1))) (hB en _ w2 g (by (with_reducible exact q_d1 ‹_› q_m2))) fun σ => c_ahead _ _ (by (with_reducible exact q_le ‹_› (by decide))) (by (with_reducible exact q_le ‹_› (by decide))) fun t ht => len_of_allT (mem_TL.mp ht).1 (ar_le w2).2).trans ?_
  rw [w3, L_ahead (ar_le w2).1]; rfl
theorem evE_behind (hn : n ≤ 3) {a b : Ex} (hA : EvE cells n B a) (hB : EvE cells n B b) : EvE cells n B (.behind a b) := by
  intro en m hw g hm σ
  refine Classical.byContradiction fun hG => ?_
  obtain ⟨w1, w2, w3⟩ := hw
  have hm : 5 + max (dep a) (dep b) ≤ m := hm
  obtain ⟨k, rfl⟩ : ∃ k, m = k + 5 := ⟨m - 5, by (with_reducible exact q_sa ‹5 + _ ≤ _› (by decide))⟩
  refine hG ?_
  have la := len_TL (P := sem n B a en) hn (ar_le w1).2
  have lb := len_TL (P := sem n B b en) hn (ar_le w2).2
  refine (m_two_behind (m := k + 3) (hA en _ w1 g (by (with_reducible exact q_d1 ‹_› q_m1))) (hB en _ w2 g (by (with_reducible exact q_d1 ‹_› q_m2))) fun σ => c_behind _ _ (by (with_reducible exact q_le ‹_› (by decide))) (by (with_reducible exact q_le ‹_› (by decide))) fun t ht => len_of_allT (mem_TL.mp ht).1 (ar_le w1).2).trans ?_
  rw [w3, L_behind (ar_le w1).1]; rfl
theorem evE_override (hn : n ≤ 3) {a b : Ex} (hA : EvE cells n B a) (hB : EvE cells n B b) : EvE cells n B (.override a b) := by
  intro en m hw g hm σ
  refine Classical.byContradiction fun hG => ?_
  obtain ⟨w1, w2, w3⟩ := hw
  have hm : 5 + max (dep a) (dep b) ≤ m := hm
  obtain ⟨k, rfl⟩ : ∃ k, m = k + 5 := ⟨m - 5, by (with_reducible exact q_sa ‹5 + _ ≤ _› (by decide))⟩
  refine hG ?_
  have hr := ar_le w1
  have la := len_TL (P := sem n B a en) hn hr.2
  have lb := len_TL (P := sem n B b en) hn hr.2
  refine (m_two_override (m := k + 3) (SB := encS (TL n (ar a) (sem n B b en))) (hA en _ w1 g (by (with_reducible exact q_d1 ‹_› q_m1))) (fun σ => by rw [w3]; exact hB en _ w2 g (by (with_reducible exact q_d1 ‹_› q_m2)) σ) fun σ => c_override (m := k + 1) _ _ (by (with_reducible exact q_le ‹_› (by decide))) (by (with_reducible exact q_le ‹_› (by decide))) (fun t ht => ?_) (TL_64 hn hr.2 fun t => M_override)).trans ?_
  · rcases List.mem_append.mp ht with h | h
    · exact ⟨ne_of_allT (mem_TL.mp h).1 hr.1, len_of_allT (mem_TL.mp h).1 hr.2⟩
    · exact ⟨ne_of_allT (mem_TL.mp h).1 hr.1, len_of_allT (mem_TL.mp h).1 hr.2⟩
  · rw [TL_sort fun t => M_override]
    show _ = some (encS (TL n (ar a) (fun t => sem n B b en t || (sem n B a en t && !((allT n (ar b)).any fun u => sem n B b en u && u.headD 0 == t.headD 0)))), σ)
    rw [← w3]
theorem evE_join (hn : n ≤ 3) {a b : Ex} (hA : EvE cells n B a) (hB : EvE cells n B b) : EvE cells n B (.join a b) := by
  intro en m hw g hm σ
  refine Classical.byContradiction fun hG => ?_
  obtain ⟨w1, w2, w3⟩ := hw
  have hm : 5 + max (dep a) (dep b) ≤ m := hm
  obtain ⟨k, rfl⟩ : ∃ k, m = k + 5 := ⟨m - 5, by (with_reducible exact q_sa ‹5 + _ ≤ _› (by decide))⟩
  have hra := ar_le w1
  have hrb := ar_le w2
  have la := len_TL (P := sem n B a en) hn hra.2
  have lb := len_TL (P := sem n B b en) hn hrb.2
  obtain ⟨p, hp⟩ : ∃ p, ar a = p + 1 := ⟨ar a - 1, by exact (Nat.sub_add_cancel hra.1).symm⟩
  obtain ⟨q, hq⟩ : ∃ q, ar b = q + 1 := ⟨ar b - 1, by exact (Nat.sub_add_cancel hrb.1).symm⟩
  refine hG ?_
  have hpq : p + q = 1 := by exact q_pq1 w3 hp hq
  have hmem := fun t => M_join (n := n) (P := sem n B a en) (Q := sem n B b en) (p := p) (q := q) (t := t)
  refine (m_two_join (m := k + 3) (hA en _ w1 g (by (with_reducible exact q_d1 ‹_› q_m1))) (hB en _ w2 g (by (with_reducible exact q_d1 ‹_› q_m2))) fun σ => by
    rw [hp, hq]
    rw [hp] at la; rw [hq] at lb
    exact c_join (m := k + 1) _ _ (by (with_reducible exact q_le ‹_› (by decide))) (by (with_reducible exact q_le ‹_› (by decide))) (fun t ht => by
      rcases List.mem_append.mp ht with h | h
      · exact ⟨ne_of_allT (mem_TL.mp h).1 (by (with_reducible exact Nat.le_add_left _ _)), len_of_allT (mem_TL.mp h).1 (by exact q_p13 hpq)⟩
      · exact ⟨ne_of_allT (mem_TL.mp h).1 (by (with_reducible exact Nat.le_add_left _ _)), len_of_allT (mem_TL.mp h).1 (by exact q_q13 hpq)⟩) _ rfl (fun t ht => ne_of_allT ((hmem t).mp ht).1 (by (with_reducible exact q_el' ‹_›))) (TL_64 hn (by (with_reducible exact q_le (Nat.le_of_eq ‹_›) (by decide))) hmem)).trans ?_
  rw [TL_sort hmem]
  show _ = some (encS (TL n (ar a + ar b - 2) (fun t => (List.range n).any fun y => sem n B a en (t.take (ar a - 1) ++ [(y : Int)]) && sem n B b en ((y : Int) :: t.drop (ar a - 1)))), σ)
  rw [show ar a + ar b - 2 = p + q by exact q_281' hp hq, show ar a - 1 = p by (with_reducible exact q_p2 ‹_›)]
theorem evE_either {f : Fm} {a b : Ex} (hF : EvF cells n B f) (hA : EvE cells n B a) (hB : EvE cells n B b) : EvE cells n B (.either f a b) := by
  intro en m hw g hm σ
  refine Classical.byContradiction fun hG => ?_
  obtain ⟨w0, w1, w2, w3⟩ := hw
  have hm : 5 + max (depF f) (max (dep a) (dep b)) ≤ m := hm
  obtain ⟨k, rfl⟩ : ∃ k, m = k + 1 := ⟨m - 1, by (with_reducible exact q_sa ‹5 + _ ≤ _› (by decide))⟩
  refine hG ?_
  refine (m_either (m := k) (hF en _ w0 g (by (with_reducible exact q_d0 ‹5 + _ ≤ _› (by decide) q_m1))) (hA en _ w1 g (by (with_reducible exact q_d0 ‹5 + _ ≤ _› (by decide) q_m3))) (hB en _ w2 g (by (with_reducible exact q_d0 ‹5 + _ ≤ _› (by decide) q_m4)))).trans ?_
  show _ = some (encS (TL n (ar a) (fun t => if semF n B f en then sem n B a en t else sem n B b en t)), σ)
  cases semF n B f en
  · simp only [Bool.false_eq_true, if_false]; rw [w3]
  · simp only [if_true]
theorem evF_some (hn : n ≤ 3) {e : Ex} (hE : EvE cells n B e) : EvF cells n B (.some e) := by
  intro en m hw g hm σ
  have hm : 5 + dep e ≤ m := hm
  refine Classical.byContradiction fun hG => ?_
  obtain ⟨k, rfl⟩ : ∃ k, m = k + 2 := ⟨m - 2, by (with_reducible exact q_sa ‹5 + _ ≤ _› (by decide))⟩
  refine hG ?_
  have la := len_TL (P := sem n B e en) hn (ar_le hw).2
  refine (m_t_some (m := k) (by rw [List.length_map]; (with_reducible exact q_le ‹_› (by decide))) (hE en _ hw g (by (with_reducible exact q_d1 ‹_› (Nat.le_refl _))))).trans ?_
  rw [List.length_map, T_some]; rfl
theorem evF_inn (hn : n ≤ 3) {a b : Ex} (hA : EvE cells n B a) (hB : EvE cells n B b) : EvF cells n B (.inn a b) := by
  intro en m hw g hm σ
  refine Classical.byContradiction fun hG => ?_
  obtain ⟨w1, w2, w3⟩ := hw
  have hm : 5 + max (dep a) (dep b) ≤ m := hm
  obtain ⟨k, rfl⟩ : ∃ k, m = k + 3 := ⟨m - 3, by (with_reducible exact q_sa ‹5 + _ ≤ _› (by decide))⟩
  refine hG ?_
  have la := len_TL (P := sem n B a en) hn (ar_le w1).2
  have lb := len_TL (P := sem n B b en) hn (ar_le w2).2
  refine (m_t_in (m := k) (by (with_reducible exact q_le ‹_› (by decide))) (by (with_reducible exact q_le ‹_› (by decide))) (hA en _ w1 g (by (with_reducible exact q_d1 ‹_› q_m1))) (hB en _ w2 g (by (with_reducible exact q_d1 ‹_› q_m2)))).trans ?_
  rw [← w3, T_in]; rfl
theorem evF_not {f : Fm} (hF : EvF cells n B f) : EvF cells n B (.not f) := by
  intro en m hw g hm σ
  have hm : 5 + depF f ≤ m := hm
  refine Classical.byContradiction fun hG => ?_
  obtain ⟨k, rfl⟩ : ∃ k, m = k + 1 := ⟨m - 1, by (with_reducible exact q_sa ‹5 + _ ≤ _› (by decide))⟩
  refine hG ?_
  exact m_t_not (m := k) (hF en _ hw g (by (with_reducible exact q_d0 ‹5 + _ ≤ _› (by decide) (Nat.le_refl _))))
theorem evF_lt (hn : n ≤ 3) {k : Int} {e : Ex} (hE : EvE cells n B e) : EvF cells n B (.lt k e) := by
  intro en m hw g hm σ
  have hm : 5 + dep e ≤ m := hm
  refine Classical.byContradiction fun hG => ?_
  obtain ⟨j, rfl⟩ : ∃ k, m = k + 2 := ⟨m - 2, by (with_reducible exact q_sa ‹5 + _ ≤ _› (by decide))⟩
  refine hG ?_
  have la := len_TL (P := sem n B e en) hn (ar_le hw).2
  refine (m_t_lt (m := j) (by rw [List.length_map]; (with_reducible exact q_le ‹_› (by decide))) (hE en _ hw g (by (with_reducible exact q_d0 ‹5 + _ ≤ _› (by decide) (Nat.le_refl _))))).trans ?_
  rw [List.length_map]; rfl
mutual
theorem evE_all (hn : n = 2 ∨ n = 3) : ∀ e, EvE cells n B e
  | .rel k => evE_rel
  | .univ => evE_univ (by (with_reducible exact q_n3 ‹_›))
  | .iden => evE_iden hn
  | .none k => evE_none
  | .var x => evE_var
  | .comp ds f => evE_comp (by (with_reducible exact q_n3 ‹_›)) (evD_all hn ds) (evF_all hn f)
  | .minus a b => evE_minus (by (with_reducible exact q_n3 ‹_›)) (evE_all hn a) (evE_all hn b)
  | .product a b => evE_product (by (with_reducible exact q_n3 ‹_›)) (evE_all hn a) (evE_all hn b)
  | .join a b => evE_join (by (with_reducible exact q_n3 ‹_›)) (evE_all hn a) (evE_all hn b)
  | .override a b => evE_override (by (with_reducible exact q_n3 ‹_›)) (evE_all hn a) (evE_all hn b)
  | .ahead a b => evE_ahead (by (with_reducible exact q_n3 ‹_›)) (evE_all hn a) (evE_all hn b)
  | .behind a b => evE_behind (by (with_reducible exact q_n3 ‹_›)) (evE_all hn a) (evE_all hn b)
  | .either f a b => evE_either (evF_all hn f) (evE_all hn a) (evE_all hn b)
theorem evF_all (hn : n = 2 ∨ n = 3) : ∀ f, EvF cells n B f
  | .some e => evF_some (by (with_reducible exact q_n3 ‹_›)) (evE_all hn e)
  | .inn a b => evF_inn (by (with_reducible exact q_n3 ‹_›)) (evE_all hn a) (evE_all hn b)
  | .not f => evF_not (evF_all hn f)
  | .lt k e => evF_lt (by (with_reducible exact q_n3 ‹_›)) (evE_all hn e)
theorem evD_all (hn : n = 2 ∨ n = 3) : ∀ ds, EvD cells n B ds
  | .nil => evD_nil
  | .cons x e r => evD_cons (evE_all hn e) (evD_all hn r)
end
end

/- part X11 -/
-- a name's value
-- an expression's step
-- an if, decided
theorem bo_add {a b : Int} : binOp .Add (.int a) (.int b) = some (.int (a + b)) := rfl
theorem bo_sub {a b : Int} : binOp .Sub (.int a) (.int b) = some (.int (a - b)) := rfl
theorem bo_mul {a b : Nat} (h : a < 9223372036854775808) : binOp .Mult (.int a) (.int b) = some (.int (a * b : Nat)) := by
  show (binI .Mult a b).map PV.int = _
  unfold binI; dsimp only; rw [if_pos (by unfold big; ((subst_vars; first | assumption | rfl | decide)))]; simp
theorem bo_mod {a b : Nat} (h : b ≠ 0) : binOp .Mod (.int a) (.int b) = some (.int (a % b : Nat)) := by
  show (binI .Mod a b).map PV.int = _
  unfold binI; dsimp only; rw [if_neg (by exact Int.natCast_ne_zero.mpr h), Int.fmod_eq_emod_of_nonneg _ (by (with_reducible exact q_c0))]; simp
theorem bo_div {a b : Nat} (h : b ≠ 0) (ha : a < 9223372036854775808) (hb : b < 9223372036854775808) : binOp .FloorDiv (.int a) (.int b) = some (.int (a / b : Nat)) := by
  show (binI .FloorDiv a b).map PV.int = _
  unfold binI; dsimp only; rw [if_pos (by unfold big; exact ⟨Int.natCast_ne_zero.mpr h, ha, hb⟩), Int.fdiv_eq_ediv_of_nonneg _ (by (with_reducible exact q_c0))]; simp
theorem bo_pow {a b : Nat} (hb : b ≤ 1000) (ha : a < 9223372036854775808) : binOp .Pow (.int a) (.int b) = some (.int (a ^ b : Nat)) := by
  show (binI .Pow a b).map PV.int = _
  unfold binI; dsimp only; rw [if_pos (by unfold big; exact q_ib hb ha)]; simp
theorem bo_shl {a b : Nat} (hb : b ≤ 1000) (ha : a < 9223372036854775808) : binOp .LShift (.int a) (.int b) = some (.int (a <<< b : Nat)) := by
  show (binI .LShift a b).map PV.int = _
  unfold binI; dsimp only; rw [if_pos (by unfold big; exact q_ib hb ha), Nat.shiftLeft_eq]; simp
theorem bo_shr {a b : Nat} : binOp .RShift (.int a) (.int b) = some (.int (a >>> b : Nat)) := by
  show (binI .RShift a b).map PV.int = _
  unfold binI; dsimp only; rw [if_pos (by (with_reducible exact q_c0)), Int.toNat_natCast, Int.fdiv_eq_ediv_of_nonneg _ (Int.pow_nonneg (by decide)), Nat.shiftRight_eq_div_pow]; simp
theorem bo_and {a b : Nat} : binOp .BitAnd (.int a) (.int b) = some (.int (a &&& b : Nat)) := by
  show some (PV.int (Builtin.bitAnd a b)) = _
  unfold Builtin.bitAnd
  rw [decide_eq_true (by (with_reducible exact q_c0) : (0 : Int) ≤ a), decide_eq_true (by (with_reducible exact q_c0) : (0 : Int) ≤ b)]
  simp
theorem bo_andnot {a b : Nat} : binOp .BitAnd (.int a) (.int (Builtin.bitNot b)) = some (.int ((a - (a &&& b) : Nat))) := by
  show some (PV.int (Builtin.bitAnd a (Builtin.bitNot b))) = _
  have hb : ¬ (0 : Int) ≤ Builtin.bitNot b := by unfold Builtin.bitNot; exact q_neg
  have hbb : (Builtin.bitNot (Builtin.bitNot (b : Int))).toNat = b := by unfold Builtin.bitNot; exact q_nt
  unfold Builtin.bitAnd
  rw [decide_eq_true (by (with_reducible exact q_c0) : (0 : Int) ≤ a), decide_eq_false hb]
  dsimp only
  rw [hbb, Int.toNat_natCast]
  have : a &&& b ≤ a := Nat.and_le_left
  congr 2; (with_reducible exact (Int.ofNat_sub ‹_›).symm)
theorem bo_or {a b : Nat} : binOp .BitOr (.int a) (.int b) = some (.int (a ||| b : Nat)) := by
  show some (PV.int (Builtin.bitOr a b)) = _
  have ha : ¬ (0 : Int) ≤ Builtin.bitNot a := by unfold Builtin.bitNot; exact q_neg
  have hb : ¬ (0 : Int) ≤ Builtin.bitNot b := by unfold Builtin.bitNot; exact q_neg
  have haa : (Builtin.bitNot (Builtin.bitNot (a : Int))).toNat = a := by unfold Builtin.bitNot; exact q_nt
  have hbb : (Builtin.bitNot (Builtin.bitNot (b : Int))).toNat = b := by unfold Builtin.bitNot; exact q_nt
  unfold Builtin.bitOr Builtin.bitAnd
  rw [decide_eq_false ha, decide_eq_false hb]
  dsimp only
  rw [haa, hbb]
  congr 2; unfold Builtin.bitNot; exact q_nn

/-- the places of the bits below N -/
noncomputable def pl (N b : Nat) : List Nat := (List.range N).filter b.testBit
theorem pl_full {i N b : Nat} (hi : i ≤ N) (h : b >>> i = 0) : pl i b = pl N b := by
  refine Classical.byContradiction fun hG => ?_
  obtain ⟨k, rfl⟩ : ∃ k, N = i + k := ⟨N - i, by exact (Nat.add_sub_cancel' hi).symm⟩
  refine hG ?_
  unfold pl
  rw [List.range_add, List.filter_append]
  have : ((List.range k).map (i + ·)).filter b.testBit = [] := by
    rw [List.filter_eq_nil_iff]
    intro j hj
    refine Classical.byContradiction fun hG => ?_
    obtain ⟨q, _, rfl⟩ := List.mem_map.mp hj
    refine hG ?_
    have := congrArg (·.testBit q) h
    simp only [Nat.testBit_shiftRight, Nat.zero_testBit] at this
    rw [this]; exact Bool.false_ne_true
  rw [this, List.append_nil]
theorem pl_succ {i b : Nat} : pl (i + 1) b = pl i b ++ if b.testBit i then [i] else [] := by
  unfold pl
  rw [List.range_succ, List.filter_append, List.filter_cons, List.filter_nil]
theorem c_places {cells : List Int} {m σ N b : Nat} (hN : N ≤ 38) (hb : b < 2 ^ N) : callF (tab cells) fns (m + 1) 220 [.int b] σ = some (.list ((pl N b).map fun p : Nat => .int p), σ) := by
  have hb38 : b < 2 ^ 38 := Nat.lt_of_lt_of_le hb (Nat.pow_le_pow_right (by decide) hN)
  refine call_ret rfl rfl rfl ?_
  have hbd : f_l_places.body = [_, _, _] := rfl
  rw [hbd]
  apply rt_next
  · refine s_tup (ss := [.lst [], .val (.int 0)]) (σ₁ := σ) (by rfl) (by rfl) (os_cons (σ₁ := σ) o_list (os_cons (σ₁ := σ) (o_plain (by rfl) x_int) os_nil))
  have loop : ∀ (K i : Nat) (ρ : Rho), i ≤ N → N < i + K → ρ ("found" : Str) = some (.lst ((pl i b).map fun p : Nat => .int p)) → ρ ("place" : Str) = some (.val (.int i)) → ρ ("bits" : Str) = some (.val (.int (b >>> i : Nat))) →
      ∃ ρ', whileFold (fun ρ σ => evT (tab cells) (callF (tab cells) fns m) 37 f_l_places.names ρ (stT (nthS f_l_places.body 1)) σ) (fun ρ σ => evSs (tab cells) (callF (tab cells) fns m) 37 f_l_places.names ρ (stB (nthS f_l_places.body 1)) σ) K ρ σ = some (.next, ρ', σ) ∧ ρ' ("found" : Str) = some (.lst ((pl N b).map fun p : Nat => .int p)) := by
    intro K
    induction K with
    | zero => intro i ρ h1 h2; exact (q_n9 h1 h2).elim
    | succ K ih =>
      intro i ρ h1 h2 j1 j2 j3
      have test : evT (tab cells) (callF (tab cells) fns m) 37 f_l_places.names ρ (stT (nthS f_l_places.body 1)) σ = some (decide (0 < b >>> i), σ) := by
        refine t_cmp (σ₁ := σ) (a := .int (b >>> i : Nat)) (b := .int 0) (by rfl) (x_name (by rfl) (by walk_at "n")) x_int ?_
        show some (decide ((0 : Int) < (b >>> i : Nat))) = some (decide (0 < b >>> i))
        rw [decide_eq_decide.mpr Int.natCast_pos]
      by_cases h0 : 0 < b >>> i
      · rw [decide_eq_true h0] at test
        have hlt : b >>> i < 2 ^ 38 := by rw [Nat.shiftRight_eq_div_pow]; exact Nat.lt_of_le_of_lt (Nat.div_le_self _ _) hb38
        have h38 : (2 : Nat) ^ 38 < 9223372036854775808 := by decide
        have hiN : i < N := by
          rcases Nat.lt_or_ge i N with q | q
          · exact q
          · exfalso
            have : b >>> i = 0 := by rw [Nat.shiftRight_eq_div_pow]; exact Nat.div_eq_of_lt (Nat.lt_of_lt_of_le hb (Nat.pow_le_pow_right (by decide) q))
            (with_reducible exact absurd ‹_ = _› (Nat.ne_of_gt ‹_›))
        have tb : b.testBit i = decide (b >>> i % 2 = 1) := by rw [Nat.testBit_eq_decide_div_mod_eq, Nat.shiftRight_eq_div_pow]
        have sh : (b >>> i) / 2 = b >>> (i + 1) := (Nat.shiftRight_succ b i).symm
        -- the turn
        have turn : ∃ ρ₁, evSs (tab cells) (callF (tab cells) fns m) 37 f_l_places.names ρ (stB (nthS f_l_places.body 1)) σ = some (.next, ρ₁, σ) ∧ ρ₁ ("found" : Str) = some (.lst ((pl (i + 1) b).map fun p : Nat => .int p)) ∧ ρ₁ ("place" : Str) = some (.val (.int (i + 1 : Nat))) ∧ ρ₁ ("bits" : Str) = some (.val (.int (b >>> (i + 1) : Nat))) := by
          have tst : ∀ ρ : Rho, ρ ("bits" : Str) = some (.val (.int (b >>> i : Nat))) → evT (tab cells) (callF (tab cells) fns m) 35 f_l_places.names ρ (stT (nthS (stB (nthS f_l_places.body 1)) 0)) σ = some (b.testBit i, σ) := fun ρ j => by
            refine t_cmp (σ₁ := σ) (a := .int (b >>> i % 2 : Nat)) (b := .int 1) (by rfl) (x_bin (σ₁ := σ) (σ₂ := σ) (a := .int (b >>> i : Nat)) (b := .int (2 : Nat)) (x_name (by rfl) (by walk_at "n")) x_int (bo_mod (by decide))) x_int ?_
            rw [tb]
            show some (((b >>> i % 2 : Nat) : Int) == 1) = _
            congr 1
            by_cases q : b >>> i % 2 = 1
            · rw [q]; rfl
            · rw [decide_eq_false q, (Nat.mod_two_eq_zero_or_one (b >>> i)).resolve_right q]; rfl
          have fin : ∀ ρ : Rho, ρ ("bits" : Str) = some (.val (.int (b >>> i : Nat))) → ρ ("place" : Str) = some (.val (.int i)) → ∀ fl, ρ ("found" : Str) = some (.lst fl) → ∃ ρ₁, evS (tab cells) (callF (tab cells) fns m) 35 f_l_places.names ρ (nthS (stB (nthS f_l_places.body 1)) 1) σ = some (.next, ρ₁, σ) ∧ ρ₁ ("found" : Str) = some (.lst fl) ∧ ρ₁ ("place" : Str) = some (.val (.int (i + 1 : Nat))) ∧ ρ₁ ("bits" : Str) = some (.val (.int (b >>> (i + 1) : Nat))) := fun ρ j2 j3 fl j4 => by
            refine ⟨_, s_tup (ss := [.val (.int (b >>> (i + 1) : Nat)), .val (.int (i + 1 : Nat))]) (σ₁ := σ) (by rfl) (by rfl) (os_cons (σ₁ := σ) (o_plain (by rfl) ?_) (os_cons (σ₁ := σ) (o_plain (by rfl) ?_) os_nil)), ?_, ?_, ?_⟩
            · rw [← sh]
              exact x_bin (σ₁ := σ) (σ₂ := σ) (a := .int (b >>> i : Nat)) (b := .int (2 : Nat)) (x_name (by rfl) (by walk_at "n")) x_int (bo_div (by decide) (Nat.lt_trans hlt h38) (by decide))
            · exact x_bin (σ₁ := σ) (σ₂ := σ) (a := .int i) (b := .int 1) (x_name (by rfl) (by walk_at "n")) x_int (by rw [bo_add]; rfl)
            · simp only [updAll]
              walk_at "n"
            · simp only [updAll]
              walk_at "n"
            · simp only [updAll]
              walk_at "n"
          by_cases hbit : b.testBit i = true
          · have t1 := tst (frz (reads (stT (nthS (stB (nthS f_l_places.body 1)) 0))) ρ) (by walk_at "n")
            rw [hbit] at t1
            have sP : small ((pl i b).map fun p : Nat => PV.int p).length = true := by
              have : (pl i b).length ≤ i := by unfold pl; refine Nat.le_trans (List.length_filter_le _ _) ?_; simp
              simp only [small, decide_eq_true_eq, List.length_map]; exact Nat.le_trans this (Nat.le_trans (Nat.le_of_lt hiN) (q_le hN rfl))
            refine Classical.byContradiction fun hG => ?_
            obtain ⟨ρ₁, e1, k1, k2, k3⟩ := fin (upd (frz (reads (.Name ("place" : Str) ⟨0, 0, 0, 0⟩)) (frz (reads (stT (nthS (stB (nthS f_l_places.body 1)) 0))) ρ)) ("found" : Str) (.lst ((pl i b).map (fun p : Nat => PV.int p) ++ [.int i]))) (by walk_at "n") (by walk_at "n") _ (by walk_at "n")
            refine hG ?_
            refine ⟨ρ₁, ss_next (s_ifT t1 (ss_next (s_app (σ₁ := σ) (l := (pl i b).map fun p : Nat => PV.int p) (p := .int i) (by rfl) (by walk_at "n") (x_name (by rfl) (by walk_at "n")) sP) ss_nil)) (ss_next e1 ss_nil), ?_, k2, k3⟩
            rw [k1, pl_succ, if_pos hbit, List.map_append]; rfl
          · have hbit : b.testBit i = false := by simpa using hbit
            have t1 := tst (frz (reads (stT (nthS (stB (nthS f_l_places.body 1)) 0))) ρ) (by walk_at "n")
            rw [hbit] at t1
            refine Classical.byContradiction fun hG => ?_
            obtain ⟨ρ₁, e1, k1, k2, k3⟩ := fin (frz (reads (stT (nthS (stB (nthS f_l_places.body 1)) 0))) ρ) (by walk_at "n") (by walk_at "n") _ (by walk_at "n")
            refine hG ?_
            refine ⟨ρ₁, ss_next (s_ifF t1 ss_nil) (ss_next e1 ss_nil), ?_, k2, k3⟩
            rw [k1, pl_succ, if_neg (by rw [hbit]; exact Bool.false_ne_true), List.append_nil]
        refine Classical.byContradiction fun hG => ?_
        obtain ⟨ρ₁, e1, k1, k2, k3⟩ := turn
        obtain ⟨ρ', e2, k4⟩ := ih (i + 1) ρ₁ (by (with_reducible exact Nat.succ_le_of_lt ‹_›)) (by exact Nat.lt_of_lt_of_le h2 (Nat.le_of_eq (Nat.succ_add_eq_add_succ _ _).symm)) k1 k2 k3
        refine hG ?_
        exact ⟨ρ', bnd_to test (seq_next e1 e2), k4⟩
      · rw [decide_eq_false h0] at test
        refine ⟨ρ, ?_, ?_⟩
        · exact bnd_to test rfl
        · rw [j1, pl_full h1 (Nat.eq_zero_of_not_pos h0)]
  refine Classical.byContradiction fun hG => ?_
  obtain ⟨ρ', e, k⟩ := loop 40 0 (updAll [("found" : Str), ("place" : Str)] [.lst [], .val (.int 0)] (frz (readss [.List [] ⟨0, 0, 0, 0⟩, .Constant (.int 0) 0 ⟨0, 0, 0, 0⟩]) (rho0 f_l_places.params [.int b]))) (Nat.zero_le _) (by (with_reducible exact q_lt ‹_ ≤ _› (by decide))) (by rfl) (by rfl) (by rfl)
  refine hG ?_
  refine rt_next (s_while e) ?_
  with_reducible apply rt_ret
  exact x_name (by rfl) (by walk_at "n")

/- part X12 -/
-- a name's value
-- an expression's step
-- an if, decided
noncomputable def blk (b size k : Nat) : Nat := (b >>> (k * size)) &&& (1 <<< size - 1)
theorem c_block {cells : List Int} {m σ b size k : Nat} (hs : size ≤ 1000) (hk : k ≤ 100) : callF (tab cells) fns (m + 1) 227 [.int b, .int size, .int k] σ = some (.int (blk b size k : Nat), σ) := by
  refine call_ret rfl rfl rfl ?_
  have hbd : f_l_block.body = [_] := rfl
  rw [hbd]
  with_reducible apply rt_ret
  refine x_bin (σ₁ := σ) (σ₂ := σ) (a := .int (b >>> (k * size) : Nat)) (b := .int (1 <<< size - 1 : Nat)) ?_ ?_ bo_and
  · refine x_bin (σ₁ := σ) (σ₂ := σ) (a := .int b) (b := .int (k * size : Nat)) (x_name (by rfl) (by walk_at "n")) ?_ bo_shr
    exact x_bin (σ₁ := σ) (σ₂ := σ) (a := .int k) (b := .int size) (x_name (by rfl) (by walk_at "n")) (x_name (by rfl) (by walk_at "n")) (bo_mul (by (with_reducible exact q_lt ‹_ ≤ _› (by decide))))
  · refine x_bin (σ₁ := σ) (σ₂ := σ) (a := .int (1 <<< size : Nat)) (b := .int 1) ?_ x_int ?_
    · exact x_bin (σ₁ := σ) (σ₂ := σ) (a := .int (1 : Nat)) (b := .int size) x_int (x_name (by rfl) (by walk_at "n")) (bo_shl hs (by decide))
    · rw [bo_sub]
      have : 1 ≤ 1 <<< size := by rw [Nat.one_shiftLeft]; exact Nat.one_le_two_pow
      congr 2; exact q_sub this

noncomputable def dg (n : Nat) : Nat → Nat → List Int
  | 0, _ => []
  | i + 1, p => ((p / n ^ i % n : Nat) : Int) :: dg n i p
theorem c_tuples {cells : List Int} {m σ N b n r : Nat} (hN : N ≤ 38) (hb : b < 2 ^ N) (hn : n = 2 ∨ n = 3) (hr : r ≤ 3) : callF (tab cells) fns (m + 2) 253 [.int b, .int n, .int r] σ = some (encS ((pl N b).map (dg n r)), σ) := by
  have hP := c_places (cells := cells) (m := m) (σ := σ) hN hb
  have hpl : (pl N b).length ≤ 38 := by unfold pl; refine Nat.le_trans (List.length_filter_le _ _) ?_; simp; (with_reducible assumption)
  have sP : small (pl N b).length = true := by simp only [small, decide_eq_true_eq]; (with_reducible exact q_le ‹_› (by decide))
  have sR : small (List.range r).length = true := by simp only [small, decide_eq_true_eq, List.length_range]; (with_reducible exact q_le ‹_› (by decide))
  refine call_ret rfl rfl rfl ?_
  have hbd : f_l_tuples.body = [_, _, _] := rfl
  rw [hbd]
  apply rt_next
  · exact s_asg (by rfl) o_list
  refine rt_for (g := fun p : Nat => .int p) (L := pl N b) (σ₁ := σ) (fun pre ρ => (ρ ("n" : Str) = some (.val (.int n)) ∧ ρ ("arity" : Str) = some (.val (.int r))) ∧ ρ ("found" : Str) = some (.lst ((pre.map (dg n r)).map encT))) (by rfl)
    (i_map (p := .list _) (by rfl) (x_callF (by rfl) (by rfl) (xs_cons (σ₁ := σ) (x_name (by rfl) (by walk_at "n")) xs_nil) hP) rfl sP) ⟨⟨by walk_at "n", by walk_at "n"⟩, by walk_at "n"⟩ (fun pre p q ρ hd ⟨⟨j1, j2⟩, j3⟩ => ?_) (fun ρ' ⟨⟨j1, j2⟩, j3⟩ => ?_)
  · have hp38 : p < 38 := by
      have : p ∈ pl N b := by rw [← hd]; simp
      have := List.mem_range.mp (List.mem_filter.mp this).1
      (with_reducible exact q_ltlt ‹_ < _› ‹_› (by decide))
    have hpre : pre.length ≤ 38 := by have := congrArg List.length hd; simp at this; exact q_pdn this hpl
    have inn : ∃ ρ', evS (tab cells) (callF (tab cells) fns (m + 1)) 35 f_l_tuples.names (upd (frz (reads (.List [] ⟨0, 0, 0, 0⟩)) (upd ρ ("place" : Str) (.val (.int p)))) ("row" : Str) (.lst []))
        (nthS (stB (nthS f_l_tuples.body 1)) 1) σ = some (.next, ρ', σ) ∧ (ρ' ("n" : Str) = some (.val (.int n)) ∧ ρ' ("arity" : Str) = some (.val (.int r))) ∧ ρ' ("found" : Str) = some (.lst ((pre.map (dg n r)).map encT)) ∧ (ρ' ("row" : Str) = some (.val (.list ((dg n r p).map .int))) ∨ ρ' ("row" : Str) = some (.lst ((dg n r p).map .int))) := by
      refine Classical.byContradiction fun hG => ?_
      obtain ⟨ρ', e, i1, i2, i3, _⟩ := st_for (T := tab cells) (C := callF (tab cells) fns (m + 1)) (n := 34) (nm := f_l_tuples.names) (σ := σ) (σ₁ := σ) (g := fun i : Nat => .int i) (L := List.range r)
        (ρ := upd (frz (reads (.List [] ⟨0, 0, 0, 0⟩)) (upd ρ ("place" : Str) (.val (.int p)))) ("row" : Str) (.lst []))
        (t := stT (nthS (stB (nthS f_l_tuples.body 1)) 1)) (it := stI (nthS (stB (nthS f_l_tuples.body 1)) 1))
        (body := stB (nthS (stB (nthS f_l_tuples.body 1)) 1)) (pos := stP (nthS (stB (nthS f_l_tuples.body 1)) 1))
        (fun w ρ => (ρ ("n" : Str) = some (.val (.int n)) ∧ ρ ("arity" : Str) = some (.val (.int r))) ∧ ρ ("found" : Str) = some (.lst ((pre.map (dg n r)).map encT)) ∧ (ρ ("row" : Str) = some (.val (.list ((dg n w.length p).map .int))) ∨ ρ ("row" : Str) = some (.lst ((dg n w.length p).map .int))) ∧ ρ ("place" : Str) = some (.val (.int (p / n ^ w.length : Nat))))
        (by rfl) (i_map (by rfl) (x_callB (by rfl) (by rfl) (xs_cons (σ₁ := σ) (x_name (by rfl) (by walk_at "n")) xs_nil) (bi_range (i := (r : Int)) ⟨by (with_reducible exact q_c0), by exact q_iM (q_le hr rfl)⟩)) (it_range (by (with_reducible exact q_le ‹_› (by decide)))) sR)
        ⟨⟨by walk_at "n", by walk_at "n"⟩, by walk_at "n", .inr (by walk_at "n"), by (simp only [List.length_nil, Nat.pow_zero, Nat.div_one]; walk_at "n")⟩ (fun w t q' ρ₁ hw ⟨⟨i1, i2⟩, i3, i4, i5⟩ => by
          have hwl : w.length + 1 ≤ r := by have := congrArg List.length hw; simp at this; exact q_w1 this
          have hn0 : n ≠ 0 := by exact q_ne hn
          have hdl : ∀ i, (dg n i p).length = i := fun i => by induction i with | zero => rfl | succ i ih => simp [dg, ih]
          have hpl : p / n ^ w.length < 9223372036854775808 := Nat.lt_of_le_of_lt (Nat.div_le_self _ _) (by (with_reducible exact q_lt' ‹_ < _› (by decide)))
          have row : ∀ f : Str → Bool, f ("row" : Str) = true → frz f (upd ρ₁ ("turn" : Str) (.val (.int t))) ("row" : Str) = some (.val (.list ((dg n w.length p).map .int))) := fun f hf => by
            rcases i4 with i4 | i4
            · walk_at "n"
            · exact r_frzL hf (r_updN (by rfl) i4)
          refine ⟨_, f_turn b_name (ss_next (s_asg (σ₁ := σ) (by rfl) (o_plain (p := .list ((dg n (w.length + 1) p).map .int)) (by rfl) ?_)) (ss_next (s_asg (σ₁ := σ) (by rfl) (o_plain (p := .int (p / n ^ (w.length + 1) : Nat)) (by rfl) ?_)) ss_nil)), ⟨by walk_at "n", by walk_at "n"⟩, by walk_at "n", ?_, ?_⟩
          · refine x_bin (σ₁ := σ) (σ₂ := σ) (a := .list [.int (p / n ^ w.length % n : Nat)]) (b := .list ((dg n w.length p).map .int)) (x_list (by rfl) (xs_cons (σ₁ := σ) ?_ xs_nil)) (x_name (by rfl) (row _ (by rfl))) ?_
            · exact x_bin (σ₁ := σ) (σ₂ := σ) (a := .int (p / n ^ w.length : Nat)) (b := .int n) (x_name (by rfl) (by walk_at "n")) (x_name (by rfl) (by walk_at "n")) (bo_mod hn0)
            · show (if small _ then _ else _) = _
              rw [if_pos (by simp only [small, decide_eq_true_eq, List.length_map, hdl, List.length_singleton]; exact q_le (Nat.le_trans (Nat.le_of_eq (Nat.add_comm 1 _)) (Nat.le_trans hwl hr)) rfl)]; rfl
          · refine (x_bin (σ₁ := σ) (σ₂ := σ) (a := .int (p / n ^ w.length : Nat)) (b := .int n) (x_name (by rfl) (by walk_at "n")) (x_name (by rfl) (by walk_at "n")) (bo_div hn0 hpl (by (with_reducible exact q_nl ‹_ = 2 ∨ _ = 3› (by decide))))).trans ?_
            rw [Nat.div_div_eq_div_mul, ← Nat.pow_succ]
          · left; rw [List.length_append]; walk_at "n"
          · rw [List.length_append]; walk_at "n")
      refine hG ?_
      refine ⟨ρ', e, i1, i2, ?_⟩
      rw [List.length_range] at i3; exact i3
    refine Classical.byContradiction fun hG => ?_
    obtain ⟨ρ₄, e4, ⟨q1, q2⟩, q3, q4⟩ := inn
    refine hG ?_
    have row : ∀ f : Str → Bool, f ("row" : Str) = true → frz f ρ₄ ("row" : Str) = some (.val (.list ((dg n r p).map .int))) := fun f hf => by
      rcases q4 with q4 | q4
      · walk_at "n"
      · exact r_frzL hf q4
    have hdl : ∀ i, (dg n i p).length = i := fun i => by induction i with | zero => rfl | succ i ih => simp [dg, ih]
    refine ⟨_, f_turn b_name (ss_next (s_asg (by rfl) o_list) (ss_next e4 (ss_next (s_app (l := (pre.map (dg n r)).map encT) (p := encT (dg n r p)) (σ₁ := σ) (by rfl) (by walk_at "n") ?_ ?_) ss_nil))), ⟨by walk_at "n", by walk_at "n"⟩, ?_⟩
    · exact x_callB (by rfl) (by rfl) (xs_cons (σ₁ := σ) (x_name (by rfl) (row _ (by rfl))) xs_nil) (bi_tuple (by simp only [small, decide_eq_true_eq, List.length_map, hdl]; (with_reducible exact q_le ‹_› (by decide))))
    · simp only [small, decide_eq_true_eq, List.length_map]; (with_reducible exact q_le ‹_› (by decide))
    · rw [List.map_append, List.map_append]; exact r_upd
  · with_reducible apply rt_ret
    exact x_callB (by rfl) (by rfl) (xs_cons (σ₁ := σ) (x_name (by rfl) (by walk_at "n")) xs_nil) (bi_tuple (by simp only [small, decide_eq_true_eq, List.length_map]; (with_reducible exact q_le ‹_› (by decide))))

/- part X13 -/
-- a name's value
-- an expression's step
-- an if, decided
section
variable {cells : List Int} {m σ : Nat} {A B F D X : PV}
theorem ar_rel {k : Int} : callF (tab cells) fns (m + 1) 213 [.tup [.str "rel", .int k]] σ = some (.int (k + 1), σ) := by
  refine call_ret rfl rfl rfl ?_
  have hbd : f_l_arity.body = [_, _, _, _, _] := rfl
  rw [hbd]
  repeat walk_at "i"
  with_reducible apply rt_ret
  repeat' walk_at "e"
theorem ar_none {k : Int} : callF (tab cells) fns (m + 1) 213 [.tup [.str "none", .int k]] σ = some (.int k, σ) := by
  refine call_ret rfl rfl rfl ?_
  have hbd : f_l_arity.body = [_, _, _, _, _] := rfl
  rw [hbd]
  repeat walk_at "i"
  with_reducible apply rt_ret
  repeat' walk_at "e"
theorem ar_univ : callF (tab cells) fns (m + 1) 213 [.tup [.str "univ"]] σ = some (.int 1, σ) := by
  refine call_ret rfl rfl rfl ?_
  have hbd : f_l_arity.body = [_, _, _, _, _] := rfl
  rw [hbd]
  repeat walk_at "i"
  with_reducible apply rt_ret
  repeat' walk_at "e"
theorem ar_var : callF (tab cells) fns (m + 1) 213 [.tup [.str "var", X]] σ = some (.int 1, σ) := by
  refine call_ret rfl rfl rfl ?_
  have hbd : f_l_arity.body = [_, _, _, _, _] := rfl
  rw [hbd]
  repeat walk_at "i"
  with_reducible apply rt_ret
  repeat' walk_at "e"
theorem ar_iden : callF (tab cells) fns (m + 1) 213 [.tup [.str "iden"]] σ = some (.int 2, σ) := by
  refine call_ret rfl rfl rfl ?_
  have hbd : f_l_arity.body = [_, _, _, _, _] := rfl
  rw [hbd]
  repeat walk_at "i"
  with_reducible apply rt_ret
  repeat' walk_at "e"
theorem ar_comp {l : List PV} (h : l.length ≤ 10) : callF (tab cells) fns (m + 1) 213 [.tup [.str "comp", .tup l, F]] σ = some (.int l.length, σ) := by
  have hlen : builtinP ("len" : Str) [.tup l] = some (.int l.length) := bi_lenT (by simp only [small, decide_eq_true_eq]; (with_reducible exact q_le ‹_› (by decide)))
  refine call_ret rfl rfl rfl ?_
  have hbd : f_l_arity.body = [_, _, _, _, _] := rfl
  rw [hbd]
  repeat walk_at "i"
  with_reducible apply rt_ret
  repeat' walk_at "e"
theorem ar_join {a b : Int} (hA : ∀ σ, callF (tab cells) fns m 213 [A] σ = some (.int a, σ)) (hB : ∀ σ, callF (tab cells) fns m 213 [B] σ = some (.int b, σ)) : callF (tab cells) fns (m + 1) 213 [.tup [.str "join", A, B]] σ = some (.int (a + b - 2), σ) := by
  have hA := hA σ
  have hB := hB σ
  refine call_ret rfl rfl rfl ?_
  have hbd : f_l_arity.body = [_, _, _, _, _] := rfl
  rw [hbd]
  repeat walk_at "i"
  with_reducible apply rt_ret
  repeat' walk_at "e"
theorem ar_product {a b : Int} (hA : ∀ σ, callF (tab cells) fns m 213 [A] σ = some (.int a, σ)) (hB : ∀ σ, callF (tab cells) fns m 213 [B] σ = some (.int b, σ)) : callF (tab cells) fns (m + 1) 213 [.tup [.str "product", A, B]] σ = some (.int (a + b - 0), σ) := by
  have hA := hA σ
  have hB := hB σ
  refine call_ret rfl rfl rfl ?_
  have hbd : f_l_arity.body = [_, _, _, _, _] := rfl
  rw [hbd]
  repeat walk_at "i"
  with_reducible apply rt_ret
  repeat' walk_at "e"
theorem ar_minus {a : Int} (hA : ∀ σ, callF (tab cells) fns m 213 [A] σ = some (.int a, σ)) : callF (tab cells) fns (m + 1) 213 [.tup [.str "minus", A, B]] σ = some (.int a, σ) := by
  have hA := hA σ
  refine call_ret rfl rfl rfl ?_
  have hbd : f_l_arity.body = [_, _, _, _, _] := rfl
  rw [hbd]
  repeat walk_at "i"
  with_reducible apply rt_ret
  repeat' walk_at "e"
theorem ar_override {a : Int} (hA : ∀ σ, callF (tab cells) fns m 213 [A] σ = some (.int a, σ)) : callF (tab cells) fns (m + 1) 213 [.tup [.str "override", A, B]] σ = some (.int a, σ) := by
  have hA := hA σ
  refine call_ret rfl rfl rfl ?_
  have hbd : f_l_arity.body = [_, _, _, _, _] := rfl
  rw [hbd]
  repeat walk_at "i"
  with_reducible apply rt_ret
  repeat' walk_at "e"
theorem ar_behind {a : Int} (hA : ∀ σ, callF (tab cells) fns m 213 [A] σ = some (.int a, σ)) : callF (tab cells) fns (m + 1) 213 [.tup [.str "behind", A, B]] σ = some (.int a, σ) := by
  have hA := hA σ
  refine call_ret rfl rfl rfl ?_
  have hbd : f_l_arity.body = [_, _, _, _, _] := rfl
  rw [hbd]
  repeat walk_at "i"
  with_reducible apply rt_ret
  repeat' walk_at "e"
theorem ar_ahead {a : Int} (hA : ∀ σ, callF (tab cells) fns m 213 [B] σ = some (.int a, σ)) : callF (tab cells) fns (m + 1) 213 [.tup [.str "ahead", A, B]] σ = some (.int a, σ) := by
  have hA := hA σ
  refine call_ret rfl rfl rfl ?_
  have hbd : f_l_arity.body = [_, _, _, _, _] := rfl
  rw [hbd]
  repeat walk_at "i"
  with_reducible apply rt_ret
  repeat' walk_at "e"
theorem ar_either {a : Int} (hA : ∀ σ, callF (tab cells) fns m 213 [A] σ = some (.int a, σ)) : callF (tab cells) fns (m + 1) 213 [.tup [.str "either", F, A, B]] σ = some (.int a, σ) := by
  have hA := hA σ
  refine call_ret rfl rfl rfl ?_
  have hbd : f_l_arity.body = [_, _, _, _, _] := rfl
  rw [hbd]
  repeat walk_at "i"
  with_reducible apply rt_ret
  repeat' walk_at "e"
end
theorem encD_len : ∀ ds : Ds, (encD ds).length = ds.len
  | .nil => rfl
  | .cons x e r => by simp [encD, Ds.len, encD_len r]
theorem c_arity {cells : List Int} : ∀ (e : Ex) {ks : List Str} {m : Nat}, WE ks e → dep e ≤ m → ∀ σ, callF (tab cells) fns m 213 [enc e] σ = some (.int (ar e), σ)
  | .rel k, ks, m, h, hm, σ => by simp only [dep] at hm; obtain ⟨j, rfl⟩ : ∃ k, m = k + 1 := ⟨m - 1, by (with_reducible exact q_sb ‹5 ≤ _› (by decide))⟩; exact ar_rel
  | .univ, ks, m, h, hm, σ => by simp only [dep] at hm; obtain ⟨j, rfl⟩ : ∃ k, m = k + 1 := ⟨m - 1, by (with_reducible exact q_sb ‹5 ≤ _› (by decide))⟩; exact ar_univ
  | .iden, ks, m, h, hm, σ => by simp only [dep] at hm; obtain ⟨j, rfl⟩ : ∃ k, m = k + 1 := ⟨m - 1, by (with_reducible exact q_sb ‹5 ≤ _› (by decide))⟩; exact ar_iden
  | .none k, ks, m, h, hm, σ => by simp only [dep] at hm; obtain ⟨j, rfl⟩ : ∃ k, m = k + 1 := ⟨m - 1, by (with_reducible exact q_sb ‹5 ≤ _› (by decide))⟩; exact ar_none
  | .var x, ks, m, h, hm, σ => by simp only [dep] at hm; obtain ⟨j, rfl⟩ : ∃ k, m = k + 1 := ⟨m - 1, by (with_reducible exact q_sb ‹5 ≤ _› (by decide))⟩; exact ar_var
  | .comp ds f, ks, m, h, hm, σ => by
    simp only [dep] at hm; obtain ⟨j, rfl⟩ : ∃ k, m = k + 1 := ⟨m - 1, by (with_reducible exact q_sa ‹5 + _ ≤ _› (by decide))⟩
    simp only [WE] at h
    refine (ar_comp (by rw [encD_len]; exact q_le h.2.1 rfl)).trans ?_
    rw [encD_len]; rfl
  | .minus a b, ks, m, h, hm, σ => by
    simp only [dep] at hm; obtain ⟨j, rfl⟩ : ∃ k, m = k + 1 := ⟨m - 1, by (with_reducible exact q_sa ‹5 + _ ≤ _› (by decide))⟩
    simp only [WE] at h
    exact ar_minus (c_arity a h.1 (by (with_reducible exact q_d0 ‹5 + _ ≤ _› (by decide) q_m1)))
  | .override a b, ks, m, h, hm, σ => by
    simp only [dep] at hm; obtain ⟨j, rfl⟩ : ∃ k, m = k + 1 := ⟨m - 1, by (with_reducible exact q_sa ‹5 + _ ≤ _› (by decide))⟩
    simp only [WE] at h
    exact ar_override (c_arity a h.1 (by (with_reducible exact q_d0 ‹5 + _ ≤ _› (by decide) q_m1)))
  | .behind a b, ks, m, h, hm, σ => by
    simp only [dep] at hm; obtain ⟨j, rfl⟩ : ∃ k, m = k + 1 := ⟨m - 1, by (with_reducible exact q_sa ‹5 + _ ≤ _› (by decide))⟩
    simp only [WE] at h
    exact ar_behind (c_arity a h.1 (by (with_reducible exact q_d0 ‹5 + _ ≤ _› (by decide) q_m1)))
  | .ahead a b, ks, m, h, hm, σ => by
    simp only [dep] at hm; obtain ⟨j, rfl⟩ : ∃ k, m = k + 1 := ⟨m - 1, by (with_reducible exact q_sa ‹5 + _ ≤ _› (by decide))⟩
    simp only [WE] at h
    exact ar_ahead (c_arity b h.2.1 (by (with_reducible exact q_d0 ‹5 + _ ≤ _› (by decide) q_m2)))
  | .either f a b, ks, m, h, hm, σ => by
    simp only [dep] at hm; obtain ⟨j, rfl⟩ : ∃ k, m = k + 1 := ⟨m - 1, by (with_reducible exact q_sa ‹5 + _ ≤ _› (by decide))⟩
    simp only [WE] at h
    exact ar_either (c_arity a h.2.1 (by (with_reducible exact q_d0 ‹5 + _ ≤ _› (by decide) q_m3)))
  | .product a b, ks, m, h, hm, σ => by
    simp only [dep] at hm; obtain ⟨j, rfl⟩ : ∃ k, m = k + 1 := ⟨m - 1, by (with_reducible exact q_sa ‹5 + _ ≤ _› (by decide))⟩
    simp only [WE] at h
    refine (ar_product (c_arity a h.1 (by (with_reducible exact q_d0 ‹5 + _ ≤ _› (by decide) q_m1))) (c_arity b h.2.1 (by (with_reducible exact q_d0 ‹5 + _ ≤ _› (by decide) q_m2)))).trans ?_
    simp [ar]
  | .join a b, ks, m, h, hm, σ => by
    simp only [dep] at hm; obtain ⟨j, rfl⟩ : ∃ k, m = k + 1 := ⟨m - 1, by (with_reducible exact q_sa ‹5 + _ ≤ _› (by decide))⟩
    simp only [WE] at h
    refine (ar_join (c_arity a h.1 (by (with_reducible exact q_d0 ‹5 + _ ≤ _› (by decide) q_m1))) (c_arity b h.2.1 (by (with_reducible exact q_d0 ‹5 + _ ≤ _› (by decide) q_m2)))).trans ?_
    simp only [ar]; congr 3; exact q_s2i h.2.2

/- part X14 -/
-- a name's value
-- an expression's step
-- an if, decided
theorem sum_nat {α : Type} {f : α → Nat} : ∀ L : List α, sumI (L.map fun x => PV.int (f x : Nat)) = some ((L.map f).sum : Nat)
  | [] => rfl
  | x :: r => by simp [sumI, sum_nat r]
theorem bi_sumN {α : Type} {f : α → Nat} {L : List α} (h : small L.length = true) : builtinP ("sum" : Str) [.list (L.map fun x => PV.int (f x : Nat))] = some (.int ((L.map f).sum : Nat)) := by
  rw [bi_sum (by simpa [small] using h), sum_nat]; rfl
theorem pl_len {N b : Nat} : (pl N b).length ≤ N := by unfold pl; refine Nat.le_trans (List.length_filter_le _ _) ?_; simp
theorem pl_lt {N b p : Nat} (h : p ∈ pl N b) : p < N := List.mem_range.mp (List.mem_filter.mp h).1
section
variable {cells : List Int} {m σ n : Nat} {A B F D X R env Bs : PV}
noncomputable abbrev wv (n : Nat) (Bs : PV) : PV := .tup [.int n, Bs]
theorem b_rel {k : Int} (h : ∀ σ, index cells σ Bs (.int k) = some R) : callF (tab cells) fns (m + 1) 232 [.tup [.str "rel", .int k], wv n Bs, env] σ = some (R, σ) := by
  refine call_ret rfl rfl rfl ?_
  have hbd : f_l_bits.body = [_, _, _, _, _, _, _, _, _, _, _, _, _, _, _, _, _, _] := rfl
  rw [hbd]
  apply rt_next
  · refine s_tup (ss := [.val (.int n), .val (.str "rel")]) (σ₁ := σ) (by rfl) (by rfl) (os_cons (σ₁ := σ) (o_plain (by rfl) ?_) (os_cons (σ₁ := σ) (o_plain (by rfl) ?_) os_nil))
    · repeat' walk_at "e"
    · repeat' walk_at "e"
  simp only [updAll]
  repeat walk_at "i"
  with_reducible apply rt_ret
  refine x_sub (a := Bs) (b := .int k) (σ₁ := σ) (σ₂ := σ) (by rfl) ?_ ?_ (h σ)
  · repeat' walk_at "e"
  · repeat' walk_at "e"
theorem b_univ (hn : n ≤ 10) : callF (tab cells) fns (m + 1) 232 [.tup [.str "univ"], wv n Bs, env] σ = some (.int (1 <<< n - 1 : Nat), σ) := by
  refine call_ret rfl rfl rfl ?_
  have hbd : f_l_bits.body = [_, _, _, _, _, _, _, _, _, _, _, _, _, _, _, _, _, _] := rfl
  rw [hbd]
  apply rt_next
  · refine s_tup (ss := [.val (.int n), .val (.str "univ")]) (σ₁ := σ) (by rfl) (by rfl) (os_cons (σ₁ := σ) (o_plain (by rfl) ?_) (os_cons (σ₁ := σ) (o_plain (by rfl) ?_) os_nil))
    · repeat' walk_at "e"
    · repeat' walk_at "e"
  simp only [updAll]
  repeat walk_at "i"
  with_reducible apply rt_ret
  refine x_ifT (σ₁ := σ) ?_ ?_
  · repeat' walk_at "e"
  · refine (x_bin (σ₁ := σ) (σ₂ := σ) (a := .int (1 <<< n : Nat)) (b := .int 1) ?_ x_int bo_sub).trans ?_
    · exact x_bin (σ₁ := σ) (σ₂ := σ) (a := .int (1 : Nat)) (b := .int n) x_int (x_name (by rfl) (by walk_at "n")) (bo_shl (by (with_reducible exact q_le ‹_› (by decide))) (by decide))
    · have : 1 ≤ 1 <<< n := by rw [Nat.one_shiftLeft]; exact Nat.one_le_two_pow
      congr 3; exact q_sub this
theorem b_none {k : Int} : callF (tab cells) fns (m + 1) 232 [.tup [.str "none", .int k], wv n Bs, env] σ = some (.int 0, σ) := by
  refine call_ret rfl rfl rfl ?_
  have hbd : f_l_bits.body = [_, _, _, _, _, _, _, _, _, _, _, _, _, _, _, _, _, _] := rfl
  rw [hbd]
  apply rt_next
  · refine s_tup (ss := [.val (.int n), .val (.str "none")]) (σ₁ := σ) (by rfl) (by rfl) (os_cons (σ₁ := σ) (o_plain (by rfl) ?_) (os_cons (σ₁ := σ) (o_plain (by rfl) ?_) os_nil))
    · repeat' walk_at "e"
    · repeat' walk_at "e"
  simp only [updAll]
  repeat walk_at "i"
  with_reducible apply rt_ret
  repeat' walk_at "e"
theorem b_iden (hn : n ≤ 3) : callF (tab cells) fns (m + 1) 232 [.tup [.str "iden"], wv n Bs, env] σ = some (.int (((List.range n).map fun a => 1 <<< (a * n + a)).sum : Nat), σ) := by
  have sR : small (List.range n).length = true := by simp only [small, decide_eq_true_eq, List.length_range]; (with_reducible exact q_le ‹_› (by decide))
  refine call_ret rfl rfl rfl ?_
  have hbd : f_l_bits.body = [_, _, _, _, _, _, _, _, _, _, _, _, _, _, _, _, _, _] := rfl
  rw [hbd]
  apply rt_next
  · refine s_tup (ss := [.val (.int n), .val (.str "iden")]) (σ₁ := σ) (by rfl) (by rfl) (os_cons (σ₁ := σ) (o_plain (by rfl) ?_) (os_cons (σ₁ := σ) (o_plain (by rfl) ?_) os_nil))
    · repeat' walk_at "e"
    · repeat' walk_at "e"
  simp only [updAll]
  repeat walk_at "i"
  with_reducible apply rt_ret
  refine x_callB (σ₁ := σ) (by rfl) (by rfl) (xs_cons (σ₁ := σ) ?_ xs_nil) (bi_sumN (f := fun a => 1 <<< (a * n + a)) sR)
  refine x_compM (σ₁ := σ) (g := fun i : Nat => .int i) (q := fun a : Nat => .int (1 <<< (a * n + a) : Nat)) (List.range n) (by rfl) (i_map (by rfl) (x_callB (by rfl) (by rfl) (xs_cons (σ₁ := σ) (x_name (by rfl) (by walk_at "n")) xs_nil) (bi_range (i := (n : Int)) ⟨by (with_reducible exact q_c0), by exact q_iM (q_le hn rfl)⟩)) (it_range (by (with_reducible exact q_le ‹_› (by decide)))) sR) sR fun x hx => ?_
  have hx := List.mem_range.mp hx
  have hb : x * n + x ≤ 1000 := q_xx hx hn
  refine turn_in b_name a_nil (x_bin (σ₁ := σ) (σ₂ := σ) (a := .int (1 : Nat)) (b := .int (x * n + x : Nat)) x_int ?_ (bo_shl hb (by decide)))
  refine x_bin (σ₁ := σ) (σ₂ := σ) (a := .int (x * n : Nat)) (b := .int x) ?_ (x_name (by rfl) (by walk_at "n")) (by rw [bo_add]; rfl)
  exact x_bin (σ₁ := σ) (σ₂ := σ) (a := .int x) (b := .int n) (x_name (by rfl) (by walk_at "n")) (x_name (by rfl) (by walk_at "n")) (bo_mul (by (with_reducible exact q_ltlt ‹_ < _› ‹_› (by decide))))
theorem b_var {x : Str} {ks : List Str} {vs : List PV} {v : Nat} (hv : v ≤ 100) (h : valAt x ks vs = some (.int v)) : callF (tab cells) fns (m + 1) 232 [.tup [.str "var", .str x], wv n Bs, .dS ks vs] σ = some (.int (1 <<< v : Nat), σ) := by
  refine call_ret rfl rfl rfl ?_
  have hbd : f_l_bits.body = [_, _, _, _, _, _, _, _, _, _, _, _, _, _, _, _, _, _] := rfl
  rw [hbd]
  apply rt_next
  · refine s_tup (ss := [.val (.int n), .val (.str "var")]) (σ₁ := σ) (by rfl) (by rfl) (os_cons (σ₁ := σ) (o_plain (by rfl) ?_) (os_cons (σ₁ := σ) (o_plain (by rfl) ?_) os_nil))
    · repeat' walk_at "e"
    · repeat' walk_at "e"
  simp only [updAll]
  repeat walk_at "i"
  with_reducible apply rt_ret
  refine x_bin (σ₁ := σ) (σ₂ := σ) (a := .int (1 : Nat)) (b := .int v) x_int ?_ (bo_shl (by (with_reducible exact q_le ‹_› (by decide))) (by decide))
  refine x_sub (a := .dS ks vs) (b := .str x) (σ₁ := σ) (σ₂ := σ) (by rfl) ?_ ?_ h
  · repeat' walk_at "e"
  · repeat' walk_at "e"
theorem b_either {t : Bool} {SA SB : PV} (hF : ∀ σ, callF (tab cells) fns m 246 [F, wv n Bs, env] σ = some (.bool t, σ)) (hA : ∀ σ, callF (tab cells) fns m 232 [A, wv n Bs, env] σ = some (SA, σ)) (hB : ∀ σ, callF (tab cells) fns m 232 [B, wv n Bs, env] σ = some (SB, σ)) :
    callF (tab cells) fns (m + 1) 232 [.tup [.str "either", F, A, B], wv n Bs, env] σ = some (if t then SA else SB, σ) := by
  have hF := hF σ
  have hA := hA σ
  have hB := hB σ
  refine call_ret rfl rfl rfl ?_
  have hbd : f_l_bits.body = [_, _, _, _, _, _, _, _, _, _, _, _, _, _, _, _, _, _] := rfl
  rw [hbd]
  apply rt_next
  · refine s_tup (ss := [.val (.int n), .val (.str "either")]) (σ₁ := σ) (by rfl) (by rfl) (os_cons (σ₁ := σ) (o_plain (by rfl) ?_) (os_cons (σ₁ := σ) (o_plain (by rfl) ?_) os_nil))
    · repeat' walk_at "e"
    · repeat' walk_at "e"
  simp only [updAll]
  repeat walk_at "i"
  with_reducible apply rt_ret
  cases t
  · rw [if_neg Bool.false_ne_true]
    repeat' walk_at "e"
  · rw [if_pos rfl]
    repeat' walk_at "e"
theorem b_comp (hR : ∀ σ, callF (tab cells) fns m 239 [D, F, wv n Bs, env, .int 0] σ = some (R, σ)) : callF (tab cells) fns (m + 1) 232 [.tup [.str "comp", D, F], wv n Bs, env] σ = some (R, σ) := by
  have hR := hR σ
  refine call_ret rfl rfl rfl ?_
  have hbd : f_l_bits.body = [_, _, _, _, _, _, _, _, _, _, _, _, _, _, _, _, _, _] := rfl
  rw [hbd]
  apply rt_next
  · refine s_tup (ss := [.val (.int n), .val (.str "comp")]) (σ₁ := σ) (by rfl) (by rfl) (os_cons (σ₁ := σ) (o_plain (by rfl) ?_) (os_cons (σ₁ := σ) (o_plain (by rfl) ?_) os_nil))
    · repeat' walk_at "e"
    · repeat' walk_at "e"
  simp only [updAll]
  repeat walk_at "i"
  with_reducible apply rt_ret
  repeat' walk_at "e"
theorem b_minus {a b : Nat} (hA : ∀ σ, callF (tab cells) fns m 232 [A, wv n Bs, env] σ = some (.int a, σ)) (hB : ∀ σ, callF (tab cells) fns m 232 [B, wv n Bs, env] σ = some (.int b, σ)) : callF (tab cells) fns (m + 1) 232 [.tup [.str "minus", A, B], wv n Bs, env] σ = some (.int (a - (a &&& b) : Nat), σ) := by
  have hA := hA σ
  have hB := hB σ
  refine call_ret rfl rfl rfl ?_
  have hbd : f_l_bits.body = [_, _, _, _, _, _, _, _, _, _, _, _, _, _, _, _, _, _] := rfl
  rw [hbd]
  apply rt_next
  · refine s_tup (ss := [.val (.int n), .val (.str "minus")]) (σ₁ := σ) (by rfl) (by rfl) (os_cons (σ₁ := σ) (o_plain (by rfl) ?_) (os_cons (σ₁ := σ) (o_plain (by rfl) ?_) os_nil))
    · repeat' walk_at "e"
    · repeat' walk_at "e"
  simp only [updAll]
  repeat walk_at "i"
  apply rt_next
  · refine s_tup (ss := [.val (.int a), .val (.int b)]) (σ₁ := σ) (by rfl) (by rfl) (os_cons (σ₁ := σ) (o_plain (by rfl) ?_) (os_cons (σ₁ := σ) (o_plain (by rfl) ?_) os_nil))
    · repeat' walk_at "e"
    · repeat' walk_at "e"
  simp only [updAll]
  repeat walk_at "i"
  with_reducible apply rt_ret
  refine x_bin (σ₁ := σ) (σ₂ := σ) (a := .int a) (b := .int (Builtin.bitNot b)) (x_name (by rfl) (by walk_at "n")) (x_inv (x_name (by rfl) (by walk_at "n"))) bo_andnot
theorem b_product {a b N q : Nat} (hN : N ≤ 3) (ha : a < 2 ^ N) (hb : b < 9223372036854775808) (hn : n = 2 ∨ n = 3) (hq : q ≤ 3) (hA : ∀ σ, callF (tab cells) fns (m + 1) 232 [A, wv n Bs, env] σ = some (.int a, σ)) (hB : ∀ σ, callF (tab cells) fns (m + 1) 232 [B, wv n Bs, env] σ = some (.int b, σ)) (hr : ∀ σ, callF (tab cells) fns (m + 1) 213 [B] σ = some (.int q, σ)) :
    callF (tab cells) fns (m + 2) 232 [.tup [.str "product", A, B], wv n Bs, env] σ = some (.int (((pl N a).map fun p => b <<< (p * n ^ q)).sum : Nat), σ) := by
  have hA := hA σ
  have hB := hB σ
  have hr := hr σ
  have hP := c_places (cells := cells) (m := m) (σ := σ) (N := N) (by (with_reducible exact q_le ‹_› (by decide))) ha
  have sP : small (pl N a).length = true := by have := pl_len (N := N) (b := a); simp only [small, decide_eq_true_eq]; (with_reducible exact q_lele ‹_ ≤ _› ‹_› (by decide))
  have hnq : n ^ q ≤ 27 := Nat.le_trans (Nat.pow_le_pow_left (show n ≤ 3 by (with_reducible exact q_n3 ‹_›)) q) (Nat.pow_le_pow_right (by decide) hq)
  refine call_ret rfl rfl rfl ?_
  have hbd : f_l_bits.body = [_, _, _, _, _, _, _, _, _, _, _, _, _, _, _, _, _, _] := rfl
  rw [hbd]
  apply rt_next
  · refine s_tup (ss := [.val (.int n), .val (.str "product")]) (σ₁ := σ) (by rfl) (by rfl) (os_cons (σ₁ := σ) (o_plain (by rfl) ?_) (os_cons (σ₁ := σ) (o_plain (by rfl) ?_) os_nil))
    · repeat' walk_at "e"
    · repeat' walk_at "e"
  simp only [updAll]
  repeat walk_at "i"
  apply rt_next
  · refine s_tup (ss := [.val (.int a), .val (.int b)]) (σ₁ := σ) (by rfl) (by rfl) (os_cons (σ₁ := σ) (o_plain (by rfl) ?_) (os_cons (σ₁ := σ) (o_plain (by rfl) ?_) os_nil))
    · repeat' walk_at "e"
    · repeat' walk_at "e"
  simp only [updAll]
  repeat walk_at "i"
  apply rt_next
  · refine s_asg (σ₁ := σ) (by rfl) (o_plain (p := .int (n ^ q : Nat)) (by rfl) ?_)
    refine x_bin (σ₁ := σ) (σ₂ := σ) (a := .int n) (b := .int q) (x_name (by rfl) (by walk_at "n")) ?_ (bo_pow (by (with_reducible exact q_le ‹_› (by decide))) (by (with_reducible exact q_nl ‹_ = 2 ∨ _ = 3› (by decide))))
    repeat' walk_at "e"
  with_reducible apply rt_ret
  refine x_callB (σ₁ := σ) (by rfl) (by rfl) (xs_cons (σ₁ := σ) ?_ xs_nil) (bi_sumN (f := fun p => b <<< (p * n ^ q)) sP)
  refine x_compM (σ₁ := σ) (g := fun i : Nat => .int i) (q := fun p : Nat => .int (b <<< (p * n ^ q) : Nat)) (pl N a) (by rfl) (i_map (p := .list _) (by rfl) (x_callF (by rfl) (by rfl) (xs_cons (σ₁ := σ) (x_name (by rfl) (by walk_at "n")) xs_nil) hP) rfl sP) sP fun p hp => ?_
  have hp := pl_lt hp
  have hb' : p * n ^ q ≤ 1000 := Nat.le_trans (Nat.mul_le_mul (show p ≤ 3 by (with_reducible exact q_ltle ‹_ < _› ‹_› (by decide))) hnq) (by decide)
  refine turn_in b_name a_nil (x_bin (σ₁ := σ) (σ₂ := σ) (a := .int b) (b := .int (p * n ^ q : Nat)) (x_name (by rfl) (by walk_at "n")) ?_ (bo_shl hb' hb))
  exact x_bin (σ₁ := σ) (σ₂ := σ) (a := .int p) (b := .int (n ^ q : Nat)) (x_name (by rfl) (by walk_at "n")) (x_name (by rfl) (by walk_at "n")) (bo_mul (by (with_reducible exact q_ltlt ‹_ < _› ‹_› (by decide))))
theorem b_behind {a b N : Nat} (hN : N ≤ 38) (ha : a < 2 ^ N) (hn : n = 2 ∨ n = 3) (hA : ∀ σ, callF (tab cells) fns (m + 1) 232 [A, wv n Bs, env] σ = some (.int a, σ)) (hB : ∀ σ, callF (tab cells) fns (m + 1) 232 [B, wv n Bs, env] σ = some (.int b, σ)) :
    callF (tab cells) fns (m + 2) 232 [.tup [.str "behind", A, B], wv n Bs, env] σ = some (.int ((((pl N a).filter fun p => b.testBit (p % n)).map fun p => 1 <<< p).sum : Nat), σ) := by
  have hA := hA σ
  have hB := hB σ
  have hP := c_places (cells := cells) (m := m) (σ := σ) (N := N) (by (with_reducible assumption)) ha
  have sP : small (pl N a).length = true := by have := pl_len (N := N) (b := a); simp only [small, decide_eq_true_eq]; (with_reducible exact q_lele ‹_ ≤ _› ‹_› (by decide))
  have sF : small ((pl N a).filter fun p => b.testBit (p % n)).length = true := by have := pl_len (N := N) (b := a); have := List.length_filter_le (fun p => b.testBit (p % n)) (pl N a); simp only [small, decide_eq_true_eq]; exact Nat.le_trans this (Nat.le_trans ‹(pl N a).length ≤ N› (q_le hN rfl))
  refine call_ret rfl rfl rfl ?_
  have hbd : f_l_bits.body = [_, _, _, _, _, _, _, _, _, _, _, _, _, _, _, _, _, _] := rfl
  rw [hbd]
  apply rt_next
  · refine s_tup (ss := [.val (.int n), .val (.str "behind")]) (σ₁ := σ) (by rfl) (by rfl) (os_cons (σ₁ := σ) (o_plain (by rfl) ?_) (os_cons (σ₁ := σ) (o_plain (by rfl) ?_) os_nil))
    · repeat' walk_at "e"
    · repeat' walk_at "e"
  simp only [updAll]
  repeat walk_at "i"
  apply rt_next
  · refine s_tup (ss := [.val (.int a), .val (.int b)]) (σ₁ := σ) (by rfl) (by rfl) (os_cons (σ₁ := σ) (o_plain (by rfl) ?_) (os_cons (σ₁ := σ) (o_plain (by rfl) ?_) os_nil))
    · repeat' walk_at "e"
    · repeat' walk_at "e"
  simp only [updAll]
  repeat walk_at "i"
  with_reducible apply rt_ret
  refine x_callB (σ₁ := σ) (by rfl) (by rfl) (xs_cons (σ₁ := σ) ?_ xs_nil) (bi_sumN (f := fun p => 1 <<< p) sF)
  refine x_compF (σ₁ := σ) (g := fun i : Nat => .int i) (q := fun p : Nat => .int (1 <<< p : Nat)) (P := fun p => b.testBit (p % n)) (pl N a) (by rfl) (i_map (p := .list _) (by rfl) (x_callF (by rfl) (by rfl) (xs_cons (σ₁ := σ) (x_name (by rfl) (by walk_at "n")) xs_nil) hP) rfl sP) sP fun p hp => ?_
  have hp := pl_lt hp
  refine turn_if b_name (a_one (t_cmp (σ₁ := σ) (σ₂ := σ) (a := .int ((b >>> (p % n)) &&& 1 : Nat)) (b := .int 1) (by rfl) (x_bin (σ₁ := σ) (σ₂ := σ) (a := .int (b >>> (p % n) : Nat)) (b := .int (1 : Nat)) (x_bin (σ₁ := σ) (σ₂ := σ) (a := .int b) (b := .int (p % n : Nat)) (x_name (by rfl) (by walk_at "n")) ?_ bo_shr) x_int bo_and) x_int ?_)) fun _ => x_bin (σ₁ := σ) (σ₂ := σ) (a := .int (1 : Nat)) (b := .int p) x_int (x_name (by rfl) (by walk_at "n")) (bo_shl (by (with_reducible exact q_ltle ‹_ < _› ‹_› (by decide))) (by decide))
  · exact x_bin (σ₁ := σ) (σ₂ := σ) (a := .int p) (b := .int n) (x_name (by rfl) (by walk_at "n")) (x_name (by rfl) (by walk_at "n")) (bo_mod (by exact q_ne hn))
  · show some ((((b >>> (p % n)) &&& 1 : Nat) : Int) == 1) = _
    rw [Nat.and_one_is_mod, Nat.testBit_eq_decide_div_mod_eq, ← Nat.shiftRight_eq_div_pow]
    congr 1
    by_cases q : b >>> (p % n) % 2 = 1
    · rw [q]; rfl
    · rw [decide_eq_false q, (Nat.mod_two_eq_zero_or_one (b >>> (p % n))).resolve_right q]; rfl
end

/- part X15 -/
-- a name's value
-- an expression's step
-- an if, decided
section
variable {cells : List Int} {m σ n : Nat} {A B F D X R env Bs : PV}
theorem b_override {a b q : Nat} (ha : a < 9223372036854775808) (hb : b < 9223372036854775808) (hn : n = 2 ∨ n = 3) (hq1 : 1 ≤ q) (hq : q ≤ 3) (hA : ∀ σ, callF (tab cells) fns (m + 1) 232 [A, wv n Bs, env] σ = some (.int a, σ)) (hB : ∀ σ, callF (tab cells) fns (m + 1) 232 [B, wv n Bs, env] σ = some (.int b, σ)) (hr : ∀ σ, callF (tab cells) fns (m + 1) 213 [B] σ = some (.int q, σ)) :
    callF (tab cells) fns (m + 2) 232 [.tup [.str "override", A, B], wv n Bs, env] σ = some (.int (((List.range n).map fun k => (if 0 < blk b (n ^ (q - 1)) k then blk b (n ^ (q - 1)) k else blk a (n ^ (q - 1)) k) <<< (k * n ^ (q - 1))).sum : Nat), σ) := by
  have hA := hA σ
  have hB := hB σ
  have hr := hr σ
  have sR : small (List.range n).length = true := by simp only [small, decide_eq_true_eq, List.length_range]; (with_reducible exact q_n ‹_ = 2 ∨ _ = 3› (by decide))
  have hnq : n ^ (q - 1) ≤ 9 := Nat.le_trans (Nat.pow_le_pow_left (show n ≤ 3 by (with_reducible exact q_n3 ‹_›)) (q - 1)) (Nat.pow_le_pow_right (by decide) (show q - 1 ≤ 2 by (with_reducible exact Nat.sub_le_of_le_add ‹_›)))
  have hblk : ∀ {x s k : Nat}, x < 9223372036854775808 → blk x s k < 9223372036854775808 := fun h => Nat.lt_of_le_of_lt Nat.and_le_left (Nat.lt_of_le_of_lt (by rw [Nat.shiftRight_eq_div_pow]; exact Nat.div_le_self _ _) h)
  refine call_ret rfl rfl rfl ?_
  have hbd : f_l_bits.body = [_, _, _, _, _, _, _, _, _, _, _, _, _, _, _, _, _, _] := rfl
  rw [hbd]
  apply rt_next
  · refine s_tup (ss := [.val (.int n), .val (.str "override")]) (σ₁ := σ) (by rfl) (by rfl) (os_cons (σ₁ := σ) (o_plain (by rfl) ?_) (os_cons (σ₁ := σ) (o_plain (by rfl) ?_) os_nil))
    · repeat' walk_at "e"
    · repeat' walk_at "e"
  simp only [updAll]
  repeat walk_at "i"
  apply rt_next
  · refine s_tup (ss := [.val (.int a), .val (.int b)]) (σ₁ := σ) (by rfl) (by rfl) (os_cons (σ₁ := σ) (o_plain (by rfl) ?_) (os_cons (σ₁ := σ) (o_plain (by rfl) ?_) os_nil))
    · repeat' walk_at "e"
    · repeat' walk_at "e"
  simp only [updAll]
  repeat walk_at "i"
  apply rt_next
  · refine s_asg (σ₁ := σ) (by rfl) (o_plain (p := .int (n ^ (q - 1) : Nat)) (by rfl) ?_)
    refine x_bin (σ₁ := σ) (σ₂ := σ) (a := .int n) (b := .int (q - 1 : Nat)) (x_name (by rfl) (by walk_at "n")) ?_ (bo_pow (by exact q_q1 hq) (by (with_reducible exact q_nl ‹_ = 2 ∨ _ = 3› (by decide))))
    refine (x_bin (σ₁ := σ) (σ₂ := σ) (a := .int q) (b := .int 1) ?_ x_int bo_sub).trans ?_
    · repeat' walk_at "e"
    · congr 3; exact q_sub hq1
  apply rt_next
  · refine s_asg (σ₁ := σ) (by rfl) (o_plain (p := .list ((List.range n).map fun k : Nat => .tup [.int (blk a (n ^ (q - 1)) k : Nat), .int (blk b (n ^ (q - 1)) k : Nat)])) (by rfl) ?_)
    refine x_compM (σ₁ := σ) (g := fun i : Nat => .int i) (q := fun k : Nat => .tup [.int (blk a (n ^ (q - 1)) k : Nat), .int (blk b (n ^ (q - 1)) k : Nat)]) (List.range n) (by rfl) (i_map (by rfl) (x_callB (by rfl) (by rfl) (xs_cons (σ₁ := σ) (x_name (by rfl) (by walk_at "n")) xs_nil) (bi_range (i := (n : Int)) ⟨by (with_reducible exact q_c0), by exact q_in hn⟩)) (it_range (by (with_reducible exact q_n ‹_ = 2 ∨ _ = 3› (by decide)))) sR) sR fun k hk => ?_
    have hk := List.mem_range.mp hk
    have hb1 := c_block (cells := cells) (m := m) (σ := σ) (b := a) (size := n ^ (q - 1)) (k := k) (by (with_reducible exact q_le ‹_› (by decide))) (by (with_reducible exact q_nx ‹_ = 2 ∨ _ = 3› ‹_ < _› (by decide)))
    have hb2 := c_block (cells := cells) (m := m) (σ := σ) (b := b) (size := n ^ (q - 1)) (k := k) (by (with_reducible exact q_le ‹_› (by decide))) (by (with_reducible exact q_nx ‹_ = 2 ∨ _ = 3› ‹_ < _› (by decide)))
    apply turn_in
    repeat' walk_at "e"
  repeat walk_at "i"
  with_reducible apply rt_ret
  refine x_callB (σ₁ := σ) (by rfl) (by rfl) (xs_cons (σ₁ := σ) ?_ xs_nil) (bi_sumN (f := fun k => (if 0 < blk b (n ^ (q - 1)) k then blk b (n ^ (q - 1)) k else blk a (n ^ (q - 1)) k) <<< (k * n ^ (q - 1))) sR)
  refine x_compM (σ₁ := σ) (g := fun k : Nat => .tup [.int k, .tup [.int (blk a (n ^ (q - 1)) k : Nat), .int (blk b (n ^ (q - 1)) k : Nat)]]) (q := fun k : Nat => .int ((if 0 < blk b (n ^ (q - 1)) k then blk b (n ^ (q - 1)) k else blk a (n ^ (q - 1)) k) <<< (k * n ^ (q - 1)) : Nat)) (List.range n) (by rfl) ((i_enum (σ₁ := σ) (by rfl) (x_name (by rfl) (by walk_at "n")) (by simpa [small] using sR)).trans ?_) sR fun k hk => ?_
  · rcases hn with rfl | rfl <;> rfl
  have hk := List.mem_range.mp hk
  have hks : k * n ^ (q - 1) ≤ 1000 := Nat.le_trans (Nat.mul_le_mul (show k ≤ 3 by (with_reducible exact q_nx ‹_ = 2 ∨ _ = 3› ‹_ < _› (by decide))) hnq) (by decide)
  have tst : ∀ {ρ : Rho} {nm : NM} {p1 p2 p3 : Pos} {j : Nat}, ρ ("late" : Str) = some (.val (.int (blk b (n ^ (q - 1)) k : Nat))) → evT (tab cells) (callF (tab cells) fns (m + 1)) (j + 2) nm ρ (.Compare (.Name ("late" : Str) p1) [.Gt] [.Constant (.int 0) 0 p2] p3) σ = some (decide (0 < blk b (n ^ (q - 1)) k), σ) := fun h =>
    t_cmp (σ₁ := σ) (σ₂ := σ) (a := .int (blk b (n ^ (q - 1)) k : Nat)) (b := .int 0) (by rfl) (x_name (by rfl) h) x_int (by show some (decide ((0 : Int) < (blk b (n ^ (q - 1)) k : Nat))) = _; rw [decide_eq_decide.mpr Int.natCast_pos])
  refine turn_in (b_pair b_name (b_pair b_name b_name)) a_nil (x_bin (σ₁ := σ) (σ₂ := σ) (a := .int (if 0 < blk b (n ^ (q - 1)) k then blk b (n ^ (q - 1)) k else blk a (n ^ (q - 1)) k : Nat)) (b := .int (k * n ^ (q - 1) : Nat)) ?_ (x_bin (σ₁ := σ) (σ₂ := σ) (a := .int k) (b := .int (n ^ (q - 1) : Nat)) (x_name (by rfl) (by walk_at "n")) (x_name (by rfl) (by walk_at "n")) (bo_mul (by (with_reducible exact q_nxl ‹_ = 2 ∨ _ = 3› ‹_ < _› (by decide))))) (bo_shl hks (by split; exact hblk hb; exact hblk ha)))
  by_cases h0 : 0 < blk b (n ^ (q - 1)) k
  · rw [if_pos h0]
    exact x_ifT (σ₁ := σ) ((tst (by walk_at "n")).trans (by rw [decide_eq_true h0])) (x_name (by rfl) (by walk_at "n"))
  · rw [if_neg h0]
    exact x_ifF (σ₁ := σ) ((tst (by walk_at "n")).trans (by rw [decide_eq_false h0])) (x_name (by rfl) (by walk_at "n"))
theorem blk_at {k : Nat} {f : Nat → PV} (hn : n = 2 ∨ n = 3) (hk : k < n) : index cells σ (.list ((List.range n).map f)) (.int k) = some (f k) := by
  simp only [index]
  rw [if_pos (by simp; exact ⟨q_n hn rfl, hk⟩)]
  simp [hk]
theorem b_ahead {a b q : Nat} (ha : a < 9223372036854775808) (hb : b < 9223372036854775808) (hn : n = 2 ∨ n = 3) (hq1 : 1 ≤ q) (hq : q ≤ 3) (hA : ∀ σ, callF (tab cells) fns (m + 1) 232 [A, wv n Bs, env] σ = some (.int a, σ)) (hB : ∀ σ, callF (tab cells) fns (m + 1) 232 [B, wv n Bs, env] σ = some (.int b, σ)) (hr : ∀ σ, callF (tab cells) fns (m + 1) 213 [B] σ = some (.int q, σ)) :
    callF (tab cells) fns (m + 2) 232 [.tup [.str "ahead", A, B], wv n Bs, env] σ = some (.int ((((List.range n).filter fun k => a.testBit k).map fun k => blk b (n ^ (q - 1)) k <<< (k * n ^ (q - 1))).sum : Nat), σ) := by
  have hA := hA σ
  have hB := hB σ
  have hr := hr σ
  have sR : small (List.range n).length = true := by simp only [small, decide_eq_true_eq, List.length_range]; (with_reducible exact q_n ‹_ = 2 ∨ _ = 3› (by decide))
  have hnq : n ^ (q - 1) ≤ 9 := Nat.le_trans (Nat.pow_le_pow_left (show n ≤ 3 by (with_reducible exact q_n3 ‹_›)) (q - 1)) (Nat.pow_le_pow_right (by decide) (show q - 1 ≤ 2 by (with_reducible exact Nat.sub_le_of_le_add ‹_›)))
  have hblk : ∀ {x s k : Nat}, x < 9223372036854775808 → blk x s k < 9223372036854775808 := fun h => Nat.lt_of_le_of_lt Nat.and_le_left (Nat.lt_of_le_of_lt (by rw [Nat.shiftRight_eq_div_pow]; exact Nat.div_le_self _ _) h)
  have sF : small ((List.range n).filter fun k => a.testBit k).length = true := by have := List.length_filter_le (fun k => a.testBit k) (List.range n); simp only [small, decide_eq_true_eq, List.length_range] at this ⊢; exact Nat.le_trans this (q_n hn rfl)
  refine call_ret rfl rfl rfl ?_
  have hbd : f_l_bits.body = [_, _, _, _, _, _, _, _, _, _, _, _, _, _, _, _, _, _] := rfl
  rw [hbd]
  apply rt_next
  · refine s_tup (ss := [.val (.int n), .val (.str "ahead")]) (σ₁ := σ) (by rfl) (by rfl) (os_cons (σ₁ := σ) (o_plain (by rfl) ?_) (os_cons (σ₁ := σ) (o_plain (by rfl) ?_) os_nil))
    · repeat' walk_at "e"
    · repeat' walk_at "e"
  simp only [updAll]
  repeat walk_at "i"
  apply rt_next
  · refine s_tup (ss := [.val (.int a), .val (.int b)]) (σ₁ := σ) (by rfl) (by rfl) (os_cons (σ₁ := σ) (o_plain (by rfl) ?_) (os_cons (σ₁ := σ) (o_plain (by rfl) ?_) os_nil))
    · repeat' walk_at "e"
    · repeat' walk_at "e"
  simp only [updAll]
  repeat walk_at "i"
  apply rt_next
  · refine s_asg (σ₁ := σ) (by rfl) (o_plain (p := .int (n ^ (q - 1) : Nat)) (by rfl) ?_)
    refine x_bin (σ₁ := σ) (σ₂ := σ) (a := .int n) (b := .int (q - 1 : Nat)) (x_name (by rfl) (by walk_at "n")) ?_ (bo_pow (by exact q_q1 hq) (by (with_reducible exact q_nl ‹_ = 2 ∨ _ = 3› (by decide))))
    refine (x_bin (σ₁ := σ) (σ₂ := σ) (a := .int q) (b := .int 1) ?_ x_int bo_sub).trans ?_
    · repeat' walk_at "e"
    · congr 3; exact q_sub hq1
  apply rt_next
  · refine s_asg (σ₁ := σ) (by rfl) (o_plain (p := .list ((List.range n).map fun k : Nat => .tup [.int (blk a (n ^ (q - 1)) k : Nat), .int (blk b (n ^ (q - 1)) k : Nat)])) (by rfl) ?_)
    refine x_compM (σ₁ := σ) (g := fun i : Nat => .int i) (q := fun k : Nat => .tup [.int (blk a (n ^ (q - 1)) k : Nat), .int (blk b (n ^ (q - 1)) k : Nat)]) (List.range n) (by rfl) (i_map (by rfl) (x_callB (by rfl) (by rfl) (xs_cons (σ₁ := σ) (x_name (by rfl) (by walk_at "n")) xs_nil) (bi_range (i := (n : Int)) ⟨by (with_reducible exact q_c0), by exact q_in hn⟩)) (it_range (by (with_reducible exact q_n ‹_ = 2 ∨ _ = 3› (by decide)))) sR) sR fun k hk => ?_
    have hk := List.mem_range.mp hk
    have hb1 := c_block (cells := cells) (m := m) (σ := σ) (b := a) (size := n ^ (q - 1)) (k := k) (by (with_reducible exact q_le ‹_› (by decide))) (by (with_reducible exact q_nx ‹_ = 2 ∨ _ = 3› ‹_ < _› (by decide)))
    have hb2 := c_block (cells := cells) (m := m) (σ := σ) (b := b) (size := n ^ (q - 1)) (k := k) (by (with_reducible exact q_le ‹_› (by decide))) (by (with_reducible exact q_nx ‹_ = 2 ∨ _ = 3› ‹_ < _› (by decide)))
    apply turn_in
    repeat' walk_at "e"
  repeat walk_at "i"
  with_reducible apply rt_ret
  refine x_callB (σ₁ := σ) (by rfl) (by rfl) (xs_cons (σ₁ := σ) ?_ xs_nil) (bi_sumN (f := fun k => blk b (n ^ (q - 1)) k <<< (k * n ^ (q - 1))) sF)
  refine x_compF (σ₁ := σ) (g := fun i : Nat => .int i) (q := fun k : Nat => .int (blk b (n ^ (q - 1)) k <<< (k * n ^ (q - 1)) : Nat)) (P := fun k => a.testBit k) (List.range n) (by rfl) (i_map (by rfl) (x_callB (by rfl) (by rfl) (xs_cons (σ₁ := σ) (x_name (by rfl) (by walk_at "n")) xs_nil) (bi_range (i := (n : Int)) ⟨by (with_reducible exact q_c0), by exact q_in hn⟩)) (it_range (by (with_reducible exact q_n ‹_ = 2 ∨ _ = 3› (by decide)))) sR) sR fun k hk => ?_
  have hk := List.mem_range.mp hk
  have hks : k * n ^ (q - 1) ≤ 1000 := Nat.le_trans (Nat.mul_le_mul (show k ≤ 3 by (with_reducible exact q_nx ‹_ = 2 ∨ _ = 3› ‹_ < _› (by decide))) hnq) (by decide)
  refine turn_if b_name (a_one (t_cmp (σ₁ := σ) (σ₂ := σ) (a := .int ((a >>> k) &&& 1 : Nat)) (b := .int 1) (by rfl) (x_bin (σ₁ := σ) (σ₂ := σ) (a := .int (a >>> k : Nat)) (b := .int (1 : Nat)) (x_bin (σ₁ := σ) (σ₂ := σ) (a := .int a) (b := .int k) (x_name (by rfl) (by walk_at "n")) (x_name (by rfl) (by walk_at "n")) bo_shr) x_int bo_and) x_int ?_)) fun _ =>
    x_bin (σ₁ := σ) (σ₂ := σ) (a := .int (blk b (n ^ (q - 1)) k : Nat)) (b := .int (k * n ^ (q - 1) : Nat)) ?_ (x_bin (σ₁ := σ) (σ₂ := σ) (a := .int k) (b := .int (n ^ (q - 1) : Nat)) (x_name (by rfl) (by walk_at "n")) (x_name (by rfl) (by walk_at "n")) (bo_mul (by (with_reducible exact q_nxl ‹_ = 2 ∨ _ = 3› ‹_ < _› (by decide))))) (bo_shl hks (hblk hb))
  · show some ((((a >>> k) &&& 1 : Nat) : Int) == 1) = _
    rw [Nat.and_one_is_mod, Nat.testBit_eq_decide_div_mod_eq, ← Nat.shiftRight_eq_div_pow]
    congr 1
    by_cases q : a >>> k % 2 = 1
    · rw [q]; rfl
    · rw [decide_eq_false q, (Nat.mod_two_eq_zero_or_one (a >>> k)).resolve_right q]; rfl
  · refine x_sub (σ₁ := σ) (σ₂ := σ) (a := .tup [.int (blk a (n ^ (q - 1)) k : Nat), .int (blk b (n ^ (q - 1)) k : Nat)]) (b := .int 1) (by rfl) ?_ x_int rfl
    exact x_sub (σ₁ := σ) (σ₂ := σ) (a := .list _) (b := .int k) (by rfl) (x_name (by rfl) (by walk_at "n")) (x_name (by rfl) (by walk_at "n")) (blk_at hn hk)
theorem b_join {N : Nat} {a b q : Nat} (hN : N ≤ 38) (haN : a < 2 ^ N)  (ha : a < 9223372036854775808) (hb : b < 9223372036854775808) (hn : n = 2 ∨ n = 3) (hq1 : 1 ≤ q) (hq : q ≤ 3) (hA : ∀ σ, callF (tab cells) fns (m + 1) 232 [A, wv n Bs, env] σ = some (.int a, σ)) (hB : ∀ σ, callF (tab cells) fns (m + 1) 232 [B, wv n Bs, env] σ = some (.int b, σ)) (hr : ∀ σ, callF (tab cells) fns (m + 1) 213 [B] σ = some (.int q, σ)) :
    callF (tab cells) fns (m + 2) 232 [.tup [.str "join", A, B], wv n Bs, env] σ = some (.int ((pl N a).foldl (fun acc p => acc ||| (blk b (n ^ (q - 1)) (p % n) <<< (p / n * n ^ (q - 1)))) 0 : Nat), σ) := by
  have hA := hA σ
  have hB := hB σ
  have hr := hr σ
  have sR : small (List.range n).length = true := by simp only [small, decide_eq_true_eq, List.length_range]; (with_reducible exact q_n ‹_ = 2 ∨ _ = 3› (by decide))
  have hnq : n ^ (q - 1) ≤ 9 := Nat.le_trans (Nat.pow_le_pow_left (show n ≤ 3 by (with_reducible exact q_n3 ‹_›)) (q - 1)) (Nat.pow_le_pow_right (by decide) (show q - 1 ≤ 2 by (with_reducible exact Nat.sub_le_of_le_add ‹_›)))
  have hblk : ∀ {x s k : Nat}, x < 9223372036854775808 → blk x s k < 9223372036854775808 := fun h => Nat.lt_of_le_of_lt Nat.and_le_left (Nat.lt_of_le_of_lt (by rw [Nat.shiftRight_eq_div_pow]; exact Nat.div_le_self _ _) h)
  have hP := c_places (cells := cells) (m := m) (σ := σ) hN haN
  have sP : small (pl N a).length = true := by have := pl_len (N := N) (b := a); simp only [small, decide_eq_true_eq]; (with_reducible exact q_lele ‹_ ≤ _› ‹_› (by decide))
  refine call_ret rfl rfl rfl ?_
  have hbd : f_l_bits.body = [_, _, _, _, _, _, _, _, _, _, _, _, _, _, _, _, _, _] := rfl
  rw [hbd]
  apply rt_next
  · refine s_tup (ss := [.val (.int n), .val (.str "join")]) (σ₁ := σ) (by rfl) (by rfl) (os_cons (σ₁ := σ) (o_plain (by rfl) ?_) (os_cons (σ₁ := σ) (o_plain (by rfl) ?_) os_nil))
    · repeat' walk_at "e"
    · repeat' walk_at "e"
  simp only [updAll]
  repeat walk_at "i"
  apply rt_next
  · refine s_tup (ss := [.val (.int a), .val (.int b)]) (σ₁ := σ) (by rfl) (by rfl) (os_cons (σ₁ := σ) (o_plain (by rfl) ?_) (os_cons (σ₁ := σ) (o_plain (by rfl) ?_) os_nil))
    · repeat' walk_at "e"
    · repeat' walk_at "e"
  simp only [updAll]
  repeat walk_at "i"
  apply rt_next
  · refine s_asg (σ₁ := σ) (by rfl) (o_plain (p := .int (n ^ (q - 1) : Nat)) (by rfl) ?_)
    refine x_bin (σ₁ := σ) (σ₂ := σ) (a := .int n) (b := .int (q - 1 : Nat)) (x_name (by rfl) (by walk_at "n")) ?_ (bo_pow (by exact q_q1 hq) (by (with_reducible exact q_nl ‹_ = 2 ∨ _ = 3› (by decide))))
    refine (x_bin (σ₁ := σ) (σ₂ := σ) (a := .int q) (b := .int 1) ?_ x_int bo_sub).trans ?_
    · repeat' walk_at "e"
    · congr 3; exact q_sub hq1
  apply rt_next
  · refine s_asg (σ₁ := σ) (by rfl) (o_plain (p := .list ((List.range n).map fun k : Nat => .tup [.int (blk a (n ^ (q - 1)) k : Nat), .int (blk b (n ^ (q - 1)) k : Nat)])) (by rfl) ?_)
    refine x_compM (σ₁ := σ) (g := fun i : Nat => .int i) (q := fun k : Nat => .tup [.int (blk a (n ^ (q - 1)) k : Nat), .int (blk b (n ^ (q - 1)) k : Nat)]) (List.range n) (by rfl) (i_map (by rfl) (x_callB (by rfl) (by rfl) (xs_cons (σ₁ := σ) (x_name (by rfl) (by walk_at "n")) xs_nil) (bi_range (i := (n : Int)) ⟨by (with_reducible exact q_c0), by exact q_in hn⟩)) (it_range (by (with_reducible exact q_n ‹_ = 2 ∨ _ = 3› (by decide)))) sR) sR fun k hk => ?_
    have hk := List.mem_range.mp hk
    have hb1 := c_block (cells := cells) (m := m) (σ := σ) (b := a) (size := n ^ (q - 1)) (k := k) (by (with_reducible exact q_le ‹_› (by decide))) (by (with_reducible exact q_nx ‹_ = 2 ∨ _ = 3› ‹_ < _› (by decide)))
    have hb2 := c_block (cells := cells) (m := m) (σ := σ) (b := b) (size := n ^ (q - 1)) (k := k) (by (with_reducible exact q_le ‹_› (by decide))) (by (with_reducible exact q_nx ‹_ = 2 ∨ _ = 3› ‹_ < _› (by decide)))
    apply turn_in
    repeat' walk_at "e"
  repeat walk_at "i"
  apply rt_next
  · exact s_asg (by rfl) (o_plain (by rfl) x_int)
  refine rt_for (g := fun p : Nat => .int p) (L := pl N a) (σ₁ := σ) (fun pre ρ => (ρ ("n" : Str) = some (.val (.int n)) ∧ ρ ("size" : Str) = some (.val (.int (n ^ (q - 1) : Nat)))) ∧ ρ ("blocks" : Str) = some (.val (.list ((List.range n).map fun k : Nat => .tup [.int (blk a (n ^ (q - 1)) k : Nat), .int (blk b (n ^ (q - 1)) k : Nat)]))) ∧ ρ ("found" : Str) = some (.val (.int (pre.foldl (fun acc p => acc ||| (blk b (n ^ (q - 1)) (p % n) <<< (p / n * n ^ (q - 1)))) 0 : Nat)))) (by rfl)
    (i_map (p := .list _) (by rfl) (x_callF (by rfl) (by rfl) (xs_cons (σ₁ := σ) (x_name (by rfl) (by walk_at "n")) xs_nil) hP) rfl sP) ⟨⟨by walk_at "n", by walk_at "n"⟩, by walk_at "n", by walk_at "n"⟩ (fun pre p q' ρ hd ⟨⟨j1, j2⟩, j3, j4⟩ => ?_) (fun ρ' ⟨_, _, j4⟩ => ?_)
  · have hp : p < N := pl_lt (b := a) (by rw [← hd]; simp)
    have hpn : p % n < n := Nat.mod_lt _ (by (with_reducible exact q_np ‹_›))
    have hpd : p / n ≤ 38 := Nat.le_trans (Nat.div_le_self _ _) (by (with_reducible exact q_ltle ‹_ < _› ‹_› (by decide)))
    have hks : p / n * n ^ (q - 1) ≤ 1000 := Nat.le_trans (Nat.mul_le_mul hpd hnq) (by decide)
    refine ⟨_, f_turn b_name (ss_next (s_asg (σ₁ := σ) (by rfl) (o_plain (p := .int (pre.foldl (fun acc p => acc ||| (blk b (n ^ (q - 1)) (p % n) <<< (p / n * n ^ (q - 1)))) 0 ||| (blk b (n ^ (q - 1)) (p % n) <<< (p / n * n ^ (q - 1))) : Nat)) (by rfl) ?_)) ss_nil), ⟨by walk_at "n", by walk_at "n"⟩, by walk_at "n", ?_⟩
    · refine x_bin (σ₁ := σ) (σ₂ := σ) (a := .int _) (b := .int (blk b (n ^ (q - 1)) (p % n) <<< (p / n * n ^ (q - 1)) : Nat)) (x_name (by rfl) (by walk_at "n")) ?_ bo_or
      refine x_bin (σ₁ := σ) (σ₂ := σ) (a := .int (blk b (n ^ (q - 1)) (p % n) : Nat)) (b := .int (p / n * n ^ (q - 1) : Nat)) ?_ ?_ (bo_shl hks (hblk hb))
      · refine x_sub (σ₁ := σ) (σ₂ := σ) (a := .tup [.int (blk a (n ^ (q - 1)) (p % n) : Nat), .int (blk b (n ^ (q - 1)) (p % n) : Nat)]) (b := .int 1) (by rfl) ?_ x_int rfl
        exact x_sub (σ₁ := σ) (σ₂ := σ) (a := .list _) (b := .int (p % n : Nat)) (by rfl) (x_name (by rfl) (by walk_at "n")) (x_bin (σ₁ := σ) (σ₂ := σ) (a := .int p) (b := .int n) (x_name (by rfl) (by walk_at "n")) (x_name (by rfl) (by walk_at "n")) (bo_mod (by exact q_ne hn))) (blk_at hn hpn)
      · exact x_bin (σ₁ := σ) (σ₂ := σ) (a := .int (p / n : Nat)) (b := .int (n ^ (q - 1) : Nat)) (x_bin (σ₁ := σ) (σ₂ := σ) (a := .int p) (b := .int n) (x_name (by rfl) (by walk_at "n")) (x_name (by rfl) (by walk_at "n")) (bo_div (by exact q_ne hn) (by (with_reducible exact q_ltlt ‹_ < _› ‹_› (by decide))) (by (with_reducible exact q_nl ‹_ = 2 ∨ _ = 3› (by decide))))) (x_name (by rfl) (by walk_at "n")) (bo_mul (by (with_reducible exact q_lt ‹_ ≤ _› (by decide))))
    · rw [List.foldl_append]; exact r_upd
  · with_reducible apply rt_ret
    exact x_name (by rfl) (by walk_at "n")
end

/- part X16 -/
-- a name's value
-- an expression's step
-- an if, decided
section
variable {cells : List Int} {m σ n : Nat} {A B F D X R env Bs : PV}
theorem h_not {b : Bool} (hF : ∀ σ, callF (tab cells) fns m 246 [F, wv n Bs, env] σ = some (.bool b, σ)) : callF (tab cells) fns (m + 1) 246 [.tup [.str "not", F], wv n Bs, env] σ = some (.bool (!b), σ) := by
  have hF := hF σ
  refine call_ret rfl rfl rfl ?_
  have hbd : f_l_holds.body = [_, _, _, _] := rfl
  rw [hbd]
  repeat walk_at "i"
  with_reducible apply rt_ret
  apply x_not
  repeat' walk_at "e"
theorem h_lt {k : Int} {a N : Nat} (hN : N ≤ 38) (ha : a < 2 ^ N) (hA : ∀ σ, callF (tab cells) fns (m + 1) 232 [A, wv n Bs, env] σ = some (.int a, σ)) : callF (tab cells) fns (m + 2) 246 [.tup [.str "lt", .tup [.str "num", .int k], .tup [.str "count", A]], wv n Bs, env] σ = some (.bool (decide (k < (pl N a).length)), σ) := by
  have hA := hA σ
  have hP := c_places (cells := cells) (m := m) (σ := σ) hN ha
  have hlen : builtinP ("len" : Str) [.list ((pl N a).map fun p : Nat => PV.int p)] = some (.int (pl N a).length) := by
    have := pl_len (N := N) (b := a)
    rw [bi_len (by simp only [small, decide_eq_true_eq, List.length_map]; (with_reducible exact q_lele ‹_ ≤ _› ‹_› (by decide))), List.length_map]
  refine call_ret rfl rfl rfl ?_
  have hbd : f_l_holds.body = [_, _, _, _] := rfl
  rw [hbd]
  repeat walk_at "i"
  with_reducible apply rt_ret
  repeat' walk_at "e"
theorem h_in {a b : Nat} (hA : ∀ σ, callF (tab cells) fns m 232 [A, wv n Bs, env] σ = some (.int a, σ)) (hB : ∀ σ, callF (tab cells) fns m 232 [B, wv n Bs, env] σ = some (.int b, σ)) : callF (tab cells) fns (m + 1) 246 [.tup [.str "in", A, B], wv n Bs, env] σ = some (.bool (decide (a - (a &&& b) = 0)), σ) := by
  have hA := hA σ
  have hB := hB σ
  refine call_ret rfl rfl rfl ?_
  have hbd : f_l_holds.body = [_, _, _, _] := rfl
  rw [hbd]
  repeat walk_at "i"
  with_reducible apply rt_ret
  refine x_cmp (σ₁ := σ) (σ₂ := σ) (a := .int (a - (a &&& b) : Nat)) (b := .int 0) (by rfl) (x_bin (σ₁ := σ) (σ₂ := σ) (a := .int a) (b := .int (Builtin.bitNot b)) ?_ ?_ bo_andnot) x_int ?_
  · repeat' walk_at "e"
  · apply x_inv
    repeat' walk_at "e"
  · show some (((a - (a &&& b) : Nat) : Int) == 0) = _
    generalize a - (a &&& b) = c
    cases c <;> rfl
theorem h_some {a : Nat} (hA : ∀ σ, callF (tab cells) fns m 232 [A, wv n Bs, env] σ = some (.int a, σ)) : callF (tab cells) fns (m + 1) 246 [.tup [.str "some", A], wv n Bs, env] σ = some (.bool (decide (0 < a)), σ) := by
  have hA := hA σ
  refine call_ret rfl rfl rfl ?_
  have hbd : f_l_holds.body = [_, _, _, _] := rfl
  rw [hbd]
  repeat walk_at "i"
  with_reducible apply rt_ret
  refine x_cmp (σ₁ := σ) (σ₂ := σ) (a := .int a) (b := .int 0) (by rfl) ?_ x_int ?_
  · repeat' walk_at "e"
  · show some (decide ((0 : Int) < a)) = _
    rw [decide_eq_decide.mpr Int.natCast_pos]

theorem ch_nil {t : Bool} {p : Nat} (hp : p ≤ 100) (hF : ∀ σ, callF (tab cells) fns m 246 [F, wv n Bs, env] σ = some (.bool t, σ)) : callF (tab cells) fns (m + 1) 239 [.tup [], F, wv n Bs, env, .int p] σ = some (.int (if t then 1 <<< p else 0 : Nat), σ) := by
  have hF := hF σ
  refine call_ret rfl rfl rfl ?_
  have hbd : f_l_chosen.body = [_, _, _, _] := rfl
  rw [hbd]
  repeat walk_at "i"
  with_reducible apply rt_ret
  cases t
  · refine x_ifF (σ₁ := σ) ?_ x_int
    apply t_call
    repeat' walk_at "e"
  · refine x_ifT (σ₁ := σ) ?_ ?_
    · apply t_call
      repeat' walk_at "e"
    · exact x_bin (σ₁ := σ) (σ₂ := σ) (a := .int (1 : Nat)) (b := .int p) x_int (x_name (by rfl) (by walk_at "n")) (bo_shl (by (with_reducible exact q_le ‹_› (by decide))) (by decide))

theorem ch_cons {x : Str} {E : PV} {ds : List PV} {en : En} {p d N : Nat} {G : Nat → Nat} (hds : ds.length ≤ 10) (hks : en.ks.length ≤ 100) (hp : p ≤ 100) (hn : n ≤ 3) (hN : N ≤ 10) (hd : d < 2 ^ N) (hE : ∀ σ, callF (tab cells) fns (m + 1) 232 [E, wv n Bs, encEl en] σ = some (.int d, σ))
    (hC : ∀ a ∈ pl N d, ∀ σ, callF (tab cells) fns (m + 1) 239 [.tup ds, F, wv n Bs, encEl (en.set x a), .int (p * n + a : Nat)] σ = some (.int (G a : Nat), σ)) :
    callF (tab cells) fns (m + 2) 239 [.tup (.tup [.str x, E] :: ds), F, wv n Bs, encEl en, .int p] σ = some (.int ((pl N d).foldl (fun acc a => acc ||| G a) 0 : Nat), σ) := by
  have hE := hE σ
  have hP := c_places (cells := cells) (m := m) (σ := σ) (N := N) (by (with_reducible exact q_le ‹_› (by decide))) hd
  have sP : small (pl N d).length = true := by have := pl_len (N := N) (b := d); simp only [small, decide_eq_true_eq]; (with_reducible exact q_lele ‹_ ≤ _› ‹_› (by decide))
  have sD : small (PV.tup [.str x, E] :: ds).length = true := by simp only [small, decide_eq_true_eq, List.length_cons]; (with_reducible exact q_a5 ‹_› (by decide))
  have sK : small en.ks.length = true := by simp only [small, decide_eq_true_eq]; (with_reducible exact q_le ‹_› (by decide))
  have h00 : (false || !small en.ks.length) = false := by rw [sK]; rfl
  have i0 : index (tab cells).cells σ (.tup (.tup [.str x, E] :: ds)) (.int 0) = some (.tup [.str x, E]) := by
    show idxAt _ _ = _
    unfold idxAt
    rw [if_neg (by simp only [List.length_cons]; exact Nat.not_lt.mpr (q_a5 hds rfl)), if_pos (by simp only [List.length_cons]; (simp))]; rfl
  refine call_ret rfl rfl rfl ?_
  have hbd : f_l_chosen.body = [_, _, _, _] := rfl
  rw [hbd]
  refine rt_ifF (σ₁ := σ) (t_cmp (σ₁ := σ) (σ₂ := σ) (a := .tup (.tup [.str x, E] :: ds)) (b := .tup []) (by rfl) (x_name (by rfl) (by walk_at "n")) (x_tuple (by rfl) xs_nil) (by rw [eq_nil]; rfl)) ?_
  apply rt_next
  · exact s_asg (by rfl) (o_plain (by rfl) x_int)
  refine rt_for (g := fun p : Nat => .int p) (L := pl N d) (σ₁ := σ) (fun pre ρ => ((ρ ("decls" : Str) = some (.val (.tup (.tup [.str x, E] :: ds))) ∧ ρ ("f" : Str) = some (.val F)) ∧ (ρ ("world" : Str) = some (.val (wv n Bs)) ∧ ρ ("env" : Str) = some (.val (.dS en.ks (en.as.map .int))))) ∧ ρ ("place" : Str) = some (.val (.int p)) ∧ ρ ("found" : Str) = some (.val (.int (pre.foldl (fun acc a => acc ||| G a) 0 : Nat)))) (by rfl)
    (i_map (p := .list _) (by rfl) (x_callF (by rfl) (by rfl) (xs_cons (σ₁ := σ) (x_callF (σ₁ := σ) (by rfl) (by rfl) (xs_cons (σ₁ := σ) (x_sub (σ₁ := σ) (σ₂ := σ) (a := .tup [.str x, E]) (b := .int 1) (by rfl) (x_sub (σ₁ := σ) (σ₂ := σ) (a := .tup (.tup [.str x, E] :: ds)) (b := .int 0) (by rfl) (x_name (by rfl) (by walk_at "n")) x_int i0) x_int rfl) (xs_cons (σ₁ := σ) (x_name (by rfl) (by walk_at "n")) (xs_cons (σ₁ := σ) (x_name (by rfl) (by walk_at "n")) xs_nil))) hE) xs_nil) hP) rfl sP)
    ⟨⟨⟨by walk_at "n", by walk_at "n"⟩, ⟨by walk_at "n", by walk_at "n"⟩⟩, by walk_at "n", by walk_at "n"⟩ (fun pre a q' ρ hda ⟨⟨⟨j1, j2⟩, ⟨j3, j4⟩⟩, j5, j6⟩ => ?_) (fun ρ' ⟨_, _, j6⟩ => ?_)
  · have ha : a ∈ pl N d := by rw [← hda]; simp
    have haN := pl_lt ha
    have hC := hC a ha σ
    have pk := putK_map (f := PV.int) (x := x) (a := (a : Int)) (e := en)
    refine ⟨_, f_turn b_name (ss_next (s_asg (by rfl) (o_copy (ks := en.ks) (vs := en.as.map .int) (by rfl) (x_name (by rfl) (by walk_at "n")) sK)) (ss_next (s_dct (k := x) (p := .int a) (ks := en.ks) (vs := en.as.map .int) (σ₁ := σ) (σ₂ := σ) (by rfl) (x_name (by rfl) (by walk_at "n")) (by walk_at "n") h00 ?_)
      (ss_next (s_asg (σ₁ := σ) (by rfl) (o_plain (p := .int (pre.foldl (fun acc a => acc ||| G a) 0 ||| G a : Nat)) (by rfl) ?_)) ss_nil))), ⟨⟨by walk_at "n", by walk_at "n"⟩, ⟨by walk_at "n", by walk_at "n"⟩⟩, by walk_at "n", ?_⟩
    · exact x_sub (σ₁ := σ) (σ₂ := σ) (a := .tup [.str x, E]) (b := .int 0) (by rfl) (x_sub (σ₁ := σ) (σ₂ := σ) (a := .tup (.tup [.str x, E] :: ds)) (b := .int 0) (by rfl) (x_name (by rfl) (by walk_at "n")) x_int i0) x_int rfl
    · refine x_bin (σ₁ := σ) (σ₂ := σ) (a := .int _) (b := .int (G a : Nat)) (x_name (by rfl) (by walk_at "n")) ?_ bo_or
      refine x_callF (σ₁ := σ) (ps := [.tup ds, F, wv n Bs, encEl (en.set x a), .int (p * n + a : Nat)]) (by rfl) (by rfl) (xs_cons (σ₁ := σ) ?_ (xs_cons (σ₁ := σ) (x_name (by rfl) (by walk_at "n")) (xs_cons (σ₁ := σ) (x_name (by rfl) (by walk_at "n")) (xs_cons (σ₁ := σ) ?_ (xs_cons (σ₁ := σ) ?_ xs_nil))))) hC
      · refine (x_slice (σ₁ := σ) (l := .tup [.str x, E] :: ds) (x_name (by rfl) (by walk_at "n")) (by rfl) (by rfl) sD).trans ?_
        rw [slice_rest]; rfl
      · unfold encEl
        rw [← pk.1, ← pk.2]
        exact x_name (by rfl) (by walk_at "n")
      · refine x_bin (σ₁ := σ) (σ₂ := σ) (a := .int (p * n : Nat)) (b := .int a) ?_ (x_name (by rfl) (by walk_at "n")) (by rw [bo_add]; rfl)
        exact x_bin (σ₁ := σ) (σ₂ := σ) (a := .int p) (b := .int n) (x_name (by rfl) (by walk_at "n")) (x_sub (σ₁ := σ) (σ₂ := σ) (a := wv n Bs) (b := .int 0) (by rfl) (x_name (by rfl) (by walk_at "n")) x_int rfl) (bo_mul (by (with_reducible exact q_lt ‹_ ≤ _› (by decide))))
    · rw [List.foldl_append]; exact r_upd
  · with_reducible apply rt_ret
    exact x_name (by rfl) (by walk_at "n")
end

/- part X17 -/
-- a name's value
-- an expression's step
-- an if, decided
section
variable {n r : Nat}
theorem val_fold : ∀ (t : List Int) (s : Nat), t.foldl (fun p a => p * n + a.toNat) s = s * n ^ t.length + val n t
  | [], s => by simp [val]
  | a :: t, s => by
    unfold val
    rw [List.foldl_cons, List.foldl_cons, val_fold t, val_fold t, List.length_cons, Nat.pow_succ]
    rw [Nat.zero_mul, Nat.zero_add, Nat.add_mul, Nat.mul_assoc, Nat.mul_comm n, Nat.add_assoc]
theorem val_app {u v : List Int} : val n (u ++ v) = val n u * n ^ v.length + val n v := by
  have h : val n (u ++ v) = (u ++ v).foldl (fun p a => p * n + a.toNat) 0 := rfl
  rw [h, List.foldl_append, val_fold v]; rfl
theorem val_one {a : Int} : val n [a] = a.toNat := by simp [val]
theorem val_cons {a : Int} {t : List Int} : val n (a :: t) = a.toNat * n ^ t.length + val n t := by
  rw [show a :: t = [a] ++ t from rfl, val_app, val_one]
theorem val_snoc {a : Int} {t : List Int} : val n (t ++ [a]) = val n t * n + a.toNat := by rw [val_app, val_one]; simp
theorem cons_allT {a : Int} {t : List Int} : a :: t ∈ allT n (r + 1) ↔ (0 ≤ a ∧ a < n) ∧ t ∈ allT n r := by
  rw [mem_allT, mem_allT]
  constructor
  · rintro ⟨h1, h2⟩; exact ⟨h2 a (.head _), by simpa using h1, fun b hb => h2 b (.tail _ hb)⟩
  · rintro ⟨h1, h2, h3⟩; exact ⟨by simp [h2], fun b hb => by rcases List.mem_cons.mp hb with rfl | hb; exact h1; exact h3 b hb⟩
theorem val_lt : ∀ {r : Nat} {t : List Int}, t ∈ allT n r → val n t < n ^ r
  | 0, t, h => by rw [List.mem_singleton.mp h]; simp [val]
  | r + 1, [], h => by have := (mem_allT.mp h).1; simp at this
  | r + 1, a :: t, h => by
    obtain ⟨h1, h2⟩ := cons_allT.mp h
    have h3 := val_lt h2
    rw [val_cons, (mem_allT.mp h2).1, Nat.pow_succ, Nat.mul_comm (n ^ r)]
    have : a.toNat + 1 ≤ n := by exact q_tn h1
    have := Nat.mul_le_mul_right (n ^ r) this
    rw [Nat.add_mul, Nat.one_mul] at this
    exact Nat.lt_of_lt_of_le (Nat.add_lt_add_left h3 _) this
theorem val_mono : ∀ {r : Nat} {t u : List Int}, t ∈ allT n r → u ∈ allT n r → ltL t u = true → val n t < val n u
  | 0, t, u, h1, h2, h => by rw [List.mem_singleton.mp h1, List.mem_singleton.mp h2] at h; simp [ltL] at h
  | r + 1, [], u, h1, _, _ => by have := (mem_allT.mp h1).1; simp at this
  | r + 1, a :: t, [], _, h2, _ => by have := (mem_allT.mp h2).1; simp at this
  | r + 1, a :: t, b :: u, h1, h2, h => by
    refine Classical.byContradiction fun hG => ?_
    obtain ⟨a1, a2⟩ := cons_allT.mp h1
    obtain ⟨b1, b2⟩ := cons_allT.mp h2
    refine hG ?_
    have ta := val_lt a2
    rw [val_cons, val_cons, (mem_allT.mp a2).1, (mem_allT.mp b2).1]
    simp only [ltL] at h
    by_cases e : a = b
    · subst e
      simp at h
      have := val_mono a2 b2 h; (with_reducible exact Nat.add_lt_add_left ‹_› _)
    · simp [e] at h
      have : a.toNat + 1 ≤ b.toNat := by exact q_tt a1.1 b1.1 h
      have := Nat.mul_le_mul_right (n ^ r) this
      rw [Nat.add_mul, Nat.one_mul] at this
      exact Nat.lt_of_lt_of_le (Nat.add_lt_add_left ta _) (Nat.le_trans this (Nat.le_add_right _ _))
theorem val_inj {t u : List Int} (h1 : t ∈ allT n r) (h2 : u ∈ allT n r) (h : val n t = val n u) : t = u := by
  by_cases e : t = u
  · exact e
  · rcases lt_total e with q | q
    · have := val_mono h1 h2 q; (with_reducible exact absurd ‹_ = _› (Nat.ne_of_lt ‹_›))
    · have := val_mono h2 h1 q; (with_reducible exact absurd ‹_ = _› (Nat.ne_of_gt ‹_›))
theorem dg_mem (hn : 0 < n) (p : Nat) : ∀ r, dg n r p ∈ allT n r
  | 0 => by simp [dg, allT]
  | r + 1 => cons_allT.mpr ⟨⟨by (with_reducible exact q_c0), by have := Nat.mod_lt (p / n ^ r) hn; (with_reducible exact q_c1 ‹_›)⟩, dg_mem hn p r⟩
theorem val_dg (hn : 0 < n) (p : Nat) : ∀ r, val n (dg n r p) = p % n ^ r
  | 0 => by simp [dg, val, Nat.mod_one]
  | r + 1 => by
    rw [dg, val_cons, (mem_allT.mp (dg_mem hn p r)).1, val_dg hn p r, Nat.mod_pow_succ, Int.toNat_natCast, Nat.mul_comm]; (with_reducible exact Nat.add_comm _ _)
theorem dg_val (hn : 0 < n) {t : List Int} (h : t ∈ allT n r) : dg n r (val n t) = t :=
  val_inj (dg_mem hn _ r) h (by rw [val_dg hn, Nat.mod_eq_of_lt (val_lt h)])

/-- the bits of b are the places of the tuples that P takes -/
noncomputable def Rp (n r b : Nat) (P : List Int → Bool) : Prop := ∀ j, b.testBit j = true ↔ ∃ t ∈ allT n r, val n t = j ∧ P t = true
variable {b : Nat} {P Q : List Int → Bool}
theorem Rp.at (h : Rp n r b P) {t : List Int} (ht : t ∈ allT n r) : b.testBit (val n t) = P t := by
  refine Bool.eq_iff_iff.mpr ((h _).trans ⟨?_, fun q => ⟨t, ht, rfl, q⟩⟩)
  rintro ⟨u, hu, e, hp⟩
  rw [← val_inj hu ht e]; exact hp
theorem Rp.lt (h : Rp n r b P) : b < 2 ^ (n ^ r) := by
  refine Nat.lt_pow_two_of_testBit b fun i hi => ?_
  rw [Bool.eq_false_iff]
  intro q
  refine Classical.byContradiction fun hG => ?_
  obtain ⟨t, ht, e, _⟩ := (h i).mp q
  refine hG ?_
  have := val_lt ht; exact absurd (Nat.lt_of_le_of_lt (Nat.le_of_eq e.symm) this) (Nat.not_lt.mpr hi)
theorem Rp.of_lt (hn : 0 < n) (h : b < 2 ^ (n ^ r)) : Rp n r b (fun t => b.testBit (val n t)) := fun j => by
  constructor
  · intro q
    have hj : j < n ^ r := by
      rcases Nat.lt_or_ge j (n ^ r) with q' | q'
      · exact q'
      · rw [Nat.testBit_lt_two_pow (Nat.lt_of_lt_of_le h (Nat.pow_le_pow_right (by decide) q'))] at q; cases q
    have e : val n (dg n r j) = j := by rw [val_dg hn, Nat.mod_eq_of_lt hj]
    exact ⟨dg n r j, dg_mem hn j r, e, by dsimp only; rw [e]; exact q⟩
  · rintro ⟨t, _, rfl, q⟩; exact q
theorem Rp.congr (h : Rp n r b P) (e : ∀ t ∈ allT n r, P t = Q t) : Rp n r b Q := fun j => (h j).trans ⟨fun ⟨t, a, b, c⟩ => ⟨t, a, b, by rw [← e t a]; exact c⟩, fun ⟨t, a, b, c⟩ => ⟨t, a, b, by rw [e t a]; exact c⟩⟩
theorem mem_pl {N p : Nat} : p ∈ pl N b ↔ p < N ∧ b.testBit p = true := by unfold pl; rw [List.mem_filter, List.mem_range]
theorem pl_sorted (N b : Nat) : (pl N b).Pairwise (· < ·) := by unfold pl; exact List.Pairwise.filter _ List.pairwise_lt_range
theorem pl_nodup (N b : Nat) : (pl N b).Nodup := (pl_sorted N b).imp fun h => Nat.ne_of_lt h
theorem Rp.tuples (hn : 0 < n) (h : Rp n r b P) : (pl (n ^ r) b).map (dg n r) = TL n r P := by
  refine TL_eq ?_ fun t => ?_
  · rw [Sd, List.pairwise_map]
    refine (pl_sorted (n ^ r) b).imp_of_mem fun {p q} hp hq hpq => ?_
    have hp := (mem_pl.mp hp).1
    have hq := (mem_pl.mp hq).1
    have ep : val n (dg n r p) = p := by rw [val_dg hn, Nat.mod_eq_of_lt hp]
    have eq : val n (dg n r q) = q := by rw [val_dg hn, Nat.mod_eq_of_lt hq]
    have ne : dg n r p ≠ dg n r q := fun e => by rw [e, eq] at ep; exact absurd ep.symm (Nat.ne_of_lt hpq)
    refine (lt_total ne).resolve_right fun q' => ?_
    have := val_mono (dg_mem hn q r) (dg_mem hn p r) q'
    exact absurd (Nat.lt_of_le_of_lt (Nat.le_of_eq eq.symm) (Nat.lt_of_lt_of_le this (Nat.le_of_eq ep))) (Nat.lt_asymm hpq)
  · rw [List.mem_map]
    constructor
    · rintro ⟨p, hp, rfl⟩
      obtain ⟨h1, h2⟩ := mem_pl.mp hp
      have ep : val n (dg n r p) = p := by rw [val_dg hn, Nat.mod_eq_of_lt h1]
      exact ⟨dg_mem hn p r, by rw [← h.at (dg_mem hn p r), ep]; exact h2⟩
    · rintro ⟨h1, h2⟩
      exact ⟨val n t, mem_pl.mpr ⟨val_lt h1, by rw [h.at h1]; exact h2⟩, dg_val hn h1⟩

/- sums of bits that lie apart -/
theorem disj_add : ∀ (j a b : Nat), (∀ i, ¬(a.testBit i = true ∧ b.testBit i = true)) → (a + b).testBit j = (a.testBit j || b.testBit j)
  | 0, a, b, h => by
    have h0 := h 0
    simp only [Nat.testBit_zero, decide_eq_true_eq] at h0 ⊢
    have ha := Nat.mod_two_eq_zero_or_one a
    have hb := Nat.mod_two_eq_zero_or_one b
    rcases ha with ha | ha <;> rcases hb with hb | hb
    · simp [Nat.add_mod, ha, hb]
    · simp [Nat.add_mod, ha, hb]
    · simp [Nat.add_mod, ha, hb]
    · exact absurd ⟨ha, hb⟩ h0
  | j + 1, a, b, h => by
    have h0 := h 0
    simp only [Nat.testBit_zero, decide_eq_true_eq] at h0
    have e : (a + b) / 2 = a / 2 + b / 2 := by omega
    rw [Nat.testBit_succ, Nat.testBit_succ, Nat.testBit_succ, e]
    exact disj_add j (a / 2) (b / 2) fun i => by have := h (i + 1); rwa [Nat.testBit_succ, Nat.testBit_succ] at this
theorem shl_bit {c k s j : Nat} (hs : 0 < s) (hc : c < 2 ^ s) : (c <<< (k * s)).testBit j = true ↔ j / s = k ∧ c.testBit (j % s) = true := by
  rw [Nat.testBit_shiftLeft, Bool.and_eq_true, decide_eq_true_eq]
  constructor
  · rintro ⟨h1, h2⟩
    have h3 : j - k * s < s := by
      rcases Nat.lt_or_ge (j - k * s) s with q | q
      · exact q
      · rw [Nat.testBit_lt_two_pow (Nat.lt_of_lt_of_le hc (Nat.pow_le_pow_right (by decide) q))] at h2; cases h2
    have e : j = (j - k * s) + s * k := by rw [Nat.mul_comm s]; (with_reducible exact (Nat.sub_add_cancel ‹_›).symm)
    have e1 : j / s = k := by rw [e, Nat.add_mul_div_left _ _ hs, Nat.div_eq_of_lt h3, Nat.zero_add]
    have e2 : j % s = j - k * s := by
      have := Nat.div_add_mod j s
      rw [e1, Nat.mul_comm] at this; exact (q_sum this).symm
    exact ⟨e1, by rw [e2]; exact h2⟩
  · rintro ⟨rfl, h2⟩
    have := Nat.div_add_mod j s
    rw [Nat.mul_comm] at this
    exact ⟨by exact Nat.le.intro this, by rw [show j - j / s * s = j % s by (with_reducible exact q_sum ‹_›)]; exact h2⟩
theorem sum_bits {c : Nat → Nat} {s : Nat} (hs : 0 < s) : ∀ (L : List Nat), L.Nodup → (∀ k ∈ L, c k < 2 ^ s) → ∀ j, ((L.map fun k => c k <<< (k * s)).sum).testBit j = true ↔ ∃ k ∈ L, j / s = k ∧ (c k).testBit (j % s) = true
  | [], _, _, j => by simp
  | k :: L, nd, hc, j => by
    obtain ⟨n1, n2⟩ := List.nodup_cons.mp nd
    have ih := sum_bits hs L n2 fun k' h => hc k' (.tail _ h)
    have hk := hc k (.head _)
    rw [List.map_cons, List.sum_cons, disj_add j _ _ (fun i ⟨q1, q2⟩ => by
      refine Classical.byContradiction fun hG => ?_
      obtain ⟨e1, _⟩ := (shl_bit hs hk).mp q1
      obtain ⟨k', hk', e2, _⟩ := (ih i).mp q2
      refine hG ?_
      exact n1 (by rw [← e1, e2]; exact hk')), Bool.or_eq_true, shl_bit hs hk, ih j]
    constructor
    · rintro (⟨h1, h2⟩ | ⟨k', h1, h2, h3⟩)
      · exact ⟨k, .head _, h1, h2⟩
      · exact ⟨k', .tail _ h1, h2, h3⟩
    · rintro ⟨k', h1, h2, h3⟩
      rcases List.mem_cons.mp h1 with rfl | h1
      · exact .inl ⟨h2, h3⟩
      · exact .inr ⟨k', h1, h2, h3⟩
theorem sum_pows {L : List Nat} (nd : L.Nodup) (j : Nat) : ((L.map fun p => 1 <<< p).sum).testBit j = true ↔ j ∈ L := by
  have := sum_bits (c := fun _ => 1) (s := 1) (by decide) L nd (fun _ _ => by decide) j
  simp only [Nat.mul_one, Nat.div_one, Nat.mod_one] at this
  rw [this]
  constructor
  · rintro ⟨k, h, rfl, _⟩; exact h
  · intro h; exact ⟨j, h, rfl, by decide⟩
theorem fold_or {f : Nat → Nat} {j : Nat} : ∀ (L : List Nat) (s : Nat), (L.foldl (fun acc p => acc ||| f p) s).testBit j = true ↔ s.testBit j = true ∨ ∃ p ∈ L, (f p).testBit j = true
  | [], s => by simp
  | p :: L, s => by
    rw [List.foldl_cons, fold_or L, Nat.testBit_or, Bool.or_eq_true]
    simp only [List.mem_cons, exists_eq_or_imp]
    rw [or_assoc]
theorem minus_bit {a b j : Nat} : (a - (a &&& b)).testBit j = (a.testBit j && !b.testBit j) := by
  have key : (a &&& b) + (a ^^^ (a &&& b)) = a := by
    refine Nat.eq_of_testBit_eq fun i => ?_
    rw [disj_add i _ _ (fun i ⟨q1, q2⟩ => by
      simp only [Nat.testBit_and, Nat.testBit_xor, Bool.and_eq_true] at q1 q2
      rw [q1.1, q1.2] at q2; simp at q2)]
    simp only [Nat.testBit_and, Nat.testBit_xor]
    cases a.testBit i <;> cases b.testBit i <;> rfl
  have : a - (a &&& b) = a ^^^ (a &&& b) := by (with_reducible exact q_sum ‹_›)
  rw [this]
  simp only [Nat.testBit_and, Nat.testBit_xor]
  cases a.testBit j <;> cases b.testBit j <;> rfl
theorem blk_bit {b s k i : Nat} : (blk b s k).testBit i = (b.testBit (k * s + i) && decide (i < s)) := by
  unfold blk
  rw [Nat.testBit_and, Nat.testBit_shiftRight, Nat.one_shiftLeft, Nat.testBit_two_pow_sub_one]
theorem blk_lt {b s k : Nat} : blk b s k < 2 ^ s := by
  refine Nat.lt_pow_two_of_testBit _ fun i hi => ?_
  rw [blk_bit, decide_eq_false (by (with_reducible exact Nat.not_lt.mpr ‹_›)), Bool.and_false]
end

/- part X18 -/
-- a name's value
-- an expression's step
-- an if, decided
section
variable {n r a b : Nat} {P Q : List Int → Bool}
theorem one_split {t : List Int} (h : t ∈ allT n (r + 1)) : ∃ x u, t = x :: u ∧ (0 ≤ x ∧ x < n) ∧ u ∈ allT n r := by
  cases t with
  | nil => have := (mem_allT.mp h).1; simp at this
  | cons x u => exact ⟨x, u, rfl, (cons_allT.mp h).1, (cons_allT.mp h).2⟩
theorem mem_one {x : Int} : [x] ∈ allT n 1 ↔ 0 ≤ x ∧ x < n := by rw [cons_allT]; simp [allT]
theorem O_univ : Rp n 1 (1 <<< n - 1) (fun _ => true) := fun j => by
  rw [Nat.one_shiftLeft, Nat.testBit_two_pow_sub_one, decide_eq_true_eq]
  constructor
  · intro h; exact ⟨[(j : Int)], mem_one.mpr ⟨by (with_reducible exact q_c0), by (with_reducible exact q_c1 ‹_›)⟩, by rw [val_one, Int.toNat_natCast], rfl⟩
  · rintro ⟨t, ht, rfl, _⟩
    have := val_lt ht; simpa using this
theorem O_none : Rp n r 0 (fun _ => false) := fun j => by simp
theorem O_iden (hn : n = 2 ∨ n = 3) : Rp n 2 (((List.range n).map fun a => 1 <<< (a * n + a)).sum) (fun t => t.headD 0 == t.getLastD 0) := fun j => by
  have e : ((List.range n).map fun a => 1 <<< (a * n + a)) = ((List.range n).map fun a => a * n + a).map fun p => 1 <<< p := by rw [List.map_map]; rfl
  rw [e, sum_pows (by rcases hn with rfl | rfl <;> decide)]
  constructor
  · intro h
    refine Classical.byContradiction fun hG => ?_
    obtain ⟨k, hk, rfl⟩ := List.mem_map.mp h
    refine hG ?_
    have hk := List.mem_range.mp hk
    exact ⟨[(k : Int), (k : Int)], cons_allT.mpr ⟨by (with_reducible exact q_c2 ‹_›), mem_one.mpr (by (with_reducible exact q_c2 ‹_›))⟩, by rw [val_cons, val_one]; simp, by simp⟩
  · rintro ⟨t, ht, rfl, h⟩
    refine Classical.byContradiction fun hG => ?_
    obtain ⟨x, u, rfl, hx, hu⟩ := one_split ht
    obtain ⟨y, v, rfl, hy, hv⟩ := one_split hu
    refine hG ?_
    have hv : v = [] := by simpa [allT] using hv
    subst hv
    have hxy : x = y := by simpa using h
    subst hxy
    refine List.mem_map.mpr ⟨x.toNat, List.mem_range.mpr (by exact q_tn hx), ?_⟩
    rw [val_cons, val_one]; simp
theorem O_var {v : Nat} (hv : v < n) : Rp n 1 (1 <<< v) (fun t => t == [(v : Int)]) := fun j => by
  rw [Nat.one_shiftLeft, Nat.testBit_two_pow, decide_eq_true_eq]
  constructor
  · rintro rfl; exact ⟨[(v : Int)], mem_one.mpr (by (with_reducible exact q_c2 ‹_›)), by rw [val_one, Int.toNat_natCast], by simp⟩
  · rintro ⟨t, _, rfl, h⟩
    rw [beq_iff_eq] at h; subst h
    rw [val_one, Int.toNat_natCast]
theorem O_minus (hA : Rp n r a P) (hB : Rp n r b Q) : Rp n r (a - (a &&& b)) (fun t => P t && !Q t) := fun j => by
  rw [minus_bit, Bool.and_eq_true, Bool.not_eq_true', hA j]
  constructor
  · rintro ⟨⟨t, ht, rfl, hp⟩, hq⟩
    rw [hB.at ht] at hq
    exact ⟨t, ht, rfl, by show (P t && !Q t) = true; rw [hp, hq]; rfl⟩
  · rintro ⟨t, ht, rfl, h⟩
    simp only [Bool.and_eq_true, Bool.not_eq_true'] at h
    exact ⟨⟨t, ht, rfl, h.1⟩, by rw [hB.at ht]; exact h.2⟩
theorem O_product {q : Nat} (hn : 0 < n) (hA : Rp n 1 a P) (hB : Rp n q b Q) : Rp n (q + 1) (((pl (n ^ 1) a).map fun p => b <<< (p * n ^ q)).sum) (fun t => P (t.take 1) && Q (t.drop 1)) := fun j => by
  have hs : 0 < n ^ q := Nat.pow_pos hn
  rw [sum_bits (c := fun _ => b) hs _ (pl_nodup _ _) (fun _ _ => hB.lt)]
  constructor
  · rintro ⟨k, hk, e, hb⟩
    refine Classical.byContradiction fun hG => ?_
    obtain ⟨k1, k2⟩ := mem_pl.mp hk
    obtain ⟨t, ht, e1, hp⟩ := (hA k).mp k2
    obtain ⟨x, u, rfl, hx, hu⟩ := one_split ht
    have hu : u = [] := by simpa [allT] using hu
    subst hu
    obtain ⟨v, hv, e2, hq⟩ := (hB _).mp hb
    refine hG ?_
    refine ⟨x :: v, cons_allT.mpr ⟨hx, hv⟩, ?_, by show (P [x] && Q v) = true; rw [hp, hq]; rfl⟩
    rw [val_one] at e1
    rw [val_cons, (mem_allT.mp hv).1, e1, e2, ← e, Nat.mul_comm]; exact Nat.div_add_mod j _
  · rintro ⟨t, ht, rfl, h⟩
    refine Classical.byContradiction fun hG => ?_
    obtain ⟨x, v, rfl, hx, hv⟩ := one_split ht
    refine hG ?_
    have h : (P [x] && Q v) = true := h
    simp only [Bool.and_eq_true] at h
    have hv' := val_lt hv
    rw [val_cons, (mem_allT.mp hv).1]
    have e1 : (x.toNat * n ^ q + val n v) / n ^ q = x.toNat := by rw [Nat.add_comm, Nat.mul_comm, Nat.add_mul_div_left _ _ hs, Nat.div_eq_of_lt hv', Nat.zero_add]
    have e2 : (x.toNat * n ^ q + val n v) % n ^ q = val n v := by rw [Nat.add_comm, Nat.add_mul_mod_self_right, Nat.mod_eq_of_lt hv']
    have hm : [x] ∈ allT n 1 := mem_one.mpr hx
    have hpx := hA.at hm
    rw [val_one] at hpx
    exact ⟨x.toNat, mem_pl.mpr ⟨by simp; exact q_tn hx, by rw [hpx]; exact h.1⟩, e1, by rw [e2, hB.at hv]; exact h.2⟩
theorem snoc_allT {x : Int} {t : List Int} : t ++ [x] ∈ allT n (r + 1) ↔ t ∈ allT n r ∧ (0 ≤ x ∧ x < n) := by
  rw [mem_allT, mem_allT]
  constructor
  · rintro ⟨h1, h2⟩; exact ⟨⟨by simpa using h1, fun b hb => h2 b (List.mem_append_left _ hb)⟩, h2 x (by simp)⟩
  · rintro ⟨⟨h1, h2⟩, h3⟩; exact ⟨by simp [h1], fun b hb => by rcases List.mem_append.mp hb with q | q; exact h2 b q; rw [List.mem_singleton.mp q]; exact h3⟩
theorem last_one {t : List Int} (h : t ∈ allT n (r + 1)) : ∃ (u : List Int) (x : Int), t = u ++ [x] ∧ u ∈ allT n r ∧ (0 ≤ x ∧ x < n) := by
  have hl := (mem_allT.mp h).1
  have hs := last_split hl
  rw [hs] at h
  obtain ⟨h1, h2⟩ := snoc_allT.mp h
  exact ⟨_, _, hs, h1, h2⟩
theorem O_behind (hn : 0 < n) (hA : Rp n (r + 1) a P) (hB : Rp n 1 b Q) : Rp n (r + 1) ((((pl (n ^ (r + 1)) a).filter fun p => b.testBit (p % n)).map fun p => 1 <<< p).sum) (fun t => P t && Q (t.drop (t.length - 1))) := fun j => by
  rw [sum_pows ((pl_nodup _ _).filter _), List.mem_filter, mem_pl]
  have key : ∀ t ∈ allT n (r + 1), b.testBit (val n t % n) = Q (t.drop (t.length - 1)) := fun t ht => by
    refine Classical.byContradiction fun hG => ?_
    obtain ⟨u, x, rfl, hu, hx⟩ := last_one ht
    refine hG ?_
    have e : (val n u * n + x.toNat) % n = x.toNat := by rw [Nat.add_comm, Nat.add_mul_mod_self_right, Nat.mod_eq_of_lt (by exact q_tn hx)]
    have hq := hB.at (mem_one.mpr hx)
    rw [val_one] at hq
    rw [val_snoc, e, hq]
    have : (u ++ [x]).drop ((u ++ [x]).length - 1) = [x] := by simp
    rw [this]
  constructor
  · rintro ⟨⟨_, h1⟩, h2⟩
    refine Classical.byContradiction fun hG => ?_
    obtain ⟨t, ht, rfl, hp⟩ := (hA j).mp h1
    refine hG ?_
    rw [key t ht] at h2
    exact ⟨t, ht, rfl, by show (P t && Q _) = true; rw [hp, h2]; rfl⟩
  · rintro ⟨t, ht, rfl, h⟩
    simp only [Bool.and_eq_true] at h
    exact ⟨⟨val_lt ht, by rw [hA.at ht]; exact h.1⟩, by rw [key t ht]; exact h.2⟩
theorem blk_at_bit {s : Nat} {u : List Int} {x : Int} (hu : u ∈ allT n s) : (blk b (n ^ s) x.toNat).testBit (val n u) = b.testBit (val n (x :: u)) := by
  rw [blk_bit, decide_eq_true (val_lt hu), Bool.and_true, val_cons, (mem_allT.mp hu).1]
theorem div_cons {s : Nat} {u : List Int} {x : Int} (hn : 0 < n) (hu : u ∈ allT n s) : val n (x :: u) / n ^ s = x.toNat ∧ val n (x :: u) % n ^ s = val n u := by
  have hs : 0 < n ^ s := Nat.pow_pos hn
  rw [val_cons, (mem_allT.mp hu).1]
  exact ⟨by rw [Nat.add_comm, Nat.mul_comm, Nat.add_mul_div_left _ _ hs, Nat.div_eq_of_lt (val_lt hu), Nat.zero_add], by rw [Nat.add_comm, Nat.add_mul_mod_self_right, Nat.mod_eq_of_lt (val_lt hu)]⟩
/-- by blocks -/
theorem O_blocks {s : Nat} {c : Nat → Nat} {L : List Nat} (hn : 0 < n) (nd : L.Nodup) (hL : ∀ k ∈ L, k < n) (hc : ∀ k ∈ L, c k < 2 ^ (n ^ s)) (h : ∀ x u, (0 ≤ x ∧ x < (n : Int)) → u ∈ allT n s → (P (x :: u) = true ↔ x.toNat ∈ L ∧ (c x.toNat).testBit (val n u) = true)) : Rp n (s + 1) ((L.map fun k => c k <<< (k * n ^ s)).sum) P := fun j => by
  have hs : 0 < n ^ s := Nat.pow_pos hn
  rw [sum_bits hs L nd hc]
  constructor
  · rintro ⟨k, hk, e, hb⟩
    have hkn := hL k hk
    have hj : j % n ^ s < n ^ s := Nat.mod_lt _ hs
    have hu := dg_mem hn (j % n ^ s) s
    have eu : val n (dg n s (j % n ^ s)) = j % n ^ s := by rw [val_dg hn, Nat.mod_eq_of_lt hj]
    refine ⟨(k : Int) :: dg n s (j % n ^ s), cons_allT.mpr ⟨by (with_reducible exact q_c2 ‹_›), hu⟩, ?_, (h _ _ (by (with_reducible exact q_c2 ‹_›)) hu).mpr ⟨by simpa using hk, by rw [eu]; simpa using hb⟩⟩
    rw [val_cons, (mem_allT.mp hu).1, eu, Int.toNat_natCast, ← e, Nat.mul_comm]; exact Nat.div_add_mod j _
  · rintro ⟨t, ht, rfl, hp⟩
    refine Classical.byContradiction fun hG => ?_
    obtain ⟨x, u, rfl, hx, hu⟩ := one_split ht
    obtain ⟨h1, h2⟩ := (h x u hx hu).mp hp
    obtain ⟨d1, d2⟩ := div_cons (x := x) hn hu
    refine hG ?_
    exact ⟨x.toNat, h1, d1, by rw [d2]; exact h2⟩
theorem blk_pos {s x : Nat} : 0 < blk b s x ↔ ∃ i, i < s ∧ b.testBit (x * s + i) = true := by
  constructor
  · intro h
    obtain ⟨i, hi⟩ := Nat.exists_testBit_of_ne_zero (Nat.ne_of_gt h)
    rw [blk_bit, Bool.and_eq_true, decide_eq_true_eq] at hi
    exact ⟨i, hi.2, hi.1⟩
  · rintro ⟨i, h1, h2⟩
    refine Nat.pos_of_ne_zero fun e => ?_
    have : (blk b s x).testBit i = true := by rw [blk_bit, h2, decide_eq_true h1]; rfl
    rw [e] at this; simp at this
theorem O_override {s : Nat} (hn : 0 < n) (hA : Rp n (s + 1) a P) (hB : Rp n (s + 1) b Q) : Rp n (s + 1) (((List.range n).map fun k => (if 0 < blk b (n ^ s) k then blk b (n ^ s) k else blk a (n ^ s) k) <<< (k * n ^ s)).sum) (fun t => Q t || (P t && !((allT n (s + 1)).any fun u => Q u && u.headD 0 == t.headD 0))) := by
  refine O_blocks hn List.nodup_range (fun k hk => List.mem_range.mp hk) (fun k _ => by split <;> exact blk_lt) fun x u hx hu => ?_
  have hxu : x :: u ∈ allT n (s + 1) := cons_allT.mpr ⟨hx, hu⟩
  have hany : ((allT n (s + 1)).any fun w => Q w && w.headD 0 == (x :: u).headD 0) = decide (0 < blk b (n ^ s) x.toNat) := by
    refine Bool.eq_iff_iff.mpr ?_
    rw [List.any_eq_true, decide_eq_true_eq, blk_pos]
    constructor
    · rintro ⟨w, hw, h⟩
      simp only [Bool.and_eq_true, beq_iff_eq] at h
      refine Classical.byContradiction fun hG => ?_
      obtain ⟨y, v, rfl, hy, hv⟩ := one_split hw
      refine hG ?_
      have e : y = x := h.2
      subst e
      refine ⟨val n v, val_lt hv, ?_⟩
      have := hB.at hw
      rw [val_cons, (mem_allT.mp hv).1] at this
      rw [this]; exact h.1
    · rintro ⟨i, hi, hb⟩
      have hv := dg_mem hn i s
      have ev : val n (dg n s i) = i := by rw [val_dg hn, Nat.mod_eq_of_lt hi]
      refine ⟨x :: dg n s i, cons_allT.mpr ⟨hx, hv⟩, ?_⟩
      have := hB.at (cons_allT.mpr ⟨hx, hv⟩)
      rw [val_cons, (mem_allT.mp hv).1, ev, hb] at this
      rw [← this]; simp
  rw [hany]
  have hin : x.toNat ∈ List.range n := List.mem_range.mpr (by exact q_tn hx)
  by_cases h0 : 0 < blk b (n ^ s) x.toNat
  · rw [if_pos h0, blk_at_bit hu, hB.at hxu, decide_eq_true h0]
    simp [hin]
  · rw [if_neg h0, blk_at_bit hu, hA.at hxu, decide_eq_false h0]
    have hq : Q (x :: u) = false := by
      rw [Bool.eq_false_iff]
      intro q
      refine h0 (blk_pos.mpr ⟨val n u, val_lt hu, ?_⟩)
      have := hB.at hxu
      rw [val_cons, (mem_allT.mp hu).1] at this
      rw [this]; exact q
    simp [hin, hq]
theorem O_ahead {s : Nat} (hn : 0 < n) (hA : Rp n 1 a P) (hB : Rp n (s + 1) b Q) : Rp n (s + 1) ((((List.range n).filter fun k => a.testBit k).map fun k => blk b (n ^ s) k <<< (k * n ^ s)).sum) (fun t => P (t.take 1) && Q t) := by
  refine O_blocks hn (List.nodup_range.filter _) (fun k hk => List.mem_range.mp (List.mem_filter.mp hk).1) (fun k _ => blk_lt) fun x u hx hu => ?_
  have hxu : x :: u ∈ allT n (s + 1) := cons_allT.mpr ⟨hx, hu⟩
  rw [blk_at_bit hu, hB.at hxu, List.mem_filter, List.mem_range]
  have hp := hA.at (mem_one.mpr hx)
  rw [val_one] at hp
  rw [hp]
  show (P [x] && Q (x :: u)) = true ↔ _
  rw [Bool.and_eq_true]
  constructor
  · rintro ⟨h1, h2⟩; exact ⟨⟨by exact q_tn hx, h1⟩, h2⟩
  · rintro ⟨⟨_, h1⟩, h2⟩; exact ⟨h1, h2⟩
theorem app_allT {p q : Nat} {u v : List Int} (hu : u ∈ allT n p) (hv : v ∈ allT n q) : u ++ v ∈ allT n (p + q) := by
  refine Classical.byContradiction fun hG => ?_
  obtain ⟨u1, u2⟩ := mem_allT.mp hu
  obtain ⟨v1, v2⟩ := mem_allT.mp hv
  refine hG ?_
  exact mem_allT.mpr ⟨by simp [u1, v1], fun b hb => by rcases List.mem_append.mp hb with h | h; exact u2 b h; exact v2 b h⟩
theorem O_join {p q : Nat} (hn : 0 < n) (hA : Rp n (p + 1) a P) (hB : Rp n (q + 1) b Q) : Rp n (p + q) ((pl (n ^ (p + 1)) a).foldl (fun acc x => acc ||| (blk b (n ^ q) (x % n) <<< (x / n * n ^ q))) 0) (fun t => (List.range n).any fun y => P (t.take p ++ [(y : Int)]) && Q ((y : Int) :: t.drop p)) := fun j => by
  have hs : 0 < n ^ q := Nat.pow_pos hn
  rw [fold_or]
  constructor
  · rintro (h | ⟨x, hx, h⟩)
    · simp at h
    · obtain ⟨x1, x2⟩ := mem_pl.mp hx
      refine Classical.byContradiction fun hG => ?_
      obtain ⟨w, hw, rfl, hP⟩ := (hA x).mp x2
      obtain ⟨u, y, rfl, hu, hy⟩ := last_one hw
      rw [val_snoc] at h
      have e1 : (val n u * n + y.toNat) / n = val n u := by rw [Nat.add_comm, Nat.add_mul_div_right _ _ hn, Nat.div_eq_of_lt (by exact q_tn hy), Nat.zero_add]
      have e2 : (val n u * n + y.toNat) % n = y.toNat := by rw [Nat.add_comm, Nat.add_mul_mod_self_right, Nat.mod_eq_of_lt (by exact q_tn hy)]
      rw [e1, e2] at h
      obtain ⟨d1, d2⟩ := (shl_bit hs blk_lt).mp h
      refine hG ?_
      have hj : j % n ^ q < n ^ q := Nat.mod_lt _ hs
      have hv := dg_mem hn (j % n ^ q) q
      have ev : val n (dg n q (j % n ^ q)) = j % n ^ q := by rw [val_dg hn, Nat.mod_eq_of_lt hj]
      rw [← ev, blk_at_bit hv, hB.at (cons_allT.mpr ⟨hy, hv⟩)] at d2
      have hl := (mem_allT.mp hu).1
      refine ⟨u ++ dg n q (j % n ^ q), app_allT hu hv, ?_, ?_⟩
      · rw [val_app, (mem_allT.mp hv).1, ev, ← d1, Nat.mul_comm]; exact Nat.div_add_mod j _
      · rw [List.any_eq_true]
        refine ⟨y.toNat, List.mem_range.mpr (by exact q_tn hy), ?_⟩
        rw [List.take_left' hl, List.drop_left' hl, Int.toNat_of_nonneg hy.1, hP, d2]; rfl
  · rintro ⟨t, ht, rfl, h⟩
    rw [List.any_eq_true] at h
    refine Classical.byContradiction fun hG => ?_
    obtain ⟨y, hy, h⟩ := h
    refine hG ?_
    have hy := List.mem_range.mp hy
    simp only [Bool.and_eq_true] at h
    have hu : t.take p ∈ allT n p := take_allT ht (by (with_reducible exact Nat.le_add_right _ _))
    have hv : t.drop p ∈ allT n q := by have := drop_allT (k := p) ht; rwa [Nat.add_sub_cancel_left] at this
    have hyr : 0 ≤ (y : Int) ∧ (y : Int) < n := by (with_reducible exact q_c2 ‹_›)
    have hw : t.take p ++ [(y : Int)] ∈ allT n (p + 1) := snoc_allT.mpr ⟨hu, hyr⟩
    refine .inr ⟨val n (t.take p ++ [(y : Int)]), mem_pl.mpr ⟨val_lt hw, by rw [hA.at hw]; exact h.1⟩, ?_⟩
    rw [val_snoc, Int.toNat_natCast]
    have e1 : (val n (t.take p) * n + y) / n = val n (t.take p) := by rw [Nat.add_comm, Nat.add_mul_div_right _ _ hn, Nat.div_eq_of_lt hy, Nat.zero_add]
    have e2 : (val n (t.take p) * n + y) % n = y := by rw [Nat.add_comm, Nat.add_mul_mod_self_right, Nat.mod_eq_of_lt hy]
    rw [e1, e2]
    have et : val n t = val n (t.take p) * n ^ q + val n (t.drop p) := by
      have := val_app (n := n) (u := t.take p) (v := t.drop p)
      rwa [List.take_append_drop, (mem_allT.mp hv).1] at this
    refine (shl_bit hs blk_lt).mpr ⟨?_, ?_⟩
    · rw [et, Nat.add_comm, Nat.mul_comm, Nat.add_mul_div_left _ _ hs, Nat.div_eq_of_lt (val_lt hv), Nat.zero_add]
    · rw [et, Nat.add_comm (val n (t.take p) * n ^ q), Nat.add_mul_mod_self_right, Nat.mod_eq_of_lt (val_lt hv)]
      have := blk_at_bit (b := b) (x := (y : Int)) hv
      rw [Int.toNat_natCast] at this
      rw [this, hB.at (cons_allT.mpr ⟨hyr, hv⟩)]; exact h.2
end

/- part X19 -/
-- a name's value
-- an expression's step
-- an if, decided
section
variable {cells : List Int} {n : Nat} {B : Nat → Nat}
noncomputable abbrev bitL (B : Nat → Nat) : PV := .list [.int (B 0), .int (B 1), .int (B 2)]
noncomputable def LvE (cells : List Int) (n : Nat) (B : Nat → Nat) (e : Ex) : Prop := ∀ (en : En) (m : Nat), WE en.ks e → Good n en → en.ks.length ≤ 60 → dep e ≤ m → ∃ b : Nat, Rp n (ar e) b (sem n B e en) ∧ ∀ σ, callF (tab cells) fns m 232 [enc e, wv n (bitL B), encEl en] σ = some (.int b, σ)
noncomputable def LvF (cells : List Int) (n : Nat) (B : Nat → Nat) (f : Fm) : Prop := ∀ (en : En) (m : Nat), WF en.ks f → Good n en → en.ks.length ≤ 60 → depF f ≤ m → ∀ σ, callF (tab cells) fns m 246 [encF f, wv n (bitL B), encEl en] σ = some (.bool (semF n B f en), σ)
noncomputable def LvD (cells : List Int) (n : Nat) (B : Nat → Nat) (ds : Ds) : Prop := ∀ (f : Fm) (en : En) (m p k : Nat), LvF cells n B f → WD en.ks ds (fun ks' => WF ks' f) → Good n en → en.ks.length + ds.len ≤ 60 → max (depD ds) (depF f) + ds.len + 1 ≤ m → p < n ^ k → k + ds.len ≤ 3 →
  ∃ b : Nat, (∀ j, b.testBit j = true ↔ ∃ u ∈ allT n ds.len, p * n ^ ds.len + val n u = j ∧ semD n B ds (semF n B f) en u = true) ∧ ∀ σ, callF (tab cells) fns m 239 [.tup (encD ds), encF f, wv n (bitL B), encEl en, .int p] σ = some (.int b, σ)

theorem pow27 {r : Nat} (hn : n = 2 ∨ n = 3) (hr : r ≤ 3) : n ^ r ≤ 27 := Nat.le_trans (Nat.pow_le_pow_left (show n ≤ 3 by (with_reducible exact q_n3 ‹_›)) r) (Nat.pow_le_pow_right (by decide) hr)
theorem Rp.small {r b : Nat} {P : List Int → Bool} (hn : n = 2 ∨ n = 3) (hr : r ≤ 3) (h : Rp n r b P) : b < 9223372036854775808 :=
  Nat.lt_trans (Nat.lt_of_lt_of_le h.lt (Nat.pow_le_pow_right (by decide) (pow27 hn hr))) (by decide)

theorem lvD_nil (hn : n = 2 ∨ n = 3) : LvD cells n B .nil := fun f en m p k hF hW g hk hm hp hkl => by
  refine Classical.byContradiction fun hG => ?_
  obtain ⟨i, rfl⟩ : ∃ k, m = k + 1 := ⟨m - 1, by exact q_s1 hm⟩
  refine hG ?_
  simp only [WD] at hW
  simp only [Ds.len, depD] at hk hm hkl
  have hp27 := pow27 (r := k) hn (by (with_reducible exact q_slack0 ‹_›))
  refine ⟨_, fun j => ?_, fun σ => ch_nil (by (with_reducible exact q_ltle ‹_ < _› ‹_› (by decide))) (hF en i hW g (by (with_reducible exact q_slack0 ‹_›)) (by exact Nat.le_trans q_m2 (Nat.le_of_succ_le_succ hm)))⟩
  simp only [Ds.len, allT, List.mem_singleton, semD, exists_eq_left, Nat.pow_zero, Nat.mul_one]
  have : val n ([] : List Int) = 0 := rfl
  rw [this, Nat.add_zero]
  cases semF n B f en
  · simp
  · simp only [if_true, Nat.one_shiftLeft, Nat.testBit_two_pow, decide_eq_true_eq, and_true]
theorem lvD_cons (hn : n = 2 ∨ n = 3) {x : Str} {e : Ex} {r : Ds} (hE : LvE cells n B e) (hD : LvD cells n B r) : LvD cells n B (.cons x e r) := fun f en m p k hF hW g hk hm hp hkl => by
  simp only [Ds.len, depD] at hk hm hkl
  refine Classical.byContradiction fun hG => ?_
  obtain ⟨i, rfl⟩ : ∃ k, m = k + 2 := ⟨m - 2, by exact q_s2 hm⟩
  simp only [WD] at hW
  obtain ⟨w1, w2, w3⟩ := hW
  have hp27 := pow27 (r := k) hn (by (with_reducible exact q_slack0 ‹_›))
  obtain ⟨d, d1, d2⟩ := hE en (i + 1) w1 g (by (with_reducible exact q_slack0 ‹_›)) (by exact Nat.le_succ_of_le (Nat.le_trans (Nat.le_trans q_m1 q_m1) (q_slack0 (q_86 hm))))
  refine hG ?_
  rw [w2] at d1
  have sub : ∀ a : Nat, a < n → ∃ b : Nat, (∀ j, b.testBit j = true ↔ ∃ u ∈ allT n r.len, (p * n + a) * n ^ r.len + val n u = j ∧ semD n B r (semF n B f) (en.set x a) u = true) ∧ ∀ σ, callF (tab cells) fns (i + 1) 239 [.tup (encD r), encF f, wv n (bitL B), encEl (en.set x a), .int (p * n + a : Nat)] σ = some (.int b, σ) := fun a ha => by
    have hks := set_ks (e := en) (x := x) (a := (a : Int))
    have hl : (en.set x a).ks.length ≤ en.ks.length + 1 := by rw [hks]; unfold addS; split <;> simp
    refine hD f (en.set x a) (i + 1) (p * n + a) (k + 1) hF (by rw [hks]; exact w3) (g.set ⟨by (with_reducible exact q_c0), by (with_reducible exact q_c1 ‹_›)⟩) (by exact Nat.le_trans (Nat.add_le_add_right hl _) (q_msl hk)) (by exact Nat.succ_le_succ (Nat.le_trans (Nat.add_le_add_right q_mmx _) (q_86 hm))) ?_ (by (with_reducible exact q_msl ‹_›))
    have := Nat.mul_le_mul_right n (show p + 1 ≤ n ^ k by (with_reducible exact Nat.succ_le_of_lt ‹_›))
    rw [Nat.pow_succ]; rw [Nat.add_mul, Nat.one_mul] at this; exact Nat.lt_of_lt_of_le (Nat.add_lt_add_left ha _) this
  let G : Nat → Nat := fun a => if h : a < n then Classical.choose (sub a h) else 0
  have hGa : ∀ a (h : a < n), G a = Classical.choose (sub a h) := fun a h => by show (if h : a < n then _ else _) = _; rw [dif_pos h]
  refine ⟨(pl (n ^ 1) d).foldl (fun acc a => acc ||| G a) 0, fun j => ?_, fun σ => ch_cons (G := G) (N := n ^ 1) (by rw [encD_len]; exact q_97 hkl) (by exact q_le (q_slack0 hk) rfl) (by (with_reducible exact q_ltle ‹_ < _› ‹_› (by decide))) (by (with_reducible exact q_n3 ‹_›)) (by rw [Nat.pow_one]; (with_reducible exact q_n ‹_ = 2 ∨ _ = 3› (by decide))) d1.lt d2 fun a ha σ => ?_⟩
  · rw [fold_or]
    constructor
    · rintro (h | ⟨a, ha, h⟩)
      · simp at h
      · obtain ⟨a1, a2⟩ := mem_pl.mp ha
        have a1 : a < n := by simpa using a1
        rw [hGa a a1, (Classical.choose_spec (sub a a1)).1] at h
        refine Classical.byContradiction fun hG => ?_
        obtain ⟨u, hu, e1, hs⟩ := h
        refine hG ?_
        have ham : [(a : Int)] ∈ allT n 1 := mem_one.mpr ⟨by (with_reducible exact q_c0), by (with_reducible exact q_c1 ‹_›)⟩
        have hsem := d1.at ham
        rw [val_one, Int.toNat_natCast, a2] at hsem
        refine ⟨(a : Int) :: u, cons_allT.mpr ⟨⟨by (with_reducible exact q_c0), by (with_reducible exact q_c1 ‹_›)⟩, hu⟩, ?_, ?_⟩
        · rw [val_cons, (mem_allT.mp hu).1, Int.toNat_natCast, ← e1]
          simp only [Ds.len, Nat.pow_succ, Nat.add_mul, Nat.mul_assoc, Nat.mul_comm n]
          (with_reducible exact (Nat.add_assoc _ _ _).symm)
        · show (sem n B e en [(a : Int)] && semD n B r (semF n B f) (en.set x a) u) = true
          rw [← hsem, hs]; rfl
    · rintro ⟨t, ht, e1, hs⟩
      refine Classical.byContradiction fun hG => ?_
      obtain ⟨y, u, rfl, hy, hu⟩ := one_split ht
      have hs : (sem n B e en [y] && semD n B r (semF n B f) (en.set x y) u) = true := hs
      simp only [Bool.and_eq_true] at hs
      obtain ⟨a, rfl⟩ : ∃ a : Nat, y = a := ⟨y.toNat, by exact q_to hy.1⟩
      refine hG ?_
      have a1 : a < n := by (with_reducible exact q_an3 ‹_›)
      have hsem := d1.at (mem_one.mpr hy)
      rw [val_one, Int.toNat_natCast, hs.1] at hsem
      refine .inr ⟨a, mem_pl.mpr ⟨by simpa using a1, hsem⟩, ?_⟩
      rw [hGa a a1, (Classical.choose_spec (sub a a1)).1]
      refine ⟨u, hu, ?_, hs.2⟩
      rw [← e1, val_cons, (mem_allT.mp hu).1, Int.toNat_natCast]
      simp only [Ds.len, Nat.pow_succ, Nat.add_mul, Nat.mul_assoc, Nat.mul_comm n]
      (with_reducible exact Nat.add_assoc _ _ _)
  · have a1 : a < n := by have := (mem_pl.mp ha).1; simpa using this
    rw [hGa a a1]
    exact (Classical.choose_spec (sub a a1)).2 σ
theorem lvE_comp (hn : n = 2 ∨ n = 3) {ds : Ds} {f : Fm} (hD : LvD cells n B ds) (hF : LvF cells n B f) : LvE cells n B (.comp ds f) := fun en m hw g hk hm => by
  refine Classical.byContradiction fun hG => ?_
  obtain ⟨w1, w2, w3, w4⟩ := hw
  have hm : 5 + max (depD ds) (depF f) ≤ m := hm
  obtain ⟨i, rfl⟩ : ∃ k, m = k + 1 := ⟨m - 1, by (with_reducible exact q_sa ‹5 + _ ≤ _› (by decide))⟩
  obtain ⟨b, b1, b2⟩ := hD f en i 0 0 hF w4 g (by (with_reducible exact q_a4 ‹_› ‹_› (by decide))) (by exact q_141 hm w2) (by simp) (by exact Nat.le_trans (Nat.le_of_eq (Nat.zero_add _)) w2)
  refine hG ?_
  refine ⟨b, fun j => ?_, fun σ => b_comp b2⟩
  rw [b1 j]
  simp only [Nat.zero_mul, Nat.zero_add]; rfl
theorem lvE_rel (hn : n = 2 ∨ n = 3) (hB : ∀ k, k ≤ 2 → B k < 2 ^ (n ^ (k + 1))) {k : Nat} : LvE cells n B (.rel k) := fun en m hw g hk hm => by
  have hw : k ≤ 2 := hw
  have hm : 5 ≤ m := hm
  refine Classical.byContradiction fun hG => ?_
  obtain ⟨i, rfl⟩ : ∃ k, m = k + 1 := ⟨m - 1, by (with_reducible exact q_sb ‹5 ≤ _› (by decide))⟩
  refine hG ?_
  refine ⟨B k, Rp.of_lt (by (with_reducible exact q_np ‹_›)) (hB k hw), fun σ => b_rel fun σ => ?_⟩
  have := idx3 (cells := cells) (a := .int (B 0)) (b := .int (B 1)) (c := .int (B 2)) σ
  rcases k with _ | _ | _ | k
  · exact this.1
  · exact this.2.1
  · exact this.2.2
  · exact (q_no3 (Nat.lt_succ_of_le hw)).elim
theorem lvE_univ (hn : n = 2 ∨ n = 3) : LvE cells n B .univ := fun en m hw g hk hm => by
  have hm : 5 ≤ m := hm
  refine Classical.byContradiction fun hG => ?_
  obtain ⟨i, rfl⟩ : ∃ k, m = k + 1 := ⟨m - 1, by (with_reducible exact q_sb ‹5 ≤ _› (by decide))⟩
  refine hG ?_
  exact ⟨_, O_univ, fun σ => b_univ (by (with_reducible exact q_n ‹_ = 2 ∨ _ = 3› (by decide)))⟩
theorem lvE_iden (hn : n = 2 ∨ n = 3) : LvE cells n B .iden := fun en m hw g hk hm => by
  have hm : 5 ≤ m := hm
  refine Classical.byContradiction fun hG => ?_
  obtain ⟨i, rfl⟩ : ∃ k, m = k + 1 := ⟨m - 1, by (with_reducible exact q_sb ‹5 ≤ _› (by decide))⟩
  refine hG ?_
  exact ⟨_, O_iden hn, fun σ => b_iden (by (with_reducible exact q_n3 ‹_›))⟩
theorem lvE_none {k : Nat} : LvE cells n B (.none k) := fun en m hw g hk hm => by
  have hm : 5 ≤ m := hm
  refine Classical.byContradiction fun hG => ?_
  obtain ⟨i, rfl⟩ : ∃ k, m = k + 1 := ⟨m - 1, by (with_reducible exact q_sb ‹5 ≤ _› (by decide))⟩
  refine hG ?_
  exact ⟨0, O_none, fun σ => b_none⟩
theorem lvE_var (hn : n = 2 ∨ n = 3) {x : Str} : LvE cells n B (.var x) := fun en m hw g hk hm => by
  have hm : 5 ≤ m := hm
  refine Classical.byContradiction fun hG => ?_
  obtain ⟨i, rfl⟩ : ∃ k, m = k + 1 := ⟨m - 1, by (with_reducible exact q_sb ‹5 ≤ _› (by decide))⟩
  obtain ⟨g1, g2, g3⟩ := g.get hw
  obtain ⟨v, hv⟩ : ∃ v : Nat, en.get x = v := ⟨(en.get x).toNat, by (with_reducible exact q_to ‹_›)⟩
  refine hG ?_
  refine ⟨1 <<< v, ?_, fun σ => b_var (v := v) (by exact q_le (Nat.le_of_lt (Nat.lt_of_lt_of_le (q_vn hv g3) (q_n3 hn))) rfl) (by rw [valAt_map, g1, hv]; rfl)⟩
  have h : sem n B (.var x) en = fun t => t == [(v : Int)] := by funext t; show (t == [en.get x]) = _; rw [hv]
  rw [h]; exact O_var (by exact q_vn hv g3)
theorem lvE_minus {a b : Ex} (hA : LvE cells n B a) (hC : LvE cells n B b) : LvE cells n B (.minus a b) := fun en m hw g hk hm => by
  refine Classical.byContradiction fun hG => ?_
  obtain ⟨w1, w2, w3⟩ := hw
  have hm : 5 + max (dep a) (dep b) ≤ m := hm
  obtain ⟨i, rfl⟩ : ∃ k, m = k + 1 := ⟨m - 1, by (with_reducible exact q_sa ‹5 + _ ≤ _› (by decide))⟩
  obtain ⟨x, x1, x2⟩ := hA en i w1 g hk (by (with_reducible exact q_d0 ‹5 + _ ≤ _› (by decide) q_m1))
  obtain ⟨y, y1, y2⟩ := hC en i w2 g hk (by (with_reducible exact q_d0 ‹5 + _ ≤ _› (by decide) q_m2))
  refine hG ?_
  rw [← w3] at y1
  exact ⟨_, O_minus x1 y1, fun σ => b_minus x2 y2⟩
theorem lvE_product (hn : n = 2 ∨ n = 3) {a b : Ex} (hA : LvE cells n B a) (hC : LvE cells n B b) : LvE cells n B (.product a b) := fun en m hw g hk hm => by
  refine Classical.byContradiction fun hG => ?_
  obtain ⟨w1, w2, w3, w4⟩ := hw
  have hm : 5 + max (dep a) (dep b) ≤ m := hm
  obtain ⟨i, rfl⟩ : ∃ k, m = k + 2 := ⟨m - 2, by (with_reducible exact q_sa ‹5 + _ ≤ _› (by decide))⟩
  obtain ⟨x, x1, x2⟩ := hA en (i + 1) w1 g hk (by (with_reducible exact q_d1 ‹_› q_m1))
  obtain ⟨y, y1, y2⟩ := hC en (i + 1) w2 g hk (by (with_reducible exact q_d1 ‹_› q_m2))
  refine hG ?_
  rw [w3] at x1
  refine ⟨_, ?_, fun σ => b_product (N := n ^ 1) (by rw [Nat.pow_one]; (with_reducible exact q_n3 ‹_›)) x1.lt (y1.small hn (ar_le w2).2) hn (ar_le w2).2 x2 y2 (c_arity b w2 (by (with_reducible exact q_d1 ‹_› q_m2)))⟩
  have := O_product (by (with_reducible exact q_np ‹_›)) x1 y1
  rw [show ar (.product a b) = ar b + 1 by simp only [ar]; exact (congrArg (· + ar b) w3).trans (Nat.add_comm 1 _)]
  exact this
theorem lvE_behind (hn : n = 2 ∨ n = 3) {a b : Ex} (hA : LvE cells n B a) (hC : LvE cells n B b) : LvE cells n B (.behind a b) := fun en m hw g hk hm => by
  refine Classical.byContradiction fun hG => ?_
  obtain ⟨w1, w2, w3⟩ := hw
  have hm : 5 + max (dep a) (dep b) ≤ m := hm
  obtain ⟨i, rfl⟩ : ∃ k, m = k + 2 := ⟨m - 2, by (with_reducible exact q_sa ‹5 + _ ≤ _› (by decide))⟩
  obtain ⟨x, x1, x2⟩ := hA en (i + 1) w1 g hk (by (with_reducible exact q_d1 ‹_› q_m1))
  obtain ⟨y, y1, y2⟩ := hC en (i + 1) w2 g hk (by (with_reducible exact q_d1 ‹_› q_m2))
  refine hG ?_
  rw [w3] at y1
  have hr := ar_le w1
  have := pow27 hn hr.2
  refine ⟨_, ?_, fun σ => b_behind (N := n ^ ar a) (by (with_reducible exact q_le ‹_› (by decide))) x1.lt hn x2 y2⟩
  refine Classical.byContradiction fun hG => ?_
  obtain ⟨r, hr'⟩ : ∃ r, ar a = r + 1 := ⟨ar a - 1, by exact (Nat.sub_add_cancel hr.1).symm⟩
  refine hG ?_
  show Rp n (ar a) _ _
  rw [hr'] at x1 ⊢
  exact O_behind (by (with_reducible exact q_np ‹_›)) x1 y1
theorem lvE_override (hn : n = 2 ∨ n = 3) {a b : Ex} (hA : LvE cells n B a) (hC : LvE cells n B b) : LvE cells n B (.override a b) := fun en m hw g hk hm => by
  refine Classical.byContradiction fun hG => ?_
  obtain ⟨w1, w2, w3⟩ := hw
  have hm : 5 + max (dep a) (dep b) ≤ m := hm
  obtain ⟨i, rfl⟩ : ∃ k, m = k + 2 := ⟨m - 2, by (with_reducible exact q_sa ‹5 + _ ≤ _› (by decide))⟩
  obtain ⟨x, x1, x2⟩ := hA en (i + 1) w1 g hk (by (with_reducible exact q_d1 ‹_› q_m1))
  obtain ⟨y, y1, y2⟩ := hC en (i + 1) w2 g hk (by (with_reducible exact q_d1 ‹_› q_m2))
  refine hG ?_
  have hr := ar_le w2
  refine ⟨_, ?_, fun σ => b_override (q := ar b) (x1.small hn (ar_le w1).2) (y1.small hn hr.2) hn hr.1 hr.2 x2 y2 (c_arity b w2 (by (with_reducible exact q_d1 ‹_› q_m2)))⟩
  refine Classical.byContradiction fun hG => ?_
  obtain ⟨s, hs⟩ : ∃ s, ar b = s + 1 := ⟨ar b - 1, by exact (Nat.sub_add_cancel hr.1).symm⟩
  refine hG ?_
  show Rp n (ar a) _ (fun t => sem n B b en t || (sem n B a en t && !((allT n (ar b)).any fun u => sem n B b en u && u.headD 0 == t.headD 0)))
  rw [w3] at x1 ⊢
  rw [hs] at x1 y1 ⊢
  exact O_override (by (with_reducible exact q_np ‹_›)) x1 y1
theorem lvE_ahead (hn : n = 2 ∨ n = 3) {a b : Ex} (hA : LvE cells n B a) (hC : LvE cells n B b) : LvE cells n B (.ahead a b) := fun en m hw g hk hm => by
  refine Classical.byContradiction fun hG => ?_
  obtain ⟨w1, w2, w3⟩ := hw
  have hm : 5 + max (dep a) (dep b) ≤ m := hm
  obtain ⟨i, rfl⟩ : ∃ k, m = k + 2 := ⟨m - 2, by (with_reducible exact q_sa ‹5 + _ ≤ _› (by decide))⟩
  obtain ⟨x, x1, x2⟩ := hA en (i + 1) w1 g hk (by (with_reducible exact q_d1 ‹_› q_m1))
  obtain ⟨y, y1, y2⟩ := hC en (i + 1) w2 g hk (by (with_reducible exact q_d1 ‹_› q_m2))
  refine hG ?_
  have hr := ar_le w2
  refine ⟨_, ?_, fun σ => b_ahead (q := ar b) (x1.small hn (ar_le w1).2) (y1.small hn hr.2) hn hr.1 hr.2 x2 y2 (c_arity b w2 (by (with_reducible exact q_d1 ‹_› q_m2)))⟩
  refine Classical.byContradiction fun hG => ?_
  obtain ⟨s, hs⟩ : ∃ s, ar b = s + 1 := ⟨ar b - 1, by exact (Nat.sub_add_cancel hr.1).symm⟩
  refine hG ?_
  show Rp n (ar b) _ (fun t => sem n B a en (t.take 1) && sem n B b en t)
  rw [w3] at x1
  rw [hs] at y1 ⊢
  exact O_ahead (by (with_reducible exact q_np ‹_›)) x1 y1
theorem lvE_join (hn : n = 2 ∨ n = 3) {a b : Ex} (hA : LvE cells n B a) (hC : LvE cells n B b) : LvE cells n B (.join a b) := fun en m hw g hk hm => by
  refine Classical.byContradiction fun hG => ?_
  obtain ⟨w1, w2, w3⟩ := hw
  have hm : 5 + max (dep a) (dep b) ≤ m := hm
  obtain ⟨i, rfl⟩ : ∃ k, m = k + 2 := ⟨m - 2, by (with_reducible exact q_sa ‹5 + _ ≤ _› (by decide))⟩
  obtain ⟨x, x1, x2⟩ := hA en (i + 1) w1 g hk (by (with_reducible exact q_d1 ‹_› q_m1))
  obtain ⟨y, y1, y2⟩ := hC en (i + 1) w2 g hk (by (with_reducible exact q_d1 ‹_› q_m2))
  refine hG ?_
  have hra := ar_le w1
  have hr := ar_le w2
  have := pow27 hn hra.2
  refine ⟨_, ?_, fun σ => b_join (q := ar b) (N := n ^ ar a) (by (with_reducible exact q_le ‹_› (by decide))) x1.lt (x1.small hn (ar_le w1).2) (y1.small hn hr.2) hn hr.1 hr.2 x2 y2 (c_arity b w2 (by (with_reducible exact q_d1 ‹_› q_m2)))⟩
  refine Classical.byContradiction fun hG => ?_
  obtain ⟨p, hp⟩ : ∃ p, ar a = p + 1 := ⟨ar a - 1, by exact (Nat.sub_add_cancel hra.1).symm⟩
  obtain ⟨q, hq⟩ : ∃ q, ar b = q + 1 := ⟨ar b - 1, by exact (Nat.sub_add_cancel hr.1).symm⟩
  refine hG ?_
  show Rp n (ar a + ar b - 2) _ (fun t => (List.range n).any fun y => sem n B a en (t.take (ar a - 1) ++ [(y : Int)]) && sem n B b en ((y : Int) :: t.drop (ar a - 1)))
  rw [hp] at x1 ⊢
  rw [hq] at y1 ⊢
  rw [show p + 1 + (q + 1) - 2 = p + q by exact q_281]
  exact O_join (by (with_reducible exact q_np ‹_›)) x1 y1
theorem lvE_either {f : Fm} {a b : Ex} (hF : LvF cells n B f) (hA : LvE cells n B a) (hC : LvE cells n B b) : LvE cells n B (.either f a b) := fun en m hw g hk hm => by
  refine Classical.byContradiction fun hG => ?_
  obtain ⟨w0, w1, w2, w3⟩ := hw
  have hm : 5 + max (depF f) (max (dep a) (dep b)) ≤ m := hm
  obtain ⟨i, rfl⟩ : ∃ k, m = k + 1 := ⟨m - 1, by (with_reducible exact q_sa ‹5 + _ ≤ _› (by decide))⟩
  obtain ⟨x, x1, x2⟩ := hA en i w1 g hk (by (with_reducible exact q_d0 ‹5 + _ ≤ _› (by decide) q_m3))
  obtain ⟨y, y1, y2⟩ := hC en i w2 g hk (by (with_reducible exact q_d0 ‹5 + _ ≤ _› (by decide) q_m4))
  refine hG ?_
  have hf := hF en i w0 g hk (by (with_reducible exact q_d0 ‹5 + _ ≤ _› (by decide) q_m1))
  have key : ∀ σ, callF (tab cells) fns (i + 1) 232 [enc (.either f a b), wv n (bitL B), encEl en] σ = some (if semF n B f en then PV.int x else .int y, σ) := fun σ => b_either hf x2 y2
  show ∃ b_1, Rp n (ar a) b_1 (fun t => if semF n B f en then sem n B a en t else sem n B b en t) ∧ _
  cases hs : semF n B f en
  · refine ⟨y, ?_, fun σ => ?_⟩
    · rw [w3]; simpa using y1
    · have := key σ; rw [hs] at this; exact this
  · refine ⟨x, ?_, fun σ => ?_⟩
    · simpa using x1
    · have := key σ; rw [hs] at this; exact this
theorem lvF_some (hn : n = 2 ∨ n = 3) {e : Ex} (hE : LvE cells n B e) : LvF cells n B (.some e) := fun en m hw g hk hm σ => by
  have hm : 5 + dep e ≤ m := hm
  refine Classical.byContradiction fun hG => ?_
  obtain ⟨i, rfl⟩ : ∃ k, m = k + 1 := ⟨m - 1, by (with_reducible exact q_sa ‹5 + _ ≤ _› (by decide))⟩
  obtain ⟨x, x1, x2⟩ := hE en i hw g hk (by (with_reducible exact q_d0 ‹5 + _ ≤ _› (by decide) (Nat.le_refl _)))
  refine hG ?_
  refine (h_some x2).trans ?_
  have : decide (0 < x) = (allT n (ar e)).any (sem n B e en) := by
    refine Bool.eq_iff_iff.mpr ?_
    rw [decide_eq_true_eq, List.any_eq_true]
    constructor
    · intro h
      refine Classical.byContradiction fun hG => ?_
      obtain ⟨j, hj⟩ := Nat.exists_testBit_of_ne_zero (Nat.ne_of_gt h)
      obtain ⟨t, ht, _, hp⟩ := (x1 j).mp hj
      refine hG ?_
      exact ⟨t, ht, hp⟩
    · rintro ⟨t, ht, hp⟩
      refine Nat.pos_of_ne_zero fun h0 => ?_
      have := x1.at ht
      rw [h0, hp] at this; simp at this
  rw [this]; rfl
theorem lvF_inn {a b : Ex} (hA : LvE cells n B a) (hC : LvE cells n B b) : LvF cells n B (.inn a b) := fun en m hw g hk hm σ => by
  refine Classical.byContradiction fun hG => ?_
  obtain ⟨w1, w2, w3⟩ := hw
  have hm : 5 + max (dep a) (dep b) ≤ m := hm
  obtain ⟨i, rfl⟩ : ∃ k, m = k + 1 := ⟨m - 1, by (with_reducible exact q_sa ‹5 + _ ≤ _› (by decide))⟩
  obtain ⟨x, x1, x2⟩ := hA en i w1 g hk (by (with_reducible exact q_d0 ‹5 + _ ≤ _› (by decide) q_m1))
  obtain ⟨y, y1, y2⟩ := hC en i w2 g hk (by (with_reducible exact q_d0 ‹5 + _ ≤ _› (by decide) q_m2))
  refine hG ?_
  rw [← w3] at y1
  refine (h_in x2 y2).trans ?_
  have hm := O_minus x1 y1
  have : decide (x - (x &&& y) = 0) = (allT n (ar a)).all fun t => !sem n B a en t || sem n B b en t := by
    refine Bool.eq_iff_iff.mpr ?_
    rw [decide_eq_true_eq, List.all_eq_true]
    constructor
    · intro h t ht
      have := hm.at ht
      rw [h] at this
      simp only [Nat.zero_testBit] at this
      cases h1 : sem n B a en t <;> cases h2 : sem n B b en t <;> simp [h1, h2] at this ⊢
    · intro h
      refine Nat.eq_of_testBit_eq fun j => ?_
      rw [Nat.zero_testBit, Bool.eq_false_iff]
      intro q
      refine Classical.byContradiction fun hG => ?_
      obtain ⟨t, ht, _, hp⟩ := (hm j).mp q
      refine hG ?_
      have := h t ht
      cases h1 : sem n B a en t <;> cases h2 : sem n B b en t <;> simp [h1, h2] at this hp
  rw [this]; rfl
theorem lvF_not {f : Fm} (hF : LvF cells n B f) : LvF cells n B (.not f) := fun en m hw g hk hm σ => by
  have hm : 5 + depF f ≤ m := hm
  refine Classical.byContradiction fun hG => ?_
  obtain ⟨i, rfl⟩ : ∃ k, m = k + 1 := ⟨m - 1, by (with_reducible exact q_sa ‹5 + _ ≤ _› (by decide))⟩
  refine hG ?_
  exact h_not (hF en i hw g hk (by (with_reducible exact q_d0 ‹5 + _ ≤ _› (by decide) (Nat.le_refl _))))
theorem lvF_lt (hn : n = 2 ∨ n = 3) {k : Int} {e : Ex} (hE : LvE cells n B e) : LvF cells n B (.lt k e) := fun en m hw g hk hm σ => by
  have hm : 5 + dep e ≤ m := hm
  refine Classical.byContradiction fun hG => ?_
  obtain ⟨i, rfl⟩ : ∃ k, m = k + 2 := ⟨m - 2, by (with_reducible exact q_sa ‹5 + _ ≤ _› (by decide))⟩
  obtain ⟨x, x1, x2⟩ := hE en (i + 1) hw g hk (by (with_reducible exact q_d1 ‹_› (Nat.le_refl _)))
  refine hG ?_
  have := pow27 hn (ar_le hw).2
  refine (h_lt (N := n ^ ar e) (by (with_reducible exact q_le ‹_› (by decide))) x1.lt x2).trans ?_
  have e1 := congrArg List.length (x1.tuples (by (with_reducible exact q_np ‹_›)))
  rw [List.length_map] at e1
  rw [e1]; rfl
mutual
theorem lvE_all (hn : n = 2 ∨ n = 3) (hB : ∀ k, k ≤ 2 → B k < 2 ^ (n ^ (k + 1))) : ∀ e, LvE cells n B e
  | .rel _ => lvE_rel hn hB
  | .univ => lvE_univ hn
  | .iden => lvE_iden hn
  | .none _ => lvE_none
  | .var _ => lvE_var hn
  | .comp ds f => lvE_comp hn (lvD_all hn hB ds) (lvF_all hn hB f)
  | .minus a b => lvE_minus (lvE_all hn hB a) (lvE_all hn hB b)
  | .product a b => lvE_product hn (lvE_all hn hB a) (lvE_all hn hB b)
  | .join a b => lvE_join hn (lvE_all hn hB a) (lvE_all hn hB b)
  | .override a b => lvE_override hn (lvE_all hn hB a) (lvE_all hn hB b)
  | .ahead a b => lvE_ahead hn (lvE_all hn hB a) (lvE_all hn hB b)
  | .behind a b => lvE_behind hn (lvE_all hn hB a) (lvE_all hn hB b)
  | .either f a b => lvE_either (lvF_all hn hB f) (lvE_all hn hB a) (lvE_all hn hB b)
theorem lvF_all (hn : n = 2 ∨ n = 3) (hB : ∀ k, k ≤ 2 → B k < 2 ^ (n ^ (k + 1))) : ∀ f, LvF cells n B f
  | .some e => lvF_some hn (lvE_all hn hB e)
  | .inn a b => lvF_inn (lvE_all hn hB a) (lvE_all hn hB b)
  | .not f => lvF_not (lvF_all hn hB f)
  | .lt _ e => lvF_lt hn (lvE_all hn hB e)
theorem lvD_all (hn : n = 2 ∨ n = 3) (hB : ∀ k, k ≤ 2 → B k < 2 ^ (n ^ (k + 1))) : ∀ ds, LvD cells n B ds
  | .nil => lvD_nil hn
  | .cons _ e r => lvD_cons hn (lvE_all hn hB e) (lvD_all hn hB r)
end
end

/- part X20 -/
-- a name's value
-- an expression's step
-- an if, decided
section
variable {cells : List Int} {m σ : Nat}
theorem c_draw (hc : cells.length ≤ 60) {k : Nat} (hk : 0 < k) (hσ : σ ≤ 1000000) : ∃ v : Nat, v < k ∧ callF (tab cells) fns (m + 1) 180 [.tape, .int k] σ = some (.int v, σ + 1) := by
  have fm : ∀ a : Int, 0 ≤ a.fmod k ∧ a.fmod k < k := fun a => by
    rw [Int.fmod_eq_emod_of_nonneg _ (by (with_reducible exact q_c0))]
    exact ⟨Int.emod_nonneg _ (by exact q_ne0 hk), Int.emod_lt_of_pos _ (by exact Int.natCast_pos.mpr hk)⟩
  have md : ∀ a : Int, binOp .Mod (.int a) (.int k) = some (.int (((a.fmod k).toNat : Nat) : Int)) := fun a => by
    show (binI .Mod a k).map PV.int = _
    unfold binI; dsimp only; rw [if_neg (by exact q_ne0 hk)]
    have := (fm a).1
    simp only [Option.map_some]; congr 2; (with_reducible exact q_to ‹_›)
  have hlen : builtinP ("len" : Str) [.list (cells.map .int)] = some (.int cells.length) := by
    rw [bi_len (by simp only [small, decide_eq_true_eq, List.length_map]; (with_reducible exact q_le ‹_› (by decide))), List.length_map]
  have body : ∀ {p : PV}, (∀ ρ : Rho, ρ ("many" : Str) = some (.val (.int k)) → ρ ("spot" : Str) = some (.val (.int σ)) → ρ ("cells" : Str) = some (.val (.list (cells.map .int))) → Rets (tab cells) (callF (tab cells) fns m) 38 f_l_draw.names ρ (f_l_draw.body.drop 2) (σ + 1) p (σ + 1)) → callF (tab cells) fns (m + 1) 180 [.tape, .int k] σ = some (p, σ + 1) := fun h => by
    refine call_ret rfl rfl rfl ?_
    have hbd : f_l_draw.body = [_, _, _, _] := rfl
    rw [hbd]
    apply rt_next
    · exact s_tup (ss := [.val (.int σ), .val (.list (cells.map .int))]) (σ₁ := σ) (by rfl) (by rfl) (os_cons (σ₁ := σ) (o_plain (by rfl) (x_sub (σ₁ := σ) (σ₂ := σ) (a := .tape) (b := .str ("spot" : Str)) (by rfl) (x_name (by rfl) (by walk_at "n")) x_str rfl)) (os_cons (σ₁ := σ) (o_plain (by rfl) (x_sub (σ₁ := σ) (σ₂ := σ) (a := .tape) (b := .str ("cells" : Str)) (by rfl) (x_name (by rfl) (by walk_at "n")) x_str rfl)) os_nil))
    simp only [updAll]
    refine rt_next (ρ₁ := _) (σ₁ := σ + 1) ((s_tape (σ₁ := σ) (σ₂ := σ) (j := (σ : Int) + 1) (by rfl) (x_bin (σ₁ := σ) (σ₂ := σ) (a := .int σ) (b := .int 1) (x_name (by rfl) (by walk_at "n")) x_int bo_add) (by walk_at "n") x_str (by exact q_n1)).trans (by rw [show ((σ : Int) + 1).toNat = σ + 1 by ((subst_vars; first | assumption | rfl | decide))])) ?_
    exact h _ (by walk_at "n") (by walk_at "n") (by walk_at "n")
  by_cases hs : σ < cells.length
  · have fmv := fm (cells[σ])
    refine ⟨((cells[σ]).fmod k).toNat, by exact (Int.toNat_lt fmv.1).mpr fmv.2, body fun ρ j1 j2 j3 => ?_⟩
    refine rt_ifT (σ₁ := σ + 1) (t_cmp (σ₁ := σ + 1) (σ₂ := σ + 1) (a := .int σ) (b := .int cells.length) (by rfl) (x_name (by rfl) (by walk_at "n")) (x_callB (by rfl) (by rfl) (xs_cons (σ₁ := σ + 1) (x_name (by rfl) (by walk_at "n")) xs_nil) hlen) (by show some (decide ((σ : Int) < cells.length)) = _; rw [decide_eq_true (by (with_reducible exact q_c1 ‹_›))])) ?_
    with_reducible apply rt_ret
    refine x_bin (σ₁ := σ + 1) (σ₂ := σ + 1) (a := .int cells[σ]) (b := .int k) (x_sub (σ₁ := σ + 1) (σ₂ := σ + 1) (a := .list (cells.map .int)) (b := .int σ) (by rfl) (x_name (by rfl) (by walk_at "n")) (x_name (by rfl) (by walk_at "n")) ?_) (x_name (by rfl) (by walk_at "n")) (md _)
    simp only [index]
    rw [if_pos (by simp; exact ⟨q_le hc rfl, hs⟩)]
    simp [hs]
  · have e61 : binOp .Mod (.int (5 * σ * σ + 3 * σ + 7 * cells.length + 2 : Nat)) (.int 61) = some (.int ((5 * σ * σ + 3 * σ + 7 * cells.length + 2) % 61 : Nat)) := bo_mod (b := 61) (by decide)
    refine ⟨(5 * σ * σ + 3 * σ + 7 * cells.length + 2) % 61 % k, Nat.mod_lt _ hk, body fun ρ j1 j2 j3 => ?_⟩
    refine rt_ifF (σ₁ := σ + 1) (t_cmp (σ₁ := σ + 1) (σ₂ := σ + 1) (a := .int σ) (b := .int cells.length) (by rfl) (x_name (by rfl) (by walk_at "n")) (x_callB (by rfl) (by rfl) (xs_cons (σ₁ := σ + 1) (x_name (by rfl) (by walk_at "n")) xs_nil) hlen) (by show some (decide ((σ : Int) < cells.length)) = _; rw [decide_eq_false (by exact q_nil hs)])) ?_
    with_reducible apply rt_ret
    refine x_bin (σ₁ := σ + 1) (σ₂ := σ + 1) (a := .int ((5 * σ * σ + 3 * σ + 7 * cells.length + 2) % 61 : Nat)) (b := .int k) (x_bin (σ₁ := σ + 1) (σ₂ := σ + 1) (a := .int (5 * σ * σ + 3 * σ + 7 * cells.length + 2 : Nat)) (b := .int 61) ?_ x_int e61) (x_name (by rfl) (by walk_at "n")) (bo_mod (by (with_reducible exact Nat.ne_of_gt ‹_›)))
    refine x_bin (σ₁ := σ + 1) (σ₂ := σ + 1) (a := .int (5 * σ * σ + 3 * σ + 7 * cells.length : Nat)) (b := .int 2) ?_ x_int (by rw [bo_add]; rfl)
    refine x_bin (σ₁ := σ + 1) (σ₂ := σ + 1) (a := .int (5 * σ * σ + 3 * σ : Nat)) (b := .int (7 * cells.length : Nat)) ?_ ?_ (by rw [bo_add]; congr 2)
    · refine x_bin (σ₁ := σ + 1) (σ₂ := σ + 1) (a := .int (5 * σ * σ : Nat)) (b := .int (3 * σ : Nat)) ?_ ?_ (by rw [bo_add]; congr 2)
      · exact x_bin (σ₁ := σ + 1) (σ₂ := σ + 1) (a := .int (5 * σ : Nat)) (b := .int σ) (x_bin (σ₁ := σ + 1) (σ₂ := σ + 1) (a := .int (5 : Nat)) (b := .int σ) x_int (x_name (by rfl) (by walk_at "n")) (bo_mul (by decide))) (x_name (by rfl) (by walk_at "n")) (bo_mul (by exact Nat.lt_of_le_of_lt (Nat.mul_le_mul_left 5 hσ) (by decide)))
      · exact x_bin (σ₁ := σ + 1) (σ₂ := σ + 1) (a := .int (3 : Nat)) (b := .int σ) x_int (x_name (by rfl) (by walk_at "n")) (bo_mul (by decide))
    · exact x_bin (σ₁ := σ + 1) (σ₂ := σ + 1) (a := .int (7 : Nat)) (b := .int cells.length) x_int (x_callB (by rfl) (by rfl) (xs_cons (σ₁ := σ + 1) (x_name (by rfl) (by walk_at "n")) xs_nil) hlen) (bo_mul (by decide))
noncomputable abbrev encN (ks : List Str) : PV := .list (ks.map .str)
theorem idx_list {l : List PV} {v : Nat} {p : PV} (hl : l.length ≤ 1000) (h : l[v]? = some p) : index cells σ (.list l) (.int v) = some p := by
  have hv : v < l.length := by
    rcases Nat.lt_or_ge v l.length with q | q
    · exact q
    · rw [List.getElem?_eq_none q] at h; cases h
  simp only [index]
  rw [if_pos (by exact ⟨q_le hl rfl, q_c2 hv⟩)]
  simpa using h
theorem c_leaf (hc : cells.length ≤ 60) {ks : List Str} (hks : ks.length ≤ 50) {r : Nat} (hr : 1 ≤ r ∧ r ≤ 3) (hσ : σ ≤ 1000000) : ∃ e, WE ks e ∧ ar e = r ∧ dep e = 5 ∧ callF (tab cells) fns (m + 2) 185 [.tape, .int r, encN ks] σ = some (enc e, σ + 1) := by
  have sK : small ks.length = true := by simp only [small, decide_eq_true_eq]; (with_reducible exact q_le ‹_› (by decide))
  have main : ∀ (l : List PV) (hl : 0 < l.length) (hl2 : l.length ≤ 100), (∀ ρ : Rho, ∀ σ', σ' = σ → ρ ("some" : Str) = some (.val (.list l)) → ρ ("tape" : Str) = some (.val .tape) → ∀ v, callF (tab cells) fns (m + 1) 180 [.tape, .int l.length] σ = some (.int (v : Nat), σ + 1) → ∀ p, l[v]? = some p →
      Rets (tab cells) (callF (tab cells) fns (m + 1)) 39 f_l_leaf.names ρ (f_l_leaf.body.drop 1) σ p (σ + 1)) := by
    intro l hl hl2 ρ σ' _ j1 j2 v hd p hp
    have hlen : builtinP ("len" : Str) [.list l] = some (.int l.length) := bi_len (by simp only [small, decide_eq_true_eq]; (with_reducible exact q_le ‹_› (by decide)))
    refine rt_ret ?_
    refine x_sub (σ₁ := σ) (σ₂ := σ + 1) (a := .list l) (b := .int v) (by rfl) (x_name (by rfl) (by walk_at "n")) ?_ (idx_list (by (with_reducible exact q_le ‹_› (by decide))) hp)
    exact x_callF (σ₁ := σ) (ps := [.tape, .int l.length]) (by rfl) (by rfl) (xs_cons (σ₁ := σ) (x_name (by rfl) (by walk_at "n")) (xs_cons (σ₁ := σ) (x_callB (by rfl) (by rfl) (xs_cons (σ₁ := σ) (x_name (by rfl) (by walk_at "n")) xs_nil) hlen) xs_nil)) hd
  rcases (show r = 1 ∨ r = 2 ∨ r = 3 by exact q_r3 hr) with rfl | rfl | rfl
  · let l : List PV := [.tup [.str "rel", .int 0], .tup [.str "univ"]] ++ ks.map fun x => .tup [.str "var", .str x]
    have ll : l.length = 2 + ks.length := by simp [l]; exact Nat.add_comm _ 2
    refine Classical.byContradiction fun hG => ?_
    obtain ⟨v, hv, hd⟩ := c_draw (cells := cells) (m := m) (σ := σ) hc (k := l.length) (by exact q_pos2 ll) hσ
    obtain ⟨e, h1, h2, h3, h4⟩ : ∃ e, WE ks e ∧ ar e = 1 ∧ dep e = 5 ∧ l[v]? = some (enc e) := by
      rcases v with _ | _ | v
      · exact ⟨.rel 0, by simp [WE], rfl, rfl, rfl⟩
      · exact ⟨.univ, by simp [WE], rfl, rfl, rfl⟩
      · have hvk : v < ks.length := by exact q_v2 hv ll
        refine ⟨.var ks[v], List.getElem_mem hvk, rfl, rfl, ?_⟩
        show (ks.map fun x => PV.tup [.str "var", .str x])[v]? = _
        rw [List.getElem?_map, List.getElem?_eq_getElem hvk]; rfl
    refine hG ?_
    refine ⟨e, h1, h2, h3, ?_⟩
    refine call_ret rfl rfl rfl ?_
    have hbd : f_l_leaf.body = [_, _] := rfl
    rw [hbd]
    refine rt_next (s_ifT (σ₁ := σ) ?_ (ss_next (s_asg (σ₁ := σ) (by rfl) (o_plain (p := .list l) (by rfl) ?_)) ss_nil)) (main l (by exact q_pos2 ll) (by exact q_100 ll hks) _ _ rfl (by walk_at "n") (by walk_at "n") v hd _ h4)
    · repeat' walk_at "e"
    · refine x_bin (σ₁ := σ) (σ₂ := σ) (a := .list [.tup [.str "rel", .int 0], .tup [.str "univ"]]) (b := .list (ks.map fun x => .tup [.str "var", .str x])) ?_ ?_ ?_
      · repeat' walk_at "e"
      · refine x_compM (σ₁ := σ) (g := PV.str) (q := fun x => .tup [.str "var", .str x]) ks (by rfl) (i_map (by rfl) (x_name (by rfl) (by walk_at "n")) rfl sK) sK fun x _ => ?_
        apply turn_in
        repeat' walk_at "e"
      · show (if small _ then _ else _) = _
        rw [if_pos (by simp only [small, decide_eq_true_eq, List.length_map, List.length_cons, List.length_nil]; exact q_02 hks)]
  · let l : List PV := [.tup [.str "rel", .int 1], .tup [.str "iden"]]
    refine Classical.byContradiction fun hG => ?_
    obtain ⟨v, hv, hd⟩ := c_draw (cells := cells) (m := m) (σ := σ) hc (k := 2) (by (with_reducible exact Nat.succ_pos _)) hσ
    obtain ⟨e, h1, h2, h3, h4⟩ : ∃ e, WE ks e ∧ ar e = 2 ∧ dep e = 5 ∧ l[v]? = some (enc e) := by
      rcases v with _ | _ | v
      · exact ⟨.rel 1, by simp [WE], rfl, rfl, rfl⟩
      · exact ⟨.iden, by simp [WE], rfl, rfl, rfl⟩
      · exact (q_no2 hv).elim
    refine hG ?_
    refine ⟨e, h1, h2, h3, ?_⟩
    refine call_ret rfl rfl rfl ?_
    have hbd : f_l_leaf.body = [_, _] := rfl
    rw [hbd]
    refine rt_next (s_ifF (σ₁ := σ) ?_ (ss_next (s_asg (σ₁ := σ) (by rfl) (o_plain (p := .list l) (by rfl) ?_)) ss_nil)) (main l (by decide) (by decide) _ _ rfl (by walk_at "n") (by walk_at "n") v hd _ h4)
    · repeat' walk_at "e"
    · repeat' walk_at "e"
  · let l : List PV := [.tup [.str "rel", .int 2], .tup [.str "none", .int 3]]
    refine Classical.byContradiction fun hG => ?_
    obtain ⟨v, hv, hd⟩ := c_draw (cells := cells) (m := m) (σ := σ) hc (k := 2) (by (with_reducible exact Nat.succ_pos _)) hσ
    obtain ⟨e, h1, h2, h3, h4⟩ : ∃ e, WE ks e ∧ ar e = 3 ∧ dep e = 5 ∧ l[v]? = some (enc e) := by
      rcases v with _ | _ | v
      · exact ⟨.rel 2, by simp [WE], rfl, rfl, rfl⟩
      · exact ⟨.none 3, by simp [WE], rfl, rfl, rfl⟩
      · exact (q_no2 hv).elim
    refine hG ?_
    refine ⟨e, h1, h2, h3, ?_⟩
    refine call_ret rfl rfl rfl ?_
    have hbd : f_l_leaf.body = [_, _] := rfl
    rw [hbd]
    refine rt_next (s_ifF (σ₁ := σ) ?_ (ss_next (s_asg (σ₁ := σ) (by rfl) (o_plain (p := .list l) (by rfl) ?_)) ss_nil)) (main l (by decide) (by decide) _ _ rfl (by walk_at "n") (by walk_at "n") v hd _ h4)
    · repeat' walk_at "e"
    · repeat' walk_at "e"
end

/- part X21 -/
-- a name's value
-- an expression's step
-- an if, decided
section
variable {cells : List Int} {m σ : Nat}
theorem c_truth (hc : cells.length ≤ 60) {ks : List Str} (hks : ks.length ≤ 50) (hσ : σ + 10 ≤ 1000000) : ∃ f σ', WF ks f ∧ depF f ≤ 20 ∧ σ' ≤ σ + 6 ∧ callF (tab cells) fns (m + 3) 192 [.tape, encN ks] σ = some (encF f, σ') := by
  refine Classical.byContradiction fun hG => ?_
  obtain ⟨w, hw, d1⟩ := c_draw (cells := cells) (m := m + 1) (σ := σ) hc (k := 4) (by decide) (by (with_reducible exact q_slack0 ‹_›))
  obtain ⟨v, hv, d2⟩ := c_draw (cells := cells) (m := m + 1) (σ := σ + 1) hc (k := 2) (by decide) (by (with_reducible exact q_slack ‹_› (by decide)))
  obtain ⟨e, e1, e2, e3, e4⟩ := c_leaf (cells := cells) (m := m) (σ := σ + 1 + 1) hc hks (r := 1 + v) (by exact q_12 hv) (by exact q_slack (d := 2) hσ rfl)
  refine hG ?_
  have hadd : binOp .Add (.int 1) (.int v) = some (.int (1 + v : Nat)) := by rw [bo_add]; congr 2
  have d1 : callF (tab cells) fns (m + 2) 180 [.tape, .int 4] σ = some (.int w, σ + 1) := d1
  have d2 : callF (tab cells) fns (m + 2) 180 [.tape, .int 2] (σ + 1) = some (.int v, σ + 1 + 1) := d2
  have start : ∀ {p : PV} {σ' : Nat}, (∀ ρ : Rho, ρ ("tape" : Str) = some (.val .tape) → ρ ("known" : Str) = some (.val (encN ks)) → ρ ("way" : Str) = some (.val (.int w)) → ρ ("arity" : Str) = some (.val (.int (1 + v : Nat))) → ρ ("one" : Str) = some (.val (enc e)) → Rets (tab cells) (callF (tab cells) fns (m + 2)) 38 f_l_truth.names ρ (f_l_truth.body.drop 2) (σ + 3) p σ') →
      callF (tab cells) fns (m + 3) 192 [.tape, encN ks] σ = some (p, σ') := fun h => by
    refine call_ret rfl rfl rfl ?_
    have hbd : f_l_truth.body = [_, _, _, _, _, _] := rfl
    rw [hbd]
    refine rt_next (σ₁ := σ + 2) (s_tup (ss := [.val (.int w), .val (.int (1 + v : Nat))]) (by rfl) (by rfl) (os_cons (σ₁ := σ + 1) (o_plain (by rfl) ?_) (os_cons (σ₁ := σ + 2) (o_plain (by rfl) ?_) os_nil))) ?_
    · repeat' walk_at "e"
    · repeat' walk_at "e"
    simp only [updAll]
    refine rt_next (σ₁ := σ + 3) (s_asg (s := .val (enc e)) (by rfl) (o_plain (by rfl) ?_)) ?_
    · repeat' walk_at "e"
    exact h _ (by walk_at "n") (by walk_at "n") (by walk_at "n") (by walk_at "n") (by walk_at "n")
  rcases (show w = 0 ∨ w = 1 ∨ w = 2 ∨ w = 3 by exact q_lt4 hw) with rfl | rfl | rfl | rfl
  · refine ⟨.some e, σ + 3, e1, by simp only [depF]; exact q_5 e3, by (simp), start fun ρ j1 j2 j3 j4 j5 => ?_⟩
    refine rt_ifT (σ₁ := σ + 3) ?_ (rt_ret ?_)
    · repeat' walk_at "e"
    · show ev _ _ _ _ _ _ _ = some (.tup [.str ("some" : Str), enc e], _)
      repeat' walk_at "e"
  · obtain ⟨g, g1, g2, g3, g4⟩ := c_leaf (cells := cells) (m := m) (σ := σ + 3) hc hks (r := 1 + v) (by exact q_12 hv) (by (with_reducible exact q_slack ‹_› (by decide)))
    refine ⟨.inn g e, σ + 4, by simp only [WF]; exact ⟨g1, e1, by rw [g2, e2]⟩, by simp only [depF]; exact q_55 g3 e3, by (simp), start fun ρ j1 j2 j3 j4 j5 => ?_⟩
    refine rt_ifF (σ₁ := σ + 3) ?_ (rt_ifT (σ₁ := σ + 3) ?_ (rt_ret ?_))
    · repeat' walk_at "e"
    · repeat' walk_at "e"
    · show ev _ _ _ _ _ _ _ = some (.tup [.str ("in" : Str), enc g, enc e], _)
      repeat' walk_at "e"
  · obtain ⟨g, g1, g2, g3, g4⟩ := c_leaf (cells := cells) (m := m) (σ := σ + 3) hc hks (r := 1) (by (with_reducible exact (by decide))) (by (with_reducible exact q_slack ‹_› (by decide)))
    refine Classical.byContradiction fun hG => ?_
    obtain ⟨h, h1, h2, h3, h4⟩ := c_leaf (cells := cells) (m := m) (σ := σ + 3 + 1) hc hks (r := 1) (by (with_reducible exact (by decide))) (by exact q_slack (d := 4) hσ rfl)
    refine hG ?_
    have g4 : callF (tab cells) fns (m + 2) 185 [.tape, .int 1, encN ks] (σ + 3) = some (enc g, σ + 3 + 1) := g4
    have h4 : callF (tab cells) fns (m + 2) 185 [.tape, .int 1, encN ks] (σ + 3 + 1) = some (enc h, σ + 3 + 1 + 1) := h4
    refine ⟨.not (.inn (.product g h) (.rel 1)), σ + 3 + 1 + 1, by simp only [WF, WE, ar]; exact ⟨⟨g1, h1, g2, by (with_reducible exact q_le (Nat.le_of_eq ‹_›) (by decide))⟩, by (with_reducible exact Nat.le_add_left _ _), by exact q_11 g2 h2⟩, by simp only [depF, dep]; exact q_555 g3 h3, by (with_reducible exact Nat.le_succ _), start fun ρ j1 j2 j3 j4 j5 => ?_⟩
    refine rt_ifF (σ₁ := σ + 3) ?_ (rt_ifF (σ₁ := σ + 3) ?_ (rt_ifT (σ₁ := σ + 3) ?_ (rt_ret ?_)))
    · repeat' walk_at "e"
    · repeat' walk_at "e"
    · repeat' walk_at "e"
    · show ev _ _ _ _ _ _ _ = some (.tup [.str ("not" : Str), .tup [.str ("in" : Str), .tup [.str ("product" : Str), enc g, enc h], .tup [.str ("rel" : Str), .int 1]]], _)
      repeat' walk_at "e"
  · obtain ⟨u, hu, d3⟩ := c_draw (cells := cells) (m := m + 1) (σ := σ + 3) hc (k := 3) (by decide) (by (with_reducible exact q_slack ‹_› (by decide)))
    have d3 : callF (tab cells) fns (m + 2) 180 [.tape, .int 3] (σ + 3) = some (.int u, σ + 3 + 1) := d3
    refine ⟨.lt u e, σ + 3 + 1, e1, by simp only [depF]; exact q_5 e3, by (simp), start fun ρ j1 j2 j3 j4 j5 => ?_⟩
    refine rt_ifF (σ₁ := σ + 3) ?_ (rt_ifF (σ₁ := σ + 3) ?_ (rt_ifF (σ₁ := σ + 3) ?_ (rt_ret ?_)))
    · repeat' walk_at "e"
    · repeat' walk_at "e"
    · repeat' walk_at "e"
    · show ev _ _ _ _ _ _ _ = some (.tup [.str ("lt" : Str), .tup [.str ("num" : Str), .int u], .tup [.str ("count" : Str), enc e]], _)
      repeat' walk_at "e"
end

/- part X22 -/
-- a name's value
-- an expression's step
-- an if, decided
theorem for_inv2 {α : Type} {g : α → PV} {f : PV → Rho → Nat → Option (Res × Rho × Nat)} (I : List α → Rho → Nat → Prop) : ∀ (L pre : List α) (ρ : Rho) (σ : Nat), I pre ρ σ → (∀ p x q ρ σ, p ++ x :: q = pre ++ L → I p ρ σ → ∃ ρ' σ', f (g x) ρ σ = some (.next, ρ', σ') ∧ I (p ++ [x]) ρ' σ') →
    ∃ ρ' σ', forFold f (L.map g) ρ σ = some (.next, ρ', σ') ∧ I (pre ++ L) ρ' σ'
  | [], pre, ρ, σ, h, _ => ⟨ρ, σ, rfl, by simpa using h⟩
  | x :: L, pre, ρ, σ, h, st => by
    refine Classical.byContradiction fun hG => ?_
    obtain ⟨ρ₁, σ₁, e1, i1⟩ := st pre x L ρ σ rfl h
    obtain ⟨ρ₂, σ₂, e2, i2⟩ := for_inv2 I L (pre ++ [x]) ρ₁ σ₁ i1 fun p y q r s hy => st p y q r s (by rw [hy]; simp)
    refine hG ?_
    exact ⟨ρ₂, σ₂, by rw [List.map_cons]; exact f_next e1 e2, by simpa using i2⟩
theorem st_for2 {T : Tab} {C : Orc} {n : Nat} {nm : NM} {ρ : Rho} {σ σ₁ : Nat} {α : Type} {g : α → PV} {L : List α} {t it : Expr} {body : List Stmt} {pos : Pos} (I : List α → Rho → Nat → Prop) (h0 : (!targetsOk nm 4 t || isSetE it || isEnumE it) = false) (h1 : evI T C n nm (frz (reads it) ρ) it σ = some (L.map g, σ₁)) (hi : I [] (frz (reads it) ρ) σ₁)
    (st : ∀ pre x q ρ σ, pre ++ x :: q = L → I pre ρ σ → ∃ ρ' σ', forTurn T C n nm t body (g x) ρ σ = some (.next, ρ', σ') ∧ I (pre ++ [x]) ρ' σ') : ∃ ρ' σ', evS T C (n + 1) nm ρ (.For t it body [] pos) σ = some (.next, ρ', σ') ∧ I L ρ' σ' := by
  refine Classical.byContradiction fun hG => ?_
  obtain ⟨ρ', σ', e, i⟩ := for_inv2 I L [] _ _ hi (fun p x q ρ σ h => st p x q ρ σ h)
  refine hG ?_
  exact ⟨ρ', σ', s_for h0 h1 e, i⟩
theorem strs_map : ∀ ks : List Str, strs? (ks.map .str) = some ks
  | [] => rfl
  | k :: r => by simp [strs?, strs_map r]
theorem in_names {x : Str} {ks : List Str} : cmpOp .In (.str x) (encN ks) = some (memb x ks) := by
  show inStrs x _ = _
  unfold inStrs; rw [strs_map]; rfl
noncomputable def appD (acc : List (Str × Ex)) (r : Ds) : Ds := acc.foldr (fun d r => .cons d.1 d.2 r) r
theorem appD_len : ∀ (acc : List (Str × Ex)) (r : Ds), (appD acc r).len = acc.length + r.len
  | [], r => by simp [appD]
  | d :: acc, r => by show (appD acc r).len + 1 = _; rw [appD_len acc, List.length_cons]; (with_reducible exact Nat.add_right_comm _ _ _)
theorem appD_enc : ∀ (acc : List (Str × Ex)), encD (appD acc .nil) = acc.map fun d => PV.tup [.str d.1, enc d.2]
  | [] => rfl
  | d :: acc => by show PV.tup [.str d.1, enc d.2] :: encD (appD acc .nil) = _; rw [appD_enc acc]; rfl
theorem appD_dep : ∀ (acc : List (Str × Ex)), (∀ d ∈ acc, dep d.2 ≤ 10) → depD (appD acc .nil) ≤ 10
  | [], _ => by simp [appD, depD]
  | d :: acc, h => by
    show max (dep d.2) (depD (appD acc .nil)) ≤ 10
    have := h d (.head _)
    have := appD_dep acc fun d hd => h d (.tail _ hd)
    exact q_mx ‹_› ‹_›
section
variable {cells : List Int} {m σ : Nat}
theorem c_comp (hc : cells.length ≤ 60) {ks : List Str} (hks : ks.length ≤ 40) {r : Nat} (hr : 1 ≤ r ∧ r ≤ 3) (hσ : σ + 40 ≤ 1000000) : ∃ e σ', WE ks e ∧ ar e = r ∧ dep e ≤ 25 ∧ σ' ≤ σ + 20 ∧ callF (tab cells) fns (m + 4) 199 [.tape, .int r, encN ks] σ = some (enc e, σ') := by
  have sK : small (ks.map PV.str).length = true := by simp only [small, decide_eq_true_eq, List.length_map]; (with_reducible exact q_le ‹_› (by decide))
  have sR : small (List.range r).length = true := by simp only [small, decide_eq_true_eq, List.length_range]; (with_reducible exact q_13c ‹_› (by decide))
  have hlist := bi_list sK
  have loop : ∃ ρ' σ', evS (tab cells) (callF (tab cells) fns (m + 3)) 38 f_l_comp.names (updAll [("decls" : Str), ("inner" : Str)] [.lst [], .val (encN ks)] (frz (readss (eltsE (stT (nthS f_l_comp.body 0)))) (rho0 f_l_comp.params [.tape, .int r, encN ks]))) (nthS f_l_comp.body 1) σ = some (.next, ρ', σ') ∧
      ∃ acc ks', acc.length = (List.range r).length ∧ (∀ q P, WD ks' q P → WD ks (appD acc q) P) ∧ ks'.length ≤ ks.length + acc.length ∧ (∀ d ∈ acc, dep d.2 ≤ 10) ∧ σ' ≤ σ + 3 * acc.length ∧ ρ' ("tape" : Str) = some (.val .tape) ∧ ρ' ("decls" : Str) = some (.lst (acc.map fun d => PV.tup [.str d.1, enc d.2])) ∧ ρ' ("inner" : Str) = some (.val (encN ks')) := by
    refine st_for2 (n := 37) (σ₁ := σ) (g := fun i : Nat => .int i) (L := List.range r) (fun pre ρ σ' => ∃ acc ks', acc.length = pre.length ∧ (∀ q P, WD ks' q P → WD ks (appD acc q) P) ∧ ks'.length ≤ ks.length + acc.length ∧ (∀ d ∈ acc, dep d.2 ≤ 10) ∧ σ' ≤ σ + 3 * acc.length ∧ ρ ("tape" : Str) = some (.val .tape) ∧ ρ ("decls" : Str) = some (.lst (acc.map fun d => PV.tup [.str d.1, enc d.2])) ∧ ρ ("inner" : Str) = some (.val (encN ks')))
      (by rfl) (i_map (by rfl) (x_callB (by rfl) (by rfl) (xs_cons (σ₁ := σ) (x_name (by rfl) (by simp only [updAll]; walk_at "n")) xs_nil) (bi_range (i := (r : Int)) ⟨by (with_reducible exact q_c0), by exact q_iM (q_le hr.2 rfl)⟩)) (it_range (by (with_reducible exact q_13c ‹_› (by decide)))) sR)
      ⟨[], ks, rfl, fun q P h => h, by simp, fun d hd => by (cases hd), by simp, by (simp only [updAll]; walk_at "n"), by (simp only [updAll]; walk_at "n"), by (simp only [updAll]; walk_at "n")⟩ (fun pre t q ρ σ1 hd ⟨acc, ks', a1, a2, a3, a4, a5, j1, j2, j3⟩ => ?_)
    have hpre : pre.length + 1 ≤ 3 := by have := congrArg List.length hd; simp at this; exact q_pq this hr
    have B := q_c22 hks hσ a1 a3 a5 hpre
    refine Classical.byContradiction fun hG => ?_
    obtain ⟨v, hv, d1⟩ := c_draw (cells := cells) (m := m + 2) (σ := σ1) hc (k := 3) (by decide) (by exact q_slack0 B.1)
    obtain ⟨e, e1, e2, e3, e4⟩ := c_leaf (cells := cells) (m := m + 1) (σ := σ1 + 1) hc (ks := ks') (by exact q_le B.2.1 rfl) (r := 1) (by (with_reducible exact (by decide))) (by exact q_slack B.1 rfl)
    obtain ⟨u, hu, d2⟩ := c_draw (cells := cells) (m := m + 2) (σ := σ1 + 1 + 1) hc (k := 2) (by decide) (by exact q_slack (d := 2) B.1 rfl)
    have d1 : callF (tab cells) fns (m + 3) 180 [.tape, .int 3] σ1 = some (.int v, σ1 + 1) := d1
    have d2 : callF (tab cells) fns (m + 3) 180 [.tape, .int 2] (σ1 + 1 + 1) = some (.int u, σ1 + 1 + 1 + 1) := d2
    have e4 : callF (tab cells) fns (m + 3) 185 [.tape, .int 1, encN ks'] (σ1 + 1) = some (enc e, σ1 + 1 + 1) := e4
    obtain ⟨x, hx⟩ : ∃ x : Str, [PV.str ("x" : Str), .str ("y" : Str), .str ("z" : Str)][v]? = some (.str x) := by
      rcases v with _ | _ | _ | v
      · exact ⟨_, rfl⟩
      · exact ⟨_, rfl⟩
      · exact ⟨_, rfl⟩
      · exact (q_no3 hv).elim
    refine hG ?_
    have sA : small (acc.map fun d => PV.tup [.str d.1, enc d.2]).length = true := by simp only [small, decide_eq_true_eq, List.length_map]; exact q_le B.2.2 rfl
    have sK' : small ((ks'.map PV.str).length + [PV.str x].length) = true := by simp only [small, decide_eq_true_eq, List.length_map, List.length_singleton]; exact q_a5 B.2.1 rfl
    -- own, as it is or joined
    have fin : ∀ own : Ex, WE ks' own → ar own = 1 → dep own ≤ 10 → (∀ ρ : Rho, ρ ("own" : Str) = some (.val (enc e)) → ρ ("tape" : Str) = some (.val .tape) → ∃ ρ₂, evS (tab cells) (callF (tab cells) fns (m + 3)) 35 f_l_comp.names ρ (nthS (stB (nthS f_l_comp.body 1)) 1) (σ1 + 1 + 1) = some (.next, ρ₂, σ1 + 1 + 1 + 1) ∧ ρ₂ ("own" : Str) = some (.val (enc own)) ∧
          ∀ z s, (z == ("own" : Str)) = false → reads (stT (nthS (stB (nthS f_l_comp.body 1)) 1)) z = false ∨ (∃ p, s = .val p) → reads (stT (nthS (stB (nthS (stB (nthS f_l_comp.body 1)) 1)) 0)) z = false ∨ (∃ p, s = .val p) → ρ z = some s → ρ₂ z = some s) →
        ∃ ρ' σ', forTurn (tab cells) (callF (tab cells) fns (m + 3)) 37 f_l_comp.names (stT (nthS f_l_comp.body 1)) (stB (nthS f_l_comp.body 1)) (.int t) ρ σ1 = some (.next, ρ', σ') ∧ ∃ acc ks', acc.length = (pre ++ [t]).length ∧ (∀ q P, WD ks' q P → WD ks (appD acc q) P) ∧ ks'.length ≤ ks.length + acc.length ∧ (∀ d ∈ acc, dep d.2 ≤ 10) ∧ σ' ≤ σ + 3 * acc.length ∧ ρ' ("tape" : Str) = some (.val .tape) ∧ ρ' ("decls" : Str) = some (.lst (acc.map fun d => PV.tup [.str d.1, enc d.2])) ∧ ρ' ("inner" : Str) = some (.val (encN ks')) := by
      intro own o1 o2 o3 ho
      refine Classical.byContradiction fun hG => ?_
      obtain ⟨ρ₂, f1, f2, f3⟩ := ho (upd (upd (frz (readss (eltsE (stT (nthS (stB (nthS f_l_comp.body 1)) 0)))) (upd ρ ("turn" : Str) (.val (.int t)))) ("name" : Str) (.val (.str x))) ("own" : Str) (.val (enc e))) (by walk_at "n") (by walk_at "n")
      refine hG ?_
      have k1 := f3 ("tape" : Str) (.val .tape) (by rfl) (.inr ⟨_, rfl⟩) (.inr ⟨_, rfl⟩) (by walk_at "n")
      have k2 := f3 ("name" : Str) (.val (.str x)) (by rfl) (.inr ⟨_, rfl⟩) (.inr ⟨_, rfl⟩) (by walk_at "n")
      have k3 := f3 ("inner" : Str) (.val (encN ks')) (by rfl) (.inr ⟨_, rfl⟩) (.inr ⟨_, rfl⟩) (by walk_at "n")
      have k4 := f3 ("decls" : Str) (.lst (acc.map fun d => PV.tup [.str d.1, enc d.2])) (by rfl) (.inl (by rfl)) (.inl (by rfl)) (by walk_at "n")
      refine ⟨_, σ1 + 1 + 1 + 1, f_turn b_name (ss_next (σ₁ := σ1 + 1 + 1) (s_tup (xs := [("name" : Str), ("own" : Str)]) (ss := [.val (.str x), .val (enc e)]) (by rfl) (by rfl) (os_cons (σ₁ := σ1 + 1) (o_plain (by rfl) ?_) (os_cons (σ₁ := σ1 + 1 + 1) (o_plain (by rfl) ?_) os_nil))) (ss_next f1 (ss_next (s_app (σ₁ := σ1 + 1 + 1 + 1) (l := acc.map fun d => PV.tup [.str d.1, enc d.2]) (p := .tup [.str x, enc own]) (by rfl) k4 ?_ sA)
        (ss_next (s_asg (σ₁ := σ1 + 1 + 1 + 1) (s := .val (encN (addS ks' x))) (by rfl) (o_plain (by rfl) ?_)) ss_nil)))), acc ++ [(x, own)], addS ks' x, by simp [a1], fun q P h => ?_, ?_, ?_, ?_, by walk_at "n", ?_, by walk_at "n"⟩
      · refine x_sub (σ₁ := σ1) (σ₂ := σ1 + 1) (a := .list [PV.str ("x" : Str), .str ("y" : Str), .str ("z" : Str)]) (b := .int v) (by rfl) ?_ ?_ (idx_list (by decide) hx)
        · repeat' walk_at "e"
        · repeat' walk_at "e"
      · repeat' walk_at "e"
      · repeat' walk_at "e"
      · unfold addS
        by_cases hm : memb x ks' = true
        · rw [if_pos hm]
          refine x_ifT (σ₁ := σ1 + 1 + 1 + 1) (t_cmp (σ₁ := σ1 + 1 + 1 + 1) (σ₂ := σ1 + 1 + 1 + 1) (a := .str x) (b := encN ks') (by rfl) (x_name (by rfl) (by walk_at "n")) (x_name (by rfl) (by walk_at "n")) (by rw [in_names, hm])) (x_name (by rfl) (by walk_at "n"))
        · have hm' : memb x ks' = false := by simpa using hm
          rw [if_neg hm]
          refine x_ifF (σ₁ := σ1 + 1 + 1 + 1) (t_cmp (σ₁ := σ1 + 1 + 1 + 1) (σ₂ := σ1 + 1 + 1 + 1) (a := .str x) (b := encN ks') (by rfl) (x_name (by rfl) (by walk_at "n")) (x_name (by rfl) (by walk_at "n")) (by rw [in_names, hm'])) ?_
          refine x_bin (σ₁ := σ1 + 1 + 1 + 1) (σ₂ := σ1 + 1 + 1 + 1) (a := encN ks') (b := .list [.str x]) (x_name (by rfl) (by walk_at "n")) ?_ ?_
          · repeat' walk_at "e"
          · show (if small _ then _ else _) = _
            rw [if_pos sK', encN, List.map_append]; rfl
      · have : appD (acc ++ [(x, own)]) q = appD acc (.cons x own q) := by unfold appD; rw [List.foldr_append]; rfl
        rw [this]
        exact a2 _ _ (by simp only [WD]; exact ⟨o1, o2, h⟩)
      · have : (addS ks' x).length ≤ ks'.length + 1 := by unfold addS; split <;> simp
        simp only [List.length_append, List.length_singleton]; exact Nat.le_trans this (Nat.succ_le_succ a3)
      · intro d hd
        rcases List.mem_append.mp hd with q | q
        · exact a4 d q
        · rw [List.mem_singleton.mp q]; exact o3
      · simp only [List.length_append, List.length_singleton]; exact q_s3 a5
      · rw [List.map_append]; walk_at "n"
    have keep : ∀ (f : Str → Bool) (ρ : Rho) (z : Str) (s : Slot), f z = false ∨ (∃ p, s = .val p) → ρ z = some s → frz f ρ z = some s := fun f ρ z s h1 h => by
      rcases h1 with h1 | ⟨p, rfl⟩
      · exact r_frzO h1 h
      · exact r_frz h
    rcases (show u = 0 ∨ u = 1 by exact q_u2 hu) with rfl | rfl
    · refine fin e e1 e2 (by (with_reducible exact q_le (Nat.le_of_eq ‹_›) (by decide))) fun ρ j jt => ⟨_, s_ifF (σ₁ := σ1 + 1 + 1 + 1) ?_ ss_nil, by walk_at "n", fun z s hz h1 h2 h => keep _ _ z s h1 h⟩
      repeat' walk_at "e"
    · refine fin (.join e (.rel 1)) (by simp only [WE]; exact ⟨e1, by (with_reducible exact q_le' ‹_ < _› (by decide)), by simp only [ar]; exact q_e2 e2⟩) (by simp only [ar]; ((subst_vars; first | assumption | rfl | decide))) (by simp only [dep]; exact q_e3 e3) fun ρ j jt => ⟨_, s_ifT (σ₁ := σ1 + 1 + 1 + 1) ?_ (ss_next (s_asg (σ₁ := σ1 + 1 + 1 + 1) (s := .val (enc (.join e (.rel 1)))) (by rfl) (o_plain (by rfl) ?_)) ss_nil), by walk_at "n", fun z s hz h1 h2 h => r_updN hz (keep _ _ z s h2 (keep _ _ z s h1 h))⟩
      · repeat' walk_at "e"
      · show ev _ _ _ _ _ _ _ = some (.tup [.str ("join" : Str), enc e, .tup [.str ("rel" : Str), .int 1]], _)
        repeat' walk_at "e"
  refine Classical.byContradiction fun hG => ?_
  obtain ⟨ρ', σ', l1, acc, ks', a1, a2, a3, a4, a5, j1, j2, j3⟩ := loop
  rw [List.length_range] at a1
  have B := q_c22b hks hσ hr a1 a3 a5
  obtain ⟨f, σ2, f1, f2, f3, f4⟩ := c_truth (cells := cells) (m := m) (σ := σ') hc (ks := ks') (by exact B.2.1) (by exact B.1)
  refine hG ?_
  have f4 : callF (tab cells) fns (m + 3) 192 [.tape, encN ks'] σ' = some (encF f, σ2) := f4
  refine ⟨.comp (appD acc .nil) f, σ2, ?_, by simp only [ar]; rw [appD_len]; simp only [Ds.len]; exact a1, by simp only [dep]; have := appD_dep acc a4; exact Nat.add_le_add_left (q_mx (q_le this rfl) f2) 5, by exact q_s6 f3 B.2.2.2.1, ?_⟩
  · simp only [WE]
    refine ⟨by rw [appD_len]; exact Nat.le_trans B.2.2.2.2 (Nat.le_add_right _ _), by rw [appD_len]; simp only [Ds.len]; exact B.2.2.1, by (with_reducible exact q_le ‹_› (by decide)), a2 .nil _ (by simp only [WD]; exact f1)⟩
  · refine call_ret rfl rfl rfl ?_
    have hbd : f_l_comp.body = [_, _, _] := rfl
    rw [hbd]
    refine rt_next (s_tup (xs := [("decls" : Str), ("inner" : Str)]) (ss := [.lst [], .val (encN ks)]) (σ₁ := σ) (by rfl) (by rfl) (os_cons (σ₁ := σ) o_list (os_cons (σ₁ := σ) (o_plain (by rfl) ?_) os_nil))) ?_
    · exact x_callB (by rfl) (by rfl) (xs_cons (σ₁ := σ) (x_name (by rfl) (by walk_at "n")) xs_nil) hlist
    refine rt_next l1 (rt_ret ?_)
    have htup : builtinP ("tuple" : Str) [.list (acc.map fun d => PV.tup [.str d.1, enc d.2])] = some (.tup (encD (appD acc .nil))) := by
      rw [appD_enc]; exact bi_tuple (by simp only [small, decide_eq_true_eq, List.length_map]; exact q_le B.2.2.1 rfl)
    show ev _ _ _ _ _ _ _ = some (.tup [.str ("comp" : Str), .tup (encD (appD acc .nil)), encF f], _)
    repeat' walk_at "e"
end

/- part X23 -/
-- a name's value
-- an expression's step
-- an if, decided
section
variable {cells : List Int} {m σ : Nat}
/-- what _law_expr draws at a depth -/
noncomputable def DrawE (cells : List Int) (ks : List Str) (m : Nat) (D : Int) (K d : Nat) : Prop := ∀ (r σ : Nat), 1 ≤ r ∧ r ≤ 3 → σ + K ≤ 999000 → ∃ e σ', WE ks e ∧ ar e = r ∧ dep e ≤ d ∧ σ' ≤ σ + K ∧ callF (tab cells) fns m 206 [.tape, .int r, encN ks, .int D] σ = some (enc e, σ')

theorem exp_0 (hc : cells.length ≤ 60) {ks : List Str} (hks : ks.length ≤ 40) : DrawE cells ks (m + 3) 0 30 25 := fun r σ hr hσ => by
  refine Classical.byContradiction fun hG => ?_
  obtain ⟨e, e1, e2, e3, e4⟩ := c_leaf (cells := cells) (m := m) (σ := σ) hc (ks := ks) (by (with_reducible exact q_le ‹_› (by decide))) hr (by exact Nat.le_succ_of_le (q_slack0 (q_le (b := 999999) hσ rfl)))
  refine hG ?_
  refine ⟨e, σ + 1, e1, e2, by (with_reducible exact q_le (Nat.le_of_eq ‹_›) (by decide)), by (simp), ?_⟩
  refine call_ret rfl rfl rfl ?_
  have hbd : f_l_expr.body = [_, _, _, _, _, _, _, _, _, _] := rfl
  rw [hbd]
  refine rt_next (σ₁ := σ) (s_asg (s := .val (.int 7)) (by rfl) (o_plain (by rfl) ?_)) ?_
  · repeat' walk_at "e"
  refine rt_ifT (σ₁ := σ) ?_ (rt_ret ?_)
  · repeat' walk_at "e"
  · repeat' walk_at "e"

theorem bud1 {σ K : Nat} (hK : 30 ≤ K) (h : σ + 4 * K ≤ 999000) : σ + 1 + K ≤ 999000 ∧ σ + 1 + 40 ≤ 1000000 ∧ (∀ x, x ≤ σ + 1 + K → x + K ≤ 999000) ∧ ∀ x, x ≤ σ + 1 + 6 → x + K ≤ 999000 ∧ ∀ y, y ≤ x + K → y + K ≤ 999000 :=
  ⟨by exact q_1K hK h, by exact q_a5 (q_slack0 (Nat.le_trans (Nat.add_le_add_left hK (σ + 1)) (q_1K hK h))) rfl, fun x hx => by omega, fun x hx => ⟨by omega, fun y hy => by omega⟩⟩
theorem budU {σ K x y : Nat} (hK : 30 ≤ K) (h1 : x ≤ σ + 1 + K) (h2 : y ≤ x + K) : y ≤ σ + 4 * K := by omega
theorem budV {σ K x y z : Nat} (hK : 30 ≤ K) (h0 : z ≤ σ + 1 + 6) (h1 : x ≤ z + K) (h2 : y ≤ x + K) : y ≤ σ + 4 * K := by omega
theorem budW {σ K y : Nat} (hK : 30 ≤ K) (h0 : y ≤ σ + 1 + 20) : y ≤ σ + 4 * K := by omega
theorem budD {a b d : Nat} (h1 : a ≤ d) (h2 : b ≤ d) : 5 + max a b ≤ d + 5 := by rw [Nat.add_comm 5]; exact Nat.add_le_add_right (Nat.max_le.mpr ⟨h1, h2⟩) 5
theorem exp_succ (hc : cells.length ≤ 60) {ks : List Str} (hks : ks.length ≤ 40) {D d' : Int} {K d : Nat} (hK : 30 ≤ K) (hd : 25 ≤ d) (hgt : cmpOp .Gt (.int D) (.int 0) = some true) (hsub : binOp .Sub (.int D) (.int 1) = some (.int d')) (rec : DrawE cells ks (m + 5) d' K d) : DrawE cells ks (m + 6) D (4 * K) (d + 5) := fun r σ hr hσ => by
  refine Classical.byContradiction fun hG => ?_
  obtain ⟨B1, B4, B2, B3⟩ := bud1 hK hσ
  have B0 : σ + 1 ≤ 1000000 := Nat.le_trans (Nat.le_add_right _ _) B4
  have hb0 : σ ≤ 1000000 := Nat.le_of_succ_le B0
  obtain ⟨w, hw, d1⟩ := c_draw (cells := cells) (m := m + 4) (σ := σ) hc (k := 8) (by decide) hb0
  refine hG ?_
  have d1 : callF (tab cells) fns (m + 5) 180 [.tape, .int 8] σ = some (.int w, σ + 1) := d1
  have start : ∀ {p : PV} {σ' : Nat}, (∀ ρ : Rho, ρ ("tape" : Str) = some (.val .tape) → ρ ("known" : Str) = some (.val (encN ks)) → ρ ("way" : Str) = some (.val (.int w)) → ρ ("arity" : Str) = some (.val (.int r)) → ρ ("deep" : Str) = some (.val (.int D)) → Rets (tab cells) (callF (tab cells) fns (m + 5)) 39 f_l_expr.names ρ (f_l_expr.body.drop 1) (σ + 1) p σ') →
      callF (tab cells) fns (m + 6) 206 [.tape, .int r, encN ks, .int D] σ = some (p, σ') := fun h => by
    refine call_ret rfl rfl rfl ?_
    have hbd : f_l_expr.body = [_, _, _, _, _, _, _, _, _, _] := rfl
    rw [hbd]
    refine rt_next (σ₁ := σ + 1) (s_asg (s := .val (.int w)) (by rfl) (o_plain (by rfl) ?_)) ?_
    · repeat' walk_at "e"
    exact h _ (by walk_at "n") (by walk_at "n") (by walk_at "n") (by walk_at "n") (by walk_at "n")
  have hbd : (f_l_expr.body.drop 1) = [_, _, _, _, _, _, _, _, _] := rfl
  rcases (show w = 0 ∨ w = 1 ∨ w = 2 ∨ w = 3 ∨ w = 4 ∨ w = 5 ∨ w = 6 ∨ w = 7 by exact q_lt8 hw) with rfl | rfl | rfl | rfl | rfl | rfl | rfl | rfl
  · -- override
    refine Classical.byContradiction fun hG => ?_
    obtain ⟨a, σa, a1, a2, a3, a4, a5⟩ := rec r (σ + 1) hr B1
    obtain ⟨b, σb, b1, b2, b3, b4, b5⟩ := rec r σa hr (B2 σa a4)
    refine hG ?_
    refine ⟨.override a b, σb, ⟨a1, b1, a2.trans b2.symm⟩, a2, budD a3 b3, budU hK a4 b4, start fun ρ j1 j2 j3 j4 j5 => ?_⟩
    rw [hbd]
    repeat walk_at "i"
    refine rt_next (σ₁ := σa) (s_asg (s := .val (enc a)) (by rfl) (o_plain (by rfl) ?_)) ?_
    · repeat' walk_at "e"
    repeat walk_at "i"
    refine rt_ret ?_
    show ev _ _ _ _ _ _ _ = some (.tup [.str ("override" : Str), enc a, enc b], _)
    repeat' walk_at "e"
  · -- ahead
    refine Classical.byContradiction fun hG => ?_
    obtain ⟨a, σa, a1, a2, a3, a4, a5⟩ := rec 1 (σ + 1) (by decide) B1
    obtain ⟨b, σb, b1, b2, b3, b4, b5⟩ := rec r σa hr (B2 σa a4)
    refine hG ?_
    have a5 : callF (tab cells) fns (m + 5) 206 [.tape, .int 1, encN ks, .int d'] (σ + 1) = some (enc a, σa) := a5
    refine ⟨.ahead a b, σb, ⟨a1, b1, a2⟩, b2, budD a3 b3, budU hK a4 b4, start fun ρ j1 j2 j3 j4 j5 => ?_⟩
    rw [hbd]
    repeat walk_at "i"
    refine rt_next (σ₁ := σa) (s_asg (s := .val (enc a)) (by rfl) (o_plain (by rfl) ?_)) ?_
    · repeat' walk_at "e"
    refine rt_ret ?_
    show ev _ _ _ _ _ _ _ = some (.tup [.str ("ahead" : Str), enc a, enc b], _)
    repeat' walk_at "e"
  · -- behind
    refine Classical.byContradiction fun hG => ?_
    obtain ⟨a, σa, a1, a2, a3, a4, a5⟩ := rec r (σ + 1) hr B1
    obtain ⟨b, σb, b1, b2, b3, b4, b5⟩ := rec 1 σa (by decide) (B2 σa a4)
    refine hG ?_
    have b5 : callF (tab cells) fns (m + 5) 206 [.tape, .int 1, encN ks, .int d'] σa = some (enc b, σb) := b5
    refine ⟨.behind a b, σb, ⟨a1, b1, b2⟩, a2, budD a3 b3, budU hK a4 b4, start fun ρ j1 j2 j3 j4 j5 => ?_⟩
    rw [hbd]
    repeat walk_at "i"
    refine rt_next (σ₁ := σa) (s_asg (s := .val (enc a)) (by rfl) (o_plain (by rfl) ?_)) ?_
    · repeat' walk_at "e"
    repeat walk_at "i"
    refine rt_ret ?_
    show ev _ _ _ _ _ _ _ = some (.tup [.str ("behind" : Str), enc a, enc b], _)
    repeat' walk_at "e"
  · -- either
    refine Classical.byContradiction fun hG => ?_
    obtain ⟨f, σf, f1, f2, f3, f4⟩ := c_truth (cells := cells) (m := m + 2) (σ := σ + 1) hc (ks := ks) (by (with_reducible exact q_le ‹_› (by decide))) (Nat.le_trans (Nat.add_le_add_left (by decide) (σ + 1)) B4)
    have f4 : callF (tab cells) fns (m + 5) 192 [.tape, encN ks] (σ + 1) = some (encF f, σf) := f4
    obtain ⟨a, σa, a1, a2, a3, a4, a5⟩ := rec r σf hr (B3 σf f3).1
    obtain ⟨b, σb, b1, b2, b3, b4, b5⟩ := rec r σa hr ((B3 σf f3).2 σa a4)
    refine hG ?_
    refine ⟨.either f a b, σb, ⟨f1, a1, b1, a2.trans b2.symm⟩, a2, budD (Nat.le_trans f2 (Nat.le_trans (by decide) hd)) (Nat.max_le.mpr ⟨a3, b3⟩), budV hK f3 a4 b4, start fun ρ j1 j2 j3 j4 j5 => ?_⟩
    rw [hbd]
    repeat walk_at "i"
    refine rt_next (σ₁ := σf) (s_asg (s := .val (encF f)) (by rfl) (o_plain (by rfl) ?_)) ?_
    · repeat' walk_at "e"
    refine rt_next (σ₁ := σa) (s_asg (s := .val (enc a)) (by rfl) (o_plain (by rfl) ?_)) ?_
    · repeat' walk_at "e"
    refine rt_ret ?_
    show ev _ _ _ _ _ _ _ = some (.tup [.str ("either" : Str), encF f, enc a, enc b], _)
    repeat' walk_at "e"
  · -- comp
    refine Classical.byContradiction fun hG => ?_
    obtain ⟨e, σe, e1, e2, e3, e4, e5⟩ := c_comp (cells := cells) (m := m + 1) (σ := σ + 1) hc (ks := ks) (by (with_reducible assumption)) hr B4
    refine hG ?_
    have e5 : callF (tab cells) fns (m + 5) 199 [.tape, .int r, encN ks] (σ + 1) = some (enc e, σe) := e5
    refine ⟨e, σe, e1, e2, Nat.le_trans e3 (Nat.le_trans hd (Nat.le_add_right _ _)), budW hK e4, start fun ρ j1 j2 j3 j4 j5 => ?_⟩
    rw [hbd]
    repeat walk_at "i"
    refine rt_ret ?_
    repeat' walk_at "e"
  · -- product, join
    by_cases h1 : 1 < r
    · have hr1 : cmpOp .Gt (.int r) (.int 1) = some true := by show some (decide ((1 : Int) < r)) = _; rw [decide_eq_true (by exact q_i1r h1)]
      have hrs : binOp .Sub (.int r) (.int 1) = some (.int (r - 1 : Nat)) := by rw [bo_sub]; congr 2; exact q_sub hr.1
      refine Classical.byContradiction fun hG => ?_
      obtain ⟨a, σa, a1, a2, a3, a4, a5⟩ := rec 1 (σ + 1) (by decide) B1
      obtain ⟨b, σb, b1, b2, b3, b4, b5⟩ := rec (r - 1) σa (by exact q_r1 h1 hr) (B2 σa a4)
      refine hG ?_
      have a5 : callF (tab cells) fns (m + 5) 206 [.tape, .int 1, encN ks, .int d'] (σ + 1) = some (enc a, σa) := a5
      refine ⟨.product a b, σb, ⟨a1, b1, a2, by exact q_b2 b2 hr⟩, (by simp only [ar]; exact q_ab a2 b2 hr), budD a3 b3, budU hK a4 b4, start fun ρ j1 j2 j3 j4 j5 => ?_⟩
      rw [hbd]
      repeat walk_at "i"
      refine rt_next (σ₁ := σa) (s_asg (s := .val (enc a)) (by rfl) (o_plain (by rfl) ?_)) ?_
      · repeat' walk_at "e"
      refine rt_ret ?_
      show ev _ _ _ _ _ _ _ = some (.tup [.str ("product" : Str), enc a, enc b], _)
      repeat' walk_at "e"
    · have hr1 : cmpOp .Gt (.int r) (.int 1) = some false := by show some (decide ((1 : Int) < r)) = _; rw [decide_eq_false (by exact q_ni1r h1)]
      refine Classical.byContradiction fun hG => ?_
      obtain ⟨a, σa, a1, a2, a3, a4, a5⟩ := rec 2 (σ + 1) (by decide) B1
      obtain ⟨b, σb, b1, b2, b3, b4, b5⟩ := rec 1 σa (by decide) (B2 σa a4)
      refine hG ?_
      have a5 : callF (tab cells) fns (m + 5) 206 [.tape, .int 2, encN ks, .int d'] (σ + 1) = some (enc a, σa) := a5
      have b5 : callF (tab cells) fns (m + 5) 206 [.tape, .int 1, encN ks, .int d'] σa = some (enc b, σb) := b5
      refine ⟨.join a b, σb, ⟨a1, b1, by exact q_11 (d := 1) (c := 2) a2 b2⟩, (by simp only [ar]; exact q_ab2 a2 b2 h1 hr), budD a3 b3, budU hK a4 b4, start fun ρ j1 j2 j3 j4 j5 => ?_⟩
      rw [hbd]
      repeat walk_at "i"
      refine rt_next (σ₁ := σa) (s_asg (s := .val (enc a)) (by rfl) (o_plain (by rfl) ?_)) ?_
      · repeat' walk_at "e"
      refine rt_ret ?_
      show ev _ _ _ _ _ _ _ = some (.tup [.str ("join" : Str), enc a, enc b], _)
      repeat' walk_at "e"
  · -- minus
    refine Classical.byContradiction fun hG => ?_
    obtain ⟨a, σa, a1, a2, a3, a4, a5⟩ := rec r (σ + 1) hr B1
    obtain ⟨b, σb, b1, b2, b3, b4, b5⟩ := rec r σa hr (B2 σa a4)
    refine hG ?_
    refine ⟨.minus a b, σb, ⟨a1, b1, a2.trans b2.symm⟩, a2, budD a3 b3, budU hK a4 b4, start fun ρ j1 j2 j3 j4 j5 => ?_⟩
    rw [hbd]
    repeat walk_at "i"
    refine rt_next (σ₁ := σa) (s_asg (s := .val (enc a)) (by rfl) (o_plain (by rfl) ?_)) ?_
    · repeat' walk_at "e"
    repeat walk_at "i"
    refine rt_ret ?_
    show ev _ _ _ _ _ _ _ = some (.tup [.str ("minus" : Str), enc a, enc b], _)
    repeat' walk_at "e"
  · -- a leaf
    refine Classical.byContradiction fun hG => ?_
    obtain ⟨e, e1, e2, e3, e4⟩ := c_leaf (cells := cells) (m := m + 3) (σ := σ + 1) hc (ks := ks) (by (with_reducible exact q_le ‹_› (by decide))) hr B0
    refine hG ?_
    have e4 : callF (tab cells) fns (m + 5) 185 [.tape, .int r, encN ks] (σ + 1) = some (enc e, σ + 1 + 1) := e4
    refine ⟨e, σ + 1 + 1, e1, e2, Nat.le_trans (Nat.le_of_eq e3) (Nat.le_add_left _ _), budW hK (Nat.add_le_add_left (by decide) (σ + 1)), start fun ρ j1 j2 j3 j4 j5 => ?_⟩
    rw [hbd]
    repeat walk_at "i"
    refine rt_ret ?_
    repeat' walk_at "e"
end

/- part X24 -/
-- a name's value
-- an expression's step
-- an if, decided
theorem peqs_refl {f : PV → PV → Option Bool} : ∀ l : List PV, (∀ p ∈ l, f p p = some true) → peqs f l l = some true
  | [], _ => rfl
  | p :: r, h => by simp only [peqs, h p (.head _), peqs_refl r fun q hq => h q (.tail _ hq)]; rfl
theorem peq_encS (L : List (List Int)) : peq 9 (encS L) (encS L) = some true := by
  show peqs (peq 8) _ _ = _
  refine peqs_refl _ fun p hp => ?_
  refine Classical.byContradiction fun hG => ?_
  obtain ⟨t, _, rfl⟩ := List.mem_map.mp hp
  refine hG ?_
  show peqs (peq 7) _ _ = _
  refine peqs_refl _ fun q hq => ?_
  refine Classical.byContradiction fun hG => ?_
  obtain ⟨a, _, rfl⟩ := List.mem_map.mp hq
  refine hG ?_
  show some (a == a) = _
  rw [beq_self_eq_true]
theorem rx_next {T : Tab} {C : Orc} {n : Nat} {nm : NM} {ρ ρ₁ : Rho} {σ σ₁ : Nat} {p : PV} {st : Stmt} {l : List Stmt} (h1 : evS T C n nm ρ st σ = some (.next, ρ₁, σ₁)) (h2 : ∃ σ', Rets T C n nm ρ₁ l σ₁ p σ') : ∃ σ', Rets T C (n + 1) nm ρ (st :: l) σ p σ' := let ⟨σ', h⟩ := h2; ⟨σ', rt_next h1 h⟩
theorem rx_for {T : Tab} {C : Orc} {n : Nat} {nm : NM} {ρ : Rho} {σ σ₁ : Nat} {p : PV} {l : List Stmt} {α : Type} {g : α → PV} {L : List α} {t it : Expr} {body : List Stmt} {pos : Pos} (I : List α → Rho → Nat → Prop) (h0 : (!targetsOk nm 4 t || isSetE it || isEnumE it) = false) (h1 : evI T C n nm (frz (reads it) ρ) it σ = some (L.map g, σ₁)) (hi : I [] (frz (reads it) ρ) σ₁)
    (st : ∀ pre x q ρ σ, pre ++ x :: q = L → I pre ρ σ → ∃ ρ' σ', forTurn T C n nm t body (g x) ρ σ = some (.next, ρ', σ') ∧ I (pre ++ [x]) ρ' σ') (rest : ∀ ρ' σ', I L ρ' σ' → ∃ σ₂, Rets T C (n + 1) nm ρ' l σ' p σ₂) : ∃ σ', Rets T C (n + 2) nm ρ (.For t it body [] pos :: l) σ p σ' := by
  refine Classical.byContradiction fun hG => ?_
  obtain ⟨ρ', σ', e, i⟩ := st_for2 I h0 h1 hi st
  refine hG ?_
  exact rx_next e (rest ρ' σ' i)
theorem law_run {cells : List Int} (hc : cells.length ≤ 60) : ∃ ρ' σ', evSs (tab cells) (callF (tab cells) fns 60) 40 lawNames rhoT lawRest 0 = some (.ret (.bool true), ρ', σ') := by
  suffices h : ∃ σ', Rets (tab cells) (callF (tab cells) fns 60) 40 lawNames rhoT lawRest 0 (.bool true) σ' by
    obtain ⟨σ', ρ', h⟩ := h; exact ⟨ρ', σ', h⟩
  refine Classical.byContradiction fun hG => ?_
  obtain ⟨v, hv, d1⟩ := c_draw (cells := cells) (m := 59) (σ := 0) hc (k := 2) (by decide) (by (with_reducible exact Nat.le_add_left _ _))
  have d1 : callF (tab cells) fns 60 180 [.tape, .int 2] 0 = some (.int v, 1) := d1
  obtain ⟨n, hnv, hn⟩ : ∃ n, n = 2 + v ∧ (n = 2 ∨ n = 3) := ⟨2 + v, rfl, by exact q_23 hv⟩
  have hadd : binOp .Add (.int 2) (.int v) = some (.int n) := by rw [bo_add]; congr 2; ((subst_vars; first | assumption | rfl | decide))
  have hp : ∀ k, 0 < 2 ^ (n ^ k) := fun k => Nat.two_pow_pos _
  obtain ⟨b0, hb0, e0⟩ := c_draw (cells := cells) (m := 59) (σ := 1) hc (k := 2 ^ (n ^ 1)) (hp 1) (by (with_reducible exact Nat.le_add_left _ _))
  obtain ⟨b1, hb1, e1⟩ := c_draw (cells := cells) (m := 59) (σ := 1 + 1) hc (k := 2 ^ (n ^ 2)) (hp 2) (by (with_reducible exact Nat.le_add_left _ _))
  obtain ⟨b2, hb2, e2⟩ := c_draw (cells := cells) (m := 59) (σ := 1 + 1 + 1) hc (k := 2 ^ (n ^ 3)) (hp 3) (by (with_reducible exact Nat.le_add_left _ _))
  obtain ⟨xv, hx, dx⟩ := c_draw (cells := cells) (m := 59) (σ := 4) hc (k := n) (by (with_reducible exact q_np ‹_›)) (by (with_reducible exact Nat.le_add_left _ _))
  refine hG ?_
  let B : Nat → Nat := fun k => if k = 0 then b0 else if k = 1 then b1 else b2
  have hB : ∀ k, k ≤ 2 → B k < 2 ^ (n ^ (k + 1)) := fun k hk => by
    rcases (show k = 0 ∨ k = 1 ∨ k = 2 by exact q_k2 hk) with rfl | rfl | rfl
    · exact hb0
    · exact hb1
    · exact hb2
  have hbL : bitL B = .list [.int b0, .int b1, .int b2] := rfl
  have tup : ∀ (σ r b : Nat) (P : List Int → Bool), 1 ≤ r ∧ r ≤ 3 → Rp n r b P → callF (tab cells) fns 60 253 [.int b, .int n, .int r] σ = some (encS (TL n r P), σ) := fun σ r b P hr hR => by
    have := pow27 hn hr.2
    have h := c_tuples (cells := cells) (m := 58) (σ := σ) (N := n ^ r) (by (with_reducible exact q_le ‹_› (by decide))) hR.lt hn hr.2
    rw [hR.tuples (by (with_reducible exact q_np ‹_›))] at h
    exact h
  have t1 : ∀ σ, callF (tab cells) fns 60 253 [.int b0, .int n, .int 1] σ = some (encS (TL n 1 (relP n B 0)), σ) := fun σ => tup σ 1 b0 _ (by (with_reducible exact (by decide))) (Rp.of_lt (by (with_reducible exact q_np ‹_›)) hb0)
  have t2 : ∀ σ, callF (tab cells) fns 60 253 [.int b1, .int n, .int 2] σ = some (encS (TL n 2 (relP n B 1)), σ) := fun σ => tup σ 2 b1 _ (by (with_reducible exact (by decide))) (Rp.of_lt (by (with_reducible exact q_np ‹_›)) hb1)
  have t3 : ∀ σ, callF (tab cells) fns 60 253 [.int b2, .int n, .int 3] σ = some (encS (TL n 3 (relP n B 2)), σ) := fun σ => tup σ 3 b2 _ (by (with_reducible exact (by decide))) (Rp.of_lt (by (with_reducible exact q_np ‹_›)) hb2)
  let en : En := ⟨[("x" : Str)], [(xv : Int)]⟩
  have hg : Good n en := ⟨rfl, fun a ha => by rw [List.mem_singleton.mp ha]; (with_reducible exact q_c2 ‹_›)⟩
  have hbd : lawRest = [_, _, _, _, _, _, _] := rfl
  rw [hbd]
  -- n
  refine rx_next (σ₁ := 1) (s_asg (s := .val (.int n)) (by rfl) (o_plain (by rfl) ?_)) ?_
  · repeat' walk_at "e"
  -- world
  have hpw : ∀ k : Nat, k ≤ 3 → binOp .Pow (.int n) (.int k) = some (.int (n ^ k : Nat)) ∧ binOp .Pow (.int (2 : Nat)) (.int (n ^ k : Nat)) = some (.int (2 ^ (n ^ k) : Nat)) := fun k hk => by
    have := pow27 hn hk
    exact ⟨bo_pow (by (with_reducible exact q_le ‹_› (by decide))) (by (with_reducible exact q_nl ‹_ = 2 ∨ _ = 3› (by decide))), bo_pow (by (with_reducible exact q_le ‹_› (by decide))) (by decide)⟩
  have w1 := hpw 1 (by (with_reducible exact Nat.le_add_left _ _))
  have w2 := hpw 2 (by (with_reducible exact Nat.le_add_left _ _))
  have w3 := hpw 3 (by (with_reducible exact Nat.le_add_left _ _))
  refine rx_next (σ₁ := 4) (s_asg (s := .val (wv n (bitL B))) (by rfl) (o_plain (by rfl) ?_)) ?_
  · refine x_tuple (by rfl) (xs_cons (σ₁ := 1) (x_name (by rfl) (by walk_at "n")) (xs_cons (σ₁ := 4) ?_ xs_nil))
    refine Eq.trans (x_comp1 (σ₁ := 1) (σ₂ := 4) (its := [.int 1, .int 2, .int 3]) (l := [.int b0] ++ ([.int b1] ++ ([.int b2] ++ []))) (by rfl) (i_plain (p := .tup [.int 1, .int 2, .int 3]) (by rfl) ?_ rfl (by rfl)) ?_ (by rfl)) (by rfl)
    · repeat' walk_at "e"
    · have elt : ∀ (k : Nat) (σ : Nat) (b : Nat), binOp .Pow (.int n) (.int k) = some (.int (n ^ k : Nat)) ∧ binOp .Pow (.int (2 : Nat)) (.int (n ^ k : Nat)) = some (.int (2 ^ (n ^ k) : Nat)) → callF (tab cells) fns 60 180 [.tape, .int (2 ^ (n ^ k) : Nat)] σ = some (.int b, σ + 1) → True := fun _ _ _ _ _ => trivial
      refine fold_cons (σ₁ := 1 + 1) (turn_in (σ₁ := 1) b_name a_nil (x_callF (σ₁ := 1) (by rfl) (by rfl) (xs_cons (σ₁ := 1) (x_name (by rfl) (by walk_at "n")) (xs_cons (σ₁ := 1) (x_bin (σ₁ := 1) (σ₂ := 1) (a := .int (2 : Nat)) (b := .int (n ^ 1 : Nat)) x_int (x_bin (σ₁ := 1) (σ₂ := 1) (a := .int n) (b := .int (1 : Nat)) (x_name (by rfl) (by walk_at "n")) (x_name (by rfl) (by walk_at "n")) w1.1) w1.2) xs_nil)) e0)) ?_
      refine fold_cons (σ₁ := 1 + 1 + 1) (turn_in (σ₁ := 1 + 1) b_name a_nil (x_callF (σ₁ := 1 + 1) (by rfl) (by rfl) (xs_cons (σ₁ := 1 + 1) (x_name (by rfl) (by walk_at "n")) (xs_cons (σ₁ := 1 + 1) (x_bin (σ₁ := 1 + 1) (σ₂ := 1 + 1) (a := .int (2 : Nat)) (b := .int (n ^ 2 : Nat)) x_int (x_bin (σ₁ := 1 + 1) (σ₂ := 1 + 1) (a := .int n) (b := .int (2 : Nat)) (x_name (by rfl) (by walk_at "n")) (x_name (by rfl) (by walk_at "n")) w2.1) w2.2) xs_nil)) e1)) ?_
      refine fold_cons (σ₁ := 1 + 1 + 1 + 1) (turn_in (σ₁ := 1 + 1 + 1) b_name a_nil (x_callF (σ₁ := 1 + 1 + 1) (by rfl) (by rfl) (xs_cons (σ₁ := 1 + 1 + 1) (x_name (by rfl) (by walk_at "n")) (xs_cons (σ₁ := 1 + 1 + 1) (x_bin (σ₁ := 1 + 1 + 1) (σ₂ := 1 + 1 + 1) (a := .int (2 : Nat)) (b := .int (n ^ 3 : Nat)) x_int (x_bin (σ₁ := 1 + 1 + 1) (σ₂ := 1 + 1 + 1) (a := .int n) (b := .int (3 : Nat)) (x_name (by rfl) (by walk_at "n")) (x_name (by rfl) (by walk_at "n")) w3.1) w3.2) xs_nil)) e2)) fold_nil
  -- evaluator
  have hmk : callF (tab cells) fns 60 164 [.int n, inst n B] 4 = some (.inst (.int n) (inst n B), 4) := rfl
  refine rx_next (σ₁ := 4) (s_asg (s := .val (.inst (.int n) (inst n B))) (by rfl) (o_plain (by rfl) ?_)) ?_
  · refine x_callF (σ₁ := 4) (by rfl) (by rfl) (xs_cons (σ₁ := 4) (x_name (by rfl) (by walk_at "n")) (xs_cons (σ₁ := 4) (p := inst n B) ?_ xs_nil)) hmk
    refine Eq.trans (x_comp1 (σ₁ := 4) (σ₂ := 4) (its := [.int 1, .int 2, .int 3]) (l := [encS (TL n 1 (relP n B 0))] ++ ([encS (TL n 2 (relP n B 1))] ++ ([encS (TL n 3 (relP n B 2))] ++ []))) (by rfl) (i_plain (p := .tup [.int 1, .int 2, .int 3]) (by rfl) ?_ rfl (by rfl)) ?_ (by rfl)) (by rfl)
    · repeat' walk_at "e"
    · have t1 := t1 4
      have t2 := t2 4
      have t3 := t3 4
      have i3 := idx3 (cells := cells) (a := .int b0) (b := .int b1) (c := .int b2) 4
      refine fold_cons (σ₁ := 4) (turn_in (σ₁ := 4) b_name a_nil (x_callF (σ₁ := 4) (by rfl) (by rfl) (xs_cons (σ₁ := 4) (x_sub (σ₁ := 4) (σ₂ := 4) (a := bitL B) (b := .int 0) (by rfl) (x_sub (σ₁ := 4) (σ₂ := 4) (a := wv n (bitL B)) (b := .int 1) (by rfl) (x_name (by rfl) (by walk_at "n")) x_int rfl) (x_bin (σ₁ := 4) (σ₂ := 4) (a := .int 1) (b := .int 1) (x_name (by rfl) (by walk_at "n")) x_int rfl) i3.1) (xs_cons (σ₁ := 4) (x_name (by rfl) (by walk_at "n")) (xs_cons (σ₁ := 4) (x_name (by rfl) (by walk_at "n")) xs_nil))) t1)) ?_
      refine fold_cons (σ₁ := 4) (turn_in (σ₁ := 4) b_name a_nil (x_callF (σ₁ := 4) (by rfl) (by rfl) (xs_cons (σ₁ := 4) (x_sub (σ₁ := 4) (σ₂ := 4) (a := bitL B) (b := .int 1) (by rfl) (x_sub (σ₁ := 4) (σ₂ := 4) (a := wv n (bitL B)) (b := .int 1) (by rfl) (x_name (by rfl) (by walk_at "n")) x_int rfl) (x_bin (σ₁ := 4) (σ₂ := 4) (a := .int 2) (b := .int 1) (x_name (by rfl) (by walk_at "n")) x_int rfl) i3.2.1) (xs_cons (σ₁ := 4) (x_name (by rfl) (by walk_at "n")) (xs_cons (σ₁ := 4) (x_name (by rfl) (by walk_at "n")) xs_nil))) t2)) ?_
      refine fold_cons (σ₁ := 4) (turn_in (σ₁ := 4) b_name a_nil (x_callF (σ₁ := 4) (by rfl) (by rfl) (xs_cons (σ₁ := 4) (x_sub (σ₁ := 4) (σ₂ := 4) (a := bitL B) (b := .int 2) (by rfl) (x_sub (σ₁ := 4) (σ₂ := 4) (a := wv n (bitL B)) (b := .int 1) (by rfl) (x_name (by rfl) (by walk_at "n")) x_int rfl) (x_bin (σ₁ := 4) (σ₂ := 4) (a := .int 3) (b := .int 1) (x_name (by rfl) (by walk_at "n")) x_int rfl) i3.2.2) (xs_cons (σ₁ := 4) (x_name (by rfl) (by walk_at "n")) (xs_cons (σ₁ := 4) (x_name (by rfl) (by walk_at "n")) xs_nil))) t3)) fold_nil
  -- x
  have dx : callF (tab cells) fns 60 180 [.tape, .int n] 4 = some (.int xv, 5) := dx
  refine rx_next (σ₁ := 5) (s_asg (s := .val (.int xv)) (by rfl) (o_plain (by rfl) ?_)) ?_
  · repeat' walk_at "e"
  -- outer
  refine rx_next (σ₁ := 5) (s_asg (s := .val (encEn en)) (by rfl) (o_plain (by rfl) ?_)) ?_
  · show ev _ _ _ _ _ _ _ = some (.dS [("x" : Str)] [.tup [.tup [.int xv]]], 5)
    refine x_dict1 ?_
    repeat' walk_at "e"
  -- the loop
  have E2 : DrawE cells [("x" : Str)] 60 2 480 35 := exp_succ (m := 54) (d' := 1) hc (by decide) (by decide) (by decide) rfl rfl (exp_succ (m := 53) (d' := 0) hc (by decide) (by decide) (by decide) rfl rfl (exp_0 (m := 55) hc (by decide)))
  have E1 : DrawE cells [("x" : Str)] 60 1 120 30 := exp_succ (m := 54) (d' := 0) hc (by decide) (by decide) (by decide) rfl rfl (exp_0 (m := 56) hc (by decide))
  refine rx_for (g := fun k : Nat => .int k) (L := [1, 2, 3]) (σ₁ := 5) (fun pre ρ σ => ((ρ ("tape" : Str) = some (.val .tape) ∧ ρ ("n" : Str) = some (.val (.int n))) ∧ (ρ ("world" : Str) = some (.val (wv n (bitL B))) ∧ ρ ("evaluator" : Str) = some (.val (.inst (.int n) (inst n B))))) ∧ (ρ ("x" : Str) = some (.val (.int xv)) ∧ ρ ("outer" : Str) = some (.val (encEn en))) ∧ σ ≤ 5 + 480 * pre.length) (by rfl)
    (i_map (p := .tup [.int 1, .int 2, .int 3]) (by rfl) ?_ rfl (by rfl)) ⟨⟨⟨by walk_at "n", by walk_at "n"⟩, ⟨by walk_at "n", by walk_at "n"⟩⟩, ⟨by walk_at "n", by walk_at "n"⟩, by simp⟩ (fun pre r q ρ σ hr ⟨⟨⟨j1, j2⟩, ⟨j3, j4⟩⟩, ⟨j5, j6⟩, j7⟩ => ?_) (fun ρ' σ' ⟨⟨⟨j1, j2⟩, ⟨j3, j4⟩⟩, ⟨j5, j6⟩, j7⟩ => ?_)
  · repeat' walk_at "e"
  · have hpl : pre.length ≤ 2 := by have := congrArg List.length hr; simp at this; exact q_p3 this
    have hr3 : 1 ≤ r ∧ r ≤ 3 := by
      have : r ∈ [1, 2, 3] := by rw [← hr]; simp
      simp at this; exact q_13r this
    have pick : ∃ (e : Ex) (σe : Nat) (D : Int), WE [("x" : Str)] e ∧ ar e = r ∧ dep e ≤ 35 ∧ σe ≤ σ + 480 ∧ callF (tab cells) fns 60 206 [.tape, .int r, encN [("x" : Str)], .int D] σ = some (enc e, σe) ∧ (D = if r + n < 6 then 2 else 1) := by
      by_cases h6 : r + n < 6
      · obtain ⟨e, σe, g1, g2, g3, g4, g5⟩ := E2 r σ hr3 (by exact q_480 j7 hpl rfl)
        exact ⟨e, σe, 2, g1, g2, g3, g4, g5, by rw [if_pos h6]⟩
      · obtain ⟨e, σe, g1, g2, g3, g4, g5⟩ := E1 r σ hr3 (by exact q_480 j7 hpl rfl)
        exact ⟨e, σe, 1, g1, g2, by (with_reducible exact q_le ‹_› (by decide)), by exact Nat.le_trans g4 (Nat.add_le_add_left (by decide) σ), g5, by rw [if_neg h6]⟩
    refine Classical.byContradiction fun hG => ?_
    obtain ⟨e, σe, D, g1, g2, g3, g4, g5, hD⟩ := pick
    have g5 : callF (tab cells) fns 60 206 [.tape, .int r, .list [.str ("x" : Str)], .int D] σ = some (enc e, σe) := g5
    have hev := evE_all (cells := cells) (B := B) hn e en 60 g1 hg (by (with_reducible exact q_le ‹_› (by decide))) σe
    obtain ⟨b, hb, hlv⟩ := lvE_all (cells := cells) hn hB e en 60 g1 hg (show (1 : Nat) ≤ 60 by decide) (by (with_reducible exact q_le ‹_› (by decide)))
    refine hG ?_
    have hlv : callF (tab cells) fns 60 232 [enc e, wv n (bitL B), .dS [("x" : Str)] [.int xv]] σe = some (.int b, σe) := hlv σe
    have htup := tup σe (ar e) b _ (ar_le g1) hb
    rw [g2] at hev htup
    refine ⟨_, σe, f_turn b_name (ss_next (s_asg (σ₁ := σe) (s := .val (enc e)) (by rfl) (o_plain (by rfl) ?_)) (ss_next (s_ifF (σ₁ := σe) (t_cmp (σ₁ := σe) (σ₂ := σe) (a := encS (TL n r (sem n B e en))) (b := encS (TL n r (sem n B e en))) (by rfl) ?_ ?_ ?_) ss_nil) ss_nil)), ⟨⟨by walk_at "n", by walk_at "n"⟩, ⟨by walk_at "n", by walk_at "n"⟩⟩, ⟨by walk_at "n", by walk_at "n"⟩, by rw [List.length_append, List.length_singleton]; exact q_t480 g4 j7⟩
    · refine x_callF (σ₁ := σ) (ps := [.tape, .int r, .list [.str ("x" : Str)], .int D]) (by rfl) (by rfl) (xs_cons (σ₁ := σ) (x_name (by rfl) (by walk_at "n")) (xs_cons (σ₁ := σ) (x_name (by rfl) (by walk_at "n")) (xs_cons (σ₁ := σ) ?_ (xs_cons (σ₁ := σ) ?_ xs_nil)))) g5
      · repeat' walk_at "e"
      · have hrn : binOp .Add (.int r) (.int n) = some (.int (r + n : Nat)) := by rw [bo_add]; congr 2
        have tst : cmpOp .Lt (.int (r + n : Nat)) (.int 6) = some (decide (r + n < 6)) := by
          show some (decide (((r + n : Nat) : Int) < 6)) = _
          congr 1; exact decide_eq_decide.mpr (by exact q_rn)
        by_cases h6 : r + n < 6
        · rw [if_pos h6] at hD; subst hD
          rw [decide_eq_true h6] at tst
          refine x_ifT (σ₁ := σ) (t_cmp (σ₁ := σ) (σ₂ := σ) (a := .int (r + n : Nat)) (b := .int 6) (by rfl) (x_bin (σ₁ := σ) (σ₂ := σ) (a := .int r) (b := .int n) (x_name (by rfl) (by walk_at "n")) (x_name (by rfl) (by walk_at "n")) hrn) x_int tst) x_int
        · rw [if_neg h6] at hD; subst hD
          rw [decide_eq_false h6] at tst
          refine x_ifF (σ₁ := σ) (t_cmp (σ₁ := σ) (σ₂ := σ) (a := .int (r + n : Nat)) (b := .int 6) (by rfl) (x_bin (σ₁ := σ) (σ₂ := σ) (a := .int r) (b := .int n) (x_name (by rfl) (by walk_at "n")) (x_name (by rfl) (by walk_at "n")) hrn) x_int tst) x_int
    · repeat' walk_at "e"
    · refine x_callF (σ₁ := σe) (ps := [.int b, .int n, .int r]) (by rfl) (by rfl) (xs_cons (σ₁ := σe) (x_callF (σ₁ := σe) (ps := [enc e, wv n (bitL B), .dS [("x" : Str)] [.int xv]]) (by rfl) (by rfl) (xs_cons (σ₁ := σe) (x_name (by rfl) (by walk_at "n")) (xs_cons (σ₁ := σe) (x_name (by rfl) (by walk_at "n")) (xs_cons (σ₁ := σe) (x_dict1 (x_name (by rfl) (by walk_at "n"))) xs_nil))) hlv) (xs_cons (σ₁ := σe) (x_name (by rfl) (by walk_at "n")) (xs_cons (σ₁ := σe) (x_name (by rfl) (by walk_at "n")) xs_nil))) htup
    · show (peq 9 _ _).map (!·) = some false
      rw [peq_encS]; rfl
  · refine ⟨σ', rt_ret (x_cmp (σ₁ := σ') (σ₂ := σ') (a := .dS [("x" : Str)] [.tup [.tup [.int xv]]]) (b := .dS [("x" : Str)] [.tup [.tup [.int xv]]]) (by rfl) (x_name (by rfl) (r_frz j6)) (x_dict1 ?_) ?_)⟩
    · repeat' walk_at "e"
    · show (if (("x" : Str) == ("x" : Str)) = true then peq 9 (.tup [.tup [.int xv]]) (.tup [.tup [.int xv]]) else none) = some true
      rw [if_pos (by decide)]
      exact peq_encS [[(xv : Int)]]
theorem plain_all : Plain := fun cells hc => law_run hc

end Mine

theorem PySem.Challenge.cw_nz0387_01_holds : PySem.Challenge.rw_nz0387_01.Holds := by
  exact Mine.main_of Mine.plain_all
