/- A part of the proof that FnTrailFine, on every slice of bytes, returns true (no conditions): rules of the walk, and what the functions compute. -/
import Derived.Carry
import Derived.ChangeSlices
import Derived.OpenShut
import Derived.ProofKit
import Derived.RowKit
import Derived.Test.YtoekdppgejhikaaGreatRows
import Derived.Test.YtoekdppgejhikaaGreatC4
set_option linter.unusedVariables false
set_option linter.unusedSimpArgs false
namespace Go.Proofs.YtoekdppgejhikaaGreatT
open Go Go.Proofs
set_option maxRecDepth 100000
theorem l1Open_ok (X : Str) (hX : X.length < 2 ^ 40) : DC G 10 [.sl 1 (X.map fun c => [AV.int .u8 (c.toNat : Int)])] [] (OpR X) := by
 refine DC_nd fun hnd => ?_
 refine h_dc (F := [(0, .sl 1 (X.map fun c => [AV.int .u8 (c.toNat : Int)]))]) (ods_pur _ (by simp only [go_sem])) trivial Tryz.func10 (by kernel_rfl) (by kernel_rfl) ?_ (by kernel_rfl)
 refine Rr (Fn0 [0] [] (Sq fun K2 hK2 => ?_))
 refine Rr (Av0 (r := .int .i64 ((X.map (fun c => [AV.int .u8 (c.toNat : Int)])).length : Nat)) (v := .int .i64 X.length) 2 4 [(3, .sl 1 (X.map fun c => [AV.int .u8 (c.toNat : Int)]))] (by rw [List.length_map]) (Cn1 (decide ((2000 : Int) < ((X.length : Int) : Int))) [0] [] (Ki /\ ·) ⟨rfl, fun hc4 c4 => ?_, fun hc4 c4 => ?_⟩))
 try simp only [KF] at c4
 refine Rb (fun h => Jn (hK2 h)) (Av1 (r := .sl 1 (((X.map (fun c => [AV.int .u8 (c.toNat : Int)])).take 2000).drop 0)) (v := .sl 1 ((X.take 2000).map fun c => [AV.int .u8 (c.toNat : Int)])) 2 7 [(6, .sl 1 (X.map fun c => [AV.int .u8 (c.toNat : Int)]))] (congrArg (AV.sl 1) (slm_0 _ _ _)) (fun Z => (1 = 1 /\ 0 <= (0 : Int) /\ (0 : Int) <= 2000 /\ 2000 <= (((X.map (fun c => [AV.int .u8 (c.toNat : Int)])).length : Nat) : Int)) /\ Z) ⟨⟨rfl, by omega, by (try rw [List.length_map]); omega, by rw [List.length_map]; omega⟩, Fn0 [] [(0, .sl 1 ((X.take 2000).map fun c => [AV.int .u8 (c.toNat : Int)]))] (Rr (Fn2 [] [(2, .ptr 0 0)] [(0, [.sl 1 ((X.take 2000).map fun c => [AV.int .u8 (c.toNat : Int)]), .int .i64 0])] 4 ?_))⟩)
 refine h_pm (H' := ((0, [.sl 1 ((X.take 2000).map fun c => [AV.int .u8 (c.toNat : Int)]), .int .i64 0]) :: [])) (List.Perm.refl _) ?_
 refine h_k [2] (F' := [(2, .ptr 0 0)]) (by kernel_rfl) ?_
 refine h_odd (H := [(0, [.sl 1 ((X.take 2000).map fun c => [AV.int .u8 (c.toNat : Int)]), .int .i64 0])]) 0 (fun jr => [(2, .ptr (2 * jr + 1) 0)]) (fun jr => [((2 * jr + 1), [.sl 1 ((X.take 2000).map fun c => [AV.int .u8 (c.toNat : Int)]), .int .i64 0])]) (by kernel_rfl) (show odH [] from trivial) (fun jr => ⟨by simp only [slF, slp, slps, go_sem, and_self], by kernel_rfl⟩) (fun jr => ⟨rfl, .inr ⟨by simp only [tcs, slps, slp, go_sem, and_self], by kernel_rfl⟩, trivial⟩) (fun jr => ?_)
 refine Rt (.ptr (2 * jr + 1) 0) (fin_dc (.ptr (2 * jr + 1) 0) _ (List.Sublist.refl _) (lea_refl _) (by show (2 * jr + 1) % 2 = 1; omega) ⟨by omega, ods_pur _ (by simp only [go_sem]), trivial⟩ ⟨jr, _, rfl, rfl, by first | omega | (simp only [List.length_take]; omega)⟩)
 try simp only [KF] at c4
 refine Sk (Jn (hK2 (Kp [0] (Rr (Fn2 [] [(2, .ptr 0 0)] [(0, [.sl 1 (X.map fun c => [AV.int .u8 (c.toNat : Int)]), .int .i64 0])] 4 (h_pm (H' := ((0, [.sl 1 (X.map fun c => [AV.int .u8 (c.toNat : Int)]), .int .i64 0]) :: [])) (List.Perm.refl _) (h_k [2] (F' := [(2, .ptr 0 0)]) (by kernel_rfl) ?_)))))))
 refine h_odd (H := [(0, [.sl 1 (X.map fun c => [AV.int .u8 (c.toNat : Int)]), .int .i64 0])]) 0 (fun jr => [(2, .ptr (2 * jr + 1) 0)]) (fun jr => [((2 * jr + 1), [.sl 1 (X.map fun c => [AV.int .u8 (c.toNat : Int)]), .int .i64 0])]) (by kernel_rfl) (show odH [] from trivial) (fun jr => ⟨by simp only [slF, slp, slps, go_sem, and_self], by kernel_rfl⟩) (fun jr => ⟨rfl, .inr ⟨by simp only [tcs, slps, slp, go_sem, and_self], by kernel_rfl⟩, trivial⟩) (fun jr => ?_)
 refine Rt (.ptr (2 * jr + 1) 0) (fin_dc (.ptr (2 * jr + 1) 0) _ (List.Sublist.refl _) (lea_refl _) (by show (2 * jr + 1) % 2 = 1; omega) ⟨by omega, ods_pur _ (by simp only [go_sem]), trivial⟩ ⟨jr, _, rfl, rfl, by first | omega | (simp only [List.length_take]; omega)⟩)
instance : Inhabited Cl := ⟨⟨0, [], [], 0, []⟩⟩
theorem clc_len (c : Cl) : (clc c).length = 5 := rfl
theorem purs_clc' (c : Cl) : purs (clc c) = true := by simp only [clc, purs, go_sem, pur, Bool.and_self]
@[go_sem] theorem purs_flC (X : List Cl) : purs (fl clc X) = true := purs_fl purs_clc' X
theorem flC_le (X : List Cl) : X.length * 5 <= (fl clc X).length := by rw [fl_len clc_len]; exact Nat.le_refl _
theorem flCl (X : List Cl) : (fl clc X).length = X.length * 5 := fl_len clc_len X
theorem chkC (l : List Cl) : chk 5 l.length (fl clc l) = l.map clc := chk_fl clc_len l
theorem mg_cl (l : List Cl) (k : Nat) (h : k < l.length) : (l.map clc).getD k [] = clc (l.getD k default) := mgs clc l k h
theorem push_cl (X : List Cl) (y : Cl) : apd (fl clc X) (X.length * 5) (clc y) = fl clc (X ++ [y]) := by
 unfold apd; rw [fl_full clc_len X rfl, fl_app, fl_one]
@[go_sem] theorem puress_cl : ∀ X : List Cl, puress (X.map clc) = true
 | [] => rfl
 | m :: X => by simp only [List.map_cons, puress, purs_clc', puress_cl X, Bool.and_self]
theorem rowC_fld (X : List Cl) (i j : Nat) (h : i < X.length) (hj : j < 5) : (fl clc X).getD (0 + i * 5 + j) .dead = (clc (X.getD i default)).getD j .dead := by
 have e : X = X.take i ++ X.getD i default :: X.drop (i + 1) := get_split X i h default
 have h1 : (fl clc (X.take i)).length = i * 5 := by rw [fl_len clc_len, List.length_take, Nat.min_eq_left (Nat.le_of_lt h)]
 have e2 : fl clc X = fl clc (X.take i) ++ (clc (X.getD i default) ++ fl clc (X.drop (i + 1))) := by
  rw [<- fl_one clc (X.getD i default), <- fl_app, <- fl_app]; exact congrArg (fl clc) (by simpa using e)
 rw [e2, Nat.zero_add]
 simp only [List.getD]
 rw [List.getElem?_append_right (by omega), h1, Nat.add_sub_cancel_left, List.getElem?_append_left (by rw [clc_len]; exact hj)]
def cB (c : Cl) : Prop := wS c.path < 2 ^ 31 /\ wS c.to < 2 ^ 31 /\ c.data.length <= 25
open Go Go.Proofs
set_option maxRecDepth 100000
theorem DrawTrail_ok (X : Str) (hX : X.length < 2 ^ 40) : PC G 4 [.sl 1 (X.map fun c => [AV.int .u8 (c.toNat : Int)])] (fun r => ∃ (t : Tr) (zs : List Cl), r = .tup [.agg (tcs t), .sl 5 (zs.map clc)] /\ t.W < 2 ^ 12 /\ zs.length <= 14 /\ ∀ c ∈ zs, cB c) := by
 refine h_pc (F := [(0, .sl 1 (X.map fun c => [AV.int .u8 (c.toNat : Int)]))]) (by simp only [go_sem]) Tryz.func4 (by kernel_rfl) (by kernel_rfl) ?_ (by kernel_rfl)
 refine Rr (Fn2 [0] [(2, .ptr 0 0)] [(0, zt)] 4 (Rr (Bc0 2 [(12, .sl 1 (X.map fun c => [AV.int .u8 (c.toNat : Int)]))] 10 [.sl 1 (X.map fun c => [AV.int .u8 (c.toNat : Int)])] 13 (op_use (l1Open_ok X (by omega)) fun bb hbb => ?_))))
 refine Ke (Fn0 [2] [(4, .ptr 4 0)] (Rr (Bc0 2 [(14, .ptr 4 0)] 11 [.ptr 4 0] 15 (RC.use (l4Tree_ok bb 0 (by omega) (by omega)) (by kernel_rfl) fun r q5 hr => ?_)))); obtain ⟨x4, h1x4, rfl, h3x4⟩ := hr
 refine Ke (Fn3 [2, 4] [(5, .ptr 8 0)] [(8, tcs x4), (4, rdc bb q5), (0, zt)] 12 ((true = true /\ 5 = 5 /\ 0 + 5 <= 5) /\ ·) ⟨(by decide), Rr (Fn3 [2, 4, 5] [(6, .osl 12 5 0 0)] [(12, []), (8, tcs x4), (4, rdc bb q5), (0, zt)] 16 ((0 * 5 <= 16777216) /\ ·) ⟨(by decide), Rr ?_⟩)⟩)
 refine Fn3 [2, 4, 5, 6] [(7, .ptr 16 0)] [(16, tcs x4), (12, []), (8, tcs x4), (4, rdc bb q5), (0, zt)] 20 ((0 + 5 <= 5 /\ 0 < 5) /\ (true = true /\ 5 = 5 /\ 0 + 5 <= 5) /\ ·) ⟨(by decide), (by decide), Sq fun K8 hK8 => ?_⟩
 refine Rr (Bc0 2 [(18, .ptr 4 0)] 12 [.ptr 4 0, .int .i64 14] 19 (RC.use (pick_ok bb q5 14 (by omega) (by omega) (by omega) (by omega)) (by kernel_rfl) fun r p1 hr => ?_)); obtain ⟨pk10, hpk10, rfl, rfl⟩ := hr
 refine Ke (Fn0 [2, 4, 5, 6, 7] [(8, .int .i64 pk10)] (Bl (h_l (fun (z : Tr × Nat × Nat × List Cl) => (match z with | (x, q, k, zs) => ([(2, .ptr 0 0), (4, .ptr 4 0), (5, .ptr 8 0), (6, .osl 12 5 0 zs.length), (7, .ptr 16 0), (8, .int .i64 k)] : Fr))) (fun (z : Tr × Nat × Nat × List Cl) => (match z with | (x, q, k, zs) => ([(16, tcs x), (12, fl clc zs), (8, tcs x4), (4, rdc bb q), (0, zt)] : Hp))) (fun (z : Tr × Nat × Nat × List Cl) cn => (match z with | (x, q, k, zs) => (x.W < 2 ^ 12 /\ q + 60 * k <= 3000 /\ k <= 14 /\ zs.length + k <= 14 /\ ∀ c ∈ zs, cB c) /\ cn = 20)) (fun (z : Tr × Nat × Nat × List Cl) => z.2.2.1) (x4, q5 + 1, pk10, []) (by kernel_rfl) ?_ ?_ ?_ ?_)))
 refine ⟨?_, rfl⟩; exact ⟨by omega, by omega, by omega, by simp; omega, by simp⟩
 exact ⟨by kernel_rfl, by kernel_rfl, by kernel_rfl, by kernel_rfl, by kernel_rfl, by kernel_rfl, trivial⟩
 exact (sub_c (by kernel_rfl) (sub_c (by kernel_rfl) (sub_c (by kernel_rfl) (sub_c (by kernel_rfl) (sub_c (by kernel_rfl) (List.nil_sublist _))))))
 rintro ⟨x, q, k, zs⟩ n1 hI
 (try dsimp only at hI)
 obtain ⟨⟨hi1, hi2, hi3, hi4, hi5⟩, rfl⟩ := hI
 refine Sq fun K11 hK11 => ?_
 refine Rr (Cn1 (decide ((0 : Int) < ((k : Int) : Int))) [2, 4, 5, 6, 7, 8] [] (Ki /\ ·) ⟨rfl, fun hc13 c13 => ?_, fun hc13 c13 => ?_⟩)
 try simp only [KF] at c13
 refine Sk (Jn (hK11 (Kp [2, 4, 5, 6, 7, 8] (Sq fun K14 hK14 => ?_))))
 refine Bl (Rr (Bc1 3 [(25, .agg (tcs x)), (24, .ptr 4 0)] 13 [.ptr 4 0, .agg (tcs x)] 26 ((0 + 5 <= 5 /\ 0 < 5) /\ ·) ⟨(by decide), RC.use (l4Call_ok bb q x (by omega) (by omega) (by omega)) (by kernel_rfl) fun r q17 hr => ?_⟩)); obtain ⟨cl16, h0cl16, h1cl16, h2cl16, rfl, h3cl16⟩ := hr
 refine Ke (Fn3 [2, 4, 5, 6, 7, 8] [(9, .ptr 20 0)] [(20, clc cl16), (16, tcs x), (12, fl clc zs), (8, tcs x4), (4, rdc bb q17), (0, zt)] 24 ((true = true /\ 5 = 5 /\ 0 + 5 <= 5) /\ ·) ⟨(by decide), Sq fun K18 hK18 => ?_⟩)
 refine Rr (Bc0 2 [(27, .ptr 4 0)] 12 [.ptr 4 0, .int .i64 3] 28 (RC.use (pick_ok bb q17 3 (by omega) (by omega) (by omega) (by omega)) (by kernel_rfl) fun r p1 hr => ?_)); obtain ⟨pk20, hpk20, rfl, rfl⟩ := hr
 refine Ke (An1 2 [(30, .bool (decide ((pk20 : Int) = 0))), (29, .bool (decide ((pk20 : Int) = 0)))] (Ki /\ ·) ⟨rfl, run_b (fun g21 => ?_) (fun g21 => ?_)⟩)
 have hg21 := g21
 try simp only [KF] at g21
 refine An1 5 [(35, .bool (decide ((0 : Int) < ((zs.length : Int) : Int)))), (34, .bool (decide ((0 : Int) < ((zs.length : Int) : Int)))), (33, .bool (decide ((0 : Int) < ((zs.length : Int) : Int)))), (32, .int .i64 zs.length), (31, .osl 12 5 0 zs.length)] (Ki /\ ·) ⟨rfl, run_b (fun g22 => ?_) (fun g22 => ?_)⟩
 have hg22 := g22
 try simp only [KF] at g22
 refine Av1 (r := .int .i64 (IntKind.i64.wrap ((zs.length : Int) - 1))) (v := .int .i64 ((zs.length : Int) - 1)) 4 39 [(38, .int .i64 zs.length), (37, .osl 12 5 0 zs.length), (36, .osl 12 5 0 zs.length)] (congrArg (AV.int .i64) (wrap64 (by omega) (by omega))) (Ki /\ ·) ⟨rfl, Av1 (r := ((fl clc zs).getD (0 + (((zs.length : Int) - 1).toNat) * 5) .dead)) (v := .int .i64 ((zs.getD (((zs.length : Int) - 1).toNat) default).kind)) 3 42 [(41, .ptr 12 (0 + (((zs.length : Int) - 1).toNat) * 5)), (40, .ptr 12 (0 + (((zs.length : Int) - 1).toNat) * 5))] (rowC_fld zs (((zs.length : Int) - 1).toNat) 0 (by omega) (by decide)) ((5 = 5 /\ (0 : Int) <= ((zs.length : Int) - 1) /\ ((zs.length : Int) - 1) < (zs.length : Int)) /\ ((1 : Nat) ≠ 0) /\ (0 + (((zs.length : Int) - 1).toNat) * 5 + 1 <= (fl clc zs).length /\ 0 + (((zs.length : Int) - 1).toNat) * 5 < (fl clc zs).length) /\ ·) ⟨⟨rfl, by omega, by omega⟩, (by decide), ⟨by rw [flCl]; omega, by rw [flCl]; omega⟩, Cn1 (decide (((zs.getD (((zs.length : Int) - 1).toNat) default).kind : Int) = (5 : Int))) [2, 4, 5, 6, 7, 8, 9] [] (Ki /\ ·) ⟨rfl, fun hc23 c23 => ?_, fun hc23 c23 => ?_⟩⟩⟩
 try simp only [KF] at c23
 have hlb := hi5 _ (getD_mem zs ((zs.length : Int) - 1).toNat default (by omega)); obtain ⟨hl1, hl2, hl3⟩ := hlb
 refine Qb [0, 0, 2, 6, 15, 31, 63, 0, 0, 256, 768, 1920, 3968, 8064, 16383, 32767] [(0, []), (1, []), (2, []), (3, []), (4, []), (5, []), (6, []), (7, []), (8, []), (9, []), (10, []), (11, []), (12, []), (13, []), (14, []), (15, [])] (fun h => Jn (hK18 h)) (qAv1 (r := .int .i64 (IntKind.i64.wrap ((zs.length : Int) - 1))) (v := .int .i64 ((zs.length : Int) - 1)) 4 48 [(47, .int .i64 zs.length), (46, .osl 12 5 0 zs.length), (45, .osl 12 5 0 zs.length)] (congrArg (AV.int .i64) (wrap64 (by omega) (by omega))) (Ki /\ ·) ⟨rfl, qAv1 (r := ((fl clc zs).getD (0 + (((zs.length : Int) - 1).toNat) * 5 + 2) .dead)) (v := pth ((zs.getD (((zs.length : Int) - 1).toNat) default).to)) 3 51 [(50, .ptr 12 (0 + (((zs.length : Int) - 1).toNat) * 5 + 2)), (49, .ptr 12 (0 + (((zs.length : Int) - 1).toNat) * 5))] (rowC_fld zs (((zs.length : Int) - 1).toNat) 2 (by omega) (by decide)) ((5 = 5 /\ (0 : Int) <= ((zs.length : Int) - 1) /\ ((zs.length : Int) - 1) < (zs.length : Int)) /\ ((1 : Nat) ≠ 0) /\ (0 + (((zs.length : Int) - 1).toNat) * 5 + 2 + 1 <= (fl clc zs).length /\ 0 + (((zs.length : Int) - 1).toNat) * 5 + 2 < (fl clc zs).length) /\ ·) ⟨⟨rfl, by omega, by omega⟩, (by decide), ⟨by rw [flCl]; omega, by rw [flCl]; omega⟩, qAv1 (r := .int .i64 (IntKind.i64.wrap ((zs.length : Int) - 1))) (v := .int .i64 ((zs.length : Int) - 1)) 4 55 [(54, .int .i64 zs.length), (53, .osl 12 5 0 zs.length), (52, .osl 12 5 0 zs.length)] (congrArg (AV.int .i64) (wrap64 (by omega) (by omega))) (Ki /\ ·) ⟨rfl, qAv1 (r := ((fl clc zs).getD (0 + (((zs.length : Int) - 1).toNat) * 5 + 1) .dead)) (v := pth ((zs.getD (((zs.length : Int) - 1).toNat) default).path)) 3 58 [(57, .ptr 12 (0 + (((zs.length : Int) - 1).toNat) * 5 + 1)), (56, .ptr 12 (0 + (((zs.length : Int) - 1).toNat) * 5))] (rowC_fld zs (((zs.length : Int) - 1).toNat) 1 (by omega) (by decide)) ((5 = 5 /\ (0 : Int) <= ((zs.length : Int) - 1) /\ ((zs.length : Int) - 1) < (zs.length : Int)) /\ ((1 : Nat) ≠ 0) /\ (0 + (((zs.length : Int) - 1).toNat) * 5 + 1 + 1 <= (fl clc zs).length /\ 0 + (((zs.length : Int) - 1).toNat) * 5 + 1 < (fl clc zs).length) /\ ·) ⟨⟨rfl, by omega, by omega⟩, (by decide), ⟨by rw [flCl]; omega, by rw [flCl]; omega⟩, ?_⟩⟩⟩⟩)
 refine qFn3 [2, 4, 5, 6, 7, 8, 9] [] [(20, [.int .i64 5, pth ((zs.getD (((zs.length : Int) - 1).toNat) default).to), pth ((zs.getD (((zs.length : Int) - 1).toNat) default).path), .int .i64 0, .str []]), (16, tcs x), (12, fl clc zs), (8, tcs x4), (4, rdc bb (q17 + 1)), (0, zt)] 24 ((true = true /\ 5 = 5 /\ 0 + 5 <= 5) /\ (True) /\ ·) ⟨(by decide), trivial, Rr (Bc1 3 [(62, .agg [.int .i64 5, pth ((zs.getD (((zs.length : Int) - 1).toNat) default).to), pth ((zs.getD (((zs.length : Int) - 1).toNat) default).path), .int .i64 0, .str []]), (61, .agg (tcs x))] 7 [.agg (tcs x), .agg [.int .i64 5, pth ((zs.getD (((zs.length : Int) - 1).toNat) default).to), pth ((zs.getD (((zs.length : Int) - 1).toNat) default).path), .int .i64 0, .str []]] 63 ((0 + 5 <= 5 /\ 0 < 5) /\ (0 + 5 <= 5 /\ 0 < 5) /\ ·) ⟨(by decide), (by decide), ?_⟩)⟩
 have hB25 := W_sTreeDo x (Cl.mk 5 ((zs.getD (((zs.length : Int) - 1).toNat) default).to) ((zs.getD (((zs.length : Int) - 1).toNat) default).path) 0 []) (by omega)
 refine TCall_le [.agg (tcs x), .agg (clc (Cl.mk 5 ((zs.getD (((zs.length : Int) - 1).toNat) default).to) ((zs.getD (((zs.length : Int) - 1).toNat) default).path) 0 []))] (by simp [lea, leas, pth, Tr.none, tcs, clc]) ?_
 refine PE.use (sTreeDo_ok x (Cl.mk 5 ((zs.getD (((zs.length : Int) - 1).toNat) default).to) ((zs.getD (((zs.length : Int) - 1).toNat) default).path) 0 []) (by omega) (by first | omega | decide | (dsimp only; first | omega | decide)) (by first | omega | decide | (dsimp only; first | omega | decide)) (by first | omega | decide | (dsimp only; first | omega | decide))) ?_
 refine Ke (Fn3 [2, 4, 5, 6, 7, 8, 9] [(11, .int .i64 ((sTreeDo x (Cl.mk 5 ((zs.getD (((zs.length : Int) - 1).toNat) default).to) ((zs.getD (((zs.length : Int) - 1).toNat) default).path) 0 [])).2)), (10, .ptr 24 0)] [(24, tcs ((sTreeDo x (Cl.mk 5 ((zs.getD (((zs.length : Int) - 1).toNat) default).to) ((zs.getD (((zs.length : Int) - 1).toNat) default).path) 0 [])).1)), (20, [.int .i64 5, pth ((zs.getD (((zs.length : Int) - 1).toNat) default).to), pth ((zs.getD (((zs.length : Int) - 1).toNat) default).path), .int .i64 0, .str []]), (16, tcs x), (12, fl clc zs), (8, tcs x4), (4, rdc bb (q17 + 1)), (0, zt)] 28 ((0 < 2) /\ (1 < 2) /\ (true = true /\ 5 = 5 /\ 0 + 5 <= 5) /\ ·) ⟨(by decide), (by decide), (by decide), Sq fun K26 hK26 => ?_⟩)
 refine Rr (Cn1 (decide (((sTreeDo x (Cl.mk 5 ((zs.getD (((zs.length : Int) - 1).toNat) default).to) ((zs.getD (((zs.length : Int) - 1).toNat) default).path) 0 [])).2 : Int) = (0 : Int))) [2, 4, 5, 6, 7, 8, 9, 10] [] (Ki /\ ·) ⟨rfl, fun hc28 c28 => ?_, fun hc28 c28 => ?_⟩)
 try simp only [KF] at c28
 refine Rb (fun h => Jn (hK26 h)) (Fn3 [2, 4, 5, 6, 7, 8, 9] [] [(24, tcs ((sTreeDo x (Cl.mk 5 ((zs.getD (((zs.length : Int) - 1).toNat) default).to) ((zs.getD (((zs.length : Int) - 1).toNat) default).path) 0 [])).1)), (20, [.int .i64 5, pth ((zs.getD (((zs.length : Int) - 1).toNat) default).to), pth ((zs.getD (((zs.length : Int) - 1).toNat) default).path), .int .i64 0, .str []]), (16, tcs ((sTreeDo x (Cl.mk 5 ((zs.getD (((zs.length : Int) - 1).toNat) default).to) ((zs.getD (((zs.length : Int) - 1).toNat) default).path) 0 [])).1)), (12, fl clc zs), (8, tcs x4), (4, rdc bb (q17 + 1)), (0, zt)] 28 ((0 + 5 <= 5 /\ 0 < 5) /\ (true = true /\ 5 = 5 /\ 0 + 5 <= 5) /\ ·) ⟨(by decide), (by decide), Rb (fun h => Bn (Jn (hK14 h))) (An3 4 [(72, .osl 32 5 0 (zs.length + 1)), (71, .osl 28 5 0 1), (70, .agg [.int .i64 5, pth ((zs.getD (((zs.length : Int) - 1).toNat) default).to), pth ((zs.getD (((zs.length : Int) - 1).toNat) default).path), .int .i64 0, .str []]), (69, .osl 12 5 0 zs.length)] [(32, apd (fl clc zs) (zs.length * 5) [.int .i64 5, pth ((zs.getD (((zs.length : Int) - 1).toNat) default).to), pth ((zs.getD (((zs.length : Int) - 1).toNat) default).path), .int .i64 0, .str []]), (28, [.int .i64 5, pth ((zs.getD (((zs.length : Int) - 1).toNat) default).to), pth ((zs.getD (((zs.length : Int) - 1).toNat) default).path), .int .i64 0, .str []]), (24, tcs ((sTreeDo x (Cl.mk 5 ((zs.getD (((zs.length : Int) - 1).toNat) default).to) ((zs.getD (((zs.length : Int) - 1).toNat) default).path) 0 [])).1)), (20, [.int .i64 5, pth ((zs.getD (((zs.length : Int) - 1).toNat) default).to), pth ((zs.getD (((zs.length : Int) - 1).toNat) default).path), .int .i64 0, .str []]), (16, tcs ((sTreeDo x (Cl.mk 5 ((zs.getD (((zs.length : Int) - 1).toNat) default).to) ((zs.getD (((zs.length : Int) - 1).toNat) default).path) 0 [])).1)), (8, tcs x4), (4, rdc bb (q17 + 1)), (0, zt)] 36 ((0 + 5 <= 5 /\ 0 < 5) /\ (1 * 5 <= 16777216) /\ (0 + 1 * 5 <= 5) /\ (5 = 5 /\ zs.length * 5 <= (fl clc zs).length /\ 0 < 80 /\ (zs.length + 1) * 80 <= 140737488355328) /\ ·) ⟨(by decide), (by decide), (by decide), ⟨rfl, by (first | omega | (simp only [LL, flCl]; omega)), by decide, by (first | omega | (simp only [LL, flCl]; omega))⟩, run_v (v' := .osl 32 5 0 ((zs ++ [Cl.mk 5 ((zs.getD (((zs.length : Int) - 1).toNat) default).to) ((zs.getD (((zs.length : Int) - 1).toNat) default).path) 0 []]).length)) (push_len _ _ _ _) ?_⟩)⟩)
 refine run_h (cs' := fl clc (zs ++ [Cl.mk 5 ((zs.getD (((zs.length : Int) - 1).toNat) default).to) ((zs.getD (((zs.length : Int) - 1).toNat) default).path) 0 []])) (push_cl zs (Cl.mk 5 ((zs.getD (((zs.length : Int) - 1).toNat) default).to) ((zs.getD (((zs.length : Int) - 1).toNat) default).path) 0 [])) ?_
 refine Fn0 [2, 4, 5, 7, 8] [(6, .osl 32 5 0 ((zs ++ [Cl.mk 5 ((zs.getD (((zs.length : Int) - 1).toNat) default).to) ((zs.getD (((zs.length : Int) - 1).toNat) default).path) 0 []]).length))] (Rn (Av1 (r := .int .i64 (IntKind.i64.wrap ((k : Int) - 1))) (v := .int .i64 ((k : Int) - 1)) 2 23 [(22, .int .i64 k)] (congrArg (AV.int .i64) (wrap64 (by omega) (by omega))) (Ki /\ ·) ⟨rfl, Gn0 [(8, .int .i64 ((k : Int) - 1))] (nk_n ?_)⟩))
 refine Lr (((sTreeDo x (Cl.mk 5 ((zs.getD (((zs.length : Int) - 1).toNat) default).to) ((zs.getD (((zs.length : Int) - 1).toNat) default).path) 0 [])).1), q17 + 1, k - 1, zs ++ [Cl.mk 5 ((zs.getD (((zs.length : Int) - 1).toNat) default).to) ((zs.getD (((zs.length : Int) - 1).toNat) default).path) 0 []]) [(0, 0), (4, 4), (8, 8), (16, 16), (32, 12)] 20 [(2, .ptr 0 0), (4, .ptr 4 0), (5, .ptr 8 0), (6, .osl 32 5 0 ((zs ++ [Cl.mk 5 ((zs.getD (((zs.length : Int) - 1).toNat) default).to) ((zs.getD (((zs.length : Int) - 1).toNat) default).path) 0 []]).length)), (7, .ptr 16 0), (8, .int .i64 ((k : Int) - 1))] [(16, tcs ((sTreeDo x (Cl.mk 5 ((zs.getD (((zs.length : Int) - 1).toNat) default).to) ((zs.getD (((zs.length : Int) - 1).toNat) default).path) 0 [])).1)), (32, fl clc (zs ++ [Cl.mk 5 ((zs.getD (((zs.length : Int) - 1).toNat) default).to) ((zs.getD (((zs.length : Int) - 1).toNat) default).path) 0 []])), (8, tcs x4), (4, rdc bb (q17 + 1)), (0, zt)] [true, false, true, true, true] ?_ ?_ (by kernel_rfl) (by (try rw [show ((k : Int) - 1) = ((k - 1 : Nat) : Int) by omega]); try kernel_rfl)
 (try dsimp only); omega
 refine ⟨?_, rfl⟩; (try dsimp only)
 refine ⟨by omega, by omega, by omega, by simp only [List.length_append, List.length_singleton]; omega, fun c hc => ?_⟩
 rcases List.mem_append.1 hc with h | h
 · exact hi5 c h
 · rw [List.mem_singleton] at h; subst h; exact ⟨hl2, hl1, Nat.zero_le _⟩
 try simp only [KF] at c28
 refine Sk (Jn (hK26 (Kp [2, 4, 5, 6, 7, 8, 9] (Rb (fun h => Bn (Jn (hK14 h))) (An3 4 [(72, .osl 32 5 0 (zs.length + 1)), (71, .osl 28 5 0 1), (70, .agg [.int .i64 5, pth ((zs.getD (((zs.length : Int) - 1).toNat) default).to), pth ((zs.getD (((zs.length : Int) - 1).toNat) default).path), .int .i64 0, .str []]), (69, .osl 12 5 0 zs.length)] [(32, apd (fl clc zs) (zs.length * 5) [.int .i64 5, pth ((zs.getD (((zs.length : Int) - 1).toNat) default).to), pth ((zs.getD (((zs.length : Int) - 1).toNat) default).path), .int .i64 0, .str []]), (28, [.int .i64 5, pth ((zs.getD (((zs.length : Int) - 1).toNat) default).to), pth ((zs.getD (((zs.length : Int) - 1).toNat) default).path), .int .i64 0, .str []]), (24, tcs ((sTreeDo x (Cl.mk 5 ((zs.getD (((zs.length : Int) - 1).toNat) default).to) ((zs.getD (((zs.length : Int) - 1).toNat) default).path) 0 [])).1)), (20, [.int .i64 5, pth ((zs.getD (((zs.length : Int) - 1).toNat) default).to), pth ((zs.getD (((zs.length : Int) - 1).toNat) default).path), .int .i64 0, .str []]), (16, tcs x), (8, tcs x4), (4, rdc bb (q17 + 1)), (0, zt)] 36 ((0 + 5 <= 5 /\ 0 < 5) /\ (1 * 5 <= 16777216) /\ (0 + 1 * 5 <= 5) /\ (5 = 5 /\ zs.length * 5 <= (fl clc zs).length /\ 0 < 80 /\ (zs.length + 1) * 80 <= 140737488355328) /\ ·) ⟨(by decide), (by decide), (by decide), ⟨rfl, by (first | omega | (simp only [LL, flCl]; omega)), by decide, by (first | omega | (simp only [LL, flCl]; omega))⟩, run_v (v' := .osl 32 5 0 ((zs ++ [Cl.mk 5 ((zs.getD (((zs.length : Int) - 1).toNat) default).to) ((zs.getD (((zs.length : Int) - 1).toNat) default).path) 0 []]).length)) (push_len _ _ _ _) (run_h (cs' := fl clc (zs ++ [Cl.mk 5 ((zs.getD (((zs.length : Int) - 1).toNat) default).to) ((zs.getD (((zs.length : Int) - 1).toNat) default).path) 0 []])) (push_cl zs (Cl.mk 5 ((zs.getD (((zs.length : Int) - 1).toNat) default).to) ((zs.getD (((zs.length : Int) - 1).toNat) default).path) 0 [])) ?_)⟩)))))
 refine Fn0 [2, 4, 5, 7, 8] [(6, .osl 32 5 0 ((zs ++ [Cl.mk 5 ((zs.getD (((zs.length : Int) - 1).toNat) default).to) ((zs.getD (((zs.length : Int) - 1).toNat) default).path) 0 []]).length))] (Rn (Av1 (r := .int .i64 (IntKind.i64.wrap ((k : Int) - 1))) (v := .int .i64 ((k : Int) - 1)) 2 23 [(22, .int .i64 k)] (congrArg (AV.int .i64) (wrap64 (by omega) (by omega))) (Ki /\ ·) ⟨rfl, Gn0 [(8, .int .i64 ((k : Int) - 1))] (nk_n ?_)⟩))
 refine Lr (x, q17 + 1, k - 1, zs ++ [Cl.mk 5 ((zs.getD (((zs.length : Int) - 1).toNat) default).to) ((zs.getD (((zs.length : Int) - 1).toNat) default).path) 0 []]) [(0, 0), (4, 4), (8, 8), (16, 16), (32, 12)] 20 [(2, .ptr 0 0), (4, .ptr 4 0), (5, .ptr 8 0), (6, .osl 32 5 0 ((zs ++ [Cl.mk 5 ((zs.getD (((zs.length : Int) - 1).toNat) default).to) ((zs.getD (((zs.length : Int) - 1).toNat) default).path) 0 []]).length)), (7, .ptr 16 0), (8, .int .i64 ((k : Int) - 1))] [(16, tcs x), (32, fl clc (zs ++ [Cl.mk 5 ((zs.getD (((zs.length : Int) - 1).toNat) default).to) ((zs.getD (((zs.length : Int) - 1).toNat) default).path) 0 []])), (8, tcs x4), (4, rdc bb (q17 + 1)), (0, zt)] [true, false, true, true, true] ?_ ?_ (by kernel_rfl) (by (try rw [show ((k : Int) - 1) = ((k - 1 : Nat) : Int) by omega]); try kernel_rfl)
 (try dsimp only); omega
 refine ⟨?_, rfl⟩; (try dsimp only)
 refine ⟨by omega, by omega, by omega, by simp only [List.length_append, List.length_singleton]; omega, fun c hc => ?_⟩
 rcases List.mem_append.1 hc with h | h
 · exact hi5 c h
 · rw [List.mem_singleton] at h; subst h; exact ⟨hl2, hl1, Nat.zero_le _⟩
 try simp only [KF] at c23
 refine Sk (Jn (hK18 (Kp [2, 4, 5, 6, 7, 8, 9] (Rr (Bc1 3 [(62, .agg (clc cl16)), (61, .agg (tcs x))] 7 [.agg (tcs x), .agg (clc cl16)] 63 ((0 + 5 <= 5 /\ 0 < 5) /\ (0 + 5 <= 5 /\ 0 < 5) /\ ·) ⟨(by decide), (by decide), ?_⟩)))))
 have hB30 := W_sTreeDo x cl16 (by omega)
 refine PE.use (sTreeDo_ok x cl16 (by omega) (by first | omega | decide | (dsimp only; first | omega | decide)) (by first | omega | decide | (dsimp only; first | omega | decide)) (by first | omega | decide | (dsimp only; first | omega | decide))) ?_
 refine Ke (Fn3 [2, 4, 5, 6, 7, 8, 9] [(11, .int .i64 ((sTreeDo x cl16).2)), (10, .ptr 24 0)] [(24, tcs ((sTreeDo x cl16).1)), (20, clc cl16), (16, tcs x), (12, fl clc zs), (8, tcs x4), (4, rdc bb (q17 + 1)), (0, zt)] 28 ((0 < 2) /\ (1 < 2) /\ (true = true /\ 5 = 5 /\ 0 + 5 <= 5) /\ ·) ⟨(by decide), (by decide), (by decide), Sq fun K31 hK31 => ?_⟩)
 refine Rr (Cn1 (decide (((sTreeDo x cl16).2 : Int) = (0 : Int))) [2, 4, 5, 6, 7, 8, 9, 10] [] (Ki /\ ·) ⟨rfl, fun hc33 c33 => ?_, fun hc33 c33 => ?_⟩)
 try simp only [KF] at c33
 refine Rb (fun h => Jn (hK31 h)) (Fn3 [2, 4, 5, 6, 7, 8, 9] [] [(24, tcs ((sTreeDo x cl16).1)), (20, clc cl16), (16, tcs ((sTreeDo x cl16).1)), (12, fl clc zs), (8, tcs x4), (4, rdc bb (q17 + 1)), (0, zt)] 28 ((0 + 5 <= 5 /\ 0 < 5) /\ (true = true /\ 5 = 5 /\ 0 + 5 <= 5) /\ ·) ⟨(by decide), (by decide), Rb (fun h => Bn (Jn (hK14 h))) (An3 4 [(72, .osl 32 5 0 (zs.length + 1)), (71, .osl 28 5 0 1), (70, .agg (clc cl16)), (69, .osl 12 5 0 zs.length)] [(32, apd (fl clc zs) (zs.length * 5) (clc cl16)), (28, clc cl16), (24, tcs ((sTreeDo x cl16).1)), (20, clc cl16), (16, tcs ((sTreeDo x cl16).1)), (8, tcs x4), (4, rdc bb (q17 + 1)), (0, zt)] 36 ((0 + 5 <= 5 /\ 0 < 5) /\ (1 * 5 <= 16777216) /\ (0 + 1 * 5 <= 5) /\ (5 = 5 /\ zs.length * 5 <= (fl clc zs).length /\ 0 < 80 /\ (zs.length + 1) * 80 <= 140737488355328) /\ ·) ⟨(by decide), (by decide), (by decide), ⟨rfl, by (first | omega | (simp only [LL, flCl]; omega)), by decide, by (first | omega | (simp only [LL, flCl]; omega))⟩, run_v (v' := .osl 32 5 0 ((zs ++ [cl16]).length)) (push_len _ _ _ _) ?_⟩)⟩)
 refine run_h (cs' := fl clc (zs ++ [cl16])) (push_cl zs cl16) ?_
 refine Fn0 [2, 4, 5, 7, 8] [(6, .osl 32 5 0 ((zs ++ [cl16]).length))] (Rn (Av1 (r := .int .i64 (IntKind.i64.wrap ((k : Int) - 1))) (v := .int .i64 ((k : Int) - 1)) 2 23 [(22, .int .i64 k)] (congrArg (AV.int .i64) (wrap64 (by omega) (by omega))) (Ki /\ ·) ⟨rfl, Gn0 [(8, .int .i64 ((k : Int) - 1))] (nk_n ?_)⟩))
 refine Lr (((sTreeDo x cl16).1), q17 + 1, k - 1, zs ++ [cl16]) [(0, 0), (4, 4), (8, 8), (16, 16), (32, 12)] 20 [(2, .ptr 0 0), (4, .ptr 4 0), (5, .ptr 8 0), (6, .osl 32 5 0 ((zs ++ [cl16]).length)), (7, .ptr 16 0), (8, .int .i64 ((k : Int) - 1))] [(16, tcs ((sTreeDo x cl16).1)), (32, fl clc (zs ++ [cl16])), (8, tcs x4), (4, rdc bb (q17 + 1)), (0, zt)] [true, false, true, true, true] ?_ ?_ (by kernel_rfl) (by (try rw [show ((k : Int) - 1) = ((k - 1 : Nat) : Int) by omega]); try kernel_rfl)
 (try dsimp only); omega
 refine ⟨?_, rfl⟩; (try dsimp only)
 refine ⟨by omega, by omega, by omega, by simp only [List.length_append, List.length_singleton]; omega, fun c hc => ?_⟩
 rcases List.mem_append.1 hc with h | h
 · exact hi5 c h
 · rw [List.mem_singleton] at h; subst h; exact ⟨by omega, by omega, by omega⟩
 try simp only [KF] at c33
 refine Sk (Jn (hK31 (Kp [2, 4, 5, 6, 7, 8, 9] (Rb (fun h => Bn (Jn (hK14 h))) (An3 4 [(72, .osl 32 5 0 (zs.length + 1)), (71, .osl 28 5 0 1), (70, .agg (clc cl16)), (69, .osl 12 5 0 zs.length)] [(32, apd (fl clc zs) (zs.length * 5) (clc cl16)), (28, clc cl16), (24, tcs ((sTreeDo x cl16).1)), (20, clc cl16), (16, tcs x), (8, tcs x4), (4, rdc bb (q17 + 1)), (0, zt)] 36 ((0 + 5 <= 5 /\ 0 < 5) /\ (1 * 5 <= 16777216) /\ (0 + 1 * 5 <= 5) /\ (5 = 5 /\ zs.length * 5 <= (fl clc zs).length /\ 0 < 80 /\ (zs.length + 1) * 80 <= 140737488355328) /\ ·) ⟨(by decide), (by decide), (by decide), ⟨rfl, by (first | omega | (simp only [LL, flCl]; omega)), by decide, by (first | omega | (simp only [LL, flCl]; omega))⟩, run_v (v' := .osl 32 5 0 ((zs ++ [cl16]).length)) (push_len _ _ _ _) (run_h (cs' := fl clc (zs ++ [cl16])) (push_cl zs cl16) ?_)⟩)))))
 refine Fn0 [2, 4, 5, 7, 8] [(6, .osl 32 5 0 ((zs ++ [cl16]).length))] (Rn (Av1 (r := .int .i64 (IntKind.i64.wrap ((k : Int) - 1))) (v := .int .i64 ((k : Int) - 1)) 2 23 [(22, .int .i64 k)] (congrArg (AV.int .i64) (wrap64 (by omega) (by omega))) (Ki /\ ·) ⟨rfl, Gn0 [(8, .int .i64 ((k : Int) - 1))] (nk_n ?_)⟩))
 refine Lr (x, q17 + 1, k - 1, zs ++ [cl16]) [(0, 0), (4, 4), (8, 8), (16, 16), (32, 12)] 20 [(2, .ptr 0 0), (4, .ptr 4 0), (5, .ptr 8 0), (6, .osl 32 5 0 ((zs ++ [cl16]).length)), (7, .ptr 16 0), (8, .int .i64 ((k : Int) - 1))] [(16, tcs x), (32, fl clc (zs ++ [cl16])), (8, tcs x4), (4, rdc bb (q17 + 1)), (0, zt)] [true, false, true, true, true] ?_ ?_ (by kernel_rfl) (by (try rw [show ((k : Int) - 1) = ((k - 1 : Nat) : Int) by omega]); try kernel_rfl)
 (try dsimp only); omega
 refine ⟨?_, rfl⟩; (try dsimp only)
 refine ⟨by omega, by omega, by omega, by simp only [List.length_append, List.length_singleton]; omega, fun c hc => ?_⟩
 rcases List.mem_append.1 hc with h | h
 · exact hi5 c h
 · rw [List.mem_singleton] at h; subst h; exact ⟨by omega, by omega, by omega⟩
 have hg22 := g22
 try simp only [KF] at g22
 refine Fn0 [2, 4, 5, 6, 7, 8, 9] [(44, .bool false)] (Cf (Sk (Jn (hK18 (Kp [2, 4, 5, 6, 7, 8, 9] (Rr (Bc1 3 [(62, .agg (clc cl16)), (61, .agg (tcs x))] 7 [.agg (tcs x), .agg (clc cl16)] 63 ((0 + 5 <= 5 /\ 0 < 5) /\ (0 + 5 <= 5 /\ 0 < 5) /\ ·) ⟨(by decide), (by decide), ?_⟩)))))))
 have hB35 := W_sTreeDo x cl16 (by omega)
 refine PE.use (sTreeDo_ok x cl16 (by omega) (by first | omega | decide | (dsimp only; first | omega | decide)) (by first | omega | decide | (dsimp only; first | omega | decide)) (by first | omega | decide | (dsimp only; first | omega | decide))) ?_
 refine Ke (Fn3 [2, 4, 5, 6, 7, 8, 9] [(11, .int .i64 ((sTreeDo x cl16).2)), (10, .ptr 24 0)] [(24, tcs ((sTreeDo x cl16).1)), (20, clc cl16), (16, tcs x), (12, fl clc zs), (8, tcs x4), (4, rdc bb (q17 + 1)), (0, zt)] 28 ((0 < 2) /\ (1 < 2) /\ (true = true /\ 5 = 5 /\ 0 + 5 <= 5) /\ ·) ⟨(by decide), (by decide), (by decide), Sq fun K36 hK36 => ?_⟩)
 refine Rr (Cn1 (decide (((sTreeDo x cl16).2 : Int) = (0 : Int))) [2, 4, 5, 6, 7, 8, 9, 10] [] (Ki /\ ·) ⟨rfl, fun hc38 c38 => ?_, fun hc38 c38 => ?_⟩)
 try simp only [KF] at c38
 refine Rb (fun h => Jn (hK36 h)) (Fn3 [2, 4, 5, 6, 7, 8, 9] [] [(24, tcs ((sTreeDo x cl16).1)), (20, clc cl16), (16, tcs ((sTreeDo x cl16).1)), (12, fl clc zs), (8, tcs x4), (4, rdc bb (q17 + 1)), (0, zt)] 28 ((0 + 5 <= 5 /\ 0 < 5) /\ (true = true /\ 5 = 5 /\ 0 + 5 <= 5) /\ ·) ⟨(by decide), (by decide), Rb (fun h => Bn (Jn (hK14 h))) (An3 4 [(72, .osl 32 5 0 (zs.length + 1)), (71, .osl 28 5 0 1), (70, .agg (clc cl16)), (69, .osl 12 5 0 zs.length)] [(32, apd (fl clc zs) (zs.length * 5) (clc cl16)), (28, clc cl16), (24, tcs ((sTreeDo x cl16).1)), (20, clc cl16), (16, tcs ((sTreeDo x cl16).1)), (8, tcs x4), (4, rdc bb (q17 + 1)), (0, zt)] 36 ((0 + 5 <= 5 /\ 0 < 5) /\ (1 * 5 <= 16777216) /\ (0 + 1 * 5 <= 5) /\ (5 = 5 /\ zs.length * 5 <= (fl clc zs).length /\ 0 < 80 /\ (zs.length + 1) * 80 <= 140737488355328) /\ ·) ⟨(by decide), (by decide), (by decide), ⟨rfl, by (first | omega | (simp only [LL, flCl]; omega)), by decide, by (first | omega | (simp only [LL, flCl]; omega))⟩, run_v (v' := .osl 32 5 0 ((zs ++ [cl16]).length)) (push_len _ _ _ _) ?_⟩)⟩)
 refine run_h (cs' := fl clc (zs ++ [cl16])) (push_cl zs cl16) ?_
 refine Fn0 [2, 4, 5, 7, 8] [(6, .osl 32 5 0 ((zs ++ [cl16]).length))] (Rn (Av1 (r := .int .i64 (IntKind.i64.wrap ((k : Int) - 1))) (v := .int .i64 ((k : Int) - 1)) 2 23 [(22, .int .i64 k)] (congrArg (AV.int .i64) (wrap64 (by omega) (by omega))) (Ki /\ ·) ⟨rfl, Gn0 [(8, .int .i64 ((k : Int) - 1))] (nk_n ?_)⟩))
 refine Lr (((sTreeDo x cl16).1), q17 + 1, k - 1, zs ++ [cl16]) [(0, 0), (4, 4), (8, 8), (16, 16), (32, 12)] 20 [(2, .ptr 0 0), (4, .ptr 4 0), (5, .ptr 8 0), (6, .osl 32 5 0 ((zs ++ [cl16]).length)), (7, .ptr 16 0), (8, .int .i64 ((k : Int) - 1))] [(16, tcs ((sTreeDo x cl16).1)), (32, fl clc (zs ++ [cl16])), (8, tcs x4), (4, rdc bb (q17 + 1)), (0, zt)] [true, false, true, true, true] ?_ ?_ (by kernel_rfl) (by (try rw [show ((k : Int) - 1) = ((k - 1 : Nat) : Int) by omega]); try kernel_rfl)
 (try dsimp only); omega
 refine ⟨?_, rfl⟩; (try dsimp only)
 refine ⟨by omega, by omega, by omega, by simp only [List.length_append, List.length_singleton]; omega, fun c hc => ?_⟩
 rcases List.mem_append.1 hc with h | h
 · exact hi5 c h
 · rw [List.mem_singleton] at h; subst h; exact ⟨by omega, by omega, by omega⟩
 try simp only [KF] at c38
 refine Sk (Jn (hK36 (Kp [2, 4, 5, 6, 7, 8, 9] (Rb (fun h => Bn (Jn (hK14 h))) (An3 4 [(72, .osl 32 5 0 (zs.length + 1)), (71, .osl 28 5 0 1), (70, .agg (clc cl16)), (69, .osl 12 5 0 zs.length)] [(32, apd (fl clc zs) (zs.length * 5) (clc cl16)), (28, clc cl16), (24, tcs ((sTreeDo x cl16).1)), (20, clc cl16), (16, tcs x), (8, tcs x4), (4, rdc bb (q17 + 1)), (0, zt)] 36 ((0 + 5 <= 5 /\ 0 < 5) /\ (1 * 5 <= 16777216) /\ (0 + 1 * 5 <= 5) /\ (5 = 5 /\ zs.length * 5 <= (fl clc zs).length /\ 0 < 80 /\ (zs.length + 1) * 80 <= 140737488355328) /\ ·) ⟨(by decide), (by decide), (by decide), ⟨rfl, by (first | omega | (simp only [LL, flCl]; omega)), by decide, by (first | omega | (simp only [LL, flCl]; omega))⟩, run_v (v' := .osl 32 5 0 ((zs ++ [cl16]).length)) (push_len _ _ _ _) (run_h (cs' := fl clc (zs ++ [cl16])) (push_cl zs cl16) ?_)⟩)))))
 refine Fn0 [2, 4, 5, 7, 8] [(6, .osl 32 5 0 ((zs ++ [cl16]).length))] (Rn (Av1 (r := .int .i64 (IntKind.i64.wrap ((k : Int) - 1))) (v := .int .i64 ((k : Int) - 1)) 2 23 [(22, .int .i64 k)] (congrArg (AV.int .i64) (wrap64 (by omega) (by omega))) (Ki /\ ·) ⟨rfl, Gn0 [(8, .int .i64 ((k : Int) - 1))] (nk_n ?_)⟩))
 refine Lr (x, q17 + 1, k - 1, zs ++ [cl16]) [(0, 0), (4, 4), (8, 8), (16, 16), (32, 12)] 20 [(2, .ptr 0 0), (4, .ptr 4 0), (5, .ptr 8 0), (6, .osl 32 5 0 ((zs ++ [cl16]).length)), (7, .ptr 16 0), (8, .int .i64 ((k : Int) - 1))] [(16, tcs x), (32, fl clc (zs ++ [cl16])), (8, tcs x4), (4, rdc bb (q17 + 1)), (0, zt)] [true, false, true, true, true] ?_ ?_ (by kernel_rfl) (by (try rw [show ((k : Int) - 1) = ((k - 1 : Nat) : Int) by omega]); try kernel_rfl)
 (try dsimp only); omega
 refine ⟨?_, rfl⟩; (try dsimp only)
 refine ⟨by omega, by omega, by omega, by simp only [List.length_append, List.length_singleton]; omega, fun c hc => ?_⟩
 rcases List.mem_append.1 hc with h | h
 · exact hi5 c h
 · rw [List.mem_singleton] at h; subst h; exact ⟨by omega, by omega, by omega⟩
 have hg21 := g21
 try simp only [KF] at g21
 refine Fn0 [2, 4, 5, 6, 7, 8, 9] [(44, .bool false)] (Cf (Sk (Jn (hK18 (Kp [2, 4, 5, 6, 7, 8, 9] (Rr (Bc1 3 [(62, .agg (clc cl16)), (61, .agg (tcs x))] 7 [.agg (tcs x), .agg (clc cl16)] 63 ((0 + 5 <= 5 /\ 0 < 5) /\ (0 + 5 <= 5 /\ 0 < 5) /\ ·) ⟨(by decide), (by decide), ?_⟩)))))))
 have hB40 := W_sTreeDo x cl16 (by omega)
 refine PE.use (sTreeDo_ok x cl16 (by omega) (by first | omega | decide | (dsimp only; first | omega | decide)) (by first | omega | decide | (dsimp only; first | omega | decide)) (by first | omega | decide | (dsimp only; first | omega | decide))) ?_
 refine Ke (Fn3 [2, 4, 5, 6, 7, 8, 9] [(11, .int .i64 ((sTreeDo x cl16).2)), (10, .ptr 24 0)] [(24, tcs ((sTreeDo x cl16).1)), (20, clc cl16), (16, tcs x), (12, fl clc zs), (8, tcs x4), (4, rdc bb (q17 + 1)), (0, zt)] 28 ((0 < 2) /\ (1 < 2) /\ (true = true /\ 5 = 5 /\ 0 + 5 <= 5) /\ ·) ⟨(by decide), (by decide), (by decide), Sq fun K41 hK41 => ?_⟩)
 refine Rr (Cn1 (decide (((sTreeDo x cl16).2 : Int) = (0 : Int))) [2, 4, 5, 6, 7, 8, 9, 10] [] (Ki /\ ·) ⟨rfl, fun hc43 c43 => ?_, fun hc43 c43 => ?_⟩)
 try simp only [KF] at c43
 refine Rb (fun h => Jn (hK41 h)) (Fn3 [2, 4, 5, 6, 7, 8, 9] [] [(24, tcs ((sTreeDo x cl16).1)), (20, clc cl16), (16, tcs ((sTreeDo x cl16).1)), (12, fl clc zs), (8, tcs x4), (4, rdc bb (q17 + 1)), (0, zt)] 28 ((0 + 5 <= 5 /\ 0 < 5) /\ (true = true /\ 5 = 5 /\ 0 + 5 <= 5) /\ ·) ⟨(by decide), (by decide), Rb (fun h => Bn (Jn (hK14 h))) (An3 4 [(72, .osl 32 5 0 (zs.length + 1)), (71, .osl 28 5 0 1), (70, .agg (clc cl16)), (69, .osl 12 5 0 zs.length)] [(32, apd (fl clc zs) (zs.length * 5) (clc cl16)), (28, clc cl16), (24, tcs ((sTreeDo x cl16).1)), (20, clc cl16), (16, tcs ((sTreeDo x cl16).1)), (8, tcs x4), (4, rdc bb (q17 + 1)), (0, zt)] 36 ((0 + 5 <= 5 /\ 0 < 5) /\ (1 * 5 <= 16777216) /\ (0 + 1 * 5 <= 5) /\ (5 = 5 /\ zs.length * 5 <= (fl clc zs).length /\ 0 < 80 /\ (zs.length + 1) * 80 <= 140737488355328) /\ ·) ⟨(by decide), (by decide), (by decide), ⟨rfl, by (first | omega | (simp only [LL, flCl]; omega)), by decide, by (first | omega | (simp only [LL, flCl]; omega))⟩, run_v (v' := .osl 32 5 0 ((zs ++ [cl16]).length)) (push_len _ _ _ _) ?_⟩)⟩)
 refine run_h (cs' := fl clc (zs ++ [cl16])) (push_cl zs cl16) ?_
 refine Fn0 [2, 4, 5, 7, 8] [(6, .osl 32 5 0 ((zs ++ [cl16]).length))] (Rn (Av1 (r := .int .i64 (IntKind.i64.wrap ((k : Int) - 1))) (v := .int .i64 ((k : Int) - 1)) 2 23 [(22, .int .i64 k)] (congrArg (AV.int .i64) (wrap64 (by omega) (by omega))) (Ki /\ ·) ⟨rfl, Gn0 [(8, .int .i64 ((k : Int) - 1))] (nk_n ?_)⟩))
 refine Lr (((sTreeDo x cl16).1), q17 + 1, k - 1, zs ++ [cl16]) [(0, 0), (4, 4), (8, 8), (16, 16), (32, 12)] 20 [(2, .ptr 0 0), (4, .ptr 4 0), (5, .ptr 8 0), (6, .osl 32 5 0 ((zs ++ [cl16]).length)), (7, .ptr 16 0), (8, .int .i64 ((k : Int) - 1))] [(16, tcs ((sTreeDo x cl16).1)), (32, fl clc (zs ++ [cl16])), (8, tcs x4), (4, rdc bb (q17 + 1)), (0, zt)] [true, false, true, true, true] ?_ ?_ (by kernel_rfl) (by (try rw [show ((k : Int) - 1) = ((k - 1 : Nat) : Int) by omega]); try kernel_rfl)
 (try dsimp only); omega
 refine ⟨?_, rfl⟩; (try dsimp only)
 refine ⟨by omega, by omega, by omega, by simp only [List.length_append, List.length_singleton]; omega, fun c hc => ?_⟩
 rcases List.mem_append.1 hc with h | h
 · exact hi5 c h
 · rw [List.mem_singleton] at h; subst h; exact ⟨by omega, by omega, by omega⟩
 try simp only [KF] at c43
 refine Sk (Jn (hK41 (Kp [2, 4, 5, 6, 7, 8, 9] (Rb (fun h => Bn (Jn (hK14 h))) (An3 4 [(72, .osl 32 5 0 (zs.length + 1)), (71, .osl 28 5 0 1), (70, .agg (clc cl16)), (69, .osl 12 5 0 zs.length)] [(32, apd (fl clc zs) (zs.length * 5) (clc cl16)), (28, clc cl16), (24, tcs ((sTreeDo x cl16).1)), (20, clc cl16), (16, tcs x), (8, tcs x4), (4, rdc bb (q17 + 1)), (0, zt)] 36 ((0 + 5 <= 5 /\ 0 < 5) /\ (1 * 5 <= 16777216) /\ (0 + 1 * 5 <= 5) /\ (5 = 5 /\ zs.length * 5 <= (fl clc zs).length /\ 0 < 80 /\ (zs.length + 1) * 80 <= 140737488355328) /\ ·) ⟨(by decide), (by decide), (by decide), ⟨rfl, by (first | omega | (simp only [LL, flCl]; omega)), by decide, by (first | omega | (simp only [LL, flCl]; omega))⟩, run_v (v' := .osl 32 5 0 ((zs ++ [cl16]).length)) (push_len _ _ _ _) (run_h (cs' := fl clc (zs ++ [cl16])) (push_cl zs cl16) ?_)⟩)))))
 refine Fn0 [2, 4, 5, 7, 8] [(6, .osl 32 5 0 ((zs ++ [cl16]).length))] (Rn (Av1 (r := .int .i64 (IntKind.i64.wrap ((k : Int) - 1))) (v := .int .i64 ((k : Int) - 1)) 2 23 [(22, .int .i64 k)] (congrArg (AV.int .i64) (wrap64 (by omega) (by omega))) (Ki /\ ·) ⟨rfl, Gn0 [(8, .int .i64 ((k : Int) - 1))] (nk_n ?_)⟩))
 refine Lr (x, q17 + 1, k - 1, zs ++ [cl16]) [(0, 0), (4, 4), (8, 8), (16, 16), (32, 12)] 20 [(2, .ptr 0 0), (4, .ptr 4 0), (5, .ptr 8 0), (6, .osl 32 5 0 ((zs ++ [cl16]).length)), (7, .ptr 16 0), (8, .int .i64 ((k : Int) - 1))] [(16, tcs x), (32, fl clc (zs ++ [cl16])), (8, tcs x4), (4, rdc bb (q17 + 1)), (0, zt)] [true, false, true, true, true] ?_ ?_ (by kernel_rfl) (by (try rw [show ((k : Int) - 1) = ((k - 1 : Nat) : Int) by omega]); try kernel_rfl)
 (try dsimp only); omega
 refine ⟨?_, rfl⟩; (try dsimp only)
 refine ⟨by omega, by omega, by omega, by simp only [List.length_append, List.length_singleton]; omega, fun c hc => ?_⟩
 rcases List.mem_append.1 hc with h | h
 · exact hi5 c h
 · rw [List.mem_singleton] at h; subst h; exact ⟨by omega, by omega, by omega⟩
 try simp only [KF] at c13
 refine Xt (Jx (Lx (Bh (Jn (hK8 (Kp [2, 5, 6] (Rr (Fn3 [2] [(3, .osl 12 5 0 zs.length)] [(16, tcs x), (12, fl clc zs), (8, tcs x4), (4, rdc bb q), (0, tcs x4)] 20 ((0 + 5 <= 5 /\ 0 < 5) /\ (true = true /\ 5 = 5 /\ 0 + 5 <= 5) /\ ·) ⟨(by decide), (by decide), Fz 12 5 zs.length (zs.map clc) (fl clc zs) [(2, .ptr 0 0), (3, .osl 12 5 0 zs.length)] [(0, tcs x4)] [true] (chkC _) (flC_le _) (Rt1 ((0 + 5 <= 5 /\ 0 < 5) /\ ·) (.tup [.agg (tcs x4), .sl 5 (zs.map clc)]) ⟨(by decide), ?_⟩)⟩))))))))
 exact ⟨[], List.nil_sublist _, _, lea_refl _, ⟨x4, zs, rfl, by omega, by omega, hi5⟩, by simp only [go_sem, pur, purs, puress_cl, Bool.and_self]⟩
theorem vw_m {H : Hp} {a : Nat} {X : List Mk} (p : List Str) (hg : hgt H a = some (fl mkc X)) : View H [.osl a 2 0 X.length, pth p] [.sl 2 (X.map mkc), pth p] := by
 refine View.fz a hg ?_
 have e : fzs a (fl mkc X) [.osl a 2 0 X.length, pth p] = [.sl 2 (X.map mkc), pth p] := by
  rw [fqs_eq (chkM X) (flM_le X) _ (by simp only [oqs, oq, oq_pth, and_self, if_true])]
  simp only [fqs, fq, Nat.beq_refl, cond_true, pth]
 rw [e]; exact View.refl _ _
def wuM (l : List Mk) (p : List Str) : Bool := l.any fun m => m.path == p || (m.sub && m.path.isPrefixOf p)
theorem wuM_app {a b : List Mk} {p : List Str} (h : wuM a p = true) : wuM (a ++ b) p = true := by unfold wuM at *; rw [List.any_append, h, Bool.true_or]
theorem wuM_two {a : List Mk} {x y p : List Str} (h : p = x \/ p = y) : wuM (a ++ [⟨x, false⟩, ⟨y, false⟩]) p = true := by
 unfold wuM; rw [List.any_append, Bool.or_eq_true]; right
 rcases h with rfl | rfl <;> simp
theorem dir_tAt {t : Tr} {p : List Str} (h : treeOk t = true) (hd : dirAt t p = true) : (tAt t p).1.dir = true := by
 unfold tAt; rw [h]; unfold dirAt at hd
 simp only [cond_true, xat]
 cases e : tat t p with
 | none => rw [e] at hd; cases hd
 | some x => rw [e] at hd; exact hd
theorem sTD_ok {t : Tr} {c : Cl} (h : (sTreeDo t c).2 = 0) : treeOk t = true /\ callOk c = true := by
 unfold sTreeDo at h
 cases ht : treeOk t with
 | false => rw [ht] at h; cases h
 | true =>
  cases hc : callOk c with
  | false => rw [ht, hc] at h; cases h
  | true => exact ⟨rfl, rfl⟩
theorem mksOf_ok {t : Tr} {c : Cl} {m : Mk} (h : m ∈ mksOf t c) : mkOk m = true := by
 obtain ⟨h1, h2, _⟩ := mksOf_mem h
 have key : pthOk m.path 1 = true := by
  unfold callOk at h1
  rcases h2 with e | e
  ·rw [e]; (repeat' split at h1) <;> simp_all
  ·rw [e]
   unfold mksOf at h
   rw [show callOk c = true from (mksOf_mem (t := t) (c := c) (m := m) (by unfold mksOf; exact h)).1] at h
   simp only [Bool.not_true, cond_false] at h
   cases hk : decide (c.kind = (5 : Int)) with
   | true => have hk5 : c.kind = 5 := of_decide_eq_true hk; rw [hk5] at h1; simp at h1; exact h1.2
   | false =>
    rw [hk] at h; simp at h; subst h
    have e2 : c.path = c.to := e
    rw [<- e2]; (repeat' split at h1) <;> simp_all
 unfold pthOk inb at key
 rw [Bool.and_eq_true, Bool.and_eq_true, decide_eq_true_eq, decide_eq_true_eq] at key
 unfold mkOk pthOk inb
 rw [key.1, show decide ((0 : Int) <= ((m.path.length : Nat) : Int)) = true from decide_eq_true (by omega), show decide (((m.path.length : Nat) : Int) <= 4) = true from decide_eq_true key.2.2, show decide (0 < m.path.length) = true from decide_eq_true (by omega)]
 rfl
theorem mv_ok {x : Tr} {c : Cl} {l l2 mv : List Mk} (h0 : (sTreeDo x c).2 = 0) (ha : AddL l (mksOf x c) l2) (hm : ∀ m ∈ l, m.sub = true -> wuM mv m.path = true) (b : Bool) (hb : b = (decide (c.kind = (5 : Int)) && (tAt x c.path).1.dir)) :
  ∀ m ∈ l2, m.sub = true -> wuM (bif b then mv ++ [⟨c.path, false⟩, ⟨c.to, false⟩] else mv) m.path = true := by
 intro m hml hs
 rcases ha.mem hml with h | h
 ·have := hm m h hs
  cases b with
  | true => exact wuM_app this
  | false => exact this
 ·obtain ⟨h1, h2, h3⟩ := mksOf_mem h
  obtain ⟨h4, h5⟩ := h3 hs
  rw [h4, dir_tAt (sTD_ok h0).1 h5] at hb
  have : b = true := by rw [hb]; rfl
  subst this
  exact wuM_two h2
open Go Go.Proofs
set_option maxRecDepth 100000
set_option maxHeartbeats 2000000 in
theorem FnTrailFine_ok (X : Str) : PE G 3 [.sl 1 (X.map fun c => [AV.int .u8 (c.toNat : Int)])] (.bool true) := by
 refine Pe Tryz.func3 ?_
 refine Rr (Fn0 [0] [] (Sq fun K2 hK2 => ?_))
 refine Rr (Av0 (r := .int .i64 ((X.map (fun c => [AV.int .u8 (c.toNat : Int)])).length : Nat)) (v := .int .i64 X.length) 2 19 [(18, .sl 1 (X.map fun c => [AV.int .u8 (c.toNat : Int)]))] (by rw [List.length_map]) (Cn1 (decide ((1048576 : Int) < ((X.length : Int) : Int))) [0] [] (Ki /\ ·) ⟨rfl, fun hc4 c4 => ?_, fun hc4 c4 => ?_⟩))
 try simp only [KF] at c4
 refine Rr (Fn0 [] [(2, .bool true)] (Rt (.bool true) ?_))
 exact fin_lea (lea_refl _)
 try simp only [KF] at c4
 refine Sk (Jn (hK2 (Kp [0] (Rr (Bc0 2 [(22, .sl 1 (X.map fun c => [AV.int .u8 (c.toNat : Int)]))] 4 [.sl 1 (X.map fun c => [AV.int .u8 (c.toNat : Int)])] 23 (PC.use (DrawTrail_ok X (by omega)) fun r hr => ?_)))))); obtain ⟨t0, zs, rfl, hw0, hz0, hzb⟩ := hr
 refine Ke (Fn3 [] [(4, .sl 5 (zs.map clc)), (3, .ptr 0 0)] [(0, tcs t0)] 4 ((0 < 2) /\ (1 < 2) /\ (true = true /\ 5 = 5 /\ 0 + 5 <= 5) /\ ·) ⟨(by decide), (by decide), (by decide), Rr (Fn3 [4] [(5, .ptr 4 0)] [(4, tcs t0), (0, tcs t0)] 8 ((0 + 5 <= 5 /\ 0 < 5) /\ (true = true /\ 5 = 5 /\ 0 + 5 <= 5) /\ ·) ⟨(by decide), (by decide), Rr ?_⟩)⟩)
 refine Fn3 [4, 5] [(6, .osl 8 2 0 0)] [(8, []), (4, tcs t0), (0, tcs t0)] 12 ((0 * 2 <= 16777216) /\ ·) ⟨(by decide), Rr (Fn3 [4, 5, 6] [(7, .osl 12 2 0 0)] [(12, []), (8, []), (4, tcs t0), (0, tcs t0)] 16 ((0 * 2 <= 16777216) /\ ·) ⟨(by decide), Rr (Fn0 [4, 5, 6, 7] [(8, .int .i64 0)] ?_)⟩)⟩
 refine Sq fun K11 hK11 => ?_
 refine Rr (Fn0 [4, 5, 6, 7, 8] [(9, .int .i64 0)] (Bl (Fz 8 2 0 ([]) ([]) [(4, .sl 5 (zs.map clc)), (5, .ptr 4 0), (6, .osl 8 2 0 0), (7, .osl 12 2 0 0), (8, .int .i64 0), (9, .int .i64 0)] [(12, []), (4, tcs t0)] [true, true] (by kernel_rfl) (by decide) (h_l (fun (z : Nat × Nat × Tr × List Mk × List Mk) => (match z with | (i, d, x, l, mv) => ([(4, .sl 5 (zs.map clc)), (5, .ptr 4 0), (6, .sl 2 (l.map mkc)), (7, .osl 12 2 0 mv.length), (8, .int .i64 d), (9, .int .i64 i)] : Fr))) (fun (z : Nat × Nat × Tr × List Mk × List Mk) => (match z with | (i, d, x, l, mv) => ([(12, fl mkc mv), (4, tcs x)] : Hp))) (fun (z : Nat × Nat × Tr × List Mk × List Mk) cn => (match z with | (i, d, x, l, mv) => (x.W < 2 ^ 12 /\ i <= zs.length /\ d <= 3 /\ l.length <= 2 * d /\ Trl l /\ (∀ m ∈ l, wS m.path < 2 ^ 40) /\ (∀ m ∈ l, m.sub = true -> wuM mv m.path = true) /\ mv.length <= 2 * d /\ (∀ m ∈ mv, wS m.path < 2 ^ 40)) /\ cn = 16)) (fun (z : Nat × Nat × Tr × List Mk × List Mk) => zs.length - z.1) (0, 0, t0, [], []) (by kernel_rfl) ?_ ?_ ?_ ?_))))
 refine ⟨?_, rfl⟩; exact ⟨hw0, Nat.zero_le _, by omega, by simp, Trl.nil, by simp, by simp, by simp, by simp⟩
 exact ⟨by kernel_rfl, by kernel_rfl, by kernel_rfl, by kernel_rfl, by kernel_rfl, by kernel_rfl, trivial⟩
 exact (sub_c (by kernel_rfl) (sub_c (by kernel_rfl) (List.nil_sublist _)))
 rintro ⟨i, d, x, l, mv⟩ n1 hI
 (try dsimp only at hI)
 obtain ⟨⟨hx, hi, hd, hll, htr, hlb, hms, hmv, hmb⟩, rfl⟩ := hI
 refine Sq fun K13 hK13 => ?_
 refine Rm 36 ((decide ((i : Int) < (zs.length : Int))) && (decide ((d : Int) < 3))) [4, 5, 6, 7, 8, 9] ?_ ?_
 refine Av0 (r := .int .i64 ((zs.map clc).length : Nat)) (v := .int .i64 zs.length) 3 31 [(30, .sl 5 (zs.map clc)), (29, .int .i64 i)] (by rw [List.length_map]) (An1 2 [(33, .bool (decide ((i : Int) < (zs.length : Int)))), (32, .bool (decide ((i : Int) < (zs.length : Int))))] (Ki /\ ·) ⟨rfl, run_b (fun g15 => ?_) (fun g15 => ?_)⟩)
 have hg15 := g15
 try simp only [KF] at g15
 refine Mn1 (decide ((d : Int) < 3)) (Ki /\ ·) ⟨rfl, (by rw [hg15]; rfl)⟩
 have hg15 := g15
 try simp only [KF] at g15
 refine Mn0 false (by rw [hg15]; rfl)
 refine Cc ((decide ((i : Int) < (zs.length : Int))) && (decide ((d : Int) < 3))) (fun hc16 c16 => ?_) fun hc16 c16 => ?_
 try simp only [KF] at c16
 refine Sk (Jn (hK13 (Kp [4, 5, 6, 7, 8, 9] (Sq fun K17 hK17 => ?_))))
 refine Bl ?_
 obtain ⟨hc1, hc2, hc3⟩ := hzb _ (getD_mem zs i default (by omega)); have hcl := wS_len (zs.getD i default).path
 refine Qr [0, 0, 0, 6, 14, 30, 63, 127, 255, 255, 0, 1535, 4095] [(0, []), (1, []), (2, []), (3, []), (4, []), (5, []), (6, []), (7, []), (8, []), (9, []), (10, [0, 5]), (11, []), (12, [])] (qAv1 4 43 [(42, .int .i64 i), (41, .sl 5 (zs.map clc)), (40, .agg (tcs x))] (congrArg AV.pat (mg_cl zs i (by omega))) ((0 + 5 <= 5 /\ 0 < 5) /\ (5 = 5 /\ (0 : Int) <= (i : Int) /\ (i : Int) < ((zs.map clc).length : Int)) /\ ·) ⟨(by decide), ⟨rfl, by omega, by rw [List.length_map]; omega⟩, qBc1 3 [(45, pth ((zs.getD i default).path)), (44, .pat [pth ((zs.getD i default).path), pth ((zs.getD i default).to), .int .i64 ((zs.getD i default).at_), .str ((zs.getD i default).data)])] [] 5 [.agg (tcs x), pth ((zs.getD i default).path)] 46 (((1 : Nat) ≠ 0) /\ (1 <= 4 /\ 0 < 4) /\ ·) ⟨(by decide), (by decide), PE.use (sTreeAt_ok x ((zs.getD i default).path) (by omega) (by omega)) (Kq (p := (True)) trivial ?_)⟩⟩)
 refine qFn3 [4, 5, 6, 7, 8, 9] [(10, .ptr 16 0)] [(16, tcs ((tAt x ((zs.getD i default).path)).1)), (12, fl mkc mv), (4, tcs x)] 20 ((0 < 2) /\ (1 < 2) /\ (((0 + 5 <= 5 /\ 0 < 5) /\ (AV.agg (tcs x) = (.agg (tcs x) : AV))) /\ ((1 <= 4 /\ 0 < 4) /\ (pth ((zs.getD i default).path) = pth ((zs.getD i default).path))) /\ True) /\ (true = true /\ 5 = 5 /\ 0 + 5 <= 5) /\ (True) /\ ·) ⟨(by decide), (by decide), ⟨⟨(by decide), rfl⟩, ⟨(by decide), rfl⟩, trivial⟩, (by decide), trivial, Qr [0, 0, 0, 0, 12, 28, 63, 127, 255, 255, 255, 0, 2559, 7167, 16383] [(0, []), (1, []), (2, []), (3, []), (4, []), (5, []), (6, []), (7, []), (8, []), (9, []), (10, []), (11, [0, 5]), (12, []), (13, []), (14, [])] (qAv1 5 54 [(53, .int .i64 i), (52, .sl 5 (zs.map clc)), (51, .sl 2 (l.map mkc)), (50, .agg (tcs x))] (congrArg AV.pat (mg_cl zs i (by omega))) ((0 + 5 <= 5 /\ 0 < 5) /\ (5 = 5 /\ (0 : Int) <= (i : Int) /\ (i : Int) < ((zs.map clc).length : Int)) /\ ·) ⟨(by decide), ⟨rfl, by omega, by rw [List.length_map]; omega⟩, qBc1 2 [(55, .agg (clc (zs.getD i default)))] [] 6 [.agg (tcs x), .sl 2 (l.map mkc), .agg (clc (zs.getD i default))] 56 ((5 <= 5 /\ 0 < 5) /\ ·) ⟨(by decide), PC.use (TrailDo_ok x l (zs.getD i default) (by omega) (by omega) (by omega) (by omega) hlb (by omega) htr) fun r hr => ?_⟩⟩)⟩; obtain ⟨l2, rfl, hAL⟩ := hr
 refine Kq (p := (True)) trivial ?_
 refine qFn3 [4, 5, 6, 7, 8, 9, 10] [(14, .int .i64 ((sTreeDo x (zs.getD i default)).2)), (13, .sl 2 (l2.map mkc)), (12, .ptr 20 0)] [(20, tcs ((sTreeDo x (zs.getD i default)).1)), (16, tcs ((tAt x ((zs.getD i default).path)).1)), (12, fl mkc mv), (4, tcs x)] 24 (fun Z => (0 < 3) /\ (1 < 3) /\ (2 < 3) /\ (((0 + 5 <= 5 /\ 0 < 5) /\ (AV.agg (tcs x) = (.agg (tcs x) : AV))) /\ ((5 <= 5 /\ 0 < 5) /\ (AV.agg (clc (zs.getD i default)) = (.agg (clc (zs.getD i default)) : AV))) /\ True) /\ (true = true /\ 5 = 5 /\ 0 + 5 <= 5) /\ (True) /\ Z) ⟨(by decide), (by decide), (by decide), ⟨⟨(by decide), rfl⟩, ⟨(by decide), rfl⟩, trivial⟩, (by decide), trivial, Qr [0, 0, 0, 6, 14, 31, 63, 127, 127, 0, 767, 2047] [(0, []), (1, []), (2, []), (3, []), (4, []), (5, []), (6, []), (7, []), (8, []), (9, [0, 4]), (10, []), (11, [])] (qAv1 4 64 [(63, .int .i64 i), (62, .sl 5 (zs.map clc)), (61, .agg (tcs x))] (congrArg AV.pat (mg_cl zs i (by omega))) ((0 + 5 <= 5 /\ 0 < 5) /\ (5 = 5 /\ (0 : Int) <= (i : Int) /\ (i : Int) < ((zs.map clc).length : Int)) /\ ·) ⟨(by decide), ⟨rfl, by omega, by rw [List.length_map]; omega⟩, qBc1 2 [(65, .agg (clc (zs.getD i default)))] [] 7 [.agg (tcs x), .agg (clc (zs.getD i default))] 66 ((5 <= 5 /\ 0 < 5) /\ ·) ⟨(by decide), ?_⟩⟩)⟩
 have hB := W_sTreeDo x (zs.getD i default) (by omega)
 refine PE.use (sTreeDo_ok x (zs.getD i default) (by omega) (by omega) (by omega) (by omega)) ?_
 refine Kq (p := (True)) trivial ?_
 refine qFn3 [4, 5, 6, 7, 8, 9, 10, 12, 13, 14] [(16, .int .i64 ((sTreeDo x (zs.getD i default)).2))] [(24, tcs ((sTreeDo x (zs.getD i default)).1)), (20, tcs ((sTreeDo x (zs.getD i default)).1)), (16, tcs ((tAt x ((zs.getD i default).path)).1)), (12, fl mkc mv), (4, tcs x)] 28 (fun Z => (0 < 2) /\ (1 < 2) /\ (((0 + 5 <= 5 /\ 0 < 5) /\ (AV.agg (tcs x) = (.agg (tcs x) : AV))) /\ ((5 <= 5 /\ 0 < 5) /\ (AV.agg (clc (zs.getD i default)) = (.agg (clc (zs.getD i default)) : AV))) /\ True) /\ (true = true /\ 5 = 5 /\ 0 + 5 <= 5) /\ (True) /\ Z) ⟨(by decide), (by decide), ⟨⟨(by decide), rfl⟩, ⟨(by decide), rfl⟩, trivial⟩, (by decide), trivial, Sq fun K21 hK21 => ?_⟩
 refine Rr (Cn1 (!decide (((sTreeDo x (zs.getD i default)).2 : Int) = ((sTreeDo x (zs.getD i default)).2 : Int))) [4, 5, 6, 7, 8, 9, 10, 12, 13, 14] [] (Ki /\ ·) ⟨rfl, fun hc23 c23 => ?_, fun hc23 c23 => ?_⟩)
 try simp only [KF] at c23
 exact absurd trivial c23
 try simp only [KF] at c23
 refine Sk (Jn (hK21 (Kp [4, 5, 6, 7, 8, 9, 10, 12, 13, 14] (Sq fun K24 hK24 => ?_))))
 refine Rr (Cn1 (!decide (((sTreeDo x (zs.getD i default)).2 : Int) = (0 : Int))) [4, 5, 6, 7, 8, 9, 10, 12, 13] [] (Ki /\ ·) ⟨rfl, fun hc26 c26 => ?_, fun hc26 c26 => ?_⟩)
 try simp only [KF] at c26
 refine Xt (Jx (Bh (Jn (hK17 (Kp [4, 5, 6, 7, 8, 9] (Rn (Av1 2 38 [(37, .int .i64 i)] (congrArg (AV.int .i64) (wn1 i (by omega))) (Ki /\ ·) ⟨rfl, Gn0 [(9, .int .i64 ((i + 1 : Nat) : Int))] (nk_n ?_)⟩)))))))
 refine Lr (i + 1, d, x, l, mv) [(4, 4), (12, 12)] 16 [(4, .sl 5 (zs.map clc)), (5, .ptr 4 0), (6, .sl 2 (l.map mkc)), (7, .osl 12 2 0 mv.length), (8, .int .i64 d), (9, .int .i64 ((i + 1 : Nat) : Int))] [(12, fl mkc mv), (4, tcs x)] [false, true] ?_ ?_ (by kernel_rfl) (by kernel_rfl)
 (try dsimp only); omega
 refine ⟨?_, rfl⟩; (try dsimp only); exact ⟨hx, by omega, hd, hll, htr, hlb, hms, hmv, hmb⟩
 try simp only [KF] at c26
 refine Sk (Jn (hK24 (Kp [4, 5, 7, 8, 9, 10, 12, 13] (Rr (Av1 2 75 [(74, .int .i64 d)] (congrArg (AV.int .i64) (wn1 d (by omega))) (Ki /\ ·) ⟨rfl, Fn0 [4, 5, 7, 9, 10, 12, 13] [(8, .int .i64 ((d + 1 : Nat) : Int))] (Sq fun K28 hK28 => ?_)⟩)))))
 refine Rm 85 ((decide (((zs.getD i default).kind : Int) = (5 : Int))) && (((tAt x ((zs.getD i default).path)).1).dir)) [4, 5, 7, 8, 9, 12, 13] ?_ ?_
 refine Av1 3 78 [(77, .int .i64 i), (76, .sl 5 (zs.map clc))] (congrArg AV.pat (mg_cl zs i (by omega))) ((5 = 5 /\ (0 : Int) <= (i : Int) /\ (i : Int) < ((zs.map clc).length : Int)) /\ ·) ⟨⟨rfl, by omega, by rw [List.length_map]; omega⟩, An1 4 [(82, .bool (decide (((zs.getD i default).kind : Int) = (5 : Int)))), (81, .bool (decide (((zs.getD i default).kind : Int) = (5 : Int)))), (80, .int .i64 ((zs.getD i default).kind)), (79, .pat (clc (zs.getD i default)))] (((1 : Nat) ≠ 0) /\ (1 <= 5 /\ 0 < 5) /\ Ki /\ ·) ⟨(by decide), (by decide), rfl, run_b (fun g30 => ?_) (fun g30 => ?_)⟩⟩
 have hg30 := g30
 try simp only [KF] at g30
 refine Mn1 (((tAt x ((zs.getD i default).path)).1).dir) (((1 : Nat) ≠ 0) /\ (0 + 1 <= 5 /\ 0 < 5) /\ ·) ⟨(by decide), (by decide), (by rw [hg30]; rfl)⟩
 have hg30 := g30
 try simp only [KF] at g30
 refine Mn0 false (by rw [hg30]; rfl)
 refine Cc ((decide (((zs.getD i default).kind : Int) = (5 : Int))) && (((tAt x ((zs.getD i default).path)).1).dir)) (fun hc31 c31 => ?_) fun hc31 c31 => ?_
 try simp only [KF] at c31
 refine Qlb [0, 0, 0, 6, 14, 30, 62, 0, 0, 384, 896, 1920, 3968, 8190, 16383] [(0, []), (1, []), (2, []), (3, []), (4, []), (5, []), (6, []), (7, []), (8, []), (9, []), (10, []), (11, []), (12, []), (13, []), (14, [])] (fun h => Jn (hK28 h)) ?_
 refine qAv1 4 89 [(88, .int .i64 i), (87, .sl 5 (zs.map clc)), (86, .osl 12 2 0 mv.length)] (congrArg AV.pat (mg_cl zs i (by omega))) ((5 = 5 /\ (0 : Int) <= (i : Int) /\ (i : Int) < ((zs.map clc).length : Int)) /\ ·) ⟨⟨rfl, by omega, by rw [List.length_map]; omega⟩, qAv1 6 95 [(94, .int .i64 i), (93, .sl 5 (zs.map clc)), (92, .agg [pth ((zs.getD i default).path), .bool false]), (91, pth ((zs.getD i default).path)), (90, .pat [pth ((zs.getD i default).path), pth ((zs.getD i default).to), .int .i64 ((zs.getD i default).at_), .str ((zs.getD i default).data)])] (congrArg AV.pat (mg_cl zs i (by omega))) (((1 : Nat) ≠ 0) /\ (1 <= 4 /\ 0 < 4) /\ (5 = 5 /\ (0 : Int) <= (i : Int) /\ (i : Int) < ((zs.map clc).length : Int)) /\ ·) ⟨(by decide), (by decide), ⟨rfl, by omega, by rw [List.length_map]; omega⟩, qAn3 5 [(100, .osl 32 2 0 (mv.length + 2)), (99, .osl 28 2 0 2), (98, .agg [pth ((zs.getD i default).to), .bool false]), (97, pth ((zs.getD i default).to)), (96, .pat [pth ((zs.getD i default).to), .int .i64 ((zs.getD i default).at_), .str ((zs.getD i default).data)])] [(32, apd (fl mkc mv) (mv.length * 2) ((([pth ((zs.getD i default).path), .bool false, pth ((zs.getD i default).to), .bool false] : List AV).drop 0).take (2 * 2))), (28, [pth ((zs.getD i default).path), .bool false, pth ((zs.getD i default).to), .bool false]), (24, tcs ((sTreeDo x (zs.getD i default)).1)), (20, tcs ((sTreeDo x (zs.getD i default)).1)), (16, tcs ((tAt x ((zs.getD i default).path)).1)), (4, tcs x)] 36 (((1 : Nat) ≠ 0) /\ (1 <= 3 /\ 0 < 3) /\ (2 * 2 <= 16777216) /\ (True) /\ (0 + 2 * 2 <= ([pth ((zs.getD i default).path), .bool false, pth ((zs.getD i default).to), .bool false] : List AV).length) /\ (2 = 2 /\ mv.length * 2 <= (fl mkc mv).length /\ 0 < 32 /\ (mv.length + 2) * 32 <= 140737488355328) /\ (True) /\ ·) ⟨(by decide), (by decide), (by decide), trivial, (by first | decide | simp), ⟨rfl, by (first | omega | (simp only [LL, flMl]; omega)), by decide, by (first | omega | (simp only [LL, flMl]; omega))⟩, trivial, runq_H (H' := [(32, fl mkc (mv ++ [Mk.mk (zs.getD i default).path false, Mk.mk (zs.getD i default).to false])), (28, [pth ((zs.getD i default).path), .bool false, pth ((zs.getD i default).to), .bool false]), (24, tcs ((sTreeDo x (zs.getD i default)).1)), (20, tcs ((sTreeDo x (zs.getD i default)).1)), (16, tcs ((tAt x ((zs.getD i default).path)).1)), (4, tcs x)]) (by rw [show apd (fl mkc mv) (mv.length * 2) ((([pth ((zs.getD i default).path), .bool false, pth ((zs.getD i default).to), .bool false] : List AV).drop 0).take (2 * 2)) = fl mkc (mv ++ [Mk.mk (zs.getD i default).path false, Mk.mk (zs.getD i default).to false]) from (by unfold apd; rw [fl_full mkc_len mv rfl, fl_app]; rfl)]) (qGn0 [] ?_)⟩⟩⟩
 refine Lo 7 (.osl 32 2 0 (mv.length + 2)) (fun Z => Z) ?_
 refine Cfi [4, 5, 7, 8, 9, 12, 13] ?_
 refine h_k [4, 5, 7, 8, 9, 12, 13] (F' := [(4, .sl 5 (zs.map clc)), (5, .ptr 4 0), (7, .osl 32 2 0 (mv.length + 2)), (8, .int .i64 ((d + 1 : Nat) : Int)), (9, .int .i64 i), (12, .ptr 20 0), (13, .sl 2 (l2.map mkc))]) (by kernel_rfl) ?_
 refine h_st (F' := [(4, .sl 5 (zs.map clc)), (5, .ptr 4 0), (7, .osl 32 2 0 ((mv ++ [Mk.mk (zs.getD i default).path false, Mk.mk (zs.getD i default).to false]).length)), (8, .int .i64 ((d + 1 : Nat) : Int)), (9, .int .i64 i), (12, .ptr 20 0), (13, .sl 2 (l2.map mkc))]) (H' := [(32, fl mkc (mv ++ [Mk.mk (zs.getD i default).path false, Mk.mk (zs.getD i default).to false])), (28, [pth ((zs.getD i default).path), .bool false, pth ((zs.getD i default).to), .bool false]), (24, tcs ((sTreeDo x (zs.getD i default)).1)), (20, tcs ((sTreeDo x (zs.getD i default)).1)), (16, tcs ((tAt x ((zs.getD i default).path)).1)), (4, tcs x)]) (by rw [List.length_append]; rfl) rfl ?_
 refine Rr (Fn3 [4, 5, 7, 8, 9, 13] [] [(32, fl mkc (mv ++ [Mk.mk (zs.getD i default).path false, Mk.mk (zs.getD i default).to false])), (28, [pth ((zs.getD i default).path), .bool false, pth ((zs.getD i default).to), .bool false]), (24, tcs ((sTreeDo x (zs.getD i default)).1)), (20, tcs ((sTreeDo x (zs.getD i default)).1)), (16, tcs ((tAt x ((zs.getD i default).path)).1)), (4, tcs ((sTreeDo x (zs.getD i default)).1))] 36 ((0 + 5 <= 5 /\ 0 < 5) /\ (true = true /\ 5 = 5 /\ 0 + 5 <= 5) /\ ·) ⟨(by decide), (by decide), Rr (Fn0 [4, 5, 7, 8, 9] [(6, .sl 2 (l2.map mkc))] ?_)⟩)
 have hc0 : (sTreeDo x (zs.getD i default)).2 = 0 := by
   first | (have h := c31; omega) | (have h := c26; omega) | (have h := c23; omega) | (have h := c16; omega) | (have h := c4; omega)
 have hA2 := hAL hc0
 have htr2 : Trl l2 := hA2.trl htr fun m hm => mksOf_ok hm
 have hml := mksOf_len x (zs.getD i default)
 have hlen2 := hA2.len
 have hl2b : ∀ m ∈ l2, wS m.path < 2 ^ 40 := fun m hm => (hA2.mem hm).elim (hlb m) fun h => by rcases (mksOf_mem h).2.1 with e | e <;> rw [e] <;> omega
 have hq := mv_ok hc0 hA2 hms true (by first | (have h := hc31; exact h.symm) | (have h := hc26; exact h.symm) | (have h := hc23; exact h.symm) | (have h := hc16; exact h.symm) | (have h := hc4; exact h.symm))
 simp only [cond_true, cond_false] at hq
 have hmb2 : ∀ m ∈ mv ++ [Mk.mk (zs.getD i default).path false, Mk.mk (zs.getD i default).to false], wS m.path < 2 ^ 40 := by
   intro m hm
   rcases List.mem_append.1 hm with h | h
   · exact hmb m h
   · simp only [List.mem_cons, List.not_mem_nil, or_false] at h
     rcases h with rfl | rfl
     · show wS (zs.getD i default).path < _; omega
     · show wS (zs.getD i default).to < _; omega
 have hmvl : (mv ++ [Mk.mk (zs.getD i default).path false, Mk.mk (zs.getD i default).to false]).length <= 2 * (d + 1) := by rw [List.length_append]; simp only [List.length_cons, List.length_nil]; omega
 refine Rr (Fn0 [4, 5, 6, 7, 8, 9] [(17, .int .i64 0)] (Bl (h_l (fun (n : Nat) => ([(4, .sl 5 (zs.map clc)), (5, .ptr 4 0), (6, .sl 2 (l2.map mkc)), (7, .osl 32 2 0 ((mv ++ [Mk.mk (zs.getD i default).path false, Mk.mk (zs.getD i default).to false]).length)), (8, .int .i64 ((d + 1 : Nat) : Int)), (9, .int .i64 i), (17, .int .i64 n)] : Fr)) (fun (n : Nat) => ([(32, fl mkc (mv ++ [Mk.mk (zs.getD i default).path false, Mk.mk (zs.getD i default).to false])), (28, [pth ((zs.getD i default).path), .bool false, pth ((zs.getD i default).to), .bool false]), (24, tcs ((sTreeDo x (zs.getD i default)).1)), (20, tcs ((sTreeDo x (zs.getD i default)).1)), (16, tcs ((tAt x ((zs.getD i default).path)).1)), (4, tcs ((sTreeDo x (zs.getD i default)).1))] : Hp)) (fun (n : Nat) cn => (n <= l2.length) /\ cn = 36) (fun (n : Nat) => l2.length - n) 0 (by kernel_rfl) ?_ ?_ ?_ ?_)))
 refine ⟨?_, rfl⟩; exact Nat.zero_le _
 exact ⟨by kernel_rfl, by kernel_rfl, by kernel_rfl, by kernel_rfl, by kernel_rfl, by kernel_rfl, by kernel_rfl, trivial⟩
 exact (sub_c (by kernel_rfl) (sub_c (by kernel_rfl) (sub_c (by kernel_rfl) (sub_c (by kernel_rfl) (sub_c (by kernel_rfl) (sub_c (by kernel_rfl) (List.nil_sublist _)))))))
 rintro n n1 hI
 (try dsimp only at hI)
 obtain ⟨hn1, rfl⟩ := hI
 refine Sq fun K35 hK35 => ?_
 refine Rr (Av0 (r := .int .i64 ((l2.map mkc).length : Nat)) (v := .int .i64 l2.length) 3 105 [(104, .sl 2 (l2.map mkc)), (103, .int .i64 n)] (by rw [List.length_map]) (Cn1 (decide ((n : Int) < (l2.length : Int))) [4, 5, 6, 7, 8, 9, 17] [] (Ki /\ ·) ⟨rfl, fun hc37 c37 => ?_, fun hc37 c37 => ?_⟩))
 try simp only [KF] at c37
 refine Sk (Jn (hK35 (Kp [4, 5, 6, 7, 8, 9, 17] (Sq fun K38 hK38 => ?_))))
 refine Bl ?_
 have hn2 := hl2b _ (getD_mem l2 n default (by omega)); have hn3 := wS_len (l2.getD n default).path
 refine Rm 123 (((l2.getD n default).sub) && (!(wuM (mv ++ [Mk.mk (zs.getD i default).path false, Mk.mk (zs.getD i default).to false]) ((l2.getD n default).path)))) [4, 5, 6, 7, 8, 9, 17] ?_ ?_
 refine Av1 3 111 [(110, .int .i64 n), (109, .sl 2 (l2.map mkc))] (congrArg AV.pat (mg_mk l2 n (by omega))) ((2 = 2 /\ (0 : Int) <= (n : Int) /\ (n : Int) < ((l2.map mkc).length : Int)) /\ ·) ⟨⟨rfl, by omega, by rw [List.length_map]; omega⟩, An1 3 [(114, .bool ((l2.getD n default).sub)), (113, .bool ((l2.getD n default).sub)), (112, .pat [.bool ((l2.getD n default).sub)])] (((1 : Nat) ≠ 0) /\ (1 <= 1 /\ 0 < 1) /\ ·) ⟨(by decide), (by decide), run_b (fun g40 => ?_) (fun g40 => ?_)⟩⟩
 have hg40 := g40
 try simp only [KF] at g40
 refine Av1 4 118 [(117, .int .i64 n), (116, .sl 2 (l2.map mkc)), (115, .osl 32 2 0 ((mv ++ [Mk.mk (zs.getD i default).path false, Mk.mk (zs.getD i default).to false]).length))] (congrArg AV.pat (mg_mk l2 n (by omega))) ((2 = 2 /\ (0 : Int) <= (n : Int) /\ (n : Int) < ((l2.map mkc).length : Int)) /\ ·) ⟨⟨rfl, by omega, by rw [List.length_map]; omega⟩, Bc1 3 [(120, pth ((l2.getD n default).path)), (119, .pat (mkc (l2.getD n default)))] 8 [.osl 32 2 0 ((mv ++ [Mk.mk (zs.getD i default).path false, Mk.mk (zs.getD i default).to false]).length), pth ((l2.getD n default).path)] 121 (((1 : Nat) ≠ 0) /\ (1 <= 2 /\ 0 < 2) /\ ·) ⟨(by decide), (by decide), PE.useB (vw_m ((l2.getD n default).path) (by kernel_rfl)) (wuMarked_ok (mv ++ [Mk.mk (zs.getD i default).path false, Mk.mk (zs.getD i default).to false]) ((l2.getD n default).path) hmb2 (by omega) (by omega)) rfl (Ke (Mn0 (!(wuM (mv ++ [Mk.mk (zs.getD i default).path false, Mk.mk (zs.getD i default).to false]) ((l2.getD n default).path))) (by rw [hg40]; rfl)))⟩⟩
 have hg40 := g40
 try simp only [KF] at g40
 refine Mn0 false (by rw [hg40]; rfl)
 refine Cc (((l2.getD n default).sub) && (!(wuM (mv ++ [Mk.mk (zs.getD i default).path false, Mk.mk (zs.getD i default).to false]) ((l2.getD n default).path)))) (fun hc41 c41 => ?_) fun hc41 c41 => ?_
 try simp only [KF] at c41
 have h1 := hq _ (getD_mem l2 n default (by omega)) c41.1; rw [c41.2] at h1; cases h1
 try simp only [KF] at c41
 refine Sk (Bn (Jn (hK38 (Kp [4, 5, 6, 7, 8, 9, 17] (Rn (Av1 2 108 [(107, .int .i64 n)] (congrArg (AV.int .i64) (wn1 n (by omega))) (Ki /\ ·) ⟨rfl, Gn0 [(17, .int .i64 ((n + 1 : Nat) : Int))] (nk_n ?_)⟩))))))
 refine Lr (n + 1) [(4, 4), (16, 16), (20, 20), (24, 24), (28, 28), (32, 32)] 36 [(4, .sl 5 (zs.map clc)), (5, .ptr 4 0), (6, .sl 2 (l2.map mkc)), (7, .osl 32 2 0 ((mv ++ [Mk.mk (zs.getD i default).path false, Mk.mk (zs.getD i default).to false]).length)), (8, .int .i64 ((d + 1 : Nat) : Int)), (9, .int .i64 i), (17, .int .i64 ((n + 1 : Nat) : Int))] [(32, fl mkc (mv ++ [Mk.mk (zs.getD i default).path false, Mk.mk (zs.getD i default).to false])), (28, [pth ((zs.getD i default).path), .bool false, pth ((zs.getD i default).to), .bool false]), (24, tcs ((sTreeDo x (zs.getD i default)).1)), (20, tcs ((sTreeDo x (zs.getD i default)).1)), (16, tcs ((tAt x ((zs.getD i default).path)).1)), (4, tcs ((sTreeDo x (zs.getD i default)).1))] [false, true, true, true, true, true] ?_ ?_ (by kernel_rfl) (by kernel_rfl)
 (try dsimp only); omega
 refine ⟨?_, rfl⟩; (try dsimp only); omega
 try simp only [KF] at c37
 refine Xt (Jx (Lx (Bh (Bn (Jn (hK17 (Kp [4, 5, 6, 7, 8, 9] (Rn (Av1 2 38 [(37, .int .i64 i)] (congrArg (AV.int .i64) (wn1 i (by omega))) (Ki /\ ·) ⟨rfl, Gn0 [(9, .int .i64 ((i + 1 : Nat) : Int))] (nk_n ?_)⟩)))))))))
 refine Lr (i + 1, d + 1, ((sTreeDo x (zs.getD i default)).1), l2, mv ++ [Mk.mk (zs.getD i default).path false, Mk.mk (zs.getD i default).to false]) [(4, 4), (32, 12)] 16 [(4, .sl 5 (zs.map clc)), (5, .ptr 4 0), (6, .sl 2 (l2.map mkc)), (7, .osl 32 2 0 ((mv ++ [Mk.mk (zs.getD i default).path false, Mk.mk (zs.getD i default).to false]).length)), (8, .int .i64 ((d + 1 : Nat) : Int)), (9, .int .i64 ((i + 1 : Nat) : Int))] [(32, fl mkc (mv ++ [Mk.mk (zs.getD i default).path false, Mk.mk (zs.getD i default).to false])), (4, tcs ((sTreeDo x (zs.getD i default)).1))] [false, true] ?_ ?_ (by kernel_rfl) (by kernel_rfl)
 (try dsimp only); omega
 refine ⟨?_, rfl⟩; (try dsimp only); exact ⟨by omega, by omega, by omega, by omega, htr2, hl2b, hq, hmvl, hmb2⟩
 try simp only [KF] at c31
 refine Sk (Jn (hK28 (Kp [4, 5, 7, 8, 9, 12, 13] (Rr (Fn3 [4, 5, 7, 8, 9, 13] [] [(24, tcs ((sTreeDo x (zs.getD i default)).1)), (20, tcs ((sTreeDo x (zs.getD i default)).1)), (16, tcs ((tAt x ((zs.getD i default).path)).1)), (12, fl mkc mv), (4, tcs ((sTreeDo x (zs.getD i default)).1))] 28 ((0 + 5 <= 5 /\ 0 < 5) /\ (true = true /\ 5 = 5 /\ 0 + 5 <= 5) /\ ·) ⟨(by decide), (by decide), Rr (Fn0 [4, 5, 7, 8, 9] [(6, .sl 2 (l2.map mkc))] ?_)⟩)))))
 have hc0 : (sTreeDo x (zs.getD i default)).2 = 0 := by
   first | (have h := c31; omega) | (have h := c26; omega) | (have h := c23; omega) | (have h := c16; omega) | (have h := c4; omega)
 have hA2 := hAL hc0
 have htr2 : Trl l2 := hA2.trl htr fun m hm => mksOf_ok hm
 have hml := mksOf_len x (zs.getD i default)
 have hlen2 := hA2.len
 have hl2b : ∀ m ∈ l2, wS m.path < 2 ^ 40 := fun m hm => (hA2.mem hm).elim (hlb m) fun h => by rcases (mksOf_mem h).2.1 with e | e <;> rw [e] <;> omega
 have hq := mv_ok hc0 hA2 hms false (by first | (have h := hc31; exact h.symm) | (have h := hc26; exact h.symm) | (have h := hc23; exact h.symm) | (have h := hc16; exact h.symm) | (have h := hc4; exact h.symm))
 simp only [cond_true, cond_false] at hq
 have hmb2 : ∀ m ∈ mv, wS m.path < 2 ^ 40 := by
   exact hmb
 have hmvl : (mv).length <= 2 * (d + 1) := by omega
 refine Rr (Fn0 [4, 5, 6, 7, 8, 9] [(17, .int .i64 0)] (Bl (h_l (fun (n : Nat) => ([(4, .sl 5 (zs.map clc)), (5, .ptr 4 0), (6, .sl 2 (l2.map mkc)), (7, .osl 12 2 0 mv.length), (8, .int .i64 ((d + 1 : Nat) : Int)), (9, .int .i64 i), (17, .int .i64 n)] : Fr)) (fun (n : Nat) => ([(24, tcs ((sTreeDo x (zs.getD i default)).1)), (20, tcs ((sTreeDo x (zs.getD i default)).1)), (16, tcs ((tAt x ((zs.getD i default).path)).1)), (12, fl mkc mv), (4, tcs ((sTreeDo x (zs.getD i default)).1))] : Hp)) (fun (n : Nat) cn => (n <= l2.length) /\ cn = 28) (fun (n : Nat) => l2.length - n) 0 (by kernel_rfl) ?_ ?_ ?_ ?_)))
 refine ⟨?_, rfl⟩; exact Nat.zero_le _
 exact ⟨by kernel_rfl, by kernel_rfl, by kernel_rfl, by kernel_rfl, by kernel_rfl, by kernel_rfl, by kernel_rfl, trivial⟩
 exact (sub_c (by kernel_rfl) (sub_c (by kernel_rfl) (sub_c (by kernel_rfl) (sub_c (by kernel_rfl) (sub_c (by kernel_rfl) (List.nil_sublist _))))))
 rintro n n1 hI
 (try dsimp only at hI)
 obtain ⟨hn1, rfl⟩ := hI
 refine Sq fun K45 hK45 => ?_
 refine Rr (Av0 (r := .int .i64 ((l2.map mkc).length : Nat)) (v := .int .i64 l2.length) 3 105 [(104, .sl 2 (l2.map mkc)), (103, .int .i64 n)] (by rw [List.length_map]) (Cn1 (decide ((n : Int) < (l2.length : Int))) [4, 5, 6, 7, 8, 9, 17] [] (Ki /\ ·) ⟨rfl, fun hc47 c47 => ?_, fun hc47 c47 => ?_⟩))
 try simp only [KF] at c47
 refine Sk (Jn (hK45 (Kp [4, 5, 6, 7, 8, 9, 17] (Sq fun K48 hK48 => ?_))))
 refine Bl ?_
 have hn2 := hl2b _ (getD_mem l2 n default (by omega)); have hn3 := wS_len (l2.getD n default).path
 refine Rm 123 (((l2.getD n default).sub) && (!(wuM mv ((l2.getD n default).path)))) [4, 5, 6, 7, 8, 9, 17] ?_ ?_
 refine Av1 3 111 [(110, .int .i64 n), (109, .sl 2 (l2.map mkc))] (congrArg AV.pat (mg_mk l2 n (by omega))) ((2 = 2 /\ (0 : Int) <= (n : Int) /\ (n : Int) < ((l2.map mkc).length : Int)) /\ ·) ⟨⟨rfl, by omega, by rw [List.length_map]; omega⟩, An1 3 [(114, .bool ((l2.getD n default).sub)), (113, .bool ((l2.getD n default).sub)), (112, .pat [.bool ((l2.getD n default).sub)])] (((1 : Nat) ≠ 0) /\ (1 <= 1 /\ 0 < 1) /\ ·) ⟨(by decide), (by decide), run_b (fun g50 => ?_) (fun g50 => ?_)⟩⟩
 have hg50 := g50
 try simp only [KF] at g50
 refine Av1 4 118 [(117, .int .i64 n), (116, .sl 2 (l2.map mkc)), (115, .osl 12 2 0 mv.length)] (congrArg AV.pat (mg_mk l2 n (by omega))) ((2 = 2 /\ (0 : Int) <= (n : Int) /\ (n : Int) < ((l2.map mkc).length : Int)) /\ ·) ⟨⟨rfl, by omega, by rw [List.length_map]; omega⟩, Bc1 3 [(120, pth ((l2.getD n default).path)), (119, .pat (mkc (l2.getD n default)))] 8 [.osl 12 2 0 mv.length, pth ((l2.getD n default).path)] 121 (((1 : Nat) ≠ 0) /\ (1 <= 2 /\ 0 < 2) /\ ·) ⟨(by decide), (by decide), PE.useB (vw_m ((l2.getD n default).path) (by kernel_rfl)) (wuMarked_ok mv ((l2.getD n default).path) hmb2 (by omega) (by omega)) rfl (Ke (Mn0 (!(wuM mv ((l2.getD n default).path))) (by rw [hg50]; rfl)))⟩⟩
 have hg50 := g50
 try simp only [KF] at g50
 refine Mn0 false (by rw [hg50]; rfl)
 refine Cc (((l2.getD n default).sub) && (!(wuM mv ((l2.getD n default).path)))) (fun hc51 c51 => ?_) fun hc51 c51 => ?_
 try simp only [KF] at c51
 have h1 := hq _ (getD_mem l2 n default (by omega)) c51.1; rw [c51.2] at h1; cases h1
 try simp only [KF] at c51
 refine Sk (Bn (Jn (hK48 (Kp [4, 5, 6, 7, 8, 9, 17] (Rn (Av1 2 108 [(107, .int .i64 n)] (congrArg (AV.int .i64) (wn1 n (by omega))) (Ki /\ ·) ⟨rfl, Gn0 [(17, .int .i64 ((n + 1 : Nat) : Int))] (nk_n ?_)⟩))))))
 refine Lr (n + 1) [(4, 4), (12, 12), (16, 16), (20, 20), (24, 24)] 28 [(4, .sl 5 (zs.map clc)), (5, .ptr 4 0), (6, .sl 2 (l2.map mkc)), (7, .osl 12 2 0 mv.length), (8, .int .i64 ((d + 1 : Nat) : Int)), (9, .int .i64 i), (17, .int .i64 ((n + 1 : Nat) : Int))] [(24, tcs ((sTreeDo x (zs.getD i default)).1)), (20, tcs ((sTreeDo x (zs.getD i default)).1)), (16, tcs ((tAt x ((zs.getD i default).path)).1)), (12, fl mkc mv), (4, tcs ((sTreeDo x (zs.getD i default)).1))] [true, true, true, false, true] ?_ ?_ (by kernel_rfl) (by kernel_rfl)
 (try dsimp only); omega
 refine ⟨?_, rfl⟩; (try dsimp only); omega
 try simp only [KF] at c47
 refine Xt (Jx (Lx (Bh (Bn (Jn (hK17 (Kp [4, 5, 6, 7, 8, 9] (Rn (Av1 2 38 [(37, .int .i64 i)] (congrArg (AV.int .i64) (wn1 i (by omega))) (Ki /\ ·) ⟨rfl, Gn0 [(9, .int .i64 ((i + 1 : Nat) : Int))] (nk_n ?_)⟩)))))))))
 refine Lr (i + 1, d + 1, ((sTreeDo x (zs.getD i default)).1), l2, mv) [(4, 4), (12, 12)] 16 [(4, .sl 5 (zs.map clc)), (5, .ptr 4 0), (6, .sl 2 (l2.map mkc)), (7, .osl 12 2 0 mv.length), (8, .int .i64 ((d + 1 : Nat) : Int)), (9, .int .i64 ((i + 1 : Nat) : Int))] [(12, fl mkc mv), (4, tcs ((sTreeDo x (zs.getD i default)).1))] [false, true] ?_ ?_ (by kernel_rfl) (by kernel_rfl)
 (try dsimp only); omega
 refine ⟨?_, rfl⟩; (try dsimp only); exact ⟨by omega, by omega, by omega, by omega, htr2, hl2b, hq, hmvl, hmb2⟩
 try simp only [KF] at c16
 refine Xt (Jx (Lx (Bh (Jn (hK11 (Kp [6] (Rr (Pc0 2 [(124, .sl 2 (l.map mkc))] 125 (TrailOk_ok l hlb (by omega)) (Fn0 [] [(2, .bool (trOk l))] (Rt (.bool (trOk l)) ?_))))))))))
 refine fin_lea ?_
 rw [htr.trOk (by omega)]; exact lea_refl _
end Go.Proofs.YtoekdppgejhikaaGreatT
set_option maxRecDepth 100000
namespace Go.Proofs.YtoekdppgejhikaaGreat
open Go.ChangeShapes Go.WideShapes Go.ChangeAt Go.RowKit
theorem ext_below {w w' : World} (h : YtoekdppgejhikaaGreatT.Ext (fun _ => False) w w') : Below w.heap.size w w' := ⟨h.os, h.tape, h.output, h.size, fun k hk => h.keep k hk fun x => x⟩
theorem calls_of {P : Program} {f : Nat} {vs : Array Value} {w : World} {R : Ending -> World -> Prop} {fn : Func} {b : Code} (hf : P.funcs[f]? = some fn) (hb : fn.body = some b) (hnm : (fn.name == "runtime.NumGoroutine") = false) (h : YtoekdppgejhikaaGreatT.CallsX P f vs w R) : Calls P f vs w R := by
 have hnm' : ¬ fn.name = "runtime.NumGoroutine" := by simpa using hnm
 have henter : (callFunc f vs).run P w = .ok (.enter f vs) w := by
  simp [callFunc, hf, hnm', hb]
 unfold YtoekdppgejhikaaGreatT.CallsX at h
 rw [henter] at h
 exact h.2
theorem callDone (zs : List Int) (hw : ∀ n ∈ zs, (Lit.int .u8 n).wf = true) (A : Option Addr) (c : Nat) (W : World) (hc : zs.length <= c)
  (ha : zs ≠ [] -> ∃ a, A = some a /\ a.block < W.heap.size /\ ∀ i, i < zs.length -> W.cell? (a.add i) = some (.int .u8 (zs.getD i 0))) :
  YtoekdppgejhikaaGreatT.CallsX Tryz.prog 3 #[.slice A zs.length c] W fun e W' => e = .returned (.bool true) /\ Below W.heap.size W W' := by
 let X : YtoekdppgejhikaaGreatT.Str := zs.map fun n => UInt8.ofNat n.toNat
 have hX : X.map (fun c => [YtoekdppgejhikaaGreatT.AV.int .u8 (c.toNat : Int)]) = zs.map fun n => [YtoekdppgejhikaaGreatT.AV.int .u8 n] := by
  simp only [X, List.map_map]
  refine List.map_congr_left fun n hn => ?_
  have := hw n hn
  simp only [Lit.wf, Bool.and_eq_true, decide_eq_true_eq] at this
  have h1 : 0 <= n := by have := this.1; simpa [IntKind.min, IntKind.signed] using this
  have h2 : n <= 255 := by have := this.2; simpa [IntKind.max, IntKind.signed, IntKind.bits] using this
  simp only [Function.comp]
  congr 2
  rw [UInt8.toNat_ofNat']
  omega
 have h := YtoekdppgejhikaaGreatT.FnTrailFine_ok X
 rw [hX] at h
 refine YtoekdppgejhikaaGreatT.CallsX.mono (h (fun _ => none) 0 (fun _ => False) W #[.slice A zs.length c] ⟨rfl, fun _ _ _ => rfl, 0, fun _ _ => rfl⟩ (fun _ hb => hb.elim) ?_) ?_
 ·simp only [YtoekdppgejhikaaGreatT.VRs, YtoekdppgejhikaaGreatT.VR, and_true]
  refine ⟨A, c, by rw [List.length_map], by rw [List.length_map]; exact hc, fun hne => ?_⟩
  obtain ⟨a, rfl, hb, hcell⟩ := ha (by rintro rfl; exact hne rfl)
  refine ⟨a, rfl, fun x => x, hb, ?_⟩
  have key : ∀ (l : List Int) (k : Nat), (∀ i, i < l.length -> W.cell? (a.add (k + i)) = some (.int .u8 (l.getD i 0))) -> YtoekdppgejhikaaGreatT.PEs (fun _ => none) W (fun _ => False) 1 (l.map fun n => [YtoekdppgejhikaaGreatT.AV.int .u8 n]) a k := by
   intro l
   induction l with
   | nil => intro k _; simp only [List.map_nil, YtoekdppgejhikaaGreatT.PEs]
   | cons n l ih =>
    intro k hl
    simp only [List.map_cons, YtoekdppgejhikaaGreatT.PEs, YtoekdppgejhikaaGreatT.PCs, YtoekdppgejhikaaGreatT.VR, List.length_cons, List.length_nil, Nat.mul_one, and_true]
    refine ⟨trivial, ⟨_, by simpa using hl 0 (by simp), rfl, rfl⟩, ih (k + 1) fun i hi => ?_⟩
    have := hl (i + 1) (by simpa using hi)
    rw [show k + 1 + i = k + (i + 1) by omega]
    simpa using this
  exact key zs 0 (fun i hi => by rw [Nat.zero_add]; exact hcell i hi)
 ·rintro e W' ⟨v, r, rfl, rfl, hv, hx⟩
  simp only [YtoekdppgejhikaaGreatT.VR] at hv
  exact ⟨by rw [hv], ext_below hx⟩
theorem own : ownKnob Tryz.prog.godebug = none := by kernel_rfl
theorem contract (H : Type) (enc : TypeId × Value -> H) (W : World) (base : Nat) (args : Array Value) (ds gs : List (DataW H)) (before : List MemPlace)
  (hval : ∀ (j : Nat) t v, Tryz.f3.params[j]? = some t -> args[j]? = some v -> Value.okWide Tryz.prog W .any base t v)
  (hW : DataW.Whole enc Tryz.prog Tryz.f3.params.toList Rows.fnTrailFineSpec.vars false W args.toList ds gs before) :
  Calls Tryz.prog 3 args W fun e W' => ∃ v, e = .returned v /\ Rows.fnTrailFineSpec.post enc Tryz.prog Tryz.f3 false true false false W args v W' := by
 have hW' := hW
 obtain ⟨p, q, hA0, hV, rfl, hfz, hnd⟩ := hW
 have hA : DataW.TrodAll enc Tryz.prog W 0 (fun _ => true) true Tryz.f3.params.toList args.toList ds p := hA0
 rw [Tryz.params3] at hA hval
 obtain ⟨v0, vs0, d0, ds0, p0, q0, hargs, rfl, rfl, h0, r0⟩ := trodAll_cons hA
 obtain ⟨rfl, rfl, rfl⟩ := trodAll_nil r0
 obtain rfl : args = #[v0] := by cases args; simp_all
 obtain ⟨rfl, rfl⟩ := trodVars_none hV
 simp only [List.append_nil] at hW'
 have hlt : ∀ x ∈ p0, x.block < W.heap.size := fun x hx => by simpa using hW'.lt x hx
 have hargs2 : ∀ (W' : World), Below W.heap.size W W' -> DataW.Trod enc Tryz.prog W' 0 (fun b => decide (b < W.heap.size)) true 22 v0 d0 p0 :=
  fun W' hn => Below.trod (by kernel_rfl) (by kernel_rfl) (of_decide_eq_true (by kernel_rfl)) h0 hn hlt
 have fin : ∀ W', Below W.heap.size W W' -> Rows.fnTrailFineSpec.post enc Tryz.prog Tryz.f3 false true false false W #[v0] (.bool true) W' := fun W' hb =>
  ⟨_, _, _, [], _, [], hW', trodAll_mk1 (shut_bool Tryz.underlying4 true), trodAll_mk1 (hargs2 W' hb), rfl, hb.frame _, fun h => by cases h⟩
 obtain ⟨fuel, hf⟩ := h0
 obtain ⟨a0, len, cap, rfl⟩ := okWide_slice Tryz.underlying22 (hval 0 22 v0 rfl rfl)
 have go : ∀ (zs : List Int) (A : Option Addr) (c : Nat), (∀ n ∈ zs, (Lit.int .u8 n).wf = true) -> zs.length <= c -> (zs ≠ [] -> ∃ a, A = some a /\ a.block < W.heap.size /\ ∀ i, i < zs.length -> W.cell? (a.add i) = some (.int .u8 (zs.getD i 0))) -> Value.slice a0 len cap = .slice A zs.length c ->
   Calls Tryz.prog 3 #[.slice a0 len cap] W fun e W' => ∃ v, e = .returned v /\ Rows.fnTrailFineSpec.post enc Tryz.prog Tryz.f3 false true false false W #[.slice a0 len cap] v W' := by
  intro zs A c h1 h2 h3 h4
  rw [h4]
  rw [h4] at fin
  exact (calls_of (b := YtoekdppgejhikaaGreatT.bd Tryz.f3) Tryz.func3 (by kernel_rfl) (by kernel_rfl) (callDone zs h1 A c W h2 h3)).mono fun e W' ⟨he, hb⟩ => ⟨_, he, fin W' hb⟩
 rcases open_ints Tryz.underlying22 Tryz.underlying5 (by kernel_rfl) hf with ⟨hcs, hx⟩ | ⟨a, len', cap', zs, hcs, _, hl, hm, hz, hx, hcell, hwz⟩
 ·simp [Value.cells] at hcs
  obtain ⟨rfl, rfl, rfl⟩ := hcs
  exact go [] none 0 (by simp) (Nat.le_refl _) (fun h => absurd rfl h) rfl
 ·simp [Value.cells] at hcs
  obtain ⟨rfl, rfl, rfl⟩ := hcs
  simp only [Prod.mk.injEq] at hx
  obtain ⟨rfl, rfl⟩ := hx
  simp only [if_true] at hz
  have hl2 : (zs.take len).length = len := by rw [List.length_take]; omega
  refine go (zs.take len) (some a) cap (fun n hn => hwz n (List.mem_of_mem_take hn)) (by omega) (fun hne => ⟨a, rfl, ?_, fun i hi => ?_⟩) (by rw [hl2])
  ·have : 0 < zs.length := by
    rcases zs with _ | ⟨z, zs⟩
    ·simp at hne
    ·simp
   exact hlt (.cell a.block a.off) (MemPlace.mem_row.2 ⟨0, by simpa using this, by simp⟩)
  ·rw [hl2] at hi
   rw [hcell i (by omega)]
   simp [List.getD, hi]
set_option maxRecDepth 100000 in
theorem lifted (os : Os) (started : os.Started) (H : Type) (enc : TypeId × Value -> H) :
  ReturnsInHanded {} Tryz.checked os 3 .any (Rows.fnTrailFineSpec.pre6 enc Tryz.prog Tryz.f3 Rows.fnTrailFineRow.domain false) (Rows.fnTrailFineSpec.post enc Tryz.prog Tryz.f3 false true false false) := by
 refine returnsInHanded_of_change (C := Tryz.checked) own started (by kernel_rfl) Tryz.func3
  (ChangeSpec.witness6 (enc := enc) (C := Tryz.checked) false ⟨#[], #[.slice none 0 0], []⟩ 8 (by kernel_rfl) (by kernel_rfl) (by kernel_rfl) (by kernel_rfl)) ?_
 intro W base args ds gs before hval hW _ _
 exact contract H enc W base args ds gs before hval hW
theorem fnTrailFine_holds : Rows.FnTrailFineSaid :=
 OpenClaim.holds_of_wide 3 Tryz.f3 rfl rfl rfl rfl rfl rfl rfl ⟨rfl, rfl, rfl, rfl, rfl⟩ rfl rfl rfl rfl rfl (by kernel_rfl) Tryz.func3 (by kernel_rfl)
  (of_decide_eq_true (by kernel_rfl)) (by unfold Func.isWrapper; first | (rw [if_pos (by decide +kernel)]; kernel_rfl) | (rw [if_neg (by decide +kernel)]; exact ⟨rfl, rfl⟩))
  (fun os started H enc _ => lifted os started H enc)
end Go.Proofs.YtoekdppgejhikaaGreat
