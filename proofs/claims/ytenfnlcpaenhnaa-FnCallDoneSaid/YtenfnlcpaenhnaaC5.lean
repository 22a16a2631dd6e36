/- A part of the proof that FnCallDone, on every slice of bytes, returns true (no conditions): rules of the walk, and what the functions compute. -/
import Derived.Carry
import Derived.ChangeSlices
import Derived.OpenShut
import Derived.ProofKit
import Derived.RowKit
import Derived.Test.YtenfnlcpaenhnaaRows
import Derived.Test.YtenfnlcpaenhnaaC4
set_option linter.unusedVariables false
set_option linter.unusedSimpArgs false
namespace Go.Proofs.YtenfnlcpaenhnaaT
open Go Go.Proofs
set_option maxRecDepth 10000 in
theorem l1CopyO_ok (t : Tr) (hw : t.W < 2 ^ 40) : DC G 18 [.agg (tcs t)] [] (CpR t) := by
 refine DC_nd fun hnd => ?_
 rw [W_eq] at hw; have hks := Ws_len t.kids; have hns := wS_len t.names
 refine h_dc (F := [(0, .agg (tcs t))]) (ods_tcs t) trivial Try.func18 (by kernel_rfl) (by kernel_rfl) ?_ (by kernel_rfl)
 refine Rr (Fn2 [] [(2, .ptr 4 0), (1, .ptr 0 0)] [(4, zt), (0, tcs t)] 8 (Qr [0, 1, 0, 4, 0, 16, 0, 0, 128, 448, 1023, 0, 4095] [(0, []), (1, []), (2, []), (3, []), (4, []), (5, []), (7, []), (8, []), (6, [1, 3, 5, 8]), (9, [1, 3, 5]), (10, []), (11, [1, 3, 5, 8]), (12, [])] (qAn3 10 [(14, .osl 12 1 0 (0 + (t.names.map (fun s => [AV.str s])).length)), (11, .osl 8 1 0 0), (13, pth t.names), (12, .ptr 0 3), (10, .str t.data), (9, .ptr 0 2), (8, .int .i64 t.mode), (7, .ptr 0 1), (6, .bool t.dir), (5, .ptr 0 0)] [(12, apd [] (0 * 1) ((t.names.map (fun s => [AV.str s])).flatten)), (4, zt), (0, tcs t)] 16 (((1 : Nat) ≠ 0) /\ (0 + 1 <= 5 /\ 0 < 5) /\ ((1 : Nat) ≠ 0) /\ (1 + 1 <= 5 /\ 1 < 5) /\ ((1 : Nat) ≠ 0) /\ (2 + 1 <= 5 /\ 2 < 5) /\ ((1 : Nat) ≠ 0) /\ (3 + 1 <= 5 /\ 3 < 5) /\ (0 * 1 <= 16777216) /\ (((0 + 1 <= 5 /\ 0 < 5) /\ (AV.bool t.dir = (.bool t.dir : AV))) /\ ((1 + 1 <= 5 /\ 1 < 5) /\ (AV.int .i64 t.mode = (.int .i64 t.mode : AV))) /\ ((2 + 1 <= 5 /\ 2 < 5) /\ (AV.str t.data = (.str t.data : AV))) /\ ((3 + 1 <= 5 /\ 3 < 5) /\ (pth t.names = pth t.names)) /\ True) /\ True /\ (1 = 1 /\ 0 * 1 <= 0 /\ 0 < 16 /\ (0 + (t.names.map (fun s => [AV.str s])).length) * 16 <= 140737488355328) /\ (((0 + 1 <= 5 /\ 0 < 5) /\ (AV.bool t.dir = (.bool t.dir : AV))) /\ ((1 + 1 <= 5 /\ 1 < 5) /\ (AV.int .i64 t.mode = (.int .i64 t.mode : AV))) /\ ((2 + 1 <= 5 /\ 2 < 5) /\ (AV.str t.data = (.str t.data : AV))) /\ True) /\ ·) ⟨(by decide), (by decide), (by decide), (by decide), (by decide), (by decide), (by decide), (by decide), (by decide), ⟨⟨(by decide), rfl⟩, ⟨(by decide), rfl⟩, ⟨(by decide), rfl⟩, ⟨(by decide), rfl⟩, trivial⟩, trivial, ⟨rfl, by (first | omega | (simp only [LL]; omega)), by decide, by (first | omega | (simp only [LL]; omega))⟩, ⟨⟨(by decide), rfl⟩, ⟨(by decide), rfl⟩, ⟨(by decide), rfl⟩, trivial⟩, runq_v (v' := .osl 12 1 0 t.names.length) (by rw [Nat.zero_add, List.length_map]) ?_⟩)))
 refine runq_h (cs' := fl sc t.names) (app0_str _) ?_
 refine qFn3 [1, 2] [(3, .ptr 16 0)] [(16, [.bool t.dir, .int .i64 t.mode, .str t.data, .osl 12 1 0 t.names.length, .nils]), (12, fl sc t.names), (4, zt), (0, tcs t)] 20 ((((0 + 1 <= 5 /\ 0 < 5) /\ (AV.bool t.dir = (.bool t.dir : AV))) /\ ((1 + 1 <= 5 /\ 1 < 5) /\ (AV.int .i64 t.mode = (.int .i64 t.mode : AV))) /\ ((2 + 1 <= 5 /\ 2 < 5) /\ (AV.str t.data = (.str t.data : AV))) /\ ((3 + 1 <= 5 /\ 3 < 5) /\ (pth t.names = pth t.names)) /\ True) /\ (true = true /\ 5 = 5 /\ 0 + 5 <= 5) /\ (True) /\ ·) ⟨⟨⟨(by decide), rfl⟩, ⟨(by decide), rfl⟩, ⟨(by decide), rfl⟩, ⟨(by decide), rfl⟩, trivial⟩, (by decide), trivial, Sq fun K3 hK3 => ?_⟩
 refine Rr (Fn0 [1, 2, 3] [(4, .int .i64 0)] (Bl (h_l (fun (x : Nat × Option Unit) => (match x with | (_, none) => ([(1, .ptr 0 0), (2, .ptr 4 0), (3, .ptr 16 0), (4, .int .i64 0)] : Fr) | (k, some ()) => ([(1, .ptr 0 0), (2, .ptr 4 0), (3, .ptr 16 0), (4, .int .i64 k)] : Fr))) (fun (x : Nat × Option Unit) => (match x with | (_, none) => ([(16, [.bool t.dir, .int .i64 t.mode, .str t.data, .osl 12 1 0 t.names.length, .nils]), (12, fl sc t.names), (4, zt), (0, tcs t)] : Hp) | (k, some ()) => ([(20, fl trc (t.kids.take k)), (16, [.bool t.dir, .int .i64 t.mode, .str t.data, .osl 12 1 0 t.names.length, .osl 20 5 0 ((t.kids.take k).length)]), (12, fl sc t.names), (4, zt), (0, tcs t)] : Hp))) (fun (x : Nat × Option Unit) cn => (match x with | (_, none) => (x.1 = 0) /\ cn = 20 | (k, some ()) => (0 < k /\ k <= t.kids.length) /\ cn = 24)) (fun (x : Nat × Option Unit) => t.kids.length - x.1) (0, none) (by kernel_rfl) ?_ ?_ ?_ ?_)))
 refine ⟨?_, rfl⟩; rfl
 exact ⟨by kernel_rfl, by kernel_rfl, by kernel_rfl, by kernel_rfl, trivial⟩
 exact (sub_c (by kernel_rfl) (sub_c (by kernel_rfl) (sub_c (by kernel_rfl) (sub_c (by kernel_rfl) (List.nil_sublist _)))))
 rintro ⟨k, _ | ⟨⟩⟩ n1 hI
 (try dsimp only at hI)
 obtain ⟨rfl, rfl⟩ := hI
 dsimp only
 refine Sq fun K5 hK5 => ?_
 refine Rr (Av1 (r := .int .i64 ((t.kids.map trc).length : Nat)) (v := .int .i64 t.kids.length) 4 19 [(18, .sl 5 (t.kids.map trc)), (17, .ptr 0 4), (16, .int .i64 0)] (by rw [List.length_map]) (((1 : Nat) ≠ 0) /\ (4 + 1 <= 5 /\ 4 < 5) /\ ·) ⟨(by decide), (by decide), Cn1 (decide ((0 : Int) < ((t.kids.length : Int) : Int))) [1, 2, 3, 4] [] (Ki /\ ·) ⟨rfl, fun hc7 c7 => ?_, fun hc7 c7 => ?_⟩⟩)
 try simp only [KF] at c7
 refine Sk (Jn (hK5 (Kp [1, 2, 3, 4] (Sq fun K8 hK8 => ?_))))
 refine Bl (Qb [0, 1, 0, 4, 0, 28, 60, 124, 252, 511, 1023, 2047] [(0, []), (1, []), (2, []), (3, []), (4, []), (5, []), (6, []), (7, [1]), (8, [1]), (9, []), (10, []), (11, [])] (fun h => Bn (Jn (hK8 h))) (qAv1 6 28 [(27, .int .i64 0), (26, .sl 5 (t.kids.map trc)), (25, .ptr 0 4), (24, .nils), (23, .ptr 16 4)] (congrArg AV.pat (mg_trc t.kids 0 (by omega))) (((1 : Nat) ≠ 0) /\ (4 + 1 <= 5 /\ 4 < 5) /\ ((1 : Nat) ≠ 0) /\ (4 + 1 <= 5 /\ 4 < 5) /\ (5 = 5 /\ (0 : Int) <= 0 /\ 0 < ((t.kids.map trc).length : Int)) /\ ·) ⟨(by decide), (by decide), (by decide), (by decide), ⟨rfl, by omega, by rw [List.length_map]; omega⟩, qBc1 2 [(29, .agg (tcs (t.kids.getD 0 default)))] [1] 18 [.agg (tcs (t.kids.getD 0 default))] 30 ((5 <= 5 /\ 0 < 5) /\ ·) ⟨(by decide), ?_⟩⟩))
 have hW := Ws_get t.kids 0 (by omega)
 refine PE.use (l1Copy_ok _ (t.kids.getD 0 default) rfl (by omega)) ?_
 refine Kq (p := (((4 + 1 <= 5 /\ 4 < 5) /\ (AV.nils = (.nils : AV))) /\ True)) ⟨⟨(by decide), rfl⟩, trivial⟩ ?_
 refine qAn3 2 [(32, .osl 24 5 0 1), (31, .osl 20 5 0 1)] [(24, tcs (t.kids.getD 0 default)), (20, tcs (t.kids.getD 0 default)), (16, [.bool t.dir, .int .i64 t.mode, .str t.data, .osl 12 1 0 t.names.length, .nils]), (12, fl sc t.names), (4, zt), (0, tcs t)] 28 ((1 * 5 <= 16777216) /\ (((4 + 1 <= 5 /\ 4 < 5) /\ (AV.nils = (.nils : AV))) /\ True) /\ (0 + 1 * 5 <= 5) /\ (0 < 1 /\ 0 < 80 /\ 1 * 80 <= 140737488355328) /\ (True) /\ ·) ⟨(by decide), ⟨⟨(by decide), rfl⟩, trivial⟩, (by decide), (by decide), trivial, runq_v (v' := .osl 24 5 0 ([(t.kids.getD 0 default)].length)) rfl (runq_h (cs' := fl trc [(t.kids.getD 0 default)]) (s1_trc (t.kids.getD 0 default)) (qFn3 [1, 2, 3, 4] [] [(24, fl trc [(t.kids.getD 0 default)]), (20, tcs (t.kids.getD 0 default)), (16, [.bool t.dir, .int .i64 t.mode, .str t.data, .osl 12 1 0 t.names.length, .osl 24 5 0 ([(t.kids.getD 0 default)].length)]), (12, fl sc t.names), (4, zt), (0, tcs t)] 28 (((1 : Nat) ≠ 0) /\ (true = true /\ 1 = 1 /\ 4 + 1 <= 5) /\ (True) /\ ·) ⟨(by decide), (by decide), trivial, Rn ?_⟩))⟩
 refine Gn1 [(4, .int .i64 1), (22, .int .i64 1), (21, .int .i64 0)] (Ki /\ ·) ⟨rfl, nk_n (Lr (1, some ()) [(0, 0), (4, 4), (12, 12), (16, 16), (24, 20)] 24 [(1, .ptr 0 0), (2, .ptr 4 0), (3, .ptr 16 0), (4, .int .i64 1)] [(24, fl trc [(t.kids.getD 0 default)]), (16, [.bool t.dir, .int .i64 t.mode, .str t.data, .osl 12 1 0 t.names.length, .osl 24 5 0 ([(t.kids.getD 0 default)].length)]), (12, fl sc t.names), (4, zt), (0, tcs t)] [false, true, false, true, true] ?_ ?_ (by (try rw [one_take default (by omega)]); try kernel_rfl) (by kernel_rfl))⟩
 (try dsimp only); omega
 refine ⟨?_, rfl⟩; (try dsimp only); omega
 try simp only [KF] at c7
 refine Xt (Jx (Lx (Bh (Jn (hK3 (Kp [2, 3] ?_))))))
 have hk0 : t.kids = [] := List.eq_nil_of_length_eq_zero (by omega)
 refine h_pm (H' := ((16, [.bool t.dir, .int .i64 t.mode, .str t.data, .osl 12 1 0 t.names.length, .nils]) :: (4, zt) :: (0, tcs t) :: (12, fl sc t.names) :: [])) (List.Perm.trans (List.Perm.cons _ (List.Perm.cons _ (List.Perm.swap _ _ _))) (List.Perm.cons _ (List.Perm.swap _ _ _))) ?_
 refine h_k [2, 3] (F' := [(2, .ptr 4 0), (3, .ptr 16 0)]) (by kernel_rfl) ?_
 refine h_odd (H := [(16, [.bool t.dir, .int .i64 t.mode, .str t.data, .osl 12 1 0 t.names.length, .nils]), (4, zt), (0, tcs t), (12, fl sc t.names)]) 12 (fun jn => [(2, .ptr 4 0), (3, .ptr 16 0)]) (fun jn => [(16, [.bool t.dir, .int .i64 t.mode, .str t.data, .osl (2 * jn + 1) 1 0 t.names.length, .nils]), (4, zt), (0, tcs t), ((2 * jn + 1), fl sc t.names)]) (by kernel_rfl) (show odH [] from trivial) (fun jn => ⟨by simp only [slF, slp, slps, go_sem, and_self], by kernel_rfl⟩) (fun jn => ⟨rfl, .inr ⟨by simp only [tcs, slps, slp, go_sem, and_self], by kernel_rfl⟩, rfl, .inr ⟨by simp only [tcs, slps, slp, go_sem, and_self], by kernel_rfl⟩, rfl, .inr ⟨by simp only [tcs, slps, slp, go_sem, and_self], by kernel_rfl⟩, rfl, .inl ⟨ods_flS _, rfl⟩, trivial⟩) (fun jn => ?_)
 refine Rr (Fn3 [2] [] ((16, [.bool t.dir, .int .i64 t.mode, .str t.data, .osl (2 * jn + 1) 1 0 t.names.length, .nils]) :: (4, [.bool t.dir, .int .i64 t.mode, .str t.data, .osl (2 * jn + 1) 1 0 t.names.length, .nils]) :: (0, tcs t) :: (((2 * jn + 1), fl sc t.names) :: [])) 20 ((0 + 5 <= 5 /\ 0 < 5) /\ (true = true /\ 5 = 5 /\ 0 + 5 <= 5) /\ ·) ⟨(by decide), (by decide), Rt1 ((0 + 5 <= 5 /\ 0 < 5) /\ ·) (.agg [.bool t.dir, .int .i64 t.mode, .str t.data, .osl (2 * jn + 1) 1 0 t.names.length, .nils]) ⟨(by decide), fin_dc (cpA t (.osl (2 * jn + 1) 1 0 t.names.length) .nils) [(2 * jn + 1, fl sc t.names)] (List.Sublist.cons _ (List.Sublist.cons _ (List.Sublist.cons _ (List.Sublist.refl _)))) (lea_refl _) ⟨trivial, trivial, trivial, by show (2 * jn + 1) % 2 = 1; omega, trivial, trivial⟩ ⟨by omega, ods_flS _, trivial⟩ ⟨jn, .inl ⟨hk0, rfl, rfl⟩⟩⟩⟩)
 (try dsimp only at hI)
 obtain ⟨⟨hk0, hk⟩, rfl⟩ := hI
 dsimp only
 have hkl : (t.kids.take k).length = k := tkl hk
 refine Sq fun K10 hK10 => ?_
 refine Rr (Av1 (r := .int .i64 ((t.kids.map trc).length : Nat)) (v := .int .i64 t.kids.length) 4 19 [(18, .sl 5 (t.kids.map trc)), (17, .ptr 0 4), (16, .int .i64 k)] (by rw [List.length_map]) (((1 : Nat) ≠ 0) /\ (4 + 1 <= 5 /\ 4 < 5) /\ ·) ⟨(by decide), (by decide), Cn1 (decide ((k : Int) < (t.kids.length : Int))) [1, 2, 3, 4] [] (Ki /\ ·) ⟨rfl, fun hc12 c12 => ?_, fun hc12 c12 => ?_⟩⟩)
 try simp only [KF] at c12
 refine Sk (Jn (hK10 (Kp [1, 2, 3, 4] (Sq fun K13 hK13 => ?_))))
 refine Bl (Qb [0, 1, 0, 4, 0, 28, 60, 124, 252, 511, 1023, 2047] [(0, []), (1, []), (2, []), (3, []), (4, []), (5, []), (6, []), (7, [1]), (8, [1]), (9, []), (10, []), (11, [])] (fun h => Bn (Jn (hK13 h))) (qAv1 6 28 [(27, .int .i64 k), (26, .sl 5 (t.kids.map trc)), (25, .ptr 0 4), (24, .osl 20 5 0 ((t.kids.take k).length)), (23, .ptr 16 4)] (congrArg AV.pat (mg_trc t.kids k (by omega))) (((1 : Nat) ≠ 0) /\ (4 + 1 <= 5 /\ 4 < 5) /\ ((1 : Nat) ≠ 0) /\ (4 + 1 <= 5 /\ 4 < 5) /\ (5 = 5 /\ (0 : Int) <= (k : Int) /\ (k : Int) < ((t.kids.map trc).length : Int)) /\ ·) ⟨(by decide), (by decide), (by decide), (by decide), ⟨rfl, by omega, by rw [List.length_map]; omega⟩, qBc1 2 [(29, .agg (tcs (t.kids.getD k default)))] [1] 18 [.agg (tcs (t.kids.getD k default))] 30 ((5 <= 5 /\ 0 < 5) /\ ·) ⟨(by decide), ?_⟩⟩))
 have hW := Ws_get t.kids k (by omega)
 refine PE.use (l1Copy_ok _ (t.kids.getD k default) rfl (by omega)) ?_
 refine Kq (p := (((4 + 1 <= 5 /\ 4 < 5) /\ (AV.osl 20 5 0 ((t.kids.take k).length) = (.osl 20 5 0 ((t.kids.take k).length) : AV))) /\ True)) ⟨⟨(by decide), rfl⟩, trivial⟩ ?_
 refine qAn3 2 [(32, .osl 28 5 0 ((t.kids.take k).length + 1)), (31, .osl 24 5 0 1)] [(28, apd (fl trc (t.kids.take k)) ((t.kids.take k).length * 5) (tcs (t.kids.getD k default))), (24, tcs (t.kids.getD k default)), (16, [.bool t.dir, .int .i64 t.mode, .str t.data, .osl 12 1 0 t.names.length, .osl 20 5 0 ((t.kids.take k).length)]), (12, fl sc t.names), (4, zt), (0, tcs t)] 32 (fun Z => (1 * 5 <= 16777216) /\ (((4 + 1 <= 5 /\ 4 < 5) /\ (AV.osl 20 5 0 ((t.kids.take k).length) = (.osl 20 5 0 ((t.kids.take k).length) : AV))) /\ True) /\ (0 + 1 * 5 <= 5) /\ (5 = 5 /\ (t.kids.take k).length * 5 <= (fl trc (t.kids.take k)).length /\ 0 < 80 /\ ((t.kids.take k).length + 1) * 80 <= 140737488355328) /\ (True) /\ Z) ⟨(by decide), ⟨⟨(by decide), rfl⟩, trivial⟩, (by decide), ⟨rfl, by (first | omega | (simp only [LL]; omega)), by decide, by (first | omega | (simp only [LL]; omega))⟩, trivial, runq_v (v' := .osl 28 5 0 ((t.kids.take k ++ [(t.kids.getD k default)]).length)) (push_len _ _ _ _) (runq_h (cs' := fl trc (t.kids.take k ++ [(t.kids.getD k default)])) (push_trc (t.kids.take k) (t.kids.getD k default)) (qFn3 [1, 2, 3, 4] [] [(28, fl trc (t.kids.take k ++ [(t.kids.getD k default)])), (24, tcs (t.kids.getD k default)), (16, [.bool t.dir, .int .i64 t.mode, .str t.data, .osl 12 1 0 t.names.length, .osl 28 5 0 ((t.kids.take k ++ [(t.kids.getD k default)]).length)]), (12, fl sc t.names), (4, zt), (0, tcs t)] 32 (((1 : Nat) ≠ 0) /\ (true = true /\ 1 = 1 /\ 4 + 1 <= 5) /\ (True) /\ ·) ⟨(by decide), (by decide), trivial, Rn ?_⟩))⟩
 refine Av1 2 22 [(21, .int .i64 k)] (congrArg (AV.int .i64) (wn1 k (by omega))) (Ki /\ ·) ⟨rfl, Gn0 [(4, .int .i64 ((k + 1 : Nat) : Int))] (nk_n (Lr (k + 1, some ()) [(0, 0), (4, 4), (12, 12), (16, 16), (28, 20)] 24 [(1, .ptr 0 0), (2, .ptr 4 0), (3, .ptr 16 0), (4, .int .i64 ((k + 1 : Nat) : Int))] [(28, fl trc (t.kids.take k ++ [(t.kids.getD k default)])), (16, [.bool t.dir, .int .i64 t.mode, .str t.data, .osl 12 1 0 t.names.length, .osl 28 5 0 ((t.kids.take k ++ [(t.kids.getD k default)]).length)]), (12, fl sc t.names), (4, zt), (0, tcs t)] [false, true, false, true, true] ?_ ?_ (by (try rw [<- take_snoc t.kids k default (by omega)]); try kernel_rfl) (by kernel_rfl)))⟩
 (try dsimp only); omega
 refine ⟨?_, rfl⟩; (try dsimp only); omega
 try simp only [KF] at c12
 refine Xt (Jx (Lx (Bh (Jn (hK3 (Kp [2, 3] ?_))))))
 have hkk : t.kids.take k = t.kids := List.take_of_length_le (by omega)
 rw [hkk]
 refine h_pm (H' := ((16, [.bool t.dir, .int .i64 t.mode, .str t.data, .osl 12 1 0 t.names.length, .osl 20 5 0 t.kids.length]) :: (4, zt) :: (0, tcs t) :: (12, fl sc t.names) :: (20, fl trc t.kids) :: [])) (List.Perm.trans (List.Perm.cons _ (List.Perm.cons _ (List.Perm.cons _ (List.Perm.swap _ _ _)))) (List.Perm.trans (List.Perm.cons _ (List.Perm.cons _ (List.Perm.swap _ _ _))) (List.Perm.trans (List.Perm.cons _ (List.Perm.cons _ (List.Perm.cons _ (List.Perm.swap _ _ _)))) (List.Perm.trans (List.Perm.cons _ (List.Perm.swap _ _ _)) (List.Perm.trans (List.Perm.cons _ (List.Perm.cons _ (List.Perm.swap _ _ _))) (List.Perm.swap _ _ _)))))) ?_
 refine h_k [2, 3] (F' := [(2, .ptr 4 0), (3, .ptr 16 0)]) (by kernel_rfl) ?_
 refine h_odd (H := [(16, [.bool t.dir, .int .i64 t.mode, .str t.data, .osl 12 1 0 t.names.length, .osl 20 5 0 t.kids.length]), (4, zt), (0, tcs t), (12, fl sc t.names), (20, fl trc t.kids)]) 20 (fun jk => [(2, .ptr 4 0), (3, .ptr 16 0)]) (fun jk => [(16, [.bool t.dir, .int .i64 t.mode, .str t.data, .osl 12 1 0 t.names.length, .osl (2 * jk + 1) 5 0 t.kids.length]), (4, zt), (0, tcs t), (12, fl sc t.names), ((2 * jk + 1), fl trc t.kids)]) (by kernel_rfl) (show odH [] from trivial) (fun jk => ⟨by simp only [slF, slp, slps, go_sem, and_self], by kernel_rfl⟩) (fun jk => ⟨rfl, .inr ⟨by simp only [tcs, slps, slp, go_sem, and_self], by kernel_rfl⟩, rfl, .inr ⟨by simp only [tcs, slps, slp, go_sem, and_self], by kernel_rfl⟩, rfl, .inr ⟨by simp only [tcs, slps, slp, go_sem, and_self], by kernel_rfl⟩, rfl, .inl ⟨ods_flS _, rfl⟩, rfl, .inl ⟨ods_flT _, rfl⟩, trivial⟩) (fun jk => ?_)
 refine h_k [2, 3] (F' := [(2, .ptr 4 0), (3, .ptr 16 0)]) (by kernel_rfl) ?_
 refine h_odd (H := [(16, [.bool t.dir, .int .i64 t.mode, .str t.data, .osl 12 1 0 t.names.length, .osl (2 * jk + 1) 5 0 t.kids.length]), (4, zt), (0, tcs t), (12, fl sc t.names)]) 12 (fun jn => [(2, .ptr 4 0), (3, .ptr 16 0)]) (fun jn => [(16, [.bool t.dir, .int .i64 t.mode, .str t.data, .osl (2 * jn + 1) 1 0 t.names.length, .osl (2 * jk + 1) 5 0 t.kids.length]), (4, zt), (0, tcs t), ((2 * jn + 1), fl sc t.names)]) (by kernel_rfl) ⟨by omega, ods_flT _, (show odH [] from trivial)⟩ (fun jn => ⟨by simp only [slF, slp, slps, go_sem, and_self], by kernel_rfl⟩) (fun jn => ⟨rfl, .inr ⟨by simp only [tcs, slps, slp, go_sem, and_self], by simp only [r1s, r1]; rw [nbq (show 2 * jk + 1 ≠ 12 by omega)]; rfl⟩, rfl, .inr ⟨by simp only [tcs, slps, slp, go_sem, and_self], by kernel_rfl⟩, rfl, .inr ⟨by simp only [tcs, slps, slp, go_sem, and_self], by kernel_rfl⟩, rfl, .inl ⟨ods_flS _, rfl⟩, trivial⟩) (fun jn => ?_)
 refine Rr (Fn3 [2] [] ((16, [.bool t.dir, .int .i64 t.mode, .str t.data, .osl (2 * jn + 1) 1 0 t.names.length, .osl (2 * jk + 1) 5 0 t.kids.length]) :: (4, [.bool t.dir, .int .i64 t.mode, .str t.data, .osl (2 * jn + 1) 1 0 t.names.length, .osl (2 * jk + 1) 5 0 t.kids.length]) :: (0, tcs t) :: (((2 * jn + 1), fl sc t.names) :: (((2 * jk + 1), fl trc t.kids) :: []))) 24 ((0 + 5 <= 5 /\ 0 < 5) /\ (true = true /\ 5 = 5 /\ 0 + 5 <= 5) /\ ·) ⟨(by decide), (by decide), Rt1 ((0 + 5 <= 5 /\ 0 < 5) /\ ·) (.agg [.bool t.dir, .int .i64 t.mode, .str t.data, .osl (2 * jn + 1) 1 0 t.names.length, .osl (2 * jk + 1) 5 0 t.kids.length]) ⟨(by decide), fin_dc (cpA t (.osl (2 * jn + 1) 1 0 t.names.length) (.osl (2 * jk + 1) 5 0 t.kids.length)) [(2 * jn + 1, fl sc t.names), (2 * jk + 1, fl trc t.kids)] (List.Sublist.cons _ (List.Sublist.cons _ (List.Sublist.cons _ (List.Sublist.refl _)))) (lea_refl _) ⟨trivial, trivial, trivial, by show (2 * jn + 1) % 2 = 1; omega, by show (2 * jk + 1) % 2 = 1; omega, trivial⟩ ⟨by omega, ods_flS _, by omega, ods_flT _, trivial⟩ ⟨jn, .inr ⟨by omega, jk, rfl, rfl⟩⟩⟩⟩)
set_option maxRecDepth 10000 in
theorem l1Open_ok (X : Str) (hX : X.length < 2 ^ 40) : DC G 11 [.sl 1 (X.map fun c => [AV.int .u8 (c.toNat : Int)])] [] (OpR X) := by
 refine DC_nd fun hnd => ?_
 refine h_dc (F := [(0, .sl 1 (X.map fun c => [AV.int .u8 (c.toNat : Int)]))]) (ods_pur _ (by simp only [go_sem])) trivial Try.func11 (by kernel_rfl) (by kernel_rfl) ?_ (by kernel_rfl)
 refine Rr (Fn0 [0] [] (Sq fun K2 hK2 => ?_))
 refine Rr (Av0 (r := .int .i64 ((X.map (fun c => [AV.int .u8 (c.toNat : Int)])).length : Nat)) (v := .int .i64 X.length) 2 4 [(3, .sl 1 (X.map fun c => [AV.int .u8 (c.toNat : Int)]))] (by rw [List.length_map]) (Cn1 (decide ((2000 : Int) < ((X.length : Int) : Int))) [0] [] (Ki /\ ·) ⟨rfl, fun hc4 c4 => ?_, fun hc4 c4 => ?_⟩))
 try simp only [KF] at c4
 refine Rb (fun h => Jn (hK2 h)) (Av1 (r := .sl 1 (((X.map (fun c => [AV.int .u8 (c.toNat : Int)])).take 2000).drop 0)) (v := .sl 1 ((X.take 2000).map fun c => [AV.int .u8 (c.toNat : Int)])) 2 7 [(6, .sl 1 (X.map fun c => [AV.int .u8 (c.toNat : Int)]))] (congrArg (AV.sl 1) (slm_0 _ _ _)) (fun Z => (1 = 1 /\ 0 <= (0 : Int) /\ (0 : Int) <= 2000 /\ 2000 <= (((X.map (fun c => [AV.int .u8 (c.toNat : Int)])).length : Nat) : Int)) /\ Z) ⟨⟨rfl, by omega, by (try rw [List.length_map]); omega, by rw [List.length_map]; omega⟩, Fn0 [] [(0, .sl 1 ((X.take 2000).map fun c => [AV.int .u8 (c.toNat : Int)]))] (Rr (Fn2 [] [(2, .ptr 0 0)] [(0, [.sl 1 ((X.take 2000).map fun c => [AV.int .u8 (c.toNat : Int)]), .int .i64 0])] 4 ?_))⟩)
 refine h_pm (H' := ((0, [.sl 1 ((X.take 2000).map fun c => [AV.int .u8 (c.toNat : Int)]), .int .i64 0]) :: [])) (List.Perm.refl _) ?_
 refine h_k [2] (F' := [(2, .ptr 0 0)]) (by kernel_rfl) ?_
 refine h_odd (H := [(0, [.sl 1 ((X.take 2000).map fun c => [AV.int .u8 (c.toNat : Int)]), .int .i64 0])]) 0 (fun jr => [(2, .ptr (2 * jr + 1) 0)]) (fun jr => [((2 * jr + 1), [.sl 1 ((X.take 2000).map fun c => [AV.int .u8 (c.toNat : Int)]), .int .i64 0])]) (by kernel_rfl) (show odH [] from trivial) (fun jr => ⟨by simp only [slF, slp, slps, go_sem, and_self], by kernel_rfl⟩) (fun jr => ⟨rfl, .inr ⟨by simp only [tcs, slps, slp, go_sem, and_self], by kernel_rfl⟩, trivial⟩) (fun jr => ?_)
 refine Rt (.ptr (2 * jr + 1) 0) (fin_dc (.ptr (2 * jr + 1) 0) _ (List.Sublist.refl _) (lea_refl _) (by show (2 * jr + 1) % 2 = 1; omega) ⟨by omega, ods_pur _ (by simp only [go_sem]), trivial⟩ ⟨jr, _, rfl, rfl, by first | omega | (simp only [List.length_take]; omega)⟩)
 try simp only [KF] at c4
 refine Sk (Jn (hK2 (Kp [0] (Rr (Fn2 [] [(2, .ptr 0 0)] [(0, [.sl 1 (X.map fun c => [AV.int .u8 (c.toNat : Int)]), .int .i64 0])] 4 (h_pm (H' := ((0, [.sl 1 (X.map fun c => [AV.int .u8 (c.toNat : Int)]), .int .i64 0]) :: [])) (List.Perm.refl _) (h_k [2] (F' := [(2, .ptr 0 0)]) (by kernel_rfl) ?_)))))))
 refine h_odd (H := [(0, [.sl 1 (X.map fun c => [AV.int .u8 (c.toNat : Int)]), .int .i64 0])]) 0 (fun jr => [(2, .ptr (2 * jr + 1) 0)]) (fun jr => [((2 * jr + 1), [.sl 1 (X.map fun c => [AV.int .u8 (c.toNat : Int)]), .int .i64 0])]) (by kernel_rfl) (show odH [] from trivial) (fun jr => ⟨by simp only [slF, slp, slps, go_sem, and_self], by kernel_rfl⟩) (fun jr => ⟨rfl, .inr ⟨by simp only [tcs, slps, slp, go_sem, and_self], by kernel_rfl⟩, trivial⟩) (fun jr => ?_)
 refine Rt (.ptr (2 * jr + 1) 0) (fin_dc (.ptr (2 * jr + 1) 0) _ (List.Sublist.refl _) (lea_refl _) (by show (2 * jr + 1) % 2 = 1; omega) ⟨by omega, ods_pur _ (by simp only [go_sem]), trivial⟩ ⟨jr, _, rfl, rfl, by first | omega | (simp only [List.length_take]; omega)⟩)
open Go Go.Proofs
set_option maxRecDepth 20000 in
set_option maxHeartbeats 4000000 in
theorem l4Spoil_ok : ∀ (N : Nat) (t : Tr) (b : Str) (p : Nat), t.W = N -> t.W < 2 ^ 14 -> p + 2 * t.W < 2 ^ 26 -> b.length < 2 ^ 30 -> RC G 24 [.agg (tcs t)] b p (fun r p' => ∃ x : Tr, x.W <= t.W + 2000 /\ r = .agg (tcs x) /\ p' <= p + 2 * t.W + 40) := by
 intro N; refine Nat.strongRecOn N fun N ih => ?_; intro t b p hN hw hp hb; have hWe := W_eq t; have hks := Ws_len t.kids; have hns := wS_len t.names
 refine h_rc (F := [(0, .ptr 0 0), (1, .agg (tcs t))]) (by simp only [go_sem]) Try.func24 (by kernel_rfl) (by kernel_rfl) ?_ (by kernel_rfl)
 refine Rr (Fn2 [0] [(4, .ptr 8 0), (3, .ptr 4 0)] [(8, zt), (4, tcs t), (0, rdc b p)] 12 (Rr (Bc1 2 [(9, .agg (tcs t))] 18 [.agg (tcs t)] 10 ((0 + 5 <= 5 /\ 0 < 5) /\ ·) ⟨(by decide), cp_use (l1CopyO_ok t (by omega)) (fun hk => ?_) (fun hk => ?_)⟩)))
 show KE _ _ _ (.agg _) _ _
 refine Ke (Fn3 [0, 4] [(5, .ptr 16 0)] [(16, [.bool t.dir, .int .i64 t.mode, .str t.data, .osl 12 1 0 t.names.length, .nils]), (12, fl sc t.names), (8, zt), (4, tcs t), (0, rdc b p)] 20 ((true = true /\ 5 = 5 /\ 0 + 5 <= 5) /\ ·) ⟨(by decide), Sq fun K3 hK3 => ?_⟩)
 refine Rr (Fn1 [0, 4, 5] [(19, .bool false)] (((1 : Nat) ≠ 0) /\ (4 + 1 <= 5 /\ 4 < 5) /\ Ki /\ ·) ⟨(by decide), (by decide), rfl, Cf (Sk (Jn (hK3 (Kp [0, 4, 5] (Sq fun K5 hK5 => ?_)))))⟩)
 refine Rr (Bc0 2 [(37, .ptr 0 0)] 23 [.ptr 0 0, .int .i64 8] 38 (RC.use (pick_ok b p 8 (by omega) (by omega) (by omega) (by omega)) (by kernel_rfl) fun r p1 hr => ?_)); obtain ⟨pk7, hpk7, rfl, rfl⟩ := hr
 refine Ke (Fn0 [0, 4, 5, 38] [] (Bl (Rr (Cn1 (decide ((pk7 : Int) = 0)) [0, 4, 5, 38] [] (Ki /\ ·) ⟨rfl, fun hc9 c9 => ?_, fun hc9 c9 => ?_⟩))))
 try simp only [KF] at c9
 refine Rb (fun h => Bn (Jn (hK5 h))) (Bc3 3 [(61, .ptr 0 0), (60, .osl 20 1 0 3)] 23 [.ptr 0 0, .int .i64 3] 62 [(20, [.int .i64 (-1), .int .i64 7, .int .i64 8]), (16, [.bool t.dir, .int .i64 t.mode, .str t.data, .osl 12 1 0 t.names.length, .nils]), (12, fl sc t.names), (8, zt), (4, tcs t), (0, rdc b (p + 1))] 24 ((3 * 1 <= 16777216) /\ ·) ⟨(by decide), RC.use (pick_ok b (p + 1) 3 (by omega) (by omega) (by omega) (by omega)) (by kernel_rfl) fun r p1 hr => ?_⟩); obtain ⟨pk10, hpk10, rfl, rfl⟩ := hr
 refine Ke (Av1 (r := ([.int .i64 (-1), .int .i64 7, .int .i64 8].getD (0 + pk10 * 1) .dead : AV)) (v := .int .i64 (([-1, 7, 8] : List Int).getD pk10 0)) 2 64 [(63, .ptr 20 (0 + pk10 * 1))] (ints_get ([-1, 7, 8] : List Int) pk10 (by simp only [List.length_cons, List.length_nil]; omega)) ((1 = 1 /\ (0 : Int) <= (pk10 : Int) /\ (pk10 : Int) < (3 : Int)) /\ (0 + pk10 * 1 + 1 <= 3 /\ 0 + pk10 * 1 < 3) /\ ·) ⟨⟨rfl, by omega, by omega⟩, ⟨by omega, by omega⟩, Fn3 [4, 5] [] [(20, [.int .i64 (-1), .int .i64 7, .int .i64 8]), (16, [.bool t.dir, .int .i64 (([-1, 7, 8] : List Int).getD pk10 0), .str t.data, .osl 12 1 0 t.names.length, .nils]), (12, fl sc t.names), (8, zt), (4, tcs t), (0, rdc b (p + 1 + 1))] 24 (((1 : Nat) ≠ 0) /\ (true = true /\ 1 = 1 /\ 1 + 1 <= 5) /\ ·) ⟨(by decide), (by decide), Rr (Fn3 [4] [] [(20, [.int .i64 (-1), .int .i64 7, .int .i64 8]), (16, [.bool t.dir, .int .i64 (([-1, 7, 8] : List Int).getD pk10 0), .str t.data, .osl 12 1 0 t.names.length, .nils]), (12, fl sc t.names), (8, [.bool t.dir, .int .i64 (([-1, 7, 8] : List Int).getD pk10 0), .str t.data, .osl 12 1 0 t.names.length, .nils]), (4, tcs t), (0, rdc b (p + 1 + 1))] 24 ((0 + 5 <= 5 /\ 0 < 5) /\ (true = true /\ 5 = 5 /\ 0 + 5 <= 5) /\ ·) ⟨(by decide), (by decide), ?_⟩)⟩⟩)
 refine FzS 12 t.names [(4, .ptr 8 0)] [(8, [.bool t.dir, .int .i64 (([-1, 7, 8] : List Int).getD pk10 0), .str t.data, .osl 12 1 0 t.names.length, .nils]), (0, rdc b (p + 1 + 1))] [true, true] (Rt1 ((0 + 5 <= 5 /\ 0 < 5) /\ ·) (.agg [.bool t.dir, .int .i64 (([-1, 7, 8] : List Int).getD pk10 0), .str t.data, pth t.names, .nils]) ⟨(by decide), ?_⟩)
 have hWx : (Tr.mk t.dir (([-1, 7, 8] : List Int).getD pk10 0) t.data t.names []).W <= t.W + 2000 := by
   (try (rw [W_eq (Tr.mk _ _ _ _ _)]; simp only [Tr.data_mk, Tr.names_mk, Tr.kids_mk, wS_app, Ws_app, wS, Tr.Ws, List.length_append, List.length_cons, List.length_nil, W_none]))
   omega
 exact fin_rc (p + 1 + 1) (by first | exact lea_refl _ | simp [lea, leas, pth, tcs]) (by simp only [go_sem]) (by kernel_rfl) ⟨(Tr.mk t.dir (([-1, 7, 8] : List Int).getD pk10 0) t.data t.names []), hWx, rfl, by omega⟩
 try simp only [KF] at c9
 refine Rr (Cn1 (decide ((pk7 : Int) = 1)) [0, 4, 5, 38] [] (Ki /\ ·) ⟨rfl, fun hc13 c13 => ?_, fun hc13 c13 => ?_⟩)
 try simp only [KF] at c13
 refine Rb (fun h => Bn (Jn (hK5 h))) (Fn3 [4, 5] [] [(16, [.bool (!t.dir), .int .i64 t.mode, .str t.data, .osl 12 1 0 t.names.length, .nils]), (12, fl sc t.names), (8, zt), (4, tcs t), (0, rdc b (p + 1))] 20 (((1 : Nat) ≠ 0) /\ (0 + 1 <= 5 /\ 0 < 5) /\ ((1 : Nat) ≠ 0) /\ (true = true /\ 1 = 1 /\ 0 + 1 <= 5) /\ ·) ⟨(by decide), (by decide), (by decide), (by decide), Rr (Fn3 [4] [] [(16, [.bool (!t.dir), .int .i64 t.mode, .str t.data, .osl 12 1 0 t.names.length, .nils]), (12, fl sc t.names), (8, [.bool (!t.dir), .int .i64 t.mode, .str t.data, .osl 12 1 0 t.names.length, .nils]), (4, tcs t), (0, rdc b (p + 1))] 20 ((0 + 5 <= 5 /\ 0 < 5) /\ (true = true /\ 5 = 5 /\ 0 + 5 <= 5) /\ ·) ⟨(by decide), (by decide), FzS 12 t.names [(4, .ptr 8 0)] [(8, [.bool (!t.dir), .int .i64 t.mode, .str t.data, .osl 12 1 0 t.names.length, .nils]), (0, rdc b (p + 1))] [true, true] ?_⟩)⟩)
 refine Rt1 ((0 + 5 <= 5 /\ 0 < 5) /\ ·) (.agg [.bool (!t.dir), .int .i64 t.mode, .str t.data, pth t.names, .nils]) ⟨(by decide), ?_⟩
 have hWx : (Tr.mk (!t.dir) t.mode t.data t.names []).W <= t.W + 2000 := by
   (try (rw [W_eq (Tr.mk _ _ _ _ _)]; simp only [Tr.data_mk, Tr.names_mk, Tr.kids_mk, wS_app, Ws_app, wS, Tr.Ws, List.length_append, List.length_cons, List.length_nil, W_none]))
   omega
 exact fin_rc (p + 1) (by first | exact lea_refl _ | simp [lea, leas, pth, tcs]) (by simp only [go_sem]) (by kernel_rfl) ⟨(Tr.mk (!t.dir) t.mode t.data t.names []), hWx, rfl, by omega⟩
 try simp only [KF] at c13
 refine Rr (Cn1 (decide ((pk7 : Int) = 2)) [0, 4, 5, 38] [] (Ki /\ ·) ⟨rfl, fun hc16 c16 => ?_, fun hc16 c16 => ?_⟩)
 try simp only [KF] at c16
 refine Rb (fun h => Bn (Jn (hK5 h))) (Fn3 [4, 5] [] [(16, [.bool t.dir, .int .i64 t.mode, .str (t.data ++ [120]), .osl 12 1 0 t.names.length, .nils]), (12, fl sc t.names), (8, zt), (4, tcs t), (0, rdc b (p + 1))] 20 (((1 : Nat) ≠ 0) /\ (2 + 1 <= 5 /\ 2 < 5) /\ (t.data.length + [120].length <= 9223372036854775807) /\ ((1 : Nat) ≠ 0) /\ (true = true /\ 1 = 1 /\ 2 + 1 <= 5) /\ ·) ⟨(by decide), (by decide), (by simp only [List.length_cons, List.length_nil]; omega), (by decide), (by decide), Rr (Fn3 [4] [] [(16, [.bool t.dir, .int .i64 t.mode, .str (t.data ++ [120]), .osl 12 1 0 t.names.length, .nils]), (12, fl sc t.names), (8, [.bool t.dir, .int .i64 t.mode, .str (t.data ++ [120]), .osl 12 1 0 t.names.length, .nils]), (4, tcs t), (0, rdc b (p + 1))] 20 ((0 + 5 <= 5 /\ 0 < 5) /\ (true = true /\ 5 = 5 /\ 0 + 5 <= 5) /\ ·) ⟨(by decide), (by decide), FzS 12 t.names [(4, .ptr 8 0)] [(8, [.bool t.dir, .int .i64 t.mode, .str (t.data ++ [120]), .osl 12 1 0 t.names.length, .nils]), (0, rdc b (p + 1))] [true, true] ?_⟩)⟩)
 refine Rt1 ((0 + 5 <= 5 /\ 0 < 5) /\ ·) (.agg [.bool t.dir, .int .i64 t.mode, .str (t.data ++ [120]), pth t.names, .nils]) ⟨(by decide), ?_⟩
 have hWx : (Tr.mk t.dir t.mode (t.data ++ [120]) t.names []).W <= t.W + 2000 := by
   (try (rw [W_eq (Tr.mk _ _ _ _ _)]; simp only [Tr.data_mk, Tr.names_mk, Tr.kids_mk, wS_app, Ws_app, wS, Tr.Ws, List.length_append, List.length_cons, List.length_nil, W_none]))
   omega
 exact fin_rc (p + 1) (by first | exact lea_refl _ | simp [lea, leas, pth, tcs]) (by simp only [go_sem]) (by kernel_rfl) ⟨(Tr.mk t.dir t.mode (t.data ++ [120]) t.names []), hWx, rfl, by omega⟩
 try simp only [KF] at c16
 refine Rr (Cn1 (decide ((pk7 : Int) = 3)) [0, 4, 5, 38] [] (Ki /\ ·) ⟨rfl, fun hc19 c19 => ?_, fun hc19 c19 => ?_⟩)
 try simp only [KF] at c19
 refine Qr [0, 1, 0, 0, 12, 28, 63, 127, 255] [(0, []), (1, []), (2, []), (3, [1]), (4, [1]), (5, [1]), (6, []), (7, []), (8, [])] (qBc3 5 [(83, .osl 20 1 0 5), (82, .ptr 0 0), (81, .osl 12 1 0 t.names.length), (80, .ptr 16 3)] [1] 30 [.ptr 0 0, .osl 20 1 0 5] 84 [(20, [.str [122, 122], .str [], .str [97], .str [90], .str [116, 111, 111, 108, 111, 110, 103]]), (16, [.bool t.dir, .int .i64 t.mode, .str t.data, .osl 12 1 0 t.names.length, .nils]), (12, fl sc t.names), (8, zt), (4, tcs t), (0, rdc b (p + 1))] 24 (((1 : Nat) ≠ 0) /\ (3 + 1 <= 5 /\ 3 < 5) /\ (5 * 1 <= 16777216) /\ (((3 + 1 <= 5 /\ 3 < 5) /\ (AV.osl 12 1 0 t.names.length = (.osl 12 1 0 t.names.length : AV))) /\ True) /\ ·) ⟨(by decide), (by decide), (by decide), ⟨⟨(by decide), rfl⟩, trivial⟩, Tz 20 1 5 ([[.str [122, 122]], [.str []], [.str [97]], [.str [90]], [.str [116, 111, 111, 108, 111, 110, 103]]]) ([.str [122, 122], .str [], .str [97], .str [90], .str [116, 111, 111, 108, 111, 110, 103]]) [.ptr 0 0, pth [[122, 122], [], [97], [90], [116, 111, 111, 108, 111, 110, 103]]] [(16, [.bool t.dir, .int .i64 t.mode, .str t.data, .osl 12 1 0 t.names.length, .nils]), (12, fl sc t.names), (8, zt), (4, tcs t), (0, rdc b (p + 1))] [true, false, true, true, true] (by kernel_rfl) (by first | decide | simp) (RC.use (of_ok b (p + 1) [[122, 122], [], [97], [90], [116, 111, 111, 108, 111, 110, 103]] (by first | omega | decide | simp) (by first | omega | decide | simp) (by omega) (by omega)) (by kernel_rfl) fun r p1 hr => ?_)⟩); obtain ⟨os21, hos21, rfl, rfl⟩ := hr
 have hol : os21.length <= 7 := by
   have hq := hos21
   simp only [List.mem_cons, List.not_mem_nil, or_false] at hq
   rcases hq with h | h | h | h | h <;> rw [h] <;> decide
 refine Kq (p := (((3 + 1 <= 5 /\ 3 < 5) /\ (AV.osl 12 1 0 t.names.length = (.osl 12 1 0 t.names.length : AV))) /\ True)) ⟨⟨(by decide), rfl⟩, trivial⟩ ?_
 refine qAn3 2 [(86, .osl 28 1 0 (t.names.length + 1)), (85, .osl 24 1 0 1)] [(28, apd (fl sc t.names) (t.names.length * 1) [.str os21]), (24, [.str os21]), (16, [.bool t.dir, .int .i64 t.mode, .str t.data, .osl 12 1 0 t.names.length, .nils]), (8, zt), (4, tcs t), (0, rdc b (p + 1 + 1))] 32 ((1 * 1 <= 16777216) /\ (((3 + 1 <= 5 /\ 3 < 5) /\ (AV.osl 12 1 0 t.names.length = (.osl 12 1 0 t.names.length : AV))) /\ True) /\ (0 + 1 * 1 <= 1) /\ (1 = 1 /\ t.names.length * 1 <= (fl sc t.names).length /\ 0 < 16 /\ (t.names.length + 1) * 16 <= 140737488355328) /\ (True) /\ ·) ⟨(by decide), ⟨⟨(by decide), rfl⟩, trivial⟩, (by decide), ⟨rfl, by (first | omega | (simp only [LL]; omega)), by decide, by (first | omega | (simp only [LL]; omega))⟩, trivial, runq_v (v' := .osl 28 1 0 ((t.names ++ [os21]).length)) (push_len _ _ _ _) (runq_h (cs' := fl sc (t.names ++ [os21])) (push_str t.names os21) (qFn3 [4, 5] [] [(28, fl sc (t.names ++ [os21])), (24, [.str os21]), (16, [.bool t.dir, .int .i64 t.mode, .str t.data, .osl 28 1 0 ((t.names ++ [os21]).length), .nils]), (8, zt), (4, tcs t), (0, rdc b (p + 1 + 1))] 32 (((1 : Nat) ≠ 0) /\ (true = true /\ 1 = 1 /\ 3 + 1 <= 5) /\ (True) /\ ·) ⟨(by decide), (by decide), trivial, Rb (fun h => Bn (Jn (hK5 h))) ?_⟩))⟩
 refine Fn3 [4, 5] [] [(36, zt), (32, zt), (28, fl sc (t.names ++ [os21])), (24, [.str os21]), (16, [.bool t.dir, .int .i64 t.mode, .str t.data, .osl 28 1 0 ((t.names ++ [os21]).length), .osl 36 5 0 1]), (8, zt), (4, tcs t), (0, rdc b (p + 1 + 1))] 40 (((1 : Nat) ≠ 0) /\ (4 + 1 <= 5 /\ 4 < 5) /\ (1 * 5 <= 16777216) /\ (0 + 1 * 5 <= 5) /\ (0 < 1 /\ 0 < 80 /\ 1 * 80 <= 140737488355328) /\ ((1 : Nat) ≠ 0) /\ (true = true /\ 1 = 1 /\ 4 + 1 <= 5) /\ ·) ⟨(by decide), (by decide), (by decide), (by decide), (by decide), (by decide), (by decide), Hn [(36, zt), (32, zt), (28, fl sc (t.names ++ [os21])), (24, [.str os21]), (16, [.bool t.dir, .int .i64 t.mode, .str t.data, .osl 28 1 0 ((t.names ++ [os21]).length), .osl 36 5 0 1]), (8, zt), (4, tcs t), (0, rdc b (p + 1 + 1))] (h_lo (H' := [(36, fl trc [Tr.none]), (32, zt), (28, fl sc (t.names ++ [os21])), (24, [.str os21]), (16, [.bool t.dir, .int .i64 t.mode, .str t.data, .osl 28 1 0 ((t.names ++ [os21]).length), .osl 36 5 0 1]), (8, zt), (4, tcs t), (0, rdc b (p + 1 + 1))]) ⟨⟨rfl, (by rw [fl_one, trc_none]; simp [leas, lea])⟩, ⟨rfl, leas_refl _⟩, ⟨rfl, leas_refl _⟩, ⟨rfl, leas_refl _⟩, ⟨rfl, leas_refl _⟩, ⟨rfl, leas_refl _⟩, ⟨rfl, leas_refl _⟩, ⟨rfl, leas_refl _⟩, trivial⟩ (h_k [4, 5] (F' := [(4, .ptr 8 0), (5, .ptr 16 0)]) (by kernel_rfl) (h_st (F' := [(4, .ptr 8 0), (5, .ptr 16 0)]) (H' := [(36, fl trc [Tr.none]), (32, zt), (28, fl sc (t.names ++ [os21])), (24, [.str os21]), (16, [.bool t.dir, .int .i64 t.mode, .str t.data, .osl 28 1 0 ((t.names ++ [os21]).length), .osl 36 5 0 (([Tr.none]).length)]), (8, zt), (4, tcs t), (0, rdc b (p + 1 + 1))]) rfl (by simp only [List.length_append, List.length_cons, List.length_nil]) ?_)))⟩
 refine Rr (Fn3 [4] [] [(36, fl trc [Tr.none]), (32, zt), (28, fl sc (t.names ++ [os21])), (24, [.str os21]), (16, [.bool t.dir, .int .i64 t.mode, .str t.data, .osl 28 1 0 ((t.names ++ [os21]).length), .osl 36 5 0 (([Tr.none]).length)]), (8, [.bool t.dir, .int .i64 t.mode, .str t.data, .osl 28 1 0 ((t.names ++ [os21]).length), .osl 36 5 0 (([Tr.none]).length)]), (4, tcs t), (0, rdc b (p + 1 + 1))] 40 ((0 + 5 <= 5 /\ 0 < 5) /\ (true = true /\ 5 = 5 /\ 0 + 5 <= 5) /\ ·) ⟨(by decide), (by decide), FzT 36 [Tr.none] [(4, .ptr 8 0)] [(28, fl sc (t.names ++ [os21])), (8, [.bool t.dir, .int .i64 t.mode, .str t.data, .osl 28 1 0 ((t.names ++ [os21]).length), .osl 36 5 0 (([Tr.none]).length)]), (0, rdc b (p + 1 + 1))] [false, true, true] (FzS 28 (t.names ++ [os21]) [(4, .ptr 8 0)] [(8, [.bool t.dir, .int .i64 t.mode, .str t.data, .osl 28 1 0 ((t.names ++ [os21]).length), .sl 5 ([Tr.none].map trc)]), (0, rdc b (p + 1 + 1))] [true, true] (Rt1 ((0 + 5 <= 5 /\ 0 < 5) /\ ·) (.agg [.bool t.dir, .int .i64 t.mode, .str t.data, pth (t.names ++ [os21]), .sl 5 ([Tr.none].map trc)]) ⟨(by decide), ?_⟩))⟩)
 have hWx : (Tr.mk t.dir t.mode t.data (t.names ++ [os21]) [Tr.none]).W <= t.W + 2000 := by
   (try (rw [W_eq (Tr.mk _ _ _ _ _)]; simp only [Tr.data_mk, Tr.names_mk, Tr.kids_mk, wS_app, Ws_app, wS, Tr.Ws, List.length_append, List.length_cons, List.length_nil, W_none]))
   omega
 exact fin_rc (p + 1 + 1) (by first | exact lea_refl _ | simp [lea, leas, pth, tcs]) (by simp only [go_sem]) (by kernel_rfl) ⟨(Tr.mk t.dir t.mode t.data (t.names ++ [os21]) [Tr.none]), hWx, rfl, by omega⟩
 try simp only [KF] at c19
 refine Rr (Cn1 (decide ((pk7 : Int) = 4)) [0, 4, 5, 38] [] (Ki /\ ·) ⟨rfl, fun hc24 c24 => ?_, fun hc24 c24 => ?_⟩)
 try simp only [KF] at c24
 refine Rb (fun h => Bn (Jn (hK5 h))) (An3 4 [(99, .osl 24 1 0 (t.names.length + 1)), (98, .osl 20 1 0 1), (97, .osl 12 1 0 t.names.length), (96, .ptr 16 3)] [(24, apd (fl sc t.names) (t.names.length * 1) [.str [122, 122, 122]]), (20, [.str [122, 122, 122]]), (16, [.bool t.dir, .int .i64 t.mode, .str t.data, .osl 12 1 0 t.names.length, .nils]), (8, zt), (4, tcs t), (0, rdc b (p + 1))] 28 (((1 : Nat) ≠ 0) /\ (3 + 1 <= 5 /\ 3 < 5) /\ (1 * 1 <= 16777216) /\ (0 + 1 * 1 <= 1) /\ (1 = 1 /\ t.names.length * 1 <= (fl sc t.names).length /\ 0 < 16 /\ (t.names.length + 1) * 16 <= 140737488355328) /\ ·) ⟨(by decide), (by decide), (by decide), (by decide), ⟨rfl, by (first | omega | (simp only [LL]; omega)), by decide, by (first | omega | (simp only [LL]; omega))⟩, run_v (v' := .osl 24 1 0 ((t.names ++ [[122, 122, 122]]).length)) (push_len _ _ _ _) (run_h (cs' := fl sc (t.names ++ [[122, 122, 122]])) (push_str t.names [122, 122, 122]) (Fn3 [4, 5] [] [(24, fl sc (t.names ++ [[122, 122, 122]])), (20, [.str [122, 122, 122]]), (16, [.bool t.dir, .int .i64 t.mode, .str t.data, .osl 24 1 0 ((t.names ++ [[122, 122, 122]]).length), .nils]), (8, zt), (4, tcs t), (0, rdc b (p + 1))] 28 (((1 : Nat) ≠ 0) /\ (true = true /\ 1 = 1 /\ 3 + 1 <= 5) /\ ·) ⟨(by decide), (by decide), ?_⟩))⟩)
 refine Rr (Fn3 [4] [] [(24, fl sc (t.names ++ [[122, 122, 122]])), (20, [.str [122, 122, 122]]), (16, [.bool t.dir, .int .i64 t.mode, .str t.data, .osl 24 1 0 ((t.names ++ [[122, 122, 122]]).length), .nils]), (8, [.bool t.dir, .int .i64 t.mode, .str t.data, .osl 24 1 0 ((t.names ++ [[122, 122, 122]]).length), .nils]), (4, tcs t), (0, rdc b (p + 1))] 28 ((0 + 5 <= 5 /\ 0 < 5) /\ (true = true /\ 5 = 5 /\ 0 + 5 <= 5) /\ ·) ⟨(by decide), (by decide), FzS 24 (t.names ++ [[122, 122, 122]]) [(4, .ptr 8 0)] [(8, [.bool t.dir, .int .i64 t.mode, .str t.data, .osl 24 1 0 ((t.names ++ [[122, 122, 122]]).length), .nils]), (0, rdc b (p + 1))] [true, true] (Rt1 ((0 + 5 <= 5 /\ 0 < 5) /\ ·) (.agg [.bool t.dir, .int .i64 t.mode, .str t.data, pth (t.names ++ [[122, 122, 122]]), .nils]) ⟨(by decide), ?_⟩)⟩)
 have hWx : (Tr.mk t.dir t.mode t.data (t.names ++ [[122, 122, 122]]) []).W <= t.W + 2000 := by
   (try (rw [W_eq (Tr.mk _ _ _ _ _)]; simp only [Tr.data_mk, Tr.names_mk, Tr.kids_mk, wS_app, Ws_app, wS, Tr.Ws, List.length_append, List.length_cons, List.length_nil, W_none]))
   omega
 exact fin_rc (p + 1) (by first | exact lea_refl _ | simp [lea, leas, pth, tcs]) (by simp only [go_sem]) (by kernel_rfl) ⟨(Tr.mk t.dir t.mode t.data (t.names ++ [[122, 122, 122]]) []), hWx, rfl, by omega⟩
 try simp only [KF] at c24
 refine Rr (Cn1 (decide ((pk7 : Int) = 5)) [0, 4, 5, 38] [] (Ki /\ ·) ⟨rfl, fun hc27 c27 => ?_, fun hc27 c27 => ?_⟩)
 try simp only [KF] at c27
 refine Rb (fun h => Bn (Jn (hK5 h))) (Bc0 2 [(103, .ptr 0 0)] 23 [.ptr 0 0, .int .i64 2] 104 (RC.use (pick_ok b (p + 1) 2 (by omega) (by omega) (by omega) (by omega)) (by kernel_rfl) fun r p1 hr => ?_)); obtain ⟨pk28, hpk28, rfl, rfl⟩ := hr
 refine Ke (Av1 1 105 [] (congrArg (AV.int .i64) (wnn 24 pk28 (by omega))) (Ki /\ ·) ⟨rfl, Bc0 1 [] 31 [.str [100], .int .i64 ((24 + pk28 : Nat) : Int)] 106 (PC.use (l1Many_ok [100] (24 + pk28) (by first | omega | decide) (by first | omega | (simp only [List.length_cons, List.length_nil]; omega)) (by omega)) fun r hr => ?_)⟩); obtain ⟨mt29, rfl, hmt29⟩ := hr; simp only [List.length_cons, List.length_nil] at hmt29
 refine Ke (Fn3 [4, 5] [] [(16, [.bool t.dir, .int .i64 t.mode, .str mt29, .osl 12 1 0 t.names.length, .nils]), (12, fl sc t.names), (8, zt), (4, tcs t), (0, rdc b (p + 1 + 1))] 20 (((1 : Nat) ≠ 0) /\ (true = true /\ 1 = 1 /\ 2 + 1 <= 5) /\ ·) ⟨(by decide), (by decide), Rr (Fn3 [4] [] [(16, [.bool t.dir, .int .i64 t.mode, .str mt29, .osl 12 1 0 t.names.length, .nils]), (12, fl sc t.names), (8, [.bool t.dir, .int .i64 t.mode, .str mt29, .osl 12 1 0 t.names.length, .nils]), (4, tcs t), (0, rdc b (p + 1 + 1))] 20 ((0 + 5 <= 5 /\ 0 < 5) /\ (true = true /\ 5 = 5 /\ 0 + 5 <= 5) /\ ·) ⟨(by decide), (by decide), FzS 12 t.names [(4, .ptr 8 0)] [(8, [.bool t.dir, .int .i64 t.mode, .str mt29, .osl 12 1 0 t.names.length, .nils]), (0, rdc b (p + 1 + 1))] [true, true] ?_⟩)⟩)
 refine Rt1 ((0 + 5 <= 5 /\ 0 < 5) /\ ·) (.agg [.bool t.dir, .int .i64 t.mode, .str mt29, pth t.names, .nils]) ⟨(by decide), ?_⟩
 have hWx : (Tr.mk t.dir t.mode mt29 t.names []).W <= t.W + 2000 := by
   (try (rw [W_eq (Tr.mk _ _ _ _ _)]; simp only [Tr.data_mk, Tr.names_mk, Tr.kids_mk, wS_app, Ws_app, wS, Tr.Ws, List.length_append, List.length_cons, List.length_nil, W_none]))
   omega
 exact fin_rc (p + 1 + 1) (by first | exact lea_refl _ | simp [lea, leas, pth, tcs]) (by simp only [go_sem]) (by kernel_rfl) ⟨(Tr.mk t.dir t.mode mt29 t.names []), hWx, rfl, by omega⟩
 try simp only [KF] at c27
 refine Rr (Cn1 (decide ((pk7 : Int) = 6)) [0, 4, 5] [] (Ki /\ ·) ⟨rfl, fun hc32 c32 => ?_, fun hc32 c32 => ?_⟩)
 try simp only [KF] at c32
 refine Rr (Fn0 [0, 4, 5] [(7, .int .i64 0)] (Bl (FzS 12 t.names [(0, .ptr 0 0), (4, .ptr 8 0), (5, .ptr 16 0), (7, .int .i64 0)] [(16, [.bool t.dir, .int .i64 t.mode, .str t.data, .osl 12 1 0 t.names.length, .nils]), (8, zt), (0, rdc b (p + 1))] [true, true, true] (Hn [(16, [.bool t.dir, .int .i64 t.mode, .str t.data, pth t.names, .nils]), (8, zt), (0, rdc b (p + 1))] ?_))))
 refine h_lo (H' := [(16, tcs (Tr.mk t.dir t.mode t.data t.names [])), (8, zt), (0, rdc b (p + 1))]) ⟨⟨rfl, (by simp [lea, leas, pth, tcs, clc])⟩, ⟨rfl, leas_refl _⟩, ⟨rfl, leas_refl _⟩, trivial⟩ ?_
 refine h_l (fun (z : Tr × Nat × Nat) => (match z with | (x, q, i) => ([(0, .ptr 0 0), (4, .ptr 8 0), (5, .ptr 16 0), (7, .int .i64 i)] : Fr))) (fun (z : Tr × Nat × Nat) => (match z with | (x, q, i) => ([(16, tcs x), (8, zt), (0, rdc b q)] : Hp))) (fun (z : Tr × Nat × Nat) cn => (match z with | (x, q, i) => (x.W <= t.W + 3 * i /\ q <= p + 2 * t.W + 10 + i /\ i <= 6) /\ cn = 20)) (fun (z : Tr × Nat × Nat) => 7 - z.2.2) ((Tr.mk t.dir t.mode t.data t.names []), p + 1, 0) (by kernel_rfl) ?_ ?_ ?_ ?_
 refine ⟨?_, rfl⟩; exact ⟨by rw [W_eq]; simp only [Tr.data_mk, Tr.names_mk, Tr.kids_mk, Tr.Ws]; omega, by omega, by omega⟩
 exact ⟨by kernel_rfl, by kernel_rfl, by kernel_rfl, by kernel_rfl, trivial⟩
 exact (sub_c (by kernel_rfl) (sub_c (by kernel_rfl) (sub_c (by kernel_rfl) (List.nil_sublist _))))
 rintro ⟨x, q, i⟩ n1 hI
 (try dsimp only at hI)
 obtain ⟨⟨hi1, hi2, hi3⟩, rfl⟩ := hI
 refine Sq fun K34 hK34 => ?_
 refine Rr (Bc0 3 [(111, .ptr 0 0), (110, .int .i64 i)] 23 [.ptr 0 0, .int .i64 2] 112 (RC.use (pick_ok b q 2 (by omega) (by omega) (by omega) (by omega)) (by kernel_rfl) fun r p1 hr => ?_)); obtain ⟨pk36, hpk36, rfl, rfl⟩ := hr
 refine Ke (Av1 1 113 [] (congrArg (AV.int .i64) (wnn 4 pk36 (by omega))) (Ki /\ ·) ⟨rfl, Cn1 (decide ((i : Int) < ((4 + pk36 : Nat) : Int))) [0, 4, 5, 7] [] (Ki /\ ·) ⟨rfl, fun hc37 c37 => ?_, fun hc37 c37 => ?_⟩⟩)
 try simp only [KF] at c37
 refine Sk (Jn (hK34 (Kp [0, 4, 5, 7] (Sq fun K38 hK38 => ?_))))
 refine Bl (Rb (fun h => Bn (Jn (hK38 h))) (Fn3 [0, 4, 5, 7] [] [(24, tcs x), (20, [.str [110]]), (16, [.bool true, .int .i64 0, .str [], .osl 20 1 0 1, .osl 24 5 0 1]), (8, zt), (0, rdc b (q + 1))] 28 ((1 * 1 <= 16777216) /\ (0 + 5 <= 5 /\ 0 < 5) /\ (1 * 5 <= 16777216) /\ (true = true /\ 5 = 5 /\ 0 + 5 <= 5) /\ ·) ⟨(by decide), (by decide), (by decide), (by decide), h_k [0, 4, 5, 7] (F' := [(0, .ptr 0 0), (4, .ptr 8 0), (5, .ptr 16 0), (7, .int .i64 i)]) (by kernel_rfl) (h_st (F' := [(0, .ptr 0 0), (4, .ptr 8 0), (5, .ptr 16 0), (7, .int .i64 i)]) (H' := [(24, fl trc [x]), (20, [.str [110]]), (16, [.bool true, .int .i64 0, .str [], .osl 20 1 0 1, .osl 24 5 0 ([x].length)]), (8, zt), (0, rdc b (q + 1))]) rfl (by rw [fl_one, trc_eq]; rfl) ?_)⟩))
 refine FzT 24 [x] [(0, .ptr 0 0), (4, .ptr 8 0), (5, .ptr 16 0), (7, .int .i64 i)] [(20, [.str [110]]), (16, [.bool true, .int .i64 0, .str [], .osl 20 1 0 1, .osl 24 5 0 ([x].length)]), (8, zt), (0, rdc b (q + 1))] [true, true, true, true] (Fz 20 1 1 ([[.str [110]]]) ([.str [110]]) [(0, .ptr 0 0), (4, .ptr 8 0), (5, .ptr 16 0), (7, .int .i64 i)] [(16, [.bool true, .int .i64 0, .str [], .osl 20 1 0 1, .sl 5 ([x].map trc)]), (8, zt), (0, rdc b (q + 1))] [true, true, true] (by kernel_rfl) (by first | decide | simp) (Hn [(16, [.bool true, .int .i64 0, .str [], pth [[110]], .sl 5 ([x].map trc)]), (8, zt), (0, rdc b (q + 1))] (h_lo (H' := [(16, tcs (Tr.mk true 0 [] [[110]] [x])), (8, zt), (0, rdc b (q + 1))]) ⟨⟨rfl, (by simp [lea, leas, pth, tcs, clc])⟩, ⟨rfl, leas_refl _⟩, ⟨rfl, leas_refl _⟩, trivial⟩ (Rn ?_))))
 refine Av1 2 116 [(115, .int .i64 i)] (congrArg (AV.int .i64) (wn1 i (by omega))) (Ki /\ ·) ⟨rfl, Gn0 [(7, .int .i64 ((i + 1 : Nat) : Int))] (nk_n (Lr ((Tr.mk true 0 [] [[110]] [x]), q + 1, i + 1) [(0, 0), (8, 8), (16, 16)] 20 [(0, .ptr 0 0), (4, .ptr 8 0), (5, .ptr 16 0), (7, .int .i64 ((i + 1 : Nat) : Int))] [(16, tcs (Tr.mk true 0 [] [[110]] [x])), (8, zt), (0, rdc b (q + 1))] [true, true, true] ?_ ?_ (by kernel_rfl) (by kernel_rfl)))⟩
 (try dsimp only); omega
 refine ⟨?_, rfl⟩; (try dsimp only); exact ⟨by rw [W_eq (Tr.mk _ _ _ _ _)]; simp only [Tr.data_mk, Tr.names_mk, Tr.kids_mk, Tr.Ws, wS, List.length_cons, List.length_nil]; omega, by omega, by omega⟩
 try simp only [KF] at c37
 refine Xt (Jx (Lx (Bh (Bn (Jn (hK5 (Kp [4, 5] (Rr (Fn3 [4] [] [(16, tcs x), (8, tcs x), (0, rdc b (q + 1))] 20 ((0 + 5 <= 5 /\ 0 < 5) /\ (true = true /\ 5 = 5 /\ 0 + 5 <= 5) /\ ·) ⟨(by decide), (by decide), Rt1 ((0 + 5 <= 5 /\ 0 < 5) /\ ·) (.agg (tcs x)) ⟨(by decide), ?_⟩⟩)))))))))
 have hWx : x.W <= t.W + 2000 := by
   (try (rw [W_eq (Tr.mk _ _ _ _ _)]; simp only [Tr.data_mk, Tr.names_mk, Tr.kids_mk, wS_app, Ws_app, wS, Tr.Ws, List.length_append, List.length_cons, List.length_nil, W_none]))
   omega
 exact fin_rc (q + 1) (by first | exact lea_refl _ | simp [lea, leas, pth, tcs]) (by simp only [go_sem]) (by kernel_rfl) ⟨x, hWx, rfl, by omega⟩
 try simp only [KF] at c32
 refine Rr (Fn0 [4, 5] [(8, .int .i64 0)] (Bl (h_l (fun (z : List Str × List Tr × Nat × Option Unit) => (match z with | (ns, ks, i, none) => ([(4, .ptr 8 0), (5, .ptr 16 0), (8, .int .i64 i)] : Fr) | (ns, ks, i, some ()) => ([(4, .ptr 8 0), (5, .ptr 16 0), (8, .int .i64 i)] : Fr))) (fun (z : List Str × List Tr × Nat × Option Unit) => (match z with | (ns, ks, i, none) => ([(16, [.bool t.dir, .int .i64 t.mode, .str t.data, .osl 12 1 0 ns.length, .nils]), (12, fl sc ns), (8, zt), (4, tcs t), (0, rdc b (p + 1))] : Hp) | (ns, ks, i, some ()) => ([(20, fl trc ks), (16, [.bool t.dir, .int .i64 t.mode, .str t.data, .osl 12 1 0 ns.length, .osl 20 5 0 ks.length]), (12, fl sc ns), (8, zt), (4, tcs t), (0, rdc b (p + 1))] : Hp))) (fun (z : List Str × List Tr × Nat × Option Unit) cn => (match z with | (ns, ks, i, none) => (ns = t.names /\ ks = [] /\ i = 0 /\ t.kids = []) /\ cn = 20 | (ns, ks, i, some ()) => (wS ns <= wS t.names + 30 * i /\ Tr.Ws ks <= Tr.Ws t.kids + i /\ i <= 30 /\ ks.length <= t.kids.length + i /\ ns.length <= t.names.length + i) /\ cn = 24)) (fun (z : List Str × List Tr × Nat × Option Unit) => 31 - z.2.2.1) (t.names, [], 0, none) (by kernel_rfl) ?_ ?_ ?_ ?_)))
 refine ⟨?_, rfl⟩; first | exact ⟨rfl, rfl, rfl, hk⟩ | exact ⟨by omega, by omega, by omega, by omega, by omega⟩
 exact ⟨by kernel_rfl, by kernel_rfl, by kernel_rfl, trivial⟩
 exact (sub_c (by kernel_rfl) (sub_c (by kernel_rfl) (sub_c (by kernel_rfl) (sub_c (by kernel_rfl) (sub_c (by kernel_rfl) (List.nil_sublist _))))))
 rintro ⟨ns, ks, i, _ | ⟨⟩⟩ n1 hI
 (try dsimp only at hI)
 obtain ⟨⟨e1, e2, e3, hk0⟩, rfl⟩ := hI
 dsimp only
 have e1w : wS ns = wS t.names := by rw [e1]
 have e1l : ns.length = t.names.length := by rw [e1]
 have e2l : ks.length = 0 := by rw [e2]; rfl
 have e2w : Tr.Ws ks = 0 := by rw [e2]; simp [Tr.Ws]
 have e2t : Tr.Ws t.kids = 0 := by rw [hk0]; simp [Tr.Ws]
 have e3t : t.kids.length = 0 := by rw [hk0]; rfl
 refine Sq fun K41 hK41 => ?_
 refine Rr (Cn1 (decide ((i : Int) < 30)) [4, 5, 8] [] (Ki /\ ·) ⟨rfl, fun hc43 c43 => ?_, fun hc43 c43 => ?_⟩)
 try simp only [KF] at c43
 refine Sk (Jn (hK41 (Kp [4, 5, 8] (Sq fun K44 hK44 => ?_))))
 refine Bl (Qr [0, 1, 0, 4, 12, 28, 60, 127, 255, 511] [(0, []), (1, []), (2, []), (3, []), (4, [1]), (5, []), (6, [1]), (7, []), (8, []), (9, [])] (qAv1 4 46 [(45, .int .i64 i), (44, .osl 12 1 0 ns.length), (43, .ptr 16 3)] (congrArg (AV.int .i64) (wnn 100 i (by omega))) (((1 : Nat) ≠ 0) /\ (3 + 1 <= 5 /\ 3 < 5) /\ Ki /\ ·) ⟨(by decide), (by decide), rfl, qBc0 1 [] [1] 47 [.int .i64 ((100 + i : Nat) : Int)] 47 ?_⟩))
 have hl46 := dec_len ((100 + i : Nat) : Int) (by omega) (by omega)
 refine PE.use (l1Dec_ok _ ((100 + i : Nat) : Int) rfl (by omega) (by omega)) ?_
 refine Kq (p := (((3 + 1 <= 5 /\ 3 < 5) /\ (AV.osl 12 1 0 ns.length = (.osl 12 1 0 ns.length : AV))) /\ True)) ⟨⟨(by decide), rfl⟩, trivial⟩ ?_
 refine qAn3 3 [(50, .osl 24 1 0 (ns.length + 1)), (49, .osl 20 1 0 1), (48, .str ([122, 122] ++ (dec ((100 + i : Nat) : Int))))] [(24, apd (fl sc ns) (ns.length * 1) [.str ([122, 122] ++ (dec ((100 + i : Nat) : Int)))]), (20, [.str ([122, 122] ++ (dec ((100 + i : Nat) : Int)))]), (16, [.bool t.dir, .int .i64 t.mode, .str t.data, .osl 12 1 0 ns.length, .nils]), (8, zt), (4, tcs t), (0, rdc b (p + 1))] 28 (([122, 122].length + (dec ((100 + i : Nat) : Int)).length <= 9223372036854775807) /\ (1 * 1 <= 16777216) /\ (((3 + 1 <= 5 /\ 3 < 5) /\ (AV.osl 12 1 0 ns.length = (.osl 12 1 0 ns.length : AV))) /\ True) /\ (0 + 1 * 1 <= 1) /\ (1 = 1 /\ ns.length * 1 <= (fl sc ns).length /\ 0 < 16 /\ (ns.length + 1) * 16 <= 140737488355328) /\ (True) /\ ·) ⟨(by simp only [List.length_cons, List.length_nil]; omega), (by decide), ⟨⟨(by decide), rfl⟩, trivial⟩, (by decide), ⟨rfl, by (first | omega | (simp only [LL]; omega)), by decide, by (first | omega | (simp only [LL]; omega))⟩, trivial, runq_v (v' := .osl 24 1 0 ((ns ++ [[122, 122] ++ (dec ((100 + i : Nat) : Int))]).length)) (push_len _ _ _ _) (runq_h (cs' := fl sc (ns ++ [[122, 122] ++ (dec ((100 + i : Nat) : Int))])) (push_str ns ([122, 122] ++ (dec ((100 + i : Nat) : Int)))) (qFn3 [4, 5, 8] [] [(24, fl sc (ns ++ [[122, 122] ++ (dec ((100 + i : Nat) : Int))])), (20, [.str ([122, 122] ++ (dec ((100 + i : Nat) : Int)))]), (16, [.bool t.dir, .int .i64 t.mode, .str t.data, .osl 24 1 0 ((ns ++ [[122, 122] ++ (dec ((100 + i : Nat) : Int))]).length), .nils]), (8, zt), (4, tcs t), (0, rdc b (p + 1))] 28 (((1 : Nat) ≠ 0) /\ (true = true /\ 1 = 1 /\ 3 + 1 <= 5) /\ (True) /\ ·) ⟨(by decide), (by decide), trivial, Rb (fun h => Bn (Jn (hK44 h))) ?_⟩))⟩
 refine Fn3 [4, 5, 8] [] [(32, zt), (28, zt), (24, fl sc (ns ++ [[122, 122] ++ (dec ((100 + i : Nat) : Int))])), (20, [.str ([122, 122] ++ (dec ((100 + i : Nat) : Int)))]), (16, [.bool t.dir, .int .i64 t.mode, .str t.data, .osl 24 1 0 ((ns ++ [[122, 122] ++ (dec ((100 + i : Nat) : Int))]).length), .osl 32 5 0 1]), (8, zt), (4, tcs t), (0, rdc b (p + 1))] 36 (((1 : Nat) ≠ 0) /\ (4 + 1 <= 5 /\ 4 < 5) /\ (1 * 5 <= 16777216) /\ (0 + 1 * 5 <= 5) /\ (0 < 1 /\ 0 < 80 /\ 1 * 80 <= 140737488355328) /\ ((1 : Nat) ≠ 0) /\ (true = true /\ 1 = 1 /\ 4 + 1 <= 5) /\ ·) ⟨(by decide), (by decide), (by decide), (by decide), (by decide), (by decide), (by decide), h_lo (H' := [(32, fl trc [Tr.none]), (28, zt), (24, fl sc (ns ++ [[122, 122] ++ (dec ((100 + i : Nat) : Int))])), (20, [.str ([122, 122] ++ (dec ((100 + i : Nat) : Int)))]), (16, [.bool t.dir, .int .i64 t.mode, .str t.data, .osl 24 1 0 ((ns ++ [[122, 122] ++ (dec ((100 + i : Nat) : Int))]).length), .osl 32 5 0 1]), (8, zt), (4, tcs t), (0, rdc b (p + 1))]) ⟨⟨rfl, (by rw [fl_one, trc_none]; simp [leas, lea])⟩, ⟨rfl, leas_refl _⟩, ⟨rfl, leas_refl _⟩, ⟨rfl, leas_refl _⟩, ⟨rfl, leas_refl _⟩, ⟨rfl, leas_refl _⟩, ⟨rfl, leas_refl _⟩, ⟨rfl, leas_refl _⟩, trivial⟩ (h_k [4, 5, 8] (F' := [(4, .ptr 8 0), (5, .ptr 16 0), (8, .int .i64 i)]) (by kernel_rfl) (h_st (F' := [(4, .ptr 8 0), (5, .ptr 16 0), (8, .int .i64 i)]) (H' := [(32, fl trc [Tr.none]), (28, zt), (24, fl sc (ns ++ [[122, 122] ++ (dec ((100 + i : Nat) : Int))])), (20, [.str ([122, 122] ++ (dec ((100 + i : Nat) : Int)))]), (16, [.bool t.dir, .int .i64 t.mode, .str t.data, .osl 24 1 0 ((ns ++ [[122, 122] ++ (dec ((100 + i : Nat) : Int))]).length), .osl 32 5 0 (([Tr.none]).length)]), (8, zt), (4, tcs t), (0, rdc b (p + 1))]) rfl (by simp only [List.length_append, List.length_cons, List.length_nil]) (Rn ?_)))⟩
 refine Av1 2 42 [(41, .int .i64 i)] (congrArg (AV.int .i64) (wn1 i (by omega))) (Ki /\ ·) ⟨rfl, Gn0 [(8, .int .i64 ((i + 1 : Nat) : Int))] (nk_n (Lr (ns ++ [[122, 122] ++ (dec ((100 + i : Nat) : Int))], [Tr.none], i + 1, some ()) [(0, 0), (4, 4), (8, 8), (16, 16), (24, 12), (32, 20)] 24 [(4, .ptr 8 0), (5, .ptr 16 0), (8, .int .i64 ((i + 1 : Nat) : Int))] [(32, fl trc [Tr.none]), (16, [.bool t.dir, .int .i64 t.mode, .str t.data, .osl 24 1 0 ((ns ++ [[122, 122] ++ (dec ((100 + i : Nat) : Int))]).length), .osl 32 5 0 (([Tr.none]).length)]), (24, fl sc (ns ++ [[122, 122] ++ (dec ((100 + i : Nat) : Int))])), (8, zt), (4, tcs t), (0, rdc b (p + 1))] [false, true, false, true, true, true] ?_ ?_ (by kernel_rfl) (by kernel_rfl)))⟩
 (try dsimp only); omega
 refine ⟨?_, rfl⟩; (try dsimp only); refine ⟨?_, ?_, by omega, ?_, ?_⟩ <;> (try simp only [wS_app, Ws_app, wS, Tr.Ws, W_none, List.length_append, List.length_cons, List.length_nil]) <;> (try simp only [List.length_nil]) <;> omega
 try simp only [KF] at c43
 refine Xt (Jx (Lx (Bh (Bn (Jn (hK5 (Kp [4, 5] (Rr (Fn3 [4] [] [(16, [.bool t.dir, .int .i64 t.mode, .str t.data, .osl 12 1 0 ns.length, .nils]), (12, fl sc ns), (8, [.bool t.dir, .int .i64 t.mode, .str t.data, .osl 12 1 0 ns.length, .nils]), (4, tcs t), (0, rdc b (p + 1))] 20 ((0 + 5 <= 5 /\ 0 < 5) /\ (true = true /\ 5 = 5 /\ 0 + 5 <= 5) /\ ·) ⟨(by decide), (by decide), FzS 12 ns [(4, .ptr 8 0)] [(8, [.bool t.dir, .int .i64 t.mode, .str t.data, .osl 12 1 0 ns.length, .nils]), (0, rdc b (p + 1))] [true, true] (Rt1 ((0 + 5 <= 5 /\ 0 < 5) /\ ·) (.agg [.bool t.dir, .int .i64 t.mode, .str t.data, pth ns, .nils]) ⟨(by decide), ?_⟩)⟩)))))))))
 have hWx : (Tr.mk t.dir t.mode t.data ns []).W <= t.W + 2000 := by
   (try (rw [W_eq (Tr.mk _ _ _ _ _)]; simp only [Tr.data_mk, Tr.names_mk, Tr.kids_mk, wS_app, Ws_app, wS, Tr.Ws, List.length_append, List.length_cons, List.length_nil, W_none]))
   omega
 exact fin_rc (p + 1) (by first | exact lea_refl _ | simp [lea, leas, pth, tcs]) (by simp only [go_sem]) (by kernel_rfl) ⟨(Tr.mk t.dir t.mode t.data ns []), hWx, rfl, by omega⟩
 (try dsimp only at hI)
 obtain ⟨⟨hi1, hi2, hi3, hi4, hi5⟩, rfl⟩ := hI
 dsimp only
 refine Sq fun K48 hK48 => ?_
 refine Rr (Cn1 (decide ((i : Int) < 30)) [4, 5, 8] [] (Ki /\ ·) ⟨rfl, fun hc50 c50 => ?_, fun hc50 c50 => ?_⟩)
 try simp only [KF] at c50
 refine Sk (Jn (hK48 (Kp [4, 5, 8] (Sq fun K51 hK51 => ?_))))
 refine Bl (Qr [0, 1, 0, 4, 12, 28, 60, 127, 255, 511] [(0, []), (1, []), (2, []), (3, []), (4, [1]), (5, []), (6, [1]), (7, []), (8, []), (9, [])] (qAv1 4 46 [(45, .int .i64 i), (44, .osl 12 1 0 ns.length), (43, .ptr 16 3)] (congrArg (AV.int .i64) (wnn 100 i (by omega))) (((1 : Nat) ≠ 0) /\ (3 + 1 <= 5 /\ 3 < 5) /\ Ki /\ ·) ⟨(by decide), (by decide), rfl, qBc0 1 [] [1] 47 [.int .i64 ((100 + i : Nat) : Int)] 47 ?_⟩))
 have hl53 := dec_len ((100 + i : Nat) : Int) (by omega) (by omega)
 refine PE.use (l1Dec_ok _ ((100 + i : Nat) : Int) rfl (by omega) (by omega)) ?_
 refine Kq (p := (((3 + 1 <= 5 /\ 3 < 5) /\ (AV.osl 12 1 0 ns.length = (.osl 12 1 0 ns.length : AV))) /\ True)) ⟨⟨(by decide), rfl⟩, trivial⟩ ?_
 refine qAn3 3 [(50, .osl 28 1 0 (ns.length + 1)), (49, .osl 24 1 0 1), (48, .str ([122, 122] ++ (dec ((100 + i : Nat) : Int))))] [(28, apd (fl sc ns) (ns.length * 1) [.str ([122, 122] ++ (dec ((100 + i : Nat) : Int)))]), (24, [.str ([122, 122] ++ (dec ((100 + i : Nat) : Int)))]), (20, fl trc ks), (16, [.bool t.dir, .int .i64 t.mode, .str t.data, .osl 12 1 0 ns.length, .osl 20 5 0 ks.length]), (8, zt), (4, tcs t), (0, rdc b (p + 1))] 32 (([122, 122].length + (dec ((100 + i : Nat) : Int)).length <= 9223372036854775807) /\ (1 * 1 <= 16777216) /\ (((3 + 1 <= 5 /\ 3 < 5) /\ (AV.osl 12 1 0 ns.length = (.osl 12 1 0 ns.length : AV))) /\ True) /\ (0 + 1 * 1 <= 1) /\ (1 = 1 /\ ns.length * 1 <= (fl sc ns).length /\ 0 < 16 /\ (ns.length + 1) * 16 <= 140737488355328) /\ (True) /\ ·) ⟨(by simp only [List.length_cons, List.length_nil]; omega), (by decide), ⟨⟨(by decide), rfl⟩, trivial⟩, (by decide), ⟨rfl, by (first | omega | (simp only [LL]; omega)), by decide, by (first | omega | (simp only [LL]; omega))⟩, trivial, runq_v (v' := .osl 28 1 0 ((ns ++ [[122, 122] ++ (dec ((100 + i : Nat) : Int))]).length)) (push_len _ _ _ _) (runq_h (cs' := fl sc (ns ++ [[122, 122] ++ (dec ((100 + i : Nat) : Int))])) (push_str ns ([122, 122] ++ (dec ((100 + i : Nat) : Int)))) (qFn3 [4, 5, 8] [] [(28, fl sc (ns ++ [[122, 122] ++ (dec ((100 + i : Nat) : Int))])), (24, [.str ([122, 122] ++ (dec ((100 + i : Nat) : Int)))]), (20, fl trc ks), (16, [.bool t.dir, .int .i64 t.mode, .str t.data, .osl 28 1 0 ((ns ++ [[122, 122] ++ (dec ((100 + i : Nat) : Int))]).length), .osl 20 5 0 ks.length]), (8, zt), (4, tcs t), (0, rdc b (p + 1))] 32 (((1 : Nat) ≠ 0) /\ (true = true /\ 1 = 1 /\ 3 + 1 <= 5) /\ (True) /\ ·) ⟨(by decide), (by decide), trivial, Rb (fun h => Bn (Jn (hK51 h))) ?_⟩))⟩
 refine An3 5 [(56, .osl 36 5 0 (ks.length + 1)), (55, .osl 32 5 0 1), (54, .agg zt), (53, .osl 20 5 0 ks.length), (52, .ptr 16 4)] [(36, apd (fl trc ks) (ks.length * 5) (((zt : List AV).drop 0).take (1 * 5))), (32, zt), (28, fl sc (ns ++ [[122, 122] ++ (dec ((100 + i : Nat) : Int))])), (24, [.str ([122, 122] ++ (dec ((100 + i : Nat) : Int)))]), (16, [.bool t.dir, .int .i64 t.mode, .str t.data, .osl 28 1 0 ((ns ++ [[122, 122] ++ (dec ((100 + i : Nat) : Int))]).length), .osl 20 5 0 ks.length]), (8, zt), (4, tcs t), (0, rdc b (p + 1))] 40 (((1 : Nat) ≠ 0) /\ (4 + 1 <= 5 /\ 4 < 5) /\ (1 * 5 <= 16777216) /\ (0 + 1 * 5 <= (zt : List AV).length) /\ (5 = 5 /\ ks.length * 5 <= (fl trc ks).length /\ 0 < 80 /\ (ks.length + 1) * 80 <= 140737488355328) /\ ·) ⟨(by decide), (by decide), (by decide), (by decide), ⟨rfl, by (first | omega | (rw [flTl]; omega) | (simp only [flTl]; omega)), by decide, by (first | omega | (rw [flTl]; omega) | (simp only [flTl]; omega))⟩, run_H (H' := [(36, fl trc ks ++ [AV.bool false, AV.int .i64 0, AV.str [], AV.nils, AV.nils]), (32, zt), (28, fl sc (ns ++ [[122, 122] ++ (dec ((100 + i : Nat) : Int))])), (24, [.str ([122, 122] ++ (dec ((100 + i : Nat) : Int)))]), (16, [.bool t.dir, .int .i64 t.mode, .str t.data, .osl 28 1 0 ((ns ++ [[122, 122] ++ (dec ((100 + i : Nat) : Int))]).length), .osl 20 5 0 ks.length]), (8, zt), (4, tcs t), (0, rdc b (p + 1))]) (by rw [show apd (fl trc ks) (ks.length * 5) (((zt : List AV).drop 0).take (1 * 5)) = fl trc ks ++ [AV.bool false, AV.int .i64 0, AV.str [], AV.nils, AV.nils] from (by unfold apd; rw [flT0]; rfl)]) (Fn3 [4, 5, 8] [] [(36, fl trc ks ++ [AV.bool false, AV.int .i64 0, AV.str [], AV.nils, AV.nils]), (32, zt), (28, fl sc (ns ++ [[122, 122] ++ (dec ((100 + i : Nat) : Int))])), (24, [.str ([122, 122] ++ (dec ((100 + i : Nat) : Int)))]), (16, [.bool t.dir, .int .i64 t.mode, .str t.data, .osl 28 1 0 ((ns ++ [[122, 122] ++ (dec ((100 + i : Nat) : Int))]).length), .osl 36 5 0 (ks.length + 1)]), (8, zt), (4, tcs t), (0, rdc b (p + 1))] 40 (((1 : Nat) ≠ 0) /\ (true = true /\ 1 = 1 /\ 4 + 1 <= 5) /\ ·) ⟨(by decide), (by decide), h_lo (H' := [(36, fl trc (ks ++ [Tr.none])), (32, zt), (28, fl sc (ns ++ [[122, 122] ++ (dec ((100 + i : Nat) : Int))])), (24, [.str ([122, 122] ++ (dec ((100 + i : Nat) : Int)))]), (16, [.bool t.dir, .int .i64 t.mode, .str t.data, .osl 28 1 0 ((ns ++ [[122, 122] ++ (dec ((100 + i : Nat) : Int))]).length), .osl 36 5 0 (ks.length + 1)]), (8, zt), (4, tcs t), (0, rdc b (p + 1))]) ⟨⟨rfl, lea_zero ks⟩, ⟨rfl, leas_refl _⟩, ⟨rfl, leas_refl _⟩, ⟨rfl, leas_refl _⟩, ⟨rfl, leas_refl _⟩, ⟨rfl, leas_refl _⟩, ⟨rfl, leas_refl _⟩, ⟨rfl, leas_refl _⟩, trivial⟩ (h_k [4, 5, 8] (F' := [(4, .ptr 8 0), (5, .ptr 16 0), (8, .int .i64 i)]) (by kernel_rfl) ?_)⟩)⟩
 refine h_st (F' := [(4, .ptr 8 0), (5, .ptr 16 0), (8, .int .i64 i)]) (H' := [(36, fl trc (ks ++ [Tr.none])), (32, zt), (28, fl sc (ns ++ [[122, 122] ++ (dec ((100 + i : Nat) : Int))])), (24, [.str ([122, 122] ++ (dec ((100 + i : Nat) : Int)))]), (16, [.bool t.dir, .int .i64 t.mode, .str t.data, .osl 28 1 0 ((ns ++ [[122, 122] ++ (dec ((100 + i : Nat) : Int))]).length), .osl 36 5 0 ((ks ++ [Tr.none]).length)]), (8, zt), (4, tcs t), (0, rdc b (p + 1))]) rfl (by simp only [List.length_append, List.length_cons, List.length_nil]) ?_
 refine Rn (Av1 2 42 [(41, .int .i64 i)] (congrArg (AV.int .i64) (wn1 i (by omega))) (Ki /\ ·) ⟨rfl, Gn0 [(8, .int .i64 ((i + 1 : Nat) : Int))] (nk_n (Lr (ns ++ [[122, 122] ++ (dec ((100 + i : Nat) : Int))], ks ++ [Tr.none], i + 1, some ()) [(0, 0), (4, 4), (8, 8), (16, 16), (28, 12), (36, 20)] 24 [(4, .ptr 8 0), (5, .ptr 16 0), (8, .int .i64 ((i + 1 : Nat) : Int))] [(36, fl trc (ks ++ [Tr.none])), (16, [.bool t.dir, .int .i64 t.mode, .str t.data, .osl 28 1 0 ((ns ++ [[122, 122] ++ (dec ((100 + i : Nat) : Int))]).length), .osl 36 5 0 ((ks ++ [Tr.none]).length)]), (28, fl sc (ns ++ [[122, 122] ++ (dec ((100 + i : Nat) : Int))])), (8, zt), (4, tcs t), (0, rdc b (p + 1))] [false, true, false, true, true, true] ?_ ?_ (by kernel_rfl) (by kernel_rfl)))⟩)
 (try dsimp only); omega
 refine ⟨?_, rfl⟩; (try dsimp only); refine ⟨?_, ?_, by omega, ?_, ?_⟩ <;> (try simp only [wS_app, Ws_app, wS, Tr.Ws, W_none, List.length_append, List.length_cons, List.length_nil]) <;> (try simp only [List.length_nil]) <;> omega
 try simp only [KF] at c50
 refine Xt (Jx (Lx (Bh (Bn (Jn (hK5 (Kp [4, 5] (Rr (Fn3 [4] [] [(20, fl trc ks), (16, [.bool t.dir, .int .i64 t.mode, .str t.data, .osl 12 1 0 ns.length, .osl 20 5 0 ks.length]), (12, fl sc ns), (8, [.bool t.dir, .int .i64 t.mode, .str t.data, .osl 12 1 0 ns.length, .osl 20 5 0 ks.length]), (4, tcs t), (0, rdc b (p + 1))] 24 ((0 + 5 <= 5 /\ 0 < 5) /\ (true = true /\ 5 = 5 /\ 0 + 5 <= 5) /\ ·) ⟨(by decide), (by decide), FzT 20 ks [(4, .ptr 8 0)] [(12, fl sc ns), (8, [.bool t.dir, .int .i64 t.mode, .str t.data, .osl 12 1 0 ns.length, .osl 20 5 0 ks.length]), (0, rdc b (p + 1))] [false, true, true] (FzS 12 ns [(4, .ptr 8 0)] [(8, [.bool t.dir, .int .i64 t.mode, .str t.data, .osl 12 1 0 ns.length, .sl 5 (ks.map trc)]), (0, rdc b (p + 1))] [true, true] ?_)⟩)))))))))
 refine Rt1 ((0 + 5 <= 5 /\ 0 < 5) /\ ·) (.agg [.bool t.dir, .int .i64 t.mode, .str t.data, pth ns, .sl 5 (ks.map trc)]) ⟨(by decide), ?_⟩
 have hWx : (Tr.mk t.dir t.mode t.data ns ks).W <= t.W + 2000 := by
   (try (rw [W_eq (Tr.mk _ _ _ _ _)]; simp only [Tr.data_mk, Tr.names_mk, Tr.kids_mk, wS_app, Ws_app, wS, Tr.Ws, List.length_append, List.length_cons, List.length_nil, W_none]))
   omega
 exact fin_rc (p + 1) (by first | exact lea_refl _ | simp [lea, leas, pth, tcs]) (by simp only [go_sem]) (by kernel_rfl) ⟨(Tr.mk t.dir t.mode t.data ns ks), hWx, rfl, by omega⟩
 show KE _ _ _ (.agg _) _ _
 refine Ke (Fn3 [0, 4] [(5, .ptr 20 0)] [(20, [.bool t.dir, .int .i64 t.mode, .str t.data, .osl 12 1 0 t.names.length, .osl 16 5 0 t.kids.length]), (16, fl trc t.kids), (12, fl sc t.names), (8, zt), (4, tcs t), (0, rdc b p)] 24 ((true = true /\ 5 = 5 /\ 0 + 5 <= 5) /\ ·) ⟨(by decide), Sq fun K55 hK55 => ?_⟩)
 refine Rr (An1 5 [(15, .bool (decide ((0 : Int) < ((t.kids.length : Int) : Int)))), (14, .bool (decide ((0 : Int) < ((t.kids.length : Int) : Int)))), (13, .int .i64 t.kids.length), (12, .osl 16 5 0 t.kids.length), (11, .ptr 20 4)] (((1 : Nat) ≠ 0) /\ (4 + 1 <= 5 /\ 4 < 5) /\ Ki /\ ·) ⟨(by decide), (by decide), rfl, run_b (fun g57 => ?_) (fun g57 => ?_)⟩)
 have hg57 := g57
 try simp only [KF] at g57
 refine Bc0 2 [(16, .ptr 0 0)] 23 [.ptr 0 0, .int .i64 2] 17 ?_
 refine RC.use (pick_ok b p 2 (by omega) (by omega) (by omega) (by omega)) (by kernel_rfl) fun r p1 hr => ?_; obtain ⟨pk58, hpk58, rfl, rfl⟩ := hr
 refine Ke (Cn1 (decide ((pk58 : Int) = 0)) [0, 4, 5] [] (Ki /\ ·) ⟨rfl, fun hc59 c59 => ?_, fun hc59 c59 => ?_⟩)
 try simp only [KF] at c59
 refine Rr (Bc1 5 [(23, .int .i64 t.kids.length), (22, .osl 16 5 0 t.kids.length), (21, .ptr 20 4), (20, .ptr 0 0)] 23 [.ptr 0 0, .int .i64 t.kids.length] 24 (((1 : Nat) ≠ 0) /\ (4 + 1 <= 5 /\ 4 < 5) /\ ·) ⟨(by decide), (by decide), RC.use (pick_ok b (p + 1) t.kids.length (by omega) (by omega) (by omega) (by omega)) (by kernel_rfl) fun r p1 hr => ?_⟩); obtain ⟨pk61, hpk61, rfl, rfl⟩ := hr
 refine Ke (Fn0 [0, 4, 5] [(6, .int .i64 pk61)] (Qr [0, 1, 0, 0, 0, 16, 0, 112, 240, 504, 1023, 2047] [(0, []), (1, []), (2, []), (3, []), (4, []), (5, []), (6, []), (7, []), (8, []), (9, [1]), (10, []), (11, [])] (qAv1 (r := .agg (((fl trc t.kids).drop (0 + pk61 * 5)).take 5)) (v := .agg (tcs (t.kids.getD pk61 default))) 9 33 [(32, .ptr 16 (0 + pk61 * 5)), (31, .int .i64 pk61), (30, .osl 16 5 0 t.kids.length), (29, .ptr 20 4), (28, .ptr 0 0), (27, .int .i64 pk61), (26, .osl 16 5 0 t.kids.length), (25, .ptr 20 4)] (congrArg AV.agg (rowT_get t.kids pk61 (by omega))) (((1 : Nat) ≠ 0) /\ (4 + 1 <= 5 /\ 4 < 5) /\ ((1 : Nat) ≠ 0) /\ (4 + 1 <= 5 /\ 4 < 5) /\ (5 = 5 /\ (0 : Int) <= (pk61 : Int) /\ (pk61 : Int) < (t.kids.length : Int)) /\ (0 + pk61 * 5 + 5 <= (fl trc t.kids).length /\ 0 + pk61 * 5 < (fl trc t.kids).length) /\ ·) ⟨(by decide), (by decide), (by decide), (by decide), ⟨rfl, by omega, by omega⟩, ⟨by rw [flTl]; omega, by rw [flTl]; omega⟩, qBc0 1 [] [1] 24 [.ptr 0 0, .agg (tcs (t.kids.getD pk61 default))] 34 ?_⟩)))
 have hWk := Ws_get t.kids pk61 (by omega)
 refine RC.use (ih _ (by omega) (t.kids.getD pk61 default) b (p + 1 + 1) rfl (by omega) (by omega) (by omega)) (by kernel_rfl) fun r q1 hr => ?_; obtain ⟨x1, hx1, rfl, hq1⟩ := hr; have hWs := Ws_set t.kids pk61 x1 (by omega)
 refine Kq (p := (((4 + 1 <= 5 /\ 4 < 5) /\ (AV.osl 16 5 0 t.kids.length = (.osl 16 5 0 t.kids.length : AV))) /\ True)) ⟨⟨(by decide), rfl⟩, trivial⟩ ?_
 refine qAn3 2 [(35, .ptr 16 (0 + pk61 * 5))] [(20, [.bool t.dir, .int .i64 t.mode, .str t.data, .osl 12 1 0 t.names.length, .osl 16 5 0 t.kids.length]), (16, (fl trc t.kids).take (0 + pk61 * 5) ++ tcs x1 ++ (fl trc t.kids).drop (0 + pk61 * 5 + 5)), (12, fl sc t.names), (8, zt), (4, tcs t), (0, rdc b q1)] 24 ((5 = 5 /\ (0 : Int) <= (pk61 : Int) /\ (pk61 : Int) < (t.kids.length : Int)) /\ (true = true /\ 5 = 5 /\ 0 + pk61 * 5 + 5 <= (fl trc t.kids).length) /\ (True) /\ ·) ⟨⟨rfl, by omega, by omega⟩, ⟨rfl, rfl, (by (try simp only [flTl, flSl, ints_len]); omega)⟩, trivial, runq_H (H' := [(20, [.bool t.dir, .int .i64 t.mode, .str t.data, .osl 12 1 0 t.names.length, .osl 16 5 0 t.kids.length]), (16, fl trc (t.kids.set pk61 x1)), (12, fl sc t.names), (8, zt), (4, tcs t), (0, rdc b q1)]) (by rw [rowT_set t.kids pk61 x1 (by omega)]) (qFn0 [4, 5] [] (h_k [4, 5] (F' := [(4, .ptr 8 0), (5, .ptr 20 0)]) (by kernel_rfl) (h_st (F' := [(4, .ptr 8 0), (5, .ptr 20 0)]) (H' := [(20, [.bool t.dir, .int .i64 t.mode, .str t.data, .osl 12 1 0 t.names.length, .osl 16 5 0 ((t.kids.set pk61 x1).length)]), (16, fl trc (t.kids.set pk61 x1)), (12, fl sc t.names), (8, zt), (4, tcs t), (0, rdc b q1)]) rfl (by rw [List.length_set]) ?_)))⟩
 refine Rr (Fn3 [4] [] [(20, [.bool t.dir, .int .i64 t.mode, .str t.data, .osl 12 1 0 t.names.length, .osl 16 5 0 ((t.kids.set pk61 x1).length)]), (16, fl trc (t.kids.set pk61 x1)), (12, fl sc t.names), (8, [.bool t.dir, .int .i64 t.mode, .str t.data, .osl 12 1 0 t.names.length, .osl 16 5 0 ((t.kids.set pk61 x1).length)]), (4, tcs t), (0, rdc b q1)] 24 ((0 + 5 <= 5 /\ 0 < 5) /\ (true = true /\ 5 = 5 /\ 0 + 5 <= 5) /\ ·) ⟨(by decide), (by decide), FzT 16 (t.kids.set pk61 x1) [(4, .ptr 8 0)] [(12, fl sc t.names), (8, [.bool t.dir, .int .i64 t.mode, .str t.data, .osl 12 1 0 t.names.length, .osl 16 5 0 ((t.kids.set pk61 x1).length)]), (0, rdc b q1)] [false, true, true] (FzS 12 t.names [(4, .ptr 8 0)] [(8, [.bool t.dir, .int .i64 t.mode, .str t.data, .osl 12 1 0 t.names.length, .sl 5 ((t.kids.set pk61 x1).map trc)]), (0, rdc b q1)] [true, true] (Rt1 ((0 + 5 <= 5 /\ 0 < 5) /\ ·) (.agg [.bool t.dir, .int .i64 t.mode, .str t.data, pth t.names, .sl 5 ((t.kids.set pk61 x1).map trc)]) ⟨(by decide), ?_⟩))⟩)
 have hWx : (Tr.mk t.dir t.mode t.data t.names (t.kids.set pk61 x1)).W <= t.W + 2000 := by
   (try (rw [W_eq (Tr.mk _ _ _ _ _)]; simp only [Tr.data_mk, Tr.names_mk, Tr.kids_mk, wS_app, Ws_app, wS, Tr.Ws, List.length_append, List.length_cons, List.length_nil, W_none]))
   omega
 exact fin_rc q1 (by first | exact lea_refl _ | simp [lea, leas, pth, tcs]) (by simp only [go_sem]) (by kernel_rfl) ⟨(Tr.mk t.dir t.mode t.data t.names (t.kids.set pk61 x1)), hWx, rfl, by omega⟩
 try simp only [KF] at c59
 refine Sk (Jn (hK55 (Kp [0, 4, 5] (Sq fun K64 hK64 => ?_))))
 refine Rr (Bc0 2 [(37, .ptr 0 0)] 23 [.ptr 0 0, .int .i64 8] 38 (RC.use (pick_ok b (p + 1) 8 (by omega) (by omega) (by omega) (by omega)) (by kernel_rfl) fun r p1 hr => ?_)); obtain ⟨pk66, hpk66, rfl, rfl⟩ := hr
 refine Ke (Fn0 [0, 4, 5, 38] [] (Bl (Rr (Cn1 (decide ((pk66 : Int) = 0)) [0, 4, 5, 38] [] (Ki /\ ·) ⟨rfl, fun hc68 c68 => ?_, fun hc68 c68 => ?_⟩))))
 try simp only [KF] at c68
 refine Rb (fun h => Bn (Jn (hK64 h))) (Bc3 3 [(61, .ptr 0 0), (60, .osl 24 1 0 3)] 23 [.ptr 0 0, .int .i64 3] 62 [(24, [.int .i64 (-1), .int .i64 7, .int .i64 8]), (20, [.bool t.dir, .int .i64 t.mode, .str t.data, .osl 12 1 0 t.names.length, .osl 16 5 0 t.kids.length]), (16, fl trc t.kids), (12, fl sc t.names), (8, zt), (4, tcs t), (0, rdc b (p + 1 + 1))] 28 ((3 * 1 <= 16777216) /\ ·) ⟨(by decide), RC.use (pick_ok b (p + 1 + 1) 3 (by omega) (by omega) (by omega) (by omega)) (by kernel_rfl) fun r p1 hr => ?_⟩); obtain ⟨pk69, hpk69, rfl, rfl⟩ := hr
 refine Ke (Av1 (r := ([.int .i64 (-1), .int .i64 7, .int .i64 8].getD (0 + pk69 * 1) .dead : AV)) (v := .int .i64 (([-1, 7, 8] : List Int).getD pk69 0)) 2 64 [(63, .ptr 24 (0 + pk69 * 1))] (ints_get ([-1, 7, 8] : List Int) pk69 (by simp only [List.length_cons, List.length_nil]; omega)) ((1 = 1 /\ (0 : Int) <= (pk69 : Int) /\ (pk69 : Int) < (3 : Int)) /\ (0 + pk69 * 1 + 1 <= 3 /\ 0 + pk69 * 1 < 3) /\ ·) ⟨⟨rfl, by omega, by omega⟩, ⟨by omega, by omega⟩, Fn3 [4, 5] [] [(24, [.int .i64 (-1), .int .i64 7, .int .i64 8]), (20, [.bool t.dir, .int .i64 (([-1, 7, 8] : List Int).getD pk69 0), .str t.data, .osl 12 1 0 t.names.length, .osl 16 5 0 t.kids.length]), (16, fl trc t.kids), (12, fl sc t.names), (8, zt), (4, tcs t), (0, rdc b (p + 1 + 1 + 1))] 28 (((1 : Nat) ≠ 0) /\ (true = true /\ 1 = 1 /\ 1 + 1 <= 5) /\ ·) ⟨(by decide), (by decide), Rr (Fn3 [4] [] [(24, [.int .i64 (-1), .int .i64 7, .int .i64 8]), (20, [.bool t.dir, .int .i64 (([-1, 7, 8] : List Int).getD pk69 0), .str t.data, .osl 12 1 0 t.names.length, .osl 16 5 0 t.kids.length]), (16, fl trc t.kids), (12, fl sc t.names), (8, [.bool t.dir, .int .i64 (([-1, 7, 8] : List Int).getD pk69 0), .str t.data, .osl 12 1 0 t.names.length, .osl 16 5 0 t.kids.length]), (4, tcs t), (0, rdc b (p + 1 + 1 + 1))] 28 ((0 + 5 <= 5 /\ 0 < 5) /\ (true = true /\ 5 = 5 /\ 0 + 5 <= 5) /\ ·) ⟨(by decide), (by decide), ?_⟩)⟩⟩)
 refine FzT 16 t.kids [(4, .ptr 8 0)] [(12, fl sc t.names), (8, [.bool t.dir, .int .i64 (([-1, 7, 8] : List Int).getD pk69 0), .str t.data, .osl 12 1 0 t.names.length, .osl 16 5 0 t.kids.length]), (0, rdc b (p + 1 + 1 + 1))] [false, true, true] (FzS 12 t.names [(4, .ptr 8 0)] [(8, [.bool t.dir, .int .i64 (([-1, 7, 8] : List Int).getD pk69 0), .str t.data, .osl 12 1 0 t.names.length, .sl 5 (t.kids.map trc)]), (0, rdc b (p + 1 + 1 + 1))] [true, true] (Rt1 ((0 + 5 <= 5 /\ 0 < 5) /\ ·) (.agg [.bool t.dir, .int .i64 (([-1, 7, 8] : List Int).getD pk69 0), .str t.data, pth t.names, .sl 5 (t.kids.map trc)]) ⟨(by decide), ?_⟩))
 have hWx : (Tr.mk t.dir (([-1, 7, 8] : List Int).getD pk69 0) t.data t.names t.kids).W <= t.W + 2000 := by
   (try (rw [W_eq (Tr.mk _ _ _ _ _)]; simp only [Tr.data_mk, Tr.names_mk, Tr.kids_mk, wS_app, Ws_app, wS, Tr.Ws, List.length_append, List.length_cons, List.length_nil, W_none]))
   omega
 exact fin_rc (p + 1 + 1 + 1) (by first | exact lea_refl _ | simp [lea, leas, pth, tcs]) (by simp only [go_sem]) (by kernel_rfl) ⟨(Tr.mk t.dir (([-1, 7, 8] : List Int).getD pk69 0) t.data t.names t.kids), hWx, rfl, by omega⟩
 try simp only [KF] at c68
 refine Rr (Cn1 (decide ((pk66 : Int) = 1)) [0, 4, 5, 38] [] (Ki /\ ·) ⟨rfl, fun hc72 c72 => ?_, fun hc72 c72 => ?_⟩)
 try simp only [KF] at c72
 refine Rb (fun h => Bn (Jn (hK64 h))) (Fn3 [4, 5] [] [(20, [.bool (!t.dir), .int .i64 t.mode, .str t.data, .osl 12 1 0 t.names.length, .osl 16 5 0 t.kids.length]), (16, fl trc t.kids), (12, fl sc t.names), (8, zt), (4, tcs t), (0, rdc b (p + 1 + 1))] 24 (((1 : Nat) ≠ 0) /\ (0 + 1 <= 5 /\ 0 < 5) /\ ((1 : Nat) ≠ 0) /\ (true = true /\ 1 = 1 /\ 0 + 1 <= 5) /\ ·) ⟨(by decide), (by decide), (by decide), (by decide), Rr (Fn3 [4] [] [(20, [.bool (!t.dir), .int .i64 t.mode, .str t.data, .osl 12 1 0 t.names.length, .osl 16 5 0 t.kids.length]), (16, fl trc t.kids), (12, fl sc t.names), (8, [.bool (!t.dir), .int .i64 t.mode, .str t.data, .osl 12 1 0 t.names.length, .osl 16 5 0 t.kids.length]), (4, tcs t), (0, rdc b (p + 1 + 1))] 24 ((0 + 5 <= 5 /\ 0 < 5) /\ (true = true /\ 5 = 5 /\ 0 + 5 <= 5) /\ ·) ⟨(by decide), (by decide), FzT 16 t.kids [(4, .ptr 8 0)] [(12, fl sc t.names), (8, [.bool (!t.dir), .int .i64 t.mode, .str t.data, .osl 12 1 0 t.names.length, .osl 16 5 0 t.kids.length]), (0, rdc b (p + 1 + 1))] [false, true, true] ?_⟩)⟩)
 refine FzS 12 t.names [(4, .ptr 8 0)] [(8, [.bool (!t.dir), .int .i64 t.mode, .str t.data, .osl 12 1 0 t.names.length, .sl 5 (t.kids.map trc)]), (0, rdc b (p + 1 + 1))] [true, true] (Rt1 ((0 + 5 <= 5 /\ 0 < 5) /\ ·) (.agg [.bool (!t.dir), .int .i64 t.mode, .str t.data, pth t.names, .sl 5 (t.kids.map trc)]) ⟨(by decide), ?_⟩)
 have hWx : (Tr.mk (!t.dir) t.mode t.data t.names t.kids).W <= t.W + 2000 := by
   (try (rw [W_eq (Tr.mk _ _ _ _ _)]; simp only [Tr.data_mk, Tr.names_mk, Tr.kids_mk, wS_app, Ws_app, wS, Tr.Ws, List.length_append, List.length_cons, List.length_nil, W_none]))
   omega
 exact fin_rc (p + 1 + 1) (by first | exact lea_refl _ | simp [lea, leas, pth, tcs]) (by simp only [go_sem]) (by kernel_rfl) ⟨(Tr.mk (!t.dir) t.mode t.data t.names t.kids), hWx, rfl, by omega⟩
 try simp only [KF] at c72
 refine Rr (Cn1 (decide ((pk66 : Int) = 2)) [0, 4, 5, 38] [] (Ki /\ ·) ⟨rfl, fun hc75 c75 => ?_, fun hc75 c75 => ?_⟩)
 try simp only [KF] at c75
 refine Rb (fun h => Bn (Jn (hK64 h))) (Fn3 [4, 5] [] [(20, [.bool t.dir, .int .i64 t.mode, .str (t.data ++ [120]), .osl 12 1 0 t.names.length, .osl 16 5 0 t.kids.length]), (16, fl trc t.kids), (12, fl sc t.names), (8, zt), (4, tcs t), (0, rdc b (p + 1 + 1))] 24 (((1 : Nat) ≠ 0) /\ (2 + 1 <= 5 /\ 2 < 5) /\ (t.data.length + [120].length <= 9223372036854775807) /\ ((1 : Nat) ≠ 0) /\ (true = true /\ 1 = 1 /\ 2 + 1 <= 5) /\ ·) ⟨(by decide), (by decide), (by simp only [List.length_cons, List.length_nil]; omega), (by decide), (by decide), Rr (Fn3 [4] [] [(20, [.bool t.dir, .int .i64 t.mode, .str (t.data ++ [120]), .osl 12 1 0 t.names.length, .osl 16 5 0 t.kids.length]), (16, fl trc t.kids), (12, fl sc t.names), (8, [.bool t.dir, .int .i64 t.mode, .str (t.data ++ [120]), .osl 12 1 0 t.names.length, .osl 16 5 0 t.kids.length]), (4, tcs t), (0, rdc b (p + 1 + 1))] 24 ((0 + 5 <= 5 /\ 0 < 5) /\ (true = true /\ 5 = 5 /\ 0 + 5 <= 5) /\ ·) ⟨(by decide), (by decide), FzT 16 t.kids [(4, .ptr 8 0)] [(12, fl sc t.names), (8, [.bool t.dir, .int .i64 t.mode, .str (t.data ++ [120]), .osl 12 1 0 t.names.length, .osl 16 5 0 t.kids.length]), (0, rdc b (p + 1 + 1))] [false, true, true] ?_⟩)⟩)
 refine FzS 12 t.names [(4, .ptr 8 0)] [(8, [.bool t.dir, .int .i64 t.mode, .str (t.data ++ [120]), .osl 12 1 0 t.names.length, .sl 5 (t.kids.map trc)]), (0, rdc b (p + 1 + 1))] [true, true] (Rt1 ((0 + 5 <= 5 /\ 0 < 5) /\ ·) (.agg [.bool t.dir, .int .i64 t.mode, .str (t.data ++ [120]), pth t.names, .sl 5 (t.kids.map trc)]) ⟨(by decide), ?_⟩)
 have hWx : (Tr.mk t.dir t.mode (t.data ++ [120]) t.names t.kids).W <= t.W + 2000 := by
   (try (rw [W_eq (Tr.mk _ _ _ _ _)]; simp only [Tr.data_mk, Tr.names_mk, Tr.kids_mk, wS_app, Ws_app, wS, Tr.Ws, List.length_append, List.length_cons, List.length_nil, W_none]))
   omega
 exact fin_rc (p + 1 + 1) (by first | exact lea_refl _ | simp [lea, leas, pth, tcs]) (by simp only [go_sem]) (by kernel_rfl) ⟨(Tr.mk t.dir t.mode (t.data ++ [120]) t.names t.kids), hWx, rfl, by omega⟩
 try simp only [KF] at c75
 refine Rr (Cn1 (decide ((pk66 : Int) = 3)) [0, 4, 5, 38] [] (Ki /\ ·) ⟨rfl, fun hc78 c78 => ?_, fun hc78 c78 => ?_⟩)
 try simp only [KF] at c78
 refine Qr [0, 1, 0, 0, 12, 28, 63, 127, 255] [(0, []), (1, []), (2, []), (3, [1]), (4, [1]), (5, [1]), (6, []), (7, []), (8, [])] (qBc3 5 [(83, .osl 24 1 0 5), (82, .ptr 0 0), (81, .osl 12 1 0 t.names.length), (80, .ptr 20 3)] [1] 30 [.ptr 0 0, .osl 24 1 0 5] 84 [(24, [.str [122, 122], .str [], .str [97], .str [90], .str [116, 111, 111, 108, 111, 110, 103]]), (20, [.bool t.dir, .int .i64 t.mode, .str t.data, .osl 12 1 0 t.names.length, .osl 16 5 0 t.kids.length]), (16, fl trc t.kids), (12, fl sc t.names), (8, zt), (4, tcs t), (0, rdc b (p + 1 + 1))] 28 (((1 : Nat) ≠ 0) /\ (3 + 1 <= 5 /\ 3 < 5) /\ (5 * 1 <= 16777216) /\ (((3 + 1 <= 5 /\ 3 < 5) /\ (AV.osl 12 1 0 t.names.length = (.osl 12 1 0 t.names.length : AV))) /\ True) /\ ·) ⟨(by decide), (by decide), (by decide), ⟨⟨(by decide), rfl⟩, trivial⟩, Tz 24 1 5 ([[.str [122, 122]], [.str []], [.str [97]], [.str [90]], [.str [116, 111, 111, 108, 111, 110, 103]]]) ([.str [122, 122], .str [], .str [97], .str [90], .str [116, 111, 111, 108, 111, 110, 103]]) [.ptr 0 0, pth [[122, 122], [], [97], [90], [116, 111, 111, 108, 111, 110, 103]]] [(20, [.bool t.dir, .int .i64 t.mode, .str t.data, .osl 12 1 0 t.names.length, .osl 16 5 0 t.kids.length]), (16, fl trc t.kids), (12, fl sc t.names), (8, zt), (4, tcs t), (0, rdc b (p + 1 + 1))] [true, false, false, true, true, true] (by kernel_rfl) (by first | decide | simp) (RC.use (of_ok b (p + 1 + 1) [[122, 122], [], [97], [90], [116, 111, 111, 108, 111, 110, 103]] (by first | omega | decide | simp) (by first | omega | decide | simp) (by omega) (by omega)) (by kernel_rfl) fun r p1 hr => ?_)⟩); obtain ⟨os80, hos80, rfl, rfl⟩ := hr
 have hol : os80.length <= 7 := by
   have hq := hos80
   simp only [List.mem_cons, List.not_mem_nil, or_false] at hq
   rcases hq with h | h | h | h | h <;> rw [h] <;> decide
 refine Kq (p := (((3 + 1 <= 5 /\ 3 < 5) /\ (AV.osl 12 1 0 t.names.length = (.osl 12 1 0 t.names.length : AV))) /\ True)) ⟨⟨(by decide), rfl⟩, trivial⟩ ?_
 refine qAn3 2 [(86, .osl 32 1 0 (t.names.length + 1)), (85, .osl 28 1 0 1)] [(32, apd (fl sc t.names) (t.names.length * 1) [.str os80]), (28, [.str os80]), (20, [.bool t.dir, .int .i64 t.mode, .str t.data, .osl 12 1 0 t.names.length, .osl 16 5 0 t.kids.length]), (16, fl trc t.kids), (8, zt), (4, tcs t), (0, rdc b (p + 1 + 1 + 1))] 36 ((1 * 1 <= 16777216) /\ (((3 + 1 <= 5 /\ 3 < 5) /\ (AV.osl 12 1 0 t.names.length = (.osl 12 1 0 t.names.length : AV))) /\ True) /\ (0 + 1 * 1 <= 1) /\ (1 = 1 /\ t.names.length * 1 <= (fl sc t.names).length /\ 0 < 16 /\ (t.names.length + 1) * 16 <= 140737488355328) /\ (True) /\ ·) ⟨(by decide), ⟨⟨(by decide), rfl⟩, trivial⟩, (by decide), ⟨rfl, by (first | omega | (simp only [LL]; omega)), by decide, by (first | omega | (simp only [LL]; omega))⟩, trivial, runq_v (v' := .osl 32 1 0 ((t.names ++ [os80]).length)) (push_len _ _ _ _) (runq_h (cs' := fl sc (t.names ++ [os80])) (push_str t.names os80) (qFn3 [4, 5] [] [(32, fl sc (t.names ++ [os80])), (28, [.str os80]), (20, [.bool t.dir, .int .i64 t.mode, .str t.data, .osl 32 1 0 ((t.names ++ [os80]).length), .osl 16 5 0 t.kids.length]), (16, fl trc t.kids), (8, zt), (4, tcs t), (0, rdc b (p + 1 + 1 + 1))] 36 (((1 : Nat) ≠ 0) /\ (true = true /\ 1 = 1 /\ 3 + 1 <= 5) /\ (True) /\ ·) ⟨(by decide), (by decide), trivial, Rb (fun h => Bn (Jn (hK64 h))) ?_⟩))⟩
 refine An3 5 [(92, .osl 40 5 0 (t.kids.length + 1)), (91, .osl 36 5 0 1), (90, .agg zt), (89, .osl 16 5 0 t.kids.length), (88, .ptr 20 4)] [(40, apd (fl trc t.kids) (t.kids.length * 5) (((zt : List AV).drop 0).take (1 * 5))), (36, zt), (32, fl sc (t.names ++ [os80])), (28, [.str os80]), (20, [.bool t.dir, .int .i64 t.mode, .str t.data, .osl 32 1 0 ((t.names ++ [os80]).length), .osl 16 5 0 t.kids.length]), (8, zt), (4, tcs t), (0, rdc b (p + 1 + 1 + 1))] 44 (((1 : Nat) ≠ 0) /\ (4 + 1 <= 5 /\ 4 < 5) /\ (1 * 5 <= 16777216) /\ (0 + 1 * 5 <= (zt : List AV).length) /\ (5 = 5 /\ t.kids.length * 5 <= (fl trc t.kids).length /\ 0 < 80 /\ (t.kids.length + 1) * 80 <= 140737488355328) /\ ·) ⟨(by decide), (by decide), (by decide), (by decide), ⟨rfl, by (first | omega | (rw [flTl]; omega) | (simp only [flTl]; omega)), by decide, by (first | omega | (rw [flTl]; omega) | (simp only [flTl]; omega))⟩, run_H (H' := [(40, fl trc t.kids ++ [AV.bool false, AV.int .i64 0, AV.str [], AV.nils, AV.nils]), (36, zt), (32, fl sc (t.names ++ [os80])), (28, [.str os80]), (20, [.bool t.dir, .int .i64 t.mode, .str t.data, .osl 32 1 0 ((t.names ++ [os80]).length), .osl 16 5 0 t.kids.length]), (8, zt), (4, tcs t), (0, rdc b (p + 1 + 1 + 1))]) (by rw [show apd (fl trc t.kids) (t.kids.length * 5) (((zt : List AV).drop 0).take (1 * 5)) = fl trc t.kids ++ [AV.bool false, AV.int .i64 0, AV.str [], AV.nils, AV.nils] from (by unfold apd; rw [flT0]; rfl)]) (Fn3 [4, 5] [] [(40, fl trc t.kids ++ [AV.bool false, AV.int .i64 0, AV.str [], AV.nils, AV.nils]), (36, zt), (32, fl sc (t.names ++ [os80])), (28, [.str os80]), (20, [.bool t.dir, .int .i64 t.mode, .str t.data, .osl 32 1 0 ((t.names ++ [os80]).length), .osl 40 5 0 (t.kids.length + 1)]), (8, zt), (4, tcs t), (0, rdc b (p + 1 + 1 + 1))] 44 (((1 : Nat) ≠ 0) /\ (true = true /\ 1 = 1 /\ 4 + 1 <= 5) /\ ·) ⟨(by decide), (by decide), Hn [(40, fl trc t.kids ++ [AV.bool false, AV.int .i64 0, AV.str [], AV.nils, AV.nils]), (36, zt), (32, fl sc (t.names ++ [os80])), (28, [.str os80]), (20, [.bool t.dir, .int .i64 t.mode, .str t.data, .osl 32 1 0 ((t.names ++ [os80]).length), .osl 40 5 0 (t.kids.length + 1)]), (8, zt), (4, tcs t), (0, rdc b (p + 1 + 1 + 1))] (h_lo (H' := [(40, fl trc (t.kids ++ [Tr.none])), (36, zt), (32, fl sc (t.names ++ [os80])), (28, [.str os80]), (20, [.bool t.dir, .int .i64 t.mode, .str t.data, .osl 32 1 0 ((t.names ++ [os80]).length), .osl 40 5 0 (t.kids.length + 1)]), (8, zt), (4, tcs t), (0, rdc b (p + 1 + 1 + 1))]) ⟨⟨rfl, lea_zero t.kids⟩, ⟨rfl, leas_refl _⟩, ⟨rfl, leas_refl _⟩, ⟨rfl, leas_refl _⟩, ⟨rfl, leas_refl _⟩, ⟨rfl, leas_refl _⟩, ⟨rfl, leas_refl _⟩, ⟨rfl, leas_refl _⟩, trivial⟩ ?_)⟩)⟩
 refine h_k [4, 5] (F' := [(4, .ptr 8 0), (5, .ptr 20 0)]) (by kernel_rfl) ?_
 refine h_st (F' := [(4, .ptr 8 0), (5, .ptr 20 0)]) (H' := [(40, fl trc (t.kids ++ [Tr.none])), (36, zt), (32, fl sc (t.names ++ [os80])), (28, [.str os80]), (20, [.bool t.dir, .int .i64 t.mode, .str t.data, .osl 32 1 0 ((t.names ++ [os80]).length), .osl 40 5 0 ((t.kids ++ [Tr.none]).length)]), (8, zt), (4, tcs t), (0, rdc b (p + 1 + 1 + 1))]) rfl (by simp only [List.length_append, List.length_cons, List.length_nil]) ?_
 refine Rr (Fn3 [4] [] [(40, fl trc (t.kids ++ [Tr.none])), (36, zt), (32, fl sc (t.names ++ [os80])), (28, [.str os80]), (20, [.bool t.dir, .int .i64 t.mode, .str t.data, .osl 32 1 0 ((t.names ++ [os80]).length), .osl 40 5 0 ((t.kids ++ [Tr.none]).length)]), (8, [.bool t.dir, .int .i64 t.mode, .str t.data, .osl 32 1 0 ((t.names ++ [os80]).length), .osl 40 5 0 ((t.kids ++ [Tr.none]).length)]), (4, tcs t), (0, rdc b (p + 1 + 1 + 1))] 44 ((0 + 5 <= 5 /\ 0 < 5) /\ (true = true /\ 5 = 5 /\ 0 + 5 <= 5) /\ ·) ⟨(by decide), (by decide), FzT 40 (t.kids ++ [Tr.none]) [(4, .ptr 8 0)] [(32, fl sc (t.names ++ [os80])), (8, [.bool t.dir, .int .i64 t.mode, .str t.data, .osl 32 1 0 ((t.names ++ [os80]).length), .osl 40 5 0 ((t.kids ++ [Tr.none]).length)]), (0, rdc b (p + 1 + 1 + 1))] [false, true, true] (FzS 32 (t.names ++ [os80]) [(4, .ptr 8 0)] [(8, [.bool t.dir, .int .i64 t.mode, .str t.data, .osl 32 1 0 ((t.names ++ [os80]).length), .sl 5 ((t.kids ++ [Tr.none]).map trc)]), (0, rdc b (p + 1 + 1 + 1))] [true, true] (Rt1 ((0 + 5 <= 5 /\ 0 < 5) /\ ·) (.agg [.bool t.dir, .int .i64 t.mode, .str t.data, pth (t.names ++ [os80]), .sl 5 ((t.kids ++ [Tr.none]).map trc)]) ⟨(by decide), ?_⟩))⟩)
 have hWx : (Tr.mk t.dir t.mode t.data (t.names ++ [os80]) (t.kids ++ [Tr.none])).W <= t.W + 2000 := by
   (try (rw [W_eq (Tr.mk _ _ _ _ _)]; simp only [Tr.data_mk, Tr.names_mk, Tr.kids_mk, wS_app, Ws_app, wS, Tr.Ws, List.length_append, List.length_cons, List.length_nil, W_none]))
   omega
 exact fin_rc (p + 1 + 1 + 1) (by first | exact lea_refl _ | simp [lea, leas, pth, tcs]) (by simp only [go_sem]) (by kernel_rfl) ⟨(Tr.mk t.dir t.mode t.data (t.names ++ [os80]) (t.kids ++ [Tr.none])), hWx, rfl, by omega⟩
 try simp only [KF] at c78
 refine Rr (Cn1 (decide ((pk66 : Int) = 4)) [0, 4, 5, 38] [] (Ki /\ ·) ⟨rfl, fun hc83 c83 => ?_, fun hc83 c83 => ?_⟩)
 try simp only [KF] at c83
 refine Rb (fun h => Bn (Jn (hK64 h))) (An3 4 [(99, .osl 28 1 0 (t.names.length + 1)), (98, .osl 24 1 0 1), (97, .osl 12 1 0 t.names.length), (96, .ptr 20 3)] [(28, apd (fl sc t.names) (t.names.length * 1) [.str [122, 122, 122]]), (24, [.str [122, 122, 122]]), (20, [.bool t.dir, .int .i64 t.mode, .str t.data, .osl 12 1 0 t.names.length, .osl 16 5 0 t.kids.length]), (16, fl trc t.kids), (8, zt), (4, tcs t), (0, rdc b (p + 1 + 1))] 32 (((1 : Nat) ≠ 0) /\ (3 + 1 <= 5 /\ 3 < 5) /\ (1 * 1 <= 16777216) /\ (0 + 1 * 1 <= 1) /\ (1 = 1 /\ t.names.length * 1 <= (fl sc t.names).length /\ 0 < 16 /\ (t.names.length + 1) * 16 <= 140737488355328) /\ ·) ⟨(by decide), (by decide), (by decide), (by decide), ⟨rfl, by (first | omega | (simp only [LL]; omega)), by decide, by (first | omega | (simp only [LL]; omega))⟩, run_v (v' := .osl 28 1 0 ((t.names ++ [[122, 122, 122]]).length)) (push_len _ _ _ _) (run_h (cs' := fl sc (t.names ++ [[122, 122, 122]])) (push_str t.names [122, 122, 122]) (Fn3 [4, 5] [] [(28, fl sc (t.names ++ [[122, 122, 122]])), (24, [.str [122, 122, 122]]), (20, [.bool t.dir, .int .i64 t.mode, .str t.data, .osl 28 1 0 ((t.names ++ [[122, 122, 122]]).length), .osl 16 5 0 t.kids.length]), (16, fl trc t.kids), (8, zt), (4, tcs t), (0, rdc b (p + 1 + 1))] 32 (((1 : Nat) ≠ 0) /\ (true = true /\ 1 = 1 /\ 3 + 1 <= 5) /\ ·) ⟨(by decide), (by decide), ?_⟩))⟩)
 refine Rr (Fn3 [4] [] [(28, fl sc (t.names ++ [[122, 122, 122]])), (24, [.str [122, 122, 122]]), (20, [.bool t.dir, .int .i64 t.mode, .str t.data, .osl 28 1 0 ((t.names ++ [[122, 122, 122]]).length), .osl 16 5 0 t.kids.length]), (16, fl trc t.kids), (8, [.bool t.dir, .int .i64 t.mode, .str t.data, .osl 28 1 0 ((t.names ++ [[122, 122, 122]]).length), .osl 16 5 0 t.kids.length]), (4, tcs t), (0, rdc b (p + 1 + 1))] 32 ((0 + 5 <= 5 /\ 0 < 5) /\ (true = true /\ 5 = 5 /\ 0 + 5 <= 5) /\ ·) ⟨(by decide), (by decide), FzS 28 (t.names ++ [[122, 122, 122]]) [(4, .ptr 8 0)] [(16, fl trc t.kids), (8, [.bool t.dir, .int .i64 t.mode, .str t.data, .osl 28 1 0 ((t.names ++ [[122, 122, 122]]).length), .osl 16 5 0 t.kids.length]), (0, rdc b (p + 1 + 1))] [false, true, true] (FzT 16 t.kids [(4, .ptr 8 0)] [(8, [.bool t.dir, .int .i64 t.mode, .str t.data, pth (t.names ++ [[122, 122, 122]]), .osl 16 5 0 t.kids.length]), (0, rdc b (p + 1 + 1))] [true, true] (Rt1 ((0 + 5 <= 5 /\ 0 < 5) /\ ·) (.agg [.bool t.dir, .int .i64 t.mode, .str t.data, pth (t.names ++ [[122, 122, 122]]), .sl 5 (t.kids.map trc)]) ⟨(by decide), ?_⟩))⟩)
 have hWx : (Tr.mk t.dir t.mode t.data (t.names ++ [[122, 122, 122]]) t.kids).W <= t.W + 2000 := by
   (try (rw [W_eq (Tr.mk _ _ _ _ _)]; simp only [Tr.data_mk, Tr.names_mk, Tr.kids_mk, wS_app, Ws_app, wS, Tr.Ws, List.length_append, List.length_cons, List.length_nil, W_none]))
   omega
 exact fin_rc (p + 1 + 1) (by first | exact lea_refl _ | simp [lea, leas, pth, tcs]) (by simp only [go_sem]) (by kernel_rfl) ⟨(Tr.mk t.dir t.mode t.data (t.names ++ [[122, 122, 122]]) t.kids), hWx, rfl, by omega⟩
 try simp only [KF] at c83
 refine Rr (Cn1 (decide ((pk66 : Int) = 5)) [0, 4, 5, 38] [] (Ki /\ ·) ⟨rfl, fun hc86 c86 => ?_, fun hc86 c86 => ?_⟩)
 try simp only [KF] at c86
 refine Rb (fun h => Bn (Jn (hK64 h))) (Bc0 2 [(103, .ptr 0 0)] 23 [.ptr 0 0, .int .i64 2] 104 (RC.use (pick_ok b (p + 1 + 1) 2 (by omega) (by omega) (by omega) (by omega)) (by kernel_rfl) fun r p1 hr => ?_)); obtain ⟨pk87, hpk87, rfl, rfl⟩ := hr
 refine Ke (Av1 1 105 [] (congrArg (AV.int .i64) (wnn 24 pk87 (by omega))) (Ki /\ ·) ⟨rfl, Bc0 1 [] 31 [.str [100], .int .i64 ((24 + pk87 : Nat) : Int)] 106 (PC.use (l1Many_ok [100] (24 + pk87) (by first | omega | decide) (by first | omega | (simp only [List.length_cons, List.length_nil]; omega)) (by omega)) fun r hr => ?_)⟩); obtain ⟨mt88, rfl, hmt88⟩ := hr; simp only [List.length_cons, List.length_nil] at hmt88
 refine Ke (Fn3 [4, 5] [] [(20, [.bool t.dir, .int .i64 t.mode, .str mt88, .osl 12 1 0 t.names.length, .osl 16 5 0 t.kids.length]), (16, fl trc t.kids), (12, fl sc t.names), (8, zt), (4, tcs t), (0, rdc b (p + 1 + 1 + 1))] 24 (((1 : Nat) ≠ 0) /\ (true = true /\ 1 = 1 /\ 2 + 1 <= 5) /\ ·) ⟨(by decide), (by decide), Rr (Fn3 [4] [] [(20, [.bool t.dir, .int .i64 t.mode, .str mt88, .osl 12 1 0 t.names.length, .osl 16 5 0 t.kids.length]), (16, fl trc t.kids), (12, fl sc t.names), (8, [.bool t.dir, .int .i64 t.mode, .str mt88, .osl 12 1 0 t.names.length, .osl 16 5 0 t.kids.length]), (4, tcs t), (0, rdc b (p + 1 + 1 + 1))] 24 ((0 + 5 <= 5 /\ 0 < 5) /\ (true = true /\ 5 = 5 /\ 0 + 5 <= 5) /\ ·) ⟨(by decide), (by decide), FzT 16 t.kids [(4, .ptr 8 0)] [(12, fl sc t.names), (8, [.bool t.dir, .int .i64 t.mode, .str mt88, .osl 12 1 0 t.names.length, .osl 16 5 0 t.kids.length]), (0, rdc b (p + 1 + 1 + 1))] [false, true, true] ?_⟩)⟩)
 refine FzS 12 t.names [(4, .ptr 8 0)] [(8, [.bool t.dir, .int .i64 t.mode, .str mt88, .osl 12 1 0 t.names.length, .sl 5 (t.kids.map trc)]), (0, rdc b (p + 1 + 1 + 1))] [true, true] (Rt1 ((0 + 5 <= 5 /\ 0 < 5) /\ ·) (.agg [.bool t.dir, .int .i64 t.mode, .str mt88, pth t.names, .sl 5 (t.kids.map trc)]) ⟨(by decide), ?_⟩)
 have hWx : (Tr.mk t.dir t.mode mt88 t.names t.kids).W <= t.W + 2000 := by
   (try (rw [W_eq (Tr.mk _ _ _ _ _)]; simp only [Tr.data_mk, Tr.names_mk, Tr.kids_mk, wS_app, Ws_app, wS, Tr.Ws, List.length_append, List.length_cons, List.length_nil, W_none]))
   omega
 exact fin_rc (p + 1 + 1 + 1) (by first | exact lea_refl _ | simp [lea, leas, pth, tcs]) (by simp only [go_sem]) (by kernel_rfl) ⟨(Tr.mk t.dir t.mode mt88 t.names t.kids), hWx, rfl, by omega⟩
 try simp only [KF] at c86
 refine Rr (Cn1 (decide ((pk66 : Int) = 6)) [0, 4, 5] [] (Ki /\ ·) ⟨rfl, fun hc91 c91 => ?_, fun hc91 c91 => ?_⟩)
 try simp only [KF] at c91
 refine Rr (Fn0 [0, 4, 5] [(7, .int .i64 0)] (Bl (FzT 16 t.kids [(0, .ptr 0 0), (4, .ptr 8 0), (5, .ptr 20 0), (7, .int .i64 0)] [(20, [.bool t.dir, .int .i64 t.mode, .str t.data, .osl 12 1 0 t.names.length, .osl 16 5 0 t.kids.length]), (12, fl sc t.names), (8, zt), (0, rdc b (p + 1 + 1))] [true, false, true, true] (FzS 12 t.names [(0, .ptr 0 0), (4, .ptr 8 0), (5, .ptr 20 0), (7, .int .i64 0)] [(20, [.bool t.dir, .int .i64 t.mode, .str t.data, .osl 12 1 0 t.names.length, .sl 5 (t.kids.map trc)]), (8, zt), (0, rdc b (p + 1 + 1))] [true, true, true] ?_))))
 refine Hn [(20, [.bool t.dir, .int .i64 t.mode, .str t.data, pth t.names, .sl 5 (t.kids.map trc)]), (8, zt), (0, rdc b (p + 1 + 1))] (h_lo (H' := [(20, tcs (Tr.mk t.dir t.mode t.data t.names t.kids)), (8, zt), (0, rdc b (p + 1 + 1))]) ⟨⟨rfl, (by simp [lea, leas, pth, tcs, clc])⟩, ⟨rfl, leas_refl _⟩, ⟨rfl, leas_refl _⟩, trivial⟩ (h_l (fun (z : Tr × Nat × Nat) => (match z with | (x, q, i) => ([(0, .ptr 0 0), (4, .ptr 8 0), (5, .ptr 20 0), (7, .int .i64 i)] : Fr))) (fun (z : Tr × Nat × Nat) => (match z with | (x, q, i) => ([(20, tcs x), (8, zt), (0, rdc b q)] : Hp))) (fun (z : Tr × Nat × Nat) cn => (match z with | (x, q, i) => (x.W <= t.W + 3 * i /\ q <= p + 2 * t.W + 10 + i /\ i <= 6) /\ cn = 24)) (fun (z : Tr × Nat × Nat) => 7 - z.2.2) ((Tr.mk t.dir t.mode t.data t.names t.kids), p + 1 + 1, 0) (by kernel_rfl) ?_ ?_ ?_ ?_))
 refine ⟨?_, rfl⟩; exact ⟨by rw [W_eq]; simp only [Tr.data_mk, Tr.names_mk, Tr.kids_mk, Tr.Ws]; omega, by omega, by omega⟩
 exact ⟨by kernel_rfl, by kernel_rfl, by kernel_rfl, by kernel_rfl, trivial⟩
 exact (sub_c (by kernel_rfl) (sub_c (by kernel_rfl) (sub_c (by kernel_rfl) (List.nil_sublist _))))
 rintro ⟨x, q, i⟩ n1 hI
 (try dsimp only at hI)
 obtain ⟨⟨hi1, hi2, hi3⟩, rfl⟩ := hI
 refine Sq fun K93 hK93 => ?_
 refine Rr (Bc0 3 [(111, .ptr 0 0), (110, .int .i64 i)] 23 [.ptr 0 0, .int .i64 2] 112 (RC.use (pick_ok b q 2 (by omega) (by omega) (by omega) (by omega)) (by kernel_rfl) fun r p1 hr => ?_)); obtain ⟨pk95, hpk95, rfl, rfl⟩ := hr
 refine Ke (Av1 1 113 [] (congrArg (AV.int .i64) (wnn 4 pk95 (by omega))) (Ki /\ ·) ⟨rfl, Cn1 (decide ((i : Int) < ((4 + pk95 : Nat) : Int))) [0, 4, 5, 7] [] (Ki /\ ·) ⟨rfl, fun hc96 c96 => ?_, fun hc96 c96 => ?_⟩⟩)
 try simp only [KF] at c96
 refine Sk (Jn (hK93 (Kp [0, 4, 5, 7] (Sq fun K97 hK97 => ?_))))
 refine Bl (Rb (fun h => Bn (Jn (hK97 h))) (Fn3 [0, 4, 5, 7] [] [(28, tcs x), (24, [.str [110]]), (20, [.bool true, .int .i64 0, .str [], .osl 24 1 0 1, .osl 28 5 0 1]), (8, zt), (0, rdc b (q + 1))] 32 ((1 * 1 <= 16777216) /\ (0 + 5 <= 5 /\ 0 < 5) /\ (1 * 5 <= 16777216) /\ (true = true /\ 5 = 5 /\ 0 + 5 <= 5) /\ ·) ⟨(by decide), (by decide), (by decide), (by decide), h_k [0, 4, 5, 7] (F' := [(0, .ptr 0 0), (4, .ptr 8 0), (5, .ptr 20 0), (7, .int .i64 i)]) (by kernel_rfl) (h_st (F' := [(0, .ptr 0 0), (4, .ptr 8 0), (5, .ptr 20 0), (7, .int .i64 i)]) (H' := [(28, fl trc [x]), (24, [.str [110]]), (20, [.bool true, .int .i64 0, .str [], .osl 24 1 0 1, .osl 28 5 0 ([x].length)]), (8, zt), (0, rdc b (q + 1))]) rfl (by rw [fl_one, trc_eq]; rfl) ?_)⟩))
 refine FzT 28 [x] [(0, .ptr 0 0), (4, .ptr 8 0), (5, .ptr 20 0), (7, .int .i64 i)] [(24, [.str [110]]), (20, [.bool true, .int .i64 0, .str [], .osl 24 1 0 1, .osl 28 5 0 ([x].length)]), (8, zt), (0, rdc b (q + 1))] [true, true, true, true] (Fz 24 1 1 ([[.str [110]]]) ([.str [110]]) [(0, .ptr 0 0), (4, .ptr 8 0), (5, .ptr 20 0), (7, .int .i64 i)] [(20, [.bool true, .int .i64 0, .str [], .osl 24 1 0 1, .sl 5 ([x].map trc)]), (8, zt), (0, rdc b (q + 1))] [true, true, true] (by kernel_rfl) (by first | decide | simp) (Hn [(20, [.bool true, .int .i64 0, .str [], pth [[110]], .sl 5 ([x].map trc)]), (8, zt), (0, rdc b (q + 1))] (h_lo (H' := [(20, tcs (Tr.mk true 0 [] [[110]] [x])), (8, zt), (0, rdc b (q + 1))]) ⟨⟨rfl, (by simp [lea, leas, pth, tcs, clc])⟩, ⟨rfl, leas_refl _⟩, ⟨rfl, leas_refl _⟩, trivial⟩ (Rn ?_))))
 refine Av1 2 116 [(115, .int .i64 i)] (congrArg (AV.int .i64) (wn1 i (by omega))) (Ki /\ ·) ⟨rfl, Gn0 [(7, .int .i64 ((i + 1 : Nat) : Int))] (nk_n (Lr ((Tr.mk true 0 [] [[110]] [x]), q + 1, i + 1) [(0, 0), (8, 8), (20, 20)] 24 [(0, .ptr 0 0), (4, .ptr 8 0), (5, .ptr 20 0), (7, .int .i64 ((i + 1 : Nat) : Int))] [(20, tcs (Tr.mk true 0 [] [[110]] [x])), (8, zt), (0, rdc b (q + 1))] [true, true, true] ?_ ?_ (by kernel_rfl) (by kernel_rfl)))⟩
 (try dsimp only); omega
 refine ⟨?_, rfl⟩; (try dsimp only); exact ⟨by rw [W_eq (Tr.mk _ _ _ _ _)]; simp only [Tr.data_mk, Tr.names_mk, Tr.kids_mk, Tr.Ws, wS, List.length_cons, List.length_nil]; omega, by omega, by omega⟩
 try simp only [KF] at c96
 refine Xt (Jx (Lx (Bh (Bn (Jn (hK64 (Kp [4, 5] (Rr (Fn3 [4] [] [(20, tcs x), (8, tcs x), (0, rdc b (q + 1))] 24 ((0 + 5 <= 5 /\ 0 < 5) /\ (true = true /\ 5 = 5 /\ 0 + 5 <= 5) /\ ·) ⟨(by decide), (by decide), Rt1 ((0 + 5 <= 5 /\ 0 < 5) /\ ·) (.agg (tcs x)) ⟨(by decide), ?_⟩⟩)))))))))
 have hWx : x.W <= t.W + 2000 := by
   (try (rw [W_eq (Tr.mk _ _ _ _ _)]; simp only [Tr.data_mk, Tr.names_mk, Tr.kids_mk, wS_app, Ws_app, wS, Tr.Ws, List.length_append, List.length_cons, List.length_nil, W_none]))
   omega
 exact fin_rc (q + 1) (by first | exact lea_refl _ | simp [lea, leas, pth, tcs]) (by simp only [go_sem]) (by kernel_rfl) ⟨x, hWx, rfl, by omega⟩
 try simp only [KF] at c91
 refine Rr (Fn0 [4, 5] [(8, .int .i64 0)] (Bl (h_l (fun (z : List Str × List Tr × Nat × Option Unit) => (match z with | (ns, ks, i, _) => ([(4, .ptr 8 0), (5, .ptr 20 0), (8, .int .i64 i)] : Fr))) (fun (z : List Str × List Tr × Nat × Option Unit) => (match z with | (ns, ks, i, _) => ([(20, [.bool t.dir, .int .i64 t.mode, .str t.data, .osl 12 1 0 ns.length, .osl 16 5 0 ks.length]), (16, fl trc ks), (12, fl sc ns), (8, zt), (4, tcs t), (0, rdc b (p + 1 + 1))] : Hp))) (fun (z : List Str × List Tr × Nat × Option Unit) cn => (match z with | (ns, ks, i, _) => (wS ns <= wS t.names + 30 * i /\ Tr.Ws ks <= Tr.Ws t.kids + i /\ i <= 30 /\ ks.length <= t.kids.length + i /\ ns.length <= t.names.length + i) /\ cn = 24)) (fun (z : List Str × List Tr × Nat × Option Unit) => 31 - z.2.2.1) (t.names, t.kids, 0, some ()) (by kernel_rfl) ?_ ?_ ?_ ?_)))
 refine ⟨?_, rfl⟩; first | exact ⟨rfl, rfl, rfl, hk⟩ | exact ⟨by omega, by omega, by omega, by omega, by omega⟩
 exact ⟨by kernel_rfl, by kernel_rfl, by kernel_rfl, trivial⟩
 exact (sub_c (by kernel_rfl) (sub_c (by kernel_rfl) (sub_c (by kernel_rfl) (sub_c (by kernel_rfl) (sub_c (by kernel_rfl) (sub_c (by kernel_rfl) (List.nil_sublist _)))))))
 rintro ⟨ns, ks, i, o⟩ n1 hI
 (try dsimp only at hI)
 obtain ⟨⟨hi1, hi2, hi3, hi4, hi5⟩, rfl⟩ := hI
 refine Sq fun K100 hK100 => ?_
 refine Rr (Cn1 (decide ((i : Int) < 30)) [4, 5, 8] [] (Ki /\ ·) ⟨rfl, fun hc102 c102 => ?_, fun hc102 c102 => ?_⟩)
 try simp only [KF] at c102
 refine Sk (Jn (hK100 (Kp [4, 5, 8] (Sq fun K103 hK103 => ?_))))
 refine Bl (Qr [0, 1, 0, 4, 12, 28, 60, 127, 255, 511] [(0, []), (1, []), (2, []), (3, []), (4, [1]), (5, []), (6, [1]), (7, []), (8, []), (9, [])] (qAv1 4 46 [(45, .int .i64 i), (44, .osl 12 1 0 ns.length), (43, .ptr 20 3)] (congrArg (AV.int .i64) (wnn 100 i (by omega))) (((1 : Nat) ≠ 0) /\ (3 + 1 <= 5 /\ 3 < 5) /\ Ki /\ ·) ⟨(by decide), (by decide), rfl, qBc0 1 [] [1] 47 [.int .i64 ((100 + i : Nat) : Int)] 47 ?_⟩))
 have hl105 := dec_len ((100 + i : Nat) : Int) (by omega) (by omega)
 refine PE.use (l1Dec_ok _ ((100 + i : Nat) : Int) rfl (by omega) (by omega)) ?_
 refine Kq (p := (((3 + 1 <= 5 /\ 3 < 5) /\ (AV.osl 12 1 0 ns.length = (.osl 12 1 0 ns.length : AV))) /\ True)) ⟨⟨(by decide), rfl⟩, trivial⟩ ?_
 refine qAn3 3 [(50, .osl 28 1 0 (ns.length + 1)), (49, .osl 24 1 0 1), (48, .str ([122, 122] ++ (dec ((100 + i : Nat) : Int))))] [(28, apd (fl sc ns) (ns.length * 1) [.str ([122, 122] ++ (dec ((100 + i : Nat) : Int)))]), (24, [.str ([122, 122] ++ (dec ((100 + i : Nat) : Int)))]), (20, [.bool t.dir, .int .i64 t.mode, .str t.data, .osl 12 1 0 ns.length, .osl 16 5 0 ks.length]), (16, fl trc ks), (8, zt), (4, tcs t), (0, rdc b (p + 1 + 1))] 32 (([122, 122].length + (dec ((100 + i : Nat) : Int)).length <= 9223372036854775807) /\ (1 * 1 <= 16777216) /\ (((3 + 1 <= 5 /\ 3 < 5) /\ (AV.osl 12 1 0 ns.length = (.osl 12 1 0 ns.length : AV))) /\ True) /\ (0 + 1 * 1 <= 1) /\ (1 = 1 /\ ns.length * 1 <= (fl sc ns).length /\ 0 < 16 /\ (ns.length + 1) * 16 <= 140737488355328) /\ (True) /\ ·) ⟨(by simp only [List.length_cons, List.length_nil]; omega), (by decide), ⟨⟨(by decide), rfl⟩, trivial⟩, (by decide), ⟨rfl, by (first | omega | (simp only [LL]; omega)), by decide, by (first | omega | (simp only [LL]; omega))⟩, trivial, runq_v (v' := .osl 28 1 0 ((ns ++ [[122, 122] ++ (dec ((100 + i : Nat) : Int))]).length)) (push_len _ _ _ _) (runq_h (cs' := fl sc (ns ++ [[122, 122] ++ (dec ((100 + i : Nat) : Int))])) (push_str ns ([122, 122] ++ (dec ((100 + i : Nat) : Int)))) (qFn3 [4, 5, 8] [] [(28, fl sc (ns ++ [[122, 122] ++ (dec ((100 + i : Nat) : Int))])), (24, [.str ([122, 122] ++ (dec ((100 + i : Nat) : Int)))]), (20, [.bool t.dir, .int .i64 t.mode, .str t.data, .osl 28 1 0 ((ns ++ [[122, 122] ++ (dec ((100 + i : Nat) : Int))]).length), .osl 16 5 0 ks.length]), (16, fl trc ks), (8, zt), (4, tcs t), (0, rdc b (p + 1 + 1))] 32 (((1 : Nat) ≠ 0) /\ (true = true /\ 1 = 1 /\ 3 + 1 <= 5) /\ (True) /\ ·) ⟨(by decide), (by decide), trivial, Rb (fun h => Bn (Jn (hK103 h))) ?_⟩))⟩
 refine An3 5 [(56, .osl 36 5 0 (ks.length + 1)), (55, .osl 32 5 0 1), (54, .agg zt), (53, .osl 16 5 0 ks.length), (52, .ptr 20 4)] [(36, apd (fl trc ks) (ks.length * 5) (((zt : List AV).drop 0).take (1 * 5))), (32, zt), (28, fl sc (ns ++ [[122, 122] ++ (dec ((100 + i : Nat) : Int))])), (24, [.str ([122, 122] ++ (dec ((100 + i : Nat) : Int)))]), (20, [.bool t.dir, .int .i64 t.mode, .str t.data, .osl 28 1 0 ((ns ++ [[122, 122] ++ (dec ((100 + i : Nat) : Int))]).length), .osl 16 5 0 ks.length]), (8, zt), (4, tcs t), (0, rdc b (p + 1 + 1))] 40 (((1 : Nat) ≠ 0) /\ (4 + 1 <= 5 /\ 4 < 5) /\ (1 * 5 <= 16777216) /\ (0 + 1 * 5 <= (zt : List AV).length) /\ (5 = 5 /\ ks.length * 5 <= (fl trc ks).length /\ 0 < 80 /\ (ks.length + 1) * 80 <= 140737488355328) /\ ·) ⟨(by decide), (by decide), (by decide), (by decide), ⟨rfl, by (first | omega | (rw [flTl]; omega) | (simp only [flTl]; omega)), by decide, by (first | omega | (rw [flTl]; omega) | (simp only [flTl]; omega))⟩, run_H (H' := [(36, fl trc ks ++ [AV.bool false, AV.int .i64 0, AV.str [], AV.nils, AV.nils]), (32, zt), (28, fl sc (ns ++ [[122, 122] ++ (dec ((100 + i : Nat) : Int))])), (24, [.str ([122, 122] ++ (dec ((100 + i : Nat) : Int)))]), (20, [.bool t.dir, .int .i64 t.mode, .str t.data, .osl 28 1 0 ((ns ++ [[122, 122] ++ (dec ((100 + i : Nat) : Int))]).length), .osl 16 5 0 ks.length]), (8, zt), (4, tcs t), (0, rdc b (p + 1 + 1))]) (by rw [show apd (fl trc ks) (ks.length * 5) (((zt : List AV).drop 0).take (1 * 5)) = fl trc ks ++ [AV.bool false, AV.int .i64 0, AV.str [], AV.nils, AV.nils] from (by unfold apd; rw [flT0]; rfl)]) (Fn3 [4, 5, 8] [] [(36, fl trc ks ++ [AV.bool false, AV.int .i64 0, AV.str [], AV.nils, AV.nils]), (32, zt), (28, fl sc (ns ++ [[122, 122] ++ (dec ((100 + i : Nat) : Int))])), (24, [.str ([122, 122] ++ (dec ((100 + i : Nat) : Int)))]), (20, [.bool t.dir, .int .i64 t.mode, .str t.data, .osl 28 1 0 ((ns ++ [[122, 122] ++ (dec ((100 + i : Nat) : Int))]).length), .osl 36 5 0 (ks.length + 1)]), (8, zt), (4, tcs t), (0, rdc b (p + 1 + 1))] 40 (((1 : Nat) ≠ 0) /\ (true = true /\ 1 = 1 /\ 4 + 1 <= 5) /\ ·) ⟨(by decide), (by decide), h_lo (H' := [(36, fl trc (ks ++ [Tr.none])), (32, zt), (28, fl sc (ns ++ [[122, 122] ++ (dec ((100 + i : Nat) : Int))])), (24, [.str ([122, 122] ++ (dec ((100 + i : Nat) : Int)))]), (20, [.bool t.dir, .int .i64 t.mode, .str t.data, .osl 28 1 0 ((ns ++ [[122, 122] ++ (dec ((100 + i : Nat) : Int))]).length), .osl 36 5 0 (ks.length + 1)]), (8, zt), (4, tcs t), (0, rdc b (p + 1 + 1))]) ⟨⟨rfl, lea_zero ks⟩, ⟨rfl, leas_refl _⟩, ⟨rfl, leas_refl _⟩, ⟨rfl, leas_refl _⟩, ⟨rfl, leas_refl _⟩, ⟨rfl, leas_refl _⟩, ⟨rfl, leas_refl _⟩, ⟨rfl, leas_refl _⟩, trivial⟩ (h_k [4, 5, 8] (F' := [(4, .ptr 8 0), (5, .ptr 20 0), (8, .int .i64 i)]) (by kernel_rfl) ?_)⟩)⟩
 refine h_st (F' := [(4, .ptr 8 0), (5, .ptr 20 0), (8, .int .i64 i)]) (H' := [(36, fl trc (ks ++ [Tr.none])), (32, zt), (28, fl sc (ns ++ [[122, 122] ++ (dec ((100 + i : Nat) : Int))])), (24, [.str ([122, 122] ++ (dec ((100 + i : Nat) : Int)))]), (20, [.bool t.dir, .int .i64 t.mode, .str t.data, .osl 28 1 0 ((ns ++ [[122, 122] ++ (dec ((100 + i : Nat) : Int))]).length), .osl 36 5 0 ((ks ++ [Tr.none]).length)]), (8, zt), (4, tcs t), (0, rdc b (p + 1 + 1))]) rfl (by simp only [List.length_append, List.length_cons, List.length_nil]) ?_
 refine Rn (Av1 2 42 [(41, .int .i64 i)] (congrArg (AV.int .i64) (wn1 i (by omega))) (Ki /\ ·) ⟨rfl, Gn0 [(8, .int .i64 ((i + 1 : Nat) : Int))] (nk_n (Lr (ns ++ [[122, 122] ++ (dec ((100 + i : Nat) : Int))], ks ++ [Tr.none], i + 1, some ()) [(0, 0), (4, 4), (8, 8), (20, 20), (28, 12), (36, 16)] 24 [(4, .ptr 8 0), (5, .ptr 20 0), (8, .int .i64 ((i + 1 : Nat) : Int))] [(20, [.bool t.dir, .int .i64 t.mode, .str t.data, .osl 28 1 0 ((ns ++ [[122, 122] ++ (dec ((100 + i : Nat) : Int))]).length), .osl 36 5 0 ((ks ++ [Tr.none]).length)]), (36, fl trc (ks ++ [Tr.none])), (28, fl sc (ns ++ [[122, 122] ++ (dec ((100 + i : Nat) : Int))])), (8, zt), (4, tcs t), (0, rdc b (p + 1 + 1))] [true, false, false, true, true, true] ?_ ?_ (by kernel_rfl) (by kernel_rfl)))⟩)
 (try dsimp only); omega
 refine ⟨?_, rfl⟩; (try dsimp only); refine ⟨?_, ?_, by omega, ?_, ?_⟩ <;> (try simp only [wS_app, Ws_app, wS, Tr.Ws, W_none, List.length_append, List.length_cons, List.length_nil]) <;> (try simp only [List.length_nil]) <;> omega
 try simp only [KF] at c102
 refine Xt (Jx (Lx (Bh (Bn (Jn (hK64 (Kp [4, 5] (Rr (Fn3 [4] [] [(20, [.bool t.dir, .int .i64 t.mode, .str t.data, .osl 12 1 0 ns.length, .osl 16 5 0 ks.length]), (16, fl trc ks), (12, fl sc ns), (8, [.bool t.dir, .int .i64 t.mode, .str t.data, .osl 12 1 0 ns.length, .osl 16 5 0 ks.length]), (4, tcs t), (0, rdc b (p + 1 + 1))] 24 ((0 + 5 <= 5 /\ 0 < 5) /\ (true = true /\ 5 = 5 /\ 0 + 5 <= 5) /\ ·) ⟨(by decide), (by decide), FzT 16 ks [(4, .ptr 8 0)] [(12, fl sc ns), (8, [.bool t.dir, .int .i64 t.mode, .str t.data, .osl 12 1 0 ns.length, .osl 16 5 0 ks.length]), (0, rdc b (p + 1 + 1))] [false, true, true] (FzS 12 ns [(4, .ptr 8 0)] [(8, [.bool t.dir, .int .i64 t.mode, .str t.data, .osl 12 1 0 ns.length, .sl 5 (ks.map trc)]), (0, rdc b (p + 1 + 1))] [true, true] ?_)⟩)))))))))
 refine Rt1 ((0 + 5 <= 5 /\ 0 < 5) /\ ·) (.agg [.bool t.dir, .int .i64 t.mode, .str t.data, pth ns, .sl 5 (ks.map trc)]) ⟨(by decide), ?_⟩
 have hWx : (Tr.mk t.dir t.mode t.data ns ks).W <= t.W + 2000 := by
   (try (rw [W_eq (Tr.mk _ _ _ _ _)]; simp only [Tr.data_mk, Tr.names_mk, Tr.kids_mk, wS_app, Ws_app, wS, Tr.Ws, List.length_append, List.length_cons, List.length_nil, W_none]))
   omega
 exact fin_rc (p + 1 + 1) (by first | exact lea_refl _ | simp [lea, leas, pth, tcs]) (by simp only [go_sem]) (by kernel_rfl) ⟨(Tr.mk t.dir t.mode t.data ns ks), hWx, rfl, by omega⟩
 have hg57 := g57
 try simp only [KF] at g57
 omega
open Go Go.Proofs
theorem l4Any_ok (b : Str) (p : Nat) (hp : p < 2 ^ 20) (hb : b.length < 2 ^ 30) : RC G 12 [] b p (fun r p' => ∃ x : Tr, x.W < 2 ^ 13 /\ r = .agg (tcs x) /\ p' <= p + 12000) := by
 refine h_rc (F := [(0, .ptr 0 0)]) (by simp only [go_sem]) Try.func12 (by kernel_rfl) (by kernel_rfl) ?_ (by kernel_rfl)
 refine Rr (Fn2 [0] [(2, .ptr 4 0)] [(4, zt), (0, rdc b p)] 8 (Sq fun K2 hK2 => ?_))
 refine Rr (Bc0 2 [(3, .ptr 0 0)] 23 [.ptr 0 0, .int .i64 24] 4 (RC.use (pick_ok b p 24 (by omega) (by omega) (by omega) (by omega)) (by kernel_rfl) fun r p1 hr => ?_)); obtain ⟨pk4, hpk4, rfl, rfl⟩ := hr
 refine Ke (Fn0 [0, 2, 4] [] (Bl (Rr (Cn1 (decide ((pk4 : Int) = 0)) [0, 2, 4] [] (Ki /\ ·) ⟨rfl, fun hc6 c6 => ?_, fun hc6 c6 => ?_⟩))))
 try simp only [KF] at c6
 refine Rr (Bc0 3 [(8, .ptr 0 0), (7, .ptr 0 0)] 25 [.ptr 0 0] 9 (RC.use (l4Tree_ok b (p + 1) (by omega) (by omega)) (by kernel_rfl) fun r q9 hr => ?_)); obtain ⟨x8, h1x8, rfl, h3x8⟩ := hr
 refine Ke (Bc0 1 [] 24 [.ptr 0 0, .agg (tcs x8)] 10 (RC.use (l4Spoil_ok _ x8 b q9 rfl (by omega) (by omega) (by omega)) (by kernel_rfl) fun r q11 hr => ?_)); obtain ⟨x10, h1x10, rfl, h3x10⟩ := hr
 refine Ke (Fn3 [2] [] [(4, tcs x10), (0, rdc b q11)] 8 ((true = true /\ 5 = 5 /\ 0 + 5 <= 5) /\ ·) ⟨(by decide), Rt1 ((0 + 5 <= 5 /\ 0 < 5) /\ ·) (.agg (tcs x10)) ⟨(by decide), ?_⟩⟩)
 exact fin_rc q11 (lea_refl _) (by simp only [go_sem]) (by kernel_rfl) ⟨x10, by omega, rfl, by omega⟩
 try simp only [KF] at c6
 refine Rr (Cn1 (decide ((pk4 : Int) = 1)) [0, 2] [] (Ki /\ ·) ⟨rfl, fun hc13 c13 => ?_, fun hc13 c13 => ?_⟩)
 try simp only [KF] at c13
 refine Rr (Bc0 2 [(13, .ptr 0 0)] 26 [.ptr 0 0] 14 (RC.use (l4Full_ok b (p + 1) (by omega) (by omega)) (by kernel_rfl) fun r q16 hr => ?_)); obtain ⟨x15, h1x15, rfl, h3x15⟩ := hr
 refine Ke (Fn3 [2] [] [(4, tcs x15), (0, rdc b q16)] 8 ((true = true /\ 5 = 5 /\ 0 + 5 <= 5) /\ ·) ⟨(by decide), Rt1 ((0 + 5 <= 5 /\ 0 < 5) /\ ·) (.agg (tcs x15)) ⟨(by decide), ?_⟩⟩)
 exact fin_rc q16 (lea_refl _) (by simp only [go_sem]) (by kernel_rfl) ⟨x15, by omega, rfl, by omega⟩
 try simp only [KF] at c13
 refine Sk (Bn (Jn (hK2 (Kp [0, 2] (Rr (Bc0 2 [(15, .ptr 0 0)] 25 [.ptr 0 0] 16 (RC.use (l4Tree_ok b (p + 1) (by omega) (by omega)) (by kernel_rfl) fun r q19 hr => ?_))))))); obtain ⟨x18, h1x18, rfl, h3x18⟩ := hr
 refine Ke (Fn3 [2] [] [(4, tcs x18), (0, rdc b q19)] 8 ((true = true /\ 5 = 5 /\ 0 + 5 <= 5) /\ ·) ⟨(by decide), Rt1 ((0 + 5 <= 5 /\ 0 < 5) /\ ·) (.agg (tcs x18)) ⟨(by decide), ?_⟩⟩)
 exact fin_rc q19 (lea_refl _) (by simp only [go_sem]) (by kernel_rfl) ⟨x18, by omega, rfl, by omega⟩
theorem DrawTreeDo_ok (X : Str) (hX : X.length < 2 ^ 40) : PC G 4 [.sl 1 (X.map fun c => [AV.int .u8 (c.toNat : Int)])] (fun r => ∃ (t : Tr) (c : Cl), r = .tup [.agg (tcs t), .agg (clc c)] /\ t.W < 2 ^ 13 /\ wS c.path < 2 ^ 40 /\ wS c.to < 2 ^ 40 /\ c.data.length < 2 ^ 20) := by
 refine h_pc (F := [(0, .sl 1 (X.map fun c => [AV.int .u8 (c.toNat : Int)]))]) (by simp only [go_sem]) Try.func4 (by kernel_rfl) (by kernel_rfl) ?_ (by kernel_rfl)
 refine Rr (Fn2 [0] [(3, .ptr 4 0), (2, .ptr 0 0)] [(4, [.int .i64 0, .nils, .nils, .int .i64 0, .str []]), (0, zt)] 8 (Rr (Bc0 2 [(6, .sl 1 (X.map fun c => [AV.int .u8 (c.toNat : Int)]))] 11 [.sl 1 (X.map fun c => [AV.int .u8 (c.toNat : Int)])] 7 (op_use (l1Open_ok X (by omega)) fun bb hbb => ?_))))
 refine Ke (Fn0 [2, 3] [(4, .ptr 8 0)] (Rr (Bc0 2 [(8, .ptr 8 0)] 12 [.ptr 8 0] 9 (RC.use (l4Any_ok bb 0 (by omega) (by omega)) (by kernel_rfl) fun r q5 hr => ?_)))); obtain ⟨x4, h1x4, rfl, h3x4⟩ := hr
 refine Ke (Fn3 [2, 3, 4] [(5, .ptr 12 0)] [(12, tcs x4), (8, rdc bb q5), (4, [.int .i64 0, .nils, .nils, .int .i64 0, .str []]), (0, zt)] 16 ((true = true /\ 5 = 5 /\ 0 + 5 <= 5) /\ ·) ⟨(by decide), Qr [0, 0, 0, 6, 15, 31] [(0, []), (1, []), (2, []), (3, [0]), (4, []), (5, [])] (qBc1 4 [(12, .agg (tcs x4)), (11, .ptr 8 0), (10, .agg (tcs x4))] [0] 13 [.ptr 8 0, .agg (tcs x4)] 13 ((0 + 5 <= 5 /\ 0 < 5) /\ (0 + 5 <= 5 /\ 0 < 5) /\ ·) ⟨(by decide), (by decide), RC.use (l4Call_ok bb q5 x4 (by omega) (by omega) (by omega)) (by kernel_rfl) fun r q8 hr => ?_⟩)⟩); obtain ⟨cl7, h0cl7, h1cl7, h2cl7, rfl, h3cl7⟩ := hr
 refine Kq (p := (((0 + 5 <= 5 /\ 0 < 5) /\ (AV.agg (tcs x4) = (.agg (tcs x4) : AV))) /\ True)) ⟨⟨(by decide), rfl⟩, trivial⟩ ?_
 refine qFn3 [2, 3] [] [(12, tcs x4), (8, rdc bb q8), (4, clc cl7), (0, tcs x4)] 16 ((true = true /\ 5 = 5 /\ 0 + 5 <= 5) /\ (True) /\ (true = true /\ 5 = 5 /\ 0 + 5 <= 5) /\ (True) /\ ·) ⟨(by decide), trivial, (by decide), trivial, Rt1 ((0 + 5 <= 5 /\ 0 < 5) /\ (0 + 5 <= 5 /\ 0 < 5) /\ ·) (.tup [.agg (tcs x4), .agg (clc cl7)]) ⟨(by decide), (by decide), ⟨[], List.nil_sublist _, _, lea_refl _, ⟨x4, cl7, rfl, by omega, by omega, by omega, by omega⟩, by simp only [go_sem]⟩⟩⟩
theorem tat_E (t : Tr) (n : Str) (p : List Str) : ∀ l : List (Str × Tr), tat (mkE t l) (n :: p) = match l.find? fun e => e.1 == n with | some e => tat e.2 p | none => none := by
 intro l
 rw [tat_cons]
 show (match fnd n (l.map fun (e : Str × Tr) => e.1) with | some k => tat ((l.map fun (e : Str × Tr) => e.2).getD k Tr.none) p | none => none) = _
 induction l with
 | nil => rfl
 | cons e l ih =>
  simp only [List.map_cons, fnd, List.find?_cons]
  cases h : e.1 == n with
  | true => rfl
  | false =>
   simp only [Bool.false_eq_true, if_false]
   rw [<- ih]
   cases fnd n (l.map fun (e : Str × Tr) => e.1) with
   | none => rfl
   | some k => rfl
theorem mkE_ents {t : Tr} (hl : t.names.length = t.kids.length) : mkE t (ents t) = t := by
 obtain ⟨z1, z2⟩ := ents_f hl
 unfold mkE
 rw [z1, z2]; cases t; rfl
theorem tat_ents {t : Tr} (hl : t.names.length = t.kids.length) (n : Str) (p : List Str) : tat t (n :: p) = match (ents t).find? fun e => e.1 == n with | some e => tat e.2 p | none => none := by
 conv => lhs; rw [<- mkE_ents hl]
 exact tat_E t n p _
theorem find_ins (nm : Str) (x : Tr) : ∀ l : List (Str × Tr), (∀ e ∈ l, e.1 ≠ nm) -> (insE nm x l).find? (fun e => e.1 == nm) = some (nm, x)
 | [], _ => by simp [insE]
 | e :: l, h => by
  have h1 : (e.1 == nm) = false := by simpa using h e (by simp)
  rw [insE]
  split
  ·rw [List.find?_cons, h1]; exact find_ins nm x l fun e he => h e (by simp [he])
  ·simp
theorem find_map (n m : Str) (f : Str × Tr -> Tr) : ∀ l : List (Str × Tr), (l.map fun e => (e.1, f e)).find? (fun e => e.1 == n) = (l.find? fun e => e.1 == n).map fun e => (e.1, f e)
 | [] => rfl
 | e :: l => by
  rw [List.map_cons, List.find?_cons, List.find?_cons]
  cases e.1 == n
  ·exact find_map n m f l
  ·rfl
theorem tat_set {x : Tr} : ∀ (p : List Str) (t : Tr), t.wf = true -> tas t -> tnd t -> p ≠ [] -> (tat t (p.take (p.length - 1))).isSome = true -> tat (tset p t x false) p = some x
 | [], _, _, _, _, h, _ => absurd rfl h
 | [nm], t, hw, ha, hn, _, _ => by
  have hl := wf_len hw
  cases hf : fnd nm t.names with
  | some k =>
   rw [tset_hit hl ((tas_eq t).1 ha).1 (fnd_lt hf) (fnd_some hf), tat_cons, Tr.names_mk, Tr.kids_mk, hf]
   have := fnd_lt hf
   simp [tat, List.getD_eq_getElem?_getD, show k < t.kids.length by omega]
  | none =>
   have h1 : ∀ e ∈ ents t, e.1 ≠ nm := fun e he h => fnd_none hf (h ▸ (List.of_mem_zip he).1)
   rw [tsE_new t x nm h1, tat_E, find_ins nm x _ h1]
   rfl
 | n :: m :: p, t, hw, ha, hn, _, hp => by
  have hl := wf_len hw
  rw [show (n :: m :: p).length - 1 = (m :: p).length - 1 + 1 by simp, List.take_succ_cons, tat_ents hl] at hp
  rw [tsE_deep _ _ _ _ _ (by simp), tat_E, find_map n n]
  cases hq : (ents t).find? fun e => e.1 == n with
  | none => rw [hq] at hp; simp at hp
  | some e =>
   rw [hq] at hp
   have he := List.mem_of_find?_eq_some hq
   have hen := List.find?_some hq
   simp only [Option.map_some, hen, cond_true]
   have hk := (List.of_mem_zip he).2
   have hwk : e.2.wf = true := by
    have := hw
    rw [wf_eq] at this
    simp only [Bool.and_eq_true, List.all_eq_true] at this
    exact this.2 _ hk
   have hnk : tnd e.2 := by
    obtain ⟨i, hi, h⟩ := List.mem_iff_getElem.1 hk
    have := tnds_get ((tnd_eq t).1 hn).2 hi
    rw [<- h]
    simpa [List.getD, hi] using this
   exact tat_set (m :: p) e.2 hwk (tass_mem ((tas_eq t).1 ha).2 hk) hnk (by simp) hp
theorem tat_gone {x : Tr} : ∀ (p : List Str) (t : Tr), p ≠ [] -> tat (tset p t x true) p = none
 | [], _, h => absurd rfl h
 | [nm], t, _ => by
  rw [tsE_gone, tat_E]
  have : ((ents t).filter fun e => !(e.1 == nm)).find? (fun e => e.1 == nm) = none := by
   rw [List.find?_eq_none]
   intro e he
   have := (List.mem_filter.1 he).2
   simpa using this
  rw [this]
 | n :: m :: p, t, _ => by
  rw [tsE_deep _ _ _ _ _ (by simp), tat_E, find_map n n]
  cases hq : (ents t).find? fun e => e.1 == n with
  | none => rfl
  | some e =>
   have hen := List.find?_some hq
   simp only [Option.map_some, hen, cond_true]
   exact tat_gone (m :: p) e.2 (by simp)
theorem tat_apart {x : Tr} : ∀ (p q : List Str) (t : Tr), t.wf = true -> p.isPrefixOf q = false -> q.isPrefixOf p = false -> tat (tset p t x true) q = tat t q
 | [], q, t, _, h, _ => by simp at h
 | _ :: _, [], t, _, _, h => by simp at h
 | [n], m :: q, t, hw, h1, _ => by
  have hne : (m == n) = false := by
   cases hx : m == n
   ·rfl
   ·rw [eq_of_beq hx] at h1; simp [List.isPrefixOf] at h1
  rw [tsE_gone, tat_E, tat_ents (wf_len hw)]
  congr 1
  rw [List.find?_filter]
  congr 1
  funext e
  cases hx : e.1 == m with
  | false => simp
  | true => rw [eq_of_beq hx, hne]; rfl
 | n :: n2 :: p, m :: q, t, hw, h1, h2 => by
  rw [tsE_deep _ _ _ _ _ (by simp), tat_E, tat_ents (wf_len hw), find_map m n]
  cases hq : (ents t).find? fun e => e.1 == m with
  | none => rfl
  | some e =>
   have hem := List.find?_some hq
   simp only [Option.map_some]
   cases hx : e.1 == n with
   | false => rfl
   | true =>
    have e1 := eq_of_beq hem
    have e2 := eq_of_beq hx
    have hnm : n = m := by rw [<- e1, <- e2]
    subst hnm
    have hk := (List.of_mem_zip (List.mem_of_find?_eq_some hq)).2
    have hwk : e.2.wf = true := by
     have := hw
     rw [wf_eq] at this
     simp only [Bool.and_eq_true, List.all_eq_true] at this
     exact this.2 _ hk
    exact tat_apart (n2 :: p) q e.2 hwk (by simpa [List.isPrefixOf] using h1) (by simpa [List.isPrefixOf] using h2)
theorem fits_ok {y t : Tr} (h : (fits y t).2 = 0) : treeOk y = true /\ (fits y t).1 = y := by
 unfold fits at h ⊢
 cases hy : treeOk y with
 | true => exact ⟨rfl, by simp⟩
 | false => rw [hy] at h; simp at h
theorem tAt_some {y x : Tr} {p : List Str} (h : treeOk y = true) (hx : tat y p = some x) : tAt y p = (x, true) := by
 unfold tAt xat; rw [h, hx]; rfl
theorem tAt_none {y : Tr} {p : List Str} (h : treeOk y = true) (hx : tat y p = none) : (tAt y p).2 = false := by
 unfold tAt; rw [h, hx]; rfl
theorem tAt_W (t : Tr) (p : List Str) : (tAt t p).1.W <= t.W := by
 unfold tAt
 cases treeOk t
 ·show Tr.none.W <= t.W
  rw [W_none]; exact W_pos t
 ·exact W_xat t p
theorem tList_len (t : Tr) (p : List Str) : (tList t p).1.length <= t.W := by
 unfold tList
 cases treeOk t
 ·exact Nat.zero_le _
 ·simp only [cond_true]
  cases hx : tat t p with
  | none => exact Nat.zero_le _
  | some x =>
   have h1 := W_tat _ _ _ hx
   have h2 := wS_len x.names
   have h3 := W_eq x
   cases hd : x.dir <;> simp only [hd, cond_true, cond_false, List.length_nil] <;> omega
theorem any_succ {α : Type} (l : List α) (k : Nat) (f : α -> Bool) (d : α) (h : k < l.length) : (l.take (k + 1)).any f = ((l.take k).any f || f (l.getD k d)) := by
 rw [take_snoc l k d h, List.any_append]; simp
section
variable {t : Tr} {c : Cl}
theorem set_at (ht : treeOk t = true) (hc : callOk c = true) (hP : parC t c.path = 0) (x : Tr) : tat (tset c.path t x false) c.path = some x := by
 obtain ⟨f1, _⟩ := callOk_facts hc
 have hs : tas t := by simp only [treeOk, Bool.and_eq_true] at ht; exact tas_parts t 0 ht.2.1
 refine tat_set c.path t (wf_ok ht) hs (tnd_ok ht) (fun h => by rw [h] at f1; simp at f1) ?_
 unfold parC at hP
 cases hq : tat t (c.path.take (c.path.length - 1)) with
 | none => rw [hq] at hP; cases hP
 | some q => rfl
theorem par0 (h : (sDo t c).2 = 0) : parC t c.path = 0 := by
 unfold sDo at h
 by_cases hP : parC t c.path = 0
 ·exact hP
 ·rw [decide_eq_false hP] at h; exact absurd h hP
theorem done1 (ht : treeOk t = true) (hc : callOk c = true) (h : (sDo t c).2 = 0) (hk : c.kind = 1) :
  (tList (sDo t c).1 (c.path.take (c.path.length - 1))).1.any (fun e => e == c.path.getD (((c.path.length : Nat) : Int) - 1).toNat default) = true /\ (tList (sDo t c).1 c.path).2 = 0 /\ (tList (sDo t c).1 c.path).1 = [] /\ (tAt (sDo t c).1 c.path).1.mode = c.at_ := by
 obtain ⟨f1, _⟩ := callOk_facts hc
 have hP := par0 h
 have es : sDo t c = bif (tat t c.path).isSome then (t, 5) else fits (tset c.path t (newDir c.at_) false) t := by
  unfold sDo; rw [decide_eq_true hP, hk]; rfl
 rw [es] at h ⊢
 cases hx : tat t c.path with
 | some x => rw [hx] at h; cases h
 | none =>
  rw [hx] at h
  simp only [Option.isSome_none, cond_false] at h ⊢
  obtain ⟨hy, e1⟩ := fits_ok h
  rw [e1]
  have hs := set_at ht hc hP (newDir c.at_)
  generalize tset c.path t (newDir c.at_) false = y at hy hs
  refine ⟨?_, ?_, ?_, ?_⟩
  ·have hl := last_snoc f1
   have hs2 := hs
   rw [<- hl, tat_snoc] at hs2
   cases hq : tat y (c.path.take (c.path.length - 1)) with
   | none => rw [hq] at hs2; cases hs2
   | some u =>
    rw [hq] at hs2
    simp only [tat] at hs2
    cases hf : fnd (c.path.getD (((c.path.length : Nat) : Int) - 1).toNat default) u.names with
    | none => rw [hf] at hs2; cases hs2
    | some k =>
     have hlt := fnd_lt hf
     have hd : u.dir = true := by
      cases hd : u.dir with
      | true => rfl
      | false => have := file_names hy hq hd; omega
     unfold tList
     rw [hy, hq]
     simp only [cond_true, hd]
     rw [List.any_eq_true]
     refine ⟨u.names.getD k default, getD_mem _ _ _ hlt, ?_⟩
     rw [fnd_some hf, beq_self_eq_true]
  ·unfold tList; rw [hy, hs]; rfl
  ·unfold tList; rw [hy, hs]; rfl
  ·rw [tAt_some hy hs]; rfl
theorem l2w_read {s d : Str} {a : Nat} : ((l2w s a d).drop (min a (l2w s a d).length)).take d.length = d := by
 have hl := l2w_len s a d
 rw [hl, show min a (max s.length (a + d.length)) = a by omega]
 unfold l2w
 dsimp only
 rw [List.append_assoc, List.drop_left' (by simp; omega), List.take_left' rfl]
theorem done2 (ht : treeOk t = true) (hc : callOk c = true) (h : (sDo t c).2 = 0) (hk : c.kind = 2) : tRead (sDo t c).1 c.path c.at_ ((c.data.length : Nat) : Int) = (c.data, 0) := by
 obtain ⟨f1, f2, f3, f4⟩ := callOk_facts hc
 obtain ⟨f8, f9⟩ := f3 (.inl hk)
 have hP := par0 h
 have es : sDo t c = sFile t c := by unfold sDo; rw [decide_eq_true hP, hk]; rfl
 rw [es] at h ⊢
 unfold sFile at h ⊢
 rw [show decide (c.kind = (3 : Int)) = false by rw [hk]; rfl] at h ⊢
 cases hd : (tat t c.path).isSome && (xat t c.path).dir with
 | true => rw [hd] at h; cases h
 | false =>
  rw [hd] at h
  simp only [Bool.and_false, cond_false] at h ⊢
  cases h24 : decide ((24 : Int) < ((c.data.length : Nat) : Int) + c.at_) with
  | true => rw [h24] at h; cases h
  | false =>
   rw [h24] at h
   simp only [cond_false] at h ⊢
   obtain ⟨hy, e1⟩ := fits_ok h
   rw [e1]
   have hs := set_at ht hc hP (wData (xat t c.path) (l2w (xat t c.path).data c.at_.toNat c.data))
   have hxd : (xat t c.path).dir = false := by
    cases hx : tat t c.path with
    | none => unfold xat; rw [hx]; rfl
    | some x => rw [hx] at hd; simpa using hd
   unfold tRead
   rw [hy, hs, decide_eq_false (show ¬ c.at_ < 0 by omega), decide_eq_false (show ¬ ((c.data.length : Nat) : Int) < 0 by omega)]
   simp only [Bool.or_self, cond_true, cond_false]
   show (bif (xat t c.path).dir then _ else _) = _
   rw [hxd, Int.toNat_natCast]
   show ((List.take c.data.length (List.drop (min c.at_.toNat (l2w (xat t c.path).data c.at_.toNat c.data).length) (l2w (xat t c.path).data c.at_.toNat c.data))), (0 : Int)) = _
   rw [l2w_read]
theorem done3 (ht : treeOk t = true) (hc : callOk c = true) (h : (sDo t c).2 = 0) (hk : c.kind = 3) : (((tAt (sDo t c).1 c.path).1.data.length : Nat) : Int) = c.at_ := by
 obtain ⟨f1, f2, f3, f4⟩ := callOk_facts hc
 obtain ⟨f8, f9⟩ := f3 (.inr hk)
 have hP := par0 h
 have es : sDo t c = sFile t c := by unfold sDo; rw [decide_eq_true hP, hk]; rfl
 rw [es] at h ⊢
 unfold sFile at h ⊢
 rw [show decide (c.kind = (3 : Int)) = true by rw [hk]; rfl] at h ⊢
 cases hd : (tat t c.path).isSome && (xat t c.path).dir with
 | true => rw [hd] at h; cases h
 | false =>
  rw [hd] at h
  cases hi : (tat t c.path).isSome with
  | false => rw [hi] at h; cases h
  | true =>
   rw [hi] at h
   simp only [Bool.not_true, Bool.false_and, cond_false, cond_true] at h ⊢
   obtain ⟨hy, e1⟩ := fits_ok h
   rw [e1]
   rw [szd_l2w f8] at hy ⊢
   have hs := set_at ht hc hP (wData (xat t c.path) (szd (xat t c.path).data c.at_))
   rw [tAt_some hy hs]
   show (((szd (xat t c.path).data c.at_).length : Nat) : Int) = c.at_
   rw [szd_len f8]; omega
theorem done4 (ht : treeOk t = true) (hc : callOk c = true) (h : (sDo t c).2 = 0) (hk : c.kind = 4) : (tAt (sDo t c).1 c.path).2 = false := by
 obtain ⟨f1, f2, f3, f4⟩ := callOk_facts hc
 have hp : c.path ≠ [] := fun h => by rw [h] at f1; simp at f1
 have hP := par0 h
 have es : sDo t c = bif !(tat t c.path).isSome then (t, 3) else bif decide ((0 : Int) < (((xat t c.path).names.length : Nat) : Int)) then (t, 5) else (tset c.path t .none true, 0) := by
  unfold sDo; rw [decide_eq_true hP, hk]; rfl
 rw [es] at h ⊢
 cases hi : (tat t c.path).isSome with
 | false => rw [hi] at h; cases h
 | true =>
  rw [hi] at h
  cases h0 : decide ((0 : Int) < (((xat t c.path).names.length : Nat) : Int)) with
  | true => rw [h0] at h; cases h
  | false => exact tAt_none (gone_ok ht hp) (tat_gone c.path t hp)
theorem done6 (ht : treeOk t = true) (hc : callOk c = true) (h : (sDo t c).2 = 0) (hk : c.kind = 6) : (tAt (sDo t c).1 c.path).1.mode = c.at_ /\ (tAt (sDo t c).1 c.path).1.data = (tAt t c.path).1.data := by
 obtain ⟨f1, f2, f3, f4⟩ := callOk_facts hc
 have hp : c.path ≠ [] := fun h => by rw [h] at f1; simp at f1
 have hP := par0 h
 have hm : inb c.at_ 0 7 = true := by
  unfold callOk at hc
  rw [if_pos (by omega)] at hc
  simp only [Bool.and_eq_true] at hc
  exact hc.2
 have es : sDo t c = bif !(tat t c.path).isSome then (t, 3) else (tset c.path t (wMode (xat t c.path) c.at_) false, 0) := by
  unfold sDo; rw [decide_eq_true hP, hk]; rfl
 rw [es] at h ⊢
 cases hx : tat t c.path with
 | none => rw [hx] at h; cases h
 | some x =>
  have hxa : xat t c.path = x := by unfold xat; rw [hx]; rfl
  simp only [Option.isSome_some, Bool.not_true, cond_false]
  rw [hxa, tAt_some (mode_ok ht hm hp hx) (set_at ht hc hP (wMode x c.at_)), tAt_some ht hx]
  exact ⟨rfl, rfl⟩
theorem done5 (ht : treeOk t = true) (hc : callOk c = true) (h : (sDo t c).2 = 0) (hk : c.kind = 5) : (tAt (sDo t c).1 c.path).2 = false /\ (tAt (sDo t c).1 c.to).2 = true /\ (tAt (sDo t c).1 c.to).1 = (tAt t c.path).1 := by
 obtain ⟨f1, f2, f3, f4⟩ := callOk_facts hc
 obtain ⟨f5, f6⟩ := f4 hk
 have hp : c.path ≠ [] := fun h => by rw [h] at f1; simp at f1
 have hto : c.to ≠ [] := fun h => by rw [h] at f5; simp at f5
 have hP := par0 h
 have hs : tas t := by simp only [treeOk, Bool.and_eq_true] at ht; exact tas_parts t 0 ht.2.1
 have es : sDo t c = sRename t c := by unfold sDo; rw [decide_eq_true hP, hk]; rfl
 rw [es] at h ⊢
 unfold sRename at h ⊢
 cases hx : tat t c.path with
 | none => rw [hx] at h; cases h
 | some x =>
  have hxa : xat t c.path = x := by unfold xat; rw [hx]; rfl
  rw [hx, hxa] at h
  rw [hxa]
  simp only [Option.isSome_some, Bool.not_true, cond_false] at h ⊢
  cases hpre : c.path.isPrefixOf c.to with
  | true => rw [hpre] at h; cases h
  | false =>
   rw [hpre] at h
   simp only [cond_false] at h ⊢
   by_cases hQ : parC t c.to = 0
   case neg => rw [decide_eq_false hQ] at h; exact absurd h hQ
   rw [decide_eq_true hQ] at h ⊢
   simp only [Bool.not_true, cond_false] at h ⊢
   cases hy : tat t c.to with
   | some y => rw [hy] at h; cases h
   | none =>
    rw [hy] at h
    simp only [Option.isSome_none, cond_false] at h ⊢
    obtain ⟨hok, e1⟩ := fits_ok h
    rw [e1]
    rw [swap_ok c.path c.to t (wf_ok ht) hs (tnd_ok ht) hp hto (by rw [hx]; rfl) hy hpre] at hok ⊢
    have hpre2 : c.to.isPrefixOf c.path = false := by
     cases hz : c.to.isPrefixOf c.path with
     | false => rfl
     | true =>
      exfalso
      obtain ⟨r, hr⟩ := List.isPrefixOf_iff_prefix.1 hz
      have := tat_app c.to r t hy
      rw [hr, hx] at this; cases this
    have hset : tat (tset c.to t x false) c.to = some x := by
     refine tat_set c.to t (wf_ok ht) hs (tnd_ok ht) hto ?_
     unfold parC at hQ
     cases hq : tat t (c.to.take (c.to.length - 1)) with
     | none => rw [hq] at hQ; cases hQ
     | some q => rfl
    have hw2 : (tset c.to t x false).wf = true := wf_tset _ _ _ _ (wf_ok ht) (wf_xat .none _ _ _ (wf_ok ht) hx)
    have h2 : tat (tset c.path (tset c.to t x false) .none true) c.to = some x := by
     rw [tat_apart c.path c.to _ hw2 hpre hpre2]; exact hset
    rw [tAt_some hok h2, tAt_some ht hx]
    exact ⟨tAt_none hok (tat_gone c.path _ hp), rfl, rfl⟩
end
open Go Go.Proofs
theorem W_sT (t : Tr) (c : Cl) (B : Nat) (hB : 2 ^ 10 <= B) (ht : t.W < B) : (sTreeDo t c).1.W < B := by
  have hp := W_pos t
  unfold sTreeDo
  cases h : treeOk t <;> simp only [Bool.not_true, Bool.not_false, cond_true, cond_false]
  · rw [W_none]; omega
  · cases h2 : callOk c <;> simp only [Bool.not_true, Bool.not_false, cond_true, cond_false]
    · exact ht
    · rw [<- aDo_sDo h h2]
      unfold aDo
      cases callOk c <;> simp only [Bool.not_true, Bool.not_false, cond_true, cond_false]
      · exact ht
      cases decide ((iDo t c).2 = (0 : Int)) <;> simp only [Bool.not_true, Bool.not_false, cond_true, cond_false]
      · exact ht
      cases h3 : treeOk (iDo t c).1 <;> simp only [Bool.not_true, Bool.not_false, cond_true, cond_false]
      · exact ht
      · have := W_ok h3; omega
theorem kinds {c : Cl} (hc : callOk c = true) : c.kind = 1 \/ c.kind = 2 \/ c.kind = 3 \/ c.kind = 4 \/ c.kind = 5 \/ c.kind = 6 := by
  unfold callOk at hc
  split at hc
  · rename_i h; omega
  split at hc
  · rename_i h; omega
  split at hc
  · rename_i h; omega
  split at hc
  · rename_i h; omega
  · cases hc
theorem done0 {t : Tr} {c : Cl} (h : (sTreeDo t c).2 = 0) : (sTreeDo t c).2 = 0 /\ treeOk t = true /\ callOk c = true /\ sTreeDo t c = sDo t c := by
  have h0 := h
  unfold sTreeDo at h
  cases h1 : treeOk t with
  | false => rw [h1] at h; simp at h
  | true =>
    cases h2 : callOk c with
    | false => rw [h1, h2] at h; simp at h
    | true => exact ⟨h0, rfl, rfl, by unfold sTreeDo; rw [h1, h2]; rfl⟩
set_option maxRecDepth 10000 in
set_option maxHeartbeats 4000000 in
theorem FnCallDone_ok (X : Str) : PE G 3 [.sl 1 (X.map fun c => [AV.int .u8 (c.toNat : Int)])] (.bool true) := by
 refine Pe Try.func3 ?_
 refine Rr (Fn0 [0] [] (Sq fun K2 hK2 => ?_))
 refine Rr (Av0 (r := .int .i64 ((X.map (fun c => [AV.int .u8 (c.toNat : Int)])).length : Nat)) (v := .int .i64 X.length) 2 24 [(23, .sl 1 (X.map fun c => [AV.int .u8 (c.toNat : Int)]))] (by rw [List.length_map]) (Cn1 (decide ((1048576 : Int) < ((X.length : Int) : Int))) [0] [] (Ki /\ ·) ⟨rfl, fun hc4 c4 => ?_, fun hc4 c4 => ?_⟩))
 try simp only [KF] at c4
 refine Rr (Fn0 [] [(2, .bool true)] (Rt (.bool true) ?_))
 exact fin_lea (lea_refl _)
 try simp only [KF] at c4
 refine Sk (Jn (hK2 (Kp [0] (Rr (Bc0 2 [(27, .sl 1 (X.map fun c => [AV.int .u8 (c.toNat : Int)]))] 4 [.sl 1 (X.map fun c => [AV.int .u8 (c.toNat : Int)])] 28 (PC.use (DrawTreeDo_ok X (by omega)) fun r hr => ?_))))))
 obtain ⟨t, c, rfl, hw, h1, h2, h3⟩ := hr
 have hyW := W_sT t c (2 ^ 13) (by omega) hw
 have hl1 := wS_len c.path
 have hl2 := wS_len c.to
 refine Ke (Fn3 [] [(4, .ptr 4 0), (3, .ptr 0 0)] [(4, clc c), (0, tcs t)] 8 ((0 < 2) /\ (1 < 2) /\ (true = true /\ 5 = 5 /\ 0 + 5 <= 5) /\ (true = true /\ 5 = 5 /\ 0 + 5 <= 5) /\ ·) ⟨(by decide), (by decide), (by decide), (by decide), Rr (Bc1 3 [(33, .agg (clc c)), (32, .agg (tcs t))] 5 [.agg (tcs t), .agg (clc c)] 34 ((0 + 5 <= 5 /\ 0 < 5) /\ (0 + 5 <= 5 /\ 0 < 5) /\ ·) ⟨(by decide), (by decide), PE.use (by have := iTreeDo_ok t c (by omega) h1 h2 h3; rwa [iTreeDo_eq] at this) ?_⟩)⟩)
 refine Ke (Fn3 [3, 4] [(6, .int .i64 ((sTreeDo t c).2)), (5, .ptr 8 0)] [(8, tcs ((sTreeDo t c).1)), (4, clc c), (0, tcs t)] 12 ((0 < 2) /\ (1 < 2) /\ (true = true /\ 5 = 5 /\ 0 + 5 <= 5) /\ ·) ⟨(by decide), (by decide), (by decide), Rr (Bc1 3 [(39, .agg (clc c)), (38, .agg (tcs t))] 6 [.agg (tcs t), .agg (clc c)] 40 ((0 + 5 <= 5 /\ 0 < 5) /\ (0 + 5 <= 5 /\ 0 < 5) /\ ·) ⟨(by decide), (by decide), PE.use (sTreeDo_ok t c (by omega) h1 h2 h3) ?_⟩)⟩)
 refine Ke (Fn3 [3, 4, 5, 6] [(8, .int .i64 ((sTreeDo t c).2)), (7, .ptr 12 0)] [(12, tcs ((sTreeDo t c).1)), (8, tcs ((sTreeDo t c).1)), (4, clc c), (0, tcs t)] 16 ((0 < 2) /\ (1 < 2) /\ (true = true /\ 5 = 5 /\ 0 + 5 <= 5) /\ ·) ⟨(by decide), (by decide), (by decide), Sq fun K9 hK9 => ?_⟩)
 refine Rm 55 ((!decide (((sTreeDo t c).2 : Int) = ((sTreeDo t c).2 : Int))) || ((!(wtT ((sTreeDo t c).1) ((sTreeDo t c).1))) || (!decide (((sTreeDo t c).2 : Int) = (0 : Int))))) [3, 4, 5, 6, 7, 8] ?_ ?_
 refine An1 4 [(46, .bool (!decide (((sTreeDo t c).2 : Int) = ((sTreeDo t c).2 : Int)))), (45, .bool (!decide (((sTreeDo t c).2 : Int) = ((sTreeDo t c).2 : Int)))), (44, .int .i64 ((sTreeDo t c).2)), (43, .int .i64 ((sTreeDo t c).2))] (Ki /\ ·) ⟨rfl, run_b (fun g11 => ?_) (fun g11 => ?_)⟩
 have hg11 := g11
 try simp only [KF] at g11
 refine Mn0 true (by rw [hg11]; rfl)
 have hg11 := g11
 try simp only [KF] at g11
 refine Bc1 3 [(48, .agg (tcs ((sTreeDo t c).1))), (47, .agg (tcs ((sTreeDo t c).1)))] 7 [.agg (tcs ((sTreeDo t c).1)), .agg (tcs ((sTreeDo t c).1))] 49 ((0 + 5 <= 5 /\ 0 < 5) /\ (0 + 5 <= 5 /\ 0 < 5) /\ ·) ⟨(by decide), (by decide), ?_⟩
 refine PE.use (wtTree_ok _ ((sTreeDo t c).1) ((sTreeDo t c).1) rfl (by omega) (by omega)) ?_
 refine Ke (An0 3 [(52, .bool (!(wtT ((sTreeDo t c).1) ((sTreeDo t c).1)))), (51, .bool (!(wtT ((sTreeDo t c).1) ((sTreeDo t c).1)))), (50, .bool (!(wtT ((sTreeDo t c).1) ((sTreeDo t c).1))))] (run_b (fun g12 => ?_) (fun g12 => ?_)))
 have hg12 := g12
 try simp only [KF] at g12
 refine Mn0 true (by rw [hg11, hg12]; rfl)
 have hg12 := g12
 try simp only [KF] at g12
 refine Mn1 (!decide (((sTreeDo t c).2 : Int) = (0 : Int))) (Ki /\ ·) ⟨rfl, (by rw [hg11, hg12]; rfl)⟩
 refine Cc ((!decide (((sTreeDo t c).2 : Int) = ((sTreeDo t c).2 : Int))) || ((!(wtT ((sTreeDo t c).1) ((sTreeDo t c).1))) || (!decide (((sTreeDo t c).2 : Int) = (0 : Int))))) (fun hc13 c13 => ?_) fun hc13 c13 => ?_
 try simp only [KF] at c13
 refine Rm 2 ((decide (((sTreeDo t c).2 : Int) = ((sTreeDo t c).2 : Int))) && (wtT ((sTreeDo t c).1) ((sTreeDo t c).1))) [] ?_ ?_
 refine An1 4 [(59, .bool (decide (((sTreeDo t c).2 : Int) = ((sTreeDo t c).2 : Int)))), (58, .bool (decide (((sTreeDo t c).2 : Int) = ((sTreeDo t c).2 : Int)))), (57, .int .i64 ((sTreeDo t c).2)), (56, .int .i64 ((sTreeDo t c).2))] (Ki /\ ·) ⟨rfl, run_b (fun g15 => ?_) (fun g15 => ?_)⟩
 have hg15 := g15
 try simp only [KF] at g15
 refine Bc1 3 [(61, .agg (tcs ((sTreeDo t c).1))), (60, .agg (tcs ((sTreeDo t c).1)))] 7 [.agg (tcs ((sTreeDo t c).1)), .agg (tcs ((sTreeDo t c).1))] 62 ((0 + 5 <= 5 /\ 0 < 5) /\ (0 + 5 <= 5 /\ 0 < 5) /\ ·) ⟨(by decide), (by decide), ?_⟩
 refine PE.use (wtTree_ok _ ((sTreeDo t c).1) ((sTreeDo t c).1) rfl (by omega) (by omega)) ?_
 refine Ke (Mn0 (wtT ((sTreeDo t c).1) ((sTreeDo t c).1)) (by rw [hg15]; rfl))
 have hg15 := g15
 try simp only [KF] at g15
 refine Mn0 false (by rw [hg15]; rfl)
 refine Rt (.bool ((decide (((sTreeDo t c).2 : Int) = ((sTreeDo t c).2 : Int))) && (wtT ((sTreeDo t c).1) ((sTreeDo t c).1)))) (fin_lea ?_)
 have hr : ((decide (((sTreeDo t c).2 : Int) = ((sTreeDo t c).2 : Int))) && (wtT ((sTreeDo t c).1) ((sTreeDo t c).1))) = true := by
   rw [wtT_iff.2 rfl]; simp
 rw [hr]; exact lea_refl _
 try simp only [KF] at c13
 refine Sk (Jn (hK9 (Kp [3, 4, 5] ?_)))
 obtain ⟨hk0, hto, hco, hA⟩ := done0 (t := t) (c := c) (by
   have h := hc13
   rw [wtT_iff.2 rfl] at h
   simpa using h)
 obtain ⟨f1, f2, f3, f4⟩ := callOk_facts hco
 have htl := fun q => tList_len (sTreeDo t c).1 q
 have hta := fun u q => tAt_W u q
 have hta1 := tAt_W (sTreeDo t c).1 c.to; have hta2 := tAt_W t c.path; have htl1 := tList_len (sTreeDo t c).1 (c.path.take ((c.path.length : Int) - 1).toNat)
 refine Rr (Bc1 4 [(67, pth c.path), (66, .ptr 4 1), (65, .agg (tcs ((sTreeDo t c).1)))] 8 [.agg (tcs ((sTreeDo t c).1)), pth c.path] 68 ((0 + 5 <= 5 /\ 0 < 5) /\ ((1 : Nat) ≠ 0) /\ (1 + 1 <= 5 /\ 1 < 5) /\ ·) ⟨(by decide), (by decide), (by decide), PE.use (TreeAt_ok ((sTreeDo t c).1) c.path (by omega) (by omega)) (Ke (Fn3 [3, 4, 5] [(10, .bool ((tAt ((sTreeDo t c).1) c.path).2)), (9, .ptr 16 0)] [(16, tcs ((tAt ((sTreeDo t c).1) c.path).1)), (12, tcs ((sTreeDo t c).1)), (8, tcs ((sTreeDo t c).1)), (4, clc c), (0, tcs t)] 20 ((0 < 2) /\ (1 < 2) /\ (true = true /\ 5 = 5 /\ 0 + 5 <= 5) /\ ·) ⟨(by decide), (by decide), (by decide), ?_⟩))⟩)
 refine Rr (Bc1 4 [(74, pth c.path), (73, .ptr 4 1), (72, .agg (tcs t))] 8 [.agg (tcs t), pth c.path] 75 ((0 + 5 <= 5 /\ 0 < 5) /\ ((1 : Nat) ≠ 0) /\ (1 + 1 <= 5 /\ 1 < 5) /\ ·) ⟨(by decide), (by decide), (by decide), PE.use (TreeAt_ok t c.path (by omega) (by omega)) (Ke (Fn3 [4, 5, 9, 10] [(11, .ptr 20 0)] [(20, tcs ((tAt t c.path).1)), (16, tcs ((tAt ((sTreeDo t c).1) c.path).1)), (12, tcs ((sTreeDo t c).1)), (8, tcs ((sTreeDo t c).1)), (4, clc c), (0, tcs t)] 24 ((0 < 2) /\ (1 < 2) /\ (true = true /\ 5 = 5 /\ 0 + 5 <= 5) /\ ·) ⟨(by decide), (by decide), (by decide), ?_⟩))⟩)
 refine Sq fun K18 hK18 => ?_
 refine Rr (Fn1 [4, 5, 9, 10, 11] [(79, .int .i64 c.kind)] (((1 : Nat) ≠ 0) /\ (0 + 1 <= 5 /\ 0 < 5) /\ ·) ⟨(by decide), (by decide), Bl (Rr (Cn1 (decide ((c.kind : Int) = (1 : Int))) [4, 5, 9, 10, 11, 79] [] (Ki /\ ·) ⟨rfl, fun hc21 c21 => ?_, fun hc21 c21 => ?_⟩))⟩)
 try simp only [KF] at c21
 refine Qr [0, 0, 2, 0, 8, 24, 56, 126, 255, 511, 1023, 1023, 2047, 8191] [(0, []), (1, []), (2, []), (3, []), (4, []), (5, []), (6, []), (7, []), (8, []), (9, []), (10, []), (11, []), (12, []), (13, [])] (qAv1 (r := .int .i64 ((c.path.map (fun s => [AV.str s])).length : Nat)) (v := .int .i64 c.path.length) 6 88 [(87, pth c.path), (86, .ptr 4 1), (85, pth c.path), (84, .ptr 4 1), (83, .agg (tcs ((sTreeDo t c).1)))] (by rw [List.length_map]) ((0 + 5 <= 5 /\ 0 < 5) /\ ((1 : Nat) ≠ 0) /\ (1 + 1 <= 5 /\ 1 < 5) /\ ((1 : Nat) ≠ 0) /\ (1 + 1 <= 5 /\ 1 < 5) /\ ·) ⟨(by decide), (by decide), (by decide), (by decide), (by decide), qAv1 (r := .int .i64 (IntKind.i64.wrap ((c.path.length : Int) - 1))) (v := .int .i64 ((c.path.length : Int) - 1)) 1 89 [] (congrArg (AV.int .i64) (wrap64 (by omega) (by omega))) (Ki /\ ·) ⟨rfl, qAv1 (r := .sl 1 (((c.path.map (fun s => [AV.str s])).take (((c.path.length : Int) - 1).toNat)).drop 0)) (v := pth (c.path.take (((c.path.length : Int) - 1).toNat))) 1 90 [] (congrArg (AV.sl 1) (slm_0 _ _ _)) ((1 = 1 /\ 0 <= (0 : Int) /\ (0 : Int) <= ((c.path.length : Int) - 1) /\ ((c.path.length : Int) - 1) <= ((c.path.map (fun s => [AV.str s])).length : Int)) /\ ·) ⟨⟨rfl, by omega, by (try rw [List.length_map]); omega, by rw [List.length_map]; omega⟩, qBc0 1 [] [] 9 [.agg (tcs ((sTreeDo t c).1)), pth (c.path.take (((c.path.length : Int) - 1).toNat))] 91 ?_⟩⟩⟩)
 refine PE.use (TreeList_ok ((sTreeDo t c).1) (c.path.take (((c.path.length : Int) - 1).toNat)) (by omega) (by first | omega | (simp only [List.length_take]; omega))) ?_
 refine Kq (p := (True)) trivial ?_
 refine qFn1 [4, 5, 9] [(13, pth ((tList ((sTreeDo t c).1) (c.path.take (((c.path.length : Int) - 1).toNat))).1))] ((0 < 2) /\ (1 < 2) /\ ·) ⟨(by decide), (by decide), Rr (Bc1 4 [(97, pth c.path), (96, .ptr 4 1), (95, .agg (tcs ((sTreeDo t c).1)))] 9 [.agg (tcs ((sTreeDo t c).1)), pth c.path] 98 ((0 + 5 <= 5 /\ 0 < 5) /\ ((1 : Nat) ≠ 0) /\ (1 + 1 <= 5 /\ 1 < 5) /\ ·) ⟨(by decide), (by decide), (by decide), PE.use (TreeList_ok ((sTreeDo t c).1) c.path (by omega) (by first | omega | (simp only [List.length_take]; omega))) (Ke ?_)⟩)⟩
 refine Fn1 [4, 9, 13] [(16, .int .i64 ((tList ((sTreeDo t c).1) c.path).2)), (15, pth ((tList ((sTreeDo t c).1) c.path).1))] ((0 < 2) /\ (1 < 2) /\ ·) ⟨(by decide), (by decide), Rr (Fn0 [4, 9, 13, 15, 16] [(17, .bool false)] (Sq fun K25 hK25 => ?_))⟩
 refine Rr (Fn0 [4, 9, 13, 15, 16, 17] [(18, .int .i64 0)] (Bl (h_l (fun (k : Nat) => ([(4, .ptr 4 0), (9, .ptr 16 0), (13, pth ((tList ((sTreeDo t c).1) (c.path.take (((c.path.length : Int) - 1).toNat))).1)), (15, pth ((tList ((sTreeDo t c).1) c.path).1)), (16, .int .i64 ((tList ((sTreeDo t c).1) c.path).2)), (17, .bool (((tList (sTreeDo t c).1 (c.path.take ((c.path.length : Int) - 1).toNat)).1.take k).any (fun e => e == c.path.getD ((c.path.length : Int) - 1).toNat default))), (18, .int .i64 k)] : Fr)) (fun (k : Nat) => ([(20, tcs ((tAt t c.path).1)), (16, tcs ((tAt ((sTreeDo t c).1) c.path).1)), (12, tcs ((sTreeDo t c).1)), (8, tcs ((sTreeDo t c).1)), (4, clc c), (0, tcs t)] : Hp)) (fun (k : Nat) cn => (k <= (tList (sTreeDo t c).1 (c.path.take ((c.path.length : Int) - 1).toNat)).1.length) /\ cn = 24) (fun (k : Nat) => (tList (sTreeDo t c).1 (c.path.take ((c.path.length : Int) - 1).toNat)).1.length - k) 0 (by kernel_rfl) ?_ ?_ ?_ ?_)))
 refine ⟨?_, rfl⟩; omega
 exact ⟨by kernel_rfl, by kernel_rfl, by kernel_rfl, by kernel_rfl, by kernel_rfl, by kernel_rfl, by kernel_rfl, trivial⟩
 exact (sub_c (by kernel_rfl) (sub_c (by kernel_rfl) (sub_c (by kernel_rfl) (sub_c (by kernel_rfl) (sub_c (by kernel_rfl) (sub_c (by kernel_rfl) (List.nil_sublist _)))))))
 rintro k n1 hI
 (try dsimp only at hI)
 obtain ⟨hk, rfl⟩ := hI
 refine Sq fun K27 hK27 => ?_
 refine Rr (Av0 (r := .int .i64 ((((tList ((sTreeDo t c).1) (c.path.take (((c.path.length : Int) - 1).toNat))).1).map (fun s => [AV.str s])).length : Nat)) (v := .int .i64 ((((tList ((sTreeDo t c).1) (c.path.take (((c.path.length : Int) - 1).toNat))).1).length : Nat) : Int)) 3 103 [(102, pth ((tList ((sTreeDo t c).1) (c.path.take (((c.path.length : Int) - 1).toNat))).1)), (101, .int .i64 k)] (by rw [List.length_map]) (Cn1 (decide ((k : Int) < ((((tList ((sTreeDo t c).1) (c.path.take (((c.path.length : Int) - 1).toNat))).1).length : Nat) : Int))) [4, 9, 13, 15, 16, 17, 18] [] (Ki /\ ·) ⟨rfl, fun hc29 c29 => ?_, fun hc29 c29 => ?_⟩))
 try simp only [KF] at c29
 refine Sk (Jn (hK27 (Kp [4, 9, 13, 15, 16, 17, 18] (Sq fun K30 hK30 => ?_))))
 refine Bl (Ql [0, 1, 3, 3, 15, 31, 3, 67, 3, 259, 771, 1795, 4035, 8131, 16383, 32767] [(0, []), (1, []), (2, []), (3, []), (4, []), (5, []), (6, []), (7, []), (8, []), (9, []), (10, []), (11, []), (12, []), (13, []), (14, []), (15, [])] (qAn0 2 [(108, .bool (((tList (sTreeDo t c).1 (c.path.take ((c.path.length : Int) - 1).toNat)).1.take k).any (fun e => e == c.path.getD ((c.path.length : Int) - 1).toNat default))), (107, .bool (((tList (sTreeDo t c).1 (c.path.take ((c.path.length : Int) - 1).toNat)).1.take k).any (fun e => e == c.path.getD ((c.path.length : Int) - 1).toNat default)))] (runq_b (fun g31 => ?_) (fun g31 => ?_))))
 have hg31 := g31
 try simp only [KF] at g31
 refine qGn0 [(122, .bool true), (121, .tup []), (120, .tup []), (119, .tup []), (118, .tup []), (117, .tup []), (116, .tup []), (115, .tup []), (114, .tup []), (113, .tup []), (112, .tup []), (111, .tup []), (110, .tup []), (109, .tup [])] (Lo 17 (.bool true) (fun Z => Z) (nk_n (Bn (Jn (hK30 (Kp [4, 9, 13, 15, 16, 17, 18] (Rn ?_)))))))
 refine Av1 2 106 [(105, .int .i64 k)] (congrArg (AV.int .i64) (wn1 k (by omega))) (Ki /\ ·) ⟨rfl, Gn0 [(18, .int .i64 ((k + 1 : Nat) : Int))] (nk_n (Lr (k + 1) [(0, 0), (4, 4), (8, 8), (12, 12), (16, 16), (20, 20)] 24 [(4, .ptr 4 0), (9, .ptr 16 0), (13, pth ((tList ((sTreeDo t c).1) (c.path.take (((c.path.length : Int) - 1).toNat))).1)), (15, pth ((tList ((sTreeDo t c).1) c.path).1)), (16, .int .i64 ((tList ((sTreeDo t c).1) c.path).2)), (17, .bool true), (18, .int .i64 ((k + 1 : Nat) : Int))] [(20, tcs ((tAt t c.path).1)), (16, tcs ((tAt ((sTreeDo t c).1) c.path).1)), (12, tcs ((sTreeDo t c).1)), (8, tcs ((sTreeDo t c).1)), (4, clc c), (0, tcs t)] [true, true, true, true, true, true] ?_ ?_ (by kernel_rfl) (by (try (rw [any_succ _ _ _ default (by omega)]; first | rw [show List.any _ _ = true by assumption] | rw [show List.any _ _ = false by assumption])); try kernel_rfl)))⟩
 (try dsimp only); omega
 refine ⟨?_, rfl⟩; (try dsimp only); omega
 have hg31 := g31
 try simp only [KF] at g31
 refine qAv1 3 111 [(110, .int .i64 k), (109, pth ((tList ((sTreeDo t c).1) (c.path.take (((c.path.length : Int) - 1).toNat))).1))] (congrArg AV.pat (mg_str ((tList ((sTreeDo t c).1) (c.path.take (((c.path.length : Int) - 1).toNat))).1) k (by omega))) (fun Z => (1 = 1 /\ (0 : Int) <= (k : Int) /\ (k : Int) < (((((tList ((sTreeDo t c).1) (c.path.take (((c.path.length : Int) - 1).toNat))).1).map (fun s => [AV.str s])).length : Nat) : Int)) /\ Z) ⟨⟨rfl, by omega, by rw [List.length_map]; omega⟩, qAv1 (r := .int .i64 ((c.path.map (fun s => [AV.str s])).length : Nat)) (v := .int .i64 c.path.length) 6 117 [(116, pth c.path), (115, .ptr 4 1), (114, pth c.path), (113, .ptr 4 1), (112, .str (((tList ((sTreeDo t c).1) (c.path.take (((c.path.length : Int) - 1).toNat))).1).getD k default))] (by rw [List.length_map]) ((1 <= 1 /\ 0 < 1) /\ ((1 : Nat) ≠ 0) /\ (1 + 1 <= 5 /\ 1 < 5) /\ ((1 : Nat) ≠ 0) /\ (1 + 1 <= 5 /\ 1 < 5) /\ ·) ⟨(by decide), (by decide), (by decide), (by decide), (by decide), qAv1 (r := .int .i64 (IntKind.i64.wrap ((c.path.length : Int) - 1))) (v := .int .i64 ((c.path.length : Int) - 1)) 1 118 [] (congrArg (AV.int .i64) (wrap64 (by omega) (by omega))) (Ki /\ ·) ⟨rfl, qAv1 1 119 [] (congrArg AV.pat (mg_str c.path (((c.path.length : Int) - 1).toNat) (by omega))) ((1 = 1 /\ (0 : Int) <= ((c.path.length : Int) - 1) /\ ((c.path.length : Int) - 1) < ((c.path.map (fun s => [AV.str s])).length : Int)) /\ ·) ⟨⟨rfl, by omega, by rw [List.length_map]; omega⟩, qGn1 [(122, .bool ((((tList ((sTreeDo t c).1) (c.path.take (((c.path.length : Int) - 1).toNat))).1).getD k default) == (c.path.getD (((c.path.length : Int) - 1).toNat) default))), (121, .bool ((((tList ((sTreeDo t c).1) (c.path.take (((c.path.length : Int) - 1).toNat))).1).getD k default) == (c.path.getD (((c.path.length : Int) - 1).toNat) default))), (120, .str (c.path.getD (((c.path.length : Int) - 1).toNat) default))] ((1 <= 1 /\ 0 < 1) /\ ·) ⟨(by decide), ?_⟩⟩⟩⟩⟩
 refine Lo 17 (.bool ((((tList ((sTreeDo t c).1) (c.path.take (((c.path.length : Int) - 1).toNat))).1).getD k default) == (c.path.getD (((c.path.length : Int) - 1).toNat) default))) (fun Z => Z) ?_
 refine nk_n (Bn (Jn (hK30 (Kp [4, 9, 13, 15, 16, 17, 18] (Rn (Av1 2 106 [(105, .int .i64 k)] (congrArg (AV.int .i64) (wn1 k (by omega))) (Ki /\ ·) ⟨rfl, Gn0 [(18, .int .i64 ((k + 1 : Nat) : Int))] ?_⟩))))))
 refine nk_n (Lr (k + 1) [(0, 0), (4, 4), (8, 8), (12, 12), (16, 16), (20, 20)] 24 [(4, .ptr 4 0), (9, .ptr 16 0), (13, pth ((tList ((sTreeDo t c).1) (c.path.take (((c.path.length : Int) - 1).toNat))).1)), (15, pth ((tList ((sTreeDo t c).1) c.path).1)), (16, .int .i64 ((tList ((sTreeDo t c).1) c.path).2)), (17, .bool ((((tList ((sTreeDo t c).1) (c.path.take (((c.path.length : Int) - 1).toNat))).1).getD k default) == (c.path.getD (((c.path.length : Int) - 1).toNat) default))), (18, .int .i64 ((k + 1 : Nat) : Int))] [(20, tcs ((tAt t c.path).1)), (16, tcs ((tAt ((sTreeDo t c).1) c.path).1)), (12, tcs ((sTreeDo t c).1)), (8, tcs ((sTreeDo t c).1)), (4, clc c), (0, tcs t)] [true, true, true, true, true, true] ?_ ?_ (by kernel_rfl) (by (try (rw [any_succ _ _ _ default (by omega)]; first | rw [show List.any _ _ = true by assumption] | rw [show List.any _ _ = false by assumption])); try kernel_rfl))
 (try dsimp only); omega
 refine ⟨?_, rfl⟩; (try dsimp only); omega
 try simp only [KF] at c29
 refine Xt (Jx (Lx (Bh (Jn (hK25 (Kp [4, 9, 15, 16, 17] (Rm 2 ((((tList (sTreeDo t c).1 (c.path.take ((c.path.length : Int) - 1).toNat)).1.take k).any (fun e => e == c.path.getD ((c.path.length : Int) - 1).toNat default)) && ((decide (((tList ((sTreeDo t c).1) c.path).2 : Int) = (0 : Int))) && ((decide (((((tList ((sTreeDo t c).1) c.path).1).length : Nat) : Int) = 0)) && (decide ((((tAt ((sTreeDo t c).1) c.path).1).mode : Int) = (c.at_ : Int)))))) [] ?_ ?_)))))))
 refine An0 2 [(124, .bool (((tList (sTreeDo t c).1 (c.path.take ((c.path.length : Int) - 1).toNat)).1.take k).any (fun e => e == c.path.getD ((c.path.length : Int) - 1).toNat default))), (123, .bool (((tList (sTreeDo t c).1 (c.path.take ((c.path.length : Int) - 1).toNat)).1.take k).any (fun e => e == c.path.getD ((c.path.length : Int) - 1).toNat default)))] (run_b (fun g33 => ?_) (fun g33 => ?_))
 have hg33 := g33
 try simp only [KF] at g33
 refine An1 4 [(128, .bool (decide (((tList ((sTreeDo t c).1) c.path).2 : Int) = (0 : Int)))), (127, .bool (decide (((tList ((sTreeDo t c).1) c.path).2 : Int) = (0 : Int)))), (126, .bool (decide (((tList ((sTreeDo t c).1) c.path).2 : Int) = (0 : Int)))), (125, .int .i64 ((tList ((sTreeDo t c).1) c.path).2))] (Ki /\ ·) ⟨rfl, run_b (fun g34 => ?_) (fun g34 => ?_)⟩
 have hg34 := g34
 try simp only [KF] at g34
 refine Av0 (r := .int .i64 ((((tList ((sTreeDo t c).1) c.path).1).map (fun s => [AV.str s])).length : Nat)) (v := .int .i64 ((((tList ((sTreeDo t c).1) c.path).1).length : Nat) : Int)) 2 130 [(129, pth ((tList ((sTreeDo t c).1) c.path).1))] (by rw [List.length_map]) (An1 3 [(133, .bool (decide (((((tList ((sTreeDo t c).1) c.path).1).length : Nat) : Int) = 0))), (132, .bool (decide (((((tList ((sTreeDo t c).1) c.path).1).length : Nat) : Int) = 0))), (131, .bool (decide (((((tList ((sTreeDo t c).1) c.path).1).length : Nat) : Int) = 0)))] (Ki /\ ·) ⟨rfl, run_b (fun g35 => ?_) (fun g35 => ?_)⟩)
 have hg35 := g35
 try simp only [KF] at g35
 refine Mn1 (decide ((((tAt ((sTreeDo t c).1) c.path).1).mode : Int) = (c.at_ : Int))) (((1 : Nat) ≠ 0) /\ (1 + 1 <= 5 /\ 1 < 5) /\ ((1 : Nat) ≠ 0) /\ (3 + 1 <= 5 /\ 3 < 5) /\ Ki /\ ·) ⟨(by decide), (by decide), (by decide), (by decide), rfl, (by rw [hg33, hg34, hg35]; rfl)⟩
 have hg35 := g35
 try simp only [KF] at g35
 refine Mn0 false (by rw [hg33, hg34, hg35]; rfl)
 have hg34 := g34
 try simp only [KF] at g34
 refine Mn0 false (by rw [hg33, hg34]; rfl)
 have hg33 := g33
 try simp only [KF] at g33
 refine Mn0 false (by rw [hg33]; rfl)
 refine Rt (.bool ((((tList (sTreeDo t c).1 (c.path.take ((c.path.length : Int) - 1).toNat)).1.take k).any (fun e => e == c.path.getD ((c.path.length : Int) - 1).toNat default)) && ((decide (((tList ((sTreeDo t c).1) c.path).2 : Int) = (0 : Int))) && ((decide (((((tList ((sTreeDo t c).1) c.path).1).length : Nat) : Int) = 0)) && (decide ((((tAt ((sTreeDo t c).1) c.path).1).mode : Int) = (c.at_ : Int))))))) ?_
 · refine fin_lea ?_
   have hr : ((((tList (sTreeDo t c).1 (c.path.take ((c.path.length : Int) - 1).toNat)).1.take k).any (fun e => e == c.path.getD ((c.path.length : Int) - 1).toNat default)) && ((decide (((tList ((sTreeDo t c).1) c.path).2 : Int) = (0 : Int))) && ((decide (((((tList ((sTreeDo t c).1) c.path).1).length : Nat) : Int) = 0)) && (decide ((((tAt ((sTreeDo t c).1) c.path).1).mode : Int) = (c.at_ : Int)))))) = true := by
     have hkn : c.kind = 1 := by simpa using hc21
     obtain rfl : k = (tList (sTreeDo t c).1 (c.path.take ((c.path.length : Int) - 1).toNat)).1.length := by omega
     rw [List.take_length, hA, show ((c.path.length : Int) - 1).toNat = c.path.length - 1 by omega]
     obtain ⟨d1, d2, d3, d4⟩ := done1 hto hco (hA ▸ hk0) hkn
     rw [show ((c.path.length : Int) - 1).toNat = c.path.length - 1 by omega] at d1
     rw [d1, d2, d3, d4]; simp
   rw [hr]; exact lea_refl _
 try simp only [KF] at c21
 refine Rr (Cn1 (decide ((c.kind : Int) = (2 : Int))) [4, 5, 9, 10, 11, 79] [] (Ki /\ ·) ⟨rfl, fun hc37 c37 => ?_, fun hc37 c37 => ?_⟩)
 try simp only [KF] at c37
 obtain ⟨f8, f9⟩ := f3 (.inl (by assumption))
 refine Rr (Bc1 9 [(150, .int .i64 c.data.length), (149, .str c.data), (148, .ptr 4 4), (147, .int .i64 c.at_), (146, .ptr 4 3), (145, pth c.path), (144, .ptr 4 1), (143, .agg (tcs ((sTreeDo t c).1)))] 10 [.agg (tcs ((sTreeDo t c).1)), pth c.path, .int .i64 c.at_, .int .i64 c.data.length] 151 ((0 + 5 <= 5 /\ 0 < 5) /\ ((1 : Nat) ≠ 0) /\ (1 + 1 <= 5 /\ 1 < 5) /\ ((1 : Nat) ≠ 0) /\ (3 + 1 <= 5 /\ 3 < 5) /\ ((1 : Nat) ≠ 0) /\ (4 + 1 <= 5 /\ 4 < 5) /\ ·) ⟨(by decide), (by decide), (by decide), (by decide), (by decide), (by decide), (by decide), PE.use (TreeRead_ok ((sTreeDo t c).1) c.path c.at_ (c.data.length : Int) (by omega) (by omega) (by omega) (by omega) (by omega)) (Ke (Fn1 [4] [(20, .int .i64 ((tRead ((sTreeDo t c).1) c.path c.at_ (c.data.length : Int)).2)), (19, .str ((tRead ((sTreeDo t c).1) c.path c.at_ (c.data.length : Int)).1))] ((0 < 2) /\ (1 < 2) /\ ·) ⟨(by decide), (by decide), ?_⟩))⟩)
 refine Rm 2 ((decide (((tRead ((sTreeDo t c).1) c.path c.at_ (c.data.length : Int)).2 : Int) = (0 : Int))) && (((tRead ((sTreeDo t c).1) c.path c.at_ (c.data.length : Int)).1) == c.data)) [] ?_ ?_
 refine An1 3 [(156, .bool (decide (((tRead ((sTreeDo t c).1) c.path c.at_ (c.data.length : Int)).2 : Int) = (0 : Int)))), (155, .bool (decide (((tRead ((sTreeDo t c).1) c.path c.at_ (c.data.length : Int)).2 : Int) = (0 : Int)))), (154, .int .i64 ((tRead ((sTreeDo t c).1) c.path c.at_ (c.data.length : Int)).2))] (Ki /\ ·) ⟨rfl, run_b (fun g40 => ?_) (fun g40 => ?_)⟩
 have hg40 := g40
 try simp only [KF] at g40
 refine Mn1 (((tRead ((sTreeDo t c).1) c.path c.at_ (c.data.length : Int)).1) == c.data) (((1 : Nat) ≠ 0) /\ (4 + 1 <= 5 /\ 4 < 5) /\ ·) ⟨(by decide), (by decide), (by rw [hg40]; rfl)⟩
 have hg40 := g40
 try simp only [KF] at g40
 refine Mn0 false (by rw [hg40]; rfl)
 refine Rt (.bool ((decide (((tRead ((sTreeDo t c).1) c.path c.at_ (c.data.length : Int)).2 : Int) = (0 : Int))) && (((tRead ((sTreeDo t c).1) c.path c.at_ (c.data.length : Int)).1) == c.data))) ?_
 · refine fin_lea ?_
   have hr : ((decide (((tRead ((sTreeDo t c).1) c.path c.at_ (c.data.length : Int)).2 : Int) = (0 : Int))) && (((tRead ((sTreeDo t c).1) c.path c.at_ (c.data.length : Int)).1) == c.data)) = true := by
     have hkn : c.kind = 2 := by simpa using hc37
     rw [hA, done2 hto hco (hA ▸ hk0) hkn]; simp
   rw [hr]; exact lea_refl _
 try simp only [KF] at c37
 refine Rr (Cn1 (decide ((c.kind : Int) = (3 : Int))) [4, 5, 9, 10, 11, 79] [] (Ki /\ ·) ⟨rfl, fun hc42 c42 => ?_, fun hc42 c42 => ?_⟩)
 try simp only [KF] at c42
 refine Rr (Fn1 [] [(2, .bool (decide ((((((tAt ((sTreeDo t c).1) c.path).1).data).length : Nat) : Int) = c.at_)))] (((1 : Nat) ≠ 0) /\ (2 + 1 <= 5 /\ 2 < 5) /\ ((1 : Nat) ≠ 0) /\ (3 + 1 <= 5 /\ 3 < 5) /\ Ki /\ ·) ⟨(by decide), (by decide), (by decide), (by decide), rfl, Rt (.bool (decide ((((((tAt ((sTreeDo t c).1) c.path).1).data).length : Nat) : Int) = c.at_))) ?_⟩)
 · refine fin_lea ?_
   have hr : (decide ((((((tAt ((sTreeDo t c).1) c.path).1).data).length : Nat) : Int) = c.at_)) = true := by
     have hkn : c.kind = 3 := by simpa using hc42
     rw [hA, done3 hto hco (hA ▸ hk0) hkn]; simp
   rw [hr]; exact lea_refl _
 try simp only [KF] at c42
 refine Rr (Cn1 (decide ((c.kind : Int) = (4 : Int))) [4, 5, 9, 10, 11, 79] [] (Ki /\ ·) ⟨rfl, fun hc45 c45 => ?_, fun hc45 c45 => ?_⟩)
 try simp only [KF] at c45
 refine Rr (Fn0 [] [(2, .bool (!((tAt ((sTreeDo t c).1) c.path).2)))] (Rt (.bool (!((tAt ((sTreeDo t c).1) c.path).2))) ?_))
 · refine fin_lea ?_
   have hr : (!((tAt ((sTreeDo t c).1) c.path).2)) = true := by
     have hkn : c.kind = 4 := by simpa using hc45
     rw [hA, done4 hto hco (hA ▸ hk0) hkn]; rfl
   rw [hr]; exact lea_refl _
 try simp only [KF] at c45
 refine Rr (Cn1 (decide ((c.kind : Int) = (5 : Int))) [4, 5, 9, 10, 11] [] (Ki /\ ·) ⟨rfl, fun hc48 c48 => ?_, fun hc48 c48 => ?_⟩)
 try simp only [KF] at c48
 refine Rr (Bc1 4 [(179, pth c.to), (178, .ptr 4 2), (177, .agg (tcs ((sTreeDo t c).1)))] 8 [.agg (tcs ((sTreeDo t c).1)), pth c.to] 180 ((0 + 5 <= 5 /\ 0 < 5) /\ ((1 : Nat) ≠ 0) /\ (2 + 1 <= 5 /\ 2 < 5) /\ ·) ⟨(by decide), (by decide), (by decide), PE.use (TreeAt_ok ((sTreeDo t c).1) c.to (by omega) (by omega)) (Ke (Fn3 [10, 11] [(22, .bool ((tAt ((sTreeDo t c).1) c.to).2)), (21, .ptr 24 0)] [(24, tcs ((tAt ((sTreeDo t c).1) c.to).1)), (20, tcs ((tAt t c.path).1)), (16, tcs ((tAt ((sTreeDo t c).1) c.path).1)), (12, tcs ((sTreeDo t c).1)), (8, tcs ((sTreeDo t c).1)), (4, clc c), (0, tcs t)] 28 ((0 < 2) /\ (1 < 2) /\ (true = true /\ 5 = 5 /\ 0 + 5 <= 5) /\ ·) ⟨(by decide), (by decide), (by decide), ?_⟩))⟩)
 refine Rm 2 ((!((tAt ((sTreeDo t c).1) c.path).2)) && (((tAt ((sTreeDo t c).1) c.to).2) && (wtT ((tAt ((sTreeDo t c).1) c.to).1) ((tAt t c.path).1)))) [] ?_ ?_
 refine An0 3 [(185, .bool (!((tAt ((sTreeDo t c).1) c.path).2))), (184, .bool (!((tAt ((sTreeDo t c).1) c.path).2))), (183, .bool ((tAt ((sTreeDo t c).1) c.path).2))] (run_b (fun g51 => ?_) (fun g51 => ?_))
 have hg51 := g51
 try simp only [KF] at g51
 refine An0 3 [(188, .bool ((tAt ((sTreeDo t c).1) c.to).2)), (187, .bool ((tAt ((sTreeDo t c).1) c.to).2)), (186, .bool ((tAt ((sTreeDo t c).1) c.to).2))] (run_b (fun g52 => ?_) (fun g52 => ?_))
 have hg52 := g52
 try simp only [KF] at g52
 refine Bc1 3 [(190, .agg (tcs ((tAt t c.path).1))), (189, .agg (tcs ((tAt ((sTreeDo t c).1) c.to).1)))] 7 [.agg (tcs ((tAt ((sTreeDo t c).1) c.to).1)), .agg (tcs ((tAt t c.path).1))] 191 ((0 + 5 <= 5 /\ 0 < 5) /\ (0 + 5 <= 5 /\ 0 < 5) /\ ·) ⟨(by decide), (by decide), ?_⟩
 refine PE.use (wtTree_ok _ ((tAt ((sTreeDo t c).1) c.to).1) ((tAt t c.path).1) rfl (by omega) (by omega)) ?_
 refine Ke (Mn0 (wtT ((tAt ((sTreeDo t c).1) c.to).1) ((tAt t c.path).1)) (by rw [hg51, hg52]; rfl))
 have hg52 := g52
 try simp only [KF] at g52
 refine Mn0 false (by rw [hg51, hg52]; rfl)
 have hg51 := g51
 try simp only [KF] at g51
 refine Mn0 false (by rw [hg51]; rfl)
 refine Rt (.bool ((!((tAt ((sTreeDo t c).1) c.path).2)) && (((tAt ((sTreeDo t c).1) c.to).2) && (wtT ((tAt ((sTreeDo t c).1) c.to).1) ((tAt t c.path).1))))) ?_
 · refine fin_lea ?_
   have hr : ((!((tAt ((sTreeDo t c).1) c.path).2)) && (((tAt ((sTreeDo t c).1) c.to).2) && (wtT ((tAt ((sTreeDo t c).1) c.to).1) ((tAt t c.path).1)))) = true := by
     have hkn : c.kind = 5 := by simpa using hc48
     obtain ⟨d1, d2, d3⟩ := done5 hto hco (hA ▸ hk0) hkn
     rw [hA, d1, d2, d3, wtT_iff.2 rfl]; rfl
   rw [hr]; exact lea_refl _
 try simp only [KF] at c48
 refine Sk (Bn (Jn (hK18 (Kp [4, 9, 11] (Rm 2 ((decide ((((tAt ((sTreeDo t c).1) c.path).1).mode : Int) = (c.at_ : Int))) && ((((tAt ((sTreeDo t c).1) c.path).1).data) == (((tAt t c.path).1).data))) [] ?_ ?_)))))
 refine An1 6 [(198, .bool (decide ((((tAt ((sTreeDo t c).1) c.path).1).mode : Int) = (c.at_ : Int)))), (197, .bool (decide ((((tAt ((sTreeDo t c).1) c.path).1).mode : Int) = (c.at_ : Int)))), (196, .int .i64 c.at_), (195, .ptr 4 3), (194, .int .i64 (((tAt ((sTreeDo t c).1) c.path).1).mode)), (193, .ptr 16 1)] (((1 : Nat) ≠ 0) /\ (1 + 1 <= 5 /\ 1 < 5) /\ ((1 : Nat) ≠ 0) /\ (3 + 1 <= 5 /\ 3 < 5) /\ Ki /\ ·) ⟨(by decide), (by decide), (by decide), (by decide), rfl, run_b (fun g54 => ?_) (fun g54 => ?_)⟩
 have hg54 := g54
 try simp only [KF] at g54
 refine Mn1 ((((tAt ((sTreeDo t c).1) c.path).1).data) == (((tAt t c.path).1).data)) (((1 : Nat) ≠ 0) /\ (2 + 1 <= 5 /\ 2 < 5) /\ ((1 : Nat) ≠ 0) /\ (2 + 1 <= 5 /\ 2 < 5) /\ ·) ⟨(by decide), (by decide), (by decide), (by decide), (by rw [hg54]; rfl)⟩
 have hg54 := g54
 try simp only [KF] at g54
 refine Mn0 false (by rw [hg54]; rfl)
 refine Rt (.bool ((decide ((((tAt ((sTreeDo t c).1) c.path).1).mode : Int) = (c.at_ : Int))) && ((((tAt ((sTreeDo t c).1) c.path).1).data) == (((tAt t c.path).1).data)))) ?_
 · refine fin_lea ?_
   have hr : ((decide ((((tAt ((sTreeDo t c).1) c.path).1).mode : Int) = (c.at_ : Int))) && ((((tAt ((sTreeDo t c).1) c.path).1).data) == (((tAt t c.path).1).data))) = true := by
     have hk6 : c.kind = 6 := by have := kinds hco; omega
     obtain ⟨d1, d2⟩ := done6 hto hco (hA ▸ hk0) hk6
     rw [hA, d1, d2]; simp
   rw [hr]; exact lea_refl _
end Go.Proofs.YtenfnlcpaenhnaaT
namespace Go.Proofs.Ytenfnlcpaenhnaa
open Go.ChangeShapes Go.WideShapes Go.ChangeAt Go.RowKit
theorem ext_below {w w' : World} (h : YtenfnlcpaenhnaaT.Ext (fun _ => False) w w') : Below w.heap.size w w' := ⟨h.os, h.tape, h.output, h.size, fun k hk => h.keep k hk fun x => x⟩
theorem calls_of {P : Program} {f : Nat} {vs : Array Value} {w : World} {R : Ending -> World -> Prop} {fn : Func} {b : Code} (hf : P.funcs[f]? = some fn) (hb : fn.body = some b) (hnm : (fn.name == "runtime.NumGoroutine") = false) (h : YtenfnlcpaenhnaaT.CallsX P f vs w R) : Calls P f vs w R := by
 have hnm' : ¬ fn.name = "runtime.NumGoroutine" := by simpa using hnm
 have henter : (callFunc f vs).run P w = .ok (.enter f vs) w := by
  simp [callFunc, hf, hnm', hb]
 unfold YtenfnlcpaenhnaaT.CallsX at h
 rw [henter] at h
 exact h.2
theorem callDone (zs : List Int) (hw : ∀ n ∈ zs, (Lit.int .u8 n).wf = true) (A : Option Addr) (c : Nat) (W : World) (hc : zs.length <= c)
  (ha : zs ≠ [] -> ∃ a, A = some a /\ a.block < W.heap.size /\ ∀ i, i < zs.length -> W.cell? (a.add i) = some (.int .u8 (zs.getD i 0))) :
  YtenfnlcpaenhnaaT.CallsX Try.prog 3 #[.slice A zs.length c] W fun e W' => e = .returned (.bool true) /\ Below W.heap.size W W' := by
 let X : YtenfnlcpaenhnaaT.Str := zs.map fun n => UInt8.ofNat n.toNat
 have hX : X.map (fun c => [YtenfnlcpaenhnaaT.AV.int .u8 (c.toNat : Int)]) = zs.map fun n => [YtenfnlcpaenhnaaT.AV.int .u8 n] := by
  simp only [X, List.map_map]
  refine List.map_congr_left fun n hn => ?_
  have := hw n hn
  simp only [Lit.wf, Bool.and_eq_true, decide_eq_true_eq] at this
  have h1 : 0 <= n := by have := this.1; simpa [IntKind.min, IntKind.signed] using this
  have h2 : n <= 255 := by have := this.2; simpa [IntKind.max, IntKind.signed, IntKind.bits] using this
  simp only [Function.comp]
  congr 2
  rw [UInt8.toNat_ofNat']
  omega
 have h := YtenfnlcpaenhnaaT.FnCallDone_ok X
 rw [hX] at h
 refine YtenfnlcpaenhnaaT.CallsX.mono (h (fun _ => none) 0 (fun _ => False) W #[.slice A zs.length c] ⟨rfl, fun _ _ _ => rfl, 0, fun _ _ => rfl⟩ (fun _ hb => hb.elim) ?_) ?_
 ·simp only [YtenfnlcpaenhnaaT.VRs, YtenfnlcpaenhnaaT.VR, and_true]
  refine ⟨A, c, by rw [List.length_map], by rw [List.length_map]; exact hc, fun hne => ?_⟩
  obtain ⟨a, rfl, hb, hcell⟩ := ha (by rintro rfl; exact hne rfl)
  refine ⟨a, rfl, fun x => x, hb, ?_⟩
  have key : ∀ (l : List Int) (k : Nat), (∀ i, i < l.length -> W.cell? (a.add (k + i)) = some (.int .u8 (l.getD i 0))) -> YtenfnlcpaenhnaaT.PEs (fun _ => none) W (fun _ => False) 1 (l.map fun n => [YtenfnlcpaenhnaaT.AV.int .u8 n]) a k := by
   intro l
   induction l with
   | nil => intro k _; simp only [List.map_nil, YtenfnlcpaenhnaaT.PEs]
   | cons n l ih =>
    intro k hl
    simp only [List.map_cons, YtenfnlcpaenhnaaT.PEs, YtenfnlcpaenhnaaT.PCs, YtenfnlcpaenhnaaT.VR, List.length_cons, List.length_nil, Nat.mul_one, and_true]
    refine ⟨trivial, ⟨_, by simpa using hl 0 (by simp), rfl, rfl⟩, ih (k + 1) fun i hi => ?_⟩
    have := hl (i + 1) (by simpa using hi)
    rw [show k + 1 + i = k + (i + 1) by omega]
    simpa using this
  exact key zs 0 (fun i hi => by rw [Nat.zero_add]; exact hcell i hi)
 ·rintro e W' ⟨v, r, rfl, rfl, hv, hx⟩
  simp only [YtenfnlcpaenhnaaT.VR] at hv
  exact ⟨by rw [hv], ext_below hx⟩
theorem own : ownKnob Try.prog.godebug = none := by kernel_rfl
theorem contract (H : Type) (enc : TypeId × Value -> H) (W : World) (base : Nat) (args : Array Value) (ds gs : List (DataW H)) (before : List MemPlace)
  (hval : ∀ (j : Nat) t v, Try.f3.params[j]? = some t -> args[j]? = some v -> Value.okWide Try.prog W .any base t v)
  (hW : DataW.Whole enc Try.prog Try.f3.params.toList Rows.fnCallDoneSpec.vars false W args.toList ds gs before) :
  Calls Try.prog 3 args W fun e W' => ∃ v, e = .returned v /\ Rows.fnCallDoneSpec.post enc Try.prog Try.f3 false true false false W args v W' := by
 have hW' := hW
 obtain ⟨p, q, hA0, hV, rfl, hfz, hnd⟩ := hW
 have hA : DataW.TrodAll enc Try.prog W 0 (fun _ => true) true Try.f3.params.toList args.toList ds p := hA0
 rw [Try.params3] at hA hval
 obtain ⟨v0, vs0, d0, ds0, p0, q0, hargs, rfl, rfl, h0, r0⟩ := trodAll_cons hA
 obtain ⟨rfl, rfl, rfl⟩ := trodAll_nil r0
 obtain rfl : args = #[v0] := by cases args; simp_all
 obtain ⟨rfl, rfl⟩ := trodVars_none hV
 simp only [List.append_nil] at hW'
 have hlt : ∀ x ∈ p0, x.block < W.heap.size := fun x hx => by simpa using hW'.lt x hx
 have hargs2 : ∀ (W' : World), Below W.heap.size W W' -> DataW.Trod enc Try.prog W' 0 (fun b => decide (b < W.heap.size)) true 22 v0 d0 p0 :=
  fun W' hn => Below.trod (by kernel_rfl) (by kernel_rfl) (of_decide_eq_true (by kernel_rfl)) h0 hn hlt
 have fin : ∀ W', Below W.heap.size W W' -> Rows.fnCallDoneSpec.post enc Try.prog Try.f3 false true false false W #[v0] (.bool true) W' := fun W' hb =>
  ⟨_, _, _, [], _, [], hW', trodAll_mk1 (shut_bool Try.underlying4 true), trodAll_mk1 (hargs2 W' hb), rfl, hb.frame _, fun h => by cases h⟩
 obtain ⟨fuel, hf⟩ := h0
 obtain ⟨a0, len, cap, rfl⟩ := okWide_slice Try.underlying22 (hval 0 22 v0 rfl rfl)
 have go : ∀ (zs : List Int) (A : Option Addr) (c : Nat), (∀ n ∈ zs, (Lit.int .u8 n).wf = true) -> zs.length <= c -> (zs ≠ [] -> ∃ a, A = some a /\ a.block < W.heap.size /\ ∀ i, i < zs.length -> W.cell? (a.add i) = some (.int .u8 (zs.getD i 0))) -> Value.slice a0 len cap = .slice A zs.length c ->
   Calls Try.prog 3 #[.slice a0 len cap] W fun e W' => ∃ v, e = .returned v /\ Rows.fnCallDoneSpec.post enc Try.prog Try.f3 false true false false W #[.slice a0 len cap] v W' := by
  intro zs A c h1 h2 h3 h4
  rw [h4]
  rw [h4] at fin
  exact (calls_of (b := YtenfnlcpaenhnaaT.bd Try.f3) Try.func3 (by kernel_rfl) (by kernel_rfl) (callDone zs h1 A c W h2 h3)).mono fun e W' ⟨he, hb⟩ => ⟨_, he, fin W' hb⟩
 rcases open_ints Try.underlying22 Try.underlying5 (by kernel_rfl) hf with ⟨hcs, hx⟩ | ⟨a, len', cap', zs, hcs, _, hl, hm, hz, hx, hcell, hwz⟩
 ·simp [Value.cells] at hcs
  obtain ⟨rfl, rfl, rfl⟩ := hcs
  exact go [] none 0 (by simp) (Nat.le_refl _) (fun h => absurd rfl h) rfl
 ·simp [Value.cells] at hcs
  obtain ⟨rfl, rfl, rfl⟩ := hcs
  simp only [Prod.mk.injEq] at hx
  obtain ⟨rfl, rfl⟩ := hx
  simp only [if_true] at hz
  have hl2 : (zs.take len).length = len := by rw [List.length_take]; omega
  refine go (zs.take len) (some a) cap (fun n hn => hwz n (List.mem_of_mem_take hn)) (by omega) (fun hne => ⟨a, rfl, ?_, fun i hi => ?_⟩) (by rw [hl2])
  ·have : 0 < zs.length := by
    rcases zs with _ | ⟨z, zs⟩
    ·simp at hne
    ·simp
   exact hlt (.cell a.block a.off) (MemPlace.mem_row.2 ⟨0, by simpa using this, by simp⟩)
  ·rw [hl2] at hi
   rw [hcell i (by omega)]
   simp [List.getD, hi]
set_option maxRecDepth 100000 in
theorem lifted (os : Os) (started : os.Started) (H : Type) (enc : TypeId × Value -> H) :
  ReturnsInHanded {} Try.checked os 3 .any (Rows.fnCallDoneSpec.pre6 enc Try.prog Try.f3 Rows.fnCallDoneRow.domain false) (Rows.fnCallDoneSpec.post enc Try.prog Try.f3 false true false false) := by
 refine returnsInHanded_of_change (C := Try.checked) own started (by kernel_rfl) Try.func3
  (ChangeSpec.witness6 (enc := enc) (C := Try.checked) false ⟨#[], #[.slice none 0 0], []⟩ 8 (by kernel_rfl) (by kernel_rfl) (by kernel_rfl) (by kernel_rfl)) ?_
 intro W base args ds gs before hval hW _ _
 exact contract H enc W base args ds gs before hval hW
theorem fnCallDone_holds : Rows.FnCallDoneSaid :=
 OpenClaim.holds_of_wide 3 Try.f3 rfl rfl rfl rfl rfl rfl rfl ⟨rfl, rfl, rfl, rfl, rfl⟩ rfl rfl rfl rfl rfl (by kernel_rfl) Try.func3 (by kernel_rfl)
  (of_decide_eq_true (by kernel_rfl)) (by unfold Func.isWrapper; first | (rw [if_pos (by decide +kernel)]; kernel_rfl) | (rw [if_neg (by decide +kernel)]; exact ⟨rfl, rfl⟩))
  (fun os started H enc _ => lifted os started H enc)
end Go.Proofs.Ytenfnlcpaenhnaa
