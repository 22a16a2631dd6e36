/- A part of the proof that FnTrailFine, on every slice of bytes, returns true (no conditions): rules of the walk, and what the functions compute. -/
import Derived.Test.YtoekdppgejhikaaGreatC2
set_option linter.unusedVariables false
set_option linter.unusedSimpArgs false
namespace Go.Proofs.YtoekdppgejhikaaGreatT
open Go Go.Proofs
set_option maxRecDepth 100000
theorem l2Write_ok (s : Str) (a : Nat) (d : Str) (hs : s.length < 2 ^ 40) (ha : a < 2 ^ 40) (hd : d.length < 2 ^ 40) : PE G 75 [.str s, .int .i64 a, .str d] (.str (l2w s a d)) := by
 refine Pe Tryz.func75 ?_
 refine Rr (Fn0 [0, 1, 2] [] (Rr (Fn2 [1, 2] [(7, .osl 2 1 0 s.length)] [(2, ints s)] 4 (Sq fun K3 hK3 => ?_))))
 refine Bl (h_l (fun (j : Nat) => ([(1, .int .i64 a), (2, .str d), (7, .osl 2 1 0 ((s ++ List.replicate j 0).length))] : Fr)) (fun (j : Nat) => ([(2, ints (s ++ List.replicate j 0))] : Hp)) (fun (j : Nat) cn => (s.length + j <= max s.length (a + d.length)) /\ cn = 4) (fun (j : Nat) => a + d.length - (s.length + j)) 0 (by kernel_rfl) ?_ ?_ ?_ ?_)
 refine ⟨?_, rfl⟩; omega
 exact ⟨by kernel_rfl, by kernel_rfl, (by show AV.osl 2 1 0 s.length = AV.osl 2 1 0 (s ++ List.replicate 0 0).length; simp), trivial⟩
 exact (sub_c (by simp) (List.nil_sublist _))
 rintro j n1 hI
 (try dsimp only at hI)
 obtain ⟨hj, rfl⟩ := hI
 have he : (s ++ List.replicate j 0).length = s.length + j := by simp
 refine Sq fun K4 hK4 => ?_
 refine Rr (Av1 6 16 [(15, .int .i64 d.length), (14, .str d), (13, .int .i64 a), (12, .int .i64 ((s ++ List.replicate j 0).length : Int)), (11, .osl 2 1 0 ((s ++ List.replicate j 0).length))] (congrArg (AV.int .i64) (wnn a d.length (by omega))) (Ki /\ ·) ⟨rfl, Cn1 (decide (((s ++ List.replicate j 0).length : Int) < ((a + d.length : Nat) : Int))) [1, 2, 7] [] (Ki /\ ·) ⟨rfl, fun hc6 c6 => ?_, fun hc6 c6 => ?_⟩⟩)
 try simp only [KF] at c6
 refine Sk (Jn (hK4 (Kp [1, 2, 7] (Bl (Rn (An3 3 [(20, .osl 10 1 0 ((s ++ List.replicate j 0).length + 1)), (19, .osl 4 1 0 1), (18, .osl 2 1 0 ((s ++ List.replicate j 0).length))] [(10, apd (ints (s ++ List.replicate j 0)) ((s ++ List.replicate j 0).length * 1) [.int .u8 0]), (4, [.int .u8 0])] 12 ((1 * 1 <= 16777216) /\ (0 + 1 * 1 <= 1) /\ (1 = 1 /\ (s ++ List.replicate j 0).length * 1 <= (ints (s ++ List.replicate j 0)).length /\ 0 < 1 /\ ((s ++ List.replicate j 0).length + 1) * 1 <= 140737488355328) /\ ·) ⟨(by decide), (by decide), ⟨rfl, by (first | omega | (simp only [LL]; omega)), by decide, by (first | omega | (simp only [LL]; omega))⟩, run_v (v' := .osl 10 1 0 ((s ++ List.replicate j 0 ++ [(0 : UInt8)]).length)) (push_len _ _ _ _) ?_⟩))))))
 refine run_h (cs' := ints (s ++ List.replicate j 0 ++ [(0 : UInt8)])) (push_u8 (s ++ List.replicate j 0) (0 : UInt8)) ?_
 refine Gn0 [(7, .osl 10 1 0 ((s ++ List.replicate j 0 ++ [(0 : UInt8)]).length))] (nk_n (Bn (Lr (j + 1) [(10, 2)] 4 [(1, .int .i64 a), (2, .str d), (7, .osl 10 1 0 ((s ++ List.replicate j 0 ++ [(0 : UInt8)]).length))] [(10, ints (s ++ List.replicate j 0 ++ [(0 : UInt8)]))] [false] ?_ ?_ (by (try rw [List.append_assoc, <- List.replicate_succ']); try kernel_rfl) (by (try rw [List.append_assoc, <- List.replicate_succ']); try kernel_rfl))))
 (try dsimp only); omega
 refine ⟨?_, rfl⟩; (try dsimp only); omega
 try simp only [KF] at c6
 refine Xt (Jx (Lx (Bh (Jn (hK3 (Kp [1, 2, 7] (Sq fun K7 hK7 => ?_)))))))
 have hol : a + d.length <= (s ++ List.replicate j 0).length := by omega
 refine Rr (Fn0 [1, 2, 7] [(8, .int .i64 0)] (Bl (h_l (fun (i : Nat) => ([(1, .int .i64 a), (2, .str d), (7, .osl 2 1 0 ((s ++ List.replicate j 0).length)), (8, .int .i64 i)] : Fr)) (fun (i : Nat) => ([(2, ints ((s ++ List.replicate j 0).take a ++ d.take i ++ (s ++ List.replicate j 0).drop (a + i)))] : Hp)) (fun (i : Nat) cn => (i <= d.length /\ ((s ++ List.replicate j 0).take a ++ d.take i ++ (s ++ List.replicate j 0).drop (a + i)).length = (s ++ List.replicate j 0).length) /\ cn = 4) (fun (i : Nat) => d.length - i) 0 (by kernel_rfl) ?_ ?_ ?_ ?_)))
 refine ⟨?_, rfl⟩; exact ⟨Nat.zero_le _, by simp⟩
 exact ⟨by kernel_rfl, by kernel_rfl, by kernel_rfl, by kernel_rfl, trivial⟩
 exact (sub_c (by simp) (List.nil_sublist _))
 rintro i n1 hI
 (try dsimp only at hI)
 obtain ⟨⟨hi, hil⟩, rfl⟩ := hI
 refine Sq fun K9 hK9 => ?_
 refine Rr (Cn1 (decide ((i : Int) < (d.length : Int))) [1, 2, 7, 8] [] (Ki /\ ·) ⟨rfl, fun hc11 c11 => ?_, fun hc11 c11 => ?_⟩)
 try simp only [KF] at c11
 refine Sk (Jn (hK9 (Kp [1, 2, 7, 8] (Sq fun K12 hK12 => ?_))))
 refine Bl (Rb (fun h => Bn (Jn (hK12 h))) (Av1 4 30 [(29, .int .i64 i), (28, .int .i64 a), (27, .osl 2 1 0 ((s ++ List.replicate j 0).length))] (congrArg (AV.int .i64) (wnn a i (by omega))) (Ki /\ ·) ⟨rfl, An3 5 [(34, .ptr 2 (0 + (a + i) * 1)), (33, .int .u8 ((d.getD i 0).toNat : Int)), (32, .int .i64 i), (31, .str d)] [(2, (ints ((s ++ List.replicate j 0).take a ++ d.take i ++ (s ++ List.replicate j 0).drop (a + i))).take (0 + (a + i) * 1) ++ [.int .u8 ((d.getD i 0).toNat : Int)] ++ (ints ((s ++ List.replicate j 0).take a ++ d.take i ++ (s ++ List.replicate j 0).drop (a + i))).drop (0 + (a + i) * 1 + 1))] 4 (((0 : Int) <= (i : Int) /\ (i : Int) < (d.length : Int)) /\ (1 = 1 /\ (0 : Int) <= ((a + i : Nat) : Int) /\ ((a + i : Nat) : Int) < ((s ++ List.replicate j 0).length : Int)) /\ (true = true /\ 1 = 1 /\ 0 + (a + i) * 1 + 1 <= (ints ((s ++ List.replicate j 0).take a ++ d.take i ++ (s ++ List.replicate j 0).drop (a + i))).length) /\ ·) ⟨⟨by omega, by omega⟩, ⟨rfl, by omega, by omega⟩, ⟨rfl, rfl, (by (try simp only [flTl, flSl, ints_len]); omega)⟩, run_H (H' := [(2, ints (((s ++ List.replicate j 0).take a ++ d.take i ++ (s ++ List.replicate j 0).drop (a + i)).set (a + i) (d.getD i 0)))]) (by rw [set_ints _ _ _ (by omega)]) ?_⟩⟩))
 refine Fn0 [1, 2, 7, 8] [] (Rn (Av1 2 26 [(25, .int .i64 i)] (congrArg (AV.int .i64) (wn1 i (by omega))) (Ki /\ ·) ⟨rfl, Gn0 [(8, .int .i64 ((i + 1 : Nat) : Int))] (nk_n ?_)⟩))
 refine Lr (i + 1) [(2, 2)] 4 [(1, .int .i64 a), (2, .str d), (7, .osl 2 1 0 ((s ++ List.replicate j 0).length)), (8, .int .i64 ((i + 1 : Nat) : Int))] [(2, ints (((s ++ List.replicate j 0).take a ++ d.take i ++ (s ++ List.replicate j 0).drop (a + i)).set (a + i) (d.getD i 0)))] [false] ?_ ?_ (by (try rw [l2w_step (by omega) (by omega)]); try kernel_rfl) (by kernel_rfl)
 (try dsimp only); omega
 refine ⟨?_, rfl⟩; (try dsimp only); exact ⟨by omega, by rw [<- hil, <- l2w_step (by omega) (by omega), List.length_set]⟩
 try simp only [KF] at c11
 refine Xt (Jx (Lx (Bh (Jn (hK7 (Kp [7] (h_k [7] (F' := [(7, .osl 2 1 0 ((s ++ List.replicate j 0).length))]) (by kernel_rfl) (h_st (F' := [(7, .osl 2 1 0 (((s ++ List.replicate j 0).take a ++ d.take i ++ (s ++ List.replicate j 0).drop (a + i)).length))]) (H' := [(2, ints ((s ++ List.replicate j 0).take a ++ d.take i ++ (s ++ List.replicate j 0).drop (a + i)))]) (by rw [hil]) rfl (Rr (Av1 (r := .str ((((ints ((s ++ List.replicate j 0).take a ++ d.take i ++ (s ++ List.replicate j 0).drop (a + i))).drop 0).take ((s ++ List.replicate j 0).take a ++ d.take i ++ (s ++ List.replicate j 0).drop (a + i)).length).map unu)) (v := .str ((s ++ List.replicate j 0).take a ++ d.take i ++ (s ++ List.replicate j 0).drop (a + i))) 2 36 [(35, .osl 2 1 0 (((s ++ List.replicate j 0).take a ++ d.take i ++ (s ++ List.replicate j 0).drop (a + i)).length))] (congrArg AV.str (unu_ints _)) (fun Z => (1 = 1 /\ 0 + ((s ++ List.replicate j 0).take a ++ d.take i ++ (s ++ List.replicate j 0).drop (a + i)).length <= (ints ((s ++ List.replicate j 0).take a ++ d.take i ++ (s ++ List.replicate j 0).drop (a + i))).length /\ allu (((ints ((s ++ List.replicate j 0).take a ++ d.take i ++ (s ++ List.replicate j 0).drop (a + i))).drop 0).take ((s ++ List.replicate j 0).take a ++ d.take i ++ (s ++ List.replicate j 0).drop (a + i)).length)) /\ Z) ⟨⟨rfl, by rw [ints_len]; omega, allu_ints _⟩, ?_⟩))))))))))
 refine Fn0 [] [(6, .str ((s ++ List.replicate j 0).take a ++ d.take i ++ (s ++ List.replicate j 0).drop (a + i)))] (Rt (.str ((s ++ List.replicate j 0).take a ++ d.take i ++ (s ++ List.replicate j 0).drop (a + i))) (fin_lea ?_))
 obtain rfl : i = d.length := by omega
 obtain rfl : j = a + d.length - s.length := by omega
 rw [List.take_length]; exact lea_refl _
theorem l2Write_i (s : Str) (a : Int) (d : Str) (h0 : 0 <= a) (ha : a < 2 ^ 40) (hs : s.length < 2 ^ 40) (hd : d.length < 2 ^ 40) : PE G 75 [.str s, .int .i64 a, .str d] (.str (l2w s a.toNat d)) := by
  obtain ⟨k, rfl⟩ := Int.eq_ofNat_of_zero_le h0
  exact l2Write_ok s k d hs (by omega) hd
open Go Go.Proofs
set_option maxRecDepth 100000
theorem l2File_ok (t : Tr) (c : Cl) (hw : t.W < 2 ^ 12) (hwf : t.wf = true) (h1 : wS c.path < 2 ^ 10) (h2 : wS c.to < 2 ^ 40) (h3 : c.data.length < 2 ^ 20) (h4 : 0 < c.path.length) (h5 : 0 <= c.at_) (h6 : c.at_ <= 24) : PE G 54 [.agg (tcs t), .agg (clc c)] (.tup [.agg (tcs (sFile t c).1), .int .i64 (sFile t c).2]) := by
 have hl1 := wS_len c.path; have hl2 := wS_len c.to; have hxw := W_xat t c.path; have hxd := data_W (xat t c.path); have hxf := xat_wf hwf c.path
 refine Pe Tryz.func54 ?_
 refine Rr (Fn2 [] [(4, .ptr 8 0), (3, .ptr 4 0), (2, .ptr 0 0)] [(8, zt), (4, clc c), (0, tcs t)] 12 (Rr (Bc1 4 [(12, pth c.path), (11, .ptr 4 1), (10, .agg (tcs t))] 15 [.agg (tcs t), pth c.path] 13 ((0 + 5 <= 5 /\ 0 < 5) /\ ((1 : Nat) ≠ 0) /\ (1 + 1 <= 5 /\ 1 < 5) /\ ·) ⟨(by decide), (by decide), (by decide), PE.use (l1At_c c.path t (by omega) (by assumption) (by omega)) ?_⟩)))
 refine Ke (Fn3 [2, 3, 4] [(7, .bool ((tat t c.path).isSome)), (6, .ptr 12 0)] [(12, tcs (xat t c.path)), (8, zt), (4, clc c), (0, tcs t)] 16 ((0 < 2) /\ (1 < 2) /\ (true = true /\ 5 = 5 /\ 0 + 5 <= 5) /\ ·) ⟨(by decide), (by decide), (by decide), Sq fun K3 hK3 => ?_⟩)
 refine Bl (Rm 16 (((tat t c.path).isSome) && ((xat t c.path).dir)) [2, 3, 4, 6, 7] ?_ ?_)
 refine An0 2 [(18, .bool ((tat t c.path).isSome)), (17, .bool ((tat t c.path).isSome))] (run_b (fun g5 => ?_) (fun g5 => ?_))
 have hg5 := g5
 try simp only [KF] at g5
 refine Mn1 ((xat t c.path).dir) (((1 : Nat) ≠ 0) /\ (0 + 1 <= 5 /\ 0 < 5) /\ ·) ⟨(by decide), (by decide), (by rw [hg5]; rfl)⟩
 have hg5 := g5
 try simp only [KF] at g5
 refine Mn0 false (by rw [hg5]; rfl)
 refine Cc (((tat t c.path).isSome) && ((xat t c.path).dir)) (fun hc6 c6 => ?_) fun hc6 c6 => ?_
 try simp only [KF] at c6
 refine Rr (Fn3 [4] [(5, .int .i64 4)] [(12, tcs (xat t c.path)), (8, tcs t), (4, clc c), (0, tcs t)] 16 ((0 + 5 <= 5 /\ 0 < 5) /\ (true = true /\ 5 = 5 /\ 0 + 5 <= 5) /\ ·) ⟨(by decide), (by decide), Rt1 ((0 + 5 <= 5 /\ 0 < 5) /\ ·) (.tup [.agg (tcs t), .int .i64 4]) ⟨(by decide), ?_⟩⟩)
 · have e : sFile t c = (t, 4) := by
     unfold sFile; (try rw [hc6]); (try simp only [cond_true, cond_false])
     try first | rfl | (simp only [sFile, wData, fits]; done) | (simp only [sFile, wData, fits]; rfl)
   refine fin_lea ?_
   rw [e]; exact lea_refl _
 try simp only [KF] at c6
 refine Rm 23 ((!((tat t c.path).isSome)) && (decide ((c.kind : Int) = (3 : Int)))) [2, 3, 4, 6] ?_ ?_
 refine An0 3 [(26, .bool (!((tat t c.path).isSome))), (25, .bool (!((tat t c.path).isSome))), (24, .bool ((tat t c.path).isSome))] (run_b (fun g9 => ?_) (fun g9 => ?_))
 have hg9 := g9
 try simp only [KF] at g9
 refine Mn1 (decide ((c.kind : Int) = (3 : Int))) (((1 : Nat) ≠ 0) /\ (0 + 1 <= 5 /\ 0 < 5) /\ Ki /\ ·) ⟨(by decide), (by decide), rfl, (by rw [hg9]; rfl)⟩
 have hg9 := g9
 try simp only [KF] at g9
 refine Mn0 false (by rw [hg9]; rfl)
 refine Cc ((!((tat t c.path).isSome)) && (decide ((c.kind : Int) = (3 : Int)))) (fun hc10 c10 => ?_) fun hc10 c10 => ?_
 try simp only [KF] at c10
 refine Rr (Fn3 [4] [(5, .int .i64 3)] [(12, tcs (xat t c.path)), (8, tcs t), (4, clc c), (0, tcs t)] 16 ((0 + 5 <= 5 /\ 0 < 5) /\ (true = true /\ 5 = 5 /\ 0 + 5 <= 5) /\ ·) ⟨(by decide), (by decide), Rt1 ((0 + 5 <= 5 /\ 0 < 5) /\ ·) (.tup [.agg (tcs t), .int .i64 3]) ⟨(by decide), ?_⟩⟩)
 · have e : sFile t c = (t, 3) := by
     unfold sFile; (try rw [hc6]); (try simp only [cond_true, cond_false]); (try rw [hc10]); (try simp only [cond_true, cond_false])
     try first | rfl | (simp only [sFile, wData, fits]; done) | (simp only [sFile, wData, fits]; rfl)
   refine fin_lea ?_
   rw [e]; exact lea_refl _
 try simp only [KF] at c10
 refine Sk (Bn (Jn (hK3 (Kp [2, 3, 4, 6] (Sq fun K12 hK12 => ?_)))))
 refine Rr (Cn1 (decide ((c.kind : Int) = (3 : Int))) [2, 3, 4, 6] [] (((1 : Nat) ≠ 0) /\ (0 + 1 <= 5 /\ 0 < 5) /\ Ki /\ ·) ⟨(by decide), (by decide), rfl, fun hc14 c14 => ?_, fun hc14 c14 => ?_⟩)
 try simp only [KF] at c14
 refine Rr (Fn1 [2, 3, 4, 6] [(8, .str ((xat t c.path).data))] (((1 : Nat) ≠ 0) /\ (2 + 1 <= 5 /\ 2 < 5) /\ ·) ⟨(by decide), (by decide), Sq fun K16 hK16 => ?_⟩)
 refine Rr (Cn1 (decide ((c.at_ : Int) < ((((xat t c.path).data).length : Int) : Int))) [2, 3, 4, 6, 8] [] (((1 : Nat) ≠ 0) /\ (3 + 1 <= 5 /\ 3 < 5) /\ Ki /\ ·) ⟨(by decide), (by decide), rfl, fun hc18 c18 => ?_, fun hc18 c18 => ?_⟩)
 try simp only [KF] at c18
 refine Rb (fun h => Jn (hK16 h)) (Fn1 [2, 3, 4, 6] [(8, .str (((xat t c.path).data).take c.at_.toNat))] (((1 : Nat) ≠ 0) /\ (3 + 1 <= 5 /\ 3 < 5) /\ (0 <= (0 : Int) /\ (0 : Int) <= c.at_ /\ c.at_ <= (((xat t c.path).data).length : Int)) /\ ·) ⟨(by decide), (by decide), ⟨by omega, by omega, by omega⟩, Rb (fun h => Jn (hK12 h)) (Bc1 4 [(48, .int .i64 c.at_), (47, .ptr 4 3), (46, .str (((xat t c.path).data).take c.at_.toNat))] 75 [.str (((xat t c.path).data).take c.at_.toNat), .int .i64 c.at_, .str []] 49 (((1 : Nat) ≠ 0) /\ (3 + 1 <= 5 /\ 3 < 5) /\ ·) ⟨(by decide), (by decide), PE.use (l2Write_i (((xat t c.path).data).take c.at_.toNat) c.at_ [] (by omega) (by omega) (by first | omega | (simp; omega)) (by first | omega | simp)) ?_⟩)⟩)
 refine Ke (Fn3 [2, 3, 4, 6] [] [(12, [.bool ((xat t c.path).dir), .int .i64 ((xat t c.path).mode), .str (l2w (((xat t c.path).data).take c.at_.toNat) c.at_.toNat []), pth ((xat t c.path).names), .sl 5 (((xat t c.path).kids).map trc)]), (8, zt), (4, clc c), (0, tcs t)] 16 (((1 : Nat) ≠ 0) /\ (true = true /\ 1 = 1 /\ 2 + 1 <= 5) /\ ·) ⟨(by decide), (by decide), Qr [0, 0, 2, 0, 15, 0, 63, 127, 127, 511, 1023] [(0, []), (1, []), (2, []), (3, []), (5, []), (4, [5]), (6, []), (7, []), (8, []), (9, []), (10, [])] (qBc1 6 [(72, .agg (tcs t)), (70, .agg [.bool ((xat t c.path).dir), .int .i64 ((xat t c.path).mode), .str (l2w (((xat t c.path).data).take c.at_.toNat) c.at_.toNat []), pth ((xat t c.path).names), .sl 5 (((xat t c.path).kids).map trc)]), (69, pth c.path), (68, .ptr 4 1), (67, .agg (tcs t))] [5] 53 [.agg (tcs t), pth c.path, .agg [.bool ((xat t c.path).dir), .int .i64 ((xat t c.path).mode), .str (l2w (((xat t c.path).data).take c.at_.toNat) c.at_.toNat []), pth ((xat t c.path).names), .sl 5 (((xat t c.path).kids).map trc)], .bool false] 71 ((0 + 5 <= 5 /\ 0 < 5) /\ ((1 : Nat) ≠ 0) /\ (1 + 1 <= 5 /\ 1 < 5) /\ (0 + 5 <= 5 /\ 0 < 5) /\ (0 + 5 <= 5 /\ 0 < 5) /\ ·) ⟨(by decide), (by decide), (by decide), (by decide), (by decide), ?_⟩)⟩)
 have hX : ((Tr.mk ((xat t c.path).dir) ((xat t c.path).mode) (l2w (((xat t c.path).data).take c.at_.toNat) c.at_.toNat []) ((xat t c.path).names) ((xat t c.path).kids))).W < 2 ^ 30 := by rw [W_eq]; simp only [Tr.data_mk, Tr.names_mk, Tr.kids_mk, l2w_len, List.length_take, List.length_nil]; rw [W_eq (xat t c.path)] at hxw hxd; omega
 have hB := W_tset_lt (g := false) hw hX h1
 refine TCall_le [.agg (tcs t), pth c.path, .agg (tcs (Tr.mk ((xat t c.path).dir) ((xat t c.path).mode) (l2w (((xat t c.path).data).take c.at_.toNat) c.at_.toNat []) ((xat t c.path).names) ((xat t c.path).kids))), .bool false] (by simp [lea, leas, pth, Tr.none, tcs, clc]) ?_
 refine PE.use (l2Set_ok _ c.path t (Tr.mk ((xat t c.path).dir) ((xat t c.path).mode) (l2w (((xat t c.path).data).take c.at_.toNat) c.at_.toNat []) ((xat t c.path).names) ((xat t c.path).kids)) false rfl (by omega) (by assumption) (by omega) (by omega)) ?_
 refine Kq (p := (((0 + 5 <= 5 /\ 0 < 5) /\ (AV.agg (tcs t) = (.agg (tcs t) : AV))) /\ True)) ⟨⟨(by decide), rfl⟩, trivial⟩ ?_
 refine qBc0 1 [] [] 52 [.agg (tcs (tset c.path t (Tr.mk ((xat t c.path).dir) ((xat t c.path).mode) (l2w (((xat t c.path).data).take c.at_.toNat) c.at_.toNat []) ((xat t c.path).names) ((xat t c.path).kids)) false)), .agg (tcs t)] 73 ?_
 refine PE.use (l2Fits_c (tset c.path t (Tr.mk ((xat t c.path).dir) ((xat t c.path).mode) (l2w (((xat t c.path).data).take c.at_.toNat) c.at_.toNat []) ((xat t c.path).names) ((xat t c.path).kids)) false) t (by omega)) ?_
 refine Kq (p := (True)) trivial ?_
 refine qFn3 [4] [(5, .int .i64 (if treeOk (tset c.path t (Tr.mk ((xat t c.path).dir) ((xat t c.path).mode) (l2w (((xat t c.path).data).take c.at_.toNat) c.at_.toNat []) ((xat t c.path).names) ((xat t c.path).kids)) false) then 0 else 6))] [(12, [.bool ((xat t c.path).dir), .int .i64 ((xat t c.path).mode), .str (l2w (((xat t c.path).data).take c.at_.toNat) c.at_.toNat []), pth ((xat t c.path).names), .sl 5 (((xat t c.path).kids).map trc)]), (8, tcs (if treeOk (tset c.path t (Tr.mk ((xat t c.path).dir) ((xat t c.path).mode) (l2w (((xat t c.path).data).take c.at_.toNat) c.at_.toNat []) ((xat t c.path).names) ((xat t c.path).kids)) false) then (tset c.path t (Tr.mk ((xat t c.path).dir) ((xat t c.path).mode) (l2w (((xat t c.path).data).take c.at_.toNat) c.at_.toNat []) ((xat t c.path).names) ((xat t c.path).kids)) false) else t)), (4, clc c), (0, tcs t)] 16 ((0 < 2) /\ (1 < 2) /\ (true = true /\ 5 = 5 /\ 0 + 5 <= 5) /\ (True) /\ ·) ⟨(by decide), (by decide), (by decide), trivial, Rt1 ((0 + 5 <= 5 /\ 0 < 5) /\ ·) (.tup [.agg (tcs (if treeOk (tset c.path t (Tr.mk ((xat t c.path).dir) ((xat t c.path).mode) (l2w (((xat t c.path).data).take c.at_.toNat) c.at_.toNat []) ((xat t c.path).names) ((xat t c.path).kids)) false) then (tset c.path t (Tr.mk ((xat t c.path).dir) ((xat t c.path).mode) (l2w (((xat t c.path).data).take c.at_.toNat) c.at_.toNat []) ((xat t c.path).names) ((xat t c.path).kids)) false) else t)), .int .i64 (if treeOk (tset c.path t (Tr.mk ((xat t c.path).dir) ((xat t c.path).mode) (l2w (((xat t c.path).data).take c.at_.toNat) c.at_.toNat []) ((xat t c.path).names) ((xat t c.path).kids)) false) then 0 else 6)]) ⟨(by decide), ?_⟩⟩
 · have e : sFile t c = ((if treeOk (tset c.path t (Tr.mk ((xat t c.path).dir) ((xat t c.path).mode) (l2w (((xat t c.path).data).take c.at_.toNat) c.at_.toNat []) ((xat t c.path).names) ((xat t c.path).kids)) false) then (tset c.path t (Tr.mk ((xat t c.path).dir) ((xat t c.path).mode) (l2w (((xat t c.path).data).take c.at_.toNat) c.at_.toNat []) ((xat t c.path).names) ((xat t c.path).kids)) false) else t), (if treeOk (tset c.path t (Tr.mk ((xat t c.path).dir) ((xat t c.path).mode) (l2w (((xat t c.path).data).take c.at_.toNat) c.at_.toNat []) ((xat t c.path).names) ((xat t c.path).kids)) false) then 0 else 6)) := by
     unfold sFile; (try rw [hc6]); (try simp only [cond_true, cond_false]); (try rw [hc10]); (try simp only [cond_true, cond_false]); (try rw [hc14]); (try simp only [cond_true, cond_false]); (try rw [hc18]); (try simp only [cond_true, cond_false])
     try first | rfl | (simp only [sFile, wData, fits]; done) | (simp only [sFile, wData, fits]; rfl)
   refine fin_lea ?_
   rw [e]; exact lea_refl _
 try simp only [KF] at c18
 refine Sk (Jn (hK16 (Kp [2, 3, 4, 6, 8] (Rb (fun h => Jn (hK12 h)) (Bc1 4 [(48, .int .i64 c.at_), (47, .ptr 4 3), (46, .str ((xat t c.path).data))] 75 [.str ((xat t c.path).data), .int .i64 c.at_, .str []] 49 (((1 : Nat) ≠ 0) /\ (3 + 1 <= 5 /\ 3 < 5) /\ ·) ⟨(by decide), (by decide), PE.use (l2Write_i ((xat t c.path).data) c.at_ [] (by omega) (by omega) (by first | omega | (simp; omega)) (by first | omega | simp)) (Ke ?_)⟩)))))
 refine Fn3 [2, 3, 4, 6] [] [(12, [.bool ((xat t c.path).dir), .int .i64 ((xat t c.path).mode), .str (l2w ((xat t c.path).data) c.at_.toNat []), pth ((xat t c.path).names), .sl 5 (((xat t c.path).kids).map trc)]), (8, zt), (4, clc c), (0, tcs t)] 16 (((1 : Nat) ≠ 0) /\ (true = true /\ 1 = 1 /\ 2 + 1 <= 5) /\ ·) ⟨(by decide), (by decide), Qr [0, 0, 2, 0, 15, 0, 63, 127, 127, 511, 1023] [(0, []), (1, []), (2, []), (3, []), (5, []), (4, [5]), (6, []), (7, []), (8, []), (9, []), (10, [])] (qBc1 6 [(72, .agg (tcs t)), (70, .agg [.bool ((xat t c.path).dir), .int .i64 ((xat t c.path).mode), .str (l2w ((xat t c.path).data) c.at_.toNat []), pth ((xat t c.path).names), .sl 5 (((xat t c.path).kids).map trc)]), (69, pth c.path), (68, .ptr 4 1), (67, .agg (tcs t))] [5] 53 [.agg (tcs t), pth c.path, .agg [.bool ((xat t c.path).dir), .int .i64 ((xat t c.path).mode), .str (l2w ((xat t c.path).data) c.at_.toNat []), pth ((xat t c.path).names), .sl 5 (((xat t c.path).kids).map trc)], .bool false] 71 ((0 + 5 <= 5 /\ 0 < 5) /\ ((1 : Nat) ≠ 0) /\ (1 + 1 <= 5 /\ 1 < 5) /\ (0 + 5 <= 5 /\ 0 < 5) /\ (0 + 5 <= 5 /\ 0 < 5) /\ ·) ⟨(by decide), (by decide), (by decide), (by decide), (by decide), ?_⟩)⟩
 have hX : ((Tr.mk ((xat t c.path).dir) ((xat t c.path).mode) (l2w ((xat t c.path).data) c.at_.toNat []) ((xat t c.path).names) ((xat t c.path).kids))).W < 2 ^ 30 := by rw [W_eq]; simp only [Tr.data_mk, Tr.names_mk, Tr.kids_mk, l2w_len, List.length_take, List.length_nil]; rw [W_eq (xat t c.path)] at hxw hxd; omega
 have hB := W_tset_lt (g := false) hw hX h1
 refine TCall_le [.agg (tcs t), pth c.path, .agg (tcs (Tr.mk ((xat t c.path).dir) ((xat t c.path).mode) (l2w ((xat t c.path).data) c.at_.toNat []) ((xat t c.path).names) ((xat t c.path).kids))), .bool false] (by simp [lea, leas, pth, Tr.none, tcs, clc]) ?_
 refine PE.use (l2Set_ok _ c.path t (Tr.mk ((xat t c.path).dir) ((xat t c.path).mode) (l2w ((xat t c.path).data) c.at_.toNat []) ((xat t c.path).names) ((xat t c.path).kids)) false rfl (by omega) (by assumption) (by omega) (by omega)) ?_
 refine Kq (p := (((0 + 5 <= 5 /\ 0 < 5) /\ (AV.agg (tcs t) = (.agg (tcs t) : AV))) /\ True)) ⟨⟨(by decide), rfl⟩, trivial⟩ ?_
 refine qBc0 1 [] [] 52 [.agg (tcs (tset c.path t (Tr.mk ((xat t c.path).dir) ((xat t c.path).mode) (l2w ((xat t c.path).data) c.at_.toNat []) ((xat t c.path).names) ((xat t c.path).kids)) false)), .agg (tcs t)] 73 ?_
 refine PE.use (l2Fits_c (tset c.path t (Tr.mk ((xat t c.path).dir) ((xat t c.path).mode) (l2w ((xat t c.path).data) c.at_.toNat []) ((xat t c.path).names) ((xat t c.path).kids)) false) t (by omega)) ?_
 refine Kq (p := (True)) trivial ?_
 refine qFn3 [4] [(5, .int .i64 (if treeOk (tset c.path t (Tr.mk ((xat t c.path).dir) ((xat t c.path).mode) (l2w ((xat t c.path).data) c.at_.toNat []) ((xat t c.path).names) ((xat t c.path).kids)) false) then 0 else 6))] [(12, [.bool ((xat t c.path).dir), .int .i64 ((xat t c.path).mode), .str (l2w ((xat t c.path).data) c.at_.toNat []), pth ((xat t c.path).names), .sl 5 (((xat t c.path).kids).map trc)]), (8, tcs (if treeOk (tset c.path t (Tr.mk ((xat t c.path).dir) ((xat t c.path).mode) (l2w ((xat t c.path).data) c.at_.toNat []) ((xat t c.path).names) ((xat t c.path).kids)) false) then (tset c.path t (Tr.mk ((xat t c.path).dir) ((xat t c.path).mode) (l2w ((xat t c.path).data) c.at_.toNat []) ((xat t c.path).names) ((xat t c.path).kids)) false) else t)), (4, clc c), (0, tcs t)] 16 ((0 < 2) /\ (1 < 2) /\ (true = true /\ 5 = 5 /\ 0 + 5 <= 5) /\ (True) /\ ·) ⟨(by decide), (by decide), (by decide), trivial, Rt1 ((0 + 5 <= 5 /\ 0 < 5) /\ ·) (.tup [.agg (tcs (if treeOk (tset c.path t (Tr.mk ((xat t c.path).dir) ((xat t c.path).mode) (l2w ((xat t c.path).data) c.at_.toNat []) ((xat t c.path).names) ((xat t c.path).kids)) false) then (tset c.path t (Tr.mk ((xat t c.path).dir) ((xat t c.path).mode) (l2w ((xat t c.path).data) c.at_.toNat []) ((xat t c.path).names) ((xat t c.path).kids)) false) else t)), .int .i64 (if treeOk (tset c.path t (Tr.mk ((xat t c.path).dir) ((xat t c.path).mode) (l2w ((xat t c.path).data) c.at_.toNat []) ((xat t c.path).names) ((xat t c.path).kids)) false) then 0 else 6)]) ⟨(by decide), ?_⟩⟩
 · have e : sFile t c = ((if treeOk (tset c.path t (Tr.mk ((xat t c.path).dir) ((xat t c.path).mode) (l2w ((xat t c.path).data) c.at_.toNat []) ((xat t c.path).names) ((xat t c.path).kids)) false) then (tset c.path t (Tr.mk ((xat t c.path).dir) ((xat t c.path).mode) (l2w ((xat t c.path).data) c.at_.toNat []) ((xat t c.path).names) ((xat t c.path).kids)) false) else t), (if treeOk (tset c.path t (Tr.mk ((xat t c.path).dir) ((xat t c.path).mode) (l2w ((xat t c.path).data) c.at_.toNat []) ((xat t c.path).names) ((xat t c.path).kids)) false) then 0 else 6)) := by
     unfold sFile; (try rw [hc6]); (try simp only [cond_true, cond_false]); (try rw [hc10]); (try simp only [cond_true, cond_false]); (try rw [hc14]); (try simp only [cond_true, cond_false]); (try rw [hc18]); (try simp only [cond_true, cond_false])
     try first | rfl | (simp only [sFile, wData, fits]; done) | (simp only [sFile, wData, fits]; rfl)
   refine fin_lea ?_
   rw [e]; exact lea_refl _
 try simp only [KF] at c14
 refine Rr (Av1 (r := .int .i64 (IntKind.i64.wrap ((c.data.length : Int) + c.at_))) (v := .int .i64 ((c.data.length : Int) + c.at_)) 6 56 [(55, .int .i64 c.at_), (54, .ptr 4 3), (53, .int .i64 c.data.length), (52, .str c.data), (51, .ptr 4 4)] (congrArg (AV.int .i64) (wrap64 (by omega) (by omega))) (((1 : Nat) ≠ 0) /\ (4 + 1 <= 5 /\ 4 < 5) /\ ((1 : Nat) ≠ 0) /\ (3 + 1 <= 5 /\ 3 < 5) /\ Ki /\ ·) ⟨(by decide), (by decide), (by decide), (by decide), rfl, Cn1 (decide ((24 : Int) < (((c.data.length : Int) + c.at_) : Int))) [2, 3, 4, 6] [] (Ki /\ ·) ⟨rfl, fun hc22 c22 => ?_, fun hc22 c22 => ?_⟩⟩)
 try simp only [KF] at c22
 refine Rr (Fn3 [4] [(5, .int .i64 6)] [(12, tcs (xat t c.path)), (8, tcs t), (4, clc c), (0, tcs t)] 16 ((0 + 5 <= 5 /\ 0 < 5) /\ (true = true /\ 5 = 5 /\ 0 + 5 <= 5) /\ ·) ⟨(by decide), (by decide), Rt1 ((0 + 5 <= 5 /\ 0 < 5) /\ ·) (.tup [.agg (tcs t), .int .i64 6]) ⟨(by decide), ?_⟩⟩)
 · have e : sFile t c = (t, 6) := by
     unfold sFile; (try rw [hc6]); (try simp only [cond_true, cond_false]); (try rw [hc10]); (try simp only [cond_true, cond_false]); (try rw [hc14]); (try simp only [cond_true, cond_false]); (try rw [hc22]); (try simp only [cond_true, cond_false])
     try first | rfl | (simp only [sFile, wData, fits]; done) | (simp only [sFile, wData, fits]; rfl)
   refine fin_lea ?_
   rw [e]; exact lea_refl _
 try simp only [KF] at c22
 refine Rb (fun h => Jn (hK12 h)) (Bc1 7 [(64, .str c.data), (63, .ptr 4 4), (62, .int .i64 c.at_), (61, .ptr 4 3), (60, .str ((xat t c.path).data)), (59, .ptr 12 2)] 75 [.str ((xat t c.path).data), .int .i64 c.at_, .str c.data] 65 (((1 : Nat) ≠ 0) /\ (2 + 1 <= 5 /\ 2 < 5) /\ ((1 : Nat) ≠ 0) /\ (3 + 1 <= 5 /\ 3 < 5) /\ ((1 : Nat) ≠ 0) /\ (4 + 1 <= 5 /\ 4 < 5) /\ ·) ⟨(by decide), (by decide), (by decide), (by decide), (by decide), (by decide), PE.use (l2Write_i ((xat t c.path).data) c.at_ c.data (by omega) (by omega) (by first | omega | (simp; omega)) (by first | omega | simp)) (Ke (Fn3 [2, 3, 4, 6] [] [(12, [.bool ((xat t c.path).dir), .int .i64 ((xat t c.path).mode), .str (l2w ((xat t c.path).data) c.at_.toNat c.data), pth ((xat t c.path).names), .sl 5 (((xat t c.path).kids).map trc)]), (8, zt), (4, clc c), (0, tcs t)] 16 (((1 : Nat) ≠ 0) /\ (true = true /\ 1 = 1 /\ 2 + 1 <= 5) /\ ·) ⟨(by decide), (by decide), ?_⟩))⟩)
 refine Qr [0, 0, 2, 0, 15, 0, 63, 127, 127, 511, 1023] [(0, []), (1, []), (2, []), (3, []), (5, []), (4, [5]), (6, []), (7, []), (8, []), (9, []), (10, [])] (qBc1 6 [(72, .agg (tcs t)), (70, .agg [.bool ((xat t c.path).dir), .int .i64 ((xat t c.path).mode), .str (l2w ((xat t c.path).data) c.at_.toNat c.data), pth ((xat t c.path).names), .sl 5 (((xat t c.path).kids).map trc)]), (69, pth c.path), (68, .ptr 4 1), (67, .agg (tcs t))] [5] 53 [.agg (tcs t), pth c.path, .agg [.bool ((xat t c.path).dir), .int .i64 ((xat t c.path).mode), .str (l2w ((xat t c.path).data) c.at_.toNat c.data), pth ((xat t c.path).names), .sl 5 (((xat t c.path).kids).map trc)], .bool false] 71 ((0 + 5 <= 5 /\ 0 < 5) /\ ((1 : Nat) ≠ 0) /\ (1 + 1 <= 5 /\ 1 < 5) /\ (0 + 5 <= 5 /\ 0 < 5) /\ (0 + 5 <= 5 /\ 0 < 5) /\ ·) ⟨(by decide), (by decide), (by decide), (by decide), (by decide), ?_⟩)
 have hX : ((Tr.mk ((xat t c.path).dir) ((xat t c.path).mode) (l2w ((xat t c.path).data) c.at_.toNat c.data) ((xat t c.path).names) ((xat t c.path).kids))).W < 2 ^ 30 := by rw [W_eq]; simp only [Tr.data_mk, Tr.names_mk, Tr.kids_mk, l2w_len, List.length_take, List.length_nil]; rw [W_eq (xat t c.path)] at hxw hxd; omega
 have hB := W_tset_lt (g := false) hw hX h1
 refine TCall_le [.agg (tcs t), pth c.path, .agg (tcs (Tr.mk ((xat t c.path).dir) ((xat t c.path).mode) (l2w ((xat t c.path).data) c.at_.toNat c.data) ((xat t c.path).names) ((xat t c.path).kids))), .bool false] (by simp [lea, leas, pth, Tr.none, tcs, clc]) ?_
 refine PE.use (l2Set_ok _ c.path t (Tr.mk ((xat t c.path).dir) ((xat t c.path).mode) (l2w ((xat t c.path).data) c.at_.toNat c.data) ((xat t c.path).names) ((xat t c.path).kids)) false rfl (by omega) (by assumption) (by omega) (by omega)) ?_
 refine Kq (p := (((0 + 5 <= 5 /\ 0 < 5) /\ (AV.agg (tcs t) = (.agg (tcs t) : AV))) /\ True)) ⟨⟨(by decide), rfl⟩, trivial⟩ ?_
 refine qBc0 1 [] [] 52 [.agg (tcs (tset c.path t (Tr.mk ((xat t c.path).dir) ((xat t c.path).mode) (l2w ((xat t c.path).data) c.at_.toNat c.data) ((xat t c.path).names) ((xat t c.path).kids)) false)), .agg (tcs t)] 73 ?_
 refine PE.use (l2Fits_c (tset c.path t (Tr.mk ((xat t c.path).dir) ((xat t c.path).mode) (l2w ((xat t c.path).data) c.at_.toNat c.data) ((xat t c.path).names) ((xat t c.path).kids)) false) t (by omega)) ?_
 refine Kq (p := (True)) trivial ?_
 refine qFn3 [4] [(5, .int .i64 (if treeOk (tset c.path t (Tr.mk ((xat t c.path).dir) ((xat t c.path).mode) (l2w ((xat t c.path).data) c.at_.toNat c.data) ((xat t c.path).names) ((xat t c.path).kids)) false) then 0 else 6))] [(12, [.bool ((xat t c.path).dir), .int .i64 ((xat t c.path).mode), .str (l2w ((xat t c.path).data) c.at_.toNat c.data), pth ((xat t c.path).names), .sl 5 (((xat t c.path).kids).map trc)]), (8, tcs (if treeOk (tset c.path t (Tr.mk ((xat t c.path).dir) ((xat t c.path).mode) (l2w ((xat t c.path).data) c.at_.toNat c.data) ((xat t c.path).names) ((xat t c.path).kids)) false) then (tset c.path t (Tr.mk ((xat t c.path).dir) ((xat t c.path).mode) (l2w ((xat t c.path).data) c.at_.toNat c.data) ((xat t c.path).names) ((xat t c.path).kids)) false) else t)), (4, clc c), (0, tcs t)] 16 ((0 < 2) /\ (1 < 2) /\ (true = true /\ 5 = 5 /\ 0 + 5 <= 5) /\ (True) /\ ·) ⟨(by decide), (by decide), (by decide), trivial, Rt1 ((0 + 5 <= 5 /\ 0 < 5) /\ ·) (.tup [.agg (tcs (if treeOk (tset c.path t (Tr.mk ((xat t c.path).dir) ((xat t c.path).mode) (l2w ((xat t c.path).data) c.at_.toNat c.data) ((xat t c.path).names) ((xat t c.path).kids)) false) then (tset c.path t (Tr.mk ((xat t c.path).dir) ((xat t c.path).mode) (l2w ((xat t c.path).data) c.at_.toNat c.data) ((xat t c.path).names) ((xat t c.path).kids)) false) else t)), .int .i64 (if treeOk (tset c.path t (Tr.mk ((xat t c.path).dir) ((xat t c.path).mode) (l2w ((xat t c.path).data) c.at_.toNat c.data) ((xat t c.path).names) ((xat t c.path).kids)) false) then 0 else 6)]) ⟨(by decide), ?_⟩⟩
 · have e : sFile t c = ((if treeOk (tset c.path t (Tr.mk ((xat t c.path).dir) ((xat t c.path).mode) (l2w ((xat t c.path).data) c.at_.toNat c.data) ((xat t c.path).names) ((xat t c.path).kids)) false) then (tset c.path t (Tr.mk ((xat t c.path).dir) ((xat t c.path).mode) (l2w ((xat t c.path).data) c.at_.toNat c.data) ((xat t c.path).names) ((xat t c.path).kids)) false) else t), (if treeOk (tset c.path t (Tr.mk ((xat t c.path).dir) ((xat t c.path).mode) (l2w ((xat t c.path).data) c.at_.toNat c.data) ((xat t c.path).names) ((xat t c.path).kids)) false) then 0 else 6)) := by
     unfold sFile; (try rw [hc6]); (try simp only [cond_true, cond_false]); (try rw [hc10]); (try simp only [cond_true, cond_false]); (try rw [hc14]); (try simp only [cond_true, cond_false]); (try rw [hc22]); (try simp only [cond_true, cond_false])
     try first | rfl | (simp only [sFile, wData, fits]; done) | (simp only [sFile, wData, fits]; rfl)
   refine fin_lea ?_
   rw [e]; exact lea_refl _
theorem l2Rename_ok (t : Tr) (c : Cl) (hw : t.W < 2 ^ 12) (hwf : t.wf = true) (h1 : wS c.path < 2 ^ 10) (h2 : wS c.to < 2 ^ 40) (h3 : c.data.length < 2 ^ 20) (h4 : 0 < c.path.length) (h5 : 0 < c.to.length) (h7 : wS c.to < 2 ^ 10) : PE G 55 [.agg (tcs t), .agg (clc c)] (.tup [.agg (tcs (sRename t c).1), .int .i64 (sRename t c).2]) := by
 have hl1 := wS_len c.path; have hl2 := wS_len c.to; have hxw := W_xat t c.path; have hxd := data_W (xat t c.path); have hxf := xat_wf hwf c.path
 refine Pe Tryz.func55 ?_
 refine Rr (Fn2 [] [(4, .ptr 8 0), (3, .ptr 4 0), (2, .ptr 0 0)] [(8, zt), (4, clc c), (0, tcs t)] 12 (Rr (Bc1 4 [(14, pth c.path), (13, .ptr 4 1), (12, .agg (tcs t))] 15 [.agg (tcs t), pth c.path] 15 ((0 + 5 <= 5 /\ 0 < 5) /\ ((1 : Nat) ≠ 0) /\ (1 + 1 <= 5 /\ 1 < 5) /\ ·) ⟨(by decide), (by decide), (by decide), PE.use (l1At_c c.path t (by omega) (by assumption) (by omega)) ?_⟩)))
 refine Ke (Fn3 [2, 3, 4] [(7, .bool ((tat t c.path).isSome)), (6, .ptr 12 0)] [(12, tcs (xat t c.path)), (8, zt), (4, clc c), (0, tcs t)] 16 ((0 < 2) /\ (1 < 2) /\ (true = true /\ 5 = 5 /\ 0 + 5 <= 5) /\ ·) ⟨(by decide), (by decide), (by decide), Sq fun K3 hK3 => ?_⟩)
 refine Rr (Cn0 (!((tat t c.path).isSome)) [2, 3, 4, 6] [] ⟨fun hc5 c5 => ?_, fun hc5 c5 => ?_⟩)
 try simp only [KF] at c5
 refine Rr (Fn3 [4] [(5, .int .i64 3)] [(12, tcs (xat t c.path)), (8, tcs t), (4, clc c), (0, tcs t)] 16 ((0 + 5 <= 5 /\ 0 < 5) /\ (true = true /\ 5 = 5 /\ 0 + 5 <= 5) /\ ·) ⟨(by decide), (by decide), Rt1 ((0 + 5 <= 5 /\ 0 < 5) /\ ·) (.tup [.agg (tcs t), .int .i64 3]) ⟨(by decide), ?_⟩⟩)
 · have e : sRename t c = (t, 3) := by
     unfold sRename; (try rw [hc5]); (try simp only [cond_true, cond_false])
     try first | rfl | (simp only [sRename, Tr.none, fits]; done) | (simp only [sRename, Tr.none, fits]; rfl)
   refine fin_lea ?_
   rw [e]; exact lea_refl _
 try simp only [KF] at c5
 refine Sk (Jn (hK3 (Kp [2, 3, 4, 6] (Sq fun K7 hK7 => ?_))))
 refine Rr (Bc1 5 [(24, pth c.path), (23, .ptr 4 1), (22, pth c.to), (21, .ptr 4 2)] 76 [pth c.to, pth c.path] 25 (((1 : Nat) ≠ 0) /\ (2 + 1 <= 5 /\ 2 < 5) /\ ((1 : Nat) ≠ 0) /\ (1 + 1 <= 5 /\ 1 < 5) /\ ·) ⟨(by decide), (by decide), (by decide), (by decide), PE.use (l2Within_ok c.to c.path (by omega) (by omega)) (Ke (Cn0 (c.path.isPrefixOf c.to) [2, 3, 4, 6] [] ⟨fun hc9 c9 => ?_, fun hc9 c9 => ?_⟩))⟩)
 try simp only [KF] at c9
 refine Rr (Fn3 [4] [(5, .int .i64 7)] [(12, tcs (xat t c.path)), (8, tcs t), (4, clc c), (0, tcs t)] 16 ((0 + 5 <= 5 /\ 0 < 5) /\ (true = true /\ 5 = 5 /\ 0 + 5 <= 5) /\ ·) ⟨(by decide), (by decide), Rt1 ((0 + 5 <= 5 /\ 0 < 5) /\ ·) (.tup [.agg (tcs t), .int .i64 7]) ⟨(by decide), ?_⟩⟩)
 · have e : sRename t c = (t, 7) := by
     unfold sRename; (try rw [hc5]); (try simp only [cond_true, cond_false]); (try rw [hc9]); (try simp only [cond_true, cond_false])
     try first | rfl | (simp only [sRename, Tr.none, fits]; done) | (simp only [sRename, Tr.none, fits]; rfl)
   refine fin_lea ?_
   rw [e]; exact lea_refl _
 try simp only [KF] at c9
 refine Sk (Jn (hK7 (Kp [2, 3, 4, 6] (Rr (Bc1 4 [(29, pth c.to), (28, .ptr 4 2), (27, .agg (tcs t))] 51 [.agg (tcs t), pth c.to] 30 ((0 + 5 <= 5 /\ 0 < 5) /\ ((1 : Nat) ≠ 0) /\ (2 + 1 <= 5 /\ 2 < 5) /\ ·) ⟨(by decide), (by decide), (by decide), PE.use (l2Parent_c t c.to (by omega) (by assumption) (by omega) (by omega)) (Ke ?_)⟩)))))
 refine Fn0 [2, 3, 4, 6] [(8, .int .i64 (parC t c.to))] (Sq fun K12 hK12 => ?_)
 refine Rr (Cn1 (!decide ((parC t c.to : Int) = (0 : Int))) [2, 3, 4, 6, 8] [] (Ki /\ ·) ⟨rfl, fun hc14 c14 => ?_, fun hc14 c14 => ?_⟩)
 try simp only [KF] at c14
 refine Rr (Fn3 [4] [(5, .int .i64 (parC t c.to))] [(12, tcs (xat t c.path)), (8, tcs t), (4, clc c), (0, tcs t)] 16 ((0 + 5 <= 5 /\ 0 < 5) /\ (true = true /\ 5 = 5 /\ 0 + 5 <= 5) /\ ·) ⟨(by decide), (by decide), Rt1 ((0 + 5 <= 5 /\ 0 < 5) /\ ·) (.tup [.agg (tcs t), .int .i64 (parC t c.to)]) ⟨(by decide), ?_⟩⟩)
 · have e : sRename t c = (t, parC t c.to) := by
     unfold sRename; (try rw [hc5]); (try simp only [cond_true, cond_false]); (try rw [hc9]); (try simp only [cond_true, cond_false]); (try rw [hc14]); (try simp only [cond_true, cond_false])
     try first | rfl | (simp only [sRename, Tr.none, fits]; done) | (simp only [sRename, Tr.none, fits]; rfl)
   refine fin_lea ?_
   rw [e]; exact lea_refl _
 try simp only [KF] at c14
 refine Sk (Jn (hK12 (Kp [2, 3, 4, 6] (Rr (Bc1 4 [(38, pth c.to), (37, .ptr 4 2), (36, .agg (tcs t))] 15 [.agg (tcs t), pth c.to] 39 ((0 + 5 <= 5 /\ 0 < 5) /\ ((1 : Nat) ≠ 0) /\ (2 + 1 <= 5 /\ 2 < 5) /\ ·) ⟨(by decide), (by decide), (by decide), PE.use (l1At_c c.to t (by omega) (by assumption) (by omega)) (Ke ?_)⟩)))))
 refine Fn3 [2, 3, 4, 6] [(10, .bool ((tat t c.to).isSome))] [(16, tcs (xat t c.to)), (12, tcs (xat t c.path)), (8, zt), (4, clc c), (0, tcs t)] 20 ((0 < 2) /\ (1 < 2) /\ (true = true /\ 5 = 5 /\ 0 + 5 <= 5) /\ ·) ⟨(by decide), (by decide), (by decide), Sq fun K17 hK17 => ?_⟩
 refine Rr (Cn0 ((tat t c.to).isSome) [2, 3, 4, 6] [] ⟨fun hc19 c19 => ?_, fun hc19 c19 => ?_⟩)
 try simp only [KF] at c19
 refine Rr (Fn3 [4] [(5, .int .i64 5)] [(16, tcs (xat t c.to)), (12, tcs (xat t c.path)), (8, tcs t), (4, clc c), (0, tcs t)] 20 ((0 + 5 <= 5 /\ 0 < 5) /\ (true = true /\ 5 = 5 /\ 0 + 5 <= 5) /\ ·) ⟨(by decide), (by decide), Rt1 ((0 + 5 <= 5 /\ 0 < 5) /\ ·) (.tup [.agg (tcs t), .int .i64 5]) ⟨(by decide), ?_⟩⟩)
 · have e : sRename t c = (t, 5) := by
     unfold sRename; (try rw [hc5]); (try simp only [cond_true, cond_false]); (try rw [hc9]); (try simp only [cond_true, cond_false]); (try rw [hc14]); (try simp only [cond_true, cond_false]); (try rw [hc19]); (try simp only [cond_true, cond_false])
     try first | rfl | (simp only [sRename, Tr.none, fits]; done) | (simp only [sRename, Tr.none, fits]; rfl)
   refine fin_lea ?_
   rw [e]; exact lea_refl _
 try simp only [KF] at c19
 refine Sk (Jn (hK17 (Kp [2, 3, 4, 6] (Qr [0, 0, 2, 0, 15, 0, 32, 0, 255, 0, 1023, 2047, 2047, 8191, 16383] [(0, []), (1, []), (2, []), (3, []), (5, []), (6, []), (7, []), (9, []), (4, [6, 7, 9]), (8, [9]), (10, []), (11, []), (12, []), (13, []), (14, [])] (qBc1 9 [(53, .agg (tcs t)), (51, .agg (tcs (xat t c.path))), (50, pth c.to), (49, .ptr 4 2), (47, .agg zt), (46, pth c.path), (45, .ptr 4 1), (44, .agg (tcs t))] [6, 7, 9] 53 [.agg (tcs t), pth c.path, .agg zt, .bool true] 48 ((0 + 5 <= 5 /\ 0 < 5) /\ ((1 : Nat) ≠ 0) /\ (1 + 1 <= 5 /\ 1 < 5) /\ ((1 : Nat) ≠ 0) /\ (2 + 1 <= 5 /\ 2 < 5) /\ (0 + 5 <= 5 /\ 0 < 5) /\ (0 + 5 <= 5 /\ 0 < 5) /\ ·) ⟨(by decide), (by decide), (by decide), (by decide), (by decide), (by decide), (by decide), ?_⟩)))))
 have hn : (Tr.mk false 0 [] [] []).W < 2 ^ 12 := by simp [Tr.W, wS, Tr.Ws]
 have hB := W_tset_lt2 (p := c.path) (g := true) hw hn h1
 have hBf : (tset c.path t (Tr.mk false 0 [] [] []) true).wf = true := wf_tset _ _ _ _ hwf rfl
 refine TCall_le [.agg (tcs t), pth c.path, .agg (tcs (Tr.mk false 0 [] [] [])), .bool true] (by simp [lea, leas, pth, Tr.none, tcs, clc]) ?_
 refine PE.use (l2Set_ok _ c.path t (Tr.mk false 0 [] [] []) true rfl (by omega) (by assumption) (by omega) (by omega)) ?_
 refine Kq (p := (((2 + 1 <= 5 /\ 2 < 5) /\ (pth c.to = pth c.to)) /\ ((0 + 5 <= 5 /\ 0 < 5) /\ (AV.agg (tcs (xat t c.path)) = (.agg (tcs (xat t c.path)) : AV))) /\ ((0 + 5 <= 5 /\ 0 < 5) /\ (AV.agg (tcs t) = (.agg (tcs t) : AV))) /\ True)) ⟨⟨(by decide), rfl⟩, ⟨(by decide), rfl⟩, ⟨(by decide), rfl⟩, trivial⟩ ?_
 refine qBc0 1 [] [9] 53 [.agg (tcs (tset c.path t (Tr.mk false 0 [] [] []) true)), pth c.to, .agg (tcs (xat t c.path)), .bool false] 52 ?_
 have hB2 := W_tset_lt3 (p := c.to) (x := xat t c.path) (g := false) hB (by omega) h7
 refine TCall_le [.agg (tcs (tset c.path t (Tr.mk false 0 [] [] []) true)), pth c.to, .agg (tcs (xat t c.path)), .bool false] (by simp [lea, leas, pth, Tr.none, tcs, clc]) ?_
 refine PE.use (l2Set_ok _ c.to (tset c.path t (Tr.mk false 0 [] [] []) true) (xat t c.path) false rfl (by omega) (by assumption) (by omega) (by omega)) ?_
 refine Kq (p := (((0 + 5 <= 5 /\ 0 < 5) /\ (AV.agg (tcs t) = (.agg (tcs t) : AV))) /\ True)) ⟨⟨(by decide), rfl⟩, trivial⟩ ?_
 refine qBc0 1 [] [] 52 [.agg (tcs (tset c.to (tset c.path t (Tr.mk false 0 [] [] []) true) (xat t c.path) false)), .agg (tcs t)] 54 ?_
 refine PE.use (l2Fits_c (tset c.to (tset c.path t (Tr.mk false 0 [] [] []) true) (xat t c.path) false) t (by omega)) ?_
 refine Kq (p := (True)) trivial ?_
 refine qFn3 [4] [(5, .int .i64 (if treeOk (tset c.to (tset c.path t (Tr.mk false 0 [] [] []) true) (xat t c.path) false) then 0 else 6))] [(16, tcs (xat t c.to)), (12, tcs (xat t c.path)), (8, tcs (if treeOk (tset c.to (tset c.path t (Tr.mk false 0 [] [] []) true) (xat t c.path) false) then (tset c.to (tset c.path t (Tr.mk false 0 [] [] []) true) (xat t c.path) false) else t)), (4, clc c), (0, tcs t)] 20 ((0 < 2) /\ (1 < 2) /\ (true = true /\ 5 = 5 /\ 0 + 5 <= 5) /\ (True) /\ ·) ⟨(by decide), (by decide), (by decide), trivial, Rt1 ((0 + 5 <= 5 /\ 0 < 5) /\ ·) (.tup [.agg (tcs (if treeOk (tset c.to (tset c.path t (Tr.mk false 0 [] [] []) true) (xat t c.path) false) then (tset c.to (tset c.path t (Tr.mk false 0 [] [] []) true) (xat t c.path) false) else t)), .int .i64 (if treeOk (tset c.to (tset c.path t (Tr.mk false 0 [] [] []) true) (xat t c.path) false) then 0 else 6)]) ⟨(by decide), ?_⟩⟩
 · have e : sRename t c = ((if treeOk (tset c.to (tset c.path t (Tr.mk false 0 [] [] []) true) (xat t c.path) false) then (tset c.to (tset c.path t (Tr.mk false 0 [] [] []) true) (xat t c.path) false) else t), (if treeOk (tset c.to (tset c.path t (Tr.mk false 0 [] [] []) true) (xat t c.path) false) then 0 else 6)) := by
     unfold sRename; (try rw [hc5]); (try simp only [cond_true, cond_false]); (try rw [hc9]); (try simp only [cond_true, cond_false]); (try rw [hc14]); (try simp only [cond_true, cond_false]); (try rw [hc19]); (try simp only [cond_true, cond_false])
     try first | rfl | (simp only [sRename, Tr.none, fits]; done) | (simp only [sRename, Tr.none, fits]; rfl)
   refine fin_lea ?_
   rw [e]; exact lea_refl _
theorem l2Do_ok (t : Tr) (c : Cl) (hw : t.W < 2 ^ 12) (hwf : t.wf = true) (h1 : wS c.path < 2 ^ 10) (h2 : wS c.to < 2 ^ 40) (h3 : c.data.length < 2 ^ 20) (h4 : 0 < c.path.length) (h9 : c.kind = 2 \/ c.kind = 3 -> 0 <= c.at_ /\ c.at_ <= 24) (h10 : c.kind = 5 -> 0 < c.to.length /\ wS c.to < 2 ^ 10) : PE G 23 [.agg (tcs t), .agg (clc c)] (.tup [.agg (tcs (sDo t c).1), .int .i64 (sDo t c).2]) := by
 have hl1 := wS_len c.path; have hl2 := wS_len c.to; have hxw := W_xat t c.path; have hxd := data_W (xat t c.path); have hxf := xat_wf hwf c.path
 refine Pe Tryz.func23 ?_
 refine Rr (Fn2 [] [(4, .ptr 8 0), (3, .ptr 4 0), (2, .ptr 0 0)] [(8, zt), (4, clc c), (0, tcs t)] 12 (Rr (Bc1 4 [(11, pth c.path), (10, .ptr 4 1), (9, .agg (tcs t))] 51 [.agg (tcs t), pth c.path] 12 ((0 + 5 <= 5 /\ 0 < 5) /\ ((1 : Nat) ≠ 0) /\ (1 + 1 <= 5 /\ 1 < 5) /\ ·) ⟨(by decide), (by decide), (by decide), PE.use (l2Parent_c t c.path (by omega) (by assumption) (by omega) (by omega)) ?_⟩)))
 refine Ke (Fn0 [2, 3, 4] [(6, .int .i64 (parC t c.path))] (Sq fun K3 hK3 => ?_))
 refine Rr (Cn1 (!decide ((parC t c.path : Int) = (0 : Int))) [2, 3, 4, 6] [] (Ki /\ ·) ⟨rfl, fun hc5 c5 => ?_, fun hc5 c5 => ?_⟩)
 try simp only [KF] at c5
 refine Rr (Fn3 [4] [(5, .int .i64 (parC t c.path))] [(8, tcs t), (4, clc c), (0, tcs t)] 12 ((0 + 5 <= 5 /\ 0 < 5) /\ (true = true /\ 5 = 5 /\ 0 + 5 <= 5) /\ ·) ⟨(by decide), (by decide), Rt1 ((0 + 5 <= 5 /\ 0 < 5) /\ ·) (.tup [.agg (tcs t), .int .i64 (parC t c.path)]) ⟨(by decide), ?_⟩⟩)
 · have e : sDo t c = (t, parC t c.path) := by
     unfold sDo; (try rw [hc5]); (try simp only [cond_true, cond_false])
     try first | rfl | (simp only [sDo, newDir, wMode, Tr.none, fits]; done) | (simp only [sDo, newDir, wMode, Tr.none, fits]; rfl)
   refine fin_lea ?_
   rw [e]; exact lea_refl _
 try simp only [KF] at c5
 refine Sk (Jn (hK3 (Kp [2, 3, 4] (Rr (Bc1 4 [(20, pth c.path), (19, .ptr 4 1), (18, .agg (tcs t))] 15 [.agg (tcs t), pth c.path] 21 ((0 + 5 <= 5 /\ 0 < 5) /\ ((1 : Nat) ≠ 0) /\ (1 + 1 <= 5 /\ 1 < 5) /\ ·) ⟨(by decide), (by decide), (by decide), PE.use (l1At_c c.path t (by omega) (by assumption) (by omega)) (Ke ?_)⟩)))))
 refine Fn3 [2, 3, 4] [(8, .bool ((tat t c.path).isSome)), (7, .ptr 12 0)] [(12, tcs (xat t c.path)), (8, zt), (4, clc c), (0, tcs t)] 16 ((0 < 2) /\ (1 < 2) /\ (true = true /\ 5 = 5 /\ 0 + 5 <= 5) /\ ·) ⟨(by decide), (by decide), (by decide), Sq fun K8 hK8 => ?_⟩
 refine Rr (Fn1 [2, 3, 4, 7, 8] [(25, .int .i64 c.kind)] (((1 : Nat) ≠ 0) /\ (0 + 1 <= 5 /\ 0 < 5) /\ ·) ⟨(by decide), (by decide), Bl (Rr (Cn1 (decide ((c.kind : Int) = (1 : Int))) [2, 3, 4, 7, 8, 25] [] (Ki /\ ·) ⟨rfl, fun hc11 c11 => ?_, fun hc11 c11 => ?_⟩))⟩)
 try simp only [KF] at c11
 refine Sq fun K12 hK12 => ?_
 refine Rr (Cn0 ((tat t c.path).isSome) [2, 3, 4] [] ⟨fun hc14 c14 => ?_, fun hc14 c14 => ?_⟩)
 try simp only [KF] at c14
 refine Rr (Fn3 [4] [(5, .int .i64 5)] [(12, tcs (xat t c.path)), (8, tcs t), (4, clc c), (0, tcs t)] 16 ((0 + 5 <= 5 /\ 0 < 5) /\ (true = true /\ 5 = 5 /\ 0 + 5 <= 5) /\ ·) ⟨(by decide), (by decide), Rt1 ((0 + 5 <= 5 /\ 0 < 5) /\ ·) (.tup [.agg (tcs t), .int .i64 5]) ⟨(by decide), ?_⟩⟩)
 · have e : sDo t c = (t, 5) := by
     unfold sDo; (try rw [hc5]); (try simp only [cond_true, cond_false]); (try rw [hc11]); (try simp only [cond_true, cond_false]); (try rw [hc14]); (try simp only [cond_true, cond_false])
     try first | rfl | (simp only [sDo, newDir, wMode, Tr.none, fits]; done) | (simp only [sDo, newDir, wMode, Tr.none, fits]; rfl)
   refine fin_lea ?_
   rw [e]; exact lea_refl _
 try simp only [KF] at c14
 refine Sk (Jn (hK12 (Kp [2, 3, 4] (Qr [0, 0, 2, 0, 8, 24, 63, 0, 255, 511, 511, 2047, 4095] [(0, []), (1, []), (2, []), (3, []), (4, []), (5, []), (7, []), (6, [7]), (8, []), (9, []), (10, []), (11, []), (12, [])] (qBc1 8 [(37, .agg (tcs t)), (35, .agg [.bool true, .int .i64 c.at_, .str [], .nils, .nils]), (34, .int .i64 c.at_), (33, .ptr 4 3), (32, pth c.path), (31, .ptr 4 1), (30, .agg (tcs t))] [7] 53 [.agg (tcs t), pth c.path, .agg [.bool true, .int .i64 c.at_, .str [], .nils, .nils], .bool false] 36 ((0 + 5 <= 5 /\ 0 < 5) /\ ((1 : Nat) ≠ 0) /\ (1 + 1 <= 5 /\ 1 < 5) /\ ((1 : Nat) ≠ 0) /\ (3 + 1 <= 5 /\ 3 < 5) /\ (0 + 5 <= 5 /\ 0 < 5) /\ ·) ⟨(by decide), (by decide), (by decide), (by decide), (by decide), (by decide), ?_⟩)))))
 have hX : ((Tr.mk true c.at_ [] [] [])).W < 2 ^ 12 := by simp only [W_eq (Tr.mk _ _ _ _ _), Tr.data_mk, Tr.names_mk, Tr.kids_mk, wS, Tr.Ws, List.length_nil]; rw [W_eq (xat t c.path)] at hxw; omega
 have hB := W_tset_lt2 (g := false) hw hX h1
 refine TCall_le [.agg (tcs t), pth c.path, .agg (tcs (Tr.mk true c.at_ [] [] [])), .bool false] (by simp [lea, leas, pth, Tr.none, tcs, clc]) ?_
 refine PE.use (l2Set_ok _ c.path t (Tr.mk true c.at_ [] [] []) false rfl (by omega) (by assumption) (by omega) (by omega)) ?_
 refine Kq (p := (((0 + 5 <= 5 /\ 0 < 5) /\ (AV.agg (tcs t) = (.agg (tcs t) : AV))) /\ True)) ⟨⟨(by decide), rfl⟩, trivial⟩ ?_
 refine qBc0 1 [] [] 52 [.agg (tcs (tset c.path t (Tr.mk true c.at_ [] [] []) false)), .agg (tcs t)] 38 ?_
 refine PE.use (l2Fits_c (tset c.path t (Tr.mk true c.at_ [] [] []) false) t (by omega)) ?_
 refine Kq (p := (True)) trivial ?_
 refine qFn3 [4] [(5, .int .i64 (if treeOk (tset c.path t (Tr.mk true c.at_ [] [] []) false) then 0 else 6))] [(12, tcs (xat t c.path)), (8, tcs (if treeOk (tset c.path t (Tr.mk true c.at_ [] [] []) false) then (tset c.path t (Tr.mk true c.at_ [] [] []) false) else t)), (4, clc c), (0, tcs t)] 16 ((0 < 2) /\ (1 < 2) /\ (true = true /\ 5 = 5 /\ 0 + 5 <= 5) /\ (True) /\ ·) ⟨(by decide), (by decide), (by decide), trivial, Rt1 ((0 + 5 <= 5 /\ 0 < 5) /\ ·) (.tup [.agg (tcs (if treeOk (tset c.path t (Tr.mk true c.at_ [] [] []) false) then (tset c.path t (Tr.mk true c.at_ [] [] []) false) else t)), .int .i64 (if treeOk (tset c.path t (Tr.mk true c.at_ [] [] []) false) then 0 else 6)]) ⟨(by decide), ?_⟩⟩
 · have e : sDo t c = ((if treeOk (tset c.path t (Tr.mk true c.at_ [] [] []) false) then (tset c.path t (Tr.mk true c.at_ [] [] []) false) else t), (if treeOk (tset c.path t (Tr.mk true c.at_ [] [] []) false) then 0 else 6)) := by
     unfold sDo; (try rw [hc5]); (try simp only [cond_true, cond_false]); (try rw [hc11]); (try simp only [cond_true, cond_false]); (try rw [hc14]); (try simp only [cond_true, cond_false])
     try first | rfl | (simp only [sDo, newDir, wMode, Tr.none, fits]; done) | (simp only [sDo, newDir, wMode, Tr.none, fits]; rfl)
   refine fin_lea ?_
   rw [e]; exact lea_refl _
 try simp only [KF] at c11
 refine Sq fun K17 hK17 => ?_
 refine Rr (Cn1 (decide ((c.kind : Int) = (2 : Int))) [2, 3, 4, 7, 8, 25] [(41, .bool (decide ((c.kind : Int) = (2 : Int))))] (Ki /\ ·) ⟨rfl, fun hc19 c19 => ?_, fun hc19 c19 => ?_⟩)
 try simp only [KF] at c19
 refine Sk (Jn (hK17 (Kp [2, 3, 4, 7, 8, 25, 41] (C1 (t := decide ((c.kind : Int) = (2 : Int))) hc19 (Rr (Bc1 3 [(45, .agg (clc c)), (44, .agg (tcs t))] 54 [.agg (tcs t), .agg (clc c)] 46 ((0 + 5 <= 5 /\ 0 < 5) /\ (0 + 5 <= 5 /\ 0 < 5) /\ ·) ⟨(by decide), (by decide), PE.use (l2File_ok t c (by omega) (by assumption) (by omega) (by omega) (by omega) (by omega) (by have := h9 (by first | (left; simpa using hc19) | (right; simpa using hc19)); omega) (by have := h9 (by first | (left; simpa using hc19) | (right; simpa using hc19)); omega)) ?_⟩))))))
 refine Ke (Fn3 [4] [(5, .int .i64 ((sFile t c).2))] [(12, tcs (xat t c.path)), (8, tcs ((sFile t c).1)), (4, clc c), (0, tcs t)] 16 ((0 < 2) /\ (1 < 2) /\ (true = true /\ 5 = 5 /\ 0 + 5 <= 5) /\ ·) ⟨(by decide), (by decide), (by decide), Rt1 ((0 + 5 <= 5 /\ 0 < 5) /\ ·) (.tup [.agg (tcs ((sFile t c).1)), .int .i64 ((sFile t c).2)]) ⟨(by decide), ?_⟩⟩)
 · have e : sDo t c = (((sFile t c).1), (sFile t c).2) := by
     unfold sDo; (try rw [hc5]); (try simp only [cond_true, cond_false]); (try rw [hc11]); (try simp only [cond_true, cond_false]); (try rw [hc19]); (try simp only [cond_true, cond_false])
     try first | rfl | (simp only [sDo, newDir, wMode, Tr.none, fits]; done) | (simp only [sDo, newDir, wMode, Tr.none, fits]; rfl)
   refine fin_lea ?_
   rw [e]; exact lea_refl _
 try simp only [KF] at c19
 refine Rb (fun h => Jn (hK17 h)) (Fn1 [2, 3, 4, 7, 8, 25] [(41, .bool (decide ((c.kind : Int) = (3 : Int))))] (Ki /\ ·) ⟨rfl, Cc (decide ((c.kind : Int) = (3 : Int))) (fun hc21 c21 => ?_) fun hc21 c21 => ?_⟩)
 try simp only [KF] at c21
 refine Rr (Bc1 3 [(45, .agg (clc c)), (44, .agg (tcs t))] 54 [.agg (tcs t), .agg (clc c)] 46 ((0 + 5 <= 5 /\ 0 < 5) /\ (0 + 5 <= 5 /\ 0 < 5) /\ ·) ⟨(by decide), (by decide), PE.use (l2File_ok t c (by omega) (by assumption) (by omega) (by omega) (by omega) (by omega) (by have := h9 (by first | (left; simpa using hc21) | (right; simpa using hc21)); omega) (by have := h9 (by first | (left; simpa using hc21) | (right; simpa using hc21)); omega)) (Ke (Fn3 [4] [(5, .int .i64 ((sFile t c).2))] [(12, tcs (xat t c.path)), (8, tcs ((sFile t c).1)), (4, clc c), (0, tcs t)] 16 ((0 < 2) /\ (1 < 2) /\ (true = true /\ 5 = 5 /\ 0 + 5 <= 5) /\ ·) ⟨(by decide), (by decide), (by decide), ?_⟩))⟩)
 refine Rt1 ((0 + 5 <= 5 /\ 0 < 5) /\ ·) (.tup [.agg (tcs ((sFile t c).1)), .int .i64 ((sFile t c).2)]) ⟨(by decide), ?_⟩
 · have e : sDo t c = (((sFile t c).1), (sFile t c).2) := by
     unfold sDo; (try rw [hc5]); (try simp only [cond_true, cond_false]); (try rw [hc11]); (try simp only [cond_true, cond_false]); (try rw [hc19]); (try simp only [cond_true, cond_false]); (try rw [hc21]); (try simp only [cond_true, cond_false])
     try first | rfl | (simp only [sDo, newDir, wMode, Tr.none, fits]; done) | (simp only [sDo, newDir, wMode, Tr.none, fits]; rfl)
   refine fin_lea ?_
   rw [e]; exact lea_refl _
 try simp only [KF] at c21
 refine Rr (Cn1 (decide ((c.kind : Int) = (5 : Int))) [2, 3, 4, 7, 8] [] (Ki /\ ·) ⟨rfl, fun hc24 c24 => ?_, fun hc24 c24 => ?_⟩)
 try simp only [KF] at c24
 refine Rr (Bc1 3 [(52, .agg (clc c)), (51, .agg (tcs t))] 55 [.agg (tcs t), .agg (clc c)] 53 ((0 + 5 <= 5 /\ 0 < 5) /\ (0 + 5 <= 5 /\ 0 < 5) /\ ·) ⟨(by decide), (by decide), PE.use (l2Rename_ok t c (by omega) (by assumption) (by omega) (by omega) (by omega) (by omega) (h10 (by simpa using hc24)).1 (h10 (by simpa using hc24)).2) (Ke (Fn3 [4] [(5, .int .i64 ((sRename t c).2))] [(12, tcs (xat t c.path)), (8, tcs ((sRename t c).1)), (4, clc c), (0, tcs t)] 16 ((0 < 2) /\ (1 < 2) /\ (true = true /\ 5 = 5 /\ 0 + 5 <= 5) /\ ·) ⟨(by decide), (by decide), (by decide), ?_⟩))⟩)
 refine Rt1 ((0 + 5 <= 5 /\ 0 < 5) /\ ·) (.tup [.agg (tcs ((sRename t c).1)), .int .i64 ((sRename t c).2)]) ⟨(by decide), ?_⟩
 · have e : sDo t c = (((sRename t c).1), (sRename t c).2) := by
     unfold sDo; (try rw [hc5]); (try simp only [cond_true, cond_false]); (try rw [hc11]); (try simp only [cond_true, cond_false]); (try rw [hc19]); (try simp only [cond_true, cond_false]); (try rw [hc21]); (try simp only [cond_true, cond_false]); (try rw [hc24]); (try simp only [cond_true, cond_false])
     try first | rfl | (simp only [sDo, newDir, wMode, Tr.none, fits]; done) | (simp only [sDo, newDir, wMode, Tr.none, fits]; rfl)
   refine fin_lea ?_
   rw [e]; exact lea_refl _
 try simp only [KF] at c24
 refine Sk (Bn (Jn (hK8 (Kp [2, 3, 4, 7, 8] (Sq fun K26 hK26 => ?_)))))
 refine Rr (Cn0 (!((tat t c.path).isSome)) [2, 3, 4, 7] [] ⟨fun hc28 c28 => ?_, fun hc28 c28 => ?_⟩)
 try simp only [KF] at c28
 refine Rr (Fn3 [4] [(5, .int .i64 3)] [(12, tcs (xat t c.path)), (8, tcs t), (4, clc c), (0, tcs t)] 16 ((0 + 5 <= 5 /\ 0 < 5) /\ (true = true /\ 5 = 5 /\ 0 + 5 <= 5) /\ ·) ⟨(by decide), (by decide), Rt1 ((0 + 5 <= 5 /\ 0 < 5) /\ ·) (.tup [.agg (tcs t), .int .i64 3]) ⟨(by decide), ?_⟩⟩)
 · have e : sDo t c = (t, 3) := by
     unfold sDo; (try rw [hc5]); (try simp only [cond_true, cond_false]); (try rw [hc11]); (try simp only [cond_true, cond_false]); (try rw [hc19]); (try simp only [cond_true, cond_false]); (try rw [hc21]); (try simp only [cond_true, cond_false]); (try rw [hc24]); (try simp only [cond_true, cond_false]); (try rw [hc28]); (try simp only [cond_true, cond_false])
     try first | rfl | (simp only [sDo, newDir, wMode, Tr.none, fits]; done) | (simp only [sDo, newDir, wMode, Tr.none, fits]; rfl)
   refine fin_lea ?_
   rw [e]; exact lea_refl _
 try simp only [KF] at c28
 refine Sk (Jn (hK26 (Kp [2, 3, 4, 7] (Sq fun K30 hK30 => ?_))))
 refine Rr (Cn1 (decide ((c.kind : Int) = (4 : Int))) [2, 3, 4, 7] [] (((1 : Nat) ≠ 0) /\ (0 + 1 <= 5 /\ 0 < 5) /\ Ki /\ ·) ⟨(by decide), (by decide), rfl, fun hc32 c32 => ?_, fun hc32 c32 => ?_⟩)
 try simp only [KF] at c32
 refine Sq fun K33 hK33 => ?_
 refine Rr (Av1 (r := .int .i64 ((((xat t c.path).names).map (fun s => [AV.str s])).length : Nat)) (v := .int .i64 (((xat t c.path).names).length : Int)) 3 64 [(63, pth ((xat t c.path).names)), (62, .ptr 12 3)] (by rw [List.length_map]) (((1 : Nat) ≠ 0) /\ (3 + 1 <= 5 /\ 3 < 5) /\ ·) ⟨(by decide), (by decide), Cn1 (decide ((0 : Int) < ((((xat t c.path).names).length : Int) : Int))) [2, 3, 4] [] (Ki /\ ·) ⟨rfl, fun hc35 c35 => ?_, fun hc35 c35 => ?_⟩⟩)
 try simp only [KF] at c35
 refine Rr (Fn3 [4] [(5, .int .i64 5)] [(12, tcs (xat t c.path)), (8, tcs t), (4, clc c), (0, tcs t)] 16 ((0 + 5 <= 5 /\ 0 < 5) /\ (true = true /\ 5 = 5 /\ 0 + 5 <= 5) /\ ·) ⟨(by decide), (by decide), Rt1 ((0 + 5 <= 5 /\ 0 < 5) /\ ·) (.tup [.agg (tcs t), .int .i64 5]) ⟨(by decide), ?_⟩⟩)
 · have e : sDo t c = (t, 5) := by
     unfold sDo; (try rw [hc5]); (try simp only [cond_true, cond_false]); (try rw [hc11]); (try simp only [cond_true, cond_false]); (try rw [hc19]); (try simp only [cond_true, cond_false]); (try rw [hc21]); (try simp only [cond_true, cond_false]); (try rw [hc24]); (try simp only [cond_true, cond_false]); (try rw [hc28]); (try simp only [cond_true, cond_false]); (try rw [hc32]); (try simp only [cond_true, cond_false]); (try rw [hc35]); (try simp only [cond_true, cond_false])
     try first | rfl | (simp only [sDo, newDir, wMode, Tr.none, fits]; done) | (simp only [sDo, newDir, wMode, Tr.none, fits]; rfl)
   refine fin_lea ?_
   rw [e]; exact lea_refl _
 try simp only [KF] at c35
 refine Sk (Jn (hK33 (Kp [2, 3, 4] (Rr (Bc1 5 [(70, .agg zt), (69, pth c.path), (68, .ptr 4 1), (67, .agg (tcs t))] 53 [.agg (tcs t), pth c.path, .agg zt, .bool true] 71 ((0 + 5 <= 5 /\ 0 < 5) /\ ((1 : Nat) ≠ 0) /\ (1 + 1 <= 5 /\ 1 < 5) /\ ·) ⟨(by decide), (by decide), (by decide), ?_⟩)))))
 have hX : ((Tr.mk false 0 [] [] [])).W < 2 ^ 12 := by simp only [W_eq (Tr.mk _ _ _ _ _), Tr.data_mk, Tr.names_mk, Tr.kids_mk, wS, Tr.Ws, List.length_nil]; rw [W_eq (xat t c.path)] at hxw; omega
 have hB := W_tset_lt2 (g := true) hw hX h1
 refine TCall_le [.agg (tcs t), pth c.path, .agg (tcs (Tr.mk false 0 [] [] [])), .bool true] (by simp [lea, leas, pth, Tr.none, tcs, clc]) ?_
 refine PE.use (l2Set_ok _ c.path t (Tr.mk false 0 [] [] []) true rfl (by omega) (by assumption) (by omega) (by omega)) ?_
 refine Ke (Fn3 [4] [(5, .int .i64 0)] [(12, tcs (xat t c.path)), (8, tcs (tset c.path t (Tr.mk false 0 [] [] []) true)), (4, clc c), (0, tcs t)] 16 ((true = true /\ 5 = 5 /\ 0 + 5 <= 5) /\ ·) ⟨(by decide), Rt1 ((0 + 5 <= 5 /\ 0 < 5) /\ ·) (.tup [.agg (tcs (tset c.path t (Tr.mk false 0 [] [] []) true)), .int .i64 0]) ⟨(by decide), ?_⟩⟩)
 · have e : sDo t c = ((tset c.path t (Tr.mk false 0 [] [] []) true), 0) := by
     unfold sDo; (try rw [hc5]); (try simp only [cond_true, cond_false]); (try rw [hc11]); (try simp only [cond_true, cond_false]); (try rw [hc19]); (try simp only [cond_true, cond_false]); (try rw [hc21]); (try simp only [cond_true, cond_false]); (try rw [hc24]); (try simp only [cond_true, cond_false]); (try rw [hc28]); (try simp only [cond_true, cond_false]); (try rw [hc32]); (try simp only [cond_true, cond_false]); (try rw [hc35]); (try simp only [cond_true, cond_false])
     try first | rfl | (simp only [sDo, newDir, wMode, Tr.none, fits]; done) | (simp only [sDo, newDir, wMode, Tr.none, fits]; rfl)
   refine fin_lea ?_
   rw [e]; exact lea_refl _
 try simp only [KF] at c32
 refine Sk (Jn (hK30 (Kp [2, 3, 4, 7] (Rr (Fn3 [2, 3, 4, 7] [] [(12, [.bool ((xat t c.path).dir), .int .i64 c.at_, .str ((xat t c.path).data), pth ((xat t c.path).names), .sl 5 (((xat t c.path).kids).map trc)]), (8, zt), (4, clc c), (0, tcs t)] 16 (((1 : Nat) ≠ 0) /\ (3 + 1 <= 5 /\ 3 < 5) /\ ((1 : Nat) ≠ 0) /\ (true = true /\ 1 = 1 /\ 1 + 1 <= 5) /\ ·) ⟨(by decide), (by decide), (by decide), (by decide), Rr (Bc1 5 [(78, .agg [.bool ((xat t c.path).dir), .int .i64 c.at_, .str ((xat t c.path).data), pth ((xat t c.path).names), .sl 5 (((xat t c.path).kids).map trc)]), (77, pth c.path), (76, .ptr 4 1), (75, .agg (tcs t))] 53 [.agg (tcs t), pth c.path, .agg [.bool ((xat t c.path).dir), .int .i64 c.at_, .str ((xat t c.path).data), pth ((xat t c.path).names), .sl 5 (((xat t c.path).kids).map trc)], .bool false] 79 ((0 + 5 <= 5 /\ 0 < 5) /\ ((1 : Nat) ≠ 0) /\ (1 + 1 <= 5 /\ 1 < 5) /\ (0 + 5 <= 5 /\ 0 < 5) /\ ·) ⟨(by decide), (by decide), (by decide), (by decide), ?_⟩)⟩)))))
 have hX : ((Tr.mk ((xat t c.path).dir) c.at_ ((xat t c.path).data) ((xat t c.path).names) ((xat t c.path).kids))).W < 2 ^ 12 := by simp only [W_eq (Tr.mk _ _ _ _ _), Tr.data_mk, Tr.names_mk, Tr.kids_mk, wS, Tr.Ws, List.length_nil]; rw [W_eq (xat t c.path)] at hxw; omega
 have hB := W_tset_lt2 (g := false) hw hX h1
 refine TCall_le [.agg (tcs t), pth c.path, .agg (tcs (Tr.mk ((xat t c.path).dir) c.at_ ((xat t c.path).data) ((xat t c.path).names) ((xat t c.path).kids))), .bool false] (by simp [lea, leas, pth, Tr.none, tcs, clc]) ?_
 refine PE.use (l2Set_ok _ c.path t (Tr.mk ((xat t c.path).dir) c.at_ ((xat t c.path).data) ((xat t c.path).names) ((xat t c.path).kids)) false rfl (by omega) (by assumption) (by omega) (by omega)) ?_
 refine Ke (Fn3 [4] [(5, .int .i64 0)] [(12, [.bool ((xat t c.path).dir), .int .i64 c.at_, .str ((xat t c.path).data), pth ((xat t c.path).names), .sl 5 (((xat t c.path).kids).map trc)]), (8, tcs (tset c.path t (Tr.mk ((xat t c.path).dir) c.at_ ((xat t c.path).data) ((xat t c.path).names) ((xat t c.path).kids)) false)), (4, clc c), (0, tcs t)] 16 ((true = true /\ 5 = 5 /\ 0 + 5 <= 5) /\ ·) ⟨(by decide), Rt1 ((0 + 5 <= 5 /\ 0 < 5) /\ ·) (.tup [.agg (tcs (tset c.path t (Tr.mk ((xat t c.path).dir) c.at_ ((xat t c.path).data) ((xat t c.path).names) ((xat t c.path).kids)) false)), .int .i64 0]) ⟨(by decide), ?_⟩⟩)
 · have e : sDo t c = ((tset c.path t (Tr.mk ((xat t c.path).dir) c.at_ ((xat t c.path).data) ((xat t c.path).names) ((xat t c.path).kids)) false), 0) := by
     unfold sDo; (try rw [hc5]); (try simp only [cond_true, cond_false]); (try rw [hc11]); (try simp only [cond_true, cond_false]); (try rw [hc19]); (try simp only [cond_true, cond_false]); (try rw [hc21]); (try simp only [cond_true, cond_false]); (try rw [hc24]); (try simp only [cond_true, cond_false]); (try rw [hc28]); (try simp only [cond_true, cond_false]); (try rw [hc32]); (try simp only [cond_true, cond_false])
     try first | rfl | (simp only [sDo, newDir, wMode, Tr.none, fits]; done) | (simp only [sDo, newDir, wMode, Tr.none, fits]; rfl)
   refine fin_lea ?_
   rw [e]; exact lea_refl _
theorem sTreeDo_ok (t : Tr) (c : Cl) (hw0 : t.W < 2 ^ 40) (h1 : wS c.path < 2 ^ 40) (h2 : wS c.to < 2 ^ 40) (h3 : c.data.length < 2 ^ 20) : PE G 7 [.agg (tcs t), .agg (clc c)] (.tup [.agg (tcs (sTreeDo t c).1), .int .i64 (sTreeDo t c).2]) := by
 have hl1 := wS_len c.path; have hl2 := wS_len c.to
 refine Pe Tryz.func7 ?_
 refine Rr (Fn2 [] [(4, .ptr 8 0), (3, .ptr 4 0), (2, .ptr 0 0)] [(8, zt), (4, clc c), (0, tcs t)] 12 (Sq fun K2 hK2 => ?_))
 refine Rr (Pc1 2 [(8, .agg (tcs t))] 9 (0 + 5 <= 5 /\ 0 < 5) (by decide) (sTreeOk_c t (by omega)) (Cn0 (!(treeOk t)) [2, 3, 4] [] ⟨fun hc4 c4 => ?_, fun hc4 c4 => ?_⟩))
 try simp only [KF] at c4
 refine Rr (Fn1 [4] [(5, .int .i64 1)] ((true = true /\ 5 = 5 /\ 0 + 5 <= 5) /\ ·) ⟨(by decide), Rt1 ((0 + 5 <= 5 /\ 0 < 5) /\ ·) (.tup [.agg zt, .int .i64 1]) ⟨(by decide), fin_lea ?_⟩⟩)
 unfold sTreeDo; (try rw [hc4]); (try simp only [cond_true, cond_false])
 try first | exact lea_refl _ | (simp [lea, leas, Tr.none, pth])
 try simp only [KF] at c4
 refine Sk (Jn (hK2 (Kp [2, 3, 4] (Sq fun K6 hK6 => ?_))))
 refine Rr (Pc1 2 [(12, .agg (clc c))] 13 (0 + 5 <= 5 /\ 0 < 5) (by decide) (l2CallOk_ok c (by omega) (fun s hs => Nat.lt_trans (wS_mem hs) (by omega)) (by omega) (fun s hs => Nat.lt_trans (wS_mem hs) (by omega))) (Cn0 (!(callOk c)) [2, 3, 4] [] ⟨fun hc8 c8 => ?_, fun hc8 c8 => ?_⟩))
 try simp only [KF] at c8
 refine Rr (Pc1 2 [(15, .agg (tcs t))] 16 (0 + 5 <= 5 /\ 0 < 5) (by decide) (l1Copy_ok _ t rfl (by omega)) (Fn3 [4] [(5, .int .i64 2)] [(8, tcs t), (4, clc c), (0, tcs t)] 12 ((true = true /\ 5 = 5 /\ 0 + 5 <= 5) /\ ·) ⟨(by decide), Rt1 ((0 + 5 <= 5 /\ 0 < 5) /\ ·) (.tup [.agg (tcs t), .int .i64 2]) ⟨(by decide), fin_lea ?_⟩⟩))
 unfold sTreeDo; (try rw [hc4]); (try simp only [cond_true, cond_false]); (try rw [hc8]); (try simp only [cond_true, cond_false])
 try first | exact lea_refl _ | (simp [lea, leas, Tr.none, pth])
 try simp only [KF] at c8
 refine Sk (Jn (hK6 (Kp [2, 3, 4] ?_)))
 have hto : treeOk t = true := by simpa using hc4
 have hco : callOk c = true := by simpa using hc8
 have hw := W_ok hto; have hwf := wf_ok hto
 obtain ⟨f1, f2, f3, f4⟩ := callOk_facts hco
 have hWd := W_sDo (c := c) hw f2
 refine Rr (Bc1 3 [(19, .agg (clc c)), (18, .agg (tcs t))] 23 [.agg (tcs t), .agg (clc c)] 20 ((0 + 5 <= 5 /\ 0 < 5) /\ (0 + 5 <= 5 /\ 0 < 5) /\ ·) ⟨(by decide), (by decide), PE.use (l2Do_ok t c (by omega) hwf f2 h2 h3 f1 f3 f4) (Ke (Fn3 [4] [(7, .int .i64 ((sDo t c).2)), (6, .ptr 12 0)] [(12, tcs ((sDo t c).1)), (8, zt), (4, clc c), (0, tcs t)] 16 ((0 < 2) /\ (1 < 2) /\ (true = true /\ 5 = 5 /\ 0 + 5 <= 5) /\ ·) ⟨(by decide), (by decide), (by decide), ?_⟩))⟩)
 refine Rr (Pc1 2 [(23, .agg (tcs ((sDo t c).1)))] 24 (0 + 5 <= 5 /\ 0 < 5) (by decide) (l1Copy_ok _ ((sDo t c).1) rfl (by omega)) (Fn3 [4] [(5, .int .i64 ((sDo t c).2))] [(12, tcs ((sDo t c).1)), (8, tcs ((sDo t c).1)), (4, clc c), (0, tcs t)] 16 ((true = true /\ 5 = 5 /\ 0 + 5 <= 5) /\ ·) ⟨(by decide), Rt1 ((0 + 5 <= 5 /\ 0 < 5) /\ ·) (.tup [.agg (tcs ((sDo t c).1)), .int .i64 ((sDo t c).2)]) ⟨(by decide), fin_lea ?_⟩⟩))
 unfold sTreeDo; (try rw [hc4]); (try simp only [cond_true, cond_false]); (try rw [hc8]); (try simp only [cond_true, cond_false])
 try first | exact lea_refl _ | (simp [lea, leas, Tr.none, pth])
open Go Go.Proofs
set_option maxRecDepth 100000
theorem pick_ok (b : Str) (p m : Nat) (hm : 1 <= m) (hm2 : m < 2 ^ 40) (hp : p < 2 ^ 30) (hb : b.length < 2 ^ 30) : RC G 12 [.int .i64 m] b p (fun r p' => ∃ k : Nat, k < m /\ r = .int .i64 k /\ p' = p + 1) := by
 refine h_rc (F := [(0, .ptr 0 0), (1, .int .i64 m)]) (by simp only [go_sem]) Tryz.func12 (by kernel_rfl) (by kernel_rfl) ?_ (by kernel_rfl)
 refine Rr (Fn0 [0, 1] [] (Rr (Av1 6 12 [(11, .int .i64 p), (10, .ptr 0 1), (9, .ptr 0 0), (8, .ptr 0 0), (7, .ptr 0 0)] (congrArg (AV.int .i64) (wn1 p (by omega))) (((1 : Nat) ≠ 0) /\ (1 + 1 <= 2 /\ 1 < 2) /\ Ki /\ ·) ⟨(by decide), (by decide), rfl, Fn3 [0, 1] [] [(0, [.sl 1 (b.map fun c => [AV.int .u8 (c.toNat : Int)]), .int .i64 ((p + 1 : Nat) : Int)])] 4 (((1 : Nat) ≠ 0) /\ (true = true /\ 1 = 1 /\ 1 + 1 <= 2) /\ ·) ⟨(by decide), (by decide), ?_⟩⟩)))
 refine Sq fun K3 hK3 => ?_
 refine Rm 24 ((decide ((m : Int) < 1)) || (decide ((b.length : Int) = 0))) [0, 1] ?_ ?_
 refine An1 3 [(17, .bool (decide ((m : Int) < 1))), (16, .bool (decide ((m : Int) < 1))), (15, .int .i64 m)] (Ki /\ ·) ⟨rfl, run_b (fun g5 => ?_) (fun g5 => ?_)⟩
 have hg5 := g5
 try simp only [KF] at g5
 refine Mn0 true (by rw [hg5]; rfl)
 have hg5 := g5
 try simp only [KF] at g5
 refine Av1 (r := .int .i64 ((b.map (fun c => [AV.int .u8 (c.toNat : Int)])).length : Nat)) (v := .int .i64 b.length) 5 22 [(21, .sl 1 (b.map fun c => [AV.int .u8 (c.toNat : Int)])), (20, .ptr 0 0), (19, .ptr 0 0), (18, .ptr 0 0)] (by rw [List.length_map]) (((1 : Nat) ≠ 0) /\ (0 + 1 <= 2 /\ 0 < 2) /\ ·) ⟨(by decide), (by decide), Mn1 (decide ((b.length : Int) = 0)) (Ki /\ ·) ⟨rfl, (by rw [hg5]; rfl)⟩⟩
 refine Cc ((decide ((m : Int) < 1)) || (decide ((b.length : Int) = 0))) (fun hc6 c6 => ?_) fun hc6 c6 => ?_
 try simp only [KF] at c6
 refine Rr (Fn0 [] [(4, .int .i64 0)] (Rt (.int .i64 0) ?_))
 exact fin_rc (p + 1) (lea_refl _) (by simp only [go_sem]) (by kernel_rfl) (⟨0, by first | omega | exact Nat.mod_lt _ (by omega), rfl, rfl⟩)
 try simp only [KF] at c6
 refine Sk (Jn (hK3 (Kp [0, 1] (Rr (Av1 5 29 [(28, .int .i64 ((p + 1 : Nat) : Int)), (27, .ptr 0 1), (26, .ptr 0 0), (25, .ptr 0 0)] (congrArg (AV.int .i64) (wnp p (by omega))) (((1 : Nat) ≠ 0) /\ (1 + 1 <= 2 /\ 1 < 2) /\ Ki /\ ·) ⟨(by decide), (by decide), rfl, Fn0 [0, 1] [(5, .int .i64 p)] (Sq fun K9 hK9 => ?_)⟩)))))
 refine Rr (Av1 (r := .int .i64 ((b.map (fun c => [AV.int .u8 (c.toNat : Int)])).length : Nat)) (v := .int .i64 b.length) 6 35 [(34, .sl 1 (b.map fun c => [AV.int .u8 (c.toNat : Int)])), (33, .ptr 0 0), (32, .ptr 0 0), (31, .ptr 0 0), (30, .int .i64 p)] (by rw [List.length_map]) (((1 : Nat) ≠ 0) /\ (0 + 1 <= 2 /\ 0 < 2) /\ ·) ⟨(by decide), (by decide), Cn1 (decide ((p : Int) < (b.length : Int))) [0, 1, 5] [] (Ki /\ ·) ⟨rfl, fun hc11 c11 => ?_, fun hc11 c11 => ?_⟩⟩)
 try simp only [KF] at c11
 refine Rr (Av1 6 42 [(41, .int .i64 p), (40, .sl 1 (b.map fun c => [AV.int .u8 (c.toNat : Int)])), (39, .ptr 0 0), (38, .ptr 0 0), (37, .ptr 0 0)] (congrArg AV.pat (mg_u8 b p (by omega))) (fun Z => ((1 : Nat) ≠ 0) /\ (0 + 1 <= 2 /\ 0 < 2) /\ (1 = 1 /\ (0 : Int) <= (p : Int) /\ (p : Int) < (((b.map (fun c => [AV.int .u8 (c.toNat : Int)])).length : Nat) : Int)) /\ Z) ⟨(by decide), (by decide), ⟨rfl, by omega, by rw [List.length_map]; omega⟩, ?_⟩)
 have hu13 := UInt8.toNat_lt (b.getD p 0)
 refine Av1 (r := .int .i64 (IntKind.i64.wrap ((b.getD p 0).toNat : Int))) (v := .int .i64 ((b.getD p 0).toNat : Int)) 2 44 [(43, .int .u8 ((b.getD p 0).toNat : Int))] (congrArg (AV.int .i64) (wrap64 (by omega) (by omega))) ((1 <= 1 /\ 0 < 1) /\ ·) ⟨(by decide), ?_⟩
 have hm14 := Nat.mod_lt ((b.getD p 0).toNat) (show 0 < m by omega)
 refine Av1 2 46 [(45, .int .i64 m)] (congrArg (AV.int .i64) (nmod ((b.getD p 0).toNat) m)) ((IntKind.i64 = IntKind.i64 /\ ((m : Int) : Int) ≠ 0) /\ ·) ⟨⟨rfl, by omega⟩, Fn0 [] [(4, .int .i64 ((((b.getD p 0).toNat) % m : Nat) : Int))] (Rt (.int .i64 ((((b.getD p 0).toNat) % m : Nat) : Int)) ?_)⟩
 exact fin_rc (p + 1) (lea_refl _) (by simp only [go_sem]) (by kernel_rfl) (⟨((b.getD p 0).toNat) % m, by first | omega | exact Nat.mod_lt _ (by omega), rfl, rfl⟩)
 try simp only [KF] at c11
 refine Sk (Jn (hK9 (Kp [0, 1, 5] (Qr [0, 1, 3, 7, 0, 0, 32, 96, 224, 480, 1008, 2047, 4095, 8191, 16383, 0, 32768, 98304, 229376, 0, 524288, 1572864, 0, 4194304, 12582912, 29360128, 62914560, 133693440, 268402688, 536838144, 1073709056, 2147450880, 4294967295, 0, 8589934592, 34359738367, 0, 0, 137438953472, 412316860416, 962072674304, 2061584302080, 4329327034368, 8727373545472, 17592186044415, 35184372088831] [(0, []), (1, []), (2, []), (3, []), (4, []), (5, []), (6, []), (7, []), (8, []), (9, []), (10, []), (11, []), (12, []), (13, []), (14, []), (15, []), (16, []), (17, []), (18, []), (19, []), (20, []), (21, []), (22, []), (23, []), (24, []), (25, []), (26, []), (27, []), (28, []), (29, []), (30, []), (31, []), (32, []), (33, []), (34, []), (35, []), (36, []), (37, []), (38, []), (39, []), (40, []), (41, []), (42, []), (43, []), (44, []), (45, [])] (qAv1 (r := .int .i64 ((b.map (fun c => [AV.int .u8 (c.toNat : Int)])).length : Nat)) (v := .int .i64 b.length) 10 56 [(55, .sl 1 (b.map fun c => [AV.int .u8 (c.toNat : Int)])), (54, .ptr 0 0), (53, .ptr 0 0), (52, .ptr 0 0), (51, .int .i64 p), (50, .sl 1 (b.map fun c => [AV.int .u8 (c.toNat : Int)])), (49, .ptr 0 0), (48, .ptr 0 0), (47, .ptr 0 0)] (by rw [List.length_map]) (((1 : Nat) ≠ 0) /\ (0 + 1 <= 2 /\ 0 < 2) /\ ((1 : Nat) ≠ 0) /\ (0 + 1 <= 2 /\ 0 < 2) /\ ·) ⟨(by decide), (by decide), (by decide), (by decide), ?_⟩)))))
 have hm16 := Nat.mod_lt p (show 0 < b.length by omega)
 refine qAv1 1 57 [] (congrArg (AV.int .i64) (nmod p b.length)) ((IntKind.i64 = IntKind.i64 /\ ((b.length : Int) : Int) ≠ 0) /\ ·) ⟨⟨rfl, by omega⟩, qAv1 1 58 [] (congrArg AV.pat (mg_u8 b (p % b.length) (by omega))) (fun Z => (1 = 1 /\ (0 : Int) <= ((p % b.length : Nat) : Int) /\ ((p % b.length : Nat) : Int) < (((b.map (fun c => [AV.int .u8 (c.toNat : Int)])).length : Nat) : Int)) /\ Z) ⟨⟨rfl, by omega, by rw [List.length_map]; omega⟩, ?_⟩⟩
 have hu17 := UInt8.toNat_lt (b.getD (p % b.length) 0)
 refine qAv1 (r := .int .i64 (IntKind.i64.wrap ((b.getD (p % b.length) 0).toNat : Int))) (v := .int .i64 ((b.getD (p % b.length) 0).toNat : Int)) 2 60 [(59, .int .u8 ((b.getD (p % b.length) 0).toNat : Int))] (congrArg (AV.int .i64) (wrap64 (by omega) (by omega))) ((1 <= 1 /\ 0 < 1) /\ ·) ⟨(by decide), qAv1 1 61 [] (congrArg (AV.int .i64) (wnm ((b.getD (p % b.length) 0).toNat) 131 (by omega))) (Ki /\ ·) ⟨rfl, qAv1 6 67 [(66, .int .i64 p), (65, .sl 1 (b.map fun c => [AV.int .u8 (c.toNat : Int)])), (64, .ptr 0 0), (63, .ptr 0 0), (62, .ptr 0 0)] (congrArg (AV.int .i64) (wnm p 7 (by omega))) (((1 : Nat) ≠ 0) /\ (0 + 1 <= 2 /\ 0 < 2) /\ Ki /\ ·) ⟨(by decide), (by decide), rfl, qAv1 1 68 [] (congrArg (AV.int .i64) (wnn (p * 7) 3 (by omega))) (Ki /\ ·) ⟨rfl, qAv1 (r := .int .i64 ((b.map (fun c => [AV.int .u8 (c.toNat : Int)])).length : Nat)) (v := .int .i64 b.length) 5 73 [(72, .sl 1 (b.map fun c => [AV.int .u8 (c.toNat : Int)])), (71, .ptr 0 0), (70, .ptr 0 0), (69, .ptr 0 0)] (by rw [List.length_map]) (((1 : Nat) ≠ 0) /\ (0 + 1 <= 2 /\ 0 < 2) /\ ·) ⟨(by decide), (by decide), ?_⟩⟩⟩⟩⟩
 have hm18 := Nat.mod_lt (p * 7 + 3) (show 0 < b.length by omega)
 refine qAv1 1 74 [] (congrArg (AV.int .i64) (nmod (p * 7 + 3) b.length)) ((IntKind.i64 = IntKind.i64 /\ ((b.length : Int) : Int) ≠ 0) /\ ·) ⟨⟨rfl, by omega⟩, qAv1 1 75 [] (congrArg AV.pat (mg_u8 b ((p * 7 + 3) % b.length) (by omega))) (fun Z => (1 = 1 /\ (0 : Int) <= (((p * 7 + 3) % b.length : Nat) : Int) /\ (((p * 7 + 3) % b.length : Nat) : Int) < (((b.map (fun c => [AV.int .u8 (c.toNat : Int)])).length : Nat) : Int)) /\ Z) ⟨⟨rfl, by omega, by rw [List.length_map]; omega⟩, ?_⟩⟩
 have hu19 := UInt8.toNat_lt (b.getD ((p * 7 + 3) % b.length) 0)
 refine qAv1 (r := .int .i64 (IntKind.i64.wrap (((b.getD ((p * 7 + 3) % b.length) 0).toNat : Nat) : Int))) (v := .int .i64 (((b.getD ((p * 7 + 3) % b.length) 0).toNat : Nat) : Int)) 2 77 [(76, .int .u8 (((b.getD ((p * 7 + 3) % b.length) 0).toNat : Nat) : Int))] (congrArg (AV.int .i64) (wrap64 (by omega) (by omega))) ((1 <= 1 /\ 0 < 1) /\ ·) ⟨(by decide), qAv1 1 78 [] (congrArg (AV.int .i64) (wnm ((b.getD ((p * 7 + 3) % b.length) 0).toNat) 1117 (by omega))) (Ki /\ ·) ⟨rfl, qAv1 1 79 [] (congrArg (AV.int .i64) (wnn (((b.getD (p % b.length) 0).toNat) * 131) (((b.getD ((p * 7 + 3) % b.length) 0).toNat) * 1117) (by omega))) (Ki /\ ·) ⟨rfl, qAv1 2 81 [(80, .int .i64 p)] (congrArg (AV.int .i64) (wnm p 29 (by omega))) (Ki /\ ·) ⟨rfl, qAv1 1 82 [] (congrArg (AV.int .i64) (wnn ((((b.getD (p % b.length) 0).toNat) * 131) + (((b.getD ((p * 7 + 3) % b.length) 0).toNat) * 1117)) (p * 29) (by omega))) (Ki /\ ·) ⟨rfl, ?_⟩⟩⟩⟩⟩
 refine qAv1 (r := .int .i64 ((b.map (fun c => [AV.int .u8 (c.toNat : Int)])).length : Nat)) (v := .int .i64 b.length) 6 88 [(87, .sl 1 (b.map fun c => [AV.int .u8 (c.toNat : Int)])), (86, .ptr 0 0), (85, .ptr 0 0), (84, .ptr 0 0), (83, .int .i64 p)] (by rw [List.length_map]) (((1 : Nat) ≠ 0) /\ (0 + 1 <= 2 /\ 0 < 2) /\ ·) ⟨(by decide), (by decide), ?_⟩
 have hm20 := Nat.div_le_self p b.length
 refine qAv1 1 89 [] (congrArg (AV.int .i64) (ndiv p b.length (by omega))) ((IntKind.i64 = IntKind.i64 /\ ((b.length : Int) : Int) ≠ 0) /\ ·) ⟨⟨rfl, by omega⟩, qAv1 1 90 [] (congrArg (AV.int .i64) (wnm (p / b.length) 53 (by omega))) (Ki /\ ·) ⟨rfl, qAv1 1 91 [] (congrArg (AV.int .i64) (wnn (((((b.getD (p % b.length) 0).toNat) * 131) + (((b.getD ((p * 7 + 3) % b.length) 0).toNat) * 1117)) + (p * 29)) ((p / b.length) * 53) (by omega))) (Ki /\ ·) ⟨rfl, qFn0 [1] [(6, .int .i64 (((((((b.getD (p % b.length) 0).toNat) * 131) + (((b.getD ((p * 7 + 3) % b.length) 0).toNat) * 1117)) + (p * 29)) + ((p / b.length) * 53) : Nat) : Int))] (Rr ?_)⟩⟩⟩
 have hm22 := Nat.div_le_self ((((((b.getD (p % b.length) 0).toNat) * 131) + (((b.getD ((p * 7 + 3) % b.length) 0).toNat) * 1117)) + (p * 29)) + ((p / b.length) * 53)) 64
 refine Av1 3 94 [(93, .int .i64 (((((((b.getD (p % b.length) 0).toNat) * 131) + (((b.getD ((p * 7 + 3) % b.length) 0).toNat) * 1117)) + (p * 29)) + ((p / b.length) * 53) : Nat) : Int)), (92, .int .i64 (((((((b.getD (p % b.length) 0).toNat) * 131) + (((b.getD ((p * 7 + 3) % b.length) 0).toNat) * 1117)) + (p * 29)) + ((p / b.length) * 53) : Nat) : Int))] (congrArg (AV.int .i64) (ndiv ((((((b.getD (p % b.length) 0).toNat) * 131) + (((b.getD ((p * 7 + 3) % b.length) 0).toNat) * 1117)) + (p * 29)) + ((p / b.length) * 53)) 64 (by omega))) ((IntKind.i64 = IntKind.i64 /\ (64 : Int) ≠ 0) /\ ·) ⟨⟨rfl, by omega⟩, Av1 (r := .int .i64 (IntKind.i64.wrap (((BitVec.ofInt IntKind.i64.bits (((((((b.getD (p % b.length) 0).toNat) * 131) + (((b.getD ((p * 7 + 3) % b.length) 0).toNat) * 1117)) + (p * 29)) + ((p / b.length) * 53) : Nat) : Int) ^^^ BitVec.ofInt IntKind.i64.bits ((((((((b.getD (p % b.length) 0).toNat) * 131) + (((b.getD ((p * 7 + 3) % b.length) 0).toNat) * 1117)) + (p * 29)) + ((p / b.length) * 53)) / 64 : Nat) : Int)).toNat : Nat) : Int))) (v := .int .i64 ((((((((b.getD (p % b.length) 0).toNat) * 131) + (((b.getD ((p * 7 + 3) % b.length) 0).toNat) * 1117)) + (p * 29)) + ((p / b.length) * 53)) ^^^ (((((((b.getD (p % b.length) 0).toNat) * 131) + (((b.getD ((p * 7 + 3) % b.length) 0).toNat) * 1117)) + (p * 29)) + ((p / b.length) * 53)) / 64) : Nat) : Int)) 1 95 [] (congrArg (AV.int .i64) (wxor ((((((b.getD (p % b.length) 0).toNat) * 131) + (((b.getD ((p * 7 + 3) % b.length) 0).toNat) * 1117)) + (p * 29)) + ((p / b.length) * 53)) (((((((b.getD (p % b.length) 0).toNat) * 131) + (((b.getD ((p * 7 + 3) % b.length) 0).toNat) * 1117)) + (p * 29)) + ((p / b.length) * 53)) / 64) (by omega) (by omega))) (Ki /\ ·) ⟨rfl, Fn0 [1] [(6, .int .i64 ((((((((b.getD (p % b.length) 0).toNat) * 131) + (((b.getD ((p * 7 + 3) % b.length) 0).toNat) * 1117)) + (p * 29)) + ((p / b.length) * 53)) ^^^ (((((((b.getD (p % b.length) 0).toNat) * 131) + (((b.getD ((p * 7 + 3) % b.length) 0).toNat) * 1117)) + (p * 29)) + ((p / b.length) * 53)) / 64) : Nat) : Int))] (Rr ?_)⟩⟩
 have hm24 := Nat.mod_lt (((((((b.getD (p % b.length) 0).toNat) * 131) + (((b.getD ((p * 7 + 3) % b.length) 0).toNat) * 1117)) + (p * 29)) + ((p / b.length) * 53)) ^^^ (((((((b.getD (p % b.length) 0).toNat) * 131) + (((b.getD ((p * 7 + 3) % b.length) 0).toNat) * 1117)) + (p * 29)) + ((p / b.length) * 53)) / 64)) (show 0 < m by omega)
 refine Av1 3 98 [(97, .int .i64 m), (96, .int .i64 ((((((((b.getD (p % b.length) 0).toNat) * 131) + (((b.getD ((p * 7 + 3) % b.length) 0).toNat) * 1117)) + (p * 29)) + ((p / b.length) * 53)) ^^^ (((((((b.getD (p % b.length) 0).toNat) * 131) + (((b.getD ((p * 7 + 3) % b.length) 0).toNat) * 1117)) + (p * 29)) + ((p / b.length) * 53)) / 64) : Nat) : Int))] (congrArg (AV.int .i64) (nmod (((((((b.getD (p % b.length) 0).toNat) * 131) + (((b.getD ((p * 7 + 3) % b.length) 0).toNat) * 1117)) + (p * 29)) + ((p / b.length) * 53)) ^^^ (((((((b.getD (p % b.length) 0).toNat) * 131) + (((b.getD ((p * 7 + 3) % b.length) 0).toNat) * 1117)) + (p * 29)) + ((p / b.length) * 53)) / 64)) m)) ((IntKind.i64 = IntKind.i64 /\ ((m : Int) : Int) ≠ 0) /\ ·) ⟨⟨rfl, by omega⟩, Fn0 [] [(4, .int .i64 (((((((((b.getD (p % b.length) 0).toNat) * 131) + (((b.getD ((p * 7 + 3) % b.length) 0).toNat) * 1117)) + (p * 29)) + ((p / b.length) * 53)) ^^^ (((((((b.getD (p % b.length) 0).toNat) * 131) + (((b.getD ((p * 7 + 3) % b.length) 0).toNat) * 1117)) + (p * 29)) + ((p / b.length) * 53)) / 64)) % m : Nat) : Int))] (Rt (.int .i64 (((((((((b.getD (p % b.length) 0).toNat) * 131) + (((b.getD ((p * 7 + 3) % b.length) 0).toNat) * 1117)) + (p * 29)) + ((p / b.length) * 53)) ^^^ (((((((b.getD (p % b.length) 0).toNat) * 131) + (((b.getD ((p * 7 + 3) % b.length) 0).toNat) * 1117)) + (p * 29)) + ((p / b.length) * 53)) / 64)) % m : Nat) : Int)) ?_)⟩
 exact fin_rc (p + 1) (lea_refl _) (by simp only [go_sem]) (by kernel_rfl) (⟨(((((((b.getD (p % b.length) 0).toNat) * 131) + (((b.getD ((p * 7 + 3) % b.length) 0).toNat) * 1117)) + (p * 29)) + ((p / b.length) * 53)) ^^^ (((((((b.getD (p % b.length) 0).toNat) * 131) + (((b.getD ((p * 7 + 3) % b.length) 0).toNat) * 1117)) + (p * 29)) + ((p / b.length) * 53)) / 64)) % m, by first | omega | exact Nat.mod_lt _ (by omega), rfl, rfl⟩)
theorem of_ok (b : Str) (p : Nat) (X : List Str) (hm : 1 <= X.length) (hm2 : X.length < 2 ^ 40) (hp : p < 2 ^ 30) (hb : b.length < 2 ^ 30) : RC G 33 [pth X] b p (fun r p' => ∃ s : Str, s ∈ X /\ r = .str s /\ p' = p + 1) := by
 refine h_rc (F := [(0, .ptr 0 0), (1, pth X)]) (by simp only [go_sem]) Tryz.func33 (by kernel_rfl) (by kernel_rfl) ?_ (by kernel_rfl)
 refine Rr (Fn0 [0, 1] [] (Rr (Av0 (r := .int .i64 ((X.map (fun s => [AV.str s])).length : Nat)) (v := .int .i64 X.length) 4 8 [(7, pth X), (6, .ptr 0 0), (5, pth X)] (by rw [List.length_map]) (Bc0 1 [] 12 [.ptr 0 0, .int .i64 X.length] 9 ?_))))
 refine RC.use (pick_ok b p X.length (by omega) (by omega) (by omega) (by omega)) (by kernel_rfl) fun r p1 hr => ?_; obtain ⟨pk3, hpk3, rfl, rfl⟩ := hr
 refine Ke (Av1 1 10 [] (congrArg AV.pat (mg_str X pk3 (by omega))) ((1 = 1 /\ (0 : Int) <= (pk3 : Int) /\ (pk3 : Int) < ((X.map (fun s => [AV.str s])).length : Int)) /\ ·) ⟨⟨rfl, by omega, by rw [List.length_map]; omega⟩, Fn1 [] [(4, .str (X.getD pk3 default))] ((1 <= 1 /\ 0 < 1) /\ ·) ⟨(by decide), Rt (.str (X.getD pk3 default)) ?_⟩⟩)
 exact fin_rc (p + 1) (lea_refl _) (by simp only [go_sem]) (by kernel_rfl) (⟨_, getD_mem X _ default (by assumption), rfl, rfl⟩)
theorem l4Name_ok (b : Str) (p : Nat) (hp : p < 2 ^ 30) (hb : b.length < 2 ^ 30) : RC G 32 [] b p (fun r p' => ∃ s : Str, s.length <= 5 /\ r = .str s /\ p' = p + 1) := by
 refine h_rc (F := [(0, .ptr 0 0)]) (by simp only [go_sem]) Tryz.func32 (by kernel_rfl) (by kernel_rfl) ?_ (by kernel_rfl)
 refine Rr (Fn0 [0] [] (Rr (Bc3 3 [(4, .osl 4 1 0 5), (3, .ptr 0 0)] 33 [.ptr 0 0, .osl 4 1 0 5] 5 [(4, [.str [97], .str [98], .str [99], .str [100, 49], .str [101]]), (0, rdc b p)] 8 ((5 * 1 <= 16777216) /\ ·) ⟨(by decide), Tz 4 1 5 ([[.str [97]], [.str [98]], [.str [99]], [.str [100, 49]], [.str [101]]]) ([.str [97], .str [98], .str [99], .str [100, 49], .str [101]]) [.ptr 0 0, pth [[97], [98], [99], [100, 49], [101]]] [(0, rdc b p)] [true] (by kernel_rfl) (by first | decide | simp) ?_⟩)))
 refine RC.use (of_ok b p [[97], [98], [99], [100, 49], [101]] (by first | omega | decide | simp) (by first | omega | decide | simp) (by omega) (by omega)) (by kernel_rfl) fun r p1 hr => ?_; obtain ⟨os3, hos3, rfl, rfl⟩ := hr
 refine Ke (Fn0 [] [(2, .str os3)] (Rt (.str os3) ?_))
 exact fin_rc (p + 1) (lea_refl _) (by simp only [go_sem]) (by kernel_rfl) (⟨_, by have hq := hos3; simp only [List.mem_cons, List.not_mem_nil, or_false] at hq; rcases hq with h | h | h | h | h <;> rw [h] <;> decide, rfl, rfl⟩)
theorem many_step (a q : Nat) : (a + a) * (q / 2) + a * (q % 2) = a * q := by
  have : q = 2 * (q / 2) + q % 2 := by omega
  have h : a * q = a * (2 * (q / 2) + q % 2) := by rw [<- this]
  rw [h, Nat.mul_add, <- Nat.mul_assoc, Nat.mul_comm a 2, Nat.two_mul]
theorem l1Many_ok (s : Str) (m : Nat) (hs : s.length < 2 ^ 20) (hm : s.length * m < 2 ^ 30) (hm2 : m < 2 ^ 30) : PC G 34 [.str s, .int .i64 m] (fun r => ∃ t : Str, r = .str t /\ t.length <= s.length * m) := by
 refine h_pc (F := [(0, .str s), (1, .int .i64 m)]) (by simp only [go_sem]) Tryz.func34 (by kernel_rfl) (by kernel_rfl) ?_ (by kernel_rfl)
 refine Rr (Fn0 [0, 1] [] (Rr (Fn0 [0, 1] [(5, .str [])] (Sq fun K3 hK3 => ?_))))
 refine Bl (h_l (fun (z : Str × Str × Nat) => (match z with | (o, u, q) => ([(0, .str u), (1, .int .i64 q), (5, .str o)] : Fr))) (fun (z : Str × Str × Nat) => (match z with | (o, u, q) => ([] : Hp))) (fun (z : Str × Str × Nat) cn => (match z with | (o, u, q) => (o.length + u.length * q <= s.length * m /\ u.length <= 2 * (s.length * m) + s.length /\ q <= m) /\ cn = 0)) (fun (z : Str × Str × Nat) => z.2.2) ([], s, m) (by kernel_rfl) ?_ ?_ ?_ ?_)
 refine ⟨?_, rfl⟩; exact ⟨by simp, by omega, Nat.le_refl _⟩
 exact ⟨by kernel_rfl, by kernel_rfl, by kernel_rfl, trivial⟩
 exact (List.nil_sublist _)
 rintro ⟨o, u, q⟩ n1 hI
 (try dsimp only at hI)
 obtain ⟨⟨hi1, hi2, hi3⟩, rfl⟩ := hI
 refine Sq fun K4 hK4 => ?_
 refine Rr (Cn1 (decide ((0 : Int) < ((q : Int) : Int))) [0, 1, 5] [] (Ki /\ ·) ⟨rfl, fun hc6 c6 => ?_, fun hc6 c6 => ?_⟩)
 try simp only [KF] at c6
 refine Sk (Jn (hK4 (Kp [0, 1, 5] (Bl (Sq fun K7 hK7 => ?_)))))
 refine Rr ?_
 have hm9 := Nat.mod_lt q (show 0 < 2 by omega)
 refine Av1 2 9 [(8, .int .i64 q)] (congrArg (AV.int .i64) (nmod q 2)) ((IntKind.i64 = IntKind.i64 /\ (2 : Int) ≠ 0) /\ ·) ⟨⟨rfl, by omega⟩, Cn1 (decide (((q % 2 : Nat) : Int) = 1)) [0, 1, 5] [] (Ki /\ ·) ⟨rfl, fun hc10 c10 => ?_, fun hc10 c10 => ?_⟩⟩
 try simp only [KF] at c10
 refine Rb (fun h => Jn (hK7 h)) (Fn1 [0, 1] [(5, .str (o ++ u))] ((o.length + u.length <= 9223372036854775807) /\ ·) ⟨(by omega), Rr (Fn1 [1, 5] [(0, .str (u ++ u))] ((u.length + u.length <= 9223372036854775807) /\ ·) ⟨(by omega), Rn ?_⟩)⟩)
 have hm12 := Nat.div_le_self q 2
 refine Av1 2 18 [(17, .int .i64 q)] (congrArg (AV.int .i64) (ndiv q 2 (by omega))) ((IntKind.i64 = IntKind.i64 /\ (2 : Int) ≠ 0) /\ ·) ⟨⟨rfl, by omega⟩, Gn0 [(1, .int .i64 ((q / 2 : Nat) : Int))] (nk_n (Bn (Lr (o ++ u, u ++ u, q / 2) [] 0 [(0, .str (u ++ u)), (1, .int .i64 ((q / 2 : Nat) : Int)), (5, .str (o ++ u))] [] [] ?_ ?_ (by kernel_rfl) (by kernel_rfl))))⟩
 (try dsimp only); omega
 refine ⟨?_, rfl⟩; (try dsimp only); have e := many_step u.length q; have e2 : u.length * 1 <= u.length * q := Nat.mul_le_mul_left _ (by omega); simp only [List.length_append]; have e3 : q % 2 = 1 := (by omega); rw [e3] at e; exact ⟨by omega, by omega, by omega⟩
 try simp only [KF] at c10
 refine Sk (Jn (hK7 (Kp [0, 1, 5] (Rr (Fn1 [1, 5] [(0, .str (u ++ u))] ((u.length + u.length <= 9223372036854775807) /\ ·) ⟨(by omega), Rn ?_⟩)))))
 have hm14 := Nat.div_le_self q 2
 refine Av1 2 18 [(17, .int .i64 q)] (congrArg (AV.int .i64) (ndiv q 2 (by omega))) ((IntKind.i64 = IntKind.i64 /\ (2 : Int) ≠ 0) /\ ·) ⟨⟨rfl, by omega⟩, Gn0 [(1, .int .i64 ((q / 2 : Nat) : Int))] (nk_n (Bn (Lr (o, u ++ u, q / 2) [] 0 [(0, .str (u ++ u)), (1, .int .i64 ((q / 2 : Nat) : Int)), (5, .str o)] [] [] ?_ ?_ (by kernel_rfl) (by kernel_rfl))))⟩
 (try dsimp only); omega
 refine ⟨?_, rfl⟩; (try dsimp only); have e := many_step u.length q; have e2 : u.length * 1 <= u.length * q := Nat.mul_le_mul_left _ (by omega); simp only [List.length_append]; have e3 : q % 2 = 0 := (by omega); rw [e3] at e; exact ⟨by omega, by omega, by omega⟩
 try simp only [KF] at c6
 refine Xt (Jx (Lx (Bh (Jn (hK3 (Kp [5] (Rr (Fn0 [] [(4, .str o)] (Rt (.str o) (⟨[], List.nil_sublist _, _, lea_refl _, ⟨_, rfl, ?_⟩, rfl⟩)))))))))); have : 0 <= u.length * q := Nat.zero_le _; omega
theorem l4Data_ok (b : Str) (p : Nat) (hp : p < 2 ^ 29) (hb : b.length < 2 ^ 30) : RC G 30 [] b p (fun r p' => ∃ s : Str, s.length <= 24 /\ r = .str s /\ p' = p + 1 + 1) := by
 refine h_rc (F := [(0, .ptr 0 0)]) (by simp only [go_sem]) Tryz.func30 (by kernel_rfl) (by kernel_rfl) ?_ (by kernel_rfl)
 refine Rr (Fn0 [0] [] (Rr (Bc0 3 [(4, .ptr 0 0), (3, .ptr 0 0)] 12 [.ptr 0 0, .int .i64 25] 5 (RC.use (pick_ok b p 25 (by omega) (by omega) (by omega) (by omega)) (by kernel_rfl) fun r p1 hr => ?_)))); obtain ⟨pk3, hpk3, rfl, rfl⟩ := hr
 refine Ke (Bc0 1 [] 34 [.str [122], .int .i64 pk3] 6 (PC.use (l1Many_ok [122] pk3 (by first | omega | decide) (by first | omega | (simp only [List.length_cons, List.length_nil]; omega)) (by omega)) fun r hr => ?_)); obtain ⟨mt4, rfl, hmt4⟩ := hr; simp only [List.length_cons, List.length_nil] at hmt4
 refine Ke (Bc3 2 [(7, .osl 4 1 0 6)] 33 [.ptr 0 0, .osl 4 1 0 6] 8 [(4, [.str [], .str [120], .str [104, 101, 108, 108, 111], .str [0, 255], .str [48, 49, 50, 51, 52, 53, 54, 55, 56, 57], .str mt4]), (0, rdc b (p + 1))] 8 ((6 * 1 <= 16777216) /\ ·) ⟨(by decide), Tz 4 1 6 ([[.str []], [.str [120]], [.str [104, 101, 108, 108, 111]], [.str [0, 255]], [.str [48, 49, 50, 51, 52, 53, 54, 55, 56, 57]], [.str mt4]]) ([.str [], .str [120], .str [104, 101, 108, 108, 111], .str [0, 255], .str [48, 49, 50, 51, 52, 53, 54, 55, 56, 57], .str mt4]) [.ptr 0 0, pth [[], [120], [104, 101, 108, 108, 111], [0, 255], [48, 49, 50, 51, 52, 53, 54, 55, 56, 57], mt4]] [(0, rdc b (p + 1))] [true] (by kernel_rfl) (by first | decide | simp) (RC.use (of_ok b (p + 1) [[], [120], [104, 101, 108, 108, 111], [0, 255], [48, 49, 50, 51, 52, 53, 54, 55, 56, 57], mt4] (by first | omega | decide | simp) (by first | omega | decide | simp) (by omega) (by omega)) (by kernel_rfl) fun r p1 hr => ?_)⟩); obtain ⟨os5, hos5, rfl, rfl⟩ := hr
 refine Ke (Fn0 [] [(2, .str os5)] (Rt (.str os5) ?_))
 exact fin_rc (p + 1 + 1) (lea_refl _) (by simp only [go_sem]) (by kernel_rfl) (⟨_, by have hq := hos5; simp only [List.mem_cons, List.not_mem_nil, or_false] at hq; rcases hq with h | h | h | h | h | h <;> rw [h] <;> first | decide | omega, rfl, rfl⟩)
open Go Go.Proofs
set_option maxRecDepth 100000
theorem wS_snoc (o : List Str) (n : Str) : wS (o ++ [n]) = wS o + n.length + 1 := by rw [wS_app]; simp only [wS]; omega
theorem l4Path_ok (b : Str) (p : Nat) (t : Tr) (hw : t.W < 2 ^ 30) (hp : p < 2 ^ 28) (hb : b.length < 2 ^ 30) : RC G 29 [.agg (tcs t)] b p (fun r p' => ∃ o : List Str, 0 < o.length /\ o.length <= 4 /\ wS o <= 6 * 4 + t.W /\ r = pth o /\ p' <= p + 16) := by
 refine h_rc (F := [(0, .ptr 0 0), (1, .agg (tcs t))]) (by simp only [go_sem]) Tryz.func29 (by kernel_rfl) (by kernel_rfl) ?_ (by kernel_rfl)
 refine Rr (Fn2 [0] [(3, .ptr 4 0)] [(4, tcs t), (0, rdc b p)] 8 (Rr (Fn3 [0, 3] [(5, .osl 8 1 0 0)] [(8, []), (4, tcs t), (0, rdc b p)] 12 ((0 * 1 <= 16777216) /\ ·) ⟨(by decide), Rr ?_⟩)))
 refine Fn3 [0, 5] [(6, .ptr 12 0)] [(12, tcs t), (8, []), (4, tcs t), (0, rdc b p)] 16 ((0 + 5 <= 5 /\ 0 < 5) /\ (true = true /\ 5 = 5 /\ 0 + 5 <= 5) /\ ·) ⟨(by decide), (by decide), Sq fun K4 hK4 => ?_⟩
 refine Bl (h_pm (H' := [(8, []), (12, tcs t), (0, rdc b p), (4, tcs t)]) (List.Perm.trans (List.Perm.cons _ (List.Perm.cons _ (List.Perm.swap _ _ _))) (List.Perm.swap _ _ _)) (h_l (fun (z : List Str × Tr × Nat) => (match z with | (o, x, pp) => ([(0, .ptr 0 0), (5, .osl 8 1 0 o.length), (6, .ptr 12 0)] : Fr))) (fun (z : List Str × Tr × Nat) => (match z with | (o, x, pp) => ([(8, fl sc o), (12, tcs x), (0, rdc b pp)] : Hp))) (fun (z : List Str × Tr × Nat) cn => (match z with | (o, x, pp) => (wS o + x.W <= t.W + 6 * o.length /\ pp <= p + 4 * o.length /\ o.length <= 4) /\ cn = 16)) (fun (z : List Str × Tr × Nat) => 4 - z.1.length) ([], t, p) (by kernel_rfl) ?_ ?_ ?_ ?_))
 refine ⟨?_, rfl⟩; simp [wS]
 exact ⟨by kernel_rfl, by kernel_rfl, by kernel_rfl, trivial⟩
 exact (sub_c (by kernel_rfl) (sub_c (by kernel_rfl) (sub_c (by kernel_rfl) (List.Sublist.cons _ (List.nil_sublist _)))))
 rintro ⟨o, x, pp⟩ n1 hI
 (try dsimp only at hI)
 obtain ⟨⟨hi1, hi2, hi3⟩, rfl⟩ := hI
 have hxW := W_eq x; have hns := wS_len x.names; have hks := Ws_len x.kids
 refine Sq fun K5 hK5 => ?_
 refine Rr (An1 4 [(14, .bool (decide ((o.length : Int) < 4))), (13, .bool (decide ((o.length : Int) < 4))), (12, .int .i64 o.length), (11, .osl 8 1 0 o.length)] (Ki /\ ·) ⟨rfl, run_b (fun g7 => ?_) (fun g7 => ?_)⟩)
 have hg7 := g7
 try simp only [KF] at g7
 refine An1 4 [(18, .bool (decide ((o.length : Int) = 0))), (17, .bool (decide ((o.length : Int) = 0))), (16, .int .i64 o.length), (15, .osl 8 1 0 o.length)] (Ki /\ ·) ⟨rfl, run_b (fun g8 => ?_) (fun g8 => ?_)⟩
 have hg8 := g8
 try simp only [KF] at g8
 refine Fn0 [0, 5, 6] [(23, .bool true)] (Ct (Sk (Jn (hK5 (Kp [0, 5, 6] (Bl (Rr ?_)))))))
 refine Bc0 2 [(24, .ptr 0 0)] 32 [.ptr 0 0] 25 ?_
 refine RC.use (l4Name_ok b pp (by omega) (by omega)) (by kernel_rfl) fun r p1 hr => ?_; obtain ⟨ns10, hns10, rfl, rfl⟩ := hr
 refine Ke (Fn0 [0, 5, 6] [(7, .str ns10)] (Sq fun K11 hK11 => ?_))
 refine Rr (Av1 (r := .int .i64 ((x.names.map (fun s => [AV.str s])).length : Nat)) (v := .int .i64 x.names.length) 3 28 [(27, pth x.names), (26, .ptr 12 3)] (by rw [List.length_map]) (((1 : Nat) ≠ 0) /\ (3 + 1 <= 5 /\ 3 < 5) /\ ·) ⟨(by decide), (by decide), An1 2 [(30, .bool (decide ((0 : Int) < ((x.names.length : Int) : Int)))), (29, .bool (decide ((0 : Int) < ((x.names.length : Int) : Int))))] (Ki /\ ·) ⟨rfl, run_b (fun g13 => ?_) (fun g13 => ?_)⟩⟩)
 have hg13 := g13
 try simp only [KF] at g13
 refine Bc0 2 [(31, .ptr 0 0)] 12 [.ptr 0 0, .int .i64 4] 32 ?_
 refine RC.use (pick_ok b (pp + 1) 4 (by omega) (by omega) (by omega) (by omega)) (by kernel_rfl) fun r p1 hr => ?_; obtain ⟨pk14, hpk14, rfl, rfl⟩ := hr
 refine Ke (Cn1 (decide ((0 : Int) < ((pk14 : Int) : Int))) [0, 5, 6, 7] [] (Ki /\ ·) ⟨rfl, fun hc15 c15 => ?_, fun hc15 c15 => ?_⟩)
 try simp only [KF] at c15
 refine Qb [0, 1, 0, 0, 8, 24, 60, 127, 255, 511] [(0, []), (1, []), (2, []), (3, []), (4, []), (5, []), (6, [1]), (7, []), (8, []), (9, [])] (fun h => Jn (hK11 h)) (qAv1 (r := .int .i64 ((x.names.map (fun s => [AV.str s])).length : Nat)) (v := .int .i64 x.names.length) 6 40 [(39, pth x.names), (38, .ptr 12 3), (37, .ptr 0 0), (36, pth x.names), (35, .ptr 12 3)] (by rw [List.length_map]) (((1 : Nat) ≠ 0) /\ (3 + 1 <= 5 /\ 3 < 5) /\ ((1 : Nat) ≠ 0) /\ (3 + 1 <= 5 /\ 3 < 5) /\ ·) ⟨(by decide), (by decide), (by decide), (by decide), qBc0 1 [] [1] 12 [.ptr 0 0, .int .i64 x.names.length] 41 (RC.use (pick_ok b (pp + 1 + 1) x.names.length (by omega) (by omega) (by omega) (by omega)) (by kernel_rfl) fun r p1 hr => ?_)⟩); obtain ⟨pk16, hpk16, rfl, rfl⟩ := hr
 refine Kq (p := (((3 + 1 <= 5 /\ 3 < 5) /\ (pth x.names = pth x.names)) /\ True)) ⟨⟨(by decide), rfl⟩, trivial⟩ ?_
 refine qAv1 1 42 [] (congrArg AV.pat (mg_str x.names pk16 (by omega))) ((1 = 1 /\ (0 : Int) <= (pk16 : Int) /\ (pk16 : Int) < ((x.names.map (fun s => [AV.str s])).length : Int)) /\ ·) ⟨⟨rfl, by omega, by rw [List.length_map]; omega⟩, qFn1 [0, 5, 6] [(7, .str (x.names.getD pk16 default))] ((1 <= 1 /\ 0 < 1) /\ ·) ⟨(by decide), Rr (An3 4 [(47, .osl 20 1 0 (o.length + 1)), (46, .osl 16 1 0 1), (45, .str (x.names.getD pk16 default)), (44, .osl 8 1 0 o.length)] [(20, apd (fl sc o) (o.length * 1) [.str (x.names.getD pk16 default)]), (16, [.str (x.names.getD pk16 default)]), (12, tcs x), (0, rdc b (pp + 1 + 1 + 1))] 24 ((1 * 1 <= 16777216) /\ (0 + 1 * 1 <= 1) /\ (1 = 1 /\ o.length * 1 <= (fl sc o).length /\ 0 < 16 /\ (o.length + 1) * 16 <= 140737488355328) /\ ·) ⟨(by decide), (by decide), ⟨rfl, by (first | omega | (simp only [LL]; omega)), by decide, by (first | omega | (simp only [LL]; omega))⟩, run_v (v' := .osl 20 1 0 ((o ++ [x.names.getD pk16 default]).length)) (push_len _ _ _ _) ?_⟩)⟩⟩
 refine run_h (cs' := fl sc (o ++ [x.names.getD pk16 default])) (push_str o (x.names.getD pk16 default)) ?_
 refine Fn0 [0, 6, 7] [(5, .osl 20 1 0 ((o ++ [x.names.getD pk16 default]).length))] (Rr (Pc1 3 [(49, .str (x.names.getD pk16 default)), (48, .agg (tcs x))] 50 (0 + 5 <= 5 /\ 0 < 5) (by decide) (l1Find_c x (x.names.getD pk16 default) (by omega)) (Fn0 [0, 5, 6] [(8, .int .i64 (fndI (x.names.getD pk16 default) x.names))] (Sq fun K19 hK19 => ?_))))
 refine Rm 59 ((decide ((fndI (x.names.getD pk16 default) x.names : Int) < (0 : Int))) || (decide ((x.kids.length : Int) <= fndI (x.names.getD pk16 default) x.names))) [0, 5, 6, 8] ?_ ?_
 refine An1 3 [(53, .bool (decide ((fndI (x.names.getD pk16 default) x.names : Int) < (0 : Int)))), (52, .bool (decide ((fndI (x.names.getD pk16 default) x.names : Int) < (0 : Int)))), (51, .int .i64 (fndI (x.names.getD pk16 default) x.names))] (Ki /\ ·) ⟨rfl, run_b (fun g21 => ?_) (fun g21 => ?_)⟩
 have hg21 := g21
 try simp only [KF] at g21
 refine Mn0 true (by rw [hg21]; rfl)
 have hg21 := g21
 try simp only [KF] at g21
 refine Av1 (r := .int .i64 ((x.kids.map trc).length : Nat)) (v := .int .i64 x.kids.length) 4 57 [(56, .sl 5 (x.kids.map trc)), (55, .ptr 12 4), (54, .int .i64 (fndI (x.names.getD pk16 default) x.names))] (by rw [List.length_map]) (((1 : Nat) ≠ 0) /\ (4 + 1 <= 5 /\ 4 < 5) /\ ·) ⟨(by decide), (by decide), Mn1 (decide ((x.kids.length : Int) <= fndI (x.names.getD pk16 default) x.names)) (Ki /\ ·) ⟨rfl, (by rw [hg21]; rfl)⟩⟩
 refine Cc ((decide ((fndI (x.names.getD pk16 default) x.names : Int) < (0 : Int))) || (decide ((x.kids.length : Int) <= fndI (x.names.getD pk16 default) x.names))) (fun hc22 c22 => ?_) fun hc22 c22 => ?_
 try simp only [KF] at c22
 refine Xt (Jx (Bx (Lx (Bh (Jn (hK4 (Kp [5] (Rr (Fn0 [] [(4, .osl 20 1 0 ((o ++ [x.names.getD pk16 default]).length))] (FzS 20 (o ++ [x.names.getD pk16 default]) [(4, .osl 20 1 0 ((o ++ [x.names.getD pk16 default]).length))] [(0, rdc b (pp + 1 + 1 + 1))] [true] (Rt (pth (o ++ [x.names.getD pk16 default])) ?_)))))))))))
 have hn : (x.names.getD pk16 default).length <= 5 \/ (x.names.getD pk16 default).length < wS x.names := by first | exact .inl hx | exact .inr (wS_get _ _ (by omega))
 have hnW := wS_snoc o (x.names.getD pk16 default)
 have hoL : (o ++ [x.names.getD pk16 default]).length = o.length + 1 := by simp
 exact fin_rc (pp + 1 + 1 + 1) (lea_refl _) (by simp only [go_sem]) (by kernel_rfl) ⟨_, by omega, by omega, by omega, rfl, by omega⟩
 try simp only [KF] at c22
 refine Sk (Jn (hK19 (Kp [0, 5, 6, 8] (Rn (Av1 4 63 [(62, .int .i64 (fndI (x.names.getD pk16 default) x.names)), (61, .sl 5 (x.kids.map trc)), (60, .ptr 12 4)] (congrArg AV.pat (mg_trc x.kids ((fndI (x.names.getD pk16 default) x.names).toNat) (by omega))) (((1 : Nat) ≠ 0) /\ (4 + 1 <= 5 /\ 4 < 5) /\ (5 = 5 /\ (0 : Int) <= fndI (x.names.getD pk16 default) x.names /\ fndI (x.names.getD pk16 default) x.names < ((x.kids.map trc).length : Int)) /\ ·) ⟨(by decide), (by decide), ⟨rfl, by omega, by rw [List.length_map]; omega⟩, Gn3 [(64, .agg (tcs (x.kids.getD ((fndI (x.names.getD pk16 default) x.names).toNat) default)))] [(20, fl sc (o ++ [x.names.getD pk16 default])), (16, [.str (x.names.getD pk16 default)]), (12, tcs (x.kids.getD ((fndI (x.names.getD pk16 default) x.names).toNat) default)), (0, rdc b (pp + 1 + 1 + 1))] 24 ((5 <= 5 /\ 0 < 5) /\ (true = true /\ 5 = 5 /\ 0 + 5 <= 5) /\ ·) ⟨(by decide), (by decide), nk_n ?_⟩⟩)))))
 refine Bn ?_
 have hn : (x.names.getD pk16 default).length <= 5 \/ (x.names.getD pk16 default).length < wS x.names := by first | exact .inl hx | exact .inr (wS_get _ _ (by omega))
 have hnW := wS_snoc o (x.names.getD pk16 default)
 have hkW := Ws_get x.kids ((fndI (x.names.getD pk16 default) x.names).toNat) (by omega)
 have hoL : (o ++ [x.names.getD pk16 default]).length = o.length + 1 := by simp
 refine Lr (o ++ [x.names.getD pk16 default], (x.kids.getD ((fndI (x.names.getD pk16 default) x.names).toNat) default), pp + 1 + 1 + 1) [(0, 0), (12, 12), (20, 8)] 16 [(0, .ptr 0 0), (5, .osl 20 1 0 ((o ++ [x.names.getD pk16 default]).length)), (6, .ptr 12 0)] [(20, fl sc (o ++ [x.names.getD pk16 default])), (12, tcs (x.kids.getD ((fndI (x.names.getD pk16 default) x.names).toNat) default)), (0, rdc b (pp + 1 + 1 + 1))] [false, true, true] ?_ ?_ (by kernel_rfl) (by kernel_rfl)
 (try dsimp only); omega
 refine ⟨?_, rfl⟩; (try dsimp only); exact ⟨by omega, by omega, by omega⟩
 try simp only [KF] at c15
 refine Sk (Jn (hK11 (Kp [0, 5, 6, 7] (Rr (An3 4 [(47, .osl 20 1 0 (o.length + 1)), (46, .osl 16 1 0 1), (45, .str ns10), (44, .osl 8 1 0 o.length)] [(20, apd (fl sc o) (o.length * 1) [.str ns10]), (16, [.str ns10]), (12, tcs x), (0, rdc b (pp + 1 + 1))] 24 ((1 * 1 <= 16777216) /\ (0 + 1 * 1 <= 1) /\ (1 = 1 /\ o.length * 1 <= (fl sc o).length /\ 0 < 16 /\ (o.length + 1) * 16 <= 140737488355328) /\ ·) ⟨(by decide), (by decide), ⟨rfl, by (first | omega | (simp only [LL]; omega)), by decide, by (first | omega | (simp only [LL]; omega))⟩, run_v (v' := .osl 20 1 0 ((o ++ [ns10]).length)) (push_len _ _ _ _) (run_h (cs' := fl sc (o ++ [ns10])) (push_str o ns10) ?_)⟩)))))
 refine Fn0 [0, 6, 7] [(5, .osl 20 1 0 ((o ++ [ns10]).length))] (Rr (Pc1 3 [(49, .str ns10), (48, .agg (tcs x))] 50 (0 + 5 <= 5 /\ 0 < 5) (by decide) (l1Find_c x ns10 (by omega)) (Fn0 [0, 5, 6] [(8, .int .i64 (fndI ns10 x.names))] (Sq fun K26 hK26 => ?_))))
 refine Rm 59 ((decide ((fndI ns10 x.names : Int) < (0 : Int))) || (decide ((x.kids.length : Int) <= fndI ns10 x.names))) [0, 5, 6, 8] ?_ ?_
 refine An1 3 [(53, .bool (decide ((fndI ns10 x.names : Int) < (0 : Int)))), (52, .bool (decide ((fndI ns10 x.names : Int) < (0 : Int)))), (51, .int .i64 (fndI ns10 x.names))] (Ki /\ ·) ⟨rfl, run_b (fun g28 => ?_) (fun g28 => ?_)⟩
 have hg28 := g28
 try simp only [KF] at g28
 refine Mn0 true (by rw [hg28]; rfl)
 have hg28 := g28
 try simp only [KF] at g28
 refine Av1 (r := .int .i64 ((x.kids.map trc).length : Nat)) (v := .int .i64 x.kids.length) 4 57 [(56, .sl 5 (x.kids.map trc)), (55, .ptr 12 4), (54, .int .i64 (fndI ns10 x.names))] (by rw [List.length_map]) (((1 : Nat) ≠ 0) /\ (4 + 1 <= 5 /\ 4 < 5) /\ ·) ⟨(by decide), (by decide), Mn1 (decide ((x.kids.length : Int) <= fndI ns10 x.names)) (Ki /\ ·) ⟨rfl, (by rw [hg28]; rfl)⟩⟩
 refine Cc ((decide ((fndI ns10 x.names : Int) < (0 : Int))) || (decide ((x.kids.length : Int) <= fndI ns10 x.names))) (fun hc29 c29 => ?_) fun hc29 c29 => ?_
 try simp only [KF] at c29
 refine Xt (Jx (Bx (Lx (Bh (Jn (hK4 (Kp [5] (Rr (Fn0 [] [(4, .osl 20 1 0 ((o ++ [ns10]).length))] (FzS 20 (o ++ [ns10]) [(4, .osl 20 1 0 ((o ++ [ns10]).length))] [(0, rdc b (pp + 1 + 1))] [true] (Rt (pth (o ++ [ns10])) ?_)))))))))))
 have hn : (ns10).length <= 5 \/ (ns10).length < wS x.names := by first | exact .inl hns10 | exact .inr (wS_get _ _ (by omega))
 have hnW := wS_snoc o ns10
 have hoL : (o ++ [ns10]).length = o.length + 1 := by simp
 exact fin_rc (pp + 1 + 1) (lea_refl _) (by simp only [go_sem]) (by kernel_rfl) ⟨_, by omega, by omega, by omega, rfl, by omega⟩
 try simp only [KF] at c29
 refine Sk (Jn (hK26 (Kp [0, 5, 6, 8] (Rn (Av1 4 63 [(62, .int .i64 (fndI ns10 x.names)), (61, .sl 5 (x.kids.map trc)), (60, .ptr 12 4)] (congrArg AV.pat (mg_trc x.kids ((fndI ns10 x.names).toNat) (by omega))) (((1 : Nat) ≠ 0) /\ (4 + 1 <= 5 /\ 4 < 5) /\ (5 = 5 /\ (0 : Int) <= fndI ns10 x.names /\ fndI ns10 x.names < ((x.kids.map trc).length : Int)) /\ ·) ⟨(by decide), (by decide), ⟨rfl, by omega, by rw [List.length_map]; omega⟩, Gn3 [(64, .agg (tcs (x.kids.getD ((fndI ns10 x.names).toNat) default)))] [(20, fl sc (o ++ [ns10])), (16, [.str ns10]), (12, tcs (x.kids.getD ((fndI ns10 x.names).toNat) default)), (0, rdc b (pp + 1 + 1))] 24 ((5 <= 5 /\ 0 < 5) /\ (true = true /\ 5 = 5 /\ 0 + 5 <= 5) /\ ·) ⟨(by decide), (by decide), nk_n ?_⟩⟩)))))
 refine Bn ?_
 have hn : (ns10).length <= 5 \/ (ns10).length < wS x.names := by first | exact .inl hns10 | exact .inr (wS_get _ _ (by omega))
 have hnW := wS_snoc o ns10
 have hkW := Ws_get x.kids ((fndI ns10 x.names).toNat) (by omega)
 have hoL : (o ++ [ns10]).length = o.length + 1 := by simp
 refine Lr (o ++ [ns10], (x.kids.getD ((fndI ns10 x.names).toNat) default), pp + 1 + 1) [(0, 0), (12, 12), (20, 8)] 16 [(0, .ptr 0 0), (5, .osl 20 1 0 ((o ++ [ns10]).length)), (6, .ptr 12 0)] [(20, fl sc (o ++ [ns10])), (12, tcs (x.kids.getD ((fndI ns10 x.names).toNat) default)), (0, rdc b (pp + 1 + 1))] [false, true, true] ?_ ?_ (by kernel_rfl) (by kernel_rfl)
 (try dsimp only); omega
 refine ⟨?_, rfl⟩; (try dsimp only); exact ⟨by omega, by omega, by omega⟩
 have hg13 := g13
 try simp only [KF] at g13
 refine Fn0 [0, 5, 6, 7] [(34, .bool false)] (Cf (Sk (Jn (hK11 (Kp [0, 5, 6, 7] (Rr (An3 4 [(47, .osl 20 1 0 (o.length + 1)), (46, .osl 16 1 0 1), (45, .str ns10), (44, .osl 8 1 0 o.length)] [(20, apd (fl sc o) (o.length * 1) [.str ns10]), (16, [.str ns10]), (12, tcs x), (0, rdc b (pp + 1))] 24 ((1 * 1 <= 16777216) /\ (0 + 1 * 1 <= 1) /\ (1 = 1 /\ o.length * 1 <= (fl sc o).length /\ 0 < 16 /\ (o.length + 1) * 16 <= 140737488355328) /\ ·) ⟨(by decide), (by decide), ⟨rfl, by (first | omega | (simp only [LL]; omega)), by decide, by (first | omega | (simp only [LL]; omega))⟩, ?_⟩)))))))
 refine run_v (v' := .osl 20 1 0 ((o ++ [ns10]).length)) (push_len _ _ _ _) ?_
 refine run_h (cs' := fl sc (o ++ [ns10])) (push_str o ns10) ?_
 refine Fn0 [0, 6, 7] [(5, .osl 20 1 0 ((o ++ [ns10]).length))] (Rr (Pc1 3 [(49, .str ns10), (48, .agg (tcs x))] 50 (0 + 5 <= 5 /\ 0 < 5) (by decide) (l1Find_c x ns10 (by omega)) (Fn0 [0, 5, 6] [(8, .int .i64 (fndI ns10 x.names))] (Sq fun K33 hK33 => ?_))))
 refine Rm 59 ((decide ((fndI ns10 x.names : Int) < (0 : Int))) || (decide ((x.kids.length : Int) <= fndI ns10 x.names))) [0, 5, 6, 8] ?_ ?_
 refine An1 3 [(53, .bool (decide ((fndI ns10 x.names : Int) < (0 : Int)))), (52, .bool (decide ((fndI ns10 x.names : Int) < (0 : Int)))), (51, .int .i64 (fndI ns10 x.names))] (Ki /\ ·) ⟨rfl, run_b (fun g35 => ?_) (fun g35 => ?_)⟩
 have hg35 := g35
 try simp only [KF] at g35
 refine Mn0 true (by rw [hg35]; rfl)
 have hg35 := g35
 try simp only [KF] at g35
 refine Av1 (r := .int .i64 ((x.kids.map trc).length : Nat)) (v := .int .i64 x.kids.length) 4 57 [(56, .sl 5 (x.kids.map trc)), (55, .ptr 12 4), (54, .int .i64 (fndI ns10 x.names))] (by rw [List.length_map]) (((1 : Nat) ≠ 0) /\ (4 + 1 <= 5 /\ 4 < 5) /\ ·) ⟨(by decide), (by decide), Mn1 (decide ((x.kids.length : Int) <= fndI ns10 x.names)) (Ki /\ ·) ⟨rfl, (by rw [hg35]; rfl)⟩⟩
 refine Cc ((decide ((fndI ns10 x.names : Int) < (0 : Int))) || (decide ((x.kids.length : Int) <= fndI ns10 x.names))) (fun hc36 c36 => ?_) fun hc36 c36 => ?_
 try simp only [KF] at c36
 refine Xt (Jx (Bx (Lx (Bh (Jn (hK4 (Kp [5] (Rr (Fn0 [] [(4, .osl 20 1 0 ((o ++ [ns10]).length))] (FzS 20 (o ++ [ns10]) [(4, .osl 20 1 0 ((o ++ [ns10]).length))] [(0, rdc b (pp + 1))] [true] (Rt (pth (o ++ [ns10])) ?_)))))))))))
 have hn : (ns10).length <= 5 \/ (ns10).length < wS x.names := by first | exact .inl hns10 | exact .inr (wS_get _ _ (by omega))
 have hnW := wS_snoc o ns10
 have hoL : (o ++ [ns10]).length = o.length + 1 := by simp
 exact fin_rc (pp + 1) (lea_refl _) (by simp only [go_sem]) (by kernel_rfl) ⟨_, by omega, by omega, by omega, rfl, by omega⟩
 try simp only [KF] at c36
 refine Sk (Jn (hK33 (Kp [0, 5, 6, 8] (Rn (Av1 4 63 [(62, .int .i64 (fndI ns10 x.names)), (61, .sl 5 (x.kids.map trc)), (60, .ptr 12 4)] (congrArg AV.pat (mg_trc x.kids ((fndI ns10 x.names).toNat) (by omega))) (((1 : Nat) ≠ 0) /\ (4 + 1 <= 5 /\ 4 < 5) /\ (5 = 5 /\ (0 : Int) <= fndI ns10 x.names /\ fndI ns10 x.names < ((x.kids.map trc).length : Int)) /\ ·) ⟨(by decide), (by decide), ⟨rfl, by omega, by rw [List.length_map]; omega⟩, Gn3 [(64, .agg (tcs (x.kids.getD ((fndI ns10 x.names).toNat) default)))] [(20, fl sc (o ++ [ns10])), (16, [.str ns10]), (12, tcs (x.kids.getD ((fndI ns10 x.names).toNat) default)), (0, rdc b (pp + 1))] 24 ((5 <= 5 /\ 0 < 5) /\ (true = true /\ 5 = 5 /\ 0 + 5 <= 5) /\ ·) ⟨(by decide), (by decide), nk_n ?_⟩⟩)))))
 refine Bn ?_
 have hn : (ns10).length <= 5 \/ (ns10).length < wS x.names := by first | exact .inl hns10 | exact .inr (wS_get _ _ (by omega))
 have hnW := wS_snoc o ns10
 have hkW := Ws_get x.kids ((fndI ns10 x.names).toNat) (by omega)
 have hoL : (o ++ [ns10]).length = o.length + 1 := by simp
 refine Lr (o ++ [ns10], (x.kids.getD ((fndI ns10 x.names).toNat) default), pp + 1) [(0, 0), (12, 12), (20, 8)] 16 [(0, .ptr 0 0), (5, .osl 20 1 0 ((o ++ [ns10]).length)), (6, .ptr 12 0)] [(20, fl sc (o ++ [ns10])), (12, tcs (x.kids.getD ((fndI ns10 x.names).toNat) default)), (0, rdc b (pp + 1))] [false, true, true] ?_ ?_ (by kernel_rfl) (by kernel_rfl)
 (try dsimp only); omega
 refine ⟨?_, rfl⟩; (try dsimp only); exact ⟨by omega, by omega, by omega⟩
 have hg8 := g8
 try simp only [KF] at g8
 refine Bc0 2 [(19, .ptr 0 0)] 12 [.ptr 0 0, .int .i64 3] 20 ?_
 refine RC.use (pick_ok b pp 3 (by omega) (by omega) (by omega) (by omega)) (by kernel_rfl) fun r p1 hr => ?_; obtain ⟨pk38, hpk38, rfl, rfl⟩ := hr
 refine Ke (Cn1 (decide ((0 : Int) < ((pk38 : Int) : Int))) [0, 5, 6] [] (Ki /\ ·) ⟨rfl, fun hc39 c39 => ?_, fun hc39 c39 => ?_⟩)
 try simp only [KF] at c39
 refine Sk (Jn (hK5 (Kp [0, 5, 6] (Bl (Rr (Bc0 2 [(24, .ptr 0 0)] 32 [.ptr 0 0] 25 (RC.use (l4Name_ok b (pp + 1) (by omega) (by omega)) (by kernel_rfl) fun r p1 hr => ?_))))))); obtain ⟨ns41, hns41, rfl, rfl⟩ := hr
 refine Ke (Fn0 [0, 5, 6] [(7, .str ns41)] (Sq fun K42 hK42 => ?_))
 refine Rr (Av1 (r := .int .i64 ((x.names.map (fun s => [AV.str s])).length : Nat)) (v := .int .i64 x.names.length) 3 28 [(27, pth x.names), (26, .ptr 12 3)] (by rw [List.length_map]) (((1 : Nat) ≠ 0) /\ (3 + 1 <= 5 /\ 3 < 5) /\ ·) ⟨(by decide), (by decide), An1 2 [(30, .bool (decide ((0 : Int) < ((x.names.length : Int) : Int)))), (29, .bool (decide ((0 : Int) < ((x.names.length : Int) : Int))))] (Ki /\ ·) ⟨rfl, run_b (fun g44 => ?_) (fun g44 => ?_)⟩⟩)
 have hg44 := g44
 try simp only [KF] at g44
 refine Bc0 2 [(31, .ptr 0 0)] 12 [.ptr 0 0, .int .i64 4] 32 ?_
 refine RC.use (pick_ok b (pp + 1 + 1) 4 (by omega) (by omega) (by omega) (by omega)) (by kernel_rfl) fun r p1 hr => ?_; obtain ⟨pk45, hpk45, rfl, rfl⟩ := hr
 refine Ke (Cn1 (decide ((0 : Int) < ((pk45 : Int) : Int))) [0, 5, 6, 7] [] (Ki /\ ·) ⟨rfl, fun hc46 c46 => ?_, fun hc46 c46 => ?_⟩)
 try simp only [KF] at c46
 refine Qb [0, 1, 0, 0, 8, 24, 60, 127, 255, 511] [(0, []), (1, []), (2, []), (3, []), (4, []), (5, []), (6, [1]), (7, []), (8, []), (9, [])] (fun h => Jn (hK42 h)) (qAv1 (r := .int .i64 ((x.names.map (fun s => [AV.str s])).length : Nat)) (v := .int .i64 x.names.length) 6 40 [(39, pth x.names), (38, .ptr 12 3), (37, .ptr 0 0), (36, pth x.names), (35, .ptr 12 3)] (by rw [List.length_map]) (((1 : Nat) ≠ 0) /\ (3 + 1 <= 5 /\ 3 < 5) /\ ((1 : Nat) ≠ 0) /\ (3 + 1 <= 5 /\ 3 < 5) /\ ·) ⟨(by decide), (by decide), (by decide), (by decide), qBc0 1 [] [1] 12 [.ptr 0 0, .int .i64 x.names.length] 41 (RC.use (pick_ok b (pp + 1 + 1 + 1) x.names.length (by omega) (by omega) (by omega) (by omega)) (by kernel_rfl) fun r p1 hr => ?_)⟩); obtain ⟨pk47, hpk47, rfl, rfl⟩ := hr
 refine Kq (p := (((3 + 1 <= 5 /\ 3 < 5) /\ (pth x.names = pth x.names)) /\ True)) ⟨⟨(by decide), rfl⟩, trivial⟩ ?_
 refine qAv1 1 42 [] (congrArg AV.pat (mg_str x.names pk47 (by omega))) ((1 = 1 /\ (0 : Int) <= (pk47 : Int) /\ (pk47 : Int) < ((x.names.map (fun s => [AV.str s])).length : Int)) /\ ·) ⟨⟨rfl, by omega, by rw [List.length_map]; omega⟩, qFn1 [0, 5, 6] [(7, .str (x.names.getD pk47 default))] ((1 <= 1 /\ 0 < 1) /\ ·) ⟨(by decide), Rr (An3 4 [(47, .osl 20 1 0 (o.length + 1)), (46, .osl 16 1 0 1), (45, .str (x.names.getD pk47 default)), (44, .osl 8 1 0 o.length)] [(20, apd (fl sc o) (o.length * 1) [.str (x.names.getD pk47 default)]), (16, [.str (x.names.getD pk47 default)]), (12, tcs x), (0, rdc b (pp + 1 + 1 + 1 + 1))] 24 ((1 * 1 <= 16777216) /\ (0 + 1 * 1 <= 1) /\ (1 = 1 /\ o.length * 1 <= (fl sc o).length /\ 0 < 16 /\ (o.length + 1) * 16 <= 140737488355328) /\ ·) ⟨(by decide), (by decide), ⟨rfl, by (first | omega | (simp only [LL]; omega)), by decide, by (first | omega | (simp only [LL]; omega))⟩, run_v (v' := .osl 20 1 0 ((o ++ [x.names.getD pk47 default]).length)) (push_len _ _ _ _) ?_⟩)⟩⟩
 refine run_h (cs' := fl sc (o ++ [x.names.getD pk47 default])) (push_str o (x.names.getD pk47 default)) ?_
 refine Fn0 [0, 6, 7] [(5, .osl 20 1 0 ((o ++ [x.names.getD pk47 default]).length))] (Rr (Pc1 3 [(49, .str (x.names.getD pk47 default)), (48, .agg (tcs x))] 50 (0 + 5 <= 5 /\ 0 < 5) (by decide) (l1Find_c x (x.names.getD pk47 default) (by omega)) (Fn0 [0, 5, 6] [(8, .int .i64 (fndI (x.names.getD pk47 default) x.names))] (Sq fun K50 hK50 => ?_))))
 refine Rm 59 ((decide ((fndI (x.names.getD pk47 default) x.names : Int) < (0 : Int))) || (decide ((x.kids.length : Int) <= fndI (x.names.getD pk47 default) x.names))) [0, 5, 6, 8] ?_ ?_
 refine An1 3 [(53, .bool (decide ((fndI (x.names.getD pk47 default) x.names : Int) < (0 : Int)))), (52, .bool (decide ((fndI (x.names.getD pk47 default) x.names : Int) < (0 : Int)))), (51, .int .i64 (fndI (x.names.getD pk47 default) x.names))] (Ki /\ ·) ⟨rfl, run_b (fun g52 => ?_) (fun g52 => ?_)⟩
 have hg52 := g52
 try simp only [KF] at g52
 refine Mn0 true (by rw [hg52]; rfl)
 have hg52 := g52
 try simp only [KF] at g52
 refine Av1 (r := .int .i64 ((x.kids.map trc).length : Nat)) (v := .int .i64 x.kids.length) 4 57 [(56, .sl 5 (x.kids.map trc)), (55, .ptr 12 4), (54, .int .i64 (fndI (x.names.getD pk47 default) x.names))] (by rw [List.length_map]) (((1 : Nat) ≠ 0) /\ (4 + 1 <= 5 /\ 4 < 5) /\ ·) ⟨(by decide), (by decide), Mn1 (decide ((x.kids.length : Int) <= fndI (x.names.getD pk47 default) x.names)) (Ki /\ ·) ⟨rfl, (by rw [hg52]; rfl)⟩⟩
 refine Cc ((decide ((fndI (x.names.getD pk47 default) x.names : Int) < (0 : Int))) || (decide ((x.kids.length : Int) <= fndI (x.names.getD pk47 default) x.names))) (fun hc53 c53 => ?_) fun hc53 c53 => ?_
 try simp only [KF] at c53
 refine Xt (Jx (Bx (Lx (Bh (Jn (hK4 (Kp [5] (Rr (Fn0 [] [(4, .osl 20 1 0 ((o ++ [x.names.getD pk47 default]).length))] (FzS 20 (o ++ [x.names.getD pk47 default]) [(4, .osl 20 1 0 ((o ++ [x.names.getD pk47 default]).length))] [(0, rdc b (pp + 1 + 1 + 1 + 1))] [true] (Rt (pth (o ++ [x.names.getD pk47 default])) ?_)))))))))))
 have hn : (x.names.getD pk47 default).length <= 5 \/ (x.names.getD pk47 default).length < wS x.names := by first | exact .inl hx | exact .inr (wS_get _ _ (by omega))
 have hnW := wS_snoc o (x.names.getD pk47 default)
 have hoL : (o ++ [x.names.getD pk47 default]).length = o.length + 1 := by simp
 exact fin_rc (pp + 1 + 1 + 1 + 1) (lea_refl _) (by simp only [go_sem]) (by kernel_rfl) ⟨_, by omega, by omega, by omega, rfl, by omega⟩
 try simp only [KF] at c53
 refine Sk (Jn (hK50 (Kp [0, 5, 6, 8] (Rn (Av1 4 63 [(62, .int .i64 (fndI (x.names.getD pk47 default) x.names)), (61, .sl 5 (x.kids.map trc)), (60, .ptr 12 4)] (congrArg AV.pat (mg_trc x.kids ((fndI (x.names.getD pk47 default) x.names).toNat) (by omega))) (((1 : Nat) ≠ 0) /\ (4 + 1 <= 5 /\ 4 < 5) /\ (5 = 5 /\ (0 : Int) <= fndI (x.names.getD pk47 default) x.names /\ fndI (x.names.getD pk47 default) x.names < ((x.kids.map trc).length : Int)) /\ ·) ⟨(by decide), (by decide), ⟨rfl, by omega, by rw [List.length_map]; omega⟩, Gn3 [(64, .agg (tcs (x.kids.getD ((fndI (x.names.getD pk47 default) x.names).toNat) default)))] [(20, fl sc (o ++ [x.names.getD pk47 default])), (16, [.str (x.names.getD pk47 default)]), (12, tcs (x.kids.getD ((fndI (x.names.getD pk47 default) x.names).toNat) default)), (0, rdc b (pp + 1 + 1 + 1 + 1))] 24 ((5 <= 5 /\ 0 < 5) /\ (true = true /\ 5 = 5 /\ 0 + 5 <= 5) /\ ·) ⟨(by decide), (by decide), nk_n ?_⟩⟩)))))
 refine Bn ?_
 have hn : (x.names.getD pk47 default).length <= 5 \/ (x.names.getD pk47 default).length < wS x.names := by first | exact .inl hx | exact .inr (wS_get _ _ (by omega))
 have hnW := wS_snoc o (x.names.getD pk47 default)
 have hkW := Ws_get x.kids ((fndI (x.names.getD pk47 default) x.names).toNat) (by omega)
 have hoL : (o ++ [x.names.getD pk47 default]).length = o.length + 1 := by simp
 refine Lr (o ++ [x.names.getD pk47 default], (x.kids.getD ((fndI (x.names.getD pk47 default) x.names).toNat) default), pp + 1 + 1 + 1 + 1) [(0, 0), (12, 12), (20, 8)] 16 [(0, .ptr 0 0), (5, .osl 20 1 0 ((o ++ [x.names.getD pk47 default]).length)), (6, .ptr 12 0)] [(20, fl sc (o ++ [x.names.getD pk47 default])), (12, tcs (x.kids.getD ((fndI (x.names.getD pk47 default) x.names).toNat) default)), (0, rdc b (pp + 1 + 1 + 1 + 1))] [false, true, true] ?_ ?_ (by kernel_rfl) (by kernel_rfl)
 (try dsimp only); omega
 refine ⟨?_, rfl⟩; (try dsimp only); exact ⟨by omega, by omega, by omega⟩
 try simp only [KF] at c46
 refine Sk (Jn (hK42 (Kp [0, 5, 6, 7] (Rr (An3 4 [(47, .osl 20 1 0 (o.length + 1)), (46, .osl 16 1 0 1), (45, .str ns41), (44, .osl 8 1 0 o.length)] [(20, apd (fl sc o) (o.length * 1) [.str ns41]), (16, [.str ns41]), (12, tcs x), (0, rdc b (pp + 1 + 1 + 1))] 24 ((1 * 1 <= 16777216) /\ (0 + 1 * 1 <= 1) /\ (1 = 1 /\ o.length * 1 <= (fl sc o).length /\ 0 < 16 /\ (o.length + 1) * 16 <= 140737488355328) /\ ·) ⟨(by decide), (by decide), ⟨rfl, by (first | omega | (simp only [LL]; omega)), by decide, by (first | omega | (simp only [LL]; omega))⟩, run_v (v' := .osl 20 1 0 ((o ++ [ns41]).length)) (push_len _ _ _ _) (run_h (cs' := fl sc (o ++ [ns41])) (push_str o ns41) ?_)⟩)))))
 refine Fn0 [0, 6, 7] [(5, .osl 20 1 0 ((o ++ [ns41]).length))] (Rr (Pc1 3 [(49, .str ns41), (48, .agg (tcs x))] 50 (0 + 5 <= 5 /\ 0 < 5) (by decide) (l1Find_c x ns41 (by omega)) (Fn0 [0, 5, 6] [(8, .int .i64 (fndI ns41 x.names))] (Sq fun K57 hK57 => ?_))))
 refine Rm 59 ((decide ((fndI ns41 x.names : Int) < (0 : Int))) || (decide ((x.kids.length : Int) <= fndI ns41 x.names))) [0, 5, 6, 8] ?_ ?_
 refine An1 3 [(53, .bool (decide ((fndI ns41 x.names : Int) < (0 : Int)))), (52, .bool (decide ((fndI ns41 x.names : Int) < (0 : Int)))), (51, .int .i64 (fndI ns41 x.names))] (Ki /\ ·) ⟨rfl, run_b (fun g59 => ?_) (fun g59 => ?_)⟩
 have hg59 := g59
 try simp only [KF] at g59
 refine Mn0 true (by rw [hg59]; rfl)
 have hg59 := g59
 try simp only [KF] at g59
 refine Av1 (r := .int .i64 ((x.kids.map trc).length : Nat)) (v := .int .i64 x.kids.length) 4 57 [(56, .sl 5 (x.kids.map trc)), (55, .ptr 12 4), (54, .int .i64 (fndI ns41 x.names))] (by rw [List.length_map]) (((1 : Nat) ≠ 0) /\ (4 + 1 <= 5 /\ 4 < 5) /\ ·) ⟨(by decide), (by decide), Mn1 (decide ((x.kids.length : Int) <= fndI ns41 x.names)) (Ki /\ ·) ⟨rfl, (by rw [hg59]; rfl)⟩⟩
 refine Cc ((decide ((fndI ns41 x.names : Int) < (0 : Int))) || (decide ((x.kids.length : Int) <= fndI ns41 x.names))) (fun hc60 c60 => ?_) fun hc60 c60 => ?_
 try simp only [KF] at c60
 refine Xt (Jx (Bx (Lx (Bh (Jn (hK4 (Kp [5] (Rr (Fn0 [] [(4, .osl 20 1 0 ((o ++ [ns41]).length))] (FzS 20 (o ++ [ns41]) [(4, .osl 20 1 0 ((o ++ [ns41]).length))] [(0, rdc b (pp + 1 + 1 + 1))] [true] (Rt (pth (o ++ [ns41])) ?_)))))))))))
 have hn : (ns41).length <= 5 \/ (ns41).length < wS x.names := by first | exact .inl hns41 | exact .inr (wS_get _ _ (by omega))
 have hnW := wS_snoc o ns41
 have hoL : (o ++ [ns41]).length = o.length + 1 := by simp
 exact fin_rc (pp + 1 + 1 + 1) (lea_refl _) (by simp only [go_sem]) (by kernel_rfl) ⟨_, by omega, by omega, by omega, rfl, by omega⟩
 try simp only [KF] at c60
 refine Sk (Jn (hK57 (Kp [0, 5, 6, 8] (Rn (Av1 4 63 [(62, .int .i64 (fndI ns41 x.names)), (61, .sl 5 (x.kids.map trc)), (60, .ptr 12 4)] (congrArg AV.pat (mg_trc x.kids ((fndI ns41 x.names).toNat) (by omega))) (((1 : Nat) ≠ 0) /\ (4 + 1 <= 5 /\ 4 < 5) /\ (5 = 5 /\ (0 : Int) <= fndI ns41 x.names /\ fndI ns41 x.names < ((x.kids.map trc).length : Int)) /\ ·) ⟨(by decide), (by decide), ⟨rfl, by omega, by rw [List.length_map]; omega⟩, Gn3 [(64, .agg (tcs (x.kids.getD ((fndI ns41 x.names).toNat) default)))] [(20, fl sc (o ++ [ns41])), (16, [.str ns41]), (12, tcs (x.kids.getD ((fndI ns41 x.names).toNat) default)), (0, rdc b (pp + 1 + 1 + 1))] 24 ((5 <= 5 /\ 0 < 5) /\ (true = true /\ 5 = 5 /\ 0 + 5 <= 5) /\ ·) ⟨(by decide), (by decide), nk_n ?_⟩⟩)))))
 refine Bn ?_
 have hn : (ns41).length <= 5 \/ (ns41).length < wS x.names := by first | exact .inl hns41 | exact .inr (wS_get _ _ (by omega))
 have hnW := wS_snoc o ns41
 have hkW := Ws_get x.kids ((fndI ns41 x.names).toNat) (by omega)
 have hoL : (o ++ [ns41]).length = o.length + 1 := by simp
 refine Lr (o ++ [ns41], (x.kids.getD ((fndI ns41 x.names).toNat) default), pp + 1 + 1 + 1) [(0, 0), (12, 12), (20, 8)] 16 [(0, .ptr 0 0), (5, .osl 20 1 0 ((o ++ [ns41]).length)), (6, .ptr 12 0)] [(20, fl sc (o ++ [ns41])), (12, tcs (x.kids.getD ((fndI ns41 x.names).toNat) default)), (0, rdc b (pp + 1 + 1 + 1))] [false, true, true] ?_ ?_ (by kernel_rfl) (by kernel_rfl)
 (try dsimp only); omega
 refine ⟨?_, rfl⟩; (try dsimp only); exact ⟨by omega, by omega, by omega⟩
 have hg44 := g44
 try simp only [KF] at g44
 refine Fn0 [0, 5, 6, 7] [(34, .bool false)] (Cf (Sk (Jn (hK42 (Kp [0, 5, 6, 7] (Rr (An3 4 [(47, .osl 20 1 0 (o.length + 1)), (46, .osl 16 1 0 1), (45, .str ns41), (44, .osl 8 1 0 o.length)] [(20, apd (fl sc o) (o.length * 1) [.str ns41]), (16, [.str ns41]), (12, tcs x), (0, rdc b (pp + 1 + 1))] 24 ((1 * 1 <= 16777216) /\ (0 + 1 * 1 <= 1) /\ (1 = 1 /\ o.length * 1 <= (fl sc o).length /\ 0 < 16 /\ (o.length + 1) * 16 <= 140737488355328) /\ ·) ⟨(by decide), (by decide), ⟨rfl, by (first | omega | (simp only [LL]; omega)), by decide, by (first | omega | (simp only [LL]; omega))⟩, ?_⟩)))))))
 refine run_v (v' := .osl 20 1 0 ((o ++ [ns41]).length)) (push_len _ _ _ _) ?_
 refine run_h (cs' := fl sc (o ++ [ns41])) (push_str o ns41) ?_
 refine Fn0 [0, 6, 7] [(5, .osl 20 1 0 ((o ++ [ns41]).length))] (Rr (Pc1 3 [(49, .str ns41), (48, .agg (tcs x))] 50 (0 + 5 <= 5 /\ 0 < 5) (by decide) (l1Find_c x ns41 (by omega)) (Fn0 [0, 5, 6] [(8, .int .i64 (fndI ns41 x.names))] (Sq fun K64 hK64 => ?_))))
 refine Rm 59 ((decide ((fndI ns41 x.names : Int) < (0 : Int))) || (decide ((x.kids.length : Int) <= fndI ns41 x.names))) [0, 5, 6, 8] ?_ ?_
 refine An1 3 [(53, .bool (decide ((fndI ns41 x.names : Int) < (0 : Int)))), (52, .bool (decide ((fndI ns41 x.names : Int) < (0 : Int)))), (51, .int .i64 (fndI ns41 x.names))] (Ki /\ ·) ⟨rfl, run_b (fun g66 => ?_) (fun g66 => ?_)⟩
 have hg66 := g66
 try simp only [KF] at g66
 refine Mn0 true (by rw [hg66]; rfl)
 have hg66 := g66
 try simp only [KF] at g66
 refine Av1 (r := .int .i64 ((x.kids.map trc).length : Nat)) (v := .int .i64 x.kids.length) 4 57 [(56, .sl 5 (x.kids.map trc)), (55, .ptr 12 4), (54, .int .i64 (fndI ns41 x.names))] (by rw [List.length_map]) (((1 : Nat) ≠ 0) /\ (4 + 1 <= 5 /\ 4 < 5) /\ ·) ⟨(by decide), (by decide), Mn1 (decide ((x.kids.length : Int) <= fndI ns41 x.names)) (Ki /\ ·) ⟨rfl, (by rw [hg66]; rfl)⟩⟩
 refine Cc ((decide ((fndI ns41 x.names : Int) < (0 : Int))) || (decide ((x.kids.length : Int) <= fndI ns41 x.names))) (fun hc67 c67 => ?_) fun hc67 c67 => ?_
 try simp only [KF] at c67
 refine Xt (Jx (Bx (Lx (Bh (Jn (hK4 (Kp [5] (Rr (Fn0 [] [(4, .osl 20 1 0 ((o ++ [ns41]).length))] (FzS 20 (o ++ [ns41]) [(4, .osl 20 1 0 ((o ++ [ns41]).length))] [(0, rdc b (pp + 1 + 1))] [true] (Rt (pth (o ++ [ns41])) ?_)))))))))))
 have hn : (ns41).length <= 5 \/ (ns41).length < wS x.names := by first | exact .inl hns41 | exact .inr (wS_get _ _ (by omega))
 have hnW := wS_snoc o ns41
 have hoL : (o ++ [ns41]).length = o.length + 1 := by simp
 exact fin_rc (pp + 1 + 1) (lea_refl _) (by simp only [go_sem]) (by kernel_rfl) ⟨_, by omega, by omega, by omega, rfl, by omega⟩
 try simp only [KF] at c67
 refine Sk (Jn (hK64 (Kp [0, 5, 6, 8] (Rn (Av1 4 63 [(62, .int .i64 (fndI ns41 x.names)), (61, .sl 5 (x.kids.map trc)), (60, .ptr 12 4)] (congrArg AV.pat (mg_trc x.kids ((fndI ns41 x.names).toNat) (by omega))) (((1 : Nat) ≠ 0) /\ (4 + 1 <= 5 /\ 4 < 5) /\ (5 = 5 /\ (0 : Int) <= fndI ns41 x.names /\ fndI ns41 x.names < ((x.kids.map trc).length : Int)) /\ ·) ⟨(by decide), (by decide), ⟨rfl, by omega, by rw [List.length_map]; omega⟩, Gn3 [(64, .agg (tcs (x.kids.getD ((fndI ns41 x.names).toNat) default)))] [(20, fl sc (o ++ [ns41])), (16, [.str ns41]), (12, tcs (x.kids.getD ((fndI ns41 x.names).toNat) default)), (0, rdc b (pp + 1 + 1))] 24 ((5 <= 5 /\ 0 < 5) /\ (true = true /\ 5 = 5 /\ 0 + 5 <= 5) /\ ·) ⟨(by decide), (by decide), nk_n ?_⟩⟩)))))
 refine Bn ?_
 have hn : (ns41).length <= 5 \/ (ns41).length < wS x.names := by first | exact .inl hns41 | exact .inr (wS_get _ _ (by omega))
 have hnW := wS_snoc o ns41
 have hkW := Ws_get x.kids ((fndI ns41 x.names).toNat) (by omega)
 have hoL : (o ++ [ns41]).length = o.length + 1 := by simp
 refine Lr (o ++ [ns41], (x.kids.getD ((fndI ns41 x.names).toNat) default), pp + 1 + 1) [(0, 0), (12, 12), (20, 8)] 16 [(0, .ptr 0 0), (5, .osl 20 1 0 ((o ++ [ns41]).length)), (6, .ptr 12 0)] [(20, fl sc (o ++ [ns41])), (12, tcs (x.kids.getD ((fndI ns41 x.names).toNat) default)), (0, rdc b (pp + 1 + 1))] [false, true, true] ?_ ?_ (by kernel_rfl) (by kernel_rfl)
 (try dsimp only); omega
 refine ⟨?_, rfl⟩; (try dsimp only); exact ⟨by omega, by omega, by omega⟩
 try simp only [KF] at c39
 refine Xt (Jx (Lx (Bh (Jn (hK4 (Kp [5] (Rr (Fn0 [] [(4, .osl 8 1 0 o.length)] (FzS 8 o [(4, .osl 8 1 0 o.length)] [(0, rdc b (pp + 1))] [true] (Rt (pth o) ?_))))))))))
 exact fin_rc (pp + 1) (lea_refl _) (by simp only [go_sem]) (by kernel_rfl) ⟨_, by omega, by omega, by omega, rfl, by omega⟩
 have hg7 := g7
 try simp only [KF] at g7
 refine Fn0 [0, 5, 6] [(23, .bool false)] (Cf (Xt (Jx (Lx (Bh (Jn (hK4 (Kp [5] (Rr (Fn0 [] [(4, .osl 8 1 0 o.length)] ?_))))))))))
 refine FzS 8 o [(4, .osl 8 1 0 o.length)] [(0, rdc b pp)] [true] (Rt (pth o) ?_)
 exact fin_rc pp (lea_refl _) (by simp only [go_sem]) (by kernel_rfl) ⟨_, by omega, by omega, by omega, rfl, by omega⟩
open Go Go.Proofs
set_option maxRecDepth 100000
set_option maxHeartbeats 1000000 in
theorem l4Call_ok (b : Str) (p : Nat) (t : Tr) (hw : t.W < 2 ^ 30) (hp : p < 2 ^ 27) (hb : b.length < 2 ^ 30) : RC G 13 [.agg (tcs t)] b p (fun r p' => ∃ c : Cl, wS c.path < 2 ^ 31 /\ wS c.to < 2 ^ 31 /\ c.data.length <= 25 /\ r = .agg (clc c) /\ p' <= p + 50) := by
 refine h_rc (F := [(0, .ptr 0 0), (1, .agg (tcs t))]) (by simp only [go_sem]) Tryz.func13 (by kernel_rfl) (by kernel_rfl) ?_ (by kernel_rfl)
 refine Rr (Fn2 [0] [(4, .ptr 8 0), (3, .ptr 4 0)] [(8, [.int .i64 0, .nils, .nils, .int .i64 0, .str []]), (4, tcs t), (0, rdc b p)] 12 (Qr [0, 1, 3, 0, 0, 27, 63, 0, 255] [(0, []), (3, []), (4, []), (1, [4]), (2, []), (5, []), (6, []), (7, [4]), (8, [])] (qBc1 4 [(10, .agg (tcs t)), (9, .ptr 0 0), (6, .ptr 0 0)] [4] 12 [.ptr 0 0, .int .i64 6] 7 ((0 + 5 <= 5 /\ 0 < 5) /\ ·) ⟨(by decide), RC.use (pick_ok b p 6 (by omega) (by omega) (by omega) (by omega)) (by kernel_rfl) fun r p1 hr => ?_⟩))); obtain ⟨pk3, hpk3, rfl, rfl⟩ := hr
 refine Kq (p := (((0 + 5 <= 5 /\ 0 < 5) /\ (AV.agg (tcs t) = (.agg (tcs t) : AV))) /\ True)) ⟨⟨(by decide), rfl⟩, trivial⟩ ?_
 refine qAv1 1 8 [] (congrArg (AV.int .i64) (wnn 1 pk3 (by omega))) (Ki /\ ·) ⟨rfl, qBc0 1 [] [] 29 [.ptr 0 0, .agg (tcs t)] 11 (RC.use (l4Path_ok b (p + 1) t (by omega) (by omega) (by omega)) (by kernel_rfl) fun r q5 hr => ?_)⟩; obtain ⟨o4, h0o4, h1o4, h2o4, rfl, h3o4⟩ := hr
 refine Kq (p := (True)) trivial ?_
 refine qFn3 [0, 3, 4] [(5, .ptr 12 0)] [(12, [.int .i64 ((1 + pk3 : Nat) : Int), pth o4, .nils, .int .i64 0, .str []]), (8, [.int .i64 0, .nils, .nils, .int .i64 0, .str []]), (4, tcs t), (0, rdc b q5)] 16 ((((0 + 5 <= 5 /\ 0 < 5) /\ (AV.agg (tcs t) = (.agg (tcs t) : AV))) /\ True) /\ (true = true /\ 5 = 5 /\ 0 + 5 <= 5) /\ (True) /\ ·) ⟨⟨⟨(by decide), rfl⟩, trivial⟩, (by decide), trivial, Sj (fun (z : List Str × Int × Str × Nat) => match z with | (to, at_, dd, q) => ([(0, .ptr 0 0), (4, .ptr 8 0), (5, .ptr 12 0)] : Fr)) (fun (z : List Str × Int × Str × Nat) => match z with | (to, at_, dd, q) => ([(12, [.int .i64 ((1 + pk3 : Nat) : Int), pth o4, pth to, .int .i64 at_, .str dd]), (8, [.int .i64 0, .nils, .nils, .int .i64 0, .str []]), (0, rdc b q)] : Hp)) (fun (z : List Str × Int × Str × Nat) => match z with | (to, at_, dd, q) => wS to < 2 ^ 31 /\ dd.length <= 25 /\ q <= p + 40) 16 ?_ fun J6 K7 hK7 => ?_⟩
 rintro ⟨to, at_, dd, q⟩ hi
 dsimp only at hi ⊢
 obtain ⟨hi1, hi2, hi3⟩ := hi
 refine Sq fun K8 hK8 => ?_
 refine Rr (Bc0 2 [(59, .ptr 0 0)] 12 [.ptr 0 0, .int .i64 40] 60 (RC.use (pick_ok b q 40 (by omega) (by omega) (by omega) (by omega)) (by kernel_rfl) fun r p1 hr => ?_)); obtain ⟨pk10, hpk10, rfl, rfl⟩ := hr
 refine Ke (Fn0 [0, 4, 5, 60] [] (Bl (Rr (Cn1 (decide ((pk10 : Int) = 0)) [0, 4, 5, 60] [] (Ki /\ ·) ⟨rfl, fun hc12 c12 => ?_, fun hc12 c12 => ?_⟩))))
 try simp only [KF] at c12
 refine Rb (fun h => Bn (Jn (hK8 h))) (Bc3 3 [(64, .ptr 0 0), (63, .osl 16 1 0 3)] 12 [.ptr 0 0, .int .i64 3] 65 [(16, [.int .i64 0, .int .i64 7, .int .i64 (-1)]), (12, [.int .i64 ((1 + pk3 : Nat) : Int), pth o4, pth to, .int .i64 at_, .str dd]), (8, [.int .i64 0, .nils, .nils, .int .i64 0, .str []]), (0, rdc b (q + 1))] 20 ((3 * 1 <= 16777216) /\ ·) ⟨(by decide), RC.use (pick_ok b (q + 1) 3 (by omega) (by omega) (by omega) (by omega)) (by kernel_rfl) fun r p1 hr => ?_⟩); obtain ⟨pk13, hpk13, rfl, rfl⟩ := hr
 refine Ke (Av1 (r := ([.int .i64 0, .int .i64 7, .int .i64 (-1)].getD (0 + pk13 * 1) .dead : AV)) (v := .int .i64 (([0, 7, -1] : List Int).getD pk13 0)) 2 67 [(66, .ptr 16 (0 + pk13 * 1))] (ints_get ([0, 7, -1] : List Int) pk13 (by simp only [List.length_cons, List.length_nil]; omega)) ((1 = 1 /\ (0 : Int) <= (pk13 : Int) /\ (pk13 : Int) < (3 : Int)) /\ (0 + pk13 * 1 + 1 <= 3 /\ 0 + pk13 * 1 < 3) /\ ·) ⟨⟨rfl, by omega, by omega⟩, ⟨by omega, by omega⟩, Fn3 [4, 5] [] [(16, [.int .i64 0, .int .i64 7, .int .i64 (-1)]), (12, [.int .i64 (([0, 7, -1] : List Int).getD pk13 0), pth o4, pth to, .int .i64 at_, .str dd]), (8, [.int .i64 0, .nils, .nils, .int .i64 0, .str []]), (0, rdc b (q + 1 + 1))] 20 (((1 : Nat) ≠ 0) /\ (true = true /\ 1 = 1 /\ 0 + 1 <= 5) /\ ·) ⟨(by decide), (by decide), Rr (Fn3 [4] [] [(16, [.int .i64 0, .int .i64 7, .int .i64 (-1)]), (12, [.int .i64 (([0, 7, -1] : List Int).getD pk13 0), pth o4, pth to, .int .i64 at_, .str dd]), (8, [.int .i64 (([0, 7, -1] : List Int).getD pk13 0), pth o4, pth to, .int .i64 at_, .str dd]), (0, rdc b (q + 1 + 1))] 20 ((0 + 5 <= 5 /\ 0 < 5) /\ (true = true /\ 5 = 5 /\ 0 + 5 <= 5) /\ ·) ⟨(by decide), (by decide), ?_⟩)⟩⟩)
 refine Rt1 ((0 + 5 <= 5 /\ 0 < 5) /\ ·) (.agg [.int .i64 (([0, 7, -1] : List Int).getD pk13 0), pth o4, pth to, .int .i64 at_, .str dd]) ⟨(by decide), ?_⟩
 exact fin_rc (q + 1 + 1) (by first | exact lea_refl _ | simp [lea, leas, pth, clc]) (by simp only [go_sem]) (by kernel_rfl) ⟨Cl.mk (([0, 7, -1] : List Int).getD pk13 0) o4 to at_ dd, (by show wS o4 < 2 ^ 31; first | omega | decide), (by show wS to < 2 ^ 31; first | omega | decide), (by show List.length dd <= 25; first | omega | decide), rfl, by omega⟩
 try simp only [KF] at c12
 refine Rr (Cn1 (decide ((pk10 : Int) = 1)) [0, 4, 5, 60] [] (Ki /\ ·) ⟨rfl, fun hc16 c16 => ?_, fun hc16 c16 => ?_⟩)
 try simp only [KF] at c16
 refine Rb (fun h => Bn (Jn (hK8 h))) (Fn3 [4, 5] [] [(16, []), (12, [.int .i64 ((1 + pk3 : Nat) : Int), .osl 16 1 0 0, pth to, .int .i64 at_, .str dd]), (8, [.int .i64 0, .nils, .nils, .int .i64 0, .str []]), (0, rdc b (q + 1))] 20 ((0 * 1 <= 16777216) /\ ((1 : Nat) ≠ 0) /\ (true = true /\ 1 = 1 /\ 1 + 1 <= 5) /\ ·) ⟨(by decide), (by decide), (by decide), Rr (Fn3 [4] [] [(16, []), (12, [.int .i64 ((1 + pk3 : Nat) : Int), .osl 16 1 0 0, pth to, .int .i64 at_, .str dd]), (8, [.int .i64 ((1 + pk3 : Nat) : Int), .osl 16 1 0 0, pth to, .int .i64 at_, .str dd]), (0, rdc b (q + 1))] 20 ((0 + 5 <= 5 /\ 0 < 5) /\ (true = true /\ 5 = 5 /\ 0 + 5 <= 5) /\ ·) ⟨(by decide), (by decide), Fz 16 1 0 ([]) ([]) [(4, .ptr 8 0)] [(8, [.int .i64 ((1 + pk3 : Nat) : Int), .osl 16 1 0 0, pth to, .int .i64 at_, .str dd]), (0, rdc b (q + 1))] [true, true] (by kernel_rfl) (by first | decide | simp) ?_⟩)⟩)
 refine Rt1 ((0 + 5 <= 5 /\ 0 < 5) /\ ·) (.agg [.int .i64 ((1 + pk3 : Nat) : Int), pth [], pth to, .int .i64 at_, .str dd]) ⟨(by decide), ?_⟩
 exact fin_rc (q + 1) (by first | exact lea_refl _ | simp [lea, leas, pth, clc]) (by simp only [go_sem]) (by kernel_rfl) ⟨Cl.mk ((1 + pk3 : Nat) : Int) [] to at_ dd, (by show wS [] < 2 ^ 31; first | omega | decide), (by show wS to < 2 ^ 31; first | omega | decide), (by show List.length dd <= 25; first | omega | decide), rfl, by omega⟩
 try simp only [KF] at c16
 refine Rr (Cn1 (decide ((pk10 : Int) = 2)) [0, 4, 5, 60] [] (Ki /\ ·) ⟨rfl, fun hc19 c19 => ?_, fun hc19 c19 => ?_⟩)
 try simp only [KF] at c19
 refine Rb (fun h => Bn (Jn (hK8 h))) (An3 4 [(78, .osl 20 1 0 (0 + (o4.map (fun s => [AV.str s])).length)), (77, pth o4), (76, .ptr 12 1), (75, .osl 16 1 0 0)] [(20, apd [] (0 * 1) ((o4.map (fun s => [AV.str s])).flatten)), (12, [.int .i64 ((1 + pk3 : Nat) : Int), pth o4, pth to, .int .i64 at_, .str dd]), (8, [.int .i64 0, .nils, .nils, .int .i64 0, .str []]), (0, rdc b (q + 1))] 24 ((0 * 1 <= 16777216) /\ ((1 : Nat) ≠ 0) /\ (1 + 1 <= 5 /\ 1 < 5) /\ True /\ (1 = 1 /\ 0 * 1 <= 0 /\ 0 < 16 /\ (0 + (o4.map (fun s => [AV.str s])).length) * 16 <= 140737488355328) /\ ·) ⟨(by decide), (by decide), (by decide), trivial, ⟨rfl, by (first | omega | (simp only [LL]; omega)), by decide, by (first | omega | (simp only [LL]; omega))⟩, run_v (v' := .osl 20 1 0 o4.length) (by rw [Nat.zero_add, List.length_map]) (run_h (cs' := fl sc o4) (app0_str _) (Bc3 3 [(80, .osl 24 1 0 5), (79, .ptr 0 0)] 33 [.ptr 0 0, .osl 24 1 0 5] 81 [(24, [.str [], .str [65], .str [116, 111, 111, 108, 111, 110, 103], .str [120], .str [121]]), (20, fl sc o4), (12, [.int .i64 ((1 + pk3 : Nat) : Int), pth o4, pth to, .int .i64 at_, .str dd]), (8, [.int .i64 0, .nils, .nils, .int .i64 0, .str []]), (0, rdc b (q + 1))] 28 ((5 * 1 <= 16777216) /\ ·) ⟨(by decide), ?_⟩))⟩)
 refine Tz 24 1 5 ([[.str []], [.str [65]], [.str [116, 111, 111, 108, 111, 110, 103]], [.str [120]], [.str [121]]]) ([.str [], .str [65], .str [116, 111, 111, 108, 111, 110, 103], .str [120], .str [121]]) [.ptr 0 0, pth [[], [65], [116, 111, 111, 108, 111, 110, 103], [120], [121]]] [(20, fl sc o4), (12, [.int .i64 ((1 + pk3 : Nat) : Int), pth o4, pth to, .int .i64 at_, .str dd]), (8, [.int .i64 0, .nils, .nils, .int .i64 0, .str []]), (0, rdc b (q + 1))] [false, true, true, true] (by kernel_rfl) (by first | decide | simp) ?_
 refine RC.use (of_ok b (q + 1) [[], [65], [116, 111, 111, 108, 111, 110, 103], [120], [121]] (by first | omega | decide | simp) (by first | omega | decide | simp) (by omega) (by omega)) (by kernel_rfl) fun r p1 hr => ?_; obtain ⟨os20, hos20, rfl, rfl⟩ := hr
 refine Ke (An3 2 [(83, .osl 32 1 0 (o4.length + 1)), (82, .osl 28 1 0 1)] [(32, apd (fl sc o4) (o4.length * 1) [.str os20]), (28, [.str os20]), (12, [.int .i64 ((1 + pk3 : Nat) : Int), pth o4, pth to, .int .i64 at_, .str dd]), (8, [.int .i64 0, .nils, .nils, .int .i64 0, .str []]), (0, rdc b (q + 1 + 1))] 36 ((1 * 1 <= 16777216) /\ (0 + 1 * 1 <= 1) /\ (1 = 1 /\ o4.length * 1 <= (fl sc o4).length /\ 0 < 16 /\ (o4.length + 1) * 16 <= 140737488355328) /\ ·) ⟨(by decide), (by decide), ⟨rfl, by (first | omega | (simp only [LL]; omega)), by decide, by (first | omega | (simp only [LL]; omega))⟩, run_v (v' := .osl 32 1 0 ((o4 ++ [os20]).length)) (push_len _ _ _ _) (run_h (cs' := fl sc (o4 ++ [os20])) (push_str o4 os20) (Fn3 [4, 5] [] [(32, fl sc (o4 ++ [os20])), (28, [.str os20]), (12, [.int .i64 ((1 + pk3 : Nat) : Int), .osl 32 1 0 ((o4 ++ [os20]).length), pth to, .int .i64 at_, .str dd]), (8, [.int .i64 0, .nils, .nils, .int .i64 0, .str []]), (0, rdc b (q + 1 + 1))] 36 (((1 : Nat) ≠ 0) /\ (true = true /\ 1 = 1 /\ 1 + 1 <= 5) /\ ·) ⟨(by decide), (by decide), ?_⟩))⟩)
 refine Rr (Fn3 [4] [] [(32, fl sc (o4 ++ [os20])), (28, [.str os20]), (12, [.int .i64 ((1 + pk3 : Nat) : Int), .osl 32 1 0 ((o4 ++ [os20]).length), pth to, .int .i64 at_, .str dd]), (8, [.int .i64 ((1 + pk3 : Nat) : Int), .osl 32 1 0 ((o4 ++ [os20]).length), pth to, .int .i64 at_, .str dd]), (0, rdc b (q + 1 + 1))] 36 ((0 + 5 <= 5 /\ 0 < 5) /\ (true = true /\ 5 = 5 /\ 0 + 5 <= 5) /\ ·) ⟨(by decide), (by decide), FzS 32 (o4 ++ [os20]) [(4, .ptr 8 0)] [(8, [.int .i64 ((1 + pk3 : Nat) : Int), .osl 32 1 0 ((o4 ++ [os20]).length), pth to, .int .i64 at_, .str dd]), (0, rdc b (q + 1 + 1))] [true, true] (Rt1 ((0 + 5 <= 5 /\ 0 < 5) /\ ·) (.agg [.int .i64 ((1 + pk3 : Nat) : Int), pth (o4 ++ [os20]), pth to, .int .i64 at_, .str dd]) ⟨(by decide), ?_⟩)⟩)
 have e1 := wS_snoc o4 os20
 have e2 : os20.length <= 7 := (by have hq := hos20; simp only [List.mem_cons, List.not_mem_nil, or_false] at hq; rcases hq with h | h | h | h | h <;> rw [h] <;> decide)
 exact fin_rc (q + 1 + 1) (by first | exact lea_refl _ | simp [lea, leas, pth, clc]) (by simp only [go_sem]) (by kernel_rfl) ⟨Cl.mk ((1 + pk3 : Nat) : Int) (o4 ++ [os20]) to at_ dd, (by show wS (o4 ++ [os20]) < 2 ^ 31; first | omega | decide), (by show wS to < 2 ^ 31; first | omega | decide), (by show List.length dd <= 25; first | omega | decide), rfl, by omega⟩
 try simp only [KF] at c19
 refine Rr (Cn1 (decide ((pk10 : Int) = 3)) [0, 4, 5, 60] [] (Ki /\ ·) ⟨rfl, fun hc23 c23 => ?_, fun hc23 c23 => ?_⟩)
 try simp only [KF] at c23
 refine Rb (fun h => Bn (Jn (hK8 h))) (Bc3 3 [(88, .ptr 0 0), (87, .osl 16 1 0 4)] 12 [.ptr 0 0, .int .i64 4] 89 [(16, [.int .i64 (-1), .int .i64 8, .int .i64 24, .int .i64 25]), (12, [.int .i64 ((1 + pk3 : Nat) : Int), pth o4, pth to, .int .i64 at_, .str dd]), (8, [.int .i64 0, .nils, .nils, .int .i64 0, .str []]), (0, rdc b (q + 1))] 20 ((4 * 1 <= 16777216) /\ ·) ⟨(by decide), RC.use (pick_ok b (q + 1) 4 (by omega) (by omega) (by omega) (by omega)) (by kernel_rfl) fun r p1 hr => ?_⟩); obtain ⟨pk24, hpk24, rfl, rfl⟩ := hr
 refine Ke (Av1 (r := ([.int .i64 (-1), .int .i64 8, .int .i64 24, .int .i64 25].getD (0 + pk24 * 1) .dead : AV)) (v := .int .i64 (([-1, 8, 24, 25] : List Int).getD pk24 0)) 2 91 [(90, .ptr 16 (0 + pk24 * 1))] (ints_get ([-1, 8, 24, 25] : List Int) pk24 (by simp only [List.length_cons, List.length_nil]; omega)) ((1 = 1 /\ (0 : Int) <= (pk24 : Int) /\ (pk24 : Int) < (4 : Int)) /\ (0 + pk24 * 1 + 1 <= 4 /\ 0 + pk24 * 1 < 4) /\ ·) ⟨⟨rfl, by omega, by omega⟩, ⟨by omega, by omega⟩, Fn3 [4, 5] [] [(16, [.int .i64 (-1), .int .i64 8, .int .i64 24, .int .i64 25]), (12, [.int .i64 ((1 + pk3 : Nat) : Int), pth o4, pth to, .int .i64 (([-1, 8, 24, 25] : List Int).getD pk24 0), .str dd]), (8, [.int .i64 0, .nils, .nils, .int .i64 0, .str []]), (0, rdc b (q + 1 + 1))] 20 (((1 : Nat) ≠ 0) /\ (true = true /\ 1 = 1 /\ 3 + 1 <= 5) /\ ·) ⟨(by decide), (by decide), Rr (Fn3 [4] [] [(16, [.int .i64 (-1), .int .i64 8, .int .i64 24, .int .i64 25]), (12, [.int .i64 ((1 + pk3 : Nat) : Int), pth o4, pth to, .int .i64 (([-1, 8, 24, 25] : List Int).getD pk24 0), .str dd]), (8, [.int .i64 ((1 + pk3 : Nat) : Int), pth o4, pth to, .int .i64 (([-1, 8, 24, 25] : List Int).getD pk24 0), .str dd]), (0, rdc b (q + 1 + 1))] 20 ((0 + 5 <= 5 /\ 0 < 5) /\ (true = true /\ 5 = 5 /\ 0 + 5 <= 5) /\ ·) ⟨(by decide), (by decide), ?_⟩)⟩⟩)
 refine Rt1 ((0 + 5 <= 5 /\ 0 < 5) /\ ·) (.agg [.int .i64 ((1 + pk3 : Nat) : Int), pth o4, pth to, .int .i64 (([-1, 8, 24, 25] : List Int).getD pk24 0), .str dd]) ⟨(by decide), ?_⟩
 exact fin_rc (q + 1 + 1) (by first | exact lea_refl _ | simp [lea, leas, pth, clc]) (by simp only [go_sem]) (by kernel_rfl) ⟨Cl.mk ((1 + pk3 : Nat) : Int) o4 to (([-1, 8, 24, 25] : List Int).getD pk24 0) dd, (by show wS o4 < 2 ^ 31; first | omega | decide), (by show wS to < 2 ^ 31; first | omega | decide), (by show List.length dd <= 25; first | omega | decide), rfl, by omega⟩
 try simp only [KF] at c23
 refine Rr (Cn1 (decide ((pk10 : Int) = 4)) [0, 4, 5] [] (Ki /\ ·) ⟨rfl, fun hc27 c27 => ?_, fun hc27 c27 => ?_⟩)
 try simp only [KF] at c27
 refine Rb (fun h => Bn (Jn (hK8 h))) (Bc0 2 [(95, .ptr 0 0)] 12 [.ptr 0 0, .int .i64 2] 96 (RC.use (pick_ok b (q + 1) 2 (by omega) (by omega) (by omega) (by omega)) (by kernel_rfl) fun r p1 hr => ?_)); obtain ⟨pk28, hpk28, rfl, rfl⟩ := hr
 refine Ke (Av1 1 97 [] (congrArg (AV.int .i64) (wnn 24 pk28 (by omega))) (Ki /\ ·) ⟨rfl, Bc0 1 [] 34 [.str [113], .int .i64 ((24 + pk28 : Nat) : Int)] 98 (PC.use (l1Many_ok [113] (24 + pk28) (by first | omega | decide) (by first | omega | (simp only [List.length_cons, List.length_nil]; omega)) (by omega)) fun r hr => ?_)⟩); obtain ⟨mt29, rfl, hmt29⟩ := hr; simp only [List.length_cons, List.length_nil] at hmt29
 refine Ke (Fn3 [4, 5] [] [(12, [.int .i64 ((1 + pk3 : Nat) : Int), pth o4, pth to, .int .i64 at_, .str mt29]), (8, [.int .i64 0, .nils, .nils, .int .i64 0, .str []]), (0, rdc b (q + 1 + 1))] 16 (((1 : Nat) ≠ 0) /\ (true = true /\ 1 = 1 /\ 4 + 1 <= 5) /\ ·) ⟨(by decide), (by decide), Rr (Fn3 [4] [] [(12, [.int .i64 ((1 + pk3 : Nat) : Int), pth o4, pth to, .int .i64 at_, .str mt29]), (8, [.int .i64 ((1 + pk3 : Nat) : Int), pth o4, pth to, .int .i64 at_, .str mt29]), (0, rdc b (q + 1 + 1))] 16 ((0 + 5 <= 5 /\ 0 < 5) /\ (true = true /\ 5 = 5 /\ 0 + 5 <= 5) /\ ·) ⟨(by decide), (by decide), Rt1 ((0 + 5 <= 5 /\ 0 < 5) /\ ·) (.agg [.int .i64 ((1 + pk3 : Nat) : Int), pth o4, pth to, .int .i64 at_, .str mt29]) ⟨(by decide), ?_⟩⟩)⟩)
 exact fin_rc (q + 1 + 1) (by first | exact lea_refl _ | simp [lea, leas, pth, clc]) (by simp only [go_sem]) (by kernel_rfl) ⟨Cl.mk ((1 + pk3 : Nat) : Int) o4 to at_ mt29, (by show wS o4 < 2 ^ 31; first | omega | decide), (by show wS to < 2 ^ 31; first | omega | decide), (by show List.length mt29 <= 25; first | omega | decide), rfl, by omega⟩
 try simp only [KF] at c27
 refine Sk (Bn (Jn (hK8 (Kp [4, 5] (Rr (Fn3 [4] [] [(12, [.int .i64 ((1 + pk3 : Nat) : Int), pth o4, pth to, .int .i64 at_, .str dd]), (8, [.int .i64 ((1 + pk3 : Nat) : Int), pth o4, pth to, .int .i64 at_, .str dd]), (0, rdc b (q + 1))] 16 ((0 + 5 <= 5 /\ 0 < 5) /\ (true = true /\ 5 = 5 /\ 0 + 5 <= 5) /\ ·) ⟨(by decide), (by decide), Rt1 ((0 + 5 <= 5 /\ 0 < 5) /\ ·) (.agg [.int .i64 ((1 + pk3 : Nat) : Int), pth o4, pth to, .int .i64 at_, .str dd]) ⟨(by decide), ?_⟩⟩))))))
 exact fin_rc (q + 1) (by first | exact lea_refl _ | simp [lea, leas, pth, clc]) (by simp only [go_sem]) (by kernel_rfl) ⟨Cl.mk ((1 + pk3 : Nat) : Int) o4 to at_ dd, (by show wS o4 < 2 ^ 31; first | omega | decide), (by show wS to < 2 ^ 31; first | omega | decide), (by show List.length dd <= 25; first | omega | decide), rfl, by omega⟩
 refine Rr (Fn1 [0, 3, 4, 5] [(14, .int .i64 ((1 + pk3 : Nat) : Int))] (((1 : Nat) ≠ 0) /\ (0 + 1 <= 5 /\ 0 < 5) /\ ·) ⟨(by decide), (by decide), Bl (Sq fun K33 hK33 => ?_)⟩)
 refine Rr (Cn1 (decide (((1 + pk3 : Nat) : Int) = 1)) [0, 3, 4, 5, 14] [(15, .bool (decide (((1 + pk3 : Nat) : Int) = 1)))] (Ki /\ ·) ⟨rfl, fun hc35 c35 => ?_, fun hc35 c35 => ?_⟩)
 try simp only [KF] at c35
 refine Sk (Jn (hK33 (Kp [0, 3, 4, 5, 14, 15] (C1 (t := decide (((1 + pk3 : Nat) : Int) = 1)) hc35 (Rb (fun h => Bn (Jn (hK7 h))) (Bc0 2 [(18, .ptr 0 0)] 12 [.ptr 0 0, .int .i64 8] 19 (RC.use (pick_ok b q5 8 (by omega) (by omega) (by omega) (by omega)) (by kernel_rfl) fun r p1 hr => ?_))))))); obtain ⟨pk36, hpk36, rfl, rfl⟩ := hr
 refine Ke (Fn3 [0, 4, 5] [] [(12, [.int .i64 ((1 + pk3 : Nat) : Int), pth o4, .nils, .int .i64 pk36, .str []]), (8, [.int .i64 0, .nils, .nils, .int .i64 0, .str []]), (4, tcs t), (0, rdc b (q5 + 1))] 16 (((1 : Nat) ≠ 0) /\ (true = true /\ 1 = 1 /\ 3 + 1 <= 5) /\ ·) ⟨(by decide), (by decide), h_lo (H' := [(12, [.int .i64 ((1 + pk3 : Nat) : Int), pth o4, pth [], .int .i64 pk36, .str []]), (8, [.int .i64 0, .nils, .nils, .int .i64 0, .str []]), (4, tcs t), (0, rdc b (q5 + 1))]) ⟨⟨rfl, (by simp [lea, leas, pth, tcs, clc])⟩, ⟨rfl, leas_refl _⟩, ⟨rfl, leas_refl _⟩, ⟨rfl, leas_refl _⟩, trivial⟩ (Tr2 J6 ([], (pk36 : Int), [], q5 + 1) [(0, 0), (8, 8), (12, 12)] [(0, .ptr 0 0), (4, .ptr 8 0), (5, .ptr 12 0)] [(12, [.int .i64 ((1 + pk3 : Nat) : Int), pth o4, pth [], .int .i64 pk36, .str []]), (8, [.int .i64 0, .nils, .nils, .int .i64 0, .str []]), (0, rdc b (q5 + 1))] [true, true, true] ?_ (by kernel_rfl) (by kernel_rfl))⟩)
 (try dsimp only)
 exact ⟨by show wS [] < 2 ^ 31; first | omega | decide, by first | omega | decide, by omega⟩
 try simp only [KF] at c35
 refine Rb (fun h => Jn (hK33 h)) (Fn1 [0, 3, 4, 5, 14] [(15, .bool (decide (((1 + pk3 : Nat) : Int) = 6)))] (Ki /\ ·) ⟨rfl, Cc (decide (((1 + pk3 : Nat) : Int) = 6)) (fun hc37 c37 => ?_) fun hc37 c37 => ?_⟩)
 try simp only [KF] at c37
 refine Rb (fun h => Bn (Jn (hK7 h))) (Bc0 2 [(18, .ptr 0 0)] 12 [.ptr 0 0, .int .i64 8] 19 (RC.use (pick_ok b q5 8 (by omega) (by omega) (by omega) (by omega)) (by kernel_rfl) fun r p1 hr => ?_)); obtain ⟨pk38, hpk38, rfl, rfl⟩ := hr
 refine Ke (Fn3 [0, 4, 5] [] [(12, [.int .i64 ((1 + pk3 : Nat) : Int), pth o4, .nils, .int .i64 pk38, .str []]), (8, [.int .i64 0, .nils, .nils, .int .i64 0, .str []]), (4, tcs t), (0, rdc b (q5 + 1))] 16 (((1 : Nat) ≠ 0) /\ (true = true /\ 1 = 1 /\ 3 + 1 <= 5) /\ ·) ⟨(by decide), (by decide), h_lo (H' := [(12, [.int .i64 ((1 + pk3 : Nat) : Int), pth o4, pth [], .int .i64 pk38, .str []]), (8, [.int .i64 0, .nils, .nils, .int .i64 0, .str []]), (4, tcs t), (0, rdc b (q5 + 1))]) ⟨⟨rfl, (by simp [lea, leas, pth, tcs, clc])⟩, ⟨rfl, leas_refl _⟩, ⟨rfl, leas_refl _⟩, ⟨rfl, leas_refl _⟩, trivial⟩ (Tr2 J6 ([], (pk38 : Int), [], q5 + 1) [(0, 0), (8, 8), (12, 12)] [(0, .ptr 0 0), (4, .ptr 8 0), (5, .ptr 12 0)] [(12, [.int .i64 ((1 + pk3 : Nat) : Int), pth o4, pth [], .int .i64 pk38, .str []]), (8, [.int .i64 0, .nils, .nils, .int .i64 0, .str []]), (0, rdc b (q5 + 1))] [true, true, true] ?_ (by kernel_rfl) (by kernel_rfl))⟩)
 (try dsimp only)
 exact ⟨by show wS [] < 2 ^ 31; first | omega | decide, by first | omega | decide, by omega⟩
 try simp only [KF] at c37
 refine Sq fun K39 hK39 => ?_
 refine Rr (Cn1 (decide (((1 + pk3 : Nat) : Int) = 2)) [0, 3, 4, 5, 14] [(21, .bool (decide (((1 + pk3 : Nat) : Int) = 2)))] (Ki /\ ·) ⟨rfl, fun hc41 c41 => ?_, fun hc41 c41 => ?_⟩)
 try simp only [KF] at c41
 refine Sk (Jn (hK39 (Kp [0, 3, 4, 5, 14, 21] (C1 (t := decide (((1 + pk3 : Nat) : Int) = 2)) hc41 (Rr (Bc0 2 [(24, .ptr 0 0)] 12 [.ptr 0 0, .int .i64 4] 25 (RC.use (pick_ok b q5 4 (by omega) (by omega) (by omega) (by omega)) (by kernel_rfl) fun r p1 hr => ?_))))))); obtain ⟨pk43, hpk43, rfl, rfl⟩ := hr
 refine Ke (Bc0 2 [(26, .ptr 0 0)] 12 [.ptr 0 0, .int .i64 4] 27 (RC.use (pick_ok b (q5 + 1) 4 (by omega) (by omega) (by omega) (by omega)) (by kernel_rfl) fun r p1 hr => ?_)); obtain ⟨pk44, hpk44, rfl, rfl⟩ := hr
 refine Ke ?_
 have hm45 := Nat.mul_lt_mul'' hpk43 hpk44
 refine Av1 1 28 [] (congrArg (AV.int .i64) (wnm pk43 pk44 (by omega))) (Ki /\ ·) ⟨rfl, Fn3 [0, 4, 5] [] [(12, [.int .i64 ((1 + pk3 : Nat) : Int), pth o4, .nils, .int .i64 ((pk43 * pk44 : Nat) : Int), .str []]), (8, [.int .i64 0, .nils, .nils, .int .i64 0, .str []]), (4, tcs t), (0, rdc b (q5 + 1 + 1))] 16 (((1 : Nat) ≠ 0) /\ (true = true /\ 1 = 1 /\ 3 + 1 <= 5) /\ ·) ⟨(by decide), (by decide), Rr (Fn1 [0, 4, 5] [(32, .bool (decide (((1 + pk3 : Nat) : Int) = 2)))] (((1 : Nat) ≠ 0) /\ (0 + 1 <= 5 /\ 0 < 5) /\ Ki /\ ·) ⟨(by decide), (by decide), rfl, C1 (t := decide (((1 + pk3 : Nat) : Int) = 2)) hc41 ?_⟩)⟩⟩
 refine Rb (fun h => Bn (Jn (hK7 h))) (Bc0 2 [(33, .ptr 0 0)] 30 [.ptr 0 0] 34 (RC.use (l4Data_ok b (q5 + 1 + 1) (by omega) (by omega)) (by kernel_rfl) fun r p1 hr => ?_)); obtain ⟨ds47, hds47, rfl, rfl⟩ := hr
 refine Ke (Fn3 [0, 4, 5] [] [(12, [.int .i64 ((1 + pk3 : Nat) : Int), pth o4, .nils, .int .i64 ((pk43 * pk44 : Nat) : Int), .str ds47]), (8, [.int .i64 0, .nils, .nils, .int .i64 0, .str []]), (4, tcs t), (0, rdc b (q5 + 1 + 1 + 1 + 1))] 16 (((1 : Nat) ≠ 0) /\ (true = true /\ 1 = 1 /\ 4 + 1 <= 5) /\ ·) ⟨(by decide), (by decide), h_lo (H' := [(12, [.int .i64 ((1 + pk3 : Nat) : Int), pth o4, pth [], .int .i64 ((pk43 * pk44 : Nat) : Int), .str ds47]), (8, [.int .i64 0, .nils, .nils, .int .i64 0, .str []]), (4, tcs t), (0, rdc b (q5 + 1 + 1 + 1 + 1))]) ⟨⟨rfl, (by simp [lea, leas, pth, tcs, clc])⟩, ⟨rfl, leas_refl _⟩, ⟨rfl, leas_refl _⟩, ⟨rfl, leas_refl _⟩, trivial⟩ (Tr2 J6 ([], ((pk43 * pk44 : Nat) : Int), ds47, q5 + 1 + 1 + 1 + 1) [(0, 0), (8, 8), (12, 12)] [(0, .ptr 0 0), (4, .ptr 8 0), (5, .ptr 12 0)] [(12, [.int .i64 ((1 + pk3 : Nat) : Int), pth o4, pth [], .int .i64 ((pk43 * pk44 : Nat) : Int), .str ds47]), (8, [.int .i64 0, .nils, .nils, .int .i64 0, .str []]), (0, rdc b (q5 + 1 + 1 + 1 + 1))] [true, true, true] ?_ (by kernel_rfl) (by kernel_rfl))⟩)
 (try dsimp only)
 exact ⟨by show wS [] < 2 ^ 31; first | omega | decide, by first | omega | decide, by omega⟩
 try simp only [KF] at c41
 refine Rb (fun h => Jn (hK39 h)) (Fn1 [0, 3, 4, 5, 14] [(21, .bool (decide (((1 + pk3 : Nat) : Int) = 3)))] (Ki /\ ·) ⟨rfl, Cc (decide (((1 + pk3 : Nat) : Int) = 3)) (fun hc48 c48 => ?_) fun hc48 c48 => ?_⟩)
 try simp only [KF] at c48
 refine Rr (Bc0 2 [(24, .ptr 0 0)] 12 [.ptr 0 0, .int .i64 4] 25 (RC.use (pick_ok b q5 4 (by omega) (by omega) (by omega) (by omega)) (by kernel_rfl) fun r p1 hr => ?_)); obtain ⟨pk50, hpk50, rfl, rfl⟩ := hr
 refine Ke (Bc0 2 [(26, .ptr 0 0)] 12 [.ptr 0 0, .int .i64 4] 27 (RC.use (pick_ok b (q5 + 1) 4 (by omega) (by omega) (by omega) (by omega)) (by kernel_rfl) fun r p1 hr => ?_)); obtain ⟨pk51, hpk51, rfl, rfl⟩ := hr
 refine Ke ?_
 have hm52 := Nat.mul_lt_mul'' hpk50 hpk51
 refine Av1 1 28 [] (congrArg (AV.int .i64) (wnm pk50 pk51 (by omega))) (Ki /\ ·) ⟨rfl, Fn3 [0, 4, 5] [] [(12, [.int .i64 ((1 + pk3 : Nat) : Int), pth o4, .nils, .int .i64 ((pk50 * pk51 : Nat) : Int), .str []]), (8, [.int .i64 0, .nils, .nils, .int .i64 0, .str []]), (4, tcs t), (0, rdc b (q5 + 1 + 1))] 16 (((1 : Nat) ≠ 0) /\ (true = true /\ 1 = 1 /\ 3 + 1 <= 5) /\ ·) ⟨(by decide), (by decide), Rr (Fn1 [0, 4, 5] [(32, .bool (decide (((1 + pk3 : Nat) : Int) = 2)))] (((1 : Nat) ≠ 0) /\ (0 + 1 <= 5 /\ 0 < 5) /\ Ki /\ ·) ⟨(by decide), (by decide), rfl, C0 (t := decide (((1 + pk3 : Nat) : Int) = 2)) hc41 ?_⟩)⟩⟩
 refine Sk (Bn (Jn (hK7 (Kp [0, 4, 5] (h_lo (H' := [(12, [.int .i64 ((1 + pk3 : Nat) : Int), pth o4, pth [], .int .i64 ((pk50 * pk51 : Nat) : Int), .str []]), (8, [.int .i64 0, .nils, .nils, .int .i64 0, .str []]), (4, tcs t), (0, rdc b (q5 + 1 + 1))]) ⟨⟨rfl, (by simp [lea, leas, pth, tcs, clc])⟩, ⟨rfl, leas_refl _⟩, ⟨rfl, leas_refl _⟩, ⟨rfl, leas_refl _⟩, trivial⟩ (Tr2 J6 ([], ((pk50 * pk51 : Nat) : Int), [], q5 + 1 + 1) [(0, 0), (8, 8), (12, 12)] [(0, .ptr 0 0), (4, .ptr 8 0), (5, .ptr 12 0)] [(12, [.int .i64 ((1 + pk3 : Nat) : Int), pth o4, pth [], .int .i64 ((pk50 * pk51 : Nat) : Int), .str []]), (8, [.int .i64 0, .nils, .nils, .int .i64 0, .str []]), (0, rdc b (q5 + 1 + 1))] [true, true, true] ?_ (by kernel_rfl) (by kernel_rfl)))))))
 (try dsimp only)
 exact ⟨by show wS [] < 2 ^ 31; first | omega | decide, by first | omega | decide, by omega⟩
 try simp only [KF] at c48
 refine Rr (Cn1 (decide (((1 + pk3 : Nat) : Int) = 5)) [0, 3, 4, 5] [] (Ki /\ ·) ⟨rfl, fun hc55 c55 => ?_, fun hc55 c55 => ?_⟩)
 try simp only [KF] at c55
 refine Rr (Bc1 3 [(39, .agg (tcs t)), (38, .ptr 0 0)] 29 [.ptr 0 0, .agg (tcs t)] 40 ((0 + 5 <= 5 /\ 0 < 5) /\ ·) ⟨(by decide), RC.use (l4Path_ok b q5 t (by omega) (by omega) (by omega)) (by kernel_rfl) fun r q58 hr => ?_⟩); obtain ⟨o57, h0o57, h1o57, h2o57, rfl, h3o57⟩ := hr
 refine Ke (Fn3 [0, 4, 5] [] [(12, [.int .i64 ((1 + pk3 : Nat) : Int), pth o4, pth o57, .int .i64 0, .str []]), (8, [.int .i64 0, .nils, .nils, .int .i64 0, .str []]), (4, tcs t), (0, rdc b q58)] 16 (((1 : Nat) ≠ 0) /\ (true = true /\ 1 = 1 /\ 2 + 1 <= 5) /\ ·) ⟨(by decide), (by decide), Rr (Bc0 2 [(42, .ptr 0 0)] 12 [.ptr 0 0, .int .i64 2] 43 (RC.use (pick_ok b q58 2 (by omega) (by omega) (by omega) (by omega)) (by kernel_rfl) fun r p1 hr => ?_))⟩); obtain ⟨pk60, hpk60, rfl, rfl⟩ := hr
 refine Ke (Cn1 (decide ((pk60 : Int) = 0)) [0, 4, 5] [] (Ki /\ ·) ⟨rfl, fun hc61 c61 => ?_, fun hc61 c61 => ?_⟩)
 try simp only [KF] at c61
 refine Rb (fun h => Bn (Jn (hK7 h))) (Av3 (r := .int .i64 ((o57.map (fun s => [AV.str s])).length : Nat)) (v := .int .i64 o57.length) 6 50 [(49, pth o57), (48, .ptr 12 2), (47, pth o57), (46, .ptr 12 2), (45, .osl 16 1 0 0)] (by rw [List.length_map]) [(16, []), (12, [.int .i64 ((1 + pk3 : Nat) : Int), pth o4, pth o57, .int .i64 0, .str []]), (8, [.int .i64 0, .nils, .nils, .int .i64 0, .str []]), (4, tcs t), (0, rdc b (q58 + 1))] 20 ((0 * 1 <= 16777216) /\ ((1 : Nat) ≠ 0) /\ (2 + 1 <= 5 /\ 2 < 5) /\ ((1 : Nat) ≠ 0) /\ (2 + 1 <= 5 /\ 2 < 5) /\ ·) ⟨(by decide), (by decide), (by decide), (by decide), (by decide), Av1 (r := .int .i64 (IntKind.i64.wrap ((o57.length : Int) - 1))) (v := .int .i64 ((o57.length : Int) - 1)) 1 51 [] (congrArg (AV.int .i64) (wrap64 (by omega) (by omega))) (Ki /\ ·) ⟨rfl, Av1 (r := .sl 1 (((o57.map (fun s => [AV.str s])).take (((o57.length : Int) - 1).toNat)).drop 0)) (v := pth (o57.take (((o57.length : Int) - 1).toNat))) 1 52 [] (congrArg (AV.sl 1) (slm_0 _ _ _)) ((1 = 1 /\ 0 <= (0 : Int) /\ (0 : Int) <= ((o57.length : Int) - 1) /\ ((o57.length : Int) - 1) <= ((o57.map (fun s => [AV.str s])).length : Int)) /\ ·) ⟨⟨rfl, by omega, by (try rw [List.length_map]); omega, by rw [List.length_map]; omega⟩, An3 1 [(53, .osl 20 1 0 (0 + ((o57.take (((o57.length : Int) - 1).toNat)).map (fun s => [AV.str s])).length))] [(20, apd [] (0 * 1) (((o57.take (((o57.length : Int) - 1).toNat)).map (fun s => [AV.str s])).flatten)), (12, [.int .i64 ((1 + pk3 : Nat) : Int), pth o4, pth o57, .int .i64 0, .str []]), (8, [.int .i64 0, .nils, .nils, .int .i64 0, .str []]), (4, tcs t), (0, rdc b (q58 + 1))] 24 (fun Z => True /\ (1 = 1 /\ 0 * 1 <= 0 /\ 0 < 16 /\ (0 + ((o57.take (((o57.length : Int) - 1).toNat)).map (fun s => [AV.str s])).length) * 16 <= 140737488355328) /\ Z) ⟨trivial, ⟨rfl, by (first | omega | (simp only [LL]; omega)), by decide, by (first | omega | (simp only [LL]; omega))⟩, ?_⟩⟩⟩⟩)
 refine run_v (v' := .osl 20 1 0 ((o57.take (((o57.length : Int) - 1).toNat)).length)) (by rw [Nat.zero_add, List.length_map]) ?_
 refine run_h (cs' := fl sc (o57.take (((o57.length : Int) - 1).toNat))) (app0_str _) ?_
 refine Bc0 2 [(54, .ptr 0 0)] 32 [.ptr 0 0] 55 ?_
 refine RC.use (l4Name_ok b (q58 + 1) (by omega) (by omega)) (by kernel_rfl) fun r p1 hr => ?_; obtain ⟨ns62, hns62, rfl, rfl⟩ := hr
 refine Ke (An3 2 [(57, .osl 28 1 0 ((o57.take (((o57.length : Int) - 1).toNat)).length + 1)), (56, .osl 24 1 0 1)] [(28, apd (fl sc (o57.take (((o57.length : Int) - 1).toNat))) ((o57.take (((o57.length : Int) - 1).toNat)).length * 1) [.str ns62]), (24, [.str ns62]), (12, [.int .i64 ((1 + pk3 : Nat) : Int), pth o4, pth o57, .int .i64 0, .str []]), (8, [.int .i64 0, .nils, .nils, .int .i64 0, .str []]), (4, tcs t), (0, rdc b (q58 + 1 + 1))] 32 (fun Z => (1 * 1 <= 16777216) /\ (0 + 1 * 1 <= 1) /\ (1 = 1 /\ (o57.take (((o57.length : Int) - 1).toNat)).length * 1 <= (fl sc (o57.take (((o57.length : Int) - 1).toNat))).length /\ 0 < 16 /\ ((o57.take (((o57.length : Int) - 1).toNat)).length + 1) * 16 <= 140737488355328) /\ Z) ⟨(by decide), (by decide), ⟨rfl, by (first | omega | (simp only [LL]; omega)), by decide, by (first | omega | (simp only [LL]; omega))⟩, run_v (v' := .osl 28 1 0 ((o57.take (((o57.length : Int) - 1).toNat) ++ [ns62]).length)) (push_len _ _ _ _) (run_h (cs' := fl sc (o57.take (((o57.length : Int) - 1).toNat) ++ [ns62])) (push_str (o57.take (((o57.length : Int) - 1).toNat)) ns62) (Fn3 [0, 4, 5] [] [(28, fl sc (o57.take (((o57.length : Int) - 1).toNat) ++ [ns62])), (24, [.str ns62]), (12, [.int .i64 ((1 + pk3 : Nat) : Int), pth o4, .osl 28 1 0 ((o57.take (((o57.length : Int) - 1).toNat) ++ [ns62]).length), .int .i64 0, .str []]), (8, [.int .i64 0, .nils, .nils, .int .i64 0, .str []]), (4, tcs t), (0, rdc b (q58 + 1 + 1))] 32 (((1 : Nat) ≠ 0) /\ (true = true /\ 1 = 1 /\ 2 + 1 <= 5) /\ ·) ⟨(by decide), (by decide), ?_⟩))⟩)
 refine FzS 28 (o57.take (((o57.length : Int) - 1).toNat) ++ [ns62]) [(0, .ptr 0 0), (4, .ptr 8 0), (5, .ptr 12 0)] [(12, [.int .i64 ((1 + pk3 : Nat) : Int), pth o4, .osl 28 1 0 ((o57.take (((o57.length : Int) - 1).toNat) ++ [ns62]).length), .int .i64 0, .str []]), (8, [.int .i64 0, .nils, .nils, .int .i64 0, .str []]), (0, rdc b (q58 + 1 + 1))] [true, true, true] (Tr2 J6 (o57.take (((o57.length : Int) - 1).toNat) ++ [ns62], 0, [], q58 + 1 + 1) [(0, 0), (8, 8), (12, 12)] [(0, .ptr 0 0), (4, .ptr 8 0), (5, .ptr 12 0)] [(12, [.int .i64 ((1 + pk3 : Nat) : Int), pth o4, pth (o57.take (((o57.length : Int) - 1).toNat) ++ [ns62]), .int .i64 0, .str []]), (8, [.int .i64 0, .nils, .nils, .int .i64 0, .str []]), (0, rdc b (q58 + 1 + 1))] [true, true, true] ?_ (by kernel_rfl) (by kernel_rfl))
 (try dsimp only)
 have e1 := wS_snoc (o57.take (((o57.length : Int) - 1).toNat)) ns62
 have e3 := wS_take o57 (((o57.length : Int) - 1).toNat)
 exact ⟨by show wS (o57.take (((o57.length : Int) - 1).toNat) ++ [ns62]) < 2 ^ 31; first | omega | decide, by first | omega | decide, by omega⟩
 try simp only [KF] at c61
 refine Sk (Bn (Jn (hK7 (Kp [0, 4, 5] (Tr2 J6 (o57, 0, [], q58 + 1) [(0, 0), (8, 8), (12, 12)] [(0, .ptr 0 0), (4, .ptr 8 0), (5, .ptr 12 0)] [(12, [.int .i64 ((1 + pk3 : Nat) : Int), pth o4, pth o57, .int .i64 0, .str []]), (8, [.int .i64 0, .nils, .nils, .int .i64 0, .str []]), (0, rdc b (q58 + 1))] [true, true, true] ?_ (by kernel_rfl) (by kernel_rfl))))))
 (try dsimp only)
 exact ⟨by show wS o57 < 2 ^ 31; first | omega | decide, by first | omega | decide, by omega⟩
 try simp only [KF] at c55
 refine Sk (Bn (Jn (hK7 (Kp [0, 4, 5] (h_lo (H' := [(12, [.int .i64 ((1 + pk3 : Nat) : Int), pth o4, pth [], .int .i64 0, .str []]), (8, [.int .i64 0, .nils, .nils, .int .i64 0, .str []]), (4, tcs t), (0, rdc b q5)]) ⟨⟨rfl, (by simp [lea, leas, pth, tcs, clc])⟩, ⟨rfl, leas_refl _⟩, ⟨rfl, leas_refl _⟩, ⟨rfl, leas_refl _⟩, trivial⟩ (Tr2 J6 ([], 0, [], q5) [(0, 0), (8, 8), (12, 12)] [(0, .ptr 0 0), (4, .ptr 8 0), (5, .ptr 12 0)] [(12, [.int .i64 ((1 + pk3 : Nat) : Int), pth o4, pth [], .int .i64 0, .str []]), (8, [.int .i64 0, .nils, .nils, .int .i64 0, .str []]), (0, rdc b q5)] [true, true, true] ?_ (by kernel_rfl) (by kernel_rfl)))))))
 (try dsimp only)
 exact ⟨by show wS [] < 2 ^ 31; first | omega | decide, by first | omega | decide, by omega⟩
open Go Go.Proofs
set_option maxRecDepth 100000
theorem kid_s {Z W : Hp} {i : Nat} {A B : List AV} {t : OT} (nm : Str) (a b : Nat) (hids : t.ids = some (a, b)) (hz : odH Z) (hi : i % 2 = 1) (hp : Z.Perm ((i, A ++ otc t ++ B) :: (own t ++ W))) (hnl : t.names.length = t.kids.length) (hns : t.names.length < 2 ^ 40) : DC G 63 [.ptr i A.length, .str nm] Z (fun r Z' => Z' = Z /\ r = okid t nm) := by
 refine DC_nd fun hnd => ?_
 have hgi : hgt Z i = some (A ++ otc t ++ B) := hgt_perm hnd hp (by simp)
 have hgn : hgt Z (2 * a + 1) = some (fl sc t.names) := hgt_perm hnd hp (by simp [own, hids])
 refine h_dc (F := [(0, .ptr i A.length), (1, .str nm)]) ⟨hi, trivial, trivial⟩ hz Tryz.func63 (by kernel_rfl) (by kernel_rfl) ?_ (by kernel_rfl)
 refine Rr (Fn0 [0, 1] [] (Rr (An1 3 [(8, .ptr i (A.length + 3)), (7, .ptr i A.length), (6, .ptr i A.length)] (((1 : Nat) ≠ 0) /\ ·) ⟨(by decide), geln (t := t) 9 23 i 3 (.osl (2 * a + 1) 1 0 t.names.length) (fun J => by kernel_rfl) hgi (by kernel_rfl) (by rw [otc, hids]; rfl) ?_⟩)))
 refine Bc0 2 [(10, .str nm)] 78 [.osl (2 * a + 1) 1 0 t.names.length, .str nm] 11 ?_
 refine PE.useB (vw_n nm hgn) (index_ok t.names nm (by omega)) rfl ?_
 refine Ke (Fn0 [0] [(5, .int .i64 (fndI nm t.names))] (Sq fun K3 hK3 => ?_))
 refine Rm 22 ((decide ((fndI nm t.names : Int) < (0 : Int))) || (decide ((t.kids.length : Int) <= fndI nm t.names))) [0, 5] ?_ ?_
 refine An1 3 [(14, .bool (decide ((fndI nm t.names : Int) < (0 : Int)))), (13, .bool (decide ((fndI nm t.names : Int) < (0 : Int)))), (12, .int .i64 (fndI nm t.names))] (Ki /\ ·) ⟨rfl, run_b (fun g5 => ?_) (fun g5 => ?_)⟩
 have hg5 := g5
 try simp only [KF] at g5
 refine Mn0 true (by rw [hg5]; rfl)
 have hg5 := g5
 try simp only [KF] at g5
 refine An1 4 [(18, .ptr i (A.length + 4)), (17, .ptr i A.length), (16, .ptr i A.length), (15, .int .i64 (fndI nm t.names))] (((1 : Nat) ≠ 0) /\ ·) ⟨(by decide), geln (t := t) 19 24 i 4 (.osl (2 * b + 1) 5 0 t.kids.length) (fun J => by kernel_rfl) hgi (by kernel_rfl) (by rw [otc, hids]; rfl) (Mn1 (decide ((t.kids.length : Int) <= fndI nm t.names)) (Ki /\ ·) ⟨rfl, (by rw [hg5]; rfl)⟩)⟩
 refine Cc ((decide ((fndI nm t.names : Int) < (0 : Int))) || (decide ((t.kids.length : Int) <= fndI nm t.names))) (fun hc6 c6 => ?_) fun hc6 c6 => ?_
 try simp only [KF] at c6
 refine Rr (Fn0 [] [(4, .nilp)] (Rt (.nilp) (fin_dc .nilp Z (List.Sublist.refl _) (lea_refl _) trivial hz ⟨rfl, ?_⟩))); rw [okid_no (by omega)]
 try simp only [KF] at c6
 refine Sk (Jn (hK3 (Kp [0, 5] (Rr (An1 3 [(25, .ptr i (A.length + 4)), (24, .ptr i A.length), (23, .ptr i A.length)] (((1 : Nat) ≠ 0) /\ ·) ⟨(by decide), geln (t := t) 26 24 i 4 (.osl (2 * b + 1) 5 0 t.kids.length) (fun J => by kernel_rfl) hgi (by kernel_rfl) (by rw [otc, hids]; rfl) (Fn1 [] [(4, .ptr (2 * b + 1) (0 + ((fndI nm t.names).toNat) * 5))] ((5 = 5 /\ (0 : Int) <= fndI nm t.names /\ fndI nm t.names < (t.kids.length : Int)) /\ ·) ⟨⟨rfl, by omega, by omega⟩, ?_⟩)⟩)))))
 refine Rt (.ptr (2 * b + 1) (0 + ((fndI nm t.names).toNat) * 5)) ?_
 obtain ⟨k, e1, e2, e3⟩ := fndI_lt (n := nm) (l := t.names) (by omega)
 have e4 : okid t nm = .ptr (2 * b + 1) (k * 5) := by simp only [okid, hids, e1]
 refine fin_dc (okid t nm) Z (List.Sublist.refl _) ?_ (by rw [e4]; simp only [od]; omega) hz ⟨rfl, rfl⟩
 rw [e4, e2, Int.toNat_natCast, Nat.zero_add]; exact lea_refl _
theorem kid_n {Z W : Hp} {i : Nat} {A B : List AV} {t : OT} (nm : Str) (hids : t.ids = none) (hz : odH Z) (hi : i % 2 = 1) (hp : Z.Perm ((i, A ++ otc t ++ B) :: (own t ++ W))) (hnl : t.names.length = t.kids.length) (hns : t.names.length < 2 ^ 40) : DC G 63 [.ptr i A.length, .str nm] Z (fun r Z' => Z' = Z /\ r = okid t nm) := by
 refine DC_nd fun hnd => ?_
 have hgi : hgt Z i = some (A ++ otc t ++ B) := hgt_perm hnd hp (by simp)
 
 refine h_dc (F := [(0, .ptr i A.length), (1, .str nm)]) ⟨hi, trivial, trivial⟩ hz Tryz.func63 (by kernel_rfl) (by kernel_rfl) ?_ (by kernel_rfl)
 refine Rr (Fn0 [0, 1] [] (Rr (An1 3 [(8, .ptr i (A.length + 3)), (7, .ptr i A.length), (6, .ptr i A.length)] (((1 : Nat) ≠ 0) /\ ·) ⟨(by decide), geln (t := t) 9 23 i 3 .nils (fun J => by kernel_rfl) hgi (by kernel_rfl) (by rw [otc, hids]; rfl) ?_⟩)))
 refine Bc0 2 [(10, .str nm)] 78 [.nils, .str nm] 11 ?_
 refine TCall_le [pth [], .str nm] (by simp [lea, leas, pth]) ?_; refine PE.use (index_ok [] nm (by simp)) ?_
 refine Ke (Fn0 [0] [(5, .int .i64 (fndI nm []))] (Sq fun K3 hK3 => ?_))
 refine Rr (An1 3 [(14, .bool (decide ((fndI nm [] : Int) < (0 : Int)))), (13, .bool (decide ((fndI nm [] : Int) < (0 : Int)))), (12, .int .i64 (fndI nm []))] (Ki /\ ·) ⟨rfl, run_b (fun g5 => ?_) (fun g5 => ?_)⟩)
 have hg5 := g5
 try simp only [KF] at g5
 refine Fn0 [0, 5] [(22, .bool true)] (Ct (Rr (Fn0 [] [(4, .nilp)] (Rt (.nilp) ?_))))
 refine fin_dc .nilp Z (List.Sublist.refl _) (lea_refl _) trivial hz ⟨rfl, ?_⟩; rw [okid_none hids]
 have hg5 := g5
 try simp only [KF] at g5
 exfalso; have : fndI nm [] = -1 := rfl; omega
theorem kid_ok {Z W : Hp} {i : Nat} {A B : List AV} {t : OT} (nm : Str) (hz : odH Z) (hi : i % 2 = 1) (hp : Z.Perm ((i, A ++ otc t ++ B) :: (own t ++ W))) (hnl : t.names.length = t.kids.length) (hns : t.names.length < 2 ^ 40) : DC G 63 [.ptr i A.length, .str nm] Z (fun r Z' => Z' = Z /\ r = okid t nm) := by
  rcases hids : t.ids with _ | ⟨a, b⟩
  · exact kid_n nm hids hz hi hp hnl hns
  · exact kid_s nm a b hids hz hi hp hnl hns
open Go Go.Proofs
set_option maxRecDepth 100000
theorem at_ok {Z W : Hp} {r : Nat} {A0 B0 : List AV} {T : OT} (p : List Str) (hL : Lies Z r A0 B0 T W) (hp : p.length < 2 ^ 40) : DC G 43 [.ptr r A0.length, pth p] Z (fun r' Z' => Z' = Z /\ r' = oad (opos T r A0.length p)) := by
 refine DC_nd fun hnd => ?_
 refine h_dc (F := [(0, .ptr r A0.length), (1, pth p)]) ⟨hL.r1, purs_pth p, trivial⟩ hL.odd Tryz.func43 (by kernel_rfl) (by kernel_rfl) ?_ (by kernel_rfl)
 refine Rr (Fn0 [0, 1] [] (Sq fun K2 hK2 => ?_))
 refine Rr (Av0 (r := .int .i64 ((p.map (fun s => [AV.str s])).length : Nat)) (v := .int .i64 p.length) 2 8 [(7, pth p)] (by rw [List.length_map]) (Fn0 [0, 7, 8] [(9, .int .i64 0)] (Bl (h_lp (fun (z : Nat × Nat × Nat × OT) => (match z with | (k, i, o, t) => ([(0, .ptr i o), (7, pth p), (8, .int .i64 p.length), (9, .int .i64 k)] : Fr))) (fun (z : Nat × Nat × Nat × OT) => (match z with | (k, i, o, t) => (Z : Hp))) (fun (z : Nat × Nat × Nat × OT) cn => (match z with | (k, i, o, t) => (opos T r A0.length (p.take k) = some (i, o) /\ oat T (p.take k) = some t /\ k <= p.length /\ i % 2 = 1) /\ cn = 0)) (fun (z : Nat × Nat × Nat × OT) => p.length - z.1) (0, r, A0.length, T) (by kernel_rfl) ?_ ?_ ?_ ?_))))
 refine ⟨?_, rfl⟩; exact ⟨rfl, rfl, Nat.zero_le _, hL.r1⟩
 exact ⟨by kernel_rfl, by kernel_rfl, by kernel_rfl, by kernel_rfl, trivial⟩
 exact (List.Sublist.refl _)
 rintro ⟨k, i, o, t⟩ n1 hI
 (try dsimp only at hI)
 obtain ⟨⟨h1, h2, hk, hi2⟩, rfl⟩ := hI
 refine Rr (Fn1 [0, 7, 8, 9] [(10, .bool (decide ((k : Int) < (p.length : Int))))] (Ki /\ ·) ⟨rfl, Sq fun K5 hK5 => ?_⟩)
 refine Cc (decide ((k : Int) < (p.length : Int))) (fun hc6 c6 => ?_) fun hc6 c6 => ?_
 try simp only [KF] at c6
 refine Sk (Jn (hK5 (Kp [0, 7, 8, 9] (Sq fun K7 hK7 => ?_))))
 refine Bl (Rr (Av1 1 11 [] (congrArg AV.pat (mg_str p k (by omega))) ((1 = 1 /\ (0 : Int) <= (k : Int) /\ (k : Int) < ((p.map (fun s => [AV.str s])).length : Int)) /\ ·) ⟨⟨rfl, by omega, by rw [List.length_map]; omega⟩, Fn1 [0, 7, 8, 9] [(6, .str (p.getD k default))] ((1 <= 1 /\ 0 < 1) /\ ·) ⟨(by decide), Rr ?_⟩⟩))
 refine Bc0 3 [(14, .str (p.getD k default)), (13, .ptr i o)] 63 [.ptr i o, .str (p.getD k default)] 15 ?_
 obtain ⟨i', A, B, Wo, q1, q2, q3, q4, q5, q6⟩ := hL.foc h2
 rw [h1] at q1; cases q1
 refine DC.use (kid_ok (t := t) (p.getD k default) hL.odd q2 q3 q4 (by omega)) [] rfl trivial ?_
 rintro _ _ ⟨e1, rfl⟩
 rw [e1]; clear e1
 have hop : opos T r A0.length (p.take (k + 1)) = opos t i A.length [p.getD k default] := by
   rw [take_snoc p k default (by omega), opos_snoc, h1, h2]
 have hot : oat T (p.take (k + 1)) = oat t [p.getD k default] := by
   rw [take_snoc p k default (by omega), oat_snoc, h2]
 rw [okid_oad t (p.getD k default) i A.length, <- hop]
 have hio := opos_oat (r := r) (o := A0.length) (p := p.take (k + 1)) hL.wf hL.shp
 rcases hx : opos T r A0.length (p.take (k + 1)) with _ | ⟨j, o'⟩
 skip
 refine Ke (Fn0 [7, 8, 9] [(0, .nilp)] (Rr (Fn1 [0, 7, 8, 9] [(17, .bool true)] ((∃ e, TK.ptr 26 = TK.ptr e) /\ ·) ⟨⟨_, rfl⟩, Ct ?_⟩)))
 refine Rr (Fn0 [] [(4, .nilp)] (Rt (.nilp) (fin_dc .nilp Z (List.Sublist.refl _) (lea_refl _) trivial hL.odd ⟨rfl, ?_⟩)))
 rw [opos_cut (k + 1) hx]; rfl
 obtain ⟨t', ht'⟩ : ∃ t', oat T (p.take (k + 1)) = some t' := by rw [hx] at hio; exact Option.isSome_iff_exists.1 hio.symm
 refine Ke (Fn0 [7, 8, 9] [(0, .ptr j o')] (Rr (Fn1 [0, 7, 8, 9] [(17, .bool false)] ((∃ e, TK.ptr 26 = TK.ptr e) /\ ·) ⟨⟨_, rfl⟩, Cf ?_⟩)))
 refine Sk (Bn (Jn (hK7 (Kp [0, 7, 8, 9] (Rn (Av1 1 18 [] (congrArg (AV.int .i64) (wn1 k (by omega))) (Ki /\ ·) ⟨rfl, Gn0 [(9, .int .i64 ((k + 1 : Nat) : Int))] (nk_n ?_)⟩))))))
 refine lk_mk (k + 1, j, o', t') ?_ ⟨?_, rfl⟩ ⟨by kernel_rfl, by kernel_rfl, by kernel_rfl, by kernel_rfl, trivial⟩ (List.Sublist.refl _)
 (try dsimp only); omega
 exact ⟨hx, ht', by omega, by obtain ⟨_, _, _, _, e1, e2, _⟩ := hL.foc ht'; rw [hx] at e1; cases e1; exact e2⟩
 try simp only [KF] at c6
 refine Xt (Jx (Lkx (Bh (Jn (hK2 (Kp [0] (Rr (Fn0 [] [(4, .ptr i o)] (Rt (.ptr i o) (fin_dc (oad (opos T r A0.length p)) Z (List.Sublist.refl _) ?_ ?_ hL.odd ⟨rfl, rfl⟩))))))))))
 · rw [show opos T r A0.length p = some (i, o) by rw [<- h1, List.take_of_length_le (by omega)]]; exact lea_refl _
 · rw [show opos T r A0.length p = some (i, o) by rw [<- h1, List.take_of_length_le (by omega)]]; exact hi2
theorem parent_ok {Z W : Hp} {r : Nat} {A0 B0 : List AV} {T : OT} (p : List Str) (hL : Lies Z r A0 B0 T W) (hp0 : 0 < p.length) (hp : p.length < 2 ^ 40) : DC G 62 [.ptr r A0.length, pth p] Z (fun r' Z' => Z' = Z /\ r' = (match oat T (p.take (p.length - 1)) with | none => AV.tup [.nilp, .int .i64 3] | some u => bif u.dir then .tup [oad (opos T r A0.length (p.take (p.length - 1))), .int .i64 0] else .tup [.nilp, .int .i64 4])) := by
 refine DC_nd fun hnd => ?_
 have hq : p.take (((p.length : Int) - 1).toNat) = p.take (p.length - 1) := by congr 1; omega
 refine h_dc (F := [(0, .ptr r A0.length), (1, pth p)]) ⟨hL.r1, purs_pth p, trivial⟩ hL.odd Tryz.func62 (by kernel_rfl) (by kernel_rfl) ?_ (by kernel_rfl)
 refine Rr (Fn0 [0, 1] [] (Rr (Av0 (r := .int .i64 ((p.map (fun s => [AV.str s])).length : Nat)) (v := .int .i64 p.length) 4 10 [(9, pth p), (8, pth p), (7, .ptr r A0.length)] (by rw [List.length_map]) (Av1 (r := .int .i64 (IntKind.i64.wrap ((p.length : Int) - 1))) (v := .int .i64 ((p.length : Int) - 1)) 1 11 [] (congrArg (AV.int .i64) (wrap64 (by omega) (by omega))) (Ki /\ ·) ⟨rfl, ?_⟩))))
 refine Av1 (r := .sl 1 (((p.map (fun s => [AV.str s])).take (((p.length : Int) - 1).toNat)).drop 0)) (v := pth (p.take (((p.length : Int) - 1).toNat))) 1 12 [] (congrArg (AV.sl 1) (slm_0 _ _ _)) ((1 = 1 /\ 0 <= (0 : Int) /\ (0 : Int) <= ((p.length : Int) - 1) /\ ((p.length : Int) - 1) <= ((p.map (fun s => [AV.str s])).length : Int)) /\ ·) ⟨⟨rfl, by omega, by (try rw [List.length_map]); omega, by rw [List.length_map]; omega⟩, Bc0 1 [] 43 [.ptr r A0.length, pth (p.take (((p.length : Int) - 1).toNat))] 13 (DC.use (at_ok (p.take (((p.length : Int) - 1).toNat)) hL (by first | omega | (simp only [List.length_take]; omega))) [] rfl trivial ?_)⟩
 rintro _ _ ⟨e1, rfl⟩
 rw [e1]; clear e1
 have hioai3 := opos_oat (r := r) (o := A0.length) (p := (p.take (((p.length : Int) - 1).toNat))) hL.wf hL.shp
 rcases huai3 : oat T (p.take (((p.length : Int) - 1).toNat)) with _ | uai3
 rw [huai3] at hioai3
 rw [show opos T r A0.length (p.take (((p.length : Int) - 1).toNat)) = none from Option.isNone_iff_eq_none.1 (by rw [<- Option.not_isSome, hioai3]; rfl), show oad none = .nilp from rfl]
 refine Ke (Fn0 [] [(6, .nilp)] (Sq fun K4 hK4 => ?_))
 refine Bl (Rr (Fn1 [6] [(14, .bool true)] ((∃ e, TK.ptr 26 = TK.ptr e) /\ ·) ⟨⟨_, rfl⟩, Ct (Rr ?_)⟩))
 refine Fn0 [] [(5, .int .i64 3), (4, .nilp)] (Rt (.tup [.nilp, .int .i64 3]) (fin_dc (.tup [.nilp, .int .i64 3]) Z (List.Sublist.refl _) (lea_refl _) ⟨trivial, trivial, trivial⟩ hL.odd ⟨rfl, ?_⟩))
 rw [hq] at *; simp_all
 obtain ⟨ai3, Aai3, Bai3, Wai3, hoai3, hiai3, hpai3, hnai3, hsai3, hrai3⟩ := hL.foc huai3
 have hgai3 : hgt Z ai3 = some (Aai3 ++ otc uai3 ++ Bai3) := hgt_perm hnd hpai3 (by simp)
 rw [hoai3, show oad (some (ai3, Aai3.length)) = .ptr ai3 Aai3.length from rfl]
 refine Ke (Fn0 [] [(6, .ptr ai3 Aai3.length)] (Sq fun K7 hK7 => ?_))
 refine Bl (Rr (Fn1 [6] [(14, .bool false)] ((∃ e, TK.ptr 26 = TK.ptr e) /\ ·) ⟨⟨_, rfl⟩, Cf (Rr ?_)⟩))
 refine An1 3 [(20, .ptr ai3 Aai3.length), (19, .ptr ai3 Aai3.length), (18, .ptr ai3 Aai3.length)] (((1 : Nat) ≠ 0) /\ ·) ⟨(by decide), geln (t := uai3) 21 4 ai3 0 (.bool uai3.dir) (fun J => by kernel_rfl) hgai3 (by kernel_rfl) rfl (Cn0 (!uai3.dir) [6] [] ⟨fun hc10 c10 => ?_, fun hc10 c10 => ?_⟩)⟩
 try simp only [KF] at c10
 refine Rr (Fn0 [] [(5, .int .i64 4), (4, .nilp)] (Rt (.tup [.nilp, .int .i64 4]) (fin_dc (.tup [.nilp, .int .i64 4]) Z (List.Sublist.refl _) (lea_refl _) ⟨trivial, trivial, trivial⟩ hL.odd ⟨rfl, ?_⟩)))
 rw [hq] at *; simp_all
 try simp only [KF] at c10
 refine Sk (Bn (Jn (hK7 (Kp [6] (Rr (Fn0 [] [(5, .int .i64 0), (4, .ptr ai3 Aai3.length)] (Rt (.tup [.ptr ai3 Aai3.length, .int .i64 0]) (fin_dc (.tup [.ptr ai3 Aai3.length, .int .i64 0]) Z (List.Sublist.refl _) (lea_refl _) ⟨by assumption, trivial, trivial⟩ hL.odd ⟨rfl, ?_⟩))))))))
 rw [hq] at *; simp_all [oad]
open Go Go.Proofs
set_option maxRecDepth 100000
set_option maxHeartbeats 1000000 in
theorem put_ok {Z W : Hp} {i : Nat} {A B : List AV} {t : OT} (nm : Str) (x : OT) (a b : Nat) (hids : t.ids = some (a, b)) (hz : odH Z) (hi : i % 2 = 1) (hp : Z.Perm ((i, A ++ otc t ++ B) :: (own t ++ W))) (hnl : t.names.length = t.kids.length) (hns : t.names.length < 2 ^ 36) (hasc : asc t.names = true) : DC G 64 [.ptr i A.length, .str nm, .agg (otc x)] Z (fun _ Z' => ∃ t' : OT, Z'.Perm ((i, A ++ otc t' ++ B) :: (own t' ++ W)) /\ odH Z' /\ ((∃ j, j < t.names.length /\ t.names.getD j default = nm /\ t' = .mk t.dir t.mode t.data t.ids t.names (t.kids.set j x)) \/ ∃ j k k', j <= t.names.length /\ (∀ l, l < j -> blt (t.names.getD l default) nm = true) /\ (∀ l, j <= l -> l < t.names.length -> blt (t.names.getD l default) nm = false) /\ (j < t.names.length -> t.names.getD j default ≠ nm) /\ t' = (.mk t.dir t.mode t.data (some (k, k')) (t.names.take j ++ [nm] ++ t.names.drop j) (t.kids.take j ++ [x] ++ t.kids.drop j)))) := by
 refine DC_nd fun hnd => ?_
 have hgi : hgt Z i = some (A ++ otc t ++ B) := hgt_perm hnd hp (by simp)
 have hgn : hgt Z (2 * a + 1) = some (fl sc t.names) := hgt_perm hnd hp (by simp [own, hids])
 have hgk : hgt Z (2 * b + 1) = some (fl otc t.kids) := hgt_perm hnd hp (by simp [own, hids])
 have hsb : own t = [(2 * a + 1, fl sc t.names), (2 * b + 1, fl otc t.kids)] := by simp only [own, hids]
 rw [hsb] at hp
 refine h_dc (F := [(0, .ptr i A.length), (1, .str nm), (2, .agg (otc x))]) ⟨hi, trivial, ods_otc x, trivial⟩ hz Tryz.func64 (by kernel_rfl) (by kernel_rfl) ?_ (by kernel_rfl)
 refine Rr (Fn2 [0, 1] [(5, .ptr 0 0)] ((0, otc x) :: Z) 4 (Rr (An1 3 [(11, .ptr i (A.length + 3)), (10, .ptr i A.length), (9, .ptr i A.length)] (((1 : Nat) ≠ 0) /\ ·) ⟨(by decide), geln (t := t) 12 23 i 3 (.osl (2 * a + 1) 1 0 t.names.length) (fun J => by kernel_rfl) ((hgt_ev (E := [(0, otc x)]) ⟨rfl, trivial⟩ hi).trans hgi) (by kernel_rfl) (by rw [otc, hids]; rfl) ?_⟩)))
 refine Bc0 2 [(13, .str nm)] 79 [.osl (2 * a + 1) 1 0 t.names.length, .str nm] 14 ?_
 refine PC.useB (vw_n nm hgn) (bsearch_ok t.names nm (by omega) hasc) ?_
 rintro _ ⟨j, hj1, hj2, hj3, rfl⟩
 refine ⟨rfl, ?_⟩
 refine Ke (Fn1 [0, 1, 5] [(7, .bool (decide (j < t.names.length) && t.names.getD j default == nm)), (6, .int .i64 j)] ((0 < 2) /\ (1 < 2) /\ ·) ⟨(by decide), (by decide), Sq fun K3 hK3 => ?_⟩)
 refine Rr (Cn0 (decide (j < t.names.length) && t.names.getD j default == nm) [0, 1, 5, 6] [] ⟨fun hc5 c5 => ?_, fun hc5 c5 => ?_⟩)
 try simp only [KF] at c5
 have hj : j < t.names.length /\ t.names.getD j default = nm := by simpa using hc5
 refine Qr [0, 1, 3, 7, 0, 0, 63, 127] [(0, []), (1, []), (2, []), (3, []), (4, []), (5, []), (6, []), (7, [])] (qAn1 3 [(20, .ptr i (A.length + 4)), (19, .ptr i A.length), (18, .ptr i A.length)] (((1 : Nat) ≠ 0) /\ ·) ⟨(by decide), gqln (t := t) 21 24 i 4 (.osl (2 * b + 1) 5 0 t.kids.length) (fun J => by kernel_rfl) ((hgt_ev (E := [(0, otc x)]) ⟨rfl, trivial⟩ hi).trans hgi) (by kernel_rfl) (by rw [otc, hids]; rfl) (qAn1 3 [(24, .ptr (2 * b + 1) (0 + j * 5)), (23, .agg (otc x)), (22, .int .i64 j)] ((0 + 5 <= 5 /\ 0 < 5) /\ (5 = 5 /\ (0 : Int) <= (j : Int) /\ (j : Int) < (t.kids.length : Int)) /\ ·) ⟨(by decide), ⟨rfl, by omega, by omega⟩, gqsr 26 (2 * b + 1) t.kids j x ((0, otc x) :: (hset Z (2 * b + 1) (fl otc (t.kids.set j x)))) (fun J => by kernel_rfl) ((hgt_ev (E := [(0, otc x)]) ⟨rfl, trivial⟩ (show (2 * b + 1) % 2 = 1 by omega)).trans hgk) (by kernel_rfl) (by omega) (hset_ev (E := [(0, otc x)]) ⟨rfl, trivial⟩ (show (2 * b + 1) % 2 = 1 by omega)) ?_⟩)⟩)
 refine qFn0 [] [] (Rt (.tup []) ?_)
 have hp5 := hset_perm (ds := fl otc (t.kids.set j x)) hnd (show Z.Perm ((2 * b + 1, fl otc t.kids) :: (i, A ++ otc t ++ B) :: (2 * a + 1, fl sc t.names) :: W) from hp.trans (by exact (List.Perm.cons _ (List.Perm.swap _ _ _)).trans (List.Perm.swap _ _ _)))
 have hz5 : odH (hset Z (2 * b + 1) (fl otc (t.kids.set j x))) := odH_hset hz (ods_flO _) hnd
 refine fin_dc (.tup []) _ (by first | exact List.Sublist.refl _ | exact List.Sublist.cons _ (List.Sublist.refl _)) (by first | exact lea_refl _ | simp [lea, leas]) trivial hz5 ⟨.mk t.dir t.mode t.data t.ids t.names (t.kids.set j x), ?_, hz5, .inl ⟨j, hj.1, hj.2, rfl⟩⟩
 have e1 : otc (.mk t.dir t.mode t.data t.ids t.names (t.kids.set j x)) = otc t := by simp [otc]
 rw [e1]
 refine hp5.trans ?_
 simp only [own, OT.ids_mk, hids, OT.names_mk, OT.kids_mk]
 exact (List.Perm.swap _ _ _).trans (List.Perm.cons _ (List.Perm.swap _ _ _))
 try simp only [KF] at c5
 refine Sk (Jn (hK3 (Kp [0, 1, 5, 6] (Rr (An1 4 [(28, .ptr i (A.length + 3)), (27, .ptr i A.length), (26, .ptr i A.length), (25, .ptr i A.length)] (((1 : Nat) ≠ 0) /\ ·) ⟨(by decide), geln (t := t) 29 23 i 3 (.osl (2 * a + 1) 1 0 t.names.length) (fun J => by kernel_rfl) ((hgt_ev (E := [(0, otc x)]) ⟨rfl, trivial⟩ hi).trans hgi) (by kernel_rfl) (by rw [otc, hids]; rfl) (Bc3 4 [(32, .osl 4 1 0 1), (31, .str nm), (30, .int .i64 j)] 80 [.osl (2 * a + 1) 1 0 t.names.length, .int .i64 j, .osl 4 1 0 1] 33 ((4, [.str nm]) :: (0, otc x) :: Z) 8 ((1 * 1 <= 16777216) /\ ·) ⟨(by decide), ?_⟩)⟩)))))
 refine TCall.mono (ins_lift (fc := sc) (X := t.names) (Y := t.names.take j ++ [nm] ++ t.names.drop j) (y := nm) (E := [(4, [.str nm]), (0, otc x)]) (Z := Z) (a := 2 * a + 1) (b := 4) ⟨rfl, ⟨rfl, trivial⟩⟩ hz hgn (by kernel_rfl) rfl (ods_flS _) ⟨trivial, trivial⟩ (ods_flS _) (by rw [flSl, Nat.mul_one]) (fun c hc => insS sc_len t.names nm j c hj1 (by omega) hc) _) ?_
 rintro _ H1 _ _ ⟨rfl, k, hk, rfl, hH1⟩
 have hH2 : H1 = ((0, otc x) :: (hdel Z (2 * a + 1) ++ [(2 * k + 1, fl sc (t.names.take j ++ [nm] ++ t.names.drop j))])) := hH1
 clear hH1
 obtain ⟨hp1, hnd1⟩ := put_p1 (Y := fl sc (t.names.take j ++ [nm] ++ t.names.drop j)) hnd hp hk
 have hz1 : odH (hdel Z (2 * a + 1) ++ [(2 * k + 1, fl sc (t.names.take j ++ [nm] ++ t.names.drop j))]) := odH_put hz (ods_flS _)
 generalize hZ1 : hdel Z (2 * a + 1) ++ [(2 * k + 1, fl sc (t.names.take j ++ [nm] ++ t.names.drop j))] = Z1 at hH2 hp1 hnd1 hz1
 subst hH2
 clear hZ1
 have hg1 : hgt Z1 i = some (A ++ otc t ++ B) := hgt_perm hnd1 hp1 (by simp)
 refine Ke (An1 2 [(35, .ptr i (A.length + 3)), (34, .ptr i A.length)] (((1 : Nat) ≠ 0) /\ ·) ⟨(by decide), gesn (t := t) 23 i 3 (.osl (2 * k + 1) 1 0 ((t.names.take j ++ [nm] ++ t.names.drop j).length)) (.mk t.dir t.mode t.data (some (k, b)) (t.names.take j ++ [nm] ++ t.names.drop j) t.kids) ((0, otc x) :: (hset Z1 i (A ++ otc (.mk t.dir t.mode t.data (some (k, b)) (t.names.take j ++ [nm] ++ t.names.drop j) t.kids) ++ B))) (fun J => by kernel_rfl) ((hgt_ev (E := [(0, otc x)]) ⟨rfl, trivial⟩ hi).trans hg1) (by kernel_rfl) rfl (by simp only [otc, hids]; rfl) (hset_ev (E := [(0, otc x)]) ⟨rfl, trivial⟩ hi) ?_⟩)
 have hp2 := hset_perm (ds := A ++ otc (.mk t.dir t.mode t.data (some (k, b)) (t.names.take j ++ [nm] ++ t.names.drop j) t.kids) ++ B) hnd1 hp1
 have hnd2 : (ids (hset Z1 i (A ++ otc (.mk t.dir t.mode t.data (some (k, b)) (t.names.take j ++ [nm] ++ t.names.drop j) t.kids) ++ B))).Nodup := by rw [hset_ids]; exact hnd1
 have hz2 : odH (hset Z1 i (A ++ otc (.mk t.dir t.mode t.data (some (k, b)) (t.names.take j ++ [nm] ++ t.names.drop j) t.kids) ++ B)) := odH_hset hz1 (ods_mid hz hp) hnd1
 generalize (hset Z1 i (A ++ otc (.mk t.dir t.mode t.data (some (k, b)) (t.names.take j ++ [nm] ++ t.names.drop j) t.kids) ++ B)) = Z2 at hp2 hnd2 hz2 ⊢
 have hg2 : hgt Z2 i = some (A ++ otc (.mk t.dir t.mode t.data (some (k, b)) (t.names.take j ++ [nm] ++ t.names.drop j) t.kids) ++ B) := hgt_perm hnd2 hp2 (by simp)
 refine Fn0 [0, 5, 6] [] (Qn [0, 0, 2, 6, 14, 0, 0, 64, 254, 511, 1023, 2047] [(0, []), (1, []), (2, []), (3, []), (4, []), (5, []), (6, []), (7, [4]), (8, []), (9, []), (10, []), (11, [])] (qAn1 4 [(39, .ptr i (A.length + 4)), (38, .ptr i A.length), (37, .ptr i A.length), (36, .ptr i A.length)] (((1 : Nat) ≠ 0) /\ ·) ⟨(by decide), gqln (t := (.mk t.dir t.mode t.data (some (k, b)) (t.names.take j ++ [nm] ++ t.names.drop j) t.kids)) 40 24 i 4 (.osl (2 * b + 1) 5 0 t.kids.length) (fun J => by kernel_rfl) ((hgt_ev (E := [(0, otc x)]) ⟨rfl, trivial⟩ hi).trans hg2) (by kernel_rfl) rfl (qBc3 4 [(43, .osl 8 5 0 1), (42, .agg (otc x)), (41, .int .i64 j)] [] 81 [.osl (2 * b + 1) 5 0 t.kids.length, .int .i64 j, .osl 8 5 0 1] 44 ((8, otc x) :: (0, otc x) :: Z2) 12 ((0 + 5 <= 5 /\ 0 < 5) /\ (1 * 5 <= 16777216) /\ ((rR2 (ldr (tiq G 24) (.ptr i (A.length + 4)) ((8, otc x) :: (0, otc x) :: Z2) 12) (fun x => x = (.osl (2 * b + 1) 5 0 t.kids.length : AV))) /\ True) /\ ·) ⟨(by decide), (by decide), ⟨(rldn (t := (.mk t.dir t.mode t.data (some (k, b)) (t.names.take j ++ [nm] ++ t.names.drop j) t.kids)) ((hgt_ev (E := [(8, otc x), (0, otc x)]) ⟨rfl, ⟨rfl, trivial⟩⟩ hi).trans hg2) (by kernel_rfl) rfl), trivial⟩, ?_⟩)⟩))
 refine TCall.mono (ins_lift (fc := otc) (X := t.kids) (Y := t.kids.take j ++ [x] ++ t.kids.drop j) (y := x) (E := [(8, otc x), (0, otc x)]) (Z := Z2) (a := 2 * b + 1) (b := 8) ⟨rfl, ⟨rfl, trivial⟩⟩ hz2 (hgt_perm hnd2 hp2 (by simp)) (by kernel_rfl) rfl (ods_flO _) (ods_otc _) (ods_flO _) (fl_len otc_len _) (fun c hc => insT otc_len t.kids x j c (by omega) (by omega) hc) _) ?_
 rintro _ H1 _ _ ⟨rfl, k', hk', rfl, hH1⟩
 have hH2 : H1 = ((0, otc x) :: (hdel Z2 (2 * b + 1) ++ [(2 * k' + 1, fl otc (t.kids.take j ++ [x] ++ t.kids.drop j))])) := hH1
 clear hH1
 obtain ⟨hp3, hnd3⟩ := put_p2 (Y := fl otc (t.kids.take j ++ [x] ++ t.kids.drop j)) hnd2 hp2 hk'
 have hz3 : odH (hdel Z2 (2 * b + 1) ++ [(2 * k' + 1, fl otc (t.kids.take j ++ [x] ++ t.kids.drop j))]) := odH_put hz2 (ods_flO _)
 generalize hZ3 : hdel Z2 (2 * b + 1) ++ [(2 * k' + 1, fl otc (t.kids.take j ++ [x] ++ t.kids.drop j))] = Z3 at hH2 hp3 hnd3 hz3
 subst hH2
 clear hZ3
 have hg3 : hgt Z3 i = some (A ++ otc (.mk t.dir t.mode t.data (some (k, b)) (t.names.take j ++ [nm] ++ t.names.drop j) t.kids) ++ B) := hgt_perm hnd3 hp3 (by simp)
 refine Kq (p := (True)) trivial ?_
 refine qAn1 2 [(46, .ptr i (A.length + 4)), (45, .ptr i A.length)] (((1 : Nat) ≠ 0) /\ ·) ⟨(by decide), gqsn (t := (.mk t.dir t.mode t.data (some (k, b)) (t.names.take j ++ [nm] ++ t.names.drop j) t.kids)) 24 i 4 (.osl (2 * k' + 1) 5 0 ((t.kids.take j ++ [x] ++ t.kids.drop j).length)) (.mk t.dir t.mode t.data (some (k, k')) (t.names.take j ++ [nm] ++ t.names.drop j) (t.kids.take j ++ [x] ++ t.kids.drop j)) ((0, otc x) :: (hset Z3 i (A ++ otc (.mk t.dir t.mode t.data (some (k, k')) (t.names.take j ++ [nm] ++ t.names.drop j) (t.kids.take j ++ [x] ++ t.kids.drop j)) ++ B))) (fun J => by kernel_rfl) ((hgt_ev (E := [(0, otc x)]) ⟨rfl, trivial⟩ hi).trans hg3) (by kernel_rfl) rfl rfl (hset_ev (E := [(0, otc x)]) ⟨rfl, trivial⟩ hi) ?_⟩
 have hp4 := hset_perm (ds := A ++ otc (.mk t.dir t.mode t.data (some (k, k')) (t.names.take j ++ [nm] ++ t.names.drop j) (t.kids.take j ++ [x] ++ t.kids.drop j)) ++ B) hnd3 hp3
 have hz4 : odH (hset Z3 i (A ++ otc (.mk t.dir t.mode t.data (some (k, k')) (t.names.take j ++ [nm] ++ t.names.drop j) (t.kids.take j ++ [x] ++ t.kids.drop j)) ++ B)) := odH_hset hz3 (ods_mid hz hp) hnd3
 generalize (hset Z3 i (A ++ otc (.mk t.dir t.mode t.data (some (k, k')) (t.names.take j ++ [nm] ++ t.names.drop j) (t.kids.take j ++ [x] ++ t.kids.drop j)) ++ B)) = Z4 at hp4 hz4 ⊢
 refine qGn0 [] (nk_n (Rtn (fun Z => Z) (.tup []) (fin_dc (.tup []) Z4 (by first | exact List.Sublist.refl _ | exact List.Sublist.cons _ (List.Sublist.refl _)) (by first | exact lea_refl _ | simp [lea, leas]) trivial hz4 ⟨(.mk t.dir t.mode t.data (some (k, k')) (t.names.take j ++ [nm] ++ t.names.drop j) (t.kids.take j ++ [x] ++ t.kids.drop j)), hp4, hz4, .inr ⟨j, k, k', hj1, hj2, hj3, fun hl he => ?_, rfl⟩⟩)))
 rw [decide_eq_true hl, he, beq_self_eq_true] at hc5; cases hc5
open Go Go.Proofs
set_option maxRecDepth 100000
set_option maxHeartbeats 1000000 in
theorem drop_ok {Z W : Hp} {i : Nat} {A B : List AV} {t : OT} (nm : Str) (a b : Nat) (hids : t.ids = some (a, b)) (hz : odH Z) (hi : i % 2 = 1) (hp : Z.Perm ((i, A ++ otc t ++ B) :: (own t ++ W))) (hnl : t.names.length = t.kids.length) (hns : t.names.length < 2 ^ 36) : DC G 67 [.ptr i A.length, .str nm] Z (fun _ Z' => Z'.Perm ((i, A ++ otc (match fnd nm t.names with | none => t | some k => (.mk t.dir t.mode t.data t.ids (t.names.take k ++ t.names.drop (k + 1)) (t.kids.take k ++ t.kids.drop (k + 1)))) ++ B) :: (own (match fnd nm t.names with | none => t | some k => (.mk t.dir t.mode t.data t.ids (t.names.take k ++ t.names.drop (k + 1)) (t.kids.take k ++ t.kids.drop (k + 1)))) ++ W)) /\ odH Z') := by
 refine DC_nd fun hnd => ?_
 have hgi : hgt Z i = some (A ++ otc t ++ B) := hgt_perm hnd hp (by simp)
 have hgn : hgt Z (2 * a + 1) = some (fl sc t.names) := hgt_perm hnd hp (by simp [own, hids])
 have hsb : own t = [(2 * a + 1, fl sc t.names), (2 * b + 1, fl otc t.kids)] := by simp only [own, hids]
 rw [hsb] at hp
 refine h_dc (F := [(0, .ptr i A.length), (1, .str nm)]) ⟨hi, trivial, trivial⟩ hz Tryz.func67 (by kernel_rfl) (by kernel_rfl) ?_ (by kernel_rfl)
 refine Rr (An1 3 [(7, .ptr i (A.length + 3)), (6, .ptr i A.length), (5, .ptr i A.length)] (((1 : Nat) ≠ 0) /\ ·) ⟨(by decide), geln (t := t) 8 23 i 3 (.osl (2 * a + 1) 1 0 t.names.length) (fun J => by kernel_rfl) hgi (by kernel_rfl) (by rw [otc, hids]; rfl) (Bc0 2 [(9, .str nm)] 78 [.osl (2 * a + 1) 1 0 t.names.length, .str nm] 10 (PE.useB (vw_n nm hgn) (index_ok t.names nm (by omega)) rfl ?_))⟩)
 refine Ke (Fn0 [0] [(4, .int .i64 (fndI nm t.names))] (Rr (Cn1 (decide ((0 : Int) <= (fndI nm t.names : Int))) [0, 4] [] (Ki /\ ·) ⟨rfl, fun hc3 c3 => ?_, fun hc3 c3 => ?_⟩)))
 try simp only [KF] at c3
 obtain ⟨k, e1, e2, e3⟩ := fndI_lt (n := nm) (l := t.names) (by omega)
 refine h_k [0, 4] (F' := [(0, .ptr i A.length), (4, .int .i64 (fndI nm t.names))]) (by kernel_rfl) ?_
 refine h_st (F' := [(0, .ptr i A.length), (4, .int .i64 k)]) (H' := Z) (by rw [e2]) rfl ?_
 refine Rr (An1 4 [(16, .ptr i (A.length + 3)), (15, .ptr i A.length), (14, .ptr i A.length), (13, .ptr i A.length)] (((1 : Nat) ≠ 0) /\ ·) ⟨(by decide), geln (t := t) 17 23 i 3 (.osl (2 * a + 1) 1 0 t.names.length) (fun J => by kernel_rfl) hgi (by kernel_rfl) (by rw [otc, hids]; rfl) (Av1 3 20 [(19, .int .i64 k), (18, .int .i64 k)] (congrArg (AV.int .i64) (wn1 k (by omega))) (Ki /\ ·) ⟨rfl, Bc0 1 [] 82 [.osl (2 * a + 1) 1 0 t.names.length, .int .i64 k, .int .i64 ((k + 1 : Nat) : Int)] 21 ?_⟩)⟩)
 refine TCall.mono (del_lift (fc := sc) (X := t.names) (Y := t.names.take k ++ t.names.drop (k + 1)) (E := []) (Z := Z) (a := 2 * a + 1) trivial hz hgn rfl (ods_flS _) (ods_flS _) (fun c hc => delS (fc := sc) sc_len t.names k c (by omega) (by omega) hc) _) ?_
 rintro _ H1 _ _ ⟨rfl, rfl, hH1⟩
 have hH2 : H1 = hdel Z (2 * a + 1) ++ [(2 * a + 1, fl sc (t.names.take k ++ t.names.drop (k + 1)))] := hH1
 clear hH1
 obtain ⟨hp1, hnd1⟩ := del_p1 (Y := fl sc (t.names.take k ++ t.names.drop (k + 1))) hnd hp
 have hz1 : odH (hdel Z (2 * a + 1) ++ [(2 * a + 1, fl sc (t.names.take k ++ t.names.drop (k + 1)))]) := odH_put (k := a) hz (ods_flS _)
 generalize hZ1 : hdel Z (2 * a + 1) ++ [(2 * a + 1, fl sc (t.names.take k ++ t.names.drop (k + 1)))] = Z1 at hH2 hp1 hnd1 hz1
 rw [hH2]; clear hH2
 clear hZ1
 have hg1 : hgt Z1 i = some (A ++ otc t ++ B) := hgt_perm hnd1 hp1 (by simp)
 refine Ke (An1 2 [(23, .ptr i (A.length + 3)), (22, .ptr i A.length)] (((1 : Nat) ≠ 0) /\ ·) ⟨(by decide), gesn (t := t) 23 i 3 (.osl (2 * a + 1) 1 0 ((t.names.take k ++ t.names.drop (k + 1)).length)) (.mk t.dir t.mode t.data (some (a, b)) (t.names.take k ++ t.names.drop (k + 1)) t.kids) (hset Z1 i (A ++ otc (.mk t.dir t.mode t.data (some (a, b)) (t.names.take k ++ t.names.drop (k + 1)) t.kids) ++ B)) (fun J => by kernel_rfl) hg1 (by kernel_rfl) rfl (by simp only [otc, hids]; rfl) rfl ?_⟩)
 have hp2 := hset_perm (ds := A ++ otc (.mk t.dir t.mode t.data (some (a, b)) (t.names.take k ++ t.names.drop (k + 1)) t.kids) ++ B) hnd1 hp1
 have hnd2 : (ids (hset Z1 i (A ++ otc (.mk t.dir t.mode t.data (some (a, b)) (t.names.take k ++ t.names.drop (k + 1)) t.kids) ++ B))).Nodup := by rw [hset_ids]; exact hnd1
 have hz2 : odH (hset Z1 i (A ++ otc (.mk t.dir t.mode t.data (some (a, b)) (t.names.take k ++ t.names.drop (k + 1)) t.kids) ++ B)) := odH_hset hz1 (ods_mid hz hp) hnd1
 generalize (hset Z1 i (A ++ otc (.mk t.dir t.mode t.data (some (a, b)) (t.names.take k ++ t.names.drop (k + 1)) t.kids) ++ B)) = Z2 at hp2 hnd2 hz2 ⊢
 have hg2 : hgt Z2 i = some (A ++ otc (.mk t.dir t.mode t.data (some (a, b)) (t.names.take k ++ t.names.drop (k + 1)) t.kids) ++ B) := hgt_perm hnd2 hp2 (by simp)
 refine Fn0 [0, 4] [] (Rn (An1 4 [(27, .ptr i (A.length + 4)), (26, .ptr i A.length), (25, .ptr i A.length), (24, .ptr i A.length)] (((1 : Nat) ≠ 0) /\ ·) ⟨(by decide), geln (t := (.mk t.dir t.mode t.data (some (a, b)) (t.names.take k ++ t.names.drop (k + 1)) t.kids)) 28 24 i 4 (.osl (2 * b + 1) 5 0 t.kids.length) (fun J => by kernel_rfl) hg2 (by kernel_rfl) rfl (Av1 3 31 [(30, .int .i64 k), (29, .int .i64 k)] (congrArg (AV.int .i64) (wn1 k (by omega))) (Ki /\ ·) ⟨rfl, ?_⟩)⟩))
 refine Bc0 1 [] 83 [.osl (2 * b + 1) 5 0 t.kids.length, .int .i64 k, .int .i64 ((k + 1 : Nat) : Int)] 32 ?_
 refine TCall.mono (del_lift (fc := otc) (X := t.kids) (Y := t.kids.take k ++ t.kids.drop (k + 1)) (E := []) (Z := Z2) (a := 2 * b + 1) trivial hz2 (hgt_perm hnd2 hp2 (by simp)) rfl (ods_flO _) (ods_flO _) (fun c hc => delT (fc := otc) otc_len t.kids k c (by omega) (by omega) hc) _) ?_
 rintro _ H1 _ _ ⟨rfl, rfl, hH1⟩
 have hH2 : H1 = hdel Z2 (2 * b + 1) ++ [(2 * b + 1, fl otc (t.kids.take k ++ t.kids.drop (k + 1)))] := hH1
 clear hH1
 obtain ⟨hp3, hnd3⟩ := del_p2 (Y := fl otc (t.kids.take k ++ t.kids.drop (k + 1))) hnd2 hp2
 have hz3 : odH (hdel Z2 (2 * b + 1) ++ [(2 * b + 1, fl otc (t.kids.take k ++ t.kids.drop (k + 1)))]) := odH_put (k := b) hz2 (ods_flO _)
 generalize hZ1 : hdel Z2 (2 * b + 1) ++ [(2 * b + 1, fl otc (t.kids.take k ++ t.kids.drop (k + 1)))] = Z3 at hH2 hp3 hnd3 hz3
 rw [hH2]; clear hH2
 clear hZ1
 have hg3 : hgt Z3 i = some (A ++ otc (.mk t.dir t.mode t.data (some (a, b)) (t.names.take k ++ t.names.drop (k + 1)) t.kids) ++ B) := hgt_perm hnd3 hp3 (by simp)
 refine Ke (An1 2 [(34, .ptr i (A.length + 4)), (33, .ptr i A.length)] (((1 : Nat) ≠ 0) /\ ·) ⟨(by decide), gesn (t := (.mk t.dir t.mode t.data (some (a, b)) (t.names.take k ++ t.names.drop (k + 1)) t.kids)) 24 i 4 (.osl (2 * b + 1) 5 0 ((t.kids.take k ++ t.kids.drop (k + 1)).length)) (.mk t.dir t.mode t.data (some (a, b)) (t.names.take k ++ t.names.drop (k + 1)) (t.kids.take k ++ t.kids.drop (k + 1))) (hset Z3 i (A ++ otc (.mk t.dir t.mode t.data (some (a, b)) (t.names.take k ++ t.names.drop (k + 1)) (t.kids.take k ++ t.kids.drop (k + 1))) ++ B)) (fun J => by kernel_rfl) hg3 (by kernel_rfl) rfl rfl rfl ?_⟩)
 have hp4 := hset_perm (ds := A ++ otc (.mk t.dir t.mode t.data (some (a, b)) (t.names.take k ++ t.names.drop (k + 1)) (t.kids.take k ++ t.kids.drop (k + 1))) ++ B) hnd3 hp3
 have hz4 : odH (hset Z3 i (A ++ otc (.mk t.dir t.mode t.data (some (a, b)) (t.names.take k ++ t.names.drop (k + 1)) (t.kids.take k ++ t.kids.drop (k + 1))) ++ B)) := odH_hset hz3 (ods_mid hz hp) hnd3
 generalize (hset Z3 i (A ++ otc (.mk t.dir t.mode t.data (some (a, b)) (t.names.take k ++ t.names.drop (k + 1)) (t.kids.take k ++ t.kids.drop (k + 1))) ++ B)) = Z4 at hp4 hz4 ⊢
 refine Gn0 [] (nk_n (Rtn (fun Z => Z) (.tup []) (fin_dc (.tup []) Z4 (List.Sublist.refl _) (by first | exact lea_refl _ | simp [lea, leas]) trivial hz4 ⟨?_, hz4⟩)))
 rw [e1]; simp only [hids]; exact hp4
 try simp only [KF] at c3
 refine Sk (Rtn (fun Z => Z) (.tup []) (fin_dc (.tup []) Z (List.Sublist.refl _) (by first | exact lea_refl _ | simp [lea, leas]) trivial hz ⟨?_, hz⟩))
 rw [fndI_no (by omega)]; simp only [hsb]; exact hp
open Go Go.Proofs
set_option maxRecDepth 100000
theorem clone_ok : ∀ (N : Nat) (t : Tr), t.W = N -> t.W < 2 ^ 40 -> DC G 41 [.agg (tcs t)] [] (ClR t) := by
 intro N; refine Nat.strongRecOn N fun N ih => ?_; intro t hN hw; rw [W_eq] at hN hw; have hks := Ws_len t.kids; have hns := wS_len t.names
 refine DC_nd fun hnd => ?_
 refine h_dc (F := [(0, .agg (tcs t))]) (ods_tcs t) trivial Tryz.func41 (by kernel_rfl) (by kernel_rfl) ?_ (by kernel_rfl)
 refine Rr (Fn2 [] [(2, .ptr 4 0), (1, .ptr 0 0)] ((4, zt) :: (0, tcs t) :: []) 8 (Rr (Fn3 [1, 2] [(3, .osl 8 5 0 0)] ((8, []) :: (4, zt) :: (0, tcs t) :: []) 12 ((0 * 5 <= 16777216) /\ ·) ⟨(by decide), Sq fun K3 hK3 => ?_⟩)))
 refine Rr (Av1 (r := .int .i64 ((t.kids.map trc).length : Nat)) (v := .int .i64 t.kids.length) 3 9 [(8, .sl 5 (t.kids.map trc)), (7, .ptr 0 4)] (by rw [List.length_map]) (((1 : Nat) ≠ 0) /\ (4 + 1 <= 5 /\ 4 < 5) /\ ·) ⟨(by decide), (by decide), Fn0 [1, 2, 3, 8, 9] [(10, .int .i64 0)] (Bl (h_ls (fun (x : Nat × List OT) => (match x with | (k, Ts) => ([(1, .ptr 0 0), (2, .ptr 4 0), (3, .osl 8 5 0 Ts.length), (8, .sl 5 (t.kids.map trc)), (9, .int .i64 t.kids.length), (10, .int .i64 k)] : Fr))) (fun (x : Nat × List OT) => (match x with | (k, Ts) => (((8, fl otc Ts) :: (4, zt) :: (0, tcs t) :: (objss Ts)) : Hp))) (fun (x : Nat × List OT) cn => (match x with | (k, Ts) => (Ts.map er = t.kids.take k /\ shps Ts /\ asms Ts /\ k <= t.kids.length) /\ cn = 12)) (fun (x : Nat × List OT) => t.kids.length - x.1) (0, []) (by kernel_rfl) ?_ ?_ ?_ ?_))⟩)
 refine ⟨?_, rfl⟩; exact ⟨rfl, trivial, trivial, Nat.zero_le _⟩
 exact ⟨by kernel_rfl, by kernel_rfl, by kernel_rfl, by kernel_rfl, by kernel_rfl, by kernel_rfl, trivial⟩
 exact (sub_c (by kernel_rfl) (sub_c (by kernel_rfl) (sub_c (by kernel_rfl) (List.Sublist.refl _))))
 rintro ⟨k, Ts⟩ n1 hI
 (try dsimp only at hI)
 obtain ⟨⟨h1, h2, h3, hk⟩, rfl⟩ := hI
 have hkl : Ts.length = k := by have := congrArg List.length h1; rw [List.length_map, tkl hk] at this; exact this
 refine Rr (Fn1 [1, 2, 3, 8, 9, 10] [(11, .bool (decide ((k : Int) < (t.kids.length : Int))))] (Ki /\ ·) ⟨rfl, Sq fun K6 hK6 => ?_⟩)
 refine Cc (decide ((k : Int) < (t.kids.length : Int))) (fun hc7 c7 => ?_) fun hc7 c7 => ?_
 try simp only [KF] at c7
 refine Sk (Jn (hK6 (Kp [1, 2, 3, 8, 9, 10] (Sq fun K8 hK8 => ?_))))
 refine Bl (Rr (Av1 1 12 [] (congrArg AV.pat (mg_trc t.kids k (by omega))) ((5 = 5 /\ (0 : Int) <= (k : Int) /\ (k : Int) < ((t.kids.map trc).length : Int)) /\ ·) ⟨⟨rfl, by omega, by rw [List.length_map]; omega⟩, Fn3 [1, 2, 3, 8, 9, 10] [(5, .ptr 12 0)] ((12, tcs (t.kids.getD k default)) :: (8, fl otc Ts) :: (4, zt) :: (0, tcs t) :: (objss Ts)) 16 ((5 <= 5 /\ 0 < 5) /\ (true = true /\ 5 = 5 /\ 0 + 5 <= 5) /\ ·) ⟨(by decide), (by decide), Rb (fun h => Bn (Jn (hK8 h))) ?_⟩⟩))
 refine Bc1 3 [(15, .agg (tcs (t.kids.getD k default))), (14, .osl 8 5 0 Ts.length)] 41 [.agg (tcs (t.kids.getD k default))] 16 ((0 + 5 <= 5 /\ 0 < 5) /\ ·) ⟨(by decide), ?_⟩
 have hW := Ws_get t.kids k (by omega)
 refine TCall.mono (cl_use (View.refl _ _) (ih _ (by omega) (t.kids.getD k default) rfl (by omega))) ?_
 rintro _ H1 _ _ ⟨rfl, T, hH1, he, hs, ha, rfl⟩
 have hH2 : H1 = ((12, tcs (t.kids.getD k default)) :: (8, fl otc Ts) :: (4, zt) :: (0, tcs t) :: objss (Ts ++ [T])) := by rw [hH1]; simp only [objss_app, objss, List.append_nil, List.cons_append]
 clear hH1; subst hH2
 refine Ke (An3 2 [(18, .osl 20 5 0 (Ts.length + 1)), (17, .osl 16 5 0 1)] ((20, apd (fl otc Ts) (Ts.length * 5) (otc T)) :: (16, otc T) :: (12, tcs (t.kids.getD k default)) :: (4, zt) :: (0, tcs t) :: (objss (Ts ++ [T]))) 24 ((1 * 5 <= 16777216) /\ (0 + 1 * 5 <= 5) /\ (5 = 5 /\ Ts.length * 5 <= (fl otc Ts).length /\ 0 < 80 /\ (Ts.length + 1) * 80 <= 140737488355328) /\ ·) ⟨(by decide), (by decide), ⟨rfl, by (first | omega | (simp only [LL, fl_len otc_len]; omega)), by decide, by (first | omega | (simp only [LL, fl_len otc_len]; omega))⟩, run_v (v' := .osl 20 5 0 ((Ts ++ [T]).length)) (push_len _ _ _ _) (run_h (cs' := fl otc (Ts ++ [T])) (push_ot Ts T) (Fn0 [1, 2, 8, 9, 10] [(3, .osl 20 5 0 ((Ts ++ [T]).length))] ?_))⟩)
 refine Rn (Av1 1 19 [] (congrArg (AV.int .i64) (wn1 k (by omega))) (Ki /\ ·) ⟨rfl, Gn0 [(10, .int .i64 ((k + 1 : Nat) : Int))] (nk_n (lsz_mk (k + 1, Ts ++ [T]) [(0, 0), (4, 4), (20, 8)] 12 [(1, .ptr 0 0), (2, .ptr 4 0), (3, .osl 20 5 0 ((Ts ++ [T]).length)), (8, .sl 5 (t.kids.map trc)), (9, .int .i64 t.kids.length), (10, .int .i64 ((k + 1 : Nat) : Int))] [(20, fl otc (Ts ++ [T])), (4, zt), (0, tcs t)] [(8, fl otc (Ts ++ [T])), (4, zt), (0, tcs t)] (objss (Ts ++ [T])) ?_ ?_ ⟨by kernel_rfl, by kernel_rfl⟩ ⟨by kernel_rfl, by kernel_rfl, by kernel_rfl, by kernel_rfl, by kernel_rfl, by kernel_rfl, trivial⟩ ⟨_, List.Perm.refl _, (List.Sublist.cons_cons _ (List.Sublist.cons _ (List.Sublist.cons _ (List.Sublist.cons_cons _ (List.Sublist.cons_cons _ (List.Sublist.refl _))))))⟩ ⟨?_, ?_⟩ ⟨rfl, .inr ⟨ods_flO _, by kernel_rfl⟩, rfl, .inl (.inr ⟨by simp only [slps, slp, go_sem, and_self], by kernel_rfl⟩), rfl, .inl (.inr ⟨by simp only [tcs, slps, slp, go_sem, and_self], by kernel_rfl⟩), trivial⟩ (by kernel_rfl) (odH_objss _)))⟩)
 (try dsimp only); omega
 refine ⟨?_, rfl⟩; exact ⟨by rw [List.map_append, h1, List.map_cons, List.map_nil, he, take_snoc t.kids k default (by omega)], shps_app.2 ⟨h2, hs, trivial⟩, asms_app.2 ⟨h3, ha, trivial⟩, by omega⟩
 simp only [slF, slp, slps, go_sem, and_self]
 kernel_rfl
 try simp only [KF] at c7
 refine Xt (Jx (Lsx (Bh (Jn (hK3 (Kp [1, 2, 3] (Rr (An3 4 [(23, .osl 16 1 0 (0 + (t.names.map (fun s => [AV.str s])).length)), (22, pth t.names), (21, .ptr 0 3), (20, .osl 12 1 0 0)] ((16, apd [] (0 * 1) ((t.names.map (fun s => [AV.str s])).flatten)) :: (8, fl otc Ts) :: (4, zt) :: (0, tcs t) :: (objss Ts)) 20 ((0 * 1 <= 16777216) /\ ((1 : Nat) ≠ 0) /\ (3 + 1 <= 5 /\ 3 < 5) /\ True /\ (1 = 1 /\ 0 * 1 <= 0 /\ 0 < 16 /\ (0 + (t.names.map (fun s => [AV.str s])).length) * 16 <= 140737488355328) /\ ·) ⟨(by decide), (by decide), (by decide), trivial, ⟨rfl, by (first | omega | (simp only [LL]; omega)), by decide, by (first | omega | (simp only [LL]; omega))⟩, run_v (v' := .osl 16 1 0 t.names.length) (by rw [Nat.zero_add, List.length_map]) (run_h (cs' := fl sc t.names) (app0_str _) ?_)⟩))))))))
 refine Fn3 [1, 2, 3] [] ((16, fl sc t.names) :: (8, fl otc Ts) :: (4, zt) :: (0, [.bool t.dir, .int .i64 t.mode, .str t.data, .osl 16 1 0 t.names.length, .sl 5 (t.kids.map trc)]) :: (objss Ts)) 20 (((1 : Nat) ≠ 0) /\ (true = true /\ 1 = 1 /\ 3 + 1 <= 5) /\ ·) ⟨(by decide), (by decide), Rr (Fn3 [1, 2] [] ((16, fl sc t.names) :: (8, fl otc Ts) :: (4, zt) :: (0, [.bool t.dir, .int .i64 t.mode, .str t.data, .osl 16 1 0 t.names.length, .osl 8 5 0 Ts.length]) :: (objss Ts)) 20 (((1 : Nat) ≠ 0) /\ (true = true /\ 1 = 1 /\ 4 + 1 <= 5) /\ ·) ⟨(by decide), (by decide), h_pm (H' := ((4, zt) :: (0, [.bool t.dir, .int .i64 t.mode, .str t.data, .osl 16 1 0 t.names.length, .osl 8 5 0 Ts.length]) :: (16, fl sc t.names) :: (8, fl otc Ts) :: (objss Ts))) (List.Perm.trans (List.Perm.cons _ (List.Perm.swap _ _ _)) (List.Perm.trans (List.Perm.cons _ (List.Perm.cons _ (List.Perm.swap _ _ _))) (List.Perm.trans (List.Perm.swap _ _ _) (List.Perm.cons _ (List.Perm.swap _ _ _))))) (h_k [1, 2] (F' := [(1, .ptr 0 0), (2, .ptr 4 0)]) (by kernel_rfl) ?_)⟩)⟩
 refine h_odd (H := [(4, zt), (0, [.bool t.dir, .int .i64 t.mode, .str t.data, .osl 16 1 0 t.names.length, .osl 8 5 0 Ts.length]), (16, fl sc t.names), (8, fl otc Ts)]) 8 (fun jk => [(1, .ptr 0 0), (2, .ptr 4 0)]) (fun jk => [(4, zt), (0, [.bool t.dir, .int .i64 t.mode, .str t.data, .osl 16 1 0 t.names.length, .osl (2 * jk + 1) 5 0 Ts.length]), (16, fl sc t.names), ((2 * jk + 1), fl otc Ts)]) (by kernel_rfl) (odH_objss Ts) (fun jk => ⟨by simp only [slF, slp, slps, go_sem, and_self], by kernel_rfl⟩) (fun jk => ⟨rfl, .inr ⟨by simp only [tcs, slps, slp, go_sem, and_self], by kernel_rfl⟩, rfl, .inr ⟨by simp only [tcs, slps, slp, go_sem, and_self], by kernel_rfl⟩, rfl, .inl ⟨ods_flS _, rfl⟩, rfl, .inl ⟨ods_flO _, rfl⟩, trivial⟩) (fun jk => ?_)
 refine h_k [1, 2] (F' := [(1, .ptr 0 0), (2, .ptr 4 0)]) (by kernel_rfl) ?_
 refine h_odd (H := [(4, zt), (0, [.bool t.dir, .int .i64 t.mode, .str t.data, .osl 16 1 0 t.names.length, .osl (2 * jk + 1) 5 0 Ts.length]), (16, fl sc t.names)]) 16 (fun jn => [(1, .ptr 0 0), (2, .ptr 4 0)]) (fun jn => [(4, zt), (0, [.bool t.dir, .int .i64 t.mode, .str t.data, .osl (2 * jn + 1) 1 0 t.names.length, .osl (2 * jk + 1) 5 0 Ts.length]), ((2 * jn + 1), fl sc t.names)]) (by kernel_rfl) ⟨by omega, ods_flO _, odH_objss Ts⟩ (fun jn => ⟨by simp only [slF, slp, slps, go_sem, and_self], by kernel_rfl⟩) (fun jn => ⟨rfl, .inr ⟨by simp only [tcs, slps, slp, go_sem, and_self], by kernel_rfl⟩, rfl, .inr ⟨by simp only [tcs, slps, slp, go_sem, and_self], by simp only [r1s, r1]; rw [nbq (show 2 * jk + 1 ≠ 16 by omega)]; rfl⟩, rfl, .inl ⟨ods_flS _, rfl⟩, trivial⟩) (fun jn => ?_)
 refine Rr (Fn3 [2] [] ((4, [.bool t.dir, .int .i64 t.mode, .str t.data, .osl (2 * jn + 1) 1 0 t.names.length, .osl (2 * jk + 1) 5 0 Ts.length]) :: (0, [.bool t.dir, .int .i64 t.mode, .str t.data, .osl (2 * jn + 1) 1 0 t.names.length, .osl (2 * jk + 1) 5 0 Ts.length]) :: (((2 * jn + 1), fl sc t.names) :: (((2 * jk + 1), fl otc Ts) :: (objss Ts)))) 20 ((0 + 5 <= 5 /\ 0 < 5) /\ (true = true /\ 5 = 5 /\ 0 + 5 <= 5) /\ ·) ⟨(by decide), (by decide), Rt1 ((0 + 5 <= 5 /\ 0 < 5) /\ ·) (.agg [.bool t.dir, .int .i64 t.mode, .str t.data, .osl (2 * jn + 1) 1 0 t.names.length, .osl (2 * jk + 1) 5 0 Ts.length]) ⟨(by decide), fin_dc (.agg (otc (.mk t.dir t.mode t.data (some (jn, jk)) t.names Ts))) (objs (.mk t.dir t.mode t.data (some (jn, jk)) t.names Ts)) ?_ ?_ (ods_otc _) (odH_objs _) ⟨_, ?_, ?_, ?_, rfl, rfl⟩⟩⟩)
 · simp only [objs, own, OT.ids_mk, OT.names_mk, OT.kids_mk]
   exact List.Sublist.cons _ (List.Sublist.cons _ (List.Sublist.refl _))
 · exact lea_refl _
 · rw [er_eq]; simp only [OT.dir_mk, OT.mode_mk, OT.data_mk, OT.names_mk, OT.kids_mk]; rw [h1, List.take_of_length_le (by omega)]; cases t; rfl
 · exact (shp_eq _).2 ⟨fun h => by simp at h, h2⟩
 · exact (asm_eq _).2 ⟨rfl, h3⟩
set_option maxRecDepth 100000
theorem blt_irr : ∀ a : Str, blt a a = false
 | [] => by simp [blt, Op.bytesLess]
 | c :: a => by
  have := blt_irr a
  simp only [blt, Op.bytesLess] at this ⊢
  simp [this]
theorem zip_take_mem {ns : List Str} {ks : List Tr} {m : Nat} {e : Str × Tr} (h : e ∈ (ns.zip ks).take m) : ∃ l, l < m /\ l < ns.length /\ e.1 = ns.getD l default := by
 obtain ⟨l, hl, he⟩ := List.mem_iff_getElem.1 h
 simp only [List.length_take, List.length_zip] at hl
 refine ⟨l, by omega, by omega, ?_⟩
 rw [<- he, List.getElem_take, List.getElem_zip]
 simp [List.getD, show l < ns.length by omega]
theorem zip_drop_mem {ns : List Str} {ks : List Tr} {m : Nat} {e : Str × Tr} (h : e ∈ (ns.zip ks).drop m) : ∃ l, m <= l /\ l < ns.length /\ e.1 = ns.getD l default := by
 obtain ⟨l, hl, he⟩ := List.mem_iff_getElem.1 h
 simp only [List.length_drop, List.length_zip] at hl
 refine ⟨m + l, by omega, by omega, ?_⟩
 rw [<- he, List.getElem_drop, List.getElem_zip]
 simp [List.getD, show m + l < ns.length by omega]
section
variable {nm : Str} {g : Bool} {x : Tr} {r : Tr -> Tr}
theorem fA1 : ∀ (l : List (Str × Tr)) (a : List Str) (b : List Tr), (∀ e ∈ l, blt e.1 nm = true) -> l.foldl (sstp nm true false x r) (a, b, false) = (a ++ l.map (·.1), b ++ l.map (·.2), false)
 | [], a, b, _ => by simp
 | e :: l, a, b, h => by
  have h1 := h e (by simp)
  have h2 : (e.1 == nm) = false := by
   cases hx : e.1 == nm
   ·rfl
   ·rw [eq_of_beq hx, blt_irr] at h1; cases h1
  have e1 : sstp nm true false x r (a, b, false) e = (a ++ [e.1], b ++ [e.2], false) := by simp [sstp, h1, h2]
  rw [List.foldl_cons, e1, fA1 l _ _ fun e' he => h e' (by simp [he])]
  simp
theorem fA2 : ∀ (l : List (Str × Tr)) (a : List Str) (b : List Tr), (∀ e ∈ l, e.1 ≠ nm) -> l.foldl (sstp nm true g x r) (a, b, true) = (a ++ l.map (·.1), b ++ l.map (·.2), true)
 | [], a, b, _ => by simp
 | e :: l, a, b, h => by
  have h2 : (e.1 == nm) = false := by simpa using h e (by simp)
  have e1 : sstp nm true g x r (a, b, true) e = (a ++ [e.1], b ++ [e.2], true) := by simp [sstp, h2]
  rw [List.foldl_cons, e1, fA2 l _ _ fun e' he => h e' (by simp [he])]
  simp
theorem fA3 : ∀ (l : List (Str × Tr)) (a : List Str) (b : List Tr), (∀ e ∈ l, e.1 ≠ nm) -> l.foldl (sstp nm true true x r) (a, b, false) = (a ++ l.map (·.1), b ++ l.map (·.2), false)
 | [], a, b, _ => by simp
 | e :: l, a, b, h => by
  have h2 : (e.1 == nm) = false := by simpa using h e (by simp)
  have e1 : sstp nm true true x r (a, b, false) e = (a ++ [e.1], b ++ [e.2], false) := by simp [sstp, h2]
  rw [List.foldl_cons, e1, fA3 l _ _ fun e' he => h e' (by simp [he])]
  simp
theorem fA4 : ∀ (l : List (Str × Tr)) (a : List Str) (b : List Tr) (c : Bool), l.foldl (sstp nm false g x r) (a, b, c) = (a ++ l.map (·.1), b ++ l.map (fun e => bif e.1 == nm then r e.2 else e.2), c)
 | [], a, b, c => by simp
 | e :: l, a, b, c => by
  have e1 : sstp nm false g x r (a, b, c) e = (a ++ [e.1], b ++ [bif e.1 == nm then r e.2 else e.2], c) := by simp [sstp]
  rw [List.foldl_cons, e1, fA4 l]
  simp
end
theorem sA_all {p0 : Str} {one g : Bool} {x : Tr} {r : Tr -> Tr} {t : Tr} : sA p0 one g x r t t.names.length = (t.names.zip t.kids).foldl (sstp p0 one g x r) ([], [], false) := by
 unfold sA
 rw [List.take_of_length_le (by simp; omega)]
theorem zip_split {t : Tr} (hl : t.names.length = t.kids.length) {j : Nat} (hj : j < t.names.length) : t.names.zip t.kids = (t.names.zip t.kids).take j ++ (t.names.getD j default, t.kids.getD j default) :: (t.names.zip t.kids).drop (j + 1) := by
 have hz : j < (t.names.zip t.kids).length := by simp; omega
 have h1 : (t.names.zip t.kids)[j] = (t.names.getD j default, t.kids.getD j default) := by
  rw [List.getElem_zip]
  simp [List.getD, hj, show j < t.kids.length by omega]
 rw [<- h1, <- List.drop_eq_getElem_cons hz, List.take_append_drop]
theorem zip_f (t : Tr) (hl : t.names.length = t.kids.length) : (t.names.zip t.kids).map (·.1) = t.names /\ (t.names.zip t.kids).map (·.2) = t.kids :=
 ⟨List.map_fst_zip (by omega), List.map_snd_zip (by omega)⟩
theorem tset_hit {t x : Tr} {nm : Str} {j : Nat} (hl : t.names.length = t.kids.length) (ha : asc t.names = true) (hj : j < t.names.length) (he : t.names.getD j default = nm) :
  tset [nm] t x false = .mk t.dir t.mode t.data t.names (t.kids.set j x) := by
 obtain ⟨z1, z2⟩ := zip_f t hl
 rw [tset, sA_all]
 rw [zip_split hl hj, List.foldl_append, List.isEmpty_nil]
 rw [fA1 _ _ _ (fun e he' => by obtain ⟨l, h1, h2, h3⟩ := zip_take_mem he'; rw [h3, <- he]; exact asc_lt ha h1 hj)]
 rw [List.foldl_cons]
 have e1 : ∀ a b, sstp nm true false x (fun k => tset [] k x false) (a, b, false) (t.names.getD j default, t.kids.getD j default) = (a ++ [nm], b ++ [x], true) := fun a b => by
  simp only [sstp, he, blt_irr, beq_self_eq_true, Bool.and_self, Bool.not_false, cond_true, Bool.and_true]
 rw [e1, fA2 _ _ _ (fun e he' => by
  obtain ⟨l, h1, h2, h3⟩ := zip_drop_mem he'
  intro h4
  have := asc_lt ha (show j < l by omega) h2
  rw [<- h3, h4, he, blt_irr] at this; cases this)]
 simp only [sE, List.map_take, List.map_drop, z1, z2, Bool.not_true, Bool.false_and, Bool.and_false, cond_false, List.nil_append]
 congr 1
 ·conv => rhs; rw [get_split t.names j hj default, he]
  simp
 ·rw [set_split _ _ (by omega)]; simp
theorem tset_new {t x : Tr} {nm : Str} {j : Nat} (hl : t.names.length = t.kids.length) (ha : asc t.names = true) (hj : j <= t.names.length) (h1 : ∀ l, l < j -> blt (t.names.getD l default) nm = true) (h2 : ∀ l, j <= l -> l < t.names.length -> blt (t.names.getD l default) nm = false)
  (h3 : j < t.names.length -> t.names.getD j default ≠ nm) :
  tset [nm] t x false = .mk t.dir t.mode t.data (t.names.take j ++ [nm] ++ t.names.drop j) (t.kids.take j ++ [x] ++ t.kids.drop j) := by
 obtain ⟨z1, z2⟩ := zip_f t hl
 rw [tset, sA_all, List.isEmpty_nil]
 rcases Nat.lt_or_ge j t.names.length with hlt | hge
 ·rw [zip_split hl hlt, List.foldl_append]
  rw [fA1 _ _ _ (fun e he' => by obtain ⟨l, q1, q2, q3⟩ := zip_take_mem he'; rw [q3]; exact h1 l q1)]
  rw [List.foldl_cons]
  have hb : (t.names.getD j default == nm) = false := by simpa using h3 hlt
  have e1 : ∀ a b, sstp nm true false x (fun k => tset [] k x false) (a, b, false) (t.names.getD j default, t.kids.getD j default) = (a ++ [nm] ++ [t.names.getD j default], b ++ [x] ++ [t.kids.getD j default], true) := fun a b => by
   have := h2 j (Nat.le_refl _) hlt
   simp only [sstp, hb, this, Bool.not_false, Bool.and_true, Bool.true_and, cond_true, Bool.false_and, cond_false]
  rw [e1, fA2 _ _ _ (fun e he' => by
   obtain ⟨l, q1, q2, q3⟩ := zip_drop_mem he'
   intro h4
   have := asc_lt ha (show j < l by omega) q2
   rw [<- q3, h4, h2 j (Nat.le_refl _) hlt] at this; cases this)]
  simp only [sE, List.map_take, List.map_drop, z1, z2, Bool.not_true, Bool.false_and, Bool.and_false, cond_false, List.nil_append]
  congr 1
  ·conv => rhs; rw [show t.names.drop j = t.names.getD j default :: t.names.drop (j + 1) by rw [List.drop_eq_getElem_cons hlt]; simp [List.getD, hlt]]
   simp
  ·have hk : j < t.kids.length := by omega
   conv => rhs; rw [show t.kids.drop j = t.kids.getD j default :: t.kids.drop (j + 1) by rw [List.drop_eq_getElem_cons hk]; simp [List.getD, hk]]
   simp
 ·rw [fA1 _ _ _ (fun e he' => by
   obtain ⟨l, q1, q2, q3⟩ := zip_drop_mem (m := 0) (by simpa using he')
   rw [q3]; exact h1 l (by omega))]
  simp only [sE, z1, z2, Bool.not_false, Bool.true_and, Bool.and_true, cond_true, List.nil_append]
  congr 1
  ·rw [List.take_of_length_le (by omega), List.drop_eq_nil_of_le (by omega)]; simp
  ·rw [List.take_of_length_le (by omega), List.drop_eq_nil_of_le (by omega)]; simp
theorem tset_gone {t x : Tr} {nm : Str} {j : Nat} (hl : t.names.length = t.kids.length) (hn : t.names.Nodup) (hj : j < t.names.length) (he : t.names.getD j default = nm) :
  tset [nm] t x true = .mk t.dir t.mode t.data (t.names.take j ++ t.names.drop (j + 1)) (t.kids.take j ++ t.kids.drop (j + 1)) := by
 obtain ⟨z1, z2⟩ := zip_f t hl
 have hne : ∀ l, l < t.names.length -> l ≠ j -> t.names.getD l default ≠ nm := by
  intro l h1 h2 h3
  rw [<- he] at h3
  simp only [List.getD, List.getElem?_eq_getElem h1, List.getElem?_eq_getElem hj, Option.getD_some] at h3
  have hp := List.pairwise_iff_getElem.1 hn
  rcases Nat.lt_or_gt_of_ne h2 with h | h
  ·exact hp l j h1 hj h h3
  ·exact hp j l hj h1 h h3.symm
 rw [tset, sA_all, List.isEmpty_nil, zip_split hl hj, List.foldl_append]
 rw [fA3 _ _ _ (fun e he' => by obtain ⟨l, q1, q2, q3⟩ := zip_take_mem he'; rw [q3]; exact hne l q2 (by omega))]
 rw [List.foldl_cons]
 have e1 : ∀ a b, sstp nm true true x (fun k => tset [] k x true) (a, b, false) (t.names.getD j default, t.kids.getD j default) = (a, b, false) := fun a b => by
  simp only [sstp, he, beq_self_eq_true, Bool.and_self, Bool.not_true, Bool.false_and, Bool.and_false, Bool.not_false, cond_true, cond_false]
 rw [e1, fA3 _ _ _ (fun e he' => by obtain ⟨l, q1, q2, q3⟩ := zip_drop_mem he'; rw [q3]; exact hne l q2 (by omega))]
 simp only [sE, List.map_take, List.map_drop, z1, z2, Bool.not_true, Bool.and_false, cond_false, List.nil_append]
theorem fnd_none {n : Str} : ∀ {l : List Str}, fnd n l = none -> n ∉ l
 | [], _ => by simp
 | m :: l, h => by
  rw [fnd] at h
  cases hm : m == n with
  | true => rw [hm, if_pos rfl] at h; cases h
  | false =>
   rw [hm] at h
   simp only [Bool.false_eq_true, if_false, Option.map_eq_none_iff] at h
   have := fnd_none h
   have h2 : ¬ n = m := fun e => by rw [e, beq_self_eq_true] at hm; cases hm
   simp [h2, this]
theorem fnd_some {n : Str} : ∀ {l : List Str} {k : Nat}, fnd n l = some k -> l.getD k default = n
 | [], k, h => by cases h
 | m :: l, k, h => by
  rw [fnd] at h
  cases hm : m == n with
  | true => rw [hm, if_pos rfl] at h; cases h; exact eq_of_beq hm
  | false =>
   rw [hm] at h
   simp only [Bool.false_eq_true, if_false, Option.map_eq_some_iff] at h
   obtain ⟨j, h1, rfl⟩ := h
   have := fnd_some (l := l) h1
   simpa using this
theorem nd_ne {l : List Str} (hn : l.Nodup) {i j : Nat} (hi : i < l.length) (hj : j < l.length) (h : i ≠ j) : l.getD i default ≠ l.getD j default := by
 intro h3
 simp only [List.getD, List.getElem?_eq_getElem hi, List.getElem?_eq_getElem hj, Option.getD_some] at h3
 have hp := List.pairwise_iff_getElem.1 hn
 rcases Nat.lt_or_gt_of_ne h with h | h
 ·exact hp i j hi hj h h3
 ·exact hp j i hj hi h h3.symm
theorem asc_nd {l : List Str} (h : asc l = true) : l.Nodup := by
 refine List.pairwise_iff_getElem.2 fun i j hi hj hij e => ?_
 have := asc_lt h hij hj
 simp only [List.getD, List.getElem?_eq_getElem hi, List.getElem?_eq_getElem hj, Option.getD_some] at this
 rw [e, blt_irr] at this; cases this
theorem tset_deep {t x : Tr} {n : Str} {p : List Str} {g : Bool} (hl : t.names.length = t.kids.length) (hn : t.names.Nodup) (hp : p ≠ []) :
  tset (n :: p) t x g = match fnd n t.names with | some k => .mk t.dir t.mode t.data t.names (t.kids.set k (tset p (t.kids.getD k default) x g)) | none => t := by
 obtain ⟨z1, z2⟩ := zip_f t hl
 have hpe : p.isEmpty = false := by cases p with | nil => exact absurd rfl hp | cons _ _ => rfl
 rw [tset, sA_all, hpe, fA4, z1]
 simp only [sE, Bool.false_and, cond_false, List.nil_append]
 cases hf : fnd n t.names with
 | none =>
  dsimp only
  have h0 := fnd_none hf
  have : (t.names.zip t.kids).map (fun e => bif e.1 == n then tset p e.2 x g else e.2) = t.kids := by
   refine Eq.trans (List.map_congr_left fun e he => ?_) z2
   have h1 : e.1 ∈ t.names := (List.of_mem_zip he).1
   have : (e.1 == n) = false := by
    cases hx : e.1 == n
    ·rfl
    ·rw [eq_of_beq hx] at h1; exact absurd h1 h0
   rw [this]; rfl
  rw [this]; cases t; rfl
 | some k =>
  dsimp only
  have hk := fnd_lt hf
  have hg := fnd_some hf
  have : (t.names.zip t.kids).map (fun e => bif e.1 == n then tset p e.2 x g else e.2) = t.kids.set k (tset p (t.kids.getD k default) x g) := by
   refine List.ext_getElem (by simp [hl]) fun i h1 h2 => ?_
   simp only [List.length_map, List.length_zip] at h1
   rw [List.getElem_map, List.getElem_zip, List.getElem_set]
   rcases Nat.decEq k i with hne | heq
   ·rw [if_neg hne]
    have := nd_ne hn (show i < t.names.length by omega) hk (by omega)
    rw [hg] at this
    simp only [List.getD, List.getElem?_eq_getElem (show i < t.names.length by omega), Option.getD_some] at this
    rw [show (t.names[i] == n) = false by simpa using this]; rfl
   ·subst heq
    rw [if_pos rfl]
    simp only [List.getD, List.getElem?_eq_getElem hk, Option.getD_some] at hg
    rw [hg, beq_self_eq_true]
    simp [List.getD, show k < t.kids.length by omega]
  rw [this]
mutual
def tnd : Tr -> Prop | .mk _ _ _ ns ks => ns.Nodup /\ tnds ks
def tnds : List Tr -> Prop | [] => True | t :: ts => tnd t /\ tnds ts
end
theorem tnd_eq (t : Tr) : tnd t ↔ t.names.Nodup /\ tnds t.kids := by cases t; simp only [tnd, Tr.names, Tr.kids]
theorem tnds_app : ∀ {a b : List Tr}, tnds (a ++ b) ↔ tnds a /\ tnds b
 | [], b => by simp [tnds]
 | x :: a, b => by simp only [List.cons_append, tnds, tnds_app (a := a), and_assoc]
theorem tnds_get : ∀ {ks : List Tr}, tnds ks -> ∀ {k : Nat}, k < ks.length -> tnd (ks.getD k default)
 | [], _, k, hk => by simp at hk
 | t :: ts, h, 0, _ => h.1
 | t :: ts, h, k + 1, hk => tnds_get (ks := ts) h.2 (by simpa using hk)
theorem tnds_set : ∀ {ks : List Tr}, tnds ks -> ∀ {k : Nat} {y : Tr}, tnd y -> tnds (ks.set k y)
 | [], _, k, y, _ => by simp [tnds]
 | t :: ts, h, 0, y, hy => ⟨hy, h.2⟩
 | t :: ts, h, k + 1, y, hy => ⟨h.1, tnds_set (ks := ts) h.2 hy⟩
mutual
theorem tnd_parts : ∀ (t : Tr) (n : Int), partsOk t n = true -> tnd t
 | .mk d m s ns ks, n, h => by
  simp only [partsOk, Bool.and_eq_true] at h
  refine ⟨?_, tnds_parts ks (n + 1) h.2.2⟩
  have h1 := h.1
  simp only [plainOk, Tr.names_mk, Tr.kids_mk, Tr.dir_mk, Tr.data_mk, Bool.and_eq_true, decide_eq_true_eq] at h1
  have h7 := h1.2.2
  cases d with
  | true => simp only [if_true, Bool.and_eq_true] at h7; exact asc_nd h7.2.1
  | false =>
   simp only [Bool.false_eq_true, if_false, Bool.and_eq_true] at h7
   have h8 : ns = [] := List.eq_nil_of_length_eq_zero (of_decide_eq_true h7.2)
   subst h8; exact List.nodup_nil
theorem tnds_parts : ∀ (ks : List Tr) (n : Int), partsOks ks n = true -> tnds ks
 | [], _, _ => trivial
 | k :: ks, n, h => by
  simp only [partsOks, Bool.and_eq_true] at h
  exact ⟨tnd_parts k n h.1, tnds_parts ks n h.2⟩
end
theorem tnd_ok {t : Tr} (h : treeOk t = true) : tnd t := by
 simp only [treeOk, Bool.and_eq_true] at h
 exact tnd_parts t 0 h.2.1
theorem parts_tat : ∀ {p : List Str} {t x : Tr} {n : Int}, partsOk t n = true -> tat t p = some x -> ∃ m, partsOk x m = true
 | [], t, x, n, h, he => by simp only [tat, Option.some.injEq] at he; exact ⟨n, he ▸ h⟩
 | m :: p, t, x, n, h, he => by
  rw [tat_cons] at he
  rw [partsOk_eq] at h
  simp only [Bool.and_eq_true] at h
  cases hf : fnd m t.names with
  | none => rw [hf] at he; cases he
  | some k =>
   rw [hf] at he
   have hl : t.names.length = t.kids.length := by have := h.1; simp only [plainOk, Bool.and_eq_true, decide_eq_true_eq] at this; exact this.2.1
   have hk := fnd_lt hf
   exact parts_tat (all_getD _ t.kids k _ (by omega) h.2.2) he
theorem asc_tat {p : List Str} {t x : Tr} (h : treeOk t = true) (he : tat t p = some x) : asc x.names = true := by
 simp only [treeOk, Bool.and_eq_true] at h
 obtain ⟨m, hm⟩ := parts_tat h.2.1 he
 rw [partsOk_eq] at hm
 simp only [Bool.and_eq_true] at hm
 have h1 := hm.1
 simp only [plainOk, Bool.and_eq_true, decide_eq_true_eq] at h1
 have h7 := h1.2.2
 cases hd : x.dir with
 | true => rw [hd] at h7; simp only [if_true, Bool.and_eq_true] at h7; exact h7.2.1
 | false =>
  rw [hd] at h7
  simp only [Bool.false_eq_true, if_false, Bool.and_eq_true] at h7
  have h8 : x.names = [] := List.eq_nil_of_length_eq_zero (of_decide_eq_true h7.2)
  rw [h8]; rfl
set_option maxRecDepth 100000
theorem er_mk (d : Bool) (m : Int) (s : Str) (i : Option (Nat × Nat)) (ns : List Str) (ks : List OT) : er (.mk d m s i ns ks) = .mk d m s ns (ks.map er) := by simp only [er, ers_map]
theorem er_names (t : OT) : (er t).names = t.names := by rw [er_eq]; rfl
theorem er_kids (t : OT) : (er t).kids = t.kids.map er := by rw [er_eq]; rfl
theorem er_dir (t : OT) : (er t).dir = t.dir := by rw [er_eq]; rfl
theorem er_mode (t : OT) : (er t).mode = t.mode := by rw [er_eq]; rfl
theorem er_data (t : OT) : (er t).data = t.data := by rw [er_eq]; rfl
theorem getD_er' (ks : List OT) (k : Nat) : (ks.map er).getD k default = er (ks.getD k default) := getD_er ks k
theorem orep_tset {x : Tr} {g : Bool} {nm : Str} : ∀ (q : List Str) (T u u' : OT), owf T -> tnd (er T) -> oat T q = some u -> er u' = tset [nm] (er u) x g -> er (orep T q u') = tset (q ++ [nm]) (er T) x g
 | [], T, u, u', _, _, he, hu => by simp only [oat, Option.some.injEq] at he; subst he; exact hu
 | n :: q, T, u, u', hw, hn, he, hu => by
  rw [oat] at he
  rw [orep, List.cons_append, tset_deep (wf_len hw) ((tnd_eq _).1 hn).1 (by simp), er_names]
  cases hf : fnd n T.names with
  | none => exact absurd he (by rw [hf]; simp)
  | some k =>
   rw [hf] at he
   have hk : k < T.kids.length := by rw [<- owf_len hw]; exact fnd_lt hf
   have hn2 : tnd (er (T.kids.getD k default)) := by
    have := tnds_get ((tnd_eq _).1 hn).2 (k := k) (by rw [er_kids]; simpa using hk)
    rwa [er_kids, getD_er'] at this
   dsimp only
   rw [er_mk, List.map_set, orep_tset q _ u u' (owf_kid hw hk) hn2 he hu, er_kids, getD_er', er_dir, er_mode, er_data]
theorem orep_snoc : ∀ (q : List Str) (T u y : OT) (nm : Str) (k : Nat), oat T q = some u -> fnd nm u.names = some k -> orep T (q ++ [nm]) y = orep T q (.mk u.dir u.mode u.data u.ids u.names (u.kids.set k y))
 | [], T, u, y, nm, k, he, hk => by
  simp only [oat, Option.some.injEq] at he; subst he
  simp only [List.nil_append, orep, hk]
 | n :: q, T, u, y, nm, k, he, hk => by
  rw [oat] at he
  rw [List.cons_append, orep, orep]
  cases hf : fnd n T.names with
  | none => rfl
  | some j =>
   rw [hf] at he
   dsimp only
   rw [orep_snoc q _ u y nm k he hk]
theorem shps_set : ∀ {ks : List OT}, shps ks -> ∀ {k : Nat} {y : OT}, shp y -> shps (ks.set k y)
 | [], _, k, y, _ => by simp [shps]
 | t :: ts, h, 0, y, hy => ⟨hy, h.2⟩
 | t :: ts, h, k + 1, y, hy => ⟨h.1, shps_set (ks := ts) h.2 hy⟩
theorem asms_set : ∀ {ks : List OT}, asms ks -> ∀ {k : Nat} {y : OT}, asm y -> asms (ks.set k y)
 | [], _, k, y, _ => by simp [asms]
 | t :: ts, h, 0, y, hy => ⟨hy, h.2⟩
 | t :: ts, h, k + 1, y, hy => ⟨h.1, asms_set (ks := ts) h.2 hy⟩
theorem orep_shp : ∀ {q : List Str} {T u u' : OT}, owf T -> shp T -> oat T q = some u -> shp u' -> shp (orep T q u')
 | [], T, u, u', _, _, _, h => h
 | n :: q, T, u, u', hw, hs, he, h => by
  rw [oat] at he
  rw [orep]
  cases hf : fnd n T.names with
  | none => exact hs
  | some k =>
   rw [hf] at he
   have hk : k < T.kids.length := by rw [<- owf_len hw]; exact fnd_lt hf
   have h1 := (shp_eq T).1 hs
   refine (shp_eq _).2 ⟨fun hi => ?_, shps_set h1.2 (orep_shp (owf_kid hw hk) (shps_get h1.2 hk) he h)⟩
   have := (h1.1 hi).2
   rw [this] at hk; simp at hk
theorem orep_asm : ∀ {q : List Str} {T u u' : OT}, owf T -> asm T -> oat T q = some u -> asm u' -> asm (orep T q u')
 | [], T, u, u', _, _, _, h => h
 | n :: q, T, u, u', hw, hs, he, h => by
  rw [oat] at he
  rw [orep]
  cases hf : fnd n T.names with
  | none => exact hs
  | some k =>
   rw [hf] at he
   have hk : k < T.kids.length := by rw [<- owf_len hw]; exact fnd_lt hf
   have h1 := (asm_eq T).1 hs
   exact (asm_eq _).2 ⟨h1.1, asms_set h1.2 (orep_asm (owf_kid hw hk) (asms_get h1.2 hk) he h)⟩
theorem orep_tnd : ∀ {q : List Str} {T u u' : OT}, owf T -> tnd (er T) -> oat T q = some u -> tnd (er u') -> tnd (er (orep T q u'))
 | [], T, u, u', _, _, _, h => h
 | n :: q, T, u, u', hw, hs, he, h => by
  rw [oat] at he
  rw [orep]
  cases hf : fnd n T.names with
  | none => exact hs
  | some k =>
   rw [hf] at he
   have hk : k < T.kids.length := by rw [<- owf_len hw]; exact fnd_lt hf
   have h1 := (tnd_eq _).1 hs
   rw [er_names, er_kids] at h1
   have h2 := tnds_get h1.2 (k := k) (by simpa using hk)
   rw [getD_er'] at h2
   rw [er_mk, List.map_set]
   exact (tnd_eq _).2 ⟨h1.1, tnds_set h1.2 (orep_tnd (owf_kid hw hk) h2 he h)⟩
theorem osm_W : ∀ {B : Nat} (t : OT), (er t).W <= B -> osm B t
 | B, .mk d m s i ns ks, h => by
  simp only [er, Tr.W] at h
  have := wS_len ns
  refine ⟨by omega, osms_W ks (by omega)⟩
where osms_W : ∀ {B : Nat} (ks : List OT), Tr.Ws (ers ks) <= B -> osms B ks
 | B, [], _ => trivial
 | B, t :: ts, h => by
  simp only [ers, Tr.Ws] at h
  exact ⟨osm_W t (by omega), osms_W ts (by omega)⟩
section
variable {Z W : Hp} {r : Nat} {A0 B0 : List AV} {T : OT}
def Lies' (Z : Hp) (r : Nat) (A0 B0 : List AV) (T : OT) (W : Hp) : Prop := Z.Perm ((r, A0 ++ otc T ++ B0) :: (objs T ++ W)) /\ odH Z
theorem kidL {q : List Str} {u : OT} {i o : Nat} (nm : Str) (hL : Lies Z r A0 B0 T W) (hu : oat T q = some u) (ho : opos T r A0.length q = some (i, o)) :
  DC G 63 [.ptr i o, .str nm] Z (fun r' Z' => Z' = Z /\ r' = oad (opos T r A0.length (q ++ [nm]))) := by
 obtain ⟨i', A, B, Wo, q1, q2, q3, q4, q5, q6⟩ := hL.foc hu
 rw [ho] at q1; cases q1
 refine (kid_ok (t := u) nm hL.odd q2 q3 q4 (by omega)).mono ?_
 rintro _ _ ⟨rfl, rfl⟩
 refine ⟨rfl, ?_⟩
 rw [okid_oad u nm i A.length, opos_snoc, ho, hu]
theorem objss_set {ks : List OT} {k : Nat} {x : OT} (hk : k < ks.length) (hx : objs x = objs (ks.getD k default)) : objss (ks.set k x) = objss ks := by
 conv => rhs; rw [get_split ks k hk default]
 rw [set_split ks k hk, objss_app, objss_app]
 simp only [objss, hx]
theorem putL_hit {q : List Str} {u x : OT} {i o k a b : Nat} (nm : Str) (hL : Lies Z r A0 B0 T W) (hu : oat T q = some u) (ho : opos T r A0.length q = some (i, o)) (hids : u.ids = some (a, b)) (hasc : asc u.names = true) (hk : fnd nm u.names = some k) (hx : objs x = objs (u.kids.getD k default)) :
  DC G 64 [.ptr i o, .str nm, .agg (otc x)] Z (fun _ Z' => Lies' Z' r A0 B0 (orep T (q ++ [nm]) x) W) := by
 obtain ⟨i', A, B, Wo, q1, q2, q3, q4, q5, q6⟩ := hL.foc hu
 rw [ho] at q1; cases q1
 refine (put_ok (t := u) nm x a b hids hL.odd q2 q3 q4 q5 hasc).mono ?_
 rintro _ Z' ⟨t', hp, hz, h⟩
 have hkl := fnd_lt hk
 have hkn := fnd_some hk
 have ht' : t' = .mk u.dir u.mode u.data u.ids u.names (u.kids.set k x) := by
  rcases h with ⟨j, h1, h2, h3⟩ | ⟨j, _, _, h1, h2, h3, h4, _⟩
  ·have : j = k := by
    rcases Nat.decEq j k with hne | heq
    ·exact absurd (by rw [h2, hkn]) (nd_ne (asc_nd hasc) h1 hkl hne)
    ·exact heq
   rw [h3, this]
  ·exfalso
   rcases Nat.lt_trichotomy k j with hlt | heq | hgt
   ·have := h2 k hlt; rw [hkn, blt_irr] at this; cases this
   ·subst heq; exact h4 hkl hkn
   ·have := asc_lt hasc hgt hkl
    rw [hkn, h3 j (Nat.le_refl _) (by omega)] at this; cases this
 refine ⟨?_, hz⟩
 rw [orep_snoc q T u x nm k hu hk]
 rw [ht'] at hp
 refine hp.trans ((q6 _).trans ?_).symm
 rw [objs_eq]
 simp only [OT.kids_mk]
 rw [objss_set (by omega) hx, <- List.append_assoc (own _)]
theorem putL_new {q : List Str} {u x : OT} {i o a b : Nat} {W' : Hp} (nm : Str) (hL : Lies Z r A0 B0 T W) (hu : oat T q = some u) (ho : opos T r A0.length q = some (i, o)) (hids : u.ids = some (a, b)) (hasc : asc u.names = true) (hk : fnd nm u.names = none) (hW : W.Perm (objs x ++ W')) :
  DC G 64 [.ptr i o, .str nm, .agg (otc x)] Z (fun _ Z' => ∃ (j k k' : Nat) (u' : OT), j <= u.names.length /\ u' = .mk u.dir u.mode u.data (some (k, k')) (u.names.take j ++ [nm] ++ u.names.drop j) (u.kids.take j ++ [x] ++ u.kids.drop j) /\
   er u' = tset [nm] (er u) (er x) false /\ Lies' Z' r A0 B0 (orep T q u') W') := by
 obtain ⟨i', A, B, Wo, q1, q2, q3, q4, q5, q6⟩ := hL.foc hu
 rw [ho] at q1; cases q1
 refine (put_ok (t := u) nm x a b hids hL.odd q2 q3 q4 q5 hasc).mono ?_
 rintro _ Z' ⟨t', hp, hz, h⟩
 rcases h with ⟨j, h1, h2, h3⟩ | ⟨j, k, k', h1, h2, h3, h4, h5⟩
 ·exact absurd (by rw [<- h2]; simp [List.getD, h1]) (fnd_none hk)
 ·refine ⟨j, k, k', t', h1, h5, ?_, ?_, hz⟩
  ·rw [h5, tset_new (by rw [er_names, er_kids, List.length_map]; exact q4) (by rw [er_names]; exact hasc) (by rw [er_names]; exact h1) (by rw [er_names]; exact h2) (by rw [er_names]; exact h3) (by rw [er_names]; exact h4)]
   rw [er_mk, er_names, er_kids, er_dir, er_mode, er_data]
   simp only [List.map_append, List.map_take, List.map_drop, List.map_cons, List.map_nil]
  ·have e1 : (objs t').Perm (own t' ++ (objs x ++ objss u.kids)) := by
    rw [objs_eq]
    refine List.Perm.append_left _ ?_
    rw [h5]; simp only [OT.kids_mk]
    rw [List.append_assoc, objss_app, objss_app]
    conv => rhs; rw [<- List.take_append_drop j u.kids, objss_app]
    simp only [objss, List.append_nil]
    rw [<- List.append_assoc, <- List.append_assoc]
    exact List.perm_append_comm.append_right _
   have e2 := q6 t'
   refine (List.perm_append_right_iff (objs x)).1 ?_
   have e3 : (((r, A0 ++ otc (orep T q t') ++ B0) :: (objs (orep T q t') ++ W')) ++ objs x).Perm ((r, A0 ++ otc (orep T q t') ++ B0) :: (objs (orep T q t') ++ W)) := by
    rw [List.cons_append, List.append_assoc (objs (orep T q t'))]
    refine List.Perm.cons _ (List.Perm.append_left _ ?_)
    exact List.perm_append_comm.trans hW.symm
   refine List.Perm.trans ?_ e3.symm
   refine List.Perm.trans ?_ e2.symm
   refine (hp.append_right (objs x)).trans ?_
   rw [List.cons_append]
   refine List.Perm.cons _ ?_
   refine List.Perm.trans ?_ (e1.append_right Wo).symm
   simp only [List.append_assoc]
   refine List.Perm.append_left _ ?_
   rw [<- List.append_assoc (objss u.kids)]
   exact List.perm_append_comm
theorem dropL {q : List Str} {u : OT} {i o k a b : Nat} (nm : Str) (hL : Lies Z r A0 B0 T W) (hu : oat T q = some u) (ho : opos T r A0.length q = some (i, o)) (hids : u.ids = some (a, b)) (hk : fnd nm u.names = some k) :
  DC G 67 [.ptr i o, .str nm] Z (fun _ Z' => ∃ W', Lies' Z' r A0 B0 (orep T q (.mk u.dir u.mode u.data u.ids (u.names.take k ++ u.names.drop (k + 1)) (u.kids.take k ++ u.kids.drop (k + 1)))) W') := by
 obtain ⟨i', A, B, Wo, q1, q2, q3, q4, q5, q6⟩ := hL.foc hu
 rw [ho] at q1; cases q1
 refine (drop_ok (t := u) nm a b hids hL.odd q2 q3 q4 q5).mono ?_
 rintro _ Z' ⟨hp, hz⟩
 rw [hk] at hp
 dsimp only at hp
 have hkl : k < u.kids.length := by rw [<- q4]; exact fnd_lt hk
 refine ⟨W ++ objs (u.kids.getD k default), ?_, hz⟩
 generalize hu' : OT.mk u.dir u.mode u.data u.ids (u.names.take k ++ u.names.drop (k + 1)) (u.kids.take k ++ u.kids.drop (k + 1)) = u' at hp ⊢
 have e1 : (objss u.kids).Perm (objss u'.kids ++ objs (u.kids.getD k default)) := by
  conv => lhs; rw [get_split u.kids k hkl default]
  rw [<- hu', OT.kids_mk, objss_app, objss_app]
  simp only [objss, List.append_assoc]
  exact List.Perm.append_left _ List.perm_append_comm
 have e2 : ((r, A0 ++ otc (orep T q u') ++ B0) :: (objs (orep T q u') ++ (W ++ objs (u.kids.getD k default)))).Perm (((i, A ++ otc u' ++ B) :: (objs u' ++ Wo)) ++ objs (u.kids.getD k default)) := by
  have := (q6 u').append_right (objs (u.kids.getD k default))
  rwa [List.cons_append, List.append_assoc (objs (orep T q u'))] at this
 refine List.Perm.trans ?_ e2.symm
 refine hp.trans ?_
 rw [List.cons_append]
 refine List.Perm.cons _ ?_
 rw [objs_eq u']
 simp only [List.append_assoc]
 refine List.Perm.append_left _ ?_
 refine (e1.append_right Wo).trans ?_
 rw [List.append_assoc]
 exact List.Perm.append_left _ List.perm_append_comm
end
open Go Go.Proofs
set_option maxRecDepth 100000
theorem zrs_u8 (k : Nat) : zrs k [.int .u8 0] = ints (List.replicate k 0) := by
  simp only [zrs, ints]
  induction k with
  | zero => rfl
  | succ k ih => rw [List.replicate_succ, List.replicate_succ, List.flatten_cons, ih]; rfl
def szd (s : Str) (n : Int) : Str := if n <= (s.length : Int) then s.take n.toNat else s ++ List.replicate (n - (s.length : Int)).toNat 0
theorem szd_len {s : Str} {n : Int} (h : 0 <= n) : (szd s n).length = n.toNat := by
  unfold szd; split <;> simp <;> omega
def wrt (s : Str) (a : Int) (d : Str) : Str :=
  (fun s1 => (fun o => if (o.length : Int) < (s1.length : Int) then o ++ s1.drop o.length else o) (s1.take a.toNat ++ d)) (if (s.length : Int) < a then szd s a else s)
theorem modeOk_ok (n : Int) : PE G 59 [.int .i64 n] (.bool (inb n 0 7)) := by
 refine Pe Tryz.func59 ?_
 refine Rr (Fn0 [0] [] (Rr (Pc0 2 [(3, .int .i64 n)] 4 (within_ok n 0 7) (Fn0 [] [(2, .bool (inb n 0 7))] ?_))))
 refine Rt (.bool (inb n 0 7)) ?_
 exact fin_lea (lea_refl _)
theorem sized_ok (s : Str) (n : Int) (h0 : 0 <= n) (hn : n < 2 ^ 40) (hs : s.length < 2 ^ 40) : PE G 66 [.str s, .int .i64 n] (.str (szd s n)) := by
 refine Pe Tryz.func66 ?_
 refine Rr (Fn0 [0, 1] [] (Sq fun K2 hK2 => ?_))
 refine Rr (Cn1 (decide ((n : Int) <= ((s.length : Int) : Int))) [0, 1] [] (Ki /\ ·) ⟨rfl, fun hc4 c4 => ?_, fun hc4 c4 => ?_⟩)
 try simp only [KF] at c4
 refine Rr (Fn1 [] [(4, .str (s.take n.toNat))] ((0 <= (0 : Int) /\ (0 : Int) <= n /\ n <= (s.length : Int)) /\ ·) ⟨⟨by omega, by omega, by omega⟩, Rt (.str (s.take n.toNat)) (fin_lea ?_)⟩)
 unfold szd
 rw [if_pos (by omega)]; exact lea_refl _
 try simp only [KF] at c4
 refine Sk (Jn (hK2 (Kp [0, 1] ?_)))
 have hrl : (List.replicate (n - (s.length : Int)).toNat (0 : UInt8)).length = (n - (s.length : Int)).toNat := List.length_replicate
 refine Rr (Av1 (r := .int .i64 (IntKind.i64.wrap (n - (s.length : Int)))) (v := .int .i64 (n - (s.length : Int))) 5 16 [(15, .int .i64 s.length), (14, .str s), (13, .int .i64 n), (12, .str s)] (congrArg (AV.int .i64) (wrap64 (by omega) (by omega))) (Ki /\ ·) ⟨rfl, An3 1 [(17, .osl 0 1 0 (n - (s.length : Int)).toNat)] [(0, zrs ((n - (s.length : Int)).toNat) [.int .u8 0])] 4 (((n - (s.length : Int)) = (n - (s.length : Int)) /\ (0 : Int) <= (n - (s.length : Int)) /\ (n - (s.length : Int)).toNat * 1 <= 140737488355328 /\ (n - (s.length : Int)) <= 140737488355328) /\ ·) ⟨⟨rfl, by omega, by omega, by omega⟩, run_v (v' := .osl 0 1 0 ((List.replicate (n - (s.length : Int)).toNat (0 : UInt8)).length)) (by rw [List.length_replicate]) (run_h (cs' := ints (List.replicate (n - (s.length : Int)).toNat (0 : UInt8))) (zrs_u8 _) ?_)⟩⟩)
 refine Av1 (r := .str ((((ints (List.replicate (n - (s.length : Int)).toNat (0 : UInt8))).drop 0).take (List.replicate (n - (s.length : Int)).toNat (0 : UInt8)).length).map unu)) (v := .str (List.replicate (n - (s.length : Int)).toNat (0 : UInt8))) 1 18 [] (congrArg AV.str (unu_ints _)) (fun Z => (1 = 1 /\ 0 + (List.replicate (n - (s.length : Int)).toNat (0 : UInt8)).length <= (ints (List.replicate (n - (s.length : Int)).toNat (0 : UInt8))).length /\ allu (((ints (List.replicate (n - (s.length : Int)).toNat (0 : UInt8))).drop 0).take (List.replicate (n - (s.length : Int)).toNat (0 : UInt8)).length)) /\ Z) ⟨⟨rfl, by rw [ints_len]; omega, allu_ints _⟩, Fn1 [] [(4, .str (s ++ (List.replicate (n - (s.length : Int)).toNat (0 : UInt8))))] ((s.length + (List.replicate (n - (s.length : Int)).toNat (0 : UInt8)).length <= 9223372036854775807) /\ ·) ⟨(by omega), Rt (.str (s ++ (List.replicate (n - (s.length : Int)).toNat (0 : UInt8)))) (fin_lea ?_)⟩⟩
 unfold szd
 rw [if_neg (by omega)]; exact lea_refl _
theorem written_ok (s : Str) (a : Int) (d : Str) (h0 : 0 <= a) (ha : a < 2 ^ 40) (hs : s.length < 2 ^ 40) (hd : d.length < 2 ^ 40) : PE G 65 [.str s, .int .i64 a, .str d] (.str (wrt s a d)) := by
 refine Pe Tryz.func65 ?_
 refine Rr (Fn0 [0, 1, 2] [] (Sq fun K2 hK2 => ?_))
 refine Rr (Cn1 (decide ((s.length : Int) < a)) [0, 1, 2] [] (Ki /\ ·) ⟨rfl, fun hc4 c4 => ?_, fun hc4 c4 => ?_⟩)
 try simp only [KF] at c4
 refine Rb (fun h => Jn (hK2 h)) ?_
 have hzl := szd_len (s := s) h0
 refine Pc0 3 [(13, .int .i64 a), (12, .str s)] 14 (sized_ok s a (by omega) (by omega) (by omega)) (Fn0 [1, 2] [(0, .str (szd s a))] ?_)
 have hzl := szd_len (s := s) h0; have htk : (s.take a.toNat).length <= s.length := (by rw [List.length_take]; omega); have htk2 : ((szd s a).take a.toNat).length <= (szd s a).length := (by rw [List.length_take]; omega)
 refine Rr (Fn1 [0] [(7, .str (((szd s a).take a.toNat) ++ d))] ((0 <= (0 : Int) /\ (0 : Int) <= a /\ a <= ((szd s a).length : Int)) /\ (((szd s a).take a.toNat).length + d.length <= 9223372036854775807) /\ ·) ⟨⟨by omega, by omega, by omega⟩, (by omega), Sq fun K6 hK6 => ?_⟩)
 have hlt1 : (s.take a.toNat ++ d).length = (s.take a.toNat).length + d.length := List.length_append; have hlt2 : ((szd s a).take a.toNat ++ d).length = ((szd s a).take a.toNat).length + d.length := List.length_append; have hdr : (s.drop (s.take a.toNat ++ d).length).length <= s.length := by rw [List.length_drop]; omega
 have hdr2 : ((szd s a).drop ((szd s a).take a.toNat ++ d).length).length <= (szd s a).length := by rw [List.length_drop]; omega
 refine Rr (Cn1 (decide ((((((szd s a).take a.toNat) ++ d).length : Nat) : Int) < ((szd s a).length : Int))) [0, 7] [] (Ki /\ ·) ⟨rfl, fun hc8 c8 => ?_, fun hc8 c8 => ?_⟩)
 try simp only [KF] at c8
 refine Rb (fun h => Jn (hK6 h)) (Av1 (r := .str (((szd s a).take ((szd s a).length)).drop ((((szd s a).take a.toNat) ++ d).length))) (v := .str ((szd s a).drop ((((szd s a).take a.toNat) ++ d).length))) 5 29 [(28, .int .i64 (((((szd s a).take a.toNat) ++ d).length : Nat) : Int)), (27, .str (((szd s a).take a.toNat) ++ d)), (26, .str (szd s a)), (25, .str (((szd s a).take a.toNat) ++ d))] (congrArg AV.str (congrArg (List.drop _) List.take_length)) (fun Z => (0 <= ((((((szd s a).take a.toNat) ++ d).length : Nat) : Int) : Int) /\ ((((((szd s a).take a.toNat) ++ d).length : Nat) : Int) : Int) <= ((szd s a).length : Int) /\ ((szd s a).length : Int) <= ((szd s a).length : Int)) /\ Z) ⟨⟨by omega, by omega, by omega⟩, Fn1 [] [(7, .str ((((szd s a).take a.toNat) ++ d) ++ ((szd s a).drop ((((szd s a).take a.toNat) ++ d).length))))] (fun Z => ((((szd s a).take a.toNat) ++ d).length + ((szd s a).drop ((((szd s a).take a.toNat) ++ d).length)).length <= 9223372036854775807) /\ Z) ⟨(by omega), Rr (Fn0 [] [(6, .str ((((szd s a).take a.toNat) ++ d) ++ ((szd s a).drop ((((szd s a).take a.toNat) ++ d).length))))] ?_)⟩⟩)
 refine Rt (.str ((((szd s a).take a.toNat) ++ d) ++ ((szd s a).drop ((((szd s a).take a.toNat) ++ d).length)))) (fin_lea ?_)
 unfold wrt
 rw [show (if (s.length : Int) < a then szd s a else s) = szd s a from if_pos (by omega)]
 dsimp only
 rw [if_pos (by omega)]
 exact lea_refl _
 try simp only [KF] at c8
 refine Sk (Jn (hK6 (Kp [7] (Rr (Fn0 [] [(6, .str (((szd s a).take a.toNat) ++ d))] (Rt (.str (((szd s a).take a.toNat) ++ d)) (fin_lea ?_)))))))
 unfold wrt
 rw [show (if (s.length : Int) < a then szd s a else s) = szd s a from if_pos (by omega)]
 dsimp only
 rw [if_neg (by omega)]
 exact lea_refl _
 try simp only [KF] at c4
 refine Sk (Jn (hK2 (Kp [0, 1, 2] ?_)))
 have hzl := szd_len (s := s) h0; have htk : (s.take a.toNat).length <= s.length := (by rw [List.length_take]; omega); have htk2 : ((szd s a).take a.toNat).length <= (szd s a).length := (by rw [List.length_take]; omega)
 refine Rr (Fn1 [0] [(7, .str ((s.take a.toNat) ++ d))] ((0 <= (0 : Int) /\ (0 : Int) <= a /\ a <= (s.length : Int)) /\ ((s.take a.toNat).length + d.length <= 9223372036854775807) /\ ·) ⟨⟨by omega, by omega, by omega⟩, (by omega), Sq fun K12 hK12 => ?_⟩)
 have hlt1 : (s.take a.toNat ++ d).length = (s.take a.toNat).length + d.length := List.length_append; have hlt2 : ((szd s a).take a.toNat ++ d).length = ((szd s a).take a.toNat).length + d.length := List.length_append; have hdr : (s.drop (s.take a.toNat ++ d).length).length <= s.length := by rw [List.length_drop]; omega
 have hdr2 : ((szd s a).drop ((szd s a).take a.toNat ++ d).length).length <= (szd s a).length := by rw [List.length_drop]; omega
 refine Rr (Cn1 (decide ((((s.take a.toNat) ++ d).length : Int) < (s.length : Int))) [0, 7] [] (Ki /\ ·) ⟨rfl, fun hc14 c14 => ?_, fun hc14 c14 => ?_⟩)
 try simp only [KF] at c14
 refine Rb (fun h => Jn (hK12 h)) (Av1 (r := .str ((s.take s.length).drop (((s.take a.toNat) ++ d).length))) (v := .str (s.drop (((s.take a.toNat) ++ d).length))) 5 29 [(28, .int .i64 (((s.take a.toNat) ++ d).length : Int)), (27, .str ((s.take a.toNat) ++ d)), (26, .str s), (25, .str ((s.take a.toNat) ++ d))] (congrArg AV.str (congrArg (List.drop _) List.take_length)) ((0 <= ((((s.take a.toNat) ++ d).length : Int) : Int) /\ ((((s.take a.toNat) ++ d).length : Int) : Int) <= (s.length : Int) /\ (s.length : Int) <= (s.length : Int)) /\ ·) ⟨⟨by omega, by omega, by omega⟩, Fn1 [] [(7, .str (((s.take a.toNat) ++ d) ++ (s.drop (((s.take a.toNat) ++ d).length))))] ((((s.take a.toNat) ++ d).length + (s.drop (((s.take a.toNat) ++ d).length)).length <= 9223372036854775807) /\ ·) ⟨(by omega), Rr (Fn0 [] [(6, .str (((s.take a.toNat) ++ d) ++ (s.drop (((s.take a.toNat) ++ d).length))))] ?_)⟩⟩)
 refine Rt (.str (((s.take a.toNat) ++ d) ++ (s.drop (((s.take a.toNat) ++ d).length)))) (fin_lea ?_)
 unfold wrt
 rw [show (if (s.length : Int) < a then szd s a else s) = s from if_neg (by omega)]
 dsimp only
 rw [if_pos (by omega)]
 exact lea_refl _
 try simp only [KF] at c14
 refine Sk (Jn (hK12 (Kp [7] (Rr (Fn0 [] [(6, .str ((s.take a.toNat) ++ d))] (Rt (.str ((s.take a.toNat) ++ d)) (fin_lea ?_)))))))
 unfold wrt
 rw [show (if (s.length : Int) < a then szd s a else s) = s from if_neg (by omega)]
 dsimp only
 rw [if_neg (by omega)]
 exact lea_refl _
theorem begins_ok (p q : List Str) (hp : p.length < 2 ^ 60) (hq : q.length < 2 ^ 60) : PE G 45 [pth p, pth q] (.bool (q.isPrefixOf p)) := by
 refine Pe Tryz.func45 ?_
 refine Rr (Fn0 [0, 1] [] (Sq fun K2 hK2 => ?_))
 refine Rr (Av0 (r := .int .i64 ((p.map (fun s => [AV.str s])).length : Nat)) (v := .int .i64 p.length) 2 7 [(6, pth p)] (by rw [List.length_map]) (Av0 (r := .int .i64 ((q.map (fun s => [AV.str s])).length : Nat)) (v := .int .i64 q.length) 2 9 [(8, pth q)] (by rw [List.length_map]) (Cn1 (decide ((p.length : Int) < (q.length : Int))) [0, 1] [] (Ki /\ ·) ⟨rfl, fun hc4 c4 => ?_, fun hc4 c4 => ?_⟩)))
 try simp only [KF] at c4
 refine Rr (Fn0 [] [(4, .bool false)] (Rt (.bool false) (fin_lea ?_)))
 rw [pre_no (by omega)]; exact lea_refl _
 try simp only [KF] at c4
 refine Sk (Jn (hK2 (Kp [0, 1] (Sq fun K6 hK6 => ?_))))
 refine Rr (Av0 (r := .int .i64 ((q.map (fun s => [AV.str s])).length : Nat)) (v := .int .i64 q.length) 2 12 [(11, pth q)] (by rw [List.length_map]) (Fn0 [0, 1, 12] [(13, .int .i64 0)] (Bl (h_l (fun (k : Nat) => ([(0, pth p), (1, pth q), (12, .int .i64 q.length), (13, .int .i64 k)] : Fr)) (fun (k : Nat) => ([] : Hp)) (fun (k : Nat) cn => (k <= q.length /\ q.take k = p.take k) /\ cn = 0) (fun (k : Nat) => q.length - k) 0 (by kernel_rfl) ?_ ?_ ?_ ?_))))
 refine ⟨?_, rfl⟩; exact ⟨Nat.zero_le _, rfl⟩
 exact ⟨by kernel_rfl, by kernel_rfl, by kernel_rfl, by kernel_rfl, trivial⟩
 exact (List.nil_sublist _)
 rintro k n1 hI
 (try dsimp only at hI)
 obtain ⟨⟨hk, hpre⟩, rfl⟩ := hI
 refine Rr (Fn1 [0, 1, 12, 13] [(14, .bool (decide ((k : Int) < (q.length : Int))))] (Ki /\ ·) ⟨rfl, Sq fun K9 hK9 => ?_⟩)
 refine Cc (decide ((k : Int) < (q.length : Int))) (fun hc10 c10 => ?_) fun hc10 c10 => ?_
 try simp only [KF] at c10
 refine Sk (Jn (hK9 (Kp [0, 1, 12, 13] (Sq fun K11 hK11 => ?_))))
 refine Bl (Rr (Fn0 [0, 1, 12, 13] [(5, .int .i64 k)] (Qr [0, 0, 3, 7, 0, 0, 48, 112, 255] [(0, []), (1, []), (2, []), (3, []), (4, []), (5, []), (6, []), (7, []), (8, [])] (qAv1 3 18 [(17, .int .i64 k), (16, pth p)] (congrArg AV.pat (mg_str p k (by omega))) ((1 = 1 /\ (0 : Int) <= (k : Int) /\ (k : Int) < ((p.map (fun s => [AV.str s])).length : Int)) /\ ·) ⟨⟨rfl, by omega, by rw [List.length_map]; omega⟩, ?_⟩))))
 refine qAv1 4 22 [(21, .int .i64 k), (20, pth q), (19, .str (p.getD k default))] (congrArg AV.pat (mg_str q k (by omega))) ((1 <= 1 /\ 0 < 1) /\ (1 = 1 /\ (0 : Int) <= (k : Int) /\ (k : Int) < ((q.map (fun s => [AV.str s])).length : Int)) /\ ·) ⟨(by decide), ⟨rfl, by omega, by rw [List.length_map]; omega⟩, qCn1 (!((p.getD k default) == (q.getD k default))) [0, 1, 12, 13] [] ((1 <= 1 /\ 0 < 1) /\ ·) ⟨(by decide), fun hc14 c14 => ?_, fun hc14 c14 => ?_⟩⟩
 try simp only [KF] at c14
 refine Rr (Fn0 [] [(4, .bool false)] (Rt (.bool false) (fin_lea ?_)))
 rw [pre_ne (k := k) (by omega) (by simpa using hc14)]; exact lea_refl _
 try simp only [KF] at c14
 refine Sk (Bn (Jn (hK11 (Kp [0, 1, 12, 13] (Rn (Av1 1 25 [] (congrArg (AV.int .i64) (wn1 k (by omega))) (Ki /\ ·) ⟨rfl, Gn0 [(13, .int .i64 ((k + 1 : Nat) : Int))] (nk_n ?_)⟩))))))
 refine Lr (k + 1) [] 0 [(0, pth p), (1, pth q), (12, .int .i64 q.length), (13, .int .i64 ((k + 1 : Nat) : Int))] [] [] ?_ ?_ (by kernel_rfl) (by kernel_rfl)
 (try dsimp only); omega
 refine ⟨?_, rfl⟩; (try dsimp only); refine ⟨by omega, ?_⟩; rw [take_snoc q k default (by omega), take_snoc p k default (by omega), hpre]; congr 2; symm; simpa using hc14
 try simp only [KF] at c10
 refine Xt (Jx (Lx (Bh (Jn (hK6 (Kp [] (Rr (Fn0 [] [(4, .bool true)] (Rt (.bool true) (fin_lea ?_))))))))))
 rw [pre_yes (by omega) hpre]; exact lea_refl _
theorem sound_ok : ∀ (N : Nat) (t : Tr) (n : Int), t.W = N -> t.W < 2 ^ 40 -> 0 <= n -> n <= 5 -> PE G 38 [.agg (tcs t), .int .i64 n] (.bool (partsOk t n)) := by
 intro N; refine Nat.strongRecOn N fun N ih => ?_; intro t n hN hw hn0 hn5; have hWe := W_eq t; rw [W_eq] at hN hw; have hks := Ws_len t.kids; have hns := wS_len t.names
 refine Pe Tryz.func38 ?_
 refine Rr (Fn2 [1] [(2, .ptr 0 0)] [(0, tcs t)] 4 (Sq fun K2 hK2 => ?_))
 refine Rm 23 ((!(inb t.mode 0 7)) || ((decide ((4 : Int) < (n : Int))) || (!decide ((t.names.length : Int) = (t.kids.length : Int))))) [1, 2] ?_ ?_
 refine Bc1 3 [(8, .int .i64 t.mode), (7, .ptr 0 1)] 59 [.int .i64 t.mode] 9 (((1 : Nat) ≠ 0) /\ (1 + 1 <= 5 /\ 1 < 5) /\ ·) ⟨(by decide), (by decide), ?_⟩
 refine PE.use (modeOk_ok t.mode) ?_
 refine Ke (An0 2 [(11, .bool (!(inb t.mode 0 7))), (10, .bool (!(inb t.mode 0 7)))] (run_b (fun g4 => ?_) (fun g4 => ?_)))
 have hg4 := g4
 try simp only [KF] at g4
 refine Mn0 true (by rw [hg4]; rfl)
 have hg4 := g4
 try simp only [KF] at g4
 refine An1 4 [(15, .bool (decide ((4 : Int) < (n : Int)))), (14, .bool (decide ((4 : Int) < (n : Int)))), (13, .bool (decide ((4 : Int) < (n : Int)))), (12, .int .i64 n)] (Ki /\ ·) ⟨rfl, run_b (fun g5 => ?_) (fun g5 => ?_)⟩
 have hg5 := g5
 try simp only [KF] at g5
 refine Mn0 true (by rw [hg4, hg5]; rfl)
 have hg5 := g5
 try simp only [KF] at g5
 refine Av1 (r := .int .i64 ((t.names.map (fun s => [AV.str s])).length : Nat)) (v := .int .i64 t.names.length) 3 18 [(17, pth t.names), (16, .ptr 0 3)] (by rw [List.length_map]) (((1 : Nat) ≠ 0) /\ (3 + 1 <= 5 /\ 3 < 5) /\ ·) ⟨(by decide), (by decide), Av1 (r := .int .i64 ((t.kids.map trc).length : Nat)) (v := .int .i64 t.kids.length) 3 21 [(20, .sl 5 (t.kids.map trc)), (19, .ptr 0 4)] (by rw [List.length_map]) (((1 : Nat) ≠ 0) /\ (4 + 1 <= 5 /\ 4 < 5) /\ ·) ⟨(by decide), (by decide), Mn1 (!decide ((t.names.length : Int) = (t.kids.length : Int))) (Ki /\ ·) ⟨rfl, (by rw [hg4, hg5]; rfl)⟩⟩⟩
 refine Cc ((!(inb t.mode 0 7)) || ((decide ((4 : Int) < (n : Int))) || (!decide ((t.names.length : Int) = (t.kids.length : Int))))) (fun hc6 c6 => ?_) fun hc6 c6 => ?_
 try simp only [KF] at c6
 refine Rr (Fn0 [] [(4, .bool false)] (Rt (.bool false) (fin_lea ?_)))
 have hr : partsOk t n = false := by
   rw [partsOk_eq]; simp only [plainOk]
   rcases c6 with h | h | h
   · simp [h]
   · simp [show ¬ n <= 4 by omega]
   · simp [show ¬ t.names.length = t.kids.length by omega]
 rw [hr]; exact lea_refl _
 try simp only [KF] at c6
 refine Sk (Jn (hK2 (Kp [1, 2] (Sq fun K8 hK8 => ?_))))
 refine Rr (Cn1 (!t.dir) [1, 2] [] (((1 : Nat) ≠ 0) /\ (0 + 1 <= 5 /\ 0 < 5) /\ ·) ⟨(by decide), (by decide), fun hc10 c10 => ?_, fun hc10 c10 => ?_⟩)
 try simp only [KF] at c10
 refine Rm 4 ((decide ((t.data.length : Int) <= 24)) && (decide ((t.names.length : Int) = 0))) [] ?_ ?_
 refine An1 5 [(31, .bool (decide ((t.data.length : Int) <= 24))), (30, .bool (decide ((t.data.length : Int) <= 24))), (29, .int .i64 t.data.length), (28, .str t.data), (27, .ptr 0 2)] (((1 : Nat) ≠ 0) /\ (2 + 1 <= 5 /\ 2 < 5) /\ Ki /\ ·) ⟨(by decide), (by decide), rfl, run_b (fun g12 => ?_) (fun g12 => ?_)⟩
 have hg12 := g12
 try simp only [KF] at g12
 refine Av1 (r := .int .i64 ((t.names.map (fun s => [AV.str s])).length : Nat)) (v := .int .i64 t.names.length) 3 34 [(33, pth t.names), (32, .ptr 0 3)] (by rw [List.length_map]) (((1 : Nat) ≠ 0) /\ (3 + 1 <= 5 /\ 3 < 5) /\ ·) ⟨(by decide), (by decide), Mn1 (decide ((t.names.length : Int) = 0)) (Ki /\ ·) ⟨rfl, (by rw [hg12]; rfl)⟩⟩
 have hg12 := g12
 try simp only [KF] at g12
 refine Mn0 false (by rw [hg12]; rfl)
 refine Rt (.bool ((decide ((t.data.length : Int) <= 24)) && (decide ((t.names.length : Int) = 0)))) (fin_lea ?_)
 have hr : partsOk t n = ((decide ((t.data.length : Int) <= 24)) && (decide ((t.names.length : Int) = 0))) := by
   obtain ⟨a1, a2, a3⟩ := c6
   have hd : t.dir = false := by simpa using hc10
   have hn0 : t.names.length = 0 -> t.kids = [] := fun h => List.eq_nil_of_length_eq_zero (by omega)
   rw [partsOk_eq]; simp only [plainOk]
   simp only [a1, show t.names.length = t.kids.length by omega, show n <= 4 by omega, hd, decide_true, Bool.true_and, Bool.false_eq_true, if_false]
   rw [show decide ((t.data.length : Int) <= 24) = decide (t.data.length <= 24) from decide_eq_decide.2 (by omega)]
   rcases Nat.eq_zero_or_pos t.names.length with h0 | h0
   · rw [hn0 h0]; simp [h0]
   · have h2 : decide (t.kids.length = 0) = false := decide_eq_false (by omega)
     have h3 : decide ((t.kids.length : Int) = 0) = false := decide_eq_false (by omega)
     rw [h2, h3]; simp
 rw [hr]; exact lea_refl _
 try simp only [KF] at c10
 refine Sk (Jn (hK8 (Kp [1, 2] (Sq fun K13 hK13 => ?_))))
 refine Rr (Cn1 (!(t.data == [])) [1, 2] [] (((1 : Nat) ≠ 0) /\ (2 + 1 <= 5 /\ 2 < 5) /\ ·) ⟨(by decide), (by decide), fun hc15 c15 => ?_, fun hc15 c15 => ?_⟩)
 try simp only [KF] at c15
 refine Rr (Fn0 [] [(4, .bool false)] (Rt (.bool false) (fin_lea ?_)))
 have hr : partsOk t n = false := by
   cases hp : partsOk t n
   · rfl
   exfalso
   rw [partsOk_eq] at hp; simp only [plainOk] at hp
   have hd : t.dir = true := by simpa using hc10
   simp only [hd, if_true, Bool.and_eq_true, decide_eq_true_eq] at hp
   have := hp.1.2.2.2.2
   rw [this] at hc15; cases hc15
 rw [hr]; exact lea_refl _
 try simp only [KF] at c15
 refine Sk (Jn (hK13 (Kp [1, 2] (Sq fun K17 hK17 => ?_))))
 refine Rr (Av1 (r := .int .i64 ((t.names.map (fun s => [AV.str s])).length : Nat)) (v := .int .i64 t.names.length) 3 42 [(41, pth t.names), (40, .ptr 0 3)] (by rw [List.length_map]) (((1 : Nat) ≠ 0) /\ (3 + 1 <= 5 /\ 3 < 5) /\ ·) ⟨(by decide), (by decide), Fn0 [1, 2, 41, 42] [(43, .int .i64 0)] (Bl (h_l (fun (k : Nat) => ([(1, .int .i64 n), (2, .ptr 0 0), (41, pth t.names), (42, .int .i64 t.names.length), (43, .int .i64 k)] : Fr)) (fun (k : Nat) => ([(0, tcs t)] : Hp)) (fun (k : Nat) cn => (k <= t.names.length /\ (t.names.take k).all nmOk = true /\ asc (t.names.take k) = true /\ (t.kids.take k).all (partsOk · (n + 1)) = true) /\ cn = 4) (fun (k : Nat) => t.names.length - k) 0 (by kernel_rfl) ?_ ?_ ?_ ?_))⟩)
 refine ⟨?_, rfl⟩; exact ⟨Nat.zero_le _, rfl, rfl, rfl⟩
 exact ⟨by kernel_rfl, by kernel_rfl, by kernel_rfl, by kernel_rfl, by kernel_rfl, trivial⟩
 exact (sub_c (by kernel_rfl) (List.nil_sublist _))
 rintro k n1 hI
 (try dsimp only at hI)
 obtain ⟨⟨hk, g1, g2, g3⟩, rfl⟩ := hI
 refine Rr (Fn1 [1, 2, 41, 42, 43] [(44, .bool (decide ((k : Int) < (t.names.length : Int))))] (Ki /\ ·) ⟨rfl, Sq fun K20 hK20 => ?_⟩)
 refine Cc (decide ((k : Int) < (t.names.length : Int))) (fun hc21 c21 => ?_) fun hc21 c21 => ?_
 try simp only [KF] at c21
 refine Sk (Jn (hK20 (Kp [1, 2, 41, 42, 43] (Sq fun K22 hK22 => ?_))))
 refine Bl (Rr (Av1 2 46 [(45, .int .i64 k)] (congrArg AV.pat (mg_str t.names k (by omega))) ((1 = 1 /\ (0 : Int) <= (k : Int) /\ (k : Int) < ((t.names.map (fun s => [AV.str s])).length : Int)) /\ ·) ⟨⟨rfl, by omega, by rw [List.length_map]; omega⟩, Fn1 [1, 2, 41, 42, 43] [(6, .str (t.names.getD k default)), (5, .int .i64 k)] ((1 <= 1 /\ 0 < 1) /\ ·) ⟨(by decide), Rm 75 ((!(nmOk (t.names.getD k default))) || (bif decide ((0 : Int) < ((k : Int) : Int)) then (!blt (t.names.getD (((k : Int) - 1).toNat) default) (t.names.getD k default)) || (!(partsOk (t.kids.getD k default) (n + 1))) else !(partsOk (t.kids.getD k default) (n + 1)))) [1, 2, 41, 42, 43] ?_ ?_⟩⟩))
 refine Pc0 2 [(48, .str (t.names.getD k default))] 49 (nameOk_ok (t.names.getD k default) (by (have := wS_get t.names k (by omega); omega))) (An0 2 [(51, .bool (!(nmOk (t.names.getD k default)))), (50, .bool (!(nmOk (t.names.getD k default))))] (run_b (fun g25 => ?_) (fun g25 => ?_)))
 have hg25 := g25
 try simp only [KF] at g25
 refine Mn0 true (by rw [hg25]; rfl)
 have hg25 := g25
 try simp only [KF] at g25
 refine An1 3 [(54, .bool (decide ((0 : Int) < ((k : Int) : Int)))), (53, .bool (decide ((0 : Int) < ((k : Int) : Int)))), (52, .int .i64 k)] (Ki /\ ·) ⟨rfl, run_b (fun g26 => ?_) (fun g26 => ?_)⟩
 have hg26 := g26
 try simp only [KF] at g26
 refine Av1 (r := .int .i64 (IntKind.i64.wrap ((k : Int) - 1))) (v := .int .i64 ((k : Int) - 1)) 4 58 [(57, .int .i64 k), (56, pth t.names), (55, .ptr 0 3)] (congrArg (AV.int .i64) (wrap64 (by omega) (by omega))) (((1 : Nat) ≠ 0) /\ (3 + 1 <= 5 /\ 3 < 5) /\ Ki /\ ·) ⟨(by decide), (by decide), rfl, Av1 1 59 [] (congrArg AV.pat (mg_str t.names (((k : Int) - 1).toNat) (by omega))) ((1 = 1 /\ (0 : Int) <= ((k : Int) - 1) /\ ((k : Int) - 1) < ((t.names.map (fun s => [AV.str s])).length : Int)) /\ ·) ⟨⟨rfl, by omega, by rw [List.length_map]; omega⟩, An1 6 [(65, .bool (!blt (t.names.getD (((k : Int) - 1).toNat) default) (t.names.getD k default))), (64, .bool (!blt (t.names.getD (((k : Int) - 1).toNat) default) (t.names.getD k default))), (63, .bool (!blt (t.names.getD (((k : Int) - 1).toNat) default) (t.names.getD k default))), (62, .bool (!blt (t.names.getD (((k : Int) - 1).toNat) default) (t.names.getD k default))), (61, .str (t.names.getD k default)), (60, .str (t.names.getD (((k : Int) - 1).toNat) default))] ((1 <= 1 /\ 0 < 1) /\ ·) ⟨(by decide), run_b (fun g27 => ?_) (fun g27 => ?_)⟩⟩⟩
 have hg27 := g27
 try simp only [KF] at g27
 refine Mn0 true (by rw [hg25, hg26, hg27]; rfl)
 have hg27 := g27
 try simp only [KF] at g27
 refine Av1 4 69 [(68, .int .i64 k), (67, .sl 5 (t.kids.map trc)), (66, .ptr 0 4)] (congrArg AV.pat (mg_trc t.kids k (by omega))) (((1 : Nat) ≠ 0) /\ (4 + 1 <= 5 /\ 4 < 5) /\ (5 = 5 /\ (0 : Int) <= (k : Int) /\ (k : Int) < ((t.kids.map trc).length : Int)) /\ ·) ⟨(by decide), (by decide), ⟨rfl, by omega, by rw [List.length_map]; omega⟩, Av1 (r := .int .i64 (IntKind.i64.wrap (n + 1))) (v := .int .i64 (n + 1)) 3 72 [(71, .int .i64 n), (70, .agg (tcs (t.kids.getD k default)))] (congrArg (AV.int .i64) (wrap64 (by omega) (by omega))) ((5 <= 5 /\ 0 < 5) /\ Ki /\ ·) ⟨(by decide), rfl, ?_⟩⟩
 have hW := Ws_get t.kids k (by omega)
 refine Pc0 1 [] 73 (ih _ (by omega) (t.kids.getD k default) (n + 1) rfl (by omega) (by omega) (by omega)) (Mn0 (!(partsOk (t.kids.getD k default) (n + 1))) (by rw [hg25, hg26, hg27]; rfl))
 have hg26 := g26
 try simp only [KF] at g26
 refine Av1 15 69 [(68, .int .i64 k), (67, .sl 5 (t.kids.map trc)), (66, .ptr 0 4), (65, .bool false), (64, .bool false), (63, .bool false), (62, .tup []), (61, .tup []), (60, .tup []), (59, .tup []), (58, .tup []), (57, .tup []), (56, .tup []), (55, .tup [])] (congrArg AV.pat (mg_trc t.kids k (by omega))) (((1 : Nat) ≠ 0) /\ (4 + 1 <= 5 /\ 4 < 5) /\ (5 = 5 /\ (0 : Int) <= (k : Int) /\ (k : Int) < ((t.kids.map trc).length : Int)) /\ ·) ⟨(by decide), (by decide), ⟨rfl, by omega, by rw [List.length_map]; omega⟩, Av1 (r := .int .i64 (IntKind.i64.wrap (n + 1))) (v := .int .i64 (n + 1)) 3 72 [(71, .int .i64 n), (70, .agg (tcs (t.kids.getD k default)))] (congrArg (AV.int .i64) (wrap64 (by omega) (by omega))) ((5 <= 5 /\ 0 < 5) /\ Ki /\ ·) ⟨(by decide), rfl, ?_⟩⟩
 have hW := Ws_get t.kids k (by omega)
 refine Pc0 1 [] 73 (ih _ (by omega) (t.kids.getD k default) (n + 1) rfl (by omega) (by omega) (by omega)) (Mn0 (!(partsOk (t.kids.getD k default) (n + 1))) (by rw [hg25, hg26]; rfl))
 refine Cc ((!(nmOk (t.names.getD k default))) || (bif decide ((0 : Int) < ((k : Int) : Int)) then (!blt (t.names.getD (((k : Int) - 1).toNat) default) (t.names.getD k default)) || (!(partsOk (t.kids.getD k default) (n + 1))) else !(partsOk (t.kids.getD k default) (n + 1)))) (fun hc28 c28 => ?_) fun hc28 c28 => ?_
 try simp only [KF] at c28
 refine Rr (Fn0 [] [(4, .bool false)] (Rt (.bool false) (fin_lea ?_)))
 have hr : partsOk t n = false := by
   cases hp : partsOk t n
   · rfl
   exfalso
   rw [partsOk_eq] at hp; simp only [plainOk] at hp
   have hd : t.dir = true := by simpa using hc10
   simp only [hd, if_true, Bool.and_eq_true, decide_eq_true_eq] at hp
   have p1 := all_getD nmOk t.names k default (by omega) hp.1.2.2.1
   have p2 := all_getD _ t.kids k default (by omega) hp.2.2
   have p3 : k = 0 \/ blt (t.names.getD (k - 1) default) (t.names.getD k default) = true := by
     rcases Nat.eq_zero_or_pos k with h | h
     · exact .inl h
     · exact .inr (asc_lt hp.1.2.2.2.1 (by omega) (by omega))
   have hc := hc28
   rw [show ((k : Int) - 1).toNat = k - 1 by omega, p1, p2] at hc
   rcases p3 with p3 | p3
   · rw [decide_eq_false (by omega)] at hc; simp at hc
   · rw [p3] at hc; cases hd : decide ((0 : Int) < (k : Int)) <;> rw [hd] at hc <;> simp at hc
 rw [hr]; exact lea_refl _
 try simp only [KF] at c28
 refine Sk (Bn (Jn (hK22 (Kp [1, 2, 41, 42, 43] (Rn (Av1 1 76 [] (congrArg (AV.int .i64) (wn1 k (by omega))) (Ki /\ ·) ⟨rfl, Gn0 [(43, .int .i64 ((k + 1 : Nat) : Int))] (nk_n ?_)⟩))))))
 obtain ⟨a1, a2, a3⟩ : nmOk (t.names.getD k default) = true /\ (k = 0 \/ blt (t.names.getD (k - 1) default) (t.names.getD k default) = true) /\ partsOk (t.kids.getD k default) (n + 1) = true := by
   have hc := hc28
   rw [show ((k : Int) - 1).toNat = k - 1 by omega] at hc
   cases q1 : nmOk (t.names.getD k default) with
   | false => rw [q1] at hc; simp at hc
   | true =>
   cases q2 : partsOk (t.kids.getD k default) (n + 1) with
   | false => rw [q1, q2] at hc; cases hd : decide ((0 : Int) < (k : Int)) <;> rw [hd] at hc <;> simp at hc
   | true =>
   refine ⟨rfl, ?_, rfl⟩
   rw [q1, q2] at hc
   rcases Nat.eq_zero_or_pos k with h | h
   · exact .inl h
   · right; rw [decide_eq_true (by omega)] at hc; simpa using hc
 refine Lr (k + 1) [(0, 0)] 4 [(1, .int .i64 n), (2, .ptr 0 0), (41, pth t.names), (42, .int .i64 t.names.length), (43, .int .i64 ((k + 1 : Nat) : Int))] [(0, tcs t)] [true] ?_ ?_ (by kernel_rfl) (by kernel_rfl)
 (try dsimp only); omega
 refine ⟨?_, rfl⟩; (try dsimp only); refine ⟨by omega, ?_, ?_, ?_⟩
 · rw [take_snoc t.names k default (by omega), List.all_append, g1]; simpa using a1
 · rw [asc_take t.names k (by omega), g2]; simpa using a2
 · rw [take_snoc t.kids k default (by omega), List.all_append, g3]; simpa using a3
 try simp only [KF] at c21
 refine Xt (Jx (Lx (Bh (Jn (hK17 (Kp [] (Rr (Fn0 [] [(4, .bool true)] (Rt (.bool true) (fin_lea ?_))))))))))
 have hr : partsOk t n = true := by
   obtain ⟨a1, a2, a3⟩ := c6
   have hd : t.dir = true := by simpa using hc10
   rw [partsOk_eq]; simp only [plainOk]
   obtain rfl : k = t.names.length := by omega
   rw [List.take_length] at g1 g2
   rw [List.take_of_length_le (by omega)] at g3
   simp only [a1, show t.names.length = t.kids.length by omega, show n <= 4 by omega, hd, decide_true, Bool.true_and, if_true, g1, g2, g3, Bool.and_true]
   simpa using hc15
 rw [hr]; exact lea_refl _
theorem paths_ok : ∀ (N : Nat) (t : Tr), t.W = N -> t.W < 2 ^ 40 -> PE G 39 [.agg (tcs t)] (.int .i64 ((1 + cnt t : Nat) : Int)) := by
 intro N; refine Nat.strongRecOn N fun N ih => ?_; intro t hN hw; have hcW := cnt_W t; have hWe := W_eq t; rw [W_eq] at hN; have hks := Ws_len t.kids; rw [cnt_eq] at hcW
 refine Pe Tryz.func39 ?_
 refine Rr (Fn2 [] [(1, .ptr 0 0)] [(0, tcs t)] 4 (Rr (Fn0 [1] [(3, .int .i64 1)] (Sq fun K3 hK3 => ?_))))
 refine Rr (Av1 (r := .int .i64 ((t.kids.map trc).length : Nat)) (v := .int .i64 t.kids.length) 3 8 [(7, .sl 5 (t.kids.map trc)), (6, .ptr 0 4)] (by rw [List.length_map]) (((1 : Nat) ≠ 0) /\ (4 + 1 <= 5 /\ 4 < 5) /\ ·) ⟨(by decide), (by decide), Fn0 [3, 7, 8] [(9, .int .i64 0)] (Bl (h_l (fun (k : Nat) => ([(3, .int .i64 ((1 + cnts (t.kids.take k) : Nat) : Int)), (7, .sl 5 (t.kids.map trc)), (8, .int .i64 t.kids.length), (9, .int .i64 k)] : Fr)) (fun (k : Nat) => ([(0, tcs t)] : Hp)) (fun (k : Nat) cn => (k <= t.kids.length) /\ cn = 4) (fun (k : Nat) => t.kids.length - k) 0 (by kernel_rfl) ?_ ?_ ?_ ?_))⟩)
 refine ⟨?_, rfl⟩; omega
 exact ⟨by kernel_rfl, by kernel_rfl, by kernel_rfl, by kernel_rfl, trivial⟩
 exact (sub_c (by kernel_rfl) (List.nil_sublist _))
 rintro k n1 hI
 (try dsimp only at hI)
 obtain ⟨hk, rfl⟩ := hI
 have hct := cnts_take_le t.kids k
 refine Rr (Fn1 [3, 7, 8, 9] [(10, .bool (decide ((k : Int) < (t.kids.length : Int))))] (Ki /\ ·) ⟨rfl, Sq fun K6 hK6 => ?_⟩)
 refine Cc (decide ((k : Int) < (t.kids.length : Int))) (fun hc7 c7 => ?_) fun hc7 c7 => ?_
 try simp only [KF] at c7
 refine Sk (Jn (hK6 (Kp [3, 7, 8, 9] (Sq fun K8 hK8 => ?_))))
 refine Bl (Rr (Av1 1 11 [] (congrArg AV.pat (mg_trc t.kids k (by omega))) ((5 = 5 /\ (0 : Int) <= (k : Int) /\ (k : Int) < ((t.kids.map trc).length : Int)) /\ ·) ⟨⟨rfl, by omega, by rw [List.length_map]; omega⟩, Fn3 [3, 7, 8, 9] [(5, .ptr 4 0)] [(4, tcs (t.kids.getD k default)), (0, tcs t)] 8 ((5 <= 5 /\ 0 < 5) /\ (true = true /\ 5 = 5 /\ 0 + 5 <= 5) /\ ·) ⟨(by decide), (by decide), Rb (fun h => Bn (Jn (hK8 h))) ?_⟩⟩))
 have hW := Ws_get t.kids k (by omega)
 have hcw := cnt_W (t.kids.getD k default)
 refine Pc1 3 [(14, .agg (tcs (t.kids.getD k default))), (13, .int .i64 ((1 + cnts (t.kids.take k) : Nat) : Int))] 15 (0 + 5 <= 5 /\ 0 < 5) (by decide) (ih _ (by omega) (t.kids.getD k default) rfl (by omega)) (Av1 1 16 [] (congrArg (AV.int .i64) (wnn (1 + cnts (t.kids.take k)) (1 + cnt (t.kids.getD k default)) (by omega))) (Ki /\ ·) ⟨rfl, Fn0 [7, 8, 9] [(3, .int .i64 (((1 + cnts (t.kids.take k)) + (1 + cnt (t.kids.getD k default)) : Nat) : Int))] (Rn (Av1 1 17 [] (congrArg (AV.int .i64) (wn1 k (by omega))) (Ki /\ ·) ⟨rfl, ?_⟩))⟩)
 refine Gn0 [(9, .int .i64 ((k + 1 : Nat) : Int))] (nk_n (Lr (k + 1) [(0, 0)] 4 [(3, .int .i64 (((1 + cnts (t.kids.take k)) + (1 + cnt (t.kids.getD k default)) : Nat) : Int)), (7, .sl 5 (t.kids.map trc)), (8, .int .i64 t.kids.length), (9, .int .i64 ((k + 1 : Nat) : Int))] [(0, tcs t)] [true] ?_ ?_ (by kernel_rfl) (by (try rw [show 1 + cnts (t.kids.take (k + 1)) = 1 + cnts (t.kids.take k) + (1 + cnt (t.kids.getD k default)) by rw [cnts_take t.kids k (by omega)]; omega]); try kernel_rfl)))
 (try dsimp only); omega
 refine ⟨?_, rfl⟩; (try dsimp only); omega
 try simp only [KF] at c7
 refine Xt (Jx (Lx (Bh (Jn (hK3 (Kp [3] (Rr (Fn0 [] [(2, .int .i64 ((1 + cnts (t.kids.take k) : Nat) : Int))] (Rt (.int .i64 ((1 + cnts (t.kids.take k) : Nat) : Int)) (fin_lea ?_))))))))))
 obtain rfl : k = t.kids.length := by omega
 rw [List.take_length, cnt_eq]; exact lea_refl _
theorem TreeOk_ok (t : Tr) (hw : t.W < 2 ^ 40) : PE G 17 [.agg (tcs t)] (.bool (treeOk t)) := by
 have hcW := cnt_W t
 refine Pe Tryz.func17 ?_
 refine Rr (Fn2 [] [(1, .ptr 0 0)] [(0, tcs t)] 4 (Rm 2 (t.dir && ((partsOk t 0) && (decide (((1 + cnt t : Nat) : Int) <= 31)))) [] ?_ ?_))
 refine An1 3 [(5, .bool t.dir), (4, .bool t.dir), (3, .ptr 0 0)] (((1 : Nat) ≠ 0) /\ (0 + 1 <= 5 /\ 0 < 5) /\ ·) ⟨(by decide), (by decide), run_b (fun g3 => ?_) (fun g3 => ?_)⟩
 have hg3 := g3
 try simp only [KF] at g3
 refine Pc1 2 [(6, .agg (tcs t))] 7 (0 + 5 <= 5 /\ 0 < 5) (by decide) (sound_ok _ t 0 rfl (by omega) (by omega) (by omega)) (An0 2 [(9, .bool (partsOk t 0)), (8, .bool (partsOk t 0))] (run_b (fun g4 => ?_) (fun g4 => ?_)))
 have hg4 := g4
 try simp only [KF] at g4
 refine Pc1 2 [(10, .agg (tcs t))] 11 (0 + 5 <= 5 /\ 0 < 5) (by decide) (paths_ok _ t rfl (by omega)) (Mn1 (decide (((1 + cnt t : Nat) : Int) <= 31)) (Ki /\ ·) ⟨rfl, (by rw [hg3, hg4]; rfl)⟩)
 have hg4 := g4
 try simp only [KF] at g4
 refine Mn0 false (by rw [hg3, hg4]; rfl)
 have hg3 := g3
 try simp only [KF] at g3
 refine Mn0 false (by rw [hg3]; rfl)
 refine Rt (.bool (t.dir && ((partsOk t 0) && (decide (((1 + cnt t : Nat) : Int) <= 31))))) (fin_lea ?_)
 have hr : treeOk t = (t.dir && ((partsOk t 0) && (decide (((1 + cnt t : Nat) : Int) <= 31)))) := by
   unfold treeOk; rw [show decide (cnt t <= 30) = decide (((1 + cnt t : Nat) : Int) <= (31 : Int)) from decide_eq_decide.2 ⟨fun h => by omega, fun h => by omega⟩]
 rw [hr]; exact lea_refl _
theorem isCall_ok (c : Cl) (h1 : wS c.path < 2 ^ 40) (h2 : wS c.to < 2 ^ 40) : PE G 40 [.agg (clc c)] (.bool (callOk c)) := by
 have hl1 := wS_len c.path; have hl2 := wS_len c.to
 refine Pe Tryz.func40 ?_
 refine Rr (Fn2 [] [(1, .ptr 0 0)] [(0, clc c)] 4 (Sq fun K2 hK2 => ?_))
 refine Rm 12 ((!(inb c.kind 1 6)) || (!(pthOk c.path 1))) [1] ?_ ?_
 refine Bc1 3 [(4, .int .i64 c.kind), (3, .ptr 0 0)] 61 [.int .i64 c.kind, .int .i64 1, .int .i64 6] 5 (((1 : Nat) ≠ 0) /\ (0 + 1 <= 5 /\ 0 < 5) /\ ·) ⟨(by decide), (by decide), ?_⟩
 refine PE.use (within_ok c.kind 1 6) ?_
 refine Ke (An0 2 [(7, .bool (!(inb c.kind 1 6))), (6, .bool (!(inb c.kind 1 6)))] (run_b (fun g4 => ?_) (fun g4 => ?_)))
 have hg4 := g4
 try simp only [KF] at g4
 refine Mn0 true (by rw [hg4]; rfl)
 have hg4 := g4
 try simp only [KF] at g4
 refine Bc1 3 [(9, pth c.path), (8, .ptr 0 1)] 56 [pth c.path, .int .i64 1] 10 (((1 : Nat) ≠ 0) /\ (1 + 1 <= 5 /\ 1 < 5) /\ ·) ⟨(by decide), (by decide), ?_⟩
 refine PE.use (namesOk_ok c.path 1 (by omega) (fun s hs => Nat.lt_trans (wS_mem hs) (by omega))) ?_
 refine Ke (Mn0 (!(pthOk c.path 1)) (by rw [hg4]; rfl))
 refine Cc ((!(inb c.kind 1 6)) || (!(pthOk c.path 1))) (fun hc5 c5 => ?_) fun hc5 c5 => ?_
 try simp only [KF] at c5
 refine Rr (Fn0 [] [(2, .bool false)] (Rt (.bool false) (fin_lea ?_)))
 have hr : callOk c = (false) := by
   unfold callOk
   have hz : ∀ q : inb c.kind 1 6 = false, ¬ (1 <= c.kind /\ c.kind <= 6) := fun q => by simp only [inb, Bool.and_eq_false_iff, decide_eq_false_iff_not] at q; omega
   rcases c5 with q | q
   · have := hz q; (repeat' split) <;> first | rfl | omega
   · (repeat' split) <;> first | rfl | (rw [q, Bool.false_and]) | (rw [q])
 rw [hr]; exact lea_refl _
 try simp only [KF] at c5
 refine Sk (Jn (hK2 (Kp [1] (Sq fun K7 hK7 => ?_))))
 refine Rr (Fn1 [1] [(14, .int .i64 c.kind)] (((1 : Nat) ≠ 0) /\ (0 + 1 <= 5 /\ 0 < 5) /\ ·) ⟨(by decide), (by decide), Bl (Sq fun K9 hK9 => ?_)⟩)
 refine Rr (Cn1 (decide ((c.kind : Int) = (1 : Int))) [1, 14] [(15, .bool (decide ((c.kind : Int) = (1 : Int))))] (Ki /\ ·) ⟨rfl, fun hc11 c11 => ?_, fun hc11 c11 => ?_⟩)
 try simp only [KF] at c11
 refine Sk (Jn (hK9 (Kp [1, 14, 15] (C1 (t := decide ((c.kind : Int) = (1 : Int))) hc11 (Rr (Bc1 3 [(19, .int .i64 c.at_), (18, .ptr 0 3)] 59 [.int .i64 c.at_] 20 (((1 : Nat) ≠ 0) /\ (3 + 1 <= 5 /\ 3 < 5) /\ ·) ⟨(by decide), (by decide), PE.use (modeOk_ok c.at_) ?_⟩))))))
 refine Ke (Fn0 [] [(2, .bool (inb c.at_ 0 7))] (Rt (.bool (inb c.at_ 0 7)) ?_))
 · refine fin_lea ?_
   have hr : callOk c = (inb c.at_ 0 7) := by
     obtain ⟨q1, q2⟩ : inb c.kind 1 6 = true /\ pthOk c.path 1 = true := by simpa using hc5
     have q3 : 1 <= c.kind /\ c.kind <= 6 := by simpa [inb] using q1
     unfold callOk
     (repeat' split) <;> first | omega | (simp only [q2, Bool.true_and]; done) | (rw [q2])
   rw [hr]; exact lea_refl _
 try simp only [KF] at c11
 refine Rb (fun h => Jn (hK9 h)) (Fn1 [1, 14] [(15, .bool (decide ((c.kind : Int) = (6 : Int))))] (Ki /\ ·) ⟨rfl, Cc (decide ((c.kind : Int) = (6 : Int))) (fun hc13 c13 => ?_) fun hc13 c13 => ?_⟩)
 try simp only [KF] at c13
 refine Rr (Bc1 3 [(19, .int .i64 c.at_), (18, .ptr 0 3)] 59 [.int .i64 c.at_] 20 (((1 : Nat) ≠ 0) /\ (3 + 1 <= 5 /\ 3 < 5) /\ ·) ⟨(by decide), (by decide), PE.use (modeOk_ok c.at_) (Ke (Fn0 [] [(2, .bool (inb c.at_ 0 7))] ?_))⟩)
 refine Rt (.bool (inb c.at_ 0 7)) ?_
 · refine fin_lea ?_
   have hr : callOk c = (inb c.at_ 0 7) := by
     obtain ⟨q1, q2⟩ : inb c.kind 1 6 = true /\ pthOk c.path 1 = true := by simpa using hc5
     have q3 : 1 <= c.kind /\ c.kind <= 6 := by simpa [inb] using q1
     unfold callOk
     (repeat' split) <;> first | omega | (simp only [q2, Bool.true_and]; done) | (rw [q2])
   rw [hr]; exact lea_refl _
 try simp only [KF] at c13
 refine Sq fun K15 hK15 => ?_
 refine Rr (Cn1 (decide ((c.kind : Int) = (2 : Int))) [1, 14] [(21, .bool (decide ((c.kind : Int) = (2 : Int))))] (Ki /\ ·) ⟨rfl, fun hc17 c17 => ?_, fun hc17 c17 => ?_⟩)
 try simp only [KF] at c17
 refine Sk (Jn (hK15 (Kp [1, 14, 21] (C1 (t := decide ((c.kind : Int) = (2 : Int))) hc17 (Rr (Bc1 3 [(25, .int .i64 c.at_), (24, .ptr 0 3)] 61 [.int .i64 c.at_, .int .i64 0, .int .i64 24] 26 (((1 : Nat) ≠ 0) /\ (3 + 1 <= 5 /\ 3 < 5) /\ ·) ⟨(by decide), (by decide), PE.use (within_ok c.at_ 0 24) ?_⟩))))))
 refine Ke (Fn0 [] [(2, .bool (inb c.at_ 0 24))] (Rt (.bool (inb c.at_ 0 24)) ?_))
 · refine fin_lea ?_
   have hr : callOk c = (inb c.at_ 0 24) := by
     obtain ⟨q1, q2⟩ : inb c.kind 1 6 = true /\ pthOk c.path 1 = true := by simpa using hc5
     have q3 : 1 <= c.kind /\ c.kind <= 6 := by simpa [inb] using q1
     unfold callOk
     (repeat' split) <;> first | omega | (simp only [q2, Bool.true_and]; done) | (rw [q2])
   rw [hr]; exact lea_refl _
 try simp only [KF] at c17
 refine Rb (fun h => Jn (hK15 h)) (Fn1 [1, 14] [(21, .bool (decide ((c.kind : Int) = (3 : Int))))] (Ki /\ ·) ⟨rfl, Cc (decide ((c.kind : Int) = (3 : Int))) (fun hc19 c19 => ?_) fun hc19 c19 => ?_⟩)
 try simp only [KF] at c19
 refine Rr (Bc1 3 [(25, .int .i64 c.at_), (24, .ptr 0 3)] 61 [.int .i64 c.at_, .int .i64 0, .int .i64 24] 26 (((1 : Nat) ≠ 0) /\ (3 + 1 <= 5 /\ 3 < 5) /\ ·) ⟨(by decide), (by decide), PE.use (within_ok c.at_ 0 24) (Ke (Fn0 [] [(2, .bool (inb c.at_ 0 24))] ?_))⟩)
 refine Rt (.bool (inb c.at_ 0 24)) ?_
 · refine fin_lea ?_
   have hr : callOk c = (inb c.at_ 0 24) := by
     obtain ⟨q1, q2⟩ : inb c.kind 1 6 = true /\ pthOk c.path 1 = true := by simpa using hc5
     have q3 : 1 <= c.kind /\ c.kind <= 6 := by simpa [inb] using q1
     unfold callOk
     (repeat' split) <;> first | omega | (simp only [q2, Bool.true_and]; done) | (rw [q2])
   rw [hr]; exact lea_refl _
 try simp only [KF] at c19
 refine Rr (Cn1 (decide ((c.kind : Int) = (5 : Int))) [1] [] (Ki /\ ·) ⟨rfl, fun hc22 c22 => ?_, fun hc22 c22 => ?_⟩)
 try simp only [KF] at c22
 refine Rr (Bc1 3 [(30, pth c.to), (29, .ptr 0 2)] 56 [pth c.to, .int .i64 1] 31 (((1 : Nat) ≠ 0) /\ (2 + 1 <= 5 /\ 2 < 5) /\ ·) ⟨(by decide), (by decide), PE.use (namesOk_ok c.to 1 (by omega) (fun s hs => Nat.lt_trans (wS_mem hs) (by omega))) (Ke (Fn0 [] [(2, .bool (pthOk c.to 1))] ?_))⟩)
 refine Rt (.bool (pthOk c.to 1)) ?_
 · refine fin_lea ?_
   have hr : callOk c = (pthOk c.to 1) := by
     obtain ⟨q1, q2⟩ : inb c.kind 1 6 = true /\ pthOk c.path 1 = true := by simpa using hc5
     have q3 : 1 <= c.kind /\ c.kind <= 6 := by simpa [inb] using q1
     unfold callOk
     (repeat' split) <;> first | omega | (simp only [q2, Bool.true_and]; done) | (rw [q2])
   rw [hr]; exact lea_refl _
 try simp only [KF] at c22
 refine Sk (Bn (Jn (hK7 (Kp [] (Rr (Fn0 [] [(2, .bool true)] (Rt (.bool true) ?_)))))))
 · refine fin_lea ?_
   have hr : callOk c = (true) := by
     obtain ⟨q1, q2⟩ : inb c.kind 1 6 = true /\ pthOk c.path 1 = true := by simpa using hc5
     have q3 : 1 <= c.kind /\ c.kind <= 6 := by simpa [inb] using q1
     unfold callOk
     (repeat' split) <;> first | omega | (simp only [q2, Bool.true_and]; done) | (rw [q2])
   rw [hr]; exact lea_refl _
end Go.Proofs.YtoekdppgejhikaaGreatT
