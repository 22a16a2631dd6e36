/- A part of the proof that FnTrailFine, on every slice of bytes, returns true (no conditions): rules of the walk, and what the functions compute. -/
import Derived.Test.YtoekdppgejhikaaGreatC3
set_option linter.unusedVariables false
set_option linter.unusedSimpArgs false
namespace Go.Proofs.YtoekdppgejhikaaGreatT
open Go Go.Proofs
set_option maxRecDepth 100000
theorem tat_snoc : ∀ (q : List Str) (T : Tr) (n : Str), tat T (q ++ [n]) = match tat T q with | some t => tat t [n] | none => none
  | [], T, n => by simp only [List.nil_append, tat]
  | m :: q, T, n => by
    rw [List.cons_append, tat_cons, tat_cons]
    cases fnd m T.names with
    | none => rfl
    | some k => exact tat_snoc q _ n
theorem tat_app : ∀ (q p : List Str) (T : Tr), tat T q = none -> tat T (q ++ p) = none
  | [], p, T, h => by simp [tat] at h
  | m :: q, p, T, h => by
    rw [List.cons_append, tat_cons]
    rw [tat_cons] at h
    cases hf : fnd m T.names with
    | none => rfl
    | some k => rw [hf] at h; exact tat_app q p _ h
def kdp (t : Tr) (nm : Str) : AV := match fnd nm t.names with | some k => .pat (tcs (t.kids.getD k default)) | none => .nilp
def atp (t : Tr) (p : List Str) : AV := match tat t p with | some x => .pat (tcs x) | none => .nilp
def tAt (t : Tr) (p : List Str) : Tr × Bool := bif treeOk t then (xat t p, (tat t p).isSome) else (.none, false)
@[go_sem] theorem pur_kdp (t : Tr) (nm : Str) : pur (kdp t nm) = true := by
  unfold kdp; cases fnd nm t.names <;> simp only [go_sem]
@[go_sem] theorem pur_atp (t : Tr) (p : List Str) : pur (atp t p) = true := by
  unfold atp; cases tat t p <;> simp only [go_sem]
theorem clonep_ok : ∀ (N : Nat) (t : Tr), t.W = N -> t.W < 2 ^ 40 -> PE G 41 [.agg (tcs t)] (.agg (tcs t)) := by
 intro N; refine Nat.strongRecOn N fun N ih => ?_; intro t hN hw; rw [W_eq] at hN hw; have hks := Ws_len t.kids; have hns := wS_len t.names
 refine Pe Tryz.func41 ?_
 refine Rr (Fn2 [] [(2, .ptr 4 0), (1, .ptr 0 0)] [(4, zt), (0, tcs t)] 8 (Rr (Fn3 [1, 2] [(3, .osl 8 5 0 0)] [(8, []), (4, zt), (0, tcs t)] 12 ((0 * 5 <= 16777216) /\ ·) ⟨(by decide), Sq fun K3 hK3 => ?_⟩)))
 refine Rr (Av1 (r := .int .i64 ((t.kids.map trc).length : Nat)) (v := .int .i64 t.kids.length) 3 9 [(8, .sl 5 (t.kids.map trc)), (7, .ptr 0 4)] (by rw [List.length_map]) (((1 : Nat) ≠ 0) /\ (4 + 1 <= 5 /\ 4 < 5) /\ ·) ⟨(by decide), (by decide), Fn0 [1, 2, 3, 8, 9] [(10, .int .i64 0)] (Bl (h_l (fun (k : Nat) => ([(1, .ptr 0 0), (2, .ptr 4 0), (3, .osl 8 5 0 ((t.kids.take k).length)), (8, .sl 5 (t.kids.map trc)), (9, .int .i64 t.kids.length), (10, .int .i64 k)] : Fr)) (fun (k : Nat) => ([(8, fl trc (t.kids.take k)), (4, zt), (0, tcs t)] : Hp)) (fun (k : Nat) cn => (k <= t.kids.length) /\ cn = 12) (fun (k : Nat) => t.kids.length - k) 0 (by kernel_rfl) ?_ ?_ ?_ ?_))⟩)
 refine ⟨?_, rfl⟩; omega
 exact ⟨by kernel_rfl, by kernel_rfl, by kernel_rfl, by kernel_rfl, by kernel_rfl, by kernel_rfl, trivial⟩
 exact (sub_c (by kernel_rfl) (sub_c (by kernel_rfl) (sub_c (by kernel_rfl) (List.nil_sublist _))))
 rintro k n1 hI
 (try dsimp only at hI)
 obtain ⟨hk, rfl⟩ := hI
 have hkl : (t.kids.take k).length = k := tkl hk
 refine Rr (Fn1 [1, 2, 3, 8, 9, 10] [(11, .bool (decide ((k : Int) < (t.kids.length : Int))))] (Ki /\ ·) ⟨rfl, Sq fun K6 hK6 => ?_⟩)
 refine Cc (decide ((k : Int) < (t.kids.length : Int))) (fun hc7 c7 => ?_) fun hc7 c7 => ?_
 try simp only [KF] at c7
 refine Sk (Jn (hK6 (Kp [1, 2, 3, 8, 9, 10] (Sq fun K8 hK8 => ?_))))
 refine Bl (Rr (Av1 1 12 [] (congrArg AV.pat (mg_trc t.kids k (by omega))) ((5 = 5 /\ (0 : Int) <= (k : Int) /\ (k : Int) < ((t.kids.map trc).length : Int)) /\ ·) ⟨⟨rfl, by omega, by rw [List.length_map]; omega⟩, Fn3 [1, 2, 3, 8, 9, 10] [(5, .ptr 12 0)] [(12, tcs (t.kids.getD k default)), (8, fl trc (t.kids.take k)), (4, zt), (0, tcs t)] 16 ((5 <= 5 /\ 0 < 5) /\ (true = true /\ 5 = 5 /\ 0 + 5 <= 5) /\ ·) ⟨(by decide), (by decide), Rb (fun h => Bn (Jn (hK8 h))) ?_⟩⟩))
 have hW := Ws_get t.kids k (by omega)
 refine Pc1 3 [(15, .agg (tcs (t.kids.getD k default))), (14, .osl 8 5 0 ((t.kids.take k).length))] 16 (0 + 5 <= 5 /\ 0 < 5) (by decide) (ih _ (by omega) (t.kids.getD k default) rfl (by omega)) (An3 2 [(18, .osl 20 5 0 ((t.kids.take k).length + 1)), (17, .osl 16 5 0 1)] [(20, apd (fl trc (t.kids.take k)) ((t.kids.take k).length * 5) (tcs (t.kids.getD k default))), (16, tcs (t.kids.getD k default)), (12, tcs (t.kids.getD k default)), (4, zt), (0, tcs t)] 24 ((1 * 5 <= 16777216) /\ (0 + 1 * 5 <= 5) /\ (5 = 5 /\ (t.kids.take k).length * 5 <= (fl trc (t.kids.take k)).length /\ 0 < 80 /\ ((t.kids.take k).length + 1) * 80 <= 140737488355328) /\ ·) ⟨(by decide), (by decide), ⟨rfl, by (first | omega | (simp only [LL]; omega)), by decide, by (first | omega | (simp only [LL]; omega))⟩, run_v (v' := .osl 20 5 0 ((t.kids.take k ++ [(t.kids.getD k default)]).length)) (push_len _ _ _ _) (run_h (cs' := fl trc (t.kids.take k ++ [(t.kids.getD k default)])) (push_trc (t.kids.take k) (t.kids.getD k default)) (Fn0 [1, 2, 8, 9, 10] [(3, .osl 20 5 0 ((t.kids.take k ++ [(t.kids.getD k default)]).length))] ?_))⟩)
 refine Rn (Av1 1 19 [] (congrArg (AV.int .i64) (wn1 k (by omega))) (Ki /\ ·) ⟨rfl, Gn0 [(10, .int .i64 ((k + 1 : Nat) : Int))] (nk_n (Lr (k + 1) [(0, 0), (4, 4), (20, 8)] 12 [(1, .ptr 0 0), (2, .ptr 4 0), (3, .osl 20 5 0 ((t.kids.take k ++ [(t.kids.getD k default)]).length)), (8, .sl 5 (t.kids.map trc)), (9, .int .i64 t.kids.length), (10, .int .i64 ((k + 1 : Nat) : Int))] [(20, fl trc (t.kids.take k ++ [(t.kids.getD k default)])), (4, zt), (0, tcs t)] [false, true, true] ?_ ?_ (by (try rw [<- take_snoc t.kids k default (by omega)]); try kernel_rfl) (by (try rw [<- take_snoc t.kids k default (by omega)]); try kernel_rfl)))⟩)
 (try dsimp only); omega
 refine ⟨?_, rfl⟩; (try dsimp only); omega
 try simp only [KF] at c7
 refine Xt (Jx (Lx (Bh (Jn (hK3 (Kp [1, 2, 3] (Rr (An3 4 [(23, .osl 16 1 0 (0 + (t.names.map (fun s => [AV.str s])).length)), (22, pth t.names), (21, .ptr 0 3), (20, .osl 12 1 0 0)] [(16, apd [] (0 * 1) ((t.names.map (fun s => [AV.str s])).flatten)), (8, fl trc (t.kids.take k)), (4, zt), (0, tcs t)] 20 ((0 * 1 <= 16777216) /\ ((1 : Nat) ≠ 0) /\ (3 + 1 <= 5 /\ 3 < 5) /\ True /\ (1 = 1 /\ 0 * 1 <= 0 /\ 0 < 16 /\ (0 + (t.names.map (fun s => [AV.str s])).length) * 16 <= 140737488355328) /\ ·) ⟨(by decide), (by decide), (by decide), trivial, ⟨rfl, by (first | omega | (simp only [LL]; omega)), by decide, by (first | omega | (simp only [LL]; omega))⟩, run_v (v' := .osl 16 1 0 t.names.length) (by rw [Nat.zero_add, List.length_map]) (run_h (cs' := fl sc t.names) (app0_str _) ?_)⟩))))))))
 refine Fn3 [1, 2, 3] [] [(16, fl sc t.names), (8, fl trc (t.kids.take k)), (4, zt), (0, [.bool t.dir, .int .i64 t.mode, .str t.data, .osl 16 1 0 t.names.length, .sl 5 (t.kids.map trc)])] 20 (((1 : Nat) ≠ 0) /\ (true = true /\ 1 = 1 /\ 3 + 1 <= 5) /\ ·) ⟨(by decide), (by decide), Rr (Fn3 [1, 2] [] [(16, fl sc t.names), (8, fl trc (t.kids.take k)), (4, zt), (0, [.bool t.dir, .int .i64 t.mode, .str t.data, .osl 16 1 0 t.names.length, .osl 8 5 0 ((t.kids.take k).length)])] 20 (((1 : Nat) ≠ 0) /\ (true = true /\ 1 = 1 /\ 4 + 1 <= 5) /\ ·) ⟨(by decide), (by decide), Rr (Fn3 [2] [] [(16, fl sc t.names), (8, fl trc (t.kids.take k)), (4, [.bool t.dir, .int .i64 t.mode, .str t.data, .osl 16 1 0 t.names.length, .osl 8 5 0 ((t.kids.take k).length)]), (0, [.bool t.dir, .int .i64 t.mode, .str t.data, .osl 16 1 0 t.names.length, .osl 8 5 0 ((t.kids.take k).length)])] 20 ((0 + 5 <= 5 /\ 0 < 5) /\ (true = true /\ 5 = 5 /\ 0 + 5 <= 5) /\ ·) ⟨(by decide), (by decide), ?_⟩)⟩)⟩
 refine FzS 16 t.names [(2, .ptr 4 0)] [(8, fl trc (t.kids.take k)), (4, [.bool t.dir, .int .i64 t.mode, .str t.data, .osl 16 1 0 t.names.length, .osl 8 5 0 ((t.kids.take k).length)])] [false, true] (FzT 8 (t.kids.take k) [(2, .ptr 4 0)] [(4, [.bool t.dir, .int .i64 t.mode, .str t.data, pth t.names, .osl 8 5 0 ((t.kids.take k).length)])] [true] (Rt1 ((0 + 5 <= 5 /\ 0 < 5) /\ ·) (.agg [.bool t.dir, .int .i64 t.mode, .str t.data, pth t.names, .sl 5 ((t.kids.take k).map trc)]) ⟨(by decide), fin_lea ?_⟩))
 rw [List.take_of_length_le (by omega)]; exact lea_refl _
theorem kidp_ok (t : Tr) (nm : Str) (hns : t.names.length < 2 ^ 40) (hwf : t.wf = true) : PE G 63 [.pat (tcs t), .str nm] (kdp t nm) := by
 have hwl := wf_len hwf
 refine Pe Tryz.func63 ?_
 refine Rr (Fn0 [0, 1] [] (Rr (Bc1 6 [(10, .str nm), (9, pth t.names), (8, .pat [pth t.names, .sl 5 (t.kids.map trc)]), (7, .pat (tcs t)), (6, .pat (tcs t))] 78 [pth t.names, .str nm] 11 (((1 : Nat) ≠ 0) /\ (1 <= 2 /\ 0 < 2) /\ ·) ⟨(by decide), (by decide), PE.use (index_ok t.names nm (by omega)) ?_⟩)))
 refine Ke (Fn0 [0] [(5, .int .i64 (fndI nm t.names))] (Sq fun K3 hK3 => ?_))
 refine Rm 22 ((decide ((fndI nm t.names : Int) < (0 : Int))) || (decide ((t.kids.length : Int) <= fndI nm t.names))) [0, 5] ?_ ?_
 refine An1 3 [(14, .bool (decide ((fndI nm t.names : Int) < (0 : Int)))), (13, .bool (decide ((fndI nm t.names : Int) < (0 : Int)))), (12, .int .i64 (fndI nm t.names))] (Ki /\ ·) ⟨rfl, run_b (fun g5 => ?_) (fun g5 => ?_)⟩
 have hg5 := g5
 try simp only [KF] at g5
 refine Mn0 true (by rw [hg5]; rfl)
 have hg5 := g5
 try simp only [KF] at g5
 refine Av1 (r := .int .i64 ((t.kids.map trc).length : Nat)) (v := .int .i64 t.kids.length) 6 20 [(19, .sl 5 (t.kids.map trc)), (18, .pat [.sl 5 (t.kids.map trc)]), (17, .pat (tcs t)), (16, .pat (tcs t)), (15, .int .i64 (fndI nm t.names))] (by rw [List.length_map]) (((1 : Nat) ≠ 0) /\ (1 <= 1 /\ 0 < 1) /\ ·) ⟨(by decide), (by decide), Mn1 (decide ((t.kids.length : Int) <= fndI nm t.names)) (Ki /\ ·) ⟨rfl, (by rw [hg5]; rfl)⟩⟩
 refine Cc ((decide ((fndI nm t.names : Int) < (0 : Int))) || (decide ((t.kids.length : Int) <= fndI nm t.names))) (fun hc6 c6 => ?_) fun hc6 c6 => ?_
 try simp only [KF] at c6
 refine Rr (Fn0 [] [(4, .nilp)] (Rt (.nilp) (fin_lea ?_)))
 unfold kdp
 rw [fndI_no (by rcases Decidable.em (fndI nm t.names < 0) with h | h; exact h; exfalso; obtain ⟨k, e1, e2, e3⟩ := fndI_lt (n := nm) (l := t.names) (by omega); omega)]; exact lea_refl _
 try simp only [KF] at c6
 refine Sk (Jn (hK3 (Kp [0, 5] (Rr (Av1 6 28 [(27, .int .i64 (fndI nm t.names)), (26, .sl 5 (t.kids.map trc)), (25, .pat [.sl 5 (t.kids.map trc)]), (24, .pat (tcs t)), (23, .pat (tcs t))] (congrArg AV.pat (mg_trc t.kids ((fndI nm t.names).toNat) (by omega))) (((1 : Nat) ≠ 0) /\ (1 <= 1 /\ 0 < 1) /\ (5 = 5 /\ (0 : Int) <= fndI nm t.names /\ fndI nm t.names < ((t.kids.map trc).length : Int)) /\ ·) ⟨(by decide), (by decide), ⟨rfl, by omega, by rw [List.length_map]; omega⟩, Fn0 [] [(4, .pat (tcs (t.kids.getD ((fndI nm t.names).toNat) default)))] (Rt (.pat (tcs (t.kids.getD ((fndI nm t.names).toNat) default))) ?_)⟩)))))
 refine fin_lea ?_
 obtain ⟨kk, e1, e2, e3⟩ := fndI_lt (n := nm) (l := t.names) (by omega)
 unfold kdp
 rw [e1, e2, Int.toNat_natCast]; exact lea_refl _
theorem atp_ok (t : Tr) (p : List Str) (hw : t.W < 2 ^ 40) (hwf : t.wf = true) (hp : p.length < 2 ^ 40) : PE G 43 [.pat (tcs t), pth p] (atp t p) := by
 refine Pe Tryz.func43 ?_
 refine Rr (Fn0 [0, 1] [] (Sq fun K2 hK2 => ?_))
 refine Rr (Av0 (r := .int .i64 ((p.map (fun s => [AV.str s])).length : Nat)) (v := .int .i64 p.length) 2 8 [(7, pth p)] (by rw [List.length_map]) (Fn0 [0, 7, 8] [(9, .int .i64 0)] (Bl (h_l (fun (z : Nat × Tr) => (match z with | (k, u) => ([(0, .pat (tcs u)), (7, pth p), (8, .int .i64 p.length), (9, .int .i64 k)] : Fr))) (fun (z : Nat × Tr) => (match z with | (k, u) => ([] : Hp))) (fun (z : Nat × Tr) cn => (match z with | (k, u) => (tat t (p.take k) = some u /\ k <= p.length /\ u.wf = true /\ u.W <= t.W) /\ cn = 0)) (fun (z : Nat × Tr) => p.length - z.1) (0, t) (by kernel_rfl) ?_ ?_ ?_ ?_))))
 refine ⟨?_, rfl⟩; exact ⟨rfl, Nat.zero_le _, hwf, Nat.le_refl _⟩
 exact ⟨by kernel_rfl, by kernel_rfl, by kernel_rfl, by kernel_rfl, trivial⟩
 exact (List.nil_sublist _)
 rintro ⟨k, u⟩ n1 hI
 (try dsimp only at hI)
 obtain ⟨⟨h1, hk, huw, huW⟩, rfl⟩ := hI
 have hun := wS_len u.names
 have huE := W_eq u
 refine Rr (Fn1 [0, 7, 8, 9] [(10, .bool (decide ((k : Int) < (p.length : Int))))] (Ki /\ ·) ⟨rfl, Sq fun K5 hK5 => ?_⟩)
 refine Cc (decide ((k : Int) < (p.length : Int))) (fun hc6 c6 => ?_) fun hc6 c6 => ?_
 try simp only [KF] at c6
 refine Sk (Jn (hK5 (Kp [0, 7, 8, 9] (Sq fun K7 hK7 => ?_))))
 refine Bl (Rr (Av1 1 11 [] (congrArg AV.pat (mg_str p k (by omega))) ((1 = 1 /\ (0 : Int) <= (k : Int) /\ (k : Int) < ((p.map (fun s => [AV.str s])).length : Int)) /\ ·) ⟨⟨rfl, by omega, by rw [List.length_map]; omega⟩, Fn1 [0, 7, 8, 9] [(6, .str (p.getD k default))] ((1 <= 1 /\ 0 < 1) /\ ·) ⟨(by decide), Rr ?_⟩⟩))
 refine Bc0 3 [(14, .str (p.getD k default)), (13, .pat (tcs u))] 63 [.pat (tcs u), .str (p.getD k default)] 15 ?_
 refine PE.use (kidp_ok u (p.getD k default) (by omega) (by assumption)) ?_
 unfold kdp
 rcases hf : fnd (p.getD k default) u.names with _ | kk
 dsimp only
 refine Ke (Fn0 [7, 8, 9] [(0, .nilp)] (Rr (Fn1 [0, 7, 8, 9] [(17, .bool true)] ((∃ e, TK.ptr 26 = TK.ptr e) /\ ·) ⟨⟨_, rfl⟩, Ct ?_⟩)))
 refine Rr (Fn0 [] [(4, .nilp)] (Rt (.nilp) (fin_lea ?_)))
 unfold atp
 rw [show tat t p = none by rw [<- List.take_append_drop (k + 1) p]; refine tat_app _ _ _ ?_; rw [take_snoc p k default (by omega), tat_snoc, h1]; simp only [tat, hf]]; exact lea_refl _
 dsimp only
 have hkk := fnd_lt hf
 refine Ke (Fn0 [7, 8, 9] [(0, .pat (tcs (u.kids.getD kk default)))] (Rr (Fn1 [0, 7, 8, 9] [(17, .bool false)] ((∃ e, TK.ptr 26 = TK.ptr e) /\ ·) ⟨⟨_, rfl⟩, Cf ?_⟩)))
 refine Sk (Bn (Jn (hK7 (Kp [0, 7, 8, 9] (Rn (Av1 1 18 [] (congrArg (AV.int .i64) (wn1 k (by omega))) (Ki /\ ·) ⟨rfl, Gn0 [(9, .int .i64 ((k + 1 : Nat) : Int))] (nk_n ?_)⟩))))))
 have hwu := wf_len huw
 have hkW := Ws_get u.kids kk (by omega)
 refine Lr (k + 1, u.kids.getD kk default) [] 0 [(0, .pat (tcs (u.kids.getD kk default))), (7, pth p), (8, .int .i64 p.length), (9, .int .i64 ((k + 1 : Nat) : Int))] [] [] ?_ ?_ (by kernel_rfl) (by kernel_rfl)
 (try dsimp only); omega
 refine ⟨?_, rfl⟩; (try dsimp only); refine ⟨?_, by omega, wf_kid huw (by omega) _, by omega⟩
 rw [take_snoc p k default (by omega), tat_snoc, h1]; simp only [tat, hf]; rfl
 try simp only [KF] at c6
 refine Xt (Jx (Lx (Bh (Jn (hK2 (Kp [0] (Rr (Fn0 [] [(4, .pat (tcs u))] (Rt (.pat (tcs u)) (fin_lea ?_))))))))))
 unfold atp
 rw [List.take_of_length_le (by omega)] at h1
 rw [h1]; exact lea_refl _
theorem wtTexts_ok (p q : List Str) (hp : p.length < 2 ^ 40) (hq : q.length < 2 ^ 40) : PE G 24 [pth p, pth q] (.bool (p == q)) := by
 refine Pe Tryz.func24 ?_
 refine Rr (Fn0 [0, 1] [] (Sq fun K2 hK2 => ?_))
 refine Rr (Av0 (r := .int .i64 ((p.map (fun s => [AV.str s])).length : Nat)) (v := .int .i64 p.length) 2 7 [(6, pth p)] (by rw [List.length_map]) (Av0 (r := .int .i64 ((q.map (fun s => [AV.str s])).length : Nat)) (v := .int .i64 q.length) 2 9 [(8, pth q)] (by rw [List.length_map]) (Cn1 (!decide ((p.length : Int) = (q.length : Int))) [0, 1] [] (Ki /\ ·) ⟨rfl, fun hc4 c4 => ?_, fun hc4 c4 => ?_⟩)))
 try simp only [KF] at c4
 refine Rr (Fn0 [] [(4, .bool false)] (Rt (.bool false) (fin_lea ?_)))
 have hr : (p == q) = false := by
   rw [beq_eq_false_iff_ne]; intro e; subst e
   omega
 rw [hr]; exact lea_refl _
 try simp only [KF] at c4
 refine Sk (Jn (hK2 (Kp [0, 1] (Sq fun K6 hK6 => ?_))))
 refine Rr (Fn0 [0, 1] [(5, .int .i64 0)] (Bl (h_l (fun (k : Nat) => ([(0, pth p), (1, pth q), (5, .int .i64 k)] : Fr)) (fun (k : Nat) => ([] : Hp)) (fun (k : Nat) cn => (k <= p.length /\ p.take k = q.take k) /\ cn = 0) (fun (k : Nat) => p.length - k) 0 (by kernel_rfl) ?_ ?_ ?_ ?_)))
 refine ⟨?_, rfl⟩; exact ⟨Nat.zero_le _, rfl⟩
 exact ⟨by kernel_rfl, by kernel_rfl, by kernel_rfl, trivial⟩
 exact (List.nil_sublist _)
 rintro k n1 hI
 (try dsimp only at hI)
 obtain ⟨⟨hk, hpre⟩, rfl⟩ := hI
 refine Sq fun K8 hK8 => ?_
 refine Rr (Av0 (r := .int .i64 ((p.map (fun s => [AV.str s])).length : Nat)) (v := .int .i64 p.length) 3 13 [(12, pth p), (11, .int .i64 k)] (by rw [List.length_map]) (Cn1 (decide ((k : Int) < (p.length : Int))) [0, 1, 5] [] (Ki /\ ·) ⟨rfl, fun hc10 c10 => ?_, fun hc10 c10 => ?_⟩))
 try simp only [KF] at c10
 refine Sk (Jn (hK8 (Kp [0, 1, 5] (Sq fun K11 hK11 => ?_))))
 refine Bl (Qr [0, 0, 3, 7, 0, 0, 48, 112, 255] [(0, []), (1, []), (2, []), (3, []), (4, []), (5, []), (6, []), (7, []), (8, [])] (qAv1 3 19 [(18, .int .i64 k), (17, pth p)] (congrArg AV.pat (mg_str p k (by omega))) ((1 = 1 /\ (0 : Int) <= (k : Int) /\ (k : Int) < ((p.map (fun s => [AV.str s])).length : Int)) /\ ·) ⟨⟨rfl, by omega, by rw [List.length_map]; omega⟩, qAv1 4 23 [(22, .int .i64 k), (21, pth q), (20, .str (p.getD k default))] (congrArg AV.pat (mg_str q k (by omega))) ((1 <= 1 /\ 0 < 1) /\ (1 = 1 /\ (0 : Int) <= (k : Int) /\ (k : Int) < ((q.map (fun s => [AV.str s])).length : Int)) /\ ·) ⟨(by decide), ⟨rfl, by omega, by rw [List.length_map]; omega⟩, qCn1 (!((p.getD k default) == (q.getD k default))) [0, 1, 5] [] ((1 <= 1 /\ 0 < 1) /\ ·) ⟨(by decide), fun hc13 c13 => ?_, fun hc13 c13 => ?_⟩⟩⟩))
 try simp only [KF] at c13
 refine Rr (Fn0 [] [(4, .bool false)] (Rt (.bool false) (fin_lea ?_)))
 have hr : (p == q) = false := by
   rw [beq_eq_false_iff_ne]; intro e; subst e
   simp at hc13
 rw [hr]; exact lea_refl _
 try simp only [KF] at c13
 refine Sk (Bn (Jn (hK11 (Kp [0, 1, 5] (Rn (Av1 2 16 [(15, .int .i64 k)] (congrArg (AV.int .i64) (wn1 k (by omega))) (Ki /\ ·) ⟨rfl, Gn0 [(5, .int .i64 ((k + 1 : Nat) : Int))] (nk_n ?_)⟩))))))
 refine Lr (k + 1) [] 0 [(0, pth p), (1, pth q), (5, .int .i64 ((k + 1 : Nat) : Int))] [] [] ?_ ?_ (by kernel_rfl) (by kernel_rfl)
 (try dsimp only); omega
 refine ⟨?_, rfl⟩; (try dsimp only); refine ⟨by omega, ?_⟩; rw [take_snoc q k default (by omega), take_snoc p k default (by omega), hpre]; congr 2; simpa using hc13
 try simp only [KF] at c10
 refine Xt (Jx (Lx (Bh (Jn (hK6 (Kp [] (Rr (Fn0 [] [(4, .bool true)] (Rt (.bool true) (fin_lea ?_))))))))))
 have hr : (p == q) = true := by
   rw [List.take_of_length_le (by omega), List.take_of_length_le (by omega)] at hpre
   rw [hpre, beq_self_eq_true]
 rw [hr]; exact lea_refl _
set_option maxRecDepth 100000
def iRename (t : Tr) (c : Cl) : Tr × Int := match tat t c.path with
 | none => (t, 3)
 | some x => bif c.path.isPrefixOf c.to then (t, 7) else bif !decide (parC t c.to = (0 : Int)) then (t, parC t c.to) else
  match tat t c.to with
  | some _ => (t, 5)
  | none => (tset c.path (tset c.to t x false) .none true, 0)
def iDo (t : Tr) (c : Cl) : Tr × Int :=
 bif !decide (parC t c.path = (0 : Int)) then (t, parC t c.path) else
 bif decide (c.kind = (1 : Int)) then (match tat t c.path with | some _ => (t, 5) | none => (tset c.path t (newDir c.at_) false, 0)) else
 bif decide (c.kind = (2 : Int)) then (match tat t c.path with
  | some x => bif x.dir then (t, 4) else bif decide ((24 : Int) < c.at_ + ((c.data.length : Nat) : Int)) then (t, 6) else (tset c.path t (wData x (wrt x.data c.at_ c.data)) false, 0)
  | none => bif decide ((24 : Int) < c.at_ + ((c.data.length : Nat) : Int)) then (t, 6) else (tset c.path t (wData .none (wrt [] c.at_ c.data)) false, 0)) else
 bif decide (c.kind = (3 : Int)) then (match tat t c.path with
  | none => (t, 3)
  | some x => bif x.dir then (t, 4) else (tset c.path t (wData x (szd x.data c.at_)) false, 0)) else
 bif decide (c.kind = (4 : Int)) then (match tat t c.path with
  | none => (t, 3)
  | some x => bif x.dir && decide ((0 : Int) < ((x.names.length : Nat) : Int)) then (t, 5) else (tset c.path t .none true, 0)) else
 bif decide (c.kind = (5 : Int)) then iRename t c else
 bif decide (c.kind = (6 : Int)) then (match tat t c.path with
  | none => (t, 3)
  | some x => (tset c.path t (wMode x c.at_) false, 0)) else (t, 0)
theorem last_snoc {p : List Str} (h : 0 < p.length) : p.take (p.length - 1) ++ [p.getD (((p.length : Nat) : Int) - 1).toNat default] = p := by
 rw [show (((p.length : Nat) : Int) - 1).toNat = p.length - 1 by omega, <- take_snoc p (p.length - 1) default (by omega), show p.length - 1 + 1 = p.length by omega, List.take_length]
theorem oat_kid_none {T u : OT} {q : List Str} {nm : Str} (hu : oat T q = some u) (h : oat T (q ++ [nm]) = none) : fnd nm u.names = none := by
 rw [oat_snoc, hu] at h
 simp only [oat] at h
 cases hf : fnd nm u.names with
 | none => rfl
 | some k => rw [hf] at h; cases h
theorem oat_kid_some {T u y : OT} {q : List Str} {nm : Str} (hu : oat T q = some u) (h : oat T (q ++ [nm]) = some y) : ∃ k, fnd nm u.names = some k /\ u.kids.getD k default = y := by
 rw [oat_snoc, hu] at h
 simp only [oat] at h
 cases hf : fnd nm u.names with
 | none => rw [hf] at h; cases h
 | some k => rw [hf] at h; exact ⟨k, rfl, by simpa using h⟩
theorem fnd_ins {nm n : Str} (hne : n ≠ nm) (l : List Str) (j k : Nat) (h : fnd n l = some k) : fnd n (l.take j ++ [nm] ++ l.drop j) = some (if k < j then k else k + 1) := by
 have h1 : fnd n (l.take j ++ l.drop j) = some k := by rw [List.take_append_drop]; exact h
 rw [fnd_app] at h1
 rw [List.append_assoc, fnd_app]
 have h2 : fnd n ([nm] ++ l.drop j) = (fnd n (l.drop j)).map (· + 1) := by
  show fnd n (nm :: l.drop j) = _
  rw [fnd, show (nm == n) = false by simpa using Ne.symm hne]; rfl
 rw [h2]
 cases hf : fnd n (l.take j) with
 | some i =>
  rw [hf] at h1
  simp only [Option.some.injEq] at h1
  subst h1
  have := fnd_lt hf
  rw [List.length_take] at this
  simp only [show i < j by omega, if_true]
 | none =>
  rw [hf] at h1
  dsimp only at h1 ⊢
  cases hd : fnd n (l.drop j) with
  | none => rw [hd] at h1; cases h1
  | some i =>
   rw [hd] at h1
   simp only [Option.map_some, Option.some.injEq, List.length_take] at h1 ⊢
   have := fnd_lt hd
   rw [List.length_drop] at this
   split <;> omega
theorem getD_ins {α : Type} (l : List α) (x d : α) (j k : Nat) (hj : j <= l.length) (hk : k < l.length) : (l.take j ++ [x] ++ l.drop j).getD (if k < j then k else k + 1) d = l.getD k d := by
 simp only [List.getD_eq_getElem?_getD]
 congr 1
 split
 ·rename_i h
  rw [List.append_assoc, List.getElem?_append_left (by simp; omega), List.getElem?_take, if_pos h]
 ·rename_i h
  rw [List.getElem?_append_right (by simp; omega), List.getElem?_drop]
  congr 1
  simp; omega
theorem put_keeps {x : Tr} : ∀ (to : List Str) (t q : Tr) (p : List Str) (v : Tr), t.wf = true -> tnd t -> asc q.names = true -> to ≠ [] -> tat t (to.take (to.length - 1)) = some q -> tat t to = none -> tat t p = some v -> ∃ v', tat (tset to t x false) p = some v' /\ v'.dir = v.dir
 | [], _, _, _, _, _, _, _, h, _, _, _ => absurd rfl h
 | [nm], t, q, p, v, hw, hn, ha, _, hq, hz, hp => by
  simp only [List.length_cons, List.length_nil, Nat.zero_add, Nat.sub_self, List.take_zero, tat, Option.some.injEq] at hq
  subst hq
  rw [tat_cons] at hz
  have hf : fnd nm t.names = none := by
   cases hf : fnd nm t.names with
   | none => rfl
   | some k => rw [hf] at hz; simp [tat] at hz
  have hwl := wf_len hw
  obtain ⟨j, h1, h2, h3⟩ : ∃ j, j <= t.names.length /\ (∀ l, l < j -> blt (t.names.getD l default) nm = true) /\ (∀ l, j <= l -> l < t.names.length -> blt (t.names.getD l default) nm = false) := by
   have key : ∀ m, m <= t.names.length -> (∀ l, l < m -> blt (t.names.getD l default) nm = true) \/ ∃ j, j < m /\ (∀ l, l < j -> blt (t.names.getD l default) nm = true) /\ blt (t.names.getD j default) nm = false := by
    intro m
    induction m with
    | zero => intro _; exact .inl fun l hl => by omega
    | succ m ih =>
     intro hm
     rcases ih (by omega) with h | ⟨j, h1, h2, h3⟩
     ·cases hb : blt (t.names.getD m default) nm with
      | true =>
       refine .inl fun l hl => ?_
       rcases Nat.lt_or_ge l m with h' | h'
       ·exact h l h'
       ·obtain rfl : l = m := by omega
        exact hb
      | false => exact .inr ⟨m, by omega, h, hb⟩
     ·exact .inr ⟨j, by omega, h2, h3⟩
   rcases key _ (Nat.le_refl _) with h | ⟨j, h1, h2, h3⟩
   ·exact ⟨_, Nat.le_refl _, h, fun l h1 h2 => by omega⟩
   ·exact ⟨j, by omega, h2, bs_dn ha h3⟩
  have h4 : j < t.names.length -> t.names.getD j default ≠ nm := fun hj he => fnd_none hf (by rw [<- he]; simp [List.getD, hj])
  rw [tset_new hwl ha h1 h2 h3 h4]
  cases p with
  | nil => exact ⟨_, rfl, by simp only [tat, Option.some.injEq] at hp; subst hp; rfl⟩
  | cons n p =>
   rw [tat_cons] at hp ⊢
   cases hk : fnd n t.names with
   | none => rw [hk] at hp; cases hp
   | some k =>
    rw [hk] at hp
    have hne : n ≠ nm := fun e => by rw [e, hf] at hk; cases hk
    have hkl := fnd_lt hk
    rw [Tr.names_mk, Tr.kids_mk, fnd_ins hne _ _ _ hk]
    dsimp only
    rw [getD_ins _ _ _ _ _ (by omega) (by omega)]
    exact ⟨v, hp, rfl⟩
 | m :: n :: to, t, q, p, v, hw, hn, ha, _, hq, hz, hp => by
  have hwl := wf_len hw
  rw [tset_deep hwl ((tnd_eq t).1 hn).1 (by simp)]
  rw [show (m :: n :: to).length - 1 = (n :: to).length - 1 + 1 by simp, List.take_succ_cons, tat_cons] at hq
  rw [tat_cons] at hz
  cases hf : fnd m t.names with
  | none => rw [hf] at hq; cases hq
  | some k =>
   rw [hf] at hq hz
   have hk : k < t.kids.length := by rw [<- hwl]; exact fnd_lt hf
   dsimp only
   cases p with
   | nil => exact ⟨_, rfl, by simp only [tat, Option.some.injEq] at hp; subst hp; rfl⟩
   | cons n' p =>
    rw [tat_cons] at hp ⊢
    rw [Tr.names_mk, Tr.kids_mk]
    cases hk' : fnd n' t.names with
    | none => rw [hk'] at hp; cases hp
    | some k' =>
     rw [hk'] at hp
     dsimp only at hp ⊢
     rcases Nat.decEq k k' with hne | heq
     ·refine ⟨v, ?_, rfl⟩
      rw [<- hp]
      congr 1
      simp only [List.getD_eq_getElem?_getD, List.getElem?_set_ne hne]
     ·subst heq
      obtain ⟨v', e1, e2⟩ := put_keeps (x := x) (n :: to) (t.kids.getD k default) q p v (wf_kid hw hk _) (tnds_get ((tnd_eq t).1 hn).2 hk) ha (by simp) hq hz hp
      refine ⟨v', ?_, e2⟩
      rw [<- e1]
      congr 1
      simp [List.getD_eq_getElem?_getD, hk]
theorem nodup_ins {nm : Str} {l : List Str} (j : Nat) (h : nm ∉ l) (hn : l.Nodup) : (l.take j ++ [nm] ++ l.drop j).Nodup := by
 have : (l.take j ++ [nm] ++ l.drop j).Perm (nm :: l) := by
  have h1 : (l.take j ++ nm :: l.drop j).Perm (nm :: (l.take j ++ l.drop j)) := List.perm_middle
  rw [List.take_append_drop] at h1
  rw [List.append_assoc]
  exact h1
 exact (List.Perm.nodup_iff this).2 (List.nodup_cons.2 ⟨h, hn⟩)
theorem tnds_take {ks : List Tr} (h : tnds ks) (j : Nat) : tnds (ks.take j) /\ tnds (ks.drop j) := by
 rw [<- List.take_append_drop j ks] at h
 exact tnds_app.1 h
theorem tnd_ins {u' : OT} {u x : OT} {nm : Str} {j k k' : Nat} (hu : u' = .mk u.dir u.mode u.data (some (k, k')) (u.names.take j ++ [nm] ++ u.names.drop j) (u.kids.take j ++ [x] ++ u.kids.drop j)) (hf : fnd nm u.names = none) (h : tnd (er u)) (hx : tnd (er x)) : tnd (er u') := by
 rw [tnd_eq, er_names, er_kids] at h
 rw [hu, er_mk, tnd_eq]
 refine ⟨nodup_ins j (fnd_none hf) h.1, ?_⟩
 rw [Tr.kids_mk]
 simp only [List.map_append, List.map_take, List.map_drop, List.map_cons, List.map_nil]
 exact tnds_app.2 ⟨tnds_app.2 ⟨(tnds_take h.2 j).1, hx, trivial⟩, (tnds_take h.2 j).2⟩
theorem shps_take {ks : List OT} (h : shps ks) (j : Nat) : shps (ks.take j) /\ shps (ks.drop j) := by
 rw [<- List.take_append_drop j ks] at h
 exact shps_app.1 h
theorem asms_take {ks : List OT} (h : asms ks) (j : Nat) : asms (ks.take j) /\ asms (ks.drop j) := by
 rw [<- List.take_append_drop j ks] at h
 exact asms_app.1 h
theorem shp_ins {u' : OT} {u x : OT} {nm : Str} {j k k' : Nat} (hu : u' = .mk u.dir u.mode u.data (some (k, k')) (u.names.take j ++ [nm] ++ u.names.drop j) (u.kids.take j ++ [x] ++ u.kids.drop j)) (h : shp u) (hx : shp x) : shp u' := by
 have h2 := ((shp_eq u).1 h).2
 rw [hu, shp_eq]
 exact ⟨fun h => by simp at h, shps_app.2 ⟨shps_app.2 ⟨(shps_take h2 j).1, hx, trivial⟩, (shps_take h2 j).2⟩⟩
theorem asm_ins {u' : OT} {u x : OT} {nm : Str} {j k k' : Nat} (hu : u' = .mk u.dir u.mode u.data (some (k, k')) (u.names.take j ++ [nm] ++ u.names.drop j) (u.kids.take j ++ [x] ++ u.kids.drop j)) (h : asm u) (hx : asm x) : asm u' := by
 have h2 := ((asm_eq u).1 h).2
 rw [hu, asm_eq]
 exact ⟨rfl, asms_app.2 ⟨asms_app.2 ⟨(asms_take h2 j).1, hx, trivial⟩, (asms_take h2 j).2⟩⟩
theorem Lies'.lies {Z W : Hp} {r : Nat} {A0 B0 : List AV} {T : OT} (h : Lies' Z r A0 B0 T W) (h1 : r % 2 = 1) (h2 : owf T) (h3 : shp T) (h4 : (er T).W <= 2 ^ 36) : Lies Z r A0 B0 T W := ⟨h.2, h1, h.1, h2, h3, osm_W T h4⟩
theorem Lies.add {Z W Y : Hp} {r : Nat} {A0 B0 : List AV} {T : OT} (h : Lies Z r A0 B0 T W) (hy : odH Y) : Lies (Z ++ Y) r A0 B0 T (W ++ Y) :=
 ⟨odH_app.2 ⟨h.odd, hy⟩, h.r1, by
  have := h.perm.append_right Y
  rwa [List.cons_append, List.append_assoc (objs T)] at this, h.wf, h.shp, h.sm⟩
def DoR (f : Tr -> Cl -> Tr × Int) (T : OT) (c : Cl) (r : Nat) (A0 B0 : List AV) (r' : AV) (Z' : Hp) : Prop :=
 ∃ (T' : OT) (W' : Hp), r' = .int .i64 (f (er T) c).2 /\ Lies' Z' r A0 B0 T' W' /\ er T' = (f (er T) c).1 /\ shp T'
theorem parC_er {T : OT} {p : List Str} : parC (er T) p = match oat T (p.take (p.length - 1)) with | none => 3 | some u => if u.dir then 0 else 4 := by
 unfold parC
 rw [tat_er]
 cases oat T (p.take (p.length - 1)) with
 | none => rfl
 | some u => simp only [Option.map_some, er_dir]
theorem asc_oat {T u : OT} {p : List Str} (h : treeOk (er T) = true) (hu : oat T p = some u) : asc u.names = true := by
 have := asc_tat h (p := p) (x := er u) (by rw [tat_er, hu]; rfl)
 rwa [er_names] at this
theorem tnd_tat : ∀ {p : List Str} {t x : Tr}, t.wf = true -> tnd t -> tat t p = some x -> tnd x
 | [], t, x, _, h, he => by simp only [tat, Option.some.injEq] at he; exact he ▸ h
 | n :: p, t, x, hw, h, he => by
  rw [tat_cons] at he
  cases hf : fnd n t.names with
  | none => rw [hf] at he; cases he
  | some k =>
   rw [hf] at he
   have hk : k < t.kids.length := by rw [<- wf_len hw]; exact fnd_lt hf
   exact tnd_tat (wf_kid hw hk _) (tnds_get ((tnd_eq t).1 h).2 hk) he
theorem hit_er {T u x : OT} {q : List Str} {nm : Str} {k : Nat} (hw : owf T) (hto : treeOk (er T) = true) (hu : oat T q = some u) (hk : fnd nm u.names = some k) : er (orep T (q ++ [nm]) x) = tset (q ++ [nm]) (er T) (er x) false := by
 rw [orep_snoc q T u x nm k hu hk]
 refine orep_tset q T u _ hw (tnd_ok hto) hu ?_
 have hwu := oat_wf hw hu
 rw [tset_hit (j := k) (wf_len hwu) (by rw [er_names]; exact asc_oat hto hu) (by rw [er_names]; exact fnd_lt hk) (by rw [er_names]; exact fnd_some hk)]
 rw [er_mk, List.map_set, er_names, er_kids, er_dir, er_mode, er_data]
theorem new_er {T u u' x : OT} {q : List Str} {nm : Str} (hw : owf T) (hto : treeOk (er T) = true) (hu : oat T q = some u) (h : er u' = tset [nm] (er u) (er x) false) : er (orep T q u') = tset (q ++ [nm]) (er T) (er x) false :=
 orep_tset q T u u' hw (tnd_ok hto) hu h
theorem gone_er {T u : OT} {q : List Str} {nm : Str} {k : Nat} (hw : owf T) (hn : tnd (er T)) (hu : oat T q = some u) (hk : fnd nm u.names = some k) :
  er (orep T q (.mk u.dir u.mode u.data u.ids (u.names.take k ++ u.names.drop (k + 1)) (u.kids.take k ++ u.kids.drop (k + 1)))) = tset (q ++ [nm]) (er T) .none true := by
 refine orep_tset q T u _ hw hn hu ?_
 have hwu := oat_wf hw hu
 have hnu : tnd (er u) := tnd_tat hw hn (p := q) (by rw [tat_er, hu]; rfl)
 rw [tset_gone (j := k) (wf_len hwu) ((tnd_eq _).1 hnu).1 (by rw [er_names]; exact fnd_lt hk) (by rw [er_names]; exact fnd_some hk)]
 rw [er_mk, er_names, er_kids, er_dir, er_mode, er_data]
 simp only [List.map_append, List.map_take, List.map_drop]
theorem drop_shp {u : OT} {k : Nat} (h : shp u) : shp (.mk u.dir u.mode u.data u.ids (u.names.take k ++ u.names.drop (k + 1)) (u.kids.take k ++ u.kids.drop (k + 1))) := by
 have h1 := (shp_eq u).1 h
 refine (shp_eq _).2 ⟨fun hi => ?_, shps_app.2 ⟨(shps_take h1.2 k).1, (shps_take h1.2 (k + 1)).2⟩⟩
 obtain ⟨e1, e2⟩ := h1.1 hi
 simp only [OT.names_mk, OT.kids_mk, e1, e2]; simp
theorem setL {Z W Wo : Hp} {r i : Nat} {A0 B0 A B : List AV} {T y y' : OT} {p : List Str} (hnd : (ids Z).Nodup) (hz : odH Z) (hp : Z.Perm ((i, A ++ otc y ++ B) :: (own y ++ (objss y.kids ++ Wo))))
  (hr : ∀ t', ((r, A0 ++ otc (orep T p t') ++ B0) :: (objs (orep T p t') ++ W)).Perm ((i, A ++ otc t' ++ B) :: (objs t' ++ Wo))) (ho : own y' = own y) (hk : y'.kids = y.kids) :
  Lies' (hset Z i (A ++ otc y' ++ B)) r A0 B0 (orep T p y') W := by
 refine ⟨((hset_perm hnd hp).trans ?_).trans (hr y').symm, odH_hset hz (ods_mid hz hp) hnd⟩
 rw [objs_eq, ho, hk, List.append_assoc (own y)]
theorem ods_clc (c : Cl) : ods [.agg (clc c)] := by
 simp only [ods, od, clc, true_and, and_true]
 exact ⟨purs_pth _, purs_pth _⟩
theorem objs_data {y : OT} {d : Str} {m : Int} : objs (.mk y.dir m d y.ids y.names y.kids) = objs y := by
 rw [objs_eq, objs_eq y]; rfl
theorem shp_data {y : OT} {d : Str} {m : Int} (h : shp y) : shp (.mk y.dir m d y.ids y.names y.kids) := (shp_eq _).2 ((shp_eq y).1 h)
open Go Go.Proofs
set_option maxRecDepth 100000
theorem oat_parent {T y : OT} {q : List Str} {n : Str} (h : oat T (q ++ [n]) = some y) : ∃ u, oat T q = some u := by
  rw [oat_snoc] at h
  cases hq : oat T q with
  | none => rw [hq] at h; cases h
  | some u => exact ⟨u, rfl⟩
theorem oat_of_tat {T : OT} {p : List Str} {v : Tr} (h : tat (er T) p = some v) : ∃ y, oat T p = some y := by
  rw [tat_er] at h
  cases hq : oat T p with
  | none => rw [hq] at h; cases h
  | some u => exact ⟨u, rfl⟩
theorem dir_of_kid {T u : OT} {q : List Str} {n : Str} {k : Nat} (hto : treeOk (er T) = true) (hu : oat T q = some u) (hk : fnd n u.names = some k) : u.dir = true := by
  simp only [treeOk, Bool.and_eq_true] at hto
  obtain ⟨m, hm⟩ := parts_tat hto.2.1 (p := q) (x := er u) (by rw [tat_er, hu]; rfl)
  rw [partsOk_eq] at hm
  simp only [Bool.and_eq_true] at hm
  have h1 := hm.1
  simp only [plainOk, Bool.and_eq_true, decide_eq_true_eq] at h1
  have h7 := h1.2.2
  rw [er_dir, er_names] at h7
  cases hd : u.dir with
  | true => rfl
  | false =>
    rw [hd] at h7
    simp only [Bool.false_eq_true, if_false, Bool.and_eq_true] at h7
    have := of_decide_eq_true h7.2
    have := fnd_lt hk
    omega
set_option maxHeartbeats 2000000 in
theorem rename_ok {Z W : Hp} {r : Nat} {A0 B0 : List AV} {T : OT} (c : Cl) (hL : Lies Z r A0 B0 T W) (ha : asm T) (hto : treeOk (er T) = true) (f1 : 0 < c.path.length) (f2 : wS c.path < 2 ^ 10) (f5 : 0 < c.to.length) (f6 : wS c.to < 2 ^ 10) : DC G 68 [.ptr r A0.length, .agg (clc c)] Z (DoR iRename T c r A0 B0) := by
 refine DC_nd fun hnd => ?_
 have hl1 := wS_len c.path; have hWT := W_ok hto; have hl2 := wS_len c.to
 refine h_dc (F := [(0, .ptr r A0.length), (1, .agg (clc c))]) ⟨hL.r1, (ods_clc c).1, trivial⟩ hL.odd Tryz.func68 (by kernel_rfl) (by kernel_rfl) ?_ (by kernel_rfl)
 refine Rr (Fn2 [0] [(3, .ptr 0 0)] ((0, clc c) :: Z) 4 (Rr (Bc1 4 [(14, pth c.path), (13, .ptr 0 1), (12, .ptr r A0.length)] 43 [.ptr r A0.length, pth c.path] 15 (((1 : Nat) ≠ 0) /\ (1 + 1 <= 5 /\ 1 < 5) /\ ·) ⟨(by decide), (by decide), DC.use (at_ok c.path hL (by omega)) [(0, clc c)] rfl ⟨rfl, trivial⟩ ?_⟩)))
 rintro _ _ ⟨e1, rfl⟩
 rw [e1]; clear e1
 have hioya3 := opos_oat (r := r) (o := A0.length) (p := c.path) hL.wf hL.shp
 rcases hyya3 : oat T c.path with _ | ya3
 rw [hyya3] at hioya3
 have hXya3 : tat (er T) c.path = none := by rw [tat_er, hyya3]; rfl
 rw [show opos T r A0.length c.path = none from Option.isNone_iff_eq_none.1 (by rw [<- Option.not_isSome, hioya3]; rfl), show oad none = .nilp from rfl]
 refine Ke (Fn0 [0, 3] [(5, .nilp)] (Sq fun K4 hK4 => ?_))
 refine Bl (Rr (Fn1 [0, 3, 5] [(16, .bool true)] ((∃ e, TK.ptr 26 = TK.ptr e) /\ ·) ⟨⟨_, rfl⟩, Ct (Rr ?_)⟩))
 refine Fn0 [] [(4, .int .i64 3)] (Rt (.int .i64 3) ?_)
 have hT : er T = er T := rfl
 have e : iRename (er T) c = (er T, 3) := by
   rw [hT]; unfold iRename
   (try simp only [cond_true, hXya3, wData, wMode, newDir, Tr.none, er_mk, er_dir, er_mode, er_data, er_names, er_kids, List.map_nil, decide_true, Bool.not_true, Bool.not_false, Bool.true_and, Bool.and_true, Bool.false_and, Bool.and_false, cond_true, cond_false, show decide ((0 : Int) = 0) = true from rfl, show decide ((3 : Int) = 0) = false from rfl, show decide ((4 : Int) = 0) = false from rfl])
   try rfl
 refine fin_dc (.int .i64 3) Z (by first | exact List.Sublist.refl _ | exact List.Sublist.cons _ (List.Sublist.refl _) | exact List.Sublist.cons _ (List.Sublist.cons _ (List.Sublist.refl _))) (lea_refl _) trivial hL.odd ⟨T, W, ?_, ⟨hL.perm, hL.odd⟩, ?_, hL.shp⟩ <;> rw [e]
 obtain ⟨iya3, Aya3, Bya3, Wya3, hoya3, hiya3, hpya3, hnya3, hsya3, hrya3⟩ := hL.foc hyya3
 have hgya3 : hgt Z iya3 = some (Aya3 ++ otc ya3 ++ Bya3) := hgt_perm hnd hpya3 (by simp)
 have hXya3 : tat (er T) c.path = some (er ya3) := by rw [tat_er, hyya3]; rfl
 obtain ⟨⟨aya3, bya3⟩, hidsya3⟩ := Option.isSome_iff_exists.1 ((asm_eq _).1 (oat_asm hL.wf ha hyya3)).1
 have hWya3 := W_tat _ _ _ hXya3
 have hDya3 := data_W (er ya3)
 rw [er_data] at hDya3
 rw [hoya3, show oad (some (iya3, Aya3.length)) = .ptr iya3 Aya3.length from rfl]
 refine Ke (Fn0 [0, 3] [(5, .ptr iya3 Aya3.length)] (Sq fun K7 hK7 => ?_))
 refine Bl (Rr (Fn1 [0, 3, 5] [(16, .bool false)] ((∃ e, TK.ptr 26 = TK.ptr e) /\ ·) ⟨⟨_, rfl⟩, Cf (Rr ?_)⟩))
 refine Bc1 5 [(23, pth c.path), (22, .ptr 0 1), (21, pth c.to), (20, .ptr 0 2)] 45 [pth c.to, pth c.path] 24 (((1 : Nat) ≠ 0) /\ (2 + 1 <= 5 /\ 2 < 5) /\ ((1 : Nat) ≠ 0) /\ (1 + 1 <= 5 /\ 1 < 5) /\ ·) ⟨(by decide), (by decide), (by decide), (by decide), ?_⟩
 refine PE.use (begins_ok c.to c.path (by omega) (by omega)) ?_
 refine Ke (Cn0 (c.path.isPrefixOf c.to) [0, 3, 5] [] ⟨fun hc10 c10 => ?_, fun hc10 c10 => ?_⟩)
 try simp only [KF] at c10
 refine Rr (Fn0 [] [(4, .int .i64 7)] (Rt (.int .i64 7) ?_))
 have hT : er T = er T := rfl
 have e : iRename (er T) c = (er T, 7) := by
   rw [hT]; unfold iRename
   (try simp only [cond_true, hXya3, hc10, wData, wMode, newDir, Tr.none, er_mk, er_dir, er_mode, er_data, er_names, er_kids, List.map_nil, decide_true, Bool.not_true, Bool.not_false, Bool.true_and, Bool.and_true, Bool.false_and, Bool.and_false, cond_true, cond_false, show decide ((0 : Int) = 0) = true from rfl, show decide ((3 : Int) = 0) = false from rfl, show decide ((4 : Int) = 0) = false from rfl])
   try rfl
 refine fin_dc (.int .i64 7) Z (by first | exact List.Sublist.refl _ | exact List.Sublist.cons _ (List.Sublist.refl _) | exact List.Sublist.cons _ (List.Sublist.cons _ (List.Sublist.refl _))) (lea_refl _) trivial hL.odd ⟨T, W, ?_, ⟨hL.perm, hL.odd⟩, ?_, hL.shp⟩ <;> rw [e]
 try simp only [KF] at c10
 refine Sk (Bn (Jn (hK7 (Kp [0, 3, 5] (Rr (Bc1 4 [(28, pth c.to), (27, .ptr 0 2), (26, .ptr r A0.length)] 62 [.ptr r A0.length, pth c.to] 29 (((1 : Nat) ≠ 0) /\ (2 + 1 <= 5 /\ 2 < 5) /\ ·) ⟨(by decide), (by decide), DC.use (parent_ok c.to hL (by omega) (by omega)) [(0, clc c)] rfl ⟨rfl, trivial⟩ ?_⟩))))))
 rintro _ _ ⟨e1, rfl⟩
 rw [e1]; clear e1
 rcases hup13 : oat T (c.to.take (c.to.length - 1)) with _ | up13
 rotate_left
 dsimp only
 cases hdp13 : up13.dir
 simp only [cond_false]
 have hPp13 : parC (er T) c.to = 4 := by rw [parC_er, hup13]; simp only [hdp13]; rfl
 refine Ke (Fn1 [0, 3, 5] [(7, .int .i64 4), (6, .nilp)] ((0 < 2) /\ (1 < 2) /\ ·) ⟨(by decide), (by decide), Sq fun K14 hK14 => ?_⟩)
 refine Rr (Fn1 [0, 3, 5, 6, 7] [(33, .bool true)] (Ki /\ ·) ⟨rfl, Ct (Rr (Fn0 [] [(4, .int .i64 4)] ?_))⟩)
 refine Rt (.int .i64 4) ?_
 have hT : er T = er T := rfl
 have e : iRename (er T) c = (er T, 4) := by
   rw [hT]; unfold iRename
   (try simp only [hPp13, hXya3, hc10, wData, wMode, newDir, Tr.none, er_mk, er_dir, er_mode, er_data, er_names, er_kids, List.map_nil, decide_true, Bool.not_true, Bool.not_false, Bool.true_and, Bool.and_true, Bool.false_and, Bool.and_false, cond_true, cond_false, show decide ((0 : Int) = 0) = true from rfl, show decide ((3 : Int) = 0) = false from rfl, show decide ((4 : Int) = 0) = false from rfl])
   try rfl
 refine fin_dc (.int .i64 4) Z (by first | exact List.Sublist.refl _ | exact List.Sublist.cons _ (List.Sublist.refl _) | exact List.Sublist.cons _ (List.Sublist.cons _ (List.Sublist.refl _))) (lea_refl _) trivial hL.odd ⟨T, W, ?_, ⟨hL.perm, hL.odd⟩, ?_, hL.shp⟩ <;> rw [e]
 simp only [cond_true]
 have hPp13 : parC (er T) c.to = 0 := by rw [parC_er, hup13]; simp only [hdp13]; rfl
 obtain ⟨ip13, Ap13, Bp13, Wp13, hop13, hip13, hpp13, hnp13, hsp13, hrp13⟩ := hL.foc hup13
 rw [hop13, show oad (some (ip13, Ap13.length)) = .ptr ip13 Ap13.length from rfl]
 refine Ke (Fn1 [0, 3, 5] [(7, .int .i64 0), (6, .ptr ip13 Ap13.length)] ((0 < 2) /\ (1 < 2) /\ ·) ⟨(by decide), (by decide), Sq fun K17 hK17 => ?_⟩)
 refine Rr (Fn1 [0, 3, 5, 6, 7] [(33, .bool false)] (Ki /\ ·) ⟨rfl, Cf (Sk (Jn (hK17 (Kp [0, 3, 5, 6] (Rr ?_)))))⟩)
 refine Av1 (r := .int .i64 ((c.to.map (fun s => [AV.str s])).length : Nat)) (v := .int .i64 c.to.length) 5 39 [(38, pth c.to), (37, .ptr 0 2), (36, pth c.to), (35, .ptr 0 2)] (by rw [List.length_map]) (((1 : Nat) ≠ 0) /\ (2 + 1 <= 5 /\ 2 < 5) /\ ((1 : Nat) ≠ 0) /\ (2 + 1 <= 5 /\ 2 < 5) /\ ·) ⟨(by decide), (by decide), (by decide), (by decide), Av1 (r := .int .i64 (IntKind.i64.wrap ((c.to.length : Int) - 1))) (v := .int .i64 ((c.to.length : Int) - 1)) 1 40 [] (congrArg (AV.int .i64) (wrap64 (by omega) (by omega))) (Ki /\ ·) ⟨rfl, Av1 1 41 [] (congrArg AV.pat (mg_str c.to (((c.to.length : Int) - 1).toNat) (by omega))) ((1 = 1 /\ (0 : Int) <= ((c.to.length : Int) - 1) /\ ((c.to.length : Int) - 1) < ((c.to.map (fun s => [AV.str s])).length : Int)) /\ ·) ⟨⟨rfl, by omega, by rw [List.length_map]; omega⟩, Fn1 [0, 3, 5, 6] [(8, .str (c.to.getD (((c.to.length : Int) - 1).toNat) default))] ((1 <= 1 /\ 0 < 1) /\ ·) ⟨(by decide), Sq fun K20 hK20 => ?_⟩⟩⟩⟩
 refine Rr (Bc0 3 [(44, .str (c.to.getD (((c.to.length : Int) - 1).toNat) default)), (43, .ptr ip13 Ap13.length)] 63 [.ptr ip13 Ap13.length, .str (c.to.getD (((c.to.length : Int) - 1).toNat) default)] 45 ?_)
 have hpep13 := last_snoc (p := c.to) (by omega)
 refine DC.use (kidL (q := c.to.take (c.to.length - 1)) (c.to.getD (((c.to.length : Int) - 1).toNat) default) hL hup13 hop13) [(0, clc c)] rfl ⟨rfl, trivial⟩ ?_
 rintro _ _ ⟨e1, rfl⟩
 rw [e1, hpep13]; clear e1
 have hiop13 := opos_oat (r := r) (o := A0.length) (p := c.to) hL.wf hL.shp
 rcases hyyp13 : oat T c.to with _ | yp13
 rw [hyyp13] at hiop13
 have hXyp13 : tat (er T) c.to = none := by rw [tat_er, hyyp13]; rfl
 rw [show opos T r A0.length c.to = none from Option.isNone_iff_eq_none.1 (by rw [<- Option.not_isSome, hiop13]; rfl), show oad none = .nilp from rfl]
 refine Ke (Fn1 [0, 3, 5, 6, 8] [(46, .bool false)] ((∃ e, TK.ptr 26 = TK.ptr e) /\ ·) ⟨⟨_, rfl⟩, Cf (Sk (Jn (hK20 (Kp [0, 3, 5, 6, 8] (Rr ?_)))))⟩)
 refine An0 2 [(48, .ptr iya3 Aya3.length), (47, .ptr iya3 Aya3.length)] (gela (t := ya3) 49 26 iya3 (.agg (otc ya3)) (fun J => by kernel_rfl) ((hgt_ev (E := [(0, clc c)]) ⟨rfl, trivial⟩ hiya3).trans hgya3) (by kernel_rfl) rfl (Bc0 1 [] 41 [.agg (otc ya3)] 50 ?_))
 have hYs := oat_shp hL.wf hL.shp hyya3
 refine TCall.mono (cl_use (t := er ya3) (vw_deep hYs (fun p hp => List.mem_append_right [(0, clc c)] (hpya3.mem_iff.2 (by rw [objs_eq] at hp; simp only [List.mem_cons, List.mem_append] at hp ⊢; rcases hp with h | h; exact .inr (.inl h); exact .inr (.inr (.inl h))))) rfl) (clone_ok _ (er ya3) rfl (by omega))) ?_
 rintro _ H1 _ _ ⟨rfl, Tn, hH1, he, hs, ha2, rfl⟩
 have hH2 : H1 = ((0, clc c) :: (Z ++ objs Tn)) := by rw [hH1]; simp only [List.nil_append, List.cons_append, List.append_assoc]
 clear hH1; subst hH2
 have hL2 := hL.add (odH_objs Tn)
 refine Ke (Fn3 [0, 3, 6, 8] [(9, .ptr 4 0)] ((4, otc Tn) :: (0, clc c) :: (Z ++ objs Tn)) 8 ((true = true /\ 5 = 5 /\ 0 + 5 <= 5) /\ ·) ⟨(by decide), Rr (Bc1 4 [(53, .agg (otc Tn)), (52, .str (c.to.getD (((c.to.length : Int) - 1).toNat) default)), (51, .ptr ip13 Ap13.length)] 64 [.ptr ip13 Ap13.length, .str (c.to.getD (((c.to.length : Int) - 1).toNat) default), .agg (otc Tn)] 54 ((0 + 5 <= 5 /\ 0 < 5) /\ ·) ⟨(by decide), ?_⟩)⟩)
 have hkp13 := oat_kid_none hup13 (by rw [hpep13]; exact hyyp13)
 obtain ⟨⟨aup13, bup13⟩, hidsup13⟩ := Option.isSome_iff_exists.1 ((asm_eq _).1 (oat_asm hL.wf ha hup13)).1
 refine DC.use (putL_new (x := Tn) (W' := W) (c.to.getD (((c.to.length : Int) - 1).toNat) default) hL2 hup13 hop13 hidsup13 (asc_oat hto hup13) hkp13 List.perm_append_comm) [(4, otc Tn), (0, clc c)] rfl ⟨rfl, ⟨rfl, trivial⟩⟩ ?_
 rintro rr Z1 ⟨j, k1, k2, u', hj, e1, e2, hZ1⟩
 have hT2 := new_er hL.wf hto hup13 e2
 rw [hpep13, he] at hT2
 have htu : tat (er T) (c.to.take (c.to.length - 1)) = some (er up13) := by rw [tat_er, hup13]; rfl
 have hT2n := orep_tnd hL.wf (tnd_ok hto) hup13 (tnd_ins e1 hkp13 (tnd_tat hL.wf (tnd_ok hto) htu) (by rw [he]; exact tnd_tat hL.wf (tnd_ok hto) hXya3))
 have hs2 := orep_shp hL.wf hL.shp hup13 (shp_ins e1 (oat_shp hL.wf hL.shp hup13) hs)
 have ha3 := orep_asm hL.wf ha hup13 (asm_ins e1 (oat_asm hL.wf ha hup13) ha2)
 have hw2 : owf (orep T (c.to.take (c.to.length - 1)) u') := by
   unfold owf; rw [hT2]; exact wf_tset _ _ _ _ hL.wf (wf_xat .none _ _ _ hL.wf hXya3)
 have hW2 : (er (orep T (c.to.take (c.to.length - 1)) u')).W <= 2 ^ 36 := by
   rw [hT2]
   have := W_tset_lt2 (p := c.to) (t := er T) (x := er ya3) (g := false) (by omega) (by omega) f6
   omega
 obtain ⟨v', hv1, hv2⟩ := put_keeps (x := er ya3) c.to (er T) (er up13) c.path (er ya3) hL.wf (tnd_ok hto) (by rw [er_names]; exact asc_oat hto hup13) (fun h => by rw [h] at f5; simp at f5) htu hXyp13 hXya3
 obtain ⟨uP, hyP⟩ := oat_parent (last_snoc f1 ▸ hyya3)
 have hdP : uP.dir = true := by
   obtain ⟨kP, hkP, _⟩ := oat_kid_some hyP (last_snoc f1 ▸ hyya3)
   exact dir_of_kid hto hyP hkP
 obtain ⟨vP, hvP1, hvP2⟩ := put_keeps (x := er ya3) c.to (er T) (er up13) (c.path.take (c.path.length - 1)) (er uP) hL.wf (tnd_ok hto) (by rw [er_names]; exact asc_oat hto hup13) (fun h => by rw [h] at f5; simp at f5) htu hXyp13 (by rw [tat_er, hyP]; rfl)
 rw [<- hT2] at hv1 hvP1
 generalize orep T (c.to.take (c.to.length - 1)) u' = T2 at hZ1 hT2 hT2n hs2 ha3 hw2 hW2 hv1 hvP1
 have hL3 := hZ1.lies hL.r1 hw2 hs2 hW2
 obtain ⟨y2, hy2⟩ := oat_of_tat hv1
 obtain ⟨u2, hu2⟩ := oat_of_tat hvP1
 have hd2 : u2.dir = true := by
   rw [tat_er, hu2] at hvP1
   cases hvP1
   rw [er_dir, er_dir] at hvP2
   rw [hvP2]; exact hdP
 refine Ke (Fn0 [0, 3] [] (Rr (Bc1 4 [(58, pth c.path), (57, .ptr 0 1), (56, .ptr r A0.length)] 62 [.ptr r A0.length, pth c.path] 59 (((1 : Nat) ≠ 0) /\ (1 + 1 <= 5 /\ 1 < 5) /\ ·) ⟨(by decide), (by decide), DC.use (parent_ok c.path hL3 (by omega) (by omega)) [(4, otc Tn), (0, clc c)] rfl ⟨rfl, ⟨rfl, trivial⟩⟩ ?_⟩)))
 rintro _ _ ⟨e1, rfl⟩
 rw [e1, hu2]; clear e1
 dsimp only
 rw [hd2]; simp only [cond_true]
 obtain ⟨i2, A2, B2, W2', ho2, hi2, hp2, hn2, hs2', hr2⟩ := hL3.foc hu2
 rw [ho2, show oad (some (i2, A2.length)) = .ptr i2 A2.length from rfl]
 refine Ke (Fn1 [3] [(10, .ptr i2 A2.length)] ((0 < 2) /\ (1 < 2) /\ ·) ⟨(by decide), (by decide), Rr (Av1 (r := .int .i64 ((c.path.map (fun s => [AV.str s])).length : Nat)) (v := .int .i64 c.path.length) 6 67 [(66, pth c.path), (65, .ptr 0 1), (64, pth c.path), (63, .ptr 0 1), (62, .ptr i2 A2.length)] (by rw [List.length_map]) (((1 : Nat) ≠ 0) /\ (1 + 1 <= 5 /\ 1 < 5) /\ ((1 : Nat) ≠ 0) /\ (1 + 1 <= 5 /\ 1 < 5) /\ ·) ⟨(by decide), (by decide), (by decide), (by decide), Av1 (r := .int .i64 (IntKind.i64.wrap ((c.path.length : Int) - 1))) (v := .int .i64 ((c.path.length : Int) - 1)) 1 68 [] (congrArg (AV.int .i64) (wrap64 (by omega) (by omega))) (Ki /\ ·) ⟨rfl, ?_⟩⟩)⟩)
 refine Av1 1 69 [] (congrArg AV.pat (mg_str c.path (((c.path.length : Int) - 1).toNat) (by omega))) ((1 = 1 /\ (0 : Int) <= ((c.path.length : Int) - 1) /\ ((c.path.length : Int) - 1) < ((c.path.map (fun s => [AV.str s])).length : Int)) /\ ·) ⟨⟨rfl, by omega, by rw [List.length_map]; omega⟩, Bc1 2 [(70, .str (c.path.getD (((c.path.length : Int) - 1).toNat) default))] 67 [.ptr i2 A2.length, .str (c.path.getD (((c.path.length : Int) - 1).toNat) default)] 71 ((1 <= 1 /\ 0 < 1) /\ ·) ⟨(by decide), ?_⟩⟩
 obtain ⟨k2, hk12, hk22⟩ := oat_kid_some hu2 (by rw [last_snoc f1]; exact hy2)
 obtain ⟨⟨au2, bu2⟩, hidsu2⟩ := Option.isSome_iff_exists.1 ((asm_eq _).1 (oat_asm hw2 ha3 hu2)).1
 refine DC.use (dropL (c.path.getD (((c.path.length : Int) - 1).toNat) default) hL3 hu2 ho2 hidsu2 hk12) [(4, otc Tn), (0, clc c)] rfl ⟨rfl, ⟨rfl, trivial⟩⟩ ?_
 rintro rr2 Z2 ⟨W2, hZ2⟩
 have hT := gone_er hw2 hT2n hu2 hk12
 rw [last_snoc f1, hT2] at hT
 refine Ke (Fn0 [] [] (Rr (Fn0 [] [(4, .int .i64 0)] (Rt (.int .i64 0) ?_))))
 
 have e : iRename (er T) c = (er (orep T2 (c.path.take (c.path.length - 1)) (.mk u2.dir u2.mode u2.data u2.ids (u2.names.take k2 ++ u2.names.drop (k2 + 1)) (u2.kids.take k2 ++ u2.kids.drop (k2 + 1)))), 0) := by
   rw [hT]; unfold iRename
   (try simp only [hPp13, hXyp13, hXya3, hc10, wData, wMode, newDir, Tr.none, er_mk, er_dir, er_mode, er_data, er_names, er_kids, List.map_nil, decide_true, Bool.not_true, Bool.not_false, Bool.true_and, Bool.and_true, Bool.false_and, Bool.and_false, cond_true, cond_false, show decide ((0 : Int) = 0) = true from rfl, show decide ((3 : Int) = 0) = false from rfl, show decide ((4 : Int) = 0) = false from rfl])
   try rfl
 refine fin_dc (.int .i64 0) Z2 (by first | exact List.Sublist.refl _ | exact List.Sublist.cons _ (List.Sublist.refl _) | exact List.Sublist.cons _ (List.Sublist.cons _ (List.Sublist.refl _))) (lea_refl _) trivial hZ2.2 ⟨(orep T2 (c.path.take (c.path.length - 1)) (.mk u2.dir u2.mode u2.data u2.ids (u2.names.take k2 ++ u2.names.drop (k2 + 1)) (u2.kids.take k2 ++ u2.kids.drop (k2 + 1)))), W2, ?_, hZ2, ?_, (orep_shp hw2 hs2 hu2 (drop_shp (oat_shp hw2 hs2 hu2)))⟩ <;> rw [e]
 obtain ⟨iyp13, Ayp13, Byp13, Wyp13, hoyp13, hiyp13, hpyp13, hnyp13, hsyp13, hryp13⟩ := hL.foc hyyp13
 have hgyp13 : hgt Z iyp13 = some (Ayp13 ++ otc yp13 ++ Byp13) := hgt_perm hnd hpyp13 (by simp)
 have hXyp13 : tat (er T) c.to = some (er yp13) := by rw [tat_er, hyyp13]; rfl
 obtain ⟨⟨ayp13, byp13⟩, hidsyp13⟩ := Option.isSome_iff_exists.1 ((asm_eq _).1 (oat_asm hL.wf ha hyyp13)).1
 have hWyp13 := W_tat _ _ _ hXyp13
 have hDyp13 := data_W (er yp13)
 rw [er_data] at hDyp13
 rw [hoyp13, show oad (some (iyp13, Ayp13.length)) = .ptr iyp13 Ayp13.length from rfl]
 refine Ke (Fn1 [0, 3, 5, 6, 8] [(46, .bool true)] ((∃ e, TK.ptr 26 = TK.ptr e) /\ ·) ⟨⟨_, rfl⟩, Ct (Rr (Fn0 [] [(4, .int .i64 5)] ?_))⟩)
 refine Rt (.int .i64 5) ?_
 have hT : er T = er T := rfl
 have e : iRename (er T) c = (er T, 5) := by
   rw [hT]; unfold iRename
   (try simp only [hPp13, hXyp13, hXya3, hc10, wData, wMode, newDir, Tr.none, er_mk, er_dir, er_mode, er_data, er_names, er_kids, List.map_nil, decide_true, Bool.not_true, Bool.not_false, Bool.true_and, Bool.and_true, Bool.false_and, Bool.and_false, cond_true, cond_false, show decide ((0 : Int) = 0) = true from rfl, show decide ((3 : Int) = 0) = false from rfl, show decide ((4 : Int) = 0) = false from rfl])
   try rfl
 refine fin_dc (.int .i64 5) Z (by first | exact List.Sublist.refl _ | exact List.Sublist.cons _ (List.Sublist.refl _) | exact List.Sublist.cons _ (List.Sublist.cons _ (List.Sublist.refl _))) (lea_refl _) trivial hL.odd ⟨T, W, ?_, ⟨hL.perm, hL.odd⟩, ?_, hL.shp⟩ <;> rw [e]
 dsimp only
 have hPp13 : parC (er T) c.to = 3 := by rw [parC_er, hup13]
 refine Ke (Fn1 [0, 3, 5] [(7, .int .i64 3), (6, .nilp)] ((0 < 2) /\ (1 < 2) /\ ·) ⟨(by decide), (by decide), Sq fun K28 hK28 => ?_⟩)
 refine Rr (Fn1 [0, 3, 5, 6, 7] [(33, .bool true)] (Ki /\ ·) ⟨rfl, Ct (Rr (Fn0 [] [(4, .int .i64 3)] ?_))⟩)
 refine Rt (.int .i64 3) ?_
 have hT : er T = er T := rfl
 have e : iRename (er T) c = (er T, 3) := by
   rw [hT]; unfold iRename
   (try simp only [hPp13, hXya3, hc10, wData, wMode, newDir, Tr.none, er_mk, er_dir, er_mode, er_data, er_names, er_kids, List.map_nil, decide_true, Bool.not_true, Bool.not_false, Bool.true_and, Bool.and_true, Bool.false_and, Bool.and_false, cond_true, cond_false, show decide ((0 : Int) = 0) = true from rfl, show decide ((3 : Int) = 0) = false from rfl, show decide ((4 : Int) = 0) = false from rfl])
   try rfl
 refine fin_dc (.int .i64 3) Z (by first | exact List.Sublist.refl _ | exact List.Sublist.cons _ (List.Sublist.refl _) | exact List.Sublist.cons _ (List.Sublist.cons _ (List.Sublist.refl _))) (lea_refl _) trivial hL.odd ⟨T, W, ?_, ⟨hL.perm, hL.odd⟩, ?_, hL.shp⟩ <;> rw [e]
set_option maxHeartbeats 2000000 in
theorem do_ok {Z W : Hp} {r : Nat} {A0 B0 : List AV} {T : OT} (c : Cl) (hL : Lies Z r A0 B0 T W) (ha : asm T) (hto : treeOk (er T) = true) (f1 : 0 < c.path.length) (f2 : wS c.path < 2 ^ 10) (f3 : c.kind = 2 \/ c.kind = 3 -> 0 <= c.at_ /\ c.at_ <= 24) (f4 : c.kind = 5 -> 0 < c.to.length /\ wS c.to < 2 ^ 10) (f7 : c.data.length < 2 ^ 20) : DC G 42 [.ptr r A0.length, .agg (clc c)] Z (DoR iDo T c r A0 B0) := by
 refine DC_nd fun hnd => ?_
 have hl1 := wS_len c.path; have hWT := W_ok hto
 refine h_dc (F := [(0, .ptr r A0.length), (1, .agg (clc c))]) ⟨hL.r1, (ods_clc c).1, trivial⟩ hL.odd Tryz.func42 (by kernel_rfl) (by kernel_rfl) ?_ (by kernel_rfl)
 refine Rr (Fn2 [0] [(3, .ptr 0 0)] ((0, clc c) :: Z) 4 (Rr (Bc1 4 [(13, pth c.path), (12, .ptr 0 1), (11, .ptr r A0.length)] 62 [.ptr r A0.length, pth c.path] 14 (((1 : Nat) ≠ 0) /\ (1 + 1 <= 5 /\ 1 < 5) /\ ·) ⟨(by decide), (by decide), DC.use (parent_ok c.path hL (by omega) (by omega)) [(0, clc c)] rfl ⟨rfl, trivial⟩ ?_⟩)))
 rintro _ _ ⟨e1, rfl⟩
 rw [e1]; clear e1
 rcases hup3 : oat T (c.path.take (c.path.length - 1)) with _ | up3
 rotate_left
 dsimp only
 cases hdp3 : up3.dir
 simp only [cond_false]
 have hPp3 : parC (er T) c.path = 4 := by rw [parC_er, hup3]; simp only [hdp3]; rfl
 refine Ke (Fn1 [0, 3] [(6, .int .i64 4), (5, .nilp)] ((0 < 2) /\ (1 < 2) /\ ·) ⟨(by decide), (by decide), Sq fun K4 hK4 => ?_⟩)
 refine Rr (Fn1 [0, 3, 5, 6] [(18, .bool true)] (Ki /\ ·) ⟨rfl, Ct (Rr (Fn0 [] [(4, .int .i64 4)] ?_))⟩)
 refine Rt (.int .i64 4) ?_
 have hT : er T = er T := rfl
 have e : iDo (er T) c = (er T, 4) := by
   rw [hT]; unfold iDo
   (try simp only [hPp3, wData, wMode, newDir, Tr.none, er_mk, er_dir, er_mode, er_data, er_names, er_kids, List.map_nil, decide_true, Bool.not_true, Bool.not_false, Bool.true_and, Bool.and_true, Bool.false_and, Bool.and_false, cond_true, cond_false, show decide ((0 : Int) = 0) = true from rfl, show decide ((3 : Int) = 0) = false from rfl, show decide ((4 : Int) = 0) = false from rfl])
   try rfl
 refine fin_dc (.int .i64 4) Z (by first | exact List.Sublist.refl _ | exact List.Sublist.cons _ (List.Sublist.refl _) | exact List.Sublist.cons _ (List.Sublist.cons _ (List.Sublist.refl _))) (lea_refl _) trivial hL.odd ⟨T, W, ?_, ⟨hL.perm, hL.odd⟩, ?_, hL.shp⟩ <;> rw [e]
 simp only [cond_true]
 have hPp3 : parC (er T) c.path = 0 := by rw [parC_er, hup3]; simp only [hdp3]; rfl
 obtain ⟨ip3, Ap3, Bp3, Wp3, hop3, hip3, hpp3, hnp3, hsp3, hrp3⟩ := hL.foc hup3
 rw [hop3, show oad (some (ip3, Ap3.length)) = .ptr ip3 Ap3.length from rfl]
 refine Ke (Fn1 [0, 3] [(6, .int .i64 0), (5, .ptr ip3 Ap3.length)] ((0 < 2) /\ (1 < 2) /\ ·) ⟨(by decide), (by decide), Sq fun K7 hK7 => ?_⟩)
 refine Rr (Fn1 [0, 3, 5, 6] [(18, .bool false)] (Ki /\ ·) ⟨rfl, Cf (Sk (Jn (hK7 (Kp [0, 3, 5] (Rr ?_)))))⟩)
 refine Av1 (r := .int .i64 ((c.path.map (fun s => [AV.str s])).length : Nat)) (v := .int .i64 c.path.length) 5 24 [(23, pth c.path), (22, .ptr 0 1), (21, pth c.path), (20, .ptr 0 1)] (by rw [List.length_map]) (((1 : Nat) ≠ 0) /\ (1 + 1 <= 5 /\ 1 < 5) /\ ((1 : Nat) ≠ 0) /\ (1 + 1 <= 5 /\ 1 < 5) /\ ·) ⟨(by decide), (by decide), (by decide), (by decide), Av1 (r := .int .i64 (IntKind.i64.wrap ((c.path.length : Int) - 1))) (v := .int .i64 ((c.path.length : Int) - 1)) 1 25 [] (congrArg (AV.int .i64) (wrap64 (by omega) (by omega))) (Ki /\ ·) ⟨rfl, Av1 1 26 [] (congrArg AV.pat (mg_str c.path (((c.path.length : Int) - 1).toNat) (by omega))) ((1 = 1 /\ (0 : Int) <= ((c.path.length : Int) - 1) /\ ((c.path.length : Int) - 1) < ((c.path.map (fun s => [AV.str s])).length : Int)) /\ ·) ⟨⟨rfl, by omega, by rw [List.length_map]; omega⟩, Fn1 [0, 3, 5] [(7, .str (c.path.getD (((c.path.length : Int) - 1).toNat) default))] ((1 <= 1 /\ 0 < 1) /\ ·) ⟨(by decide), Rr ?_⟩⟩⟩⟩
 refine Bc0 3 [(29, .str (c.path.getD (((c.path.length : Int) - 1).toNat) default)), (28, .ptr ip3 Ap3.length)] 63 [.ptr ip3 Ap3.length, .str (c.path.getD (((c.path.length : Int) - 1).toNat) default)] 30 ?_
 have hpep3 := last_snoc (p := c.path) (by omega)
 refine DC.use (kidL (q := c.path.take (c.path.length - 1)) (c.path.getD (((c.path.length : Int) - 1).toNat) default) hL hup3 hop3) [(0, clc c)] rfl ⟨rfl, trivial⟩ ?_
 rintro _ _ ⟨e1, rfl⟩
 rw [e1, hpep3]; clear e1
 have hiop3 := opos_oat (r := r) (o := A0.length) (p := c.path) hL.wf hL.shp
 rcases hyyp3 : oat T c.path with _ | yp3
 rw [hyyp3] at hiop3
 have hXyp3 : tat (er T) c.path = none := by rw [tat_er, hyyp3]; rfl
 rw [show opos T r A0.length c.path = none from Option.isNone_iff_eq_none.1 (by rw [<- Option.not_isSome, hiop3]; rfl), show oad none = .nilp from rfl]
 refine Ke (Fn0 [0, 3, 5, 7] [(8, .nilp)] (Sq fun K11 hK11 => ?_))
 refine Rr (Fn1 [0, 3, 5, 7, 8] [(32, .int .i64 c.kind)] (((1 : Nat) ≠ 0) /\ (0 + 1 <= 5 /\ 0 < 5) /\ ·) ⟨(by decide), (by decide), Bl (Rr (Cn1 (decide ((c.kind : Int) = (1 : Int))) [0, 3, 5, 7, 8, 32] [] (Ki /\ ·) ⟨rfl, fun hc14 c14 => ?_, fun hc14 c14 => ?_⟩))⟩)
 try simp only [KF] at c14
 refine Sq fun K15 hK15 => ?_
 refine Rr (Fn1 [3, 5, 7] [(36, .bool false)] ((∃ e, TK.ptr 26 = TK.ptr e) /\ ·) ⟨⟨_, rfl⟩, Cf (Sk (Jn (hK15 (Kp [3, 5, 7] (Rb (fun h => Bn (Jn (hK11 h))) ?_)))))⟩)
 refine Bc1 6 [(41, .agg [.bool true, .int .i64 c.at_, .str [], .nils, .nils]), (40, .int .i64 c.at_), (39, .ptr 0 3), (38, .str (c.path.getD (((c.path.length : Int) - 1).toNat) default)), (37, .ptr ip3 Ap3.length)] 64 [.ptr ip3 Ap3.length, .str (c.path.getD (((c.path.length : Int) - 1).toNat) default), .agg [.bool true, .int .i64 c.at_, .str [], .nils, .nils]] 42 (((1 : Nat) ≠ 0) /\ (3 + 1 <= 5 /\ 3 < 5) /\ ·) ⟨(by decide), (by decide), ?_⟩
 have hkp3 := oat_kid_none hup3 (by rw [hpep3]; exact hyyp3)
 obtain ⟨⟨aup3, bup3⟩, hidsup3⟩ := Option.isSome_iff_exists.1 ((asm_eq _).1 (oat_asm hL.wf ha hup3)).1
 refine DC.use (putL_new (x := (.mk true c.at_ [] none [] [])) (W' := W) (c.path.getD (((c.path.length : Int) - 1).toNat) default) hL hup3 hop3 hidsup3 (asc_oat hto hup3) hkp3 (List.Perm.refl _)) [(0, clc c)] rfl ⟨rfl, trivial⟩ ?_
 rintro rr Z1 ⟨j, k1, k2, u', hj, e1, e2, hZ1⟩
 refine Ke (Fn0 [] [] (Rr (Fn0 [] [(4, .int .i64 0)] (Rt (.int .i64 0) ?_))))
 have hT := new_er hL.wf hto hup3 e2
 rw [hpep3] at hT
 have e : iDo (er T) c = (er (orep T (c.path.take (c.path.length - 1)) u'), 0) := by
   rw [hT]; unfold iDo
   (try simp only [hPp3, hXyp3, hc14, wData, wMode, newDir, Tr.none, er_mk, er_dir, er_mode, er_data, er_names, er_kids, List.map_nil, decide_true, Bool.not_true, Bool.not_false, Bool.true_and, Bool.and_true, Bool.false_and, Bool.and_false, cond_true, cond_false, show decide ((0 : Int) = 0) = true from rfl, show decide ((3 : Int) = 0) = false from rfl, show decide ((4 : Int) = 0) = false from rfl])
   try rfl
 refine fin_dc (.int .i64 0) Z1 (by first | exact List.Sublist.refl _ | exact List.Sublist.cons _ (List.Sublist.refl _) | exact List.Sublist.cons _ (List.Sublist.cons _ (List.Sublist.refl _))) (lea_refl _) trivial hZ1.2 ⟨(orep T (c.path.take (c.path.length - 1)) u'), W, ?_, hZ1, ?_, (orep_shp hL.wf hL.shp hup3 (shp_ins e1 (oat_shp hL.wf hL.shp hup3) ⟨fun _ => ⟨rfl, rfl⟩, trivial⟩))⟩ <;> rw [e]
 try simp only [KF] at c14
 refine Rr (Cn1 (decide ((c.kind : Int) = (2 : Int))) [0, 3, 5, 7, 8, 32] [] (Ki /\ ·) ⟨rfl, fun hc19 c19 => ?_, fun hc19 c19 => ?_⟩)
 try simp only [KF] at c19
 refine Sq fun K20 hK20 => ?_
 refine Bl (Rr (Fn1 [3, 5, 7, 8] [(45, .bool false)] ((∃ e, TK.ptr 26 = TK.ptr e) /\ ·) ⟨⟨_, rfl⟩, Cf ?_⟩))
 obtain ⟨f8, f9⟩ := f3 (.inl (by simpa using hc19))
 refine Rr (Av1 (r := .int .i64 (IntKind.i64.wrap (c.at_ + (c.data.length : Int)))) (v := .int .i64 (c.at_ + (c.data.length : Int))) 6 60 [(59, .int .i64 c.data.length), (58, .str c.data), (57, .ptr 0 4), (56, .int .i64 c.at_), (55, .ptr 0 3)] (congrArg (AV.int .i64) (wrap64 (by omega) (by omega))) (((1 : Nat) ≠ 0) /\ (3 + 1 <= 5 /\ 3 < 5) /\ ((1 : Nat) ≠ 0) /\ (4 + 1 <= 5 /\ 4 < 5) /\ Ki /\ ·) ⟨(by decide), (by decide), (by decide), (by decide), rfl, Cn1 (decide ((24 : Int) < ((c.at_ + (c.data.length : Int)) : Int))) [3, 5, 7, 8] [] (Ki /\ ·) ⟨rfl, fun hc23 c23 => ?_, fun hc23 c23 => ?_⟩⟩)
 try simp only [KF] at c23
 refine Rr (Fn0 [] [(4, .int .i64 6)] (Rt (.int .i64 6) ?_))
 have hT : er T = er T := rfl
 have e : iDo (er T) c = (er T, 6) := by
   rw [hT]; unfold iDo
   (try simp only [hPp3, hXyp3, hc14, hc19, hc23, wData, wMode, newDir, Tr.none, er_mk, er_dir, er_mode, er_data, er_names, er_kids, List.map_nil, decide_true, Bool.not_true, Bool.not_false, Bool.true_and, Bool.and_true, Bool.false_and, Bool.and_false, cond_true, cond_false, show decide ((0 : Int) = 0) = true from rfl, show decide ((3 : Int) = 0) = false from rfl, show decide ((4 : Int) = 0) = false from rfl])
   try rfl
 refine fin_dc (.int .i64 6) Z (by first | exact List.Sublist.refl _ | exact List.Sublist.cons _ (List.Sublist.refl _) | exact List.Sublist.cons _ (List.Sublist.cons _ (List.Sublist.refl _))) (lea_refl _) trivial hL.odd ⟨T, W, ?_, ⟨hL.perm, hL.odd⟩, ?_, hL.shp⟩ <;> rw [e]
 try simp only [KF] at c23
 refine Sk (Bn (Jn (hK20 (Kp [3, 5, 7, 8] (Rr (Fn3 [3, 5, 7, 8] [(9, .ptr 4 0)] ((4, zt) :: (0, clc c) :: Z) 8 ((true = true /\ 5 = 5 /\ 0 + 5 <= 5) /\ ·) ⟨(by decide), Sq fun K26 hK26 => ?_⟩))))))
 refine Rr (Fn1 [3, 5, 7, 8, 9] [(64, .bool false)] ((∃ e, TK.ptr 26 = TK.ptr e) /\ ·) ⟨⟨_, rfl⟩, Cf (Sk (Jn (hK26 (Kp [3, 5, 7, 9] (Rr ?_)))))⟩)
 refine Bc1 7 [(73, .str c.data), (72, .ptr 0 4), (71, .int .i64 c.at_), (70, .ptr 0 3), (69, .str []), (68, .ptr 4 2)] 65 [.str [], .int .i64 c.at_, .str c.data] 74 (((1 : Nat) ≠ 0) /\ (2 + 1 <= 5 /\ 2 < 5) /\ ((1 : Nat) ≠ 0) /\ (3 + 1 <= 5 /\ 3 < 5) /\ ((1 : Nat) ≠ 0) /\ (4 + 1 <= 5 /\ 4 < 5) /\ ·) ⟨(by decide), (by decide), (by decide), (by decide), (by decide), (by decide), ?_⟩
 refine PE.use (written_ok [] c.at_ c.data (by omega) (by omega) (by first | omega | decide) (by omega)) ?_
 refine Ke (Fn3 [5, 7, 9] [] ((4, [.bool false, .int .i64 0, .str (wrt [] c.at_ c.data), .nils, .nils]) :: (0, clc c) :: Z) 8 (((1 : Nat) ≠ 0) /\ (true = true /\ 1 = 1 /\ 2 + 1 <= 5) /\ ·) ⟨(by decide), (by decide), Rb (fun h => Bn (Jn (hK11 h))) (Bc1 4 [(78, .agg [.bool false, .int .i64 0, .str (wrt [] c.at_ c.data), .nils, .nils]), (77, .str (c.path.getD (((c.path.length : Int) - 1).toNat) default)), (76, .ptr ip3 Ap3.length)] 64 [.ptr ip3 Ap3.length, .str (c.path.getD (((c.path.length : Int) - 1).toNat) default), .agg [.bool false, .int .i64 0, .str (wrt [] c.at_ c.data), .nils, .nils]] 79 ((0 + 5 <= 5 /\ 0 < 5) /\ ·) ⟨(by decide), ?_⟩)⟩)
 have hkp3 := oat_kid_none hup3 (by rw [hpep3]; exact hyyp3)
 obtain ⟨⟨aup3, bup3⟩, hidsup3⟩ := Option.isSome_iff_exists.1 ((asm_eq _).1 (oat_asm hL.wf ha hup3)).1
 refine DC.use (putL_new (x := (.mk false 0 (wrt [] c.at_ c.data) none [] [])) (W' := W) (c.path.getD (((c.path.length : Int) - 1).toNat) default) hL hup3 hop3 hidsup3 (asc_oat hto hup3) hkp3 (List.Perm.refl _)) [(4, [.bool false, .int .i64 0, .str (wrt [] c.at_ c.data), .nils, .nils]), (0, clc c)] rfl ⟨rfl, ⟨rfl, trivial⟩⟩ ?_
 rintro rr Z1 ⟨j, k1, k2, u', hj, e1, e2, hZ1⟩
 refine Ke (Fn0 [] [] (Rr (Fn0 [] [(4, .int .i64 0)] (Rt (.int .i64 0) ?_))))
 have hT := new_er hL.wf hto hup3 e2
 rw [hpep3] at hT
 have e : iDo (er T) c = (er (orep T (c.path.take (c.path.length - 1)) u'), 0) := by
   rw [hT]; unfold iDo
   (try simp only [hPp3, hXyp3, hc14, hc19, hc23, wData, wMode, newDir, Tr.none, er_mk, er_dir, er_mode, er_data, er_names, er_kids, List.map_nil, decide_true, Bool.not_true, Bool.not_false, Bool.true_and, Bool.and_true, Bool.false_and, Bool.and_false, cond_true, cond_false, show decide ((0 : Int) = 0) = true from rfl, show decide ((3 : Int) = 0) = false from rfl, show decide ((4 : Int) = 0) = false from rfl])
   try rfl
 refine fin_dc (.int .i64 0) Z1 (by first | exact List.Sublist.refl _ | exact List.Sublist.cons _ (List.Sublist.refl _) | exact List.Sublist.cons _ (List.Sublist.cons _ (List.Sublist.refl _))) (lea_refl _) trivial hZ1.2 ⟨(orep T (c.path.take (c.path.length - 1)) u'), W, ?_, hZ1, ?_, (orep_shp hL.wf hL.shp hup3 (shp_ins e1 (oat_shp hL.wf hL.shp hup3) ⟨fun _ => ⟨rfl, rfl⟩, trivial⟩))⟩ <;> rw [e]
 try simp only [KF] at c19
 refine Rr (Cn1 (decide ((c.kind : Int) = (3 : Int))) [0, 3, 5, 7, 8, 32] [] (Ki /\ ·) ⟨rfl, fun hc31 c31 => ?_, fun hc31 c31 => ?_⟩)
 try simp only [KF] at c31
 refine Sq fun K32 hK32 => ?_
 refine Bl (Rr (Fn1 [3, 8] [(82, .bool true)] ((∃ e, TK.ptr 26 = TK.ptr e) /\ ·) ⟨⟨_, rfl⟩, Ct (Rr ?_)⟩))
 refine Fn0 [] [(4, .int .i64 3)] (Rt (.int .i64 3) ?_)
 have hT : er T = er T := rfl
 have e : iDo (er T) c = (er T, 3) := by
   rw [hT]; unfold iDo
   (try simp only [hPp3, hXyp3, hc14, hc19, hc31, wData, wMode, newDir, Tr.none, er_mk, er_dir, er_mode, er_data, er_names, er_kids, List.map_nil, decide_true, Bool.not_true, Bool.not_false, Bool.true_and, Bool.and_true, Bool.false_and, Bool.and_false, cond_true, cond_false, show decide ((0 : Int) = 0) = true from rfl, show decide ((3 : Int) = 0) = false from rfl, show decide ((4 : Int) = 0) = false from rfl])
   try rfl
 refine fin_dc (.int .i64 3) Z (by first | exact List.Sublist.refl _ | exact List.Sublist.cons _ (List.Sublist.refl _) | exact List.Sublist.cons _ (List.Sublist.cons _ (List.Sublist.refl _))) (lea_refl _) trivial hL.odd ⟨T, W, ?_, ⟨hL.perm, hL.odd⟩, ?_, hL.shp⟩ <;> rw [e]
 try simp only [KF] at c31
 refine Rr (Cn1 (decide ((c.kind : Int) = (4 : Int))) [0, 3, 5, 7, 8, 32] [] (Ki /\ ·) ⟨rfl, fun hc36 c36 => ?_, fun hc36 c36 => ?_⟩)
 try simp only [KF] at c36
 refine Sq fun K37 hK37 => ?_
 refine Bl (Rr (Fn1 [5, 7, 8] [(102, .bool true)] ((∃ e, TK.ptr 26 = TK.ptr e) /\ ·) ⟨⟨_, rfl⟩, Ct (Rr ?_)⟩))
 refine Fn0 [] [(4, .int .i64 3)] (Rt (.int .i64 3) ?_)
 have hT : er T = er T := rfl
 have e : iDo (er T) c = (er T, 3) := by
   rw [hT]; unfold iDo
   (try simp only [hPp3, hXyp3, hc14, hc19, hc31, hc36, wData, wMode, newDir, Tr.none, er_mk, er_dir, er_mode, er_data, er_names, er_kids, List.map_nil, decide_true, Bool.not_true, Bool.not_false, Bool.true_and, Bool.and_true, Bool.false_and, Bool.and_false, cond_true, cond_false, show decide ((0 : Int) = 0) = true from rfl, show decide ((3 : Int) = 0) = false from rfl, show decide ((4 : Int) = 0) = false from rfl])
   try rfl
 refine fin_dc (.int .i64 3) Z (by first | exact List.Sublist.refl _ | exact List.Sublist.cons _ (List.Sublist.refl _) | exact List.Sublist.cons _ (List.Sublist.cons _ (List.Sublist.refl _))) (lea_refl _) trivial hL.odd ⟨T, W, ?_, ⟨hL.perm, hL.odd⟩, ?_, hL.shp⟩ <;> rw [e]
 try simp only [KF] at c36
 refine Rr (Cn1 (decide ((c.kind : Int) = (5 : Int))) [0, 3, 8, 32] [] (Ki /\ ·) ⟨rfl, fun hc41 c41 => ?_, fun hc41 c41 => ?_⟩)
 try simp only [KF] at c41
 refine Rr (Bc1 3 [(124, .agg (clc c)), (123, .ptr r A0.length)] 68 [.ptr r A0.length, .agg (clc c)] 125 ((0 + 5 <= 5 /\ 0 < 5) /\ ·) ⟨(by decide), ?_⟩)
 obtain ⟨f5, f6⟩ := f4 (by simpa using hc41)
 refine DC.use (rename_ok c hL ha hto f1 f2 f5 f6) [(0, clc c)] rfl ⟨rfl, trivial⟩ ?_
 rintro _ Z1 ⟨T1, W1, rfl, hZ1, he1, hs1⟩
 refine Ke (Fn0 [] [(4, .int .i64 ((iRename (er T) c).2))] (Rt (.int .i64 ((iRename (er T) c).2)) ?_))
 have hT := he1
 have e : iDo (er T) c = (er T1, (iRename (er T) c).2) := by
   rw [hT]; unfold iDo
   (try simp only [hPp3, hXyp3, hc14, hc19, hc31, hc36, hc41, wData, wMode, newDir, Tr.none, er_mk, er_dir, er_mode, er_data, er_names, er_kids, List.map_nil, decide_true, Bool.not_true, Bool.not_false, Bool.true_and, Bool.and_true, Bool.false_and, Bool.and_false, cond_true, cond_false, show decide ((0 : Int) = 0) = true from rfl, show decide ((3 : Int) = 0) = false from rfl, show decide ((4 : Int) = 0) = false from rfl])
   try rfl
 refine fin_dc (.int .i64 ((iRename (er T) c).2)) Z1 (by first | exact List.Sublist.refl _ | exact List.Sublist.cons _ (List.Sublist.refl _) | exact List.Sublist.cons _ (List.Sublist.cons _ (List.Sublist.refl _))) (lea_refl _) trivial hZ1.2 ⟨T1, W1, ?_, hZ1, ?_, hs1⟩ <;> rw [e]
 try simp only [KF] at c41
 refine Rr (Cn1 (decide ((c.kind : Int) = (6 : Int))) [3, 8] [] (Ki /\ ·) ⟨rfl, fun hc44 c44 => ?_, fun hc44 c44 => ?_⟩)
 try simp only [KF] at c44
 refine Sq fun K45 hK45 => ?_
 refine Rr (Fn1 [3, 8] [(129, .bool true)] ((∃ e, TK.ptr 26 = TK.ptr e) /\ ·) ⟨⟨_, rfl⟩, Ct (Rr (Fn0 [] [(4, .int .i64 3)] ?_))⟩)
 refine Rt (.int .i64 3) ?_
 have hT : er T = er T := rfl
 have e : iDo (er T) c = (er T, 3) := by
   rw [hT]; unfold iDo
   (try simp only [hPp3, hXyp3, hc14, hc19, hc31, hc36, hc41, hc44, wData, wMode, newDir, Tr.none, er_mk, er_dir, er_mode, er_data, er_names, er_kids, List.map_nil, decide_true, Bool.not_true, Bool.not_false, Bool.true_and, Bool.and_true, Bool.false_and, Bool.and_false, cond_true, cond_false, show decide ((0 : Int) = 0) = true from rfl, show decide ((3 : Int) = 0) = false from rfl, show decide ((4 : Int) = 0) = false from rfl])
   try rfl
 refine fin_dc (.int .i64 3) Z (by first | exact List.Sublist.refl _ | exact List.Sublist.cons _ (List.Sublist.refl _) | exact List.Sublist.cons _ (List.Sublist.cons _ (List.Sublist.refl _))) (lea_refl _) trivial hL.odd ⟨T, W, ?_, ⟨hL.perm, hL.odd⟩, ?_, hL.shp⟩ <;> rw [e]
 try simp only [KF] at c44
 refine Sk (Bn (Jn (hK11 (Kp [] (Rr (Fn0 [] [(4, .int .i64 0)] (Rt (.int .i64 0) ?_)))))))
 have hT : er T = er T := rfl
 have e : iDo (er T) c = (er T, 0) := by
   rw [hT]; unfold iDo
   (try simp only [hPp3, hXyp3, hc14, hc19, hc31, hc36, hc41, hc44, wData, wMode, newDir, Tr.none, er_mk, er_dir, er_mode, er_data, er_names, er_kids, List.map_nil, decide_true, Bool.not_true, Bool.not_false, Bool.true_and, Bool.and_true, Bool.false_and, Bool.and_false, cond_true, cond_false, show decide ((0 : Int) = 0) = true from rfl, show decide ((3 : Int) = 0) = false from rfl, show decide ((4 : Int) = 0) = false from rfl])
   try rfl
 refine fin_dc (.int .i64 0) Z (by first | exact List.Sublist.refl _ | exact List.Sublist.cons _ (List.Sublist.refl _) | exact List.Sublist.cons _ (List.Sublist.cons _ (List.Sublist.refl _))) (lea_refl _) trivial hL.odd ⟨T, W, ?_, ⟨hL.perm, hL.odd⟩, ?_, hL.shp⟩ <;> rw [e]
 obtain ⟨iyp3, Ayp3, Byp3, Wyp3, hoyp3, hiyp3, hpyp3, hnyp3, hsyp3, hryp3⟩ := hL.foc hyyp3
 have hgyp3 : hgt Z iyp3 = some (Ayp3 ++ otc yp3 ++ Byp3) := hgt_perm hnd hpyp3 (by simp)
 have hXyp3 : tat (er T) c.path = some (er yp3) := by rw [tat_er, hyyp3]; rfl
 obtain ⟨⟨ayp3, byp3⟩, hidsyp3⟩ := Option.isSome_iff_exists.1 ((asm_eq _).1 (oat_asm hL.wf ha hyyp3)).1
 have hWyp3 := W_tat _ _ _ hXyp3
 have hDyp3 := data_W (er yp3)
 rw [er_data] at hDyp3
 rw [hoyp3, show oad (some (iyp3, Ayp3.length)) = .ptr iyp3 Ayp3.length from rfl]
 refine Ke (Fn0 [0, 3, 5, 7] [(8, .ptr iyp3 Ayp3.length)] (Sq fun K49 hK49 => ?_))
 refine Rr (Fn1 [0, 3, 5, 7, 8] [(32, .int .i64 c.kind)] (((1 : Nat) ≠ 0) /\ (0 + 1 <= 5 /\ 0 < 5) /\ ·) ⟨(by decide), (by decide), Bl (Rr (Cn1 (decide ((c.kind : Int) = (1 : Int))) [0, 3, 5, 7, 8, 32] [] (Ki /\ ·) ⟨rfl, fun hc52 c52 => ?_, fun hc52 c52 => ?_⟩))⟩)
 try simp only [KF] at c52
 refine Sq fun K53 hK53 => ?_
 refine Rr (Fn1 [3, 5, 7] [(36, .bool true)] ((∃ e, TK.ptr 26 = TK.ptr e) /\ ·) ⟨⟨_, rfl⟩, Ct (Rr (Fn0 [] [(4, .int .i64 5)] ?_))⟩)
 refine Rt (.int .i64 5) ?_
 have hT : er T = er T := rfl
 have e : iDo (er T) c = (er T, 5) := by
   rw [hT]; unfold iDo
   (try simp only [hPp3, hXyp3, hc52, wData, wMode, newDir, Tr.none, er_mk, er_dir, er_mode, er_data, er_names, er_kids, List.map_nil, decide_true, Bool.not_true, Bool.not_false, Bool.true_and, Bool.and_true, Bool.false_and, Bool.and_false, cond_true, cond_false, show decide ((0 : Int) = 0) = true from rfl, show decide ((3 : Int) = 0) = false from rfl, show decide ((4 : Int) = 0) = false from rfl])
   try rfl
 refine fin_dc (.int .i64 5) Z (by first | exact List.Sublist.refl _ | exact List.Sublist.cons _ (List.Sublist.refl _) | exact List.Sublist.cons _ (List.Sublist.cons _ (List.Sublist.refl _))) (lea_refl _) trivial hL.odd ⟨T, W, ?_, ⟨hL.perm, hL.odd⟩, ?_, hL.shp⟩ <;> rw [e]
 try simp only [KF] at c52
 refine Rr (Cn1 (decide ((c.kind : Int) = (2 : Int))) [0, 3, 5, 7, 8, 32] [] (Ki /\ ·) ⟨rfl, fun hc57 c57 => ?_, fun hc57 c57 => ?_⟩)
 try simp only [KF] at c57
 refine Sq fun K58 hK58 => ?_
 refine Bl (Rr (An1 6 [(51, .ptr iyp3 Ayp3.length), (50, .ptr iyp3 Ayp3.length), (49, .ptr iyp3 Ayp3.length), (48, .bool true), (47, .bool true), (46, .ptr iyp3 Ayp3.length)] ((∃ e, TK.ptr 26 = TK.ptr e) /\ ((1 : Nat) ≠ 0) /\ ·) ⟨⟨_, rfl⟩, (by decide), geln (t := yp3) 52 4 iyp3 0 (.bool yp3.dir) (fun J => by kernel_rfl) ((hgt_ev (E := [(0, clc c)]) ⟨rfl, trivial⟩ hiyp3).trans hgyp3) (by kernel_rfl) rfl (Cn0 yp3.dir [3, 5, 7, 8] [] ⟨fun hc60 c60 => ?_, fun hc60 c60 => ?_⟩)⟩))
 try simp only [KF] at c60
 refine Rr (Fn0 [] [(4, .int .i64 4)] (Rt (.int .i64 4) ?_))
 have hT : er T = er T := rfl
 have e : iDo (er T) c = (er T, 4) := by
   rw [hT]; unfold iDo
   (try simp only [hPp3, hXyp3, hc52, hc57, hc60, wData, wMode, newDir, Tr.none, er_mk, er_dir, er_mode, er_data, er_names, er_kids, List.map_nil, decide_true, Bool.not_true, Bool.not_false, Bool.true_and, Bool.and_true, Bool.false_and, Bool.and_false, cond_true, cond_false, show decide ((0 : Int) = 0) = true from rfl, show decide ((3 : Int) = 0) = false from rfl, show decide ((4 : Int) = 0) = false from rfl])
   try rfl
 refine fin_dc (.int .i64 4) Z (by first | exact List.Sublist.refl _ | exact List.Sublist.cons _ (List.Sublist.refl _) | exact List.Sublist.cons _ (List.Sublist.cons _ (List.Sublist.refl _))) (lea_refl _) trivial hL.odd ⟨T, W, ?_, ⟨hL.perm, hL.odd⟩, ?_, hL.shp⟩ <;> rw [e]
 try simp only [KF] at c60
 obtain ⟨f8, f9⟩ := f3 (.inl (by simpa using hc57))
 refine Rr (Av1 (r := .int .i64 (IntKind.i64.wrap (c.at_ + (c.data.length : Int)))) (v := .int .i64 (c.at_ + (c.data.length : Int))) 6 60 [(59, .int .i64 c.data.length), (58, .str c.data), (57, .ptr 0 4), (56, .int .i64 c.at_), (55, .ptr 0 3)] (congrArg (AV.int .i64) (wrap64 (by omega) (by omega))) (((1 : Nat) ≠ 0) /\ (3 + 1 <= 5 /\ 3 < 5) /\ ((1 : Nat) ≠ 0) /\ (4 + 1 <= 5 /\ 4 < 5) /\ Ki /\ ·) ⟨(by decide), (by decide), (by decide), (by decide), rfl, Cn1 (decide ((24 : Int) < ((c.at_ + (c.data.length : Int)) : Int))) [3, 5, 7, 8] [] (Ki /\ ·) ⟨rfl, fun hc63 c63 => ?_, fun hc63 c63 => ?_⟩⟩)
 try simp only [KF] at c63
 refine Rr (Fn0 [] [(4, .int .i64 6)] (Rt (.int .i64 6) ?_))
 have hT : er T = er T := rfl
 have e : iDo (er T) c = (er T, 6) := by
   rw [hT]; unfold iDo
   (try simp only [hPp3, hXyp3, hc52, hc57, hc60, hc63, wData, wMode, newDir, Tr.none, er_mk, er_dir, er_mode, er_data, er_names, er_kids, List.map_nil, decide_true, Bool.not_true, Bool.not_false, Bool.true_and, Bool.and_true, Bool.false_and, Bool.and_false, cond_true, cond_false, show decide ((0 : Int) = 0) = true from rfl, show decide ((3 : Int) = 0) = false from rfl, show decide ((4 : Int) = 0) = false from rfl])
   try rfl
 refine fin_dc (.int .i64 6) Z (by first | exact List.Sublist.refl _ | exact List.Sublist.cons _ (List.Sublist.refl _) | exact List.Sublist.cons _ (List.Sublist.cons _ (List.Sublist.refl _))) (lea_refl _) trivial hL.odd ⟨T, W, ?_, ⟨hL.perm, hL.odd⟩, ?_, hL.shp⟩ <;> rw [e]
 try simp only [KF] at c63
 refine Sk (Bn (Jn (hK58 (Kp [3, 5, 7, 8] (Rr (Fn3 [3, 5, 7, 8] [(9, .ptr 4 0)] ((4, zt) :: (0, clc c) :: Z) 8 ((true = true /\ 5 = 5 /\ 0 + 5 <= 5) /\ ·) ⟨(by decide), Sq fun K66 hK66 => ?_⟩))))))
 refine Rr (Fn1 [3, 5, 7, 8, 9] [(64, .bool true)] ((∃ e, TK.ptr 26 = TK.ptr e) /\ ·) ⟨⟨_, rfl⟩, Ct (Rb (fun h => Jn (hK66 h)) (An0 2 [(66, .ptr iyp3 Ayp3.length), (65, .ptr iyp3 Ayp3.length)] ?_))⟩)
 refine gela (t := yp3) 67 26 iyp3 (.agg (otc yp3)) (fun J => by kernel_rfl) ((hgt_ev (E := [(4, zt), (0, clc c)]) ⟨rfl, ⟨rfl, trivial⟩⟩ hiyp3).trans hgyp3) (by kernel_rfl) rfl ?_
 refine Fn3 [3, 5, 7, 9] [] ((4, otc yp3) :: (0, clc c) :: Z) 8 ((true = true /\ 5 = 5 /\ 0 + 5 <= 5) /\ ·) ⟨(by decide), Rr (Bc1 7 [(73, .str c.data), (72, .ptr 0 4), (71, .int .i64 c.at_), (70, .ptr 0 3), (69, .str yp3.data), (68, .ptr 4 2)] 65 [.str yp3.data, .int .i64 c.at_, .str c.data] 74 (((1 : Nat) ≠ 0) /\ (2 + 1 <= 5 /\ 2 < 5) /\ ((1 : Nat) ≠ 0) /\ (3 + 1 <= 5 /\ 3 < 5) /\ ((1 : Nat) ≠ 0) /\ (4 + 1 <= 5 /\ 4 < 5) /\ ·) ⟨(by decide), (by decide), (by decide), (by decide), (by decide), (by decide), PE.use (written_ok yp3.data c.at_ c.data (by omega) (by omega) (by first | omega | decide) (by omega)) (Ke ?_)⟩)⟩
 refine Fn3 [5, 7, 9] [] ((4, [.bool yp3.dir, .int .i64 yp3.mode, .str (wrt yp3.data c.at_ c.data), sln yp3.ids yp3.names.length, slk yp3.ids yp3.kids.length]) :: (0, clc c) :: Z) 8 (((1 : Nat) ≠ 0) /\ (true = true /\ 1 = 1 /\ 2 + 1 <= 5) /\ ·) ⟨(by decide), (by decide), Rb (fun h => Bn (Jn (hK49 h))) (Bc1 4 [(78, .agg [.bool yp3.dir, .int .i64 yp3.mode, .str (wrt yp3.data c.at_ c.data), sln yp3.ids yp3.names.length, slk yp3.ids yp3.kids.length]), (77, .str (c.path.getD (((c.path.length : Int) - 1).toNat) default)), (76, .ptr ip3 Ap3.length)] 64 [.ptr ip3 Ap3.length, .str (c.path.getD (((c.path.length : Int) - 1).toNat) default), .agg [.bool yp3.dir, .int .i64 yp3.mode, .str (wrt yp3.data c.at_ c.data), sln yp3.ids yp3.names.length, slk yp3.ids yp3.kids.length]] 79 ((0 + 5 <= 5 /\ 0 < 5) /\ ·) ⟨(by decide), ?_⟩)⟩
 obtain ⟨kp3, hk1p3, hk2p3⟩ := oat_kid_some hup3 (by rw [hpep3]; exact hyyp3)
 obtain ⟨⟨aup3, bup3⟩, hidsup3⟩ := Option.isSome_iff_exists.1 ((asm_eq _).1 (oat_asm hL.wf ha hup3)).1
 refine DC.use (putL_hit (x := (.mk yp3.dir yp3.mode (wrt yp3.data c.at_ c.data) yp3.ids yp3.names yp3.kids)) (c.path.getD (((c.path.length : Int) - 1).toNat) default) hL hup3 hop3 hidsup3 (asc_oat hto hup3) hk1p3 (by rw [hk2p3]; exact objs_data)) [(4, [.bool yp3.dir, .int .i64 yp3.mode, .str (wrt yp3.data c.at_ c.data), sln yp3.ids yp3.names.length, slk yp3.ids yp3.kids.length]), (0, clc c)] rfl ⟨rfl, ⟨rfl, trivial⟩⟩ ?_
 rintro rr Z1 hZ1
 rw [hpep3] at hZ1
 refine Ke (Fn0 [] [] (Rr (Fn0 [] [(4, .int .i64 0)] (Rt (.int .i64 0) ?_))))
 have hT := hit_er (x := (.mk yp3.dir yp3.mode (wrt yp3.data c.at_ c.data) yp3.ids yp3.names yp3.kids)) hL.wf hto hup3 hk1p3
 rw [hpep3] at hT
 have e : iDo (er T) c = (er (orep T c.path (.mk yp3.dir yp3.mode (wrt yp3.data c.at_ c.data) yp3.ids yp3.names yp3.kids)), 0) := by
   rw [hT]; unfold iDo
   (try simp only [hPp3, hXyp3, hc52, hc57, hc60, hc63, wData, wMode, newDir, Tr.none, er_mk, er_dir, er_mode, er_data, er_names, er_kids, List.map_nil, decide_true, Bool.not_true, Bool.not_false, Bool.true_and, Bool.and_true, Bool.false_and, Bool.and_false, cond_true, cond_false, show decide ((0 : Int) = 0) = true from rfl, show decide ((3 : Int) = 0) = false from rfl, show decide ((4 : Int) = 0) = false from rfl])
   try rfl
 refine fin_dc (.int .i64 0) Z1 (by first | exact List.Sublist.refl _ | exact List.Sublist.cons _ (List.Sublist.refl _) | exact List.Sublist.cons _ (List.Sublist.cons _ (List.Sublist.refl _))) (lea_refl _) trivial hZ1.2 ⟨(orep T c.path (.mk yp3.dir yp3.mode (wrt yp3.data c.at_ c.data) yp3.ids yp3.names yp3.kids)), W, ?_, hZ1, ?_, (orep_shp hL.wf hL.shp hyyp3 (shp_data (oat_shp hL.wf hL.shp hyyp3)))⟩ <;> rw [e]
 try simp only [KF] at c57
 refine Rr (Cn1 (decide ((c.kind : Int) = (3 : Int))) [0, 3, 5, 7, 8, 32] [] (Ki /\ ·) ⟨rfl, fun hc71 c71 => ?_, fun hc71 c71 => ?_⟩)
 try simp only [KF] at c71
 refine Sq fun K72 hK72 => ?_
 refine Bl (Rr (Fn1 [3, 8] [(82, .bool false)] ((∃ e, TK.ptr 26 = TK.ptr e) /\ ·) ⟨⟨_, rfl⟩, Cf (Rr ?_)⟩))
 refine An1 3 [(88, .ptr iyp3 Ayp3.length), (87, .ptr iyp3 Ayp3.length), (86, .ptr iyp3 Ayp3.length)] (((1 : Nat) ≠ 0) /\ ·) ⟨(by decide), geln (t := yp3) 89 4 iyp3 0 (.bool yp3.dir) (fun J => by kernel_rfl) ((hgt_ev (E := [(0, clc c)]) ⟨rfl, trivial⟩ hiyp3).trans hgyp3) (by kernel_rfl) rfl (Cn0 yp3.dir [3, 8] [] ⟨fun hc75 c75 => ?_, fun hc75 c75 => ?_⟩)⟩
 try simp only [KF] at c75
 refine Rr (Fn0 [] [(4, .int .i64 4)] (Rt (.int .i64 4) ?_))
 have hT : er T = er T := rfl
 have e : iDo (er T) c = (er T, 4) := by
   rw [hT]; unfold iDo
   (try simp only [hPp3, hXyp3, hc52, hc57, hc71, hc75, wData, wMode, newDir, Tr.none, er_mk, er_dir, er_mode, er_data, er_names, er_kids, List.map_nil, decide_true, Bool.not_true, Bool.not_false, Bool.true_and, Bool.and_true, Bool.false_and, Bool.and_false, cond_true, cond_false, show decide ((0 : Int) = 0) = true from rfl, show decide ((3 : Int) = 0) = false from rfl, show decide ((4 : Int) = 0) = false from rfl])
   try rfl
 refine fin_dc (.int .i64 4) Z (by first | exact List.Sublist.refl _ | exact List.Sublist.cons _ (List.Sublist.refl _) | exact List.Sublist.cons _ (List.Sublist.cons _ (List.Sublist.refl _))) (lea_refl _) trivial hL.odd ⟨T, W, ?_, ⟨hL.perm, hL.odd⟩, ?_, hL.shp⟩ <;> rw [e]
 try simp only [KF] at c75
 refine Sk (Bn (Jn (hK72 (Kp [3, 8] ?_))))
 obtain ⟨f8, f9⟩ := f3 (.inr (by simpa using hc71))
 refine Qb [0, 0, 2, 6, 14, 0, 32, 126, 255, 511, 1023] [(0, []), (1, []), (2, []), (3, []), (4, []), (5, []), (6, []), (7, []), (8, []), (9, []), (10, [])] (fun h => Bn (Jn (hK49 h))) (qAn1 4 [(93, .ptr iyp3 (Ayp3.length + 2)), (92, .ptr iyp3 Ayp3.length), (91, .ptr iyp3 Ayp3.length), (90, .ptr iyp3 Ayp3.length)] (((1 : Nat) ≠ 0) /\ ·) ⟨(by decide), gqln (t := yp3) 94 9 iyp3 2 (.str yp3.data) (fun J => by kernel_rfl) ((hgt_ev (E := [(0, clc c)]) ⟨rfl, trivial⟩ hiyp3).trans hgyp3) (by kernel_rfl) rfl (qBc1 3 [(96, .int .i64 c.at_), (95, .ptr 0 3)] [] 66 [.str yp3.data, .int .i64 c.at_] 97 (((1 : Nat) ≠ 0) /\ (3 + 1 <= 5 /\ 3 < 5) /\ ·) ⟨(by decide), (by decide), PE.use (sized_ok yp3.data c.at_ (by omega) (by omega) (by omega)) ?_⟩)⟩)
 refine Kq (p := (True)) trivial ?_
 refine qAn1 2 [(99, .ptr iyp3 (Ayp3.length + 2)), (98, .ptr iyp3 Ayp3.length)] (((1 : Nat) ≠ 0) /\ ·) ⟨(by decide), gqsn (t := yp3) 9 iyp3 2 (.str (szd yp3.data c.at_)) (.mk yp3.dir yp3.mode (szd yp3.data c.at_) yp3.ids yp3.names yp3.kids) ((0, clc c) :: (hset Z iyp3 (Ayp3 ++ otc (.mk yp3.dir yp3.mode (szd yp3.data c.at_) yp3.ids yp3.names yp3.kids) ++ Byp3))) (fun J => by kernel_rfl) ((hgt_ev (E := [(0, clc c)]) ⟨rfl, trivial⟩ hiyp3).trans hgyp3) (by kernel_rfl) rfl rfl (hset_ev (E := [(0, clc c)]) ⟨rfl, trivial⟩ hiyp3) ?_⟩
 obtain ⟨kp3, hk1p3, hk2p3⟩ := oat_kid_some hup3 (by rw [hpep3]; exact hyyp3)
 have hZ1 := setL (y' := (.mk yp3.dir yp3.mode (szd yp3.data c.at_) yp3.ids yp3.names yp3.kids)) hnd hL.odd hpyp3 hryp3 rfl rfl
 generalize (hset Z iyp3 (Ayp3 ++ otc (.mk yp3.dir yp3.mode (szd yp3.data c.at_) yp3.ids yp3.names yp3.kids) ++ Byp3)) = Z1 at hZ1 ⊢
 refine qFn0 [] [] (Rr (Fn0 [] [(4, .int .i64 0)] (Rt (.int .i64 0) ?_)))
 have hT := hit_er (x := (.mk yp3.dir yp3.mode (szd yp3.data c.at_) yp3.ids yp3.names yp3.kids)) hL.wf hto hup3 hk1p3
 rw [hpep3] at hT
 have e : iDo (er T) c = (er (orep T c.path (.mk yp3.dir yp3.mode (szd yp3.data c.at_) yp3.ids yp3.names yp3.kids)), 0) := by
   rw [hT]; unfold iDo
   (try simp only [hPp3, hXyp3, hc52, hc57, hc71, hc75, wData, wMode, newDir, Tr.none, er_mk, er_dir, er_mode, er_data, er_names, er_kids, List.map_nil, decide_true, Bool.not_true, Bool.not_false, Bool.true_and, Bool.and_true, Bool.false_and, Bool.and_false, cond_true, cond_false, show decide ((0 : Int) = 0) = true from rfl, show decide ((3 : Int) = 0) = false from rfl, show decide ((4 : Int) = 0) = false from rfl])
   try rfl
 refine fin_dc (.int .i64 0) Z1 (by first | exact List.Sublist.refl _ | exact List.Sublist.cons _ (List.Sublist.refl _) | exact List.Sublist.cons _ (List.Sublist.cons _ (List.Sublist.refl _))) (lea_refl _) trivial hZ1.2 ⟨(orep T c.path (.mk yp3.dir yp3.mode (szd yp3.data c.at_) yp3.ids yp3.names yp3.kids)), W, ?_, hZ1, ?_, (orep_shp hL.wf hL.shp hyyp3 (shp_data (oat_shp hL.wf hL.shp hyyp3)))⟩ <;> rw [e]
 try simp only [KF] at c71
 refine Rr (Cn1 (decide ((c.kind : Int) = (4 : Int))) [0, 3, 5, 7, 8, 32] [] (Ki /\ ·) ⟨rfl, fun hc79 c79 => ?_, fun hc79 c79 => ?_⟩)
 try simp only [KF] at c79
 refine Sq fun K80 hK80 => ?_
 refine Bl (Rr (Fn1 [5, 7, 8] [(102, .bool false)] ((∃ e, TK.ptr 26 = TK.ptr e) /\ ·) ⟨⟨_, rfl⟩, Cf (Rm 105 (yp3.dir && (decide ((0 : Int) < ((yp3.names.length : Int) : Int)))) [5, 7] ?_ ?_)⟩))
 refine An1 3 [(108, .ptr iyp3 Ayp3.length), (107, .ptr iyp3 Ayp3.length), (106, .ptr iyp3 Ayp3.length)] (((1 : Nat) ≠ 0) /\ ·) ⟨(by decide), geln (t := yp3) 109 4 iyp3 0 (.bool yp3.dir) (fun J => by kernel_rfl) ((hgt_ev (E := [(0, clc c)]) ⟨rfl, trivial⟩ hiyp3).trans hgyp3) (by kernel_rfl) rfl (An0 1 [(110, .bool yp3.dir)] (run_b (fun g83 => ?_) (fun g83 => ?_)))⟩
 have hg83 := g83
 try simp only [KF] at g83
 refine An1 3 [(113, .ptr iyp3 (Ayp3.length + 3)), (112, .ptr iyp3 Ayp3.length), (111, .ptr iyp3 Ayp3.length)] (((1 : Nat) ≠ 0) /\ ·) ⟨(by decide), geln (t := yp3) 114 23 iyp3 3 (.osl (2 * ayp3 + 1) 1 0 yp3.names.length) (fun J => by kernel_rfl) ((hgt_ev (E := [(0, clc c)]) ⟨rfl, trivial⟩ hiyp3).trans hgyp3) (by kernel_rfl) (by rw [otc, hidsyp3]; rfl) (Mn1 (decide ((0 : Int) < ((yp3.names.length : Int) : Int))) (Ki /\ ·) ⟨rfl, (by rw [hg83]; rfl)⟩)⟩
 have hg83 := g83
 try simp only [KF] at g83
 refine Mn0 false (by rw [hg83]; rfl)
 refine Cc (yp3.dir && (decide ((0 : Int) < ((yp3.names.length : Int) : Int)))) (fun hc84 c84 => ?_) fun hc84 c84 => ?_
 try simp only [KF] at c84
 refine Rr (Fn0 [] [(4, .int .i64 5)] (Rt (.int .i64 5) ?_))
 have hT : er T = er T := rfl
 have e : iDo (er T) c = (er T, 5) := by
   rw [hT]; unfold iDo
   (try simp only [hPp3, hXyp3, hc52, hc57, hc71, hc79, hc84, wData, wMode, newDir, Tr.none, er_mk, er_dir, er_mode, er_data, er_names, er_kids, List.map_nil, decide_true, Bool.not_true, Bool.not_false, Bool.true_and, Bool.and_true, Bool.false_and, Bool.and_false, cond_true, cond_false, show decide ((0 : Int) = 0) = true from rfl, show decide ((3 : Int) = 0) = false from rfl, show decide ((4 : Int) = 0) = false from rfl])
   try rfl
 refine fin_dc (.int .i64 5) Z (by first | exact List.Sublist.refl _ | exact List.Sublist.cons _ (List.Sublist.refl _) | exact List.Sublist.cons _ (List.Sublist.cons _ (List.Sublist.refl _))) (lea_refl _) trivial hL.odd ⟨T, W, ?_, ⟨hL.perm, hL.odd⟩, ?_, hL.shp⟩ <;> rw [e]
 try simp only [KF] at c84
 refine Sk (Bn (Jn (hK80 (Kp [5, 7] (Rb (fun h => Bn (Jn (hK49 h))) (Bc0 3 [(119, .str (c.path.getD (((c.path.length : Int) - 1).toNat) default)), (118, .ptr ip3 Ap3.length)] 67 [.ptr ip3 Ap3.length, .str (c.path.getD (((c.path.length : Int) - 1).toNat) default)] 120 ?_))))))
 obtain ⟨kp3, hk1p3, hk2p3⟩ := oat_kid_some hup3 (by rw [hpep3]; exact hyyp3)
 obtain ⟨⟨aup3, bup3⟩, hidsup3⟩ := Option.isSome_iff_exists.1 ((asm_eq _).1 (oat_asm hL.wf ha hup3)).1
 refine DC.use (dropL (c.path.getD (((c.path.length : Int) - 1).toNat) default) hL hup3 hop3 hidsup3 hk1p3) [(0, clc c)] rfl ⟨rfl, trivial⟩ ?_
 rintro rr Z1 ⟨W1, hZ1⟩
 refine Ke (Fn0 [] [] (Rr (Fn0 [] [(4, .int .i64 0)] (Rt (.int .i64 0) ?_))))
 have hT := gone_er hL.wf (tnd_ok hto) hup3 hk1p3
 rw [hpep3] at hT
 have e : iDo (er T) c = (er (orep T (c.path.take (c.path.length - 1)) (.mk up3.dir up3.mode up3.data up3.ids (up3.names.take kp3 ++ up3.names.drop (kp3 + 1)) (up3.kids.take kp3 ++ up3.kids.drop (kp3 + 1)))), 0) := by
   rw [hT]; unfold iDo
   (try simp only [hPp3, hXyp3, hc52, hc57, hc71, hc79, hc84, wData, wMode, newDir, Tr.none, er_mk, er_dir, er_mode, er_data, er_names, er_kids, List.map_nil, decide_true, Bool.not_true, Bool.not_false, Bool.true_and, Bool.and_true, Bool.false_and, Bool.and_false, cond_true, cond_false, show decide ((0 : Int) = 0) = true from rfl, show decide ((3 : Int) = 0) = false from rfl, show decide ((4 : Int) = 0) = false from rfl])
   try rfl
 refine fin_dc (.int .i64 0) Z1 (by first | exact List.Sublist.refl _ | exact List.Sublist.cons _ (List.Sublist.refl _) | exact List.Sublist.cons _ (List.Sublist.cons _ (List.Sublist.refl _))) (lea_refl _) trivial hZ1.2 ⟨(orep T (c.path.take (c.path.length - 1)) (.mk up3.dir up3.mode up3.data up3.ids (up3.names.take kp3 ++ up3.names.drop (kp3 + 1)) (up3.kids.take kp3 ++ up3.kids.drop (kp3 + 1)))), W1, ?_, hZ1, ?_, (orep_shp hL.wf hL.shp hup3 (drop_shp (oat_shp hL.wf hL.shp hup3)))⟩ <;> rw [e]
 try simp only [KF] at c79
 refine Rr (Cn1 (decide ((c.kind : Int) = (5 : Int))) [0, 3, 8, 32] [] (Ki /\ ·) ⟨rfl, fun hc88 c88 => ?_, fun hc88 c88 => ?_⟩)
 try simp only [KF] at c88
 refine Rr (Bc1 3 [(124, .agg (clc c)), (123, .ptr r A0.length)] 68 [.ptr r A0.length, .agg (clc c)] 125 ((0 + 5 <= 5 /\ 0 < 5) /\ ·) ⟨(by decide), ?_⟩)
 obtain ⟨f5, f6⟩ := f4 (by simpa using hc88)
 refine DC.use (rename_ok c hL ha hto f1 f2 f5 f6) [(0, clc c)] rfl ⟨rfl, trivial⟩ ?_
 rintro _ Z1 ⟨T1, W1, rfl, hZ1, he1, hs1⟩
 refine Ke (Fn0 [] [(4, .int .i64 ((iRename (er T) c).2))] (Rt (.int .i64 ((iRename (er T) c).2)) ?_))
 have hT := he1
 have e : iDo (er T) c = (er T1, (iRename (er T) c).2) := by
   rw [hT]; unfold iDo
   (try simp only [hPp3, hXyp3, hc52, hc57, hc71, hc79, hc88, wData, wMode, newDir, Tr.none, er_mk, er_dir, er_mode, er_data, er_names, er_kids, List.map_nil, decide_true, Bool.not_true, Bool.not_false, Bool.true_and, Bool.and_true, Bool.false_and, Bool.and_false, cond_true, cond_false, show decide ((0 : Int) = 0) = true from rfl, show decide ((3 : Int) = 0) = false from rfl, show decide ((4 : Int) = 0) = false from rfl])
   try rfl
 refine fin_dc (.int .i64 ((iRename (er T) c).2)) Z1 (by first | exact List.Sublist.refl _ | exact List.Sublist.cons _ (List.Sublist.refl _) | exact List.Sublist.cons _ (List.Sublist.cons _ (List.Sublist.refl _))) (lea_refl _) trivial hZ1.2 ⟨T1, W1, ?_, hZ1, ?_, hs1⟩ <;> rw [e]
 try simp only [KF] at c88
 refine Rr (Cn1 (decide ((c.kind : Int) = (6 : Int))) [3, 8] [] (Ki /\ ·) ⟨rfl, fun hc91 c91 => ?_, fun hc91 c91 => ?_⟩)
 try simp only [KF] at c91
 refine Sq fun K92 hK92 => ?_
 refine Rr (Fn1 [3, 8] [(129, .bool false)] ((∃ e, TK.ptr 26 = TK.ptr e) /\ ·) ⟨⟨_, rfl⟩, Cf (Sk (Jn (hK92 (Kp [3, 8] (Rb (fun h => Bn (Jn (hK49 h))) ?_)))))⟩)
 refine An1 5 [(134, .ptr iyp3 (Ayp3.length + 1)), (133, .ptr iyp3 Ayp3.length), (132, .int .i64 c.at_), (131, .ptr 0 3), (130, .ptr iyp3 Ayp3.length)] (((1 : Nat) ≠ 0) /\ (3 + 1 <= 5 /\ 3 < 5) /\ ((1 : Nat) ≠ 0) /\ ·) ⟨(by decide), (by decide), (by decide), gesn (t := yp3) 3 iyp3 1 (.int .i64 c.at_) (.mk yp3.dir c.at_ yp3.data yp3.ids yp3.names yp3.kids) ((0, clc c) :: (hset Z iyp3 (Ayp3 ++ otc (.mk yp3.dir c.at_ yp3.data yp3.ids yp3.names yp3.kids) ++ Byp3))) (fun J => by kernel_rfl) ((hgt_ev (E := [(0, clc c)]) ⟨rfl, trivial⟩ hiyp3).trans hgyp3) (by kernel_rfl) rfl rfl (hset_ev (E := [(0, clc c)]) ⟨rfl, trivial⟩ hiyp3) ?_⟩
 obtain ⟨kp3, hk1p3, hk2p3⟩ := oat_kid_some hup3 (by rw [hpep3]; exact hyyp3)
 have hZ1 := setL (y' := (.mk yp3.dir c.at_ yp3.data yp3.ids yp3.names yp3.kids)) hnd hL.odd hpyp3 hryp3 rfl rfl
 generalize (hset Z iyp3 (Ayp3 ++ otc (.mk yp3.dir c.at_ yp3.data yp3.ids yp3.names yp3.kids) ++ Byp3)) = Z1 at hZ1 ⊢
 refine Fn0 [] [] (Rr (Fn0 [] [(4, .int .i64 0)] (Rt (.int .i64 0) ?_)))
 have hT := hit_er (x := (.mk yp3.dir c.at_ yp3.data yp3.ids yp3.names yp3.kids)) hL.wf hto hup3 hk1p3
 rw [hpep3] at hT
 have e : iDo (er T) c = (er (orep T c.path (.mk yp3.dir c.at_ yp3.data yp3.ids yp3.names yp3.kids)), 0) := by
   rw [hT]; unfold iDo
   (try simp only [hPp3, hXyp3, hc52, hc57, hc71, hc79, hc88, hc91, wData, wMode, newDir, Tr.none, er_mk, er_dir, er_mode, er_data, er_names, er_kids, List.map_nil, decide_true, Bool.not_true, Bool.not_false, Bool.true_and, Bool.and_true, Bool.false_and, Bool.and_false, cond_true, cond_false, show decide ((0 : Int) = 0) = true from rfl, show decide ((3 : Int) = 0) = false from rfl, show decide ((4 : Int) = 0) = false from rfl])
   try rfl
 refine fin_dc (.int .i64 0) Z1 (by first | exact List.Sublist.refl _ | exact List.Sublist.cons _ (List.Sublist.refl _) | exact List.Sublist.cons _ (List.Sublist.cons _ (List.Sublist.refl _))) (lea_refl _) trivial hZ1.2 ⟨(orep T c.path (.mk yp3.dir c.at_ yp3.data yp3.ids yp3.names yp3.kids)), W, ?_, hZ1, ?_, (orep_shp hL.wf hL.shp hyyp3 (shp_data (oat_shp hL.wf hL.shp hyyp3)))⟩ <;> rw [e]
 try simp only [KF] at c91
 refine Sk (Bn (Jn (hK49 (Kp [] (Rr (Fn0 [] [(4, .int .i64 0)] (Rt (.int .i64 0) ?_)))))))
 have hT : er T = er T := rfl
 have e : iDo (er T) c = (er T, 0) := by
   rw [hT]; unfold iDo
   (try simp only [hPp3, hXyp3, hc52, hc57, hc71, hc79, hc88, hc91, wData, wMode, newDir, Tr.none, er_mk, er_dir, er_mode, er_data, er_names, er_kids, List.map_nil, decide_true, Bool.not_true, Bool.not_false, Bool.true_and, Bool.and_true, Bool.false_and, Bool.and_false, cond_true, cond_false, show decide ((0 : Int) = 0) = true from rfl, show decide ((3 : Int) = 0) = false from rfl, show decide ((4 : Int) = 0) = false from rfl])
   try rfl
 refine fin_dc (.int .i64 0) Z (by first | exact List.Sublist.refl _ | exact List.Sublist.cons _ (List.Sublist.refl _) | exact List.Sublist.cons _ (List.Sublist.cons _ (List.Sublist.refl _))) (lea_refl _) trivial hL.odd ⟨T, W, ?_, ⟨hL.perm, hL.odd⟩, ?_, hL.shp⟩ <;> rw [e]
 dsimp only
 have hPp3 : parC (er T) c.path = 3 := by rw [parC_er, hup3]
 refine Ke (Fn1 [0, 3] [(6, .int .i64 3), (5, .nilp)] ((0 < 2) /\ (1 < 2) /\ ·) ⟨(by decide), (by decide), Sq fun K96 hK96 => ?_⟩)
 refine Rr (Fn1 [0, 3, 5, 6] [(18, .bool true)] (Ki /\ ·) ⟨rfl, Ct (Rr (Fn0 [] [(4, .int .i64 3)] ?_))⟩)
 refine Rt (.int .i64 3) ?_
 have hT : er T = er T := rfl
 have e : iDo (er T) c = (er T, 3) := by
   rw [hT]; unfold iDo
   (try simp only [hPp3, wData, wMode, newDir, Tr.none, er_mk, er_dir, er_mode, er_data, er_names, er_kids, List.map_nil, decide_true, Bool.not_true, Bool.not_false, Bool.true_and, Bool.and_true, Bool.false_and, Bool.and_false, cond_true, cond_false, show decide ((0 : Int) = 0) = true from rfl, show decide ((3 : Int) = 0) = false from rfl, show decide ((4 : Int) = 0) = false from rfl])
   try rfl
 refine fin_dc (.int .i64 3) Z (by first | exact List.Sublist.refl _ | exact List.Sublist.cons _ (List.Sublist.refl _) | exact List.Sublist.cons _ (List.Sublist.cons _ (List.Sublist.refl _))) (lea_refl _) trivial hL.odd ⟨T, W, ?_, ⟨hL.perm, hL.odd⟩, ?_, hL.shp⟩ <;> rw [e]
set_option maxRecDepth 100000
theorem h_dfz {np : Nat} {G : Prg} {c : Code} {F0 : Fr} {H' Z W : Hp} {n : Nat} {Q : Post} {k r : Nat} {T : OT} (hz : Z.Perm ((r, [] ++ otc T ++ []) :: (objs T ++ W))) (hsT : shp T)
  (h : TT np G.P c ((k, .pat (tcs (er T))) :: F0) H' n Q) : TT np G.P c ((k, .ptr r 0) :: F0) (H' ++ Z) n Q := by
 refine TT_conv h fun X N ρ a w hs => ?_
 have hsub : H'.Sublist (H' ++ Z) := List.sublist_append_left _ _
 have hO : ∀ b, OX X ρ H' b -> OX X ρ (H' ++ Z) b := fun b hb => hb.imp id (Own.sub hsub)
 have hnd := hs.hr.nodup
 simp only [ids, List.map_append] at hnd
 have hno : ∀ i b, i ∈ ids Z -> ρ i = some b -> ¬ OX X ρ H' b := by
  intro i b hi hb hx
  have hi2 : i ∈ ids (H' ++ Z) := by simp only [ids, List.map_append, List.mem_append]; exact .inr hi
  rcases hx with hx | ⟨j, hj, hb'⟩
  ·exact hs.hr.notX i b hi2 hb hx
  ·have := hs.hr.inj i j b hi2 (by simp only [ids, List.map_append, List.mem_append]; exact .inl hj) hb hb'
   subst this
   exact (List.nodup_append.1 hnd).2.2 _ hj _ hi rfl
 refine ⟨ρ, ⟨hs.fresh, hs.hr.sub hsub, fun t => ?_, hs.df, hs.sz⟩, fun b hb => Own.sub hsub hb, fun _ _ _ h => h⟩
 have ht := hs.fr t
 simp only [gt] at ht ⊢
 cases hk : k == t with
 | false => rw [hk] at ht; exact VR_carry (Carry.less hO) _ _ ht
 | true =>
  rw [hk] at ht
  have ht : VR ρ w (OX X ρ (H' ++ Z)) (.ptr r 0) (a.tmps.getD t undef) := ht
  show VR ρ w (OX X ρ H') (.pat (tcs (er T))) (a.tmps.getD t undef)
  simp only [VR] at ht ⊢
  obtain ⟨b, hb, hv⟩ := ht
  have hm : (r, [] ++ otc T ++ []) ∈ H' ++ Z := List.mem_append.2 (.inr (hz.mem_iff.2 (by simp)))
  obtain ⟨b', c', e', f', q1, q2, q3, q4, q5, q6⟩ := hs.hr.obj _ _ hm
  rw [hb] at q1; cases q1
  simp only [List.nil_append, List.append_nil] at q5 q6
  have hmz : ∀ p, p ∈ objs T -> p ∈ Z := fun p hp => hz.mem_iff.2 (by simp only [List.mem_cons, List.mem_append]; exact .inr (.inl hp))
  have hd := deep_vr (X' := OX X ρ H') hs.hr hO T _ _ hsT (fun p hp => List.mem_append.2 (.inr (hmz p hp))) (fun i b hi hb => hno i b (by
   obtain ⟨p, hp, rfl⟩ := List.mem_map.1 hi
   exact List.mem_map.2 ⟨p, hmz p hp, rfl⟩) hb) q6
  refine ⟨_, hv, hno r b (List.mem_map.2 ⟨(r, [] ++ otc T ++ []), hz.mem_iff.2 (by simp), rfl⟩) hb, (Array.getElem?_eq_some_iff.1 q2).1, ?_⟩
  rw [show tcs (er T) = trc (er T) from (trc_eq _).symm]
  have hl : (trc (er T)).length = 5 := by rw [trc_eq]; rfl
  exact PCs_of q2 q4 (trc (er T)) 0 0 (by rw [hl]; rw [otc_len] at q5; omega) (by rw [hl, List.drop_zero]; rw [otc_len] at hd; exact hd)
theorem wrt_len {s d : Str} {a : Int} (h : 0 <= a) : (wrt s a d).length <= s.length + a.toNat + d.length := by
 have hz := szd_len (s := s) h
 unfold wrt
 dsimp only
 split <;> split <;> (try simp only [List.length_append, List.length_take, List.length_drop]) <;> omega
theorem W_new (m : Int) : (newDir m).W = 1 := by simp [newDir, Tr.W, wS, Tr.Ws]
theorem W_iDo {t : Tr} {c : Cl} (ht : t.W < 2 ^ 10) (f2 : wS c.path < 2 ^ 10) (f3 : c.kind = 2 \/ c.kind = 3 -> 0 <= c.at_ /\ c.at_ <= 24) (f6 : c.kind = 5 -> wS c.to < 2 ^ 10) : (iDo t c).1.W < 2 ^ 40 := by
 have h0 : t.W < 2 ^ 40 := by omega
 have key : ∀ (x : Tr) (g : Bool), x.W < 2 ^ 12 -> (tset c.path t x g).W < 2 ^ 40 := fun x g hx => by
  have := W_tset_lt2 (p := c.path) (t := t) (x := x) (g := g) (by omega) hx f2
  omega
 have hx : ∀ {x}, tat t c.path = some x -> x.W < 2 ^ 10 := fun h => by have := W_tat _ _ _ h; omega
 unfold iDo
 cases decide (parC t c.path = (0 : Int)) <;> simp only [Bool.not_true, Bool.not_false, cond_true, cond_false]
 ·exact h0
 cases decide (c.kind = (1 : Int)) <;> simp only [cond_true, cond_false]
 case true => split; exact h0; exact key _ _ (by rw [W_new]; omega)
 cases hk : decide (c.kind = (2 : Int)) <;> simp only [cond_true, cond_false]
 case true =>
  obtain ⟨f8, f9⟩ := f3 (.inl (by simpa using hk))
  split
  ·rename_i x he
   cases x.dir <;> simp only [cond_true, cond_false]
   case true => exact h0
   cases hd : decide ((24 : Int) < c.at_ + ((c.data.length : Nat) : Int)) <;> simp only [cond_true, cond_false]
   ·simp only [decide_eq_false_iff_not] at hd
    refine key _ _ ?_
    have h1 := W_wData x (wrt x.data c.at_ c.data)
    have h2 := wrt_len (s := x.data) (d := c.data) f8
    have := hx he
    have := data_W x
    omega
   ·exact h0
  ·cases hd : decide ((24 : Int) < c.at_ + ((c.data.length : Nat) : Int)) <;> simp only [cond_true, cond_false]
   ·simp only [decide_eq_false_iff_not] at hd
    refine key _ _ ?_
    have h1 := W_wData .none (wrt [] c.at_ c.data)
    have h2 := wrt_len (s := []) (d := c.data) f8
    have h3 : Tr.none.data.length = 0 := rfl
    rw [W_none] at h1
    simp only [List.length_nil] at h2
    omega
   ·exact h0
 cases hk : decide (c.kind = (3 : Int)) <;> simp only [cond_true, cond_false]
 case true =>
  obtain ⟨f8, f9⟩ := f3 (.inr (by simpa using hk))
  split
  ·exact h0
  ·rename_i x he
   cases x.dir <;> simp only [cond_true, cond_false]
   case true => exact h0
   refine key _ _ ?_
   have h1 := W_wData x (szd x.data c.at_)
   have h2 := szd_len (s := x.data) f8
   have := hx he
   have := data_W x
   omega
 cases decide (c.kind = (4 : Int)) <;> simp only [cond_true, cond_false]
 case true =>
  split
  ·exact h0
  ·rename_i x he
   cases x.dir && decide ((0 : Int) < ((x.names.length : Nat) : Int)) <;> simp only [cond_true, cond_false]
   ·exact key _ _ (by rw [W_none]; omega)
   ·exact h0
 cases hk : decide (c.kind = (5 : Int)) <;> simp only [cond_true, cond_false]
 case true =>
  have f7 := f6 (by simpa using hk)
  unfold iRename
  split
  ·exact h0
  ·rename_i x he
   cases c.path.isPrefixOf c.to <;> simp only [cond_true, cond_false]
   case true => exact h0
   cases decide (parC t c.to = (0 : Int)) <;> simp only [Bool.not_true, Bool.not_false, cond_true, cond_false]
   ·exact h0
   split
   ·exact h0
   ·have h1 := W_tset_lt2 (p := c.to) (t := t) (x := x) (g := false) (by omega) (by have := hx he; omega) f7
    have h2 := W_tset_lt3 (p := c.path) (t := tset c.to t x false) (x := .none) (g := true) h1 (by rw [W_none]; omega) f2
    exact h2
 cases decide (c.kind = (6 : Int)) <;> simp only [cond_true, cond_false]
 ·exact h0
 ·split
  ·exact h0
  ·rename_i x he
   exact key _ _ (by rw [W_wMode]; have := hx he; omega)
set_option maxRecDepth 100000
structure Mk where
 path : List Str
 sub : Bool
instance : Inhabited Mk := ⟨⟨[], false⟩⟩
abbrev mkc (m : Mk) : List AV := [pth m.path, .bool m.sub]
theorem mkc_len (m : Mk) : (mkc m).length = 2 := rfl
@[go_sem] theorem purs_mkc (m : Mk) : purs (mkc m) = true := by simp only [mkc, purs, go_sem, pur, Bool.and_self]
@[go_sem] theorem purs_flM (X : List Mk) : purs (fl mkc X) = true := purs_fl purs_mkc X
theorem flM_le (X : List Mk) : X.length * 2 <= (fl mkc X).length := by rw [fl_len mkc_len]; exact Nat.le_refl _
theorem flMl (X : List Mk) : (fl mkc X).length = X.length * 2 := fl_len mkc_len X
theorem chkM (l : List Mk) : chk 2 l.length (fl mkc l) = l.map mkc := chk_fl mkc_len l
theorem mg_mk (l : List Mk) (k : Nat) (h : k < l.length) : (l.map mkc).getD k [] = mkc (l.getD k default) := mgs mkc l k h
theorem push_mk (X : List Mk) (y : Mk) : apd (fl mkc X) (X.length * 2) (mkc y) = fl mkc (X ++ [y]) := by
 unfold apd; rw [fl_full mkc_len X rfl, fl_app, fl_one]
theorem s1_mk (y : Mk) : mkc y = fl mkc [y] := by rw [fl_one]
theorem app0_mk (X : List Mk) : apd [] (0 * 2) ((X.map mkc).flatten) = fl mkc X := rfl
@[go_sem] theorem puress_mk : ∀ X : List Mk, puress (X.map mkc) = true
 | [] => rfl
 | m :: X => by simp only [List.map_cons, puress, purs_mkc, puress_mk X, Bool.and_self]
theorem rowM_get (X : List Mk) (i : Nat) (h : i < X.length) : ((fl mkc X).drop (0 + i * 2)).take 2 = mkc (X.getD i default) := by
 rw [Nat.zero_add]
 have e : X = X.take i ++ X.getD i default :: X.drop (i + 1) := get_split X i h default
 have h1 : (fl mkc (X.take i)).length = i * 2 := by rw [fl_len mkc_len, List.length_take, Nat.min_eq_left (Nat.le_of_lt h)]
 have e2 : fl mkc X = fl mkc (X.take i) ++ (mkc (X.getD i default) ++ fl mkc (X.drop (i + 1))) := by
  rw [<- fl_one mkc (X.getD i default), <- fl_app, <- fl_app]; exact congrArg (fl mkc) (by simpa using e)
 rw [e2, List.drop_left' h1, List.take_left' (mkc_len _)]
theorem rowM_set (X : List Mk) (i : Nat) (y : Mk) (h : i < X.length) : (fl mkc X).take (0 + i * 2) ++ mkc y ++ (fl mkc X).drop (0 + i * 2 + 2) = fl mkc (X.set i y) := by
 rw [Nat.zero_add]
 have e : X = X.take i ++ X.getD i default :: X.drop (i + 1) := get_split X i h default
 have h1 : (fl mkc (X.take i)).length = i * 2 := by rw [fl_len mkc_len, List.length_take, Nat.min_eq_left (Nat.le_of_lt h)]
 have e2 : fl mkc X = fl mkc (X.take i) ++ (mkc (X.getD i default) ++ fl mkc (X.drop (i + 1))) := by
  rw [<- fl_one mkc (X.getD i default), <- fl_app, <- fl_app]; exact congrArg (fl mkc) (by simpa using e)
 have h2 : (fl mkc (X.take i) ++ mkc (X.getD i default)).length = i * 2 + 2 := by rw [List.length_append, h1, mkc_len]
 rw [List.set_eq_take_append_cons_drop, if_pos h, fl_app, show fl mkc (y :: X.drop (i + 1)) = mkc y ++ fl mkc (X.drop (i + 1)) by rw [<- fl_one mkc y, <- fl_app]; rfl]
 rw [e2, List.take_left' h1, <- List.append_assoc, List.drop_left' h2, List.append_assoc]
def mkOk (m : Mk) : Bool := pthOk m.path 0 && (decide (0 < m.path.length) || m.sub)
def undM (l : List Mk) (p : List Str) : Bool := l.any fun m => m.sub && m.path.isPrefixOf p
def mrkM (l : List Mk) (p : List Str) : Bool := undM l p || l.any fun m => m.path == p
def cmpS (x y : Str) : Int := if blt x y = true then -1 else if blt y x = true then 1 else 0
def cmpP : List Str -> List Str -> Int
 | [], [] => 0
 | [], _ :: _ => -1
 | _ :: _, [] => 1
 | a :: xs, b :: ys => if cmpS a b ≠ 0 then cmpS a b else cmpP xs ys
set_option maxRecDepth 100000
theorem blt_tot : ∀ {a b : Str}, blt a b = false -> blt b a = false -> a = b
 | [], [], _, _ => rfl
 | [], _ :: _, h, _ => by simp [blt, Op.bytesLess] at h
 | _ :: _, [], _, h => by simp [blt, Op.bytesLess] at h
 | x :: a, y :: b, h, k => by
  simp only [blt, Op.bytesLess, Bool.or_eq_false_iff, Bool.and_eq_false_iff, decide_eq_false_iff_not] at h k
  have e : x = y := UInt8.le_antisymm (UInt8.not_lt.1 k.1) (UInt8.not_lt.1 h.1)
  subst e
  have h2 := h.2.resolve_left (by simp)
  have k2 := k.2.resolve_left (by simp)
  rw [blt_tot (a := a) (b := b) h2 k2]
theorem cmpS_self (a : Str) : cmpS a a = 0 := by simp [cmpS, blt_irr]
theorem cmpS_eq {a b : Str} (h : cmpS a b = 0) : a = b := by
 unfold cmpS at h
 cases h1 : blt a b with
 | true => rw [h1] at h; simp at h
 | false =>
  cases h2 : blt b a with
  | true => rw [h1, h2] at h; simp at h
  | false => exact blt_tot h1 h2
theorem cmpS_neg {a b : Str} : cmpS a b < 0 ↔ blt a b = true := by
 unfold cmpS
 cases h1 : blt a b with
 | true => simp
 | false => simp; split <;> omega
theorem cmpS_anti (a b : Str) : cmpS b a = - cmpS a b := by
 unfold cmpS
 cases h1 : blt a b <;> cases h2 : blt b a <;> simp
 exact absurd (blt_trans h1 h2) (by rw [blt_irr]; simp)
theorem cmpP_eq : ∀ {a b : List Str}, cmpP a b = 0 -> a = b
 | [], [], _ => rfl
 | [], _ :: _, h => by simp [cmpP] at h
 | _ :: _, [], h => by simp [cmpP] at h
 | a :: xs, b :: ys, h => by
  simp only [cmpP] at h
  by_cases e : cmpS a b = 0
  ·rw [if_neg (by simpa using e)] at h
   rw [cmpS_eq e, cmpP_eq h]
  ·rw [if_pos e] at h; exact absurd h e
theorem cmpP_anti : ∀ a b : List Str, cmpP b a = - cmpP a b
 | [], [] => rfl
 | [], _ :: _ => rfl
 | _ :: _, [] => rfl
 | a :: xs, b :: ys => by
  simp only [cmpP]
  rw [cmpS_anti a b]
  by_cases e : cmpS a b = 0
  ·simp [e, cmpP_anti xs ys]
  ·rw [if_pos (by omega), if_pos e]
theorem cmpP_trans : ∀ {a b c : List Str}, cmpP a b <= 0 -> cmpP b c <= 0 -> cmpP a c <= 0
 | [], _, [], _, _ => by simp [cmpP]
 | [], _, _ :: _, _, _ => by simp [cmpP]
 | _ :: _, [], _, h, _ => by simp [cmpP] at h
 | _ :: _, _ :: _, [], _, h => by simp [cmpP] at h
 | a :: xs, b :: ys, c :: zs, h, k => by
  simp only [cmpP] at h k ⊢
  by_cases e1 : cmpS a b = 0
  ·rw [if_neg (by simpa using e1)] at h
   have := cmpS_eq e1; subst this
   by_cases e2 : cmpS a c = 0
   ·rw [if_neg (by simpa using e2)] at k ⊢; exact cmpP_trans h k
   ·rw [if_pos e2] at k ⊢; exact k
  ·rw [if_pos e1] at h
   have h1 : blt a b = true := cmpS_neg.1 (by omega)
   by_cases e2 : cmpS b c = 0
   ·have := cmpS_eq e2; subst this
    rw [if_pos e1]; exact h
   ·rw [if_pos e2] at k
    have h2 : blt b c = true := cmpS_neg.1 (by omega)
    have h3 := cmpS_neg.2 (blt_trans h1 h2)
    rw [if_pos (by omega)]; omega
def leM (a b : Mk) : Prop := cmpP a.path b.path <= 0
theorem leM_trans {a b c : Mk} (h : leM a b) (k : leM b c) : leM a c := cmpP_trans h k
theorem leM_of {a b : Mk} (h : ¬ cmpP a.path b.path < 0) : leM b a := by unfold leM; rw [cmpP_anti]; omega
def NP (a b : Mk) : Prop := ¬ (a.sub = true /\ a.path.isPrefixOf b.path = true)
def SR (a b : Mk) : Prop := NP a b /\ NP b a /\ a.path ≠ b.path
theorem SR_symm {a b : Mk} (h : SR a b) : SR b a := ⟨h.2.1, h.1, fun e => h.2.2 e.symm⟩
structure Trl (l : List Mk) : Prop where
 ok : ∀ m ∈ l, mkOk m = true
 sr : l.Pairwise SR
 so : l.Pairwise leM
def keepM (m : Mk) (x : Mk) : Bool := !m.sub || !m.path.isPrefixOf x.path
def addC (l : List Mk) (m : Mk) : Bool := undM l m.path || (!m.sub && mrkM l m.path)
def AddR (l : List Mk) (m : Mk) (l' : List Mk) : Prop := (addC l m = true /\ l' = l) \/ (addC l m = false /\ l'.Perm (l.filter (keepM m) ++ [m]) /\ l'.Pairwise leM)
theorem AddR.len {l l' : List Mk} {m : Mk} (h : AddR l m l') : l'.length <= l.length + 1 := by
 rcases h with ⟨_, rfl⟩ | ⟨_, h, _⟩
 ·omega
 ·rw [h.length_eq, List.length_append, List.length_singleton]
  have := List.length_filter_le (keepM m) l
  omega
theorem AddR.mem {l l' : List Mk} {m x : Mk} (h : AddR l m l') (hx : x ∈ l') : x ∈ l \/ x = m := by
 rcases h with ⟨_, rfl⟩ | ⟨_, h, _⟩
 ·exact .inl hx
 ·have := h.mem_iff.1 hx
  rw [List.mem_append, List.mem_singleton, List.mem_filter] at this
  exact this.imp (·.1) id
theorem AddR.trl {l l' : List Mk} {m : Mk} (ht : Trl l) (hm : mkOk m = true) (h : AddR l m l') : Trl l' := by
 refine ⟨fun x hx => (h.mem hx).elim (ht.ok x) (fun e => e ▸ hm), ?_, ?_⟩
 ·rcases h with ⟨_, rfl⟩ | ⟨hc, hp, _⟩
  ·exact ht.sr
  ·refine (hp.pairwise_iff (fun h => SR_symm h)).2 ?_
   rw [List.pairwise_append]
   refine ⟨ht.sr.filter _, List.pairwise_singleton _ _, fun x hx y hy => ?_⟩
   rw [List.mem_singleton] at hy; subst hy
   rw [List.mem_filter] at hx
   unfold addC at hc
   rw [Bool.or_eq_false_iff] at hc
   have hn : NP x y := fun ⟨a, b⟩ => by
    have := hc.1
    unfold undM at this
    rw [List.any_eq_false] at this
    exact this x hx.1 (by rw [a, b]; rfl)
   cases hs : y.sub with
   | true =>
    have hk := hx.2
    unfold keepM at hk
    rw [hs] at hk
    have hk2 : y.path.isPrefixOf x.path = false := by simpa using hk
    have h2 : NP y x := fun hh => by rw [hh.2] at hk2; cases hk2
    have h3 : y.path.isPrefixOf y.path = true := List.isPrefixOf_iff_prefix.2 (List.prefix_refl _)
    exact ⟨hn, h2, fun e => by rw [e, h3] at hk2; cases hk2⟩
   | false =>
    have h2 : NP y x := fun hh => by have := hh.1; rw [hs] at this; cases this
    refine ⟨hn, h2, fun e => ?_⟩
    have hm2 := hc.2
    rw [hs] at hm2
    simp only [Bool.not_false, Bool.true_and, mrkM, Bool.or_eq_false_iff] at hm2
    have := hm2.2
    rw [List.any_eq_false] at this
    exact this x hx.1 (by simp [e])
 ·rcases h with ⟨_, rfl⟩ | ⟨_, _, hs⟩
  ·exact ht.so
  ·exact hs
def stepM (l : List Mk) (k : Nat) : Bool := mkOk (l.getD k default) && ((decide (k = 0) || decide (cmpP (l.getD (k - 1) default).path (l.getD k default).path < 0)) && !undM (l.take k) (l.getD k default).path)
def trOk (l : List Mk) : Bool := (List.range l.length).all (stepM l) && decide (l.length <= 6)
theorem getD_pw {α : Type} [Inhabited α] {R : α -> α -> Prop} {l : List α} (h : l.Pairwise R) {i j : Nat} (hij : i < j) (hj : j < l.length) : R (l.getD i default) (l.getD j default) := by
 have := List.pairwise_iff_getElem.1 h i j (by omega) hj hij
 simpa [List.getD, show i < l.length by omega, hj] using this
theorem Trl.step {l : List Mk} (h : Trl l) {k : Nat} (hk : k < l.length) : stepM l k = true := by
 unfold stepM
 rw [h.ok _ (getD_mem l k default hk), Bool.true_and, Bool.and_eq_true]
 constructor
 ·rcases Nat.eq_zero_or_pos k with e | e
  ·simp [e]
  ·have h1 := getD_pw h.so (i := k - 1) (j := k) (by omega) hk
   have h2 := getD_pw h.sr (i := k - 1) (j := k) (by omega) hk
   have h3 : cmpP (l.getD (k - 1) default).path (l.getD k default).path ≠ 0 := fun e => h2.2.2 (cmpP_eq e)
   unfold leM at h1
   rw [Bool.or_eq_true]; right
   exact decide_eq_true (by omega)
 ·rw [Bool.not_eq_true', undM, List.any_eq_false]
  intro m hm hc
  obtain ⟨i, hi, rfl⟩ := List.mem_iff_getElem.1 hm
  rw [List.length_take] at hi
  have h2 := getD_pw h.sr (i := i) (j := k) (by omega) hk
  rw [List.getElem_take] at hc
  have e : l.getD i default = l[i]'(by omega) := by simp [List.getD, show i < l.length by omega]
  rw [Bool.and_eq_true] at hc
  exact h2.1 (by rw [e]; exact hc)
theorem Trl.trOk {l : List Mk} (h : Trl l) (hl : l.length <= 6) : trOk l = true := by
 unfold Go.Proofs.YtoekdppgejhikaaGreatT.trOk
 rw [Bool.and_eq_true, List.all_eq_true]
 exact ⟨fun k hk => h.step (List.mem_range.1 hk), decide_eq_true hl⟩
theorem Trl.nil : Trl [] := ⟨by simp, List.Pairwise.nil, List.Pairwise.nil⟩
open Go Go.Proofs
set_option maxRecDepth 100000
theorem markOk_ok (m : Mk) (hm : wS m.path < 2 ^ 40) : PE G 26 [.agg (mkc m)] (.bool (mkOk m)) := by
 have hl := wS_len m.path
 refine Pe Tryz.func26 ?_
 refine Rr (Fn2 [] [(1, .ptr 0 0)] [(0, mkc m)] 4 (Rm 2 ((pthOk m.path 0) && ((decide ((0 : Int) < ((m.path.length : Int) : Int))) || m.sub)) [] ?_ ?_))
 refine Bc1 3 [(4, pth m.path), (3, .ptr 0 0)] 56 [pth m.path, .int .i64 0] 5 (((1 : Nat) ≠ 0) /\ (0 + 1 <= 2 /\ 0 < 2) /\ ·) ⟨(by decide), (by decide), ?_⟩
 refine PE.use (namesOk_ok m.path 0 (by omega) (fun s hs => Nat.lt_trans (wS_mem hs) (by omega))) ?_
 refine Ke (An0 1 [(6, .bool (pthOk m.path 0))] (run_b (fun g3 => ?_) (fun g3 => ?_)))
 have hg3 := g3
 try simp only [KF] at g3
 refine Av1 (r := .int .i64 ((m.path.map (fun s => [AV.str s])).length : Nat)) (v := .int .i64 m.path.length) 3 9 [(8, pth m.path), (7, .ptr 0 0)] (by rw [List.length_map]) (((1 : Nat) ≠ 0) /\ (0 + 1 <= 2 /\ 0 < 2) /\ ·) ⟨(by decide), (by decide), An1 2 [(11, .bool (decide ((0 : Int) < ((m.path.length : Int) : Int)))), (10, .bool (decide ((0 : Int) < ((m.path.length : Int) : Int))))] (Ki /\ ·) ⟨rfl, run_b (fun g4 => ?_) (fun g4 => ?_)⟩⟩
 have hg4 := g4
 try simp only [KF] at g4
 refine Mn0 true (by rw [hg3, hg4]; rfl)
 have hg4 := g4
 try simp only [KF] at g4
 refine Mn1 m.sub (((1 : Nat) ≠ 0) /\ (1 + 1 <= 2 /\ 1 < 2) /\ ·) ⟨(by decide), (by decide), (by rw [hg3, hg4]; rfl)⟩
 have hg3 := g3
 try simp only [KF] at g3
 refine Mn0 false (by rw [hg3]; rfl)
 refine Rt (.bool ((pthOk m.path 0) && ((decide ((0 : Int) < ((m.path.length : Int) : Int))) || m.sub))) (fin_lea ?_)
 have hr : mkOk m = ((pthOk m.path 0) && ((decide ((0 : Int) < ((m.path.length : Int) : Int))) || m.sub)) := by unfold mkOk; rw [show decide (0 < m.path.length) = decide ((0 : Int) < (m.path.length : Int)) from decide_eq_decide.2 ⟨fun h => by omega, fun h => by omega⟩]
 rw [hr]; exact lea_refl _
theorem under_ok (l : List Mk) (p : List Str) (hl : ∀ m ∈ l, wS m.path < 2 ^ 40) (hn : l.length < 2 ^ 20) (hp : wS p < 2 ^ 40) : PE G 28 [.sl 2 (l.map mkc), pth p] (.bool (undM l p)) := by
 have hpl := wS_len p
 refine Pe Tryz.func28 ?_
 refine Rr (Fn0 [0, 1] [] (Sq fun K2 hK2 => ?_))
 refine Rr (Av0 (r := .int .i64 ((l.map mkc).length : Nat)) (v := .int .i64 l.length) 2 8 [(7, .sl 2 (l.map mkc))] (by rw [List.length_map]) (Fn0 [1, 7, 8] [(9, .int .i64 0)] (Bl (h_l (fun (k : Nat) => ([(1, pth p), (7, .sl 2 (l.map mkc)), (8, .int .i64 l.length), (9, .int .i64 k)] : Fr)) (fun (k : Nat) => ([] : Hp)) (fun (k : Nat) cn => (k <= l.length /\ undM (l.take k) p = false) /\ cn = 0) (fun (k : Nat) => l.length - k) 0 (by kernel_rfl) ?_ ?_ ?_ ?_))))
 refine ⟨?_, rfl⟩; exact ⟨Nat.zero_le _, rfl⟩
 exact ⟨by kernel_rfl, by kernel_rfl, by kernel_rfl, by kernel_rfl, trivial⟩
 exact (List.nil_sublist _)
 rintro k n1 hI
 (try dsimp only at hI)
 obtain ⟨⟨hi1, hi2⟩, rfl⟩ := hI
 refine Rr (Fn1 [1, 7, 8, 9] [(10, .bool (decide ((k : Int) < (l.length : Int))))] (Ki /\ ·) ⟨rfl, Sq fun K5 hK5 => ?_⟩)
 refine Cc (decide ((k : Int) < (l.length : Int))) (fun hc6 c6 => ?_) fun hc6 c6 => ?_
 try simp only [KF] at c6
 refine Sk (Jn (hK5 (Kp [1, 7, 8, 9] (Sq fun K7 hK7 => ?_))))
 refine Bl (Rr (Av1 1 11 [] (congrArg AV.pat (mg_mk l k (by omega))) ((2 = 2 /\ (0 : Int) <= (k : Int) /\ (k : Int) < ((l.map mkc).length : Int)) /\ ·) ⟨⟨rfl, by omega, by rw [List.length_map]; omega⟩, Fn3 [1, 7, 8, 9] [(6, .ptr 0 0)] [(0, mkc (l.getD k default))] 4 ((2 <= 2 /\ 0 < 2) /\ (true = true /\ 2 = 2 /\ 0 + 2 <= 2) /\ ·) ⟨(by decide), (by decide), ?_⟩⟩))
 have hgm := hl _ (getD_mem l k default (by omega)); have hgl := wS_len (l.getD k default).path
 refine Rm 20 (((l.getD k default).sub) && (((l.getD k default).path).isPrefixOf p)) [1, 7, 8, 9] ?_ ?_
 refine An1 3 [(15, .bool ((l.getD k default).sub)), (14, .bool ((l.getD k default).sub)), (13, .ptr 0 1)] (((1 : Nat) ≠ 0) /\ (1 + 1 <= 2 /\ 1 < 2) /\ ·) ⟨(by decide), (by decide), run_b (fun g10 => ?_) (fun g10 => ?_)⟩
 have hg10 := g10
 try simp only [KF] at g10
 refine Bc1 4 [(18, pth ((l.getD k default).path)), (17, .ptr 0 0), (16, pth p)] 45 [pth p, pth ((l.getD k default).path)] 19 (((1 : Nat) ≠ 0) /\ (0 + 1 <= 2 /\ 0 < 2) /\ ·) ⟨(by decide), (by decide), ?_⟩
 refine PE.use (begins_ok p ((l.getD k default).path) (by omega) (by omega)) ?_
 refine Ke (Mn0 (((l.getD k default).path).isPrefixOf p) (by rw [hg10]; rfl))
 have hg10 := g10
 try simp only [KF] at g10
 refine Mn0 false (by rw [hg10]; rfl)
 refine Cc (((l.getD k default).sub) && (((l.getD k default).path).isPrefixOf p)) (fun hc11 c11 => ?_) fun hc11 c11 => ?_
 try simp only [KF] at c11
 refine Rr (Fn0 [] [(4, .bool true)] (Rt (.bool true) (fin_lea ?_)))
 rw [show undM l p = true from List.any_eq_true.2 ⟨_, getD_mem l k default (by omega), hc11⟩]; exact lea_refl _
 try simp only [KF] at c11
 refine Sk (Bn (Jn (hK7 (Kp [1, 7, 8, 9] (Rn (Av1 1 21 [] (congrArg (AV.int .i64) (wn1 k (by omega))) (Ki /\ ·) ⟨rfl, Gn0 [(9, .int .i64 ((k + 1 : Nat) : Int))] (nk_n ?_)⟩))))))
 refine Lr (k + 1) [] 0 [(1, pth p), (7, .sl 2 (l.map mkc)), (8, .int .i64 l.length), (9, .int .i64 ((k + 1 : Nat) : Int))] [] [] ?_ ?_ (by kernel_rfl) (by kernel_rfl)
 (try dsimp only); omega
 refine ⟨?_, rfl⟩; (try dsimp only); exact ⟨by omega, by rw [take_snoc l k default (by omega)]; simp only [undM, List.any_append, List.any_cons, List.any_nil, Bool.or_false] at hi2 ⊢; rw [hi2, hc11, Bool.or_false]⟩
 try simp only [KF] at c6
 refine Xt (Jx (Lx (Bh (Jn (hK2 (Kp [] (Rr (Fn0 [] [(4, .bool false)] (Rt (.bool false) (fin_lea ?_))))))))))
 obtain rfl : k = l.length := by omega
 rw [List.take_length] at hi2; rw [hi2]; exact lea_refl _
open Go Go.Proofs
set_option maxRecDepth 100000
theorem drop_cons {α : Type} [Inhabited α] {l : List α} {k : Nat} (h : k < l.length) : l.drop k = l.getD k default :: l.drop (k + 1) := by
  rw [List.drop_eq_getElem_cons h]; simp [List.getD, h]
theorem cmpP_drop {x y : List Str} {k : Nat} (hx : k < x.length) (hy : k < y.length) (h : cmpS (x.getD k default) (y.getD k default) = 0) : cmpP (x.drop k) (y.drop k) = cmpP (x.drop (k + 1)) (y.drop (k + 1)) := by
  rw [drop_cons hx, drop_cons hy, cmpP, if_neg (by simpa using h)]
theorem cmpP_hd {x y : List Str} {k : Nat} (hx : k < x.length) (hy : k < y.length) (h : ¬ cmpS (x.getD k default) (y.getD k default) = 0) : cmpP (x.drop k) (y.drop k) = cmpS (x.getD k default) (y.getD k default) := by
  rw [drop_cons hx, drop_cons hy, cmpP, if_pos h]
theorem cmpP_gt {x y : List Str} {k : Nat} (hx : k < x.length) (hy : y.length <= k) : cmpP (x.drop k) (y.drop k) = 1 := by
  rw [drop_cons hx, List.drop_eq_nil_of_le hy]; rfl
theorem cmpP_lt {x y : List Str} {k : Nat} (hx : x.length <= k) (hy : k < y.length) : cmpP (x.drop k) (y.drop k) = -1 := by
  rw [drop_cons hy, List.drop_eq_nil_of_le hx]; rfl
theorem cmpP_en {x y : List Str} {k : Nat} (hx : x.length <= k) (hy : y.length <= k) : cmpP (x.drop k) (y.drop k) = 0 := by
  rw [List.drop_eq_nil_of_le hy, List.drop_eq_nil_of_le hx]; rfl
theorem cmpS_ok (x y : Str) : PE G 57 [.str x, .str y] (.int .i64 (cmpS x y)) := by
 refine Pe Tryz.func57 ?_
 refine Rr (Fn0 [0, 1] [] (Rr (Pc0 2 [(7, .str x)] 8 (isNaN1_ok x) (Fn0 [0, 1] [(5, .bool false)] ?_))))
 refine Rr (Pc0 2 [(9, .str y)] 10 (isNaN1_ok y) (Fn0 [0, 1, 5] [(6, .bool false)] (Sq fun K4 hK4 => ?_)))
 refine Rr (Fn0 [0, 1, 6] [(11, .bool false)] (Cf (Sk (Jn (hK4 (Kp [0, 1, 6] (Sq fun K6 hK6 => ?_)))))))
 refine Rr (Fn0 [0, 1] [(13, .bool false)] (Cf (Sk (Jn (hK6 (Kp [0, 1] (Sq fun K8 hK8 => ?_)))))))
 refine Rr (Cn0 (blt x y) [0, 1] [] ⟨fun hc10 c10 => ?_, fun hc10 c10 => ?_⟩)
 try simp only [KF] at c10
 refine Rr (Fn0 [] [(4, .int .i64 (-1))] (Rt (.int .i64 (-1)) (fin_lea ?_)))
 rw [show cmpS x y = -1 by unfold cmpS; rw [if_pos hc10]]; exact lea_refl _
 try simp only [KF] at c10
 refine Sk (Jn (hK8 (Kp [0, 1] (Sq fun K12 hK12 => ?_))))
 refine Rr (Cn0 (!(blt x y || x == y)) [] [] ⟨fun hc14 c14 => ?_, fun hc14 c14 => ?_⟩)
 try simp only [KF] at c14
 refine Rr (Fn0 [] [(4, .int .i64 1)] (Rt (.int .i64 1) ?_))
 have e : blt y x = true := by
   cases h : blt y x with
   | true => rfl
   | false =>
     have := blt_tot c14.1 h
     subst this; simp at c14
 refine fin_lea ?_
 rw [show cmpS x y = 1 by unfold cmpS; rw [if_neg (by rw [c14.1]; simp), if_pos e]]; exact lea_refl _
 try simp only [KF] at c14
 refine Sk (Jn (hK12 (Kp [] (Rr (Fn0 [] [(4, .int .i64 0)] (Rt (.int .i64 0) ?_))))))
 have e : x = y := by
   rcases c14 with h | h
   · rw [hc10] at h; cases h
   · simpa using h
 subst e
 refine fin_lea ?_
 rw [cmpS_self]; exact lea_refl _
theorem cmpP_ok (x y : List Str) (hx : x.length < 2 ^ 40) (hy : y.length < 2 ^ 40) : PE G 27 [pth x, pth y] (.int .i64 (cmpP x y)) := by
 refine Pe Tryz.func27 ?_
 refine Rr (Fn0 [0, 1] [] (Sq fun K2 hK2 => ?_))
 refine Rr (Av0 (r := .int .i64 ((x.map (fun s => [AV.str s])).length : Nat)) (v := .int .i64 x.length) 2 10 [(9, pth x)] (by rw [List.length_map]) (Fn0 [0, 1, 9, 10] [(11, .int .i64 0)] (Bl (h_l (fun (k : Nat) => ([(0, pth x), (1, pth y), (9, pth x), (10, .int .i64 x.length), (11, .int .i64 k)] : Fr)) (fun (k : Nat) => ([] : Hp)) (fun (k : Nat) cn => (k <= x.length /\ k <= y.length /\ cmpP x y = cmpP (x.drop k) (y.drop k)) /\ cn = 0) (fun (k : Nat) => x.length - k) 0 (by kernel_rfl) ?_ ?_ ?_ ?_))))
 refine ⟨?_, rfl⟩; exact ⟨Nat.zero_le _, Nat.zero_le _, rfl⟩
 exact ⟨by kernel_rfl, by kernel_rfl, by kernel_rfl, by kernel_rfl, by kernel_rfl, trivial⟩
 exact (List.nil_sublist _)
 rintro k n1 hI
 (try dsimp only at hI)
 obtain ⟨⟨hi1, hi3, hi2⟩, rfl⟩ := hI
 refine Rr (Fn1 [0, 1, 9, 10, 11] [(12, .bool (decide ((k : Int) < (x.length : Int))))] (Ki /\ ·) ⟨rfl, Sq fun K5 hK5 => ?_⟩)
 refine Cc (decide ((k : Int) < (x.length : Int))) (fun hc6 c6 => ?_) fun hc6 c6 => ?_
 try simp only [KF] at c6
 refine Sk (Jn (hK5 (Kp [0, 1, 9, 10, 11] (Sq fun K7 hK7 => ?_))))
 refine Bl (Rr (Av1 2 14 [(13, .int .i64 k)] (congrArg AV.pat (mg_str x k (by omega))) ((1 = 1 /\ (0 : Int) <= (k : Int) /\ (k : Int) < ((x.map (fun s => [AV.str s])).length : Int)) /\ ·) ⟨⟨rfl, by omega, by rw [List.length_map]; omega⟩, Fn1 [0, 1, 9, 10, 11] [(6, .str (x.getD k default)), (5, .int .i64 k)] ((1 <= 1 /\ 0 < 1) /\ ·) ⟨(by decide), Sq fun K9 hK9 => ?_⟩⟩))
 refine Rr (Av0 (r := .int .i64 ((y.map (fun s => [AV.str s])).length : Nat)) (v := .int .i64 y.length) 3 18 [(17, pth y), (16, .int .i64 k)] (by rw [List.length_map]) (Cn1 (decide ((y.length : Int) <= (k : Int))) [0, 1, 5, 6, 9, 10, 11] [] (Ki /\ ·) ⟨rfl, fun hc11 c11 => ?_, fun hc11 c11 => ?_⟩))
 try simp only [KF] at c11
 refine Rr (Fn0 [] [(4, .int .i64 1)] (Rt (.int .i64 1) (fin_lea ?_)))
 rw [show cmpP x y = 1 by rw [hi2]; exact cmpP_gt (by omega) (by omega)]; exact lea_refl _
 try simp only [KF] at c11
 refine Sk (Jn (hK9 (Kp [0, 1, 5, 6, 9, 10, 11] (Rr (Av1 3 22 [(21, .int .i64 k), (20, pth y)] (congrArg AV.pat (mg_str y k (by omega))) ((1 = 1 /\ (0 : Int) <= (k : Int) /\ (k : Int) < ((y.map (fun s => [AV.str s])).length : Int)) /\ ·) ⟨⟨rfl, by omega, by rw [List.length_map]; omega⟩, Fn1 [0, 1, 6, 9, 10, 11] [(7, .str (y.getD k default))] ((1 <= 1 /\ 0 < 1) /\ ·) ⟨(by decide), Rr ?_⟩⟩)))))
 refine Pc0 3 [(25, .str (y.getD k default)), (24, .str (x.getD k default))] 26 (cmpS_ok (x.getD k default) (y.getD k default)) (Fn0 [0, 1, 9, 10, 11] [(8, .int .i64 (cmpS (x.getD k default) (y.getD k default)))] (Rr (Cn1 (!decide ((cmpS (x.getD k default) (y.getD k default) : Int) = (0 : Int))) [0, 1, 8, 9, 10, 11] [] (Ki /\ ·) ⟨rfl, fun hc16 c16 => ?_, fun hc16 c16 => ?_⟩)))
 try simp only [KF] at c16
 refine Rr (Fn0 [] [(4, .int .i64 (cmpS (x.getD k default) (y.getD k default)))] (Rt (.int .i64 (cmpS (x.getD k default) (y.getD k default))) (fin_lea ?_)))
 rw [show cmpP x y = cmpS (x.getD k default) (y.getD k default) by rw [hi2]; exact cmpP_hd (by omega) (by omega) (by have h := c16; omega)]; exact lea_refl _
 try simp only [KF] at c16
 refine Sk (Bn (Jn (hK7 (Kp [0, 1, 9, 10, 11] (Rn (Av1 1 30 [] (congrArg (AV.int .i64) (wn1 k (by omega))) (Ki /\ ·) ⟨rfl, Gn0 [(11, .int .i64 ((k + 1 : Nat) : Int))] (nk_n ?_)⟩))))))
 refine Lr (k + 1) [] 0 [(0, pth x), (1, pth y), (9, pth x), (10, .int .i64 x.length), (11, .int .i64 ((k + 1 : Nat) : Int))] [] [] ?_ ?_ (by kernel_rfl) (by kernel_rfl)
 (try dsimp only); omega
 refine ⟨?_, rfl⟩; (try dsimp only); exact ⟨by omega, by omega, by rw [hi2]; exact cmpP_drop (by omega) (by omega) (by have h := c16; omega)⟩
 try simp only [KF] at c6
 refine Xt (Jx (Lx (Bh (Jn (hK2 (Kp [0, 1] (Sq fun K18 hK18 => ?_)))))))
 refine Rr (Av0 (r := .int .i64 ((x.map (fun s => [AV.str s])).length : Nat)) (v := .int .i64 x.length) 2 32 [(31, pth x)] (by rw [List.length_map]) (Av0 (r := .int .i64 ((y.map (fun s => [AV.str s])).length : Nat)) (v := .int .i64 y.length) 2 34 [(33, pth y)] (by rw [List.length_map]) (Cn1 (decide ((x.length : Int) < (y.length : Int))) [] [] (Ki /\ ·) ⟨rfl, fun hc20 c20 => ?_, fun hc20 c20 => ?_⟩)))
 try simp only [KF] at c20
 refine Rr (Fn0 [] [(4, .int .i64 (-1))] (Rt (.int .i64 (-1)) (fin_lea ?_)))
 rw [show cmpP x y = -1 by rw [hi2]; exact cmpP_lt (by omega) (by omega)]; exact lea_refl _
 try simp only [KF] at c20
 refine Sk (Jn (hK18 (Kp [] (Rr (Fn0 [] [(4, .int .i64 0)] (Rt (.int .i64 0) (fin_lea ?_)))))))
 rw [show cmpP x y = 0 by rw [hi2]; exact cmpP_en (by omega) (by omega)]; exact lea_refl _
theorem eqP_ok (p q : List Str) (hp : p.length < 2 ^ 40) (hq : q.length < 2 ^ 40) : PE G 71 [pth p, pth q] (.bool (p == q)) := by
 refine Pe Tryz.func71 ?_
 refine Rr (Fn0 [0, 1] [] (Sq fun K2 hK2 => ?_))
 refine Rr (Av0 (r := .int .i64 ((p.map (fun s => [AV.str s])).length : Nat)) (v := .int .i64 p.length) 2 7 [(6, pth p)] (by rw [List.length_map]) (Av0 (r := .int .i64 ((q.map (fun s => [AV.str s])).length : Nat)) (v := .int .i64 q.length) 2 9 [(8, pth q)] (by rw [List.length_map]) (Cn1 (!decide ((p.length : Int) = (q.length : Int))) [0, 1] [] (Ki /\ ·) ⟨rfl, fun hc4 c4 => ?_, fun hc4 c4 => ?_⟩)))
 try simp only [KF] at c4
 refine Rr (Fn0 [] [(4, .bool false)] (Rt (.bool false) (fin_lea ?_)))
 rw [show (p == q) = false by rw [beq_eq_false_iff_ne]; intro e; subst e; omega]; exact lea_refl _
 try simp only [KF] at c4
 refine Sk (Jn (hK2 (Kp [0, 1] (Sq fun K6 hK6 => ?_))))
 refine Rr (Av0 (r := .int .i64 ((p.map (fun s => [AV.str s])).length : Nat)) (v := .int .i64 p.length) 2 12 [(11, pth p)] (by rw [List.length_map]) (Fn0 [0, 1, 12] [(13, .int .i64 0)] (Bl (h_l (fun (k : Nat) => ([(0, pth p), (1, pth q), (12, .int .i64 p.length), (13, .int .i64 k)] : Fr)) (fun (k : Nat) => ([] : Hp)) (fun (k : Nat) cn => (k <= p.length /\ p.take k = q.take k) /\ cn = 0) (fun (k : Nat) => p.length - k) 0 (by kernel_rfl) ?_ ?_ ?_ ?_))))
 refine ⟨?_, rfl⟩; exact ⟨Nat.zero_le _, rfl⟩
 exact ⟨by kernel_rfl, by kernel_rfl, by kernel_rfl, by kernel_rfl, trivial⟩
 exact (List.nil_sublist _)
 rintro k n1 hI
 (try dsimp only at hI)
 obtain ⟨⟨hi1, hi2⟩, rfl⟩ := hI
 refine Rr (Fn1 [0, 1, 12, 13] [(14, .bool (decide ((k : Int) < (p.length : Int))))] (Ki /\ ·) ⟨rfl, Sq fun K9 hK9 => ?_⟩)
 refine Cc (decide ((k : Int) < (p.length : Int))) (fun hc10 c10 => ?_) fun hc10 c10 => ?_
 try simp only [KF] at c10
 refine Sk (Jn (hK9 (Kp [0, 1, 12, 13] (Sq fun K11 hK11 => ?_))))
 refine Bl (Rr (Fn0 [0, 1, 12, 13] [(5, .int .i64 k)] (Qr [0, 0, 3, 7, 0, 0, 48, 112, 255] [(0, []), (1, []), (2, []), (3, []), (4, []), (5, []), (6, []), (7, []), (8, [])] (qAv1 3 18 [(17, .int .i64 k), (16, pth p)] (congrArg AV.pat (mg_str p k (by omega))) ((1 = 1 /\ (0 : Int) <= (k : Int) /\ (k : Int) < ((p.map (fun s => [AV.str s])).length : Int)) /\ ·) ⟨⟨rfl, by omega, by rw [List.length_map]; omega⟩, ?_⟩))))
 refine qAv1 4 22 [(21, .int .i64 k), (20, pth q), (19, .str (p.getD k default))] (congrArg AV.pat (mg_str q k (by omega))) ((1 <= 1 /\ 0 < 1) /\ (1 = 1 /\ (0 : Int) <= (k : Int) /\ (k : Int) < ((q.map (fun s => [AV.str s])).length : Int)) /\ ·) ⟨(by decide), ⟨rfl, by omega, by rw [List.length_map]; omega⟩, qCn1 (!((p.getD k default) == (q.getD k default))) [0, 1, 12, 13] [] ((1 <= 1 /\ 0 < 1) /\ ·) ⟨(by decide), fun hc14 c14 => ?_, fun hc14 c14 => ?_⟩⟩
 try simp only [KF] at c14
 refine Rr (Fn0 [] [(4, .bool false)] (Rt (.bool false) (fin_lea ?_)))
 rw [show (p == q) = false by rw [beq_eq_false_iff_ne]; intro e; subst e; simp at c14]; exact lea_refl _
 try simp only [KF] at c14
 refine Sk (Bn (Jn (hK11 (Kp [0, 1, 12, 13] (Rn (Av1 1 25 [] (congrArg (AV.int .i64) (wn1 k (by omega))) (Ki /\ ·) ⟨rfl, Gn0 [(13, .int .i64 ((k + 1 : Nat) : Int))] (nk_n ?_)⟩))))))
 refine Lr (k + 1) [] 0 [(0, pth p), (1, pth q), (12, .int .i64 p.length), (13, .int .i64 ((k + 1 : Nat) : Int))] [] [] ?_ ?_ (by kernel_rfl) (by kernel_rfl)
 (try dsimp only); omega
 refine ⟨?_, rfl⟩; (try dsimp only); exact ⟨by omega, by rw [take_snoc p k default (by omega), take_snoc q k default (by omega), hi2]; simpa using c14⟩
 try simp only [KF] at c10
 refine Xt (Jx (Lx (Bh (Jn (hK6 (Kp [] (Rr (Fn0 [] [(4, .bool true)] (Rt (.bool true) (fin_lea ?_))))))))))
 rw [show (p == q) = true by rw [beq_iff_eq, <- List.take_length (l := p), <- List.take_length (l := q)]; rw [show q.length = k by omega, show p.length = k by omega]; exact hi2]; exact lea_refl _
theorem mk1_ok (m : Mk) (p : List Str) (hm : m.path.length < 2 ^ 40) (hp : p.length < 2 ^ 40) : PE G 70 [.agg (mkc m), .pat [pth p]] (.bool (m.path == p)) := by
 refine Pe Tryz.func70 ?_
 refine Rr (Fn2 [1] [(2, .ptr 0 0)] [(0, mkc m)] 4 (Rr (Bc1 4 [(6, pth p), (5, pth m.path), (4, .ptr 0 0)] 71 [pth m.path, pth p] 7 (((1 : Nat) ≠ 0) /\ (0 + 1 <= 2 /\ 0 < 2) /\ (1 <= 1 /\ 0 < 1) /\ ·) ⟨(by decide), (by decide), (by decide), PE.use (eqP_ok m.path p (by omega) (by omega)) ?_⟩)))
 refine Ke (Fn0 [] [(3, .bool (m.path == p))] (Rt (.bool (m.path == p)) ?_))
 exact fin_lea (lea_refl _)
open Go Go.Proofs
set_option maxRecDepth 100000
def idxM (p : List Str) : Nat -> List Mk -> Int
  | _, [] => -1
  | k, m :: ms => if (m.path == p) = true then (k : Int) else idxM p (k + 1) ms
theorem idxM_any (p : List Str) : ∀ (l : List Mk) (k : Nat), (l.any fun m => m.path == p) = decide ((0 : Int) <= idxM p k l)
  | [], k => by simp [idxM]
  | m :: ms, k => by
    rw [List.any_cons]
    by_cases h : (m.path == p) = true
    · rw [show idxM p k (m :: ms) = (k : Int) by rw [idxM, if_pos h], h, Bool.true_or]; simp
    · rw [show idxM p k (m :: ms) = idxM p (k + 1) ms by rw [idxM, if_neg h], show (m.path == p) = false by simpa using h, Bool.false_or, idxM_any p ms (k + 1)]
theorem idxM_hit {p : List Str} {l : List Mk} {k : Nat} (hk : k < l.length) (h : ((l.getD k default).path == p) = true) : idxM p k (l.drop k) = (k : Int) := by rw [drop_cons hk, idxM, if_pos h]
theorem idxM_miss {p : List Str} {l : List Mk} {k : Nat} (hk : k < l.length) (h : ((l.getD k default).path == p) = false) : idxM p k (l.drop k) = idxM p (k + 1) (l.drop (k + 1)) := by rw [drop_cons hk, idxM, if_neg (by rw [h]; simp)]
theorem idxM_end {p : List Str} {l : List Mk} {k : Nat} (hk : l.length <= k) : idxM p k (l.drop k) = -1 := by rw [List.drop_eq_nil_of_le hk]; rfl
theorem idxM_ok (l : List Mk) (p : List Str) (hl : ∀ m ∈ l, wS m.path < 2 ^ 40) (hn : l.length < 2 ^ 20) (hp : p.length < 2 ^ 40) : PE G 84 [.sl 2 (l.map mkc), .fn (.func 70) [.pat [pth p]]] (.int .i64 (idxM p 0 l)) := by
 refine Pe Tryz.func84 ?_
 refine Rr (Fn0 [0, 1] [] (Sq fun K2 hK2 => ?_))
 refine Rr (Av0 (r := .int .i64 ((l.map mkc).length : Nat)) (v := .int .i64 l.length) 2 7 [(6, .sl 2 (l.map mkc))] (by rw [List.length_map]) (Fn0 [0, 1, 7] [(8, .int .i64 0)] (Bl (h_l (fun (k : Nat) => ([(0, .sl 2 (l.map mkc)), (1, .fn (.func 70) [.pat [pth p]]), (7, .int .i64 l.length), (8, .int .i64 k)] : Fr)) (fun (k : Nat) => ([] : Hp)) (fun (k : Nat) cn => (k <= l.length /\ idxM p 0 l = idxM p k (l.drop k)) /\ cn = 0) (fun (k : Nat) => l.length - k) 0 (by kernel_rfl) ?_ ?_ ?_ ?_))))
 refine ⟨?_, rfl⟩; exact ⟨Nat.zero_le _, rfl⟩
 exact ⟨by kernel_rfl, by kernel_rfl, by kernel_rfl, by kernel_rfl, trivial⟩
 exact (List.nil_sublist _)
 rintro k n1 hI
 (try dsimp only at hI)
 obtain ⟨⟨hi1, hi2⟩, rfl⟩ := hI
 refine Rr (Fn1 [0, 1, 7, 8] [(9, .bool (decide ((k : Int) < (l.length : Int))))] (Ki /\ ·) ⟨rfl, Sq fun K5 hK5 => ?_⟩)
 refine Cc (decide ((k : Int) < (l.length : Int))) (fun hc6 c6 => ?_) fun hc6 c6 => ?_
 try simp only [KF] at c6
 refine Sk (Jn (hK5 (Kp [0, 1, 7, 8] (Sq fun K7 hK7 => ?_))))
 refine Bl (Rr (Fn0 [0, 1, 7, 8] [(5, .int .i64 k)] ?_))
 have hgm := hl _ (getD_mem l k default (by omega)); have hgl := wS_len (l.getD k default).path
 refine Rr (Av1 4 14 [(13, .int .i64 k), (12, .sl 2 (l.map mkc)), (11, .fn (.func 70) [.pat [pth p]])] (congrArg AV.pat (mg_mk l k (by omega))) ((2 = 2 /\ (0 : Int) <= (k : Int) /\ (k : Int) < ((l.map mkc).length : Int)) /\ ·) ⟨⟨rfl, by omega, by rw [List.length_map]; omega⟩, Pc1 2 [(15, .agg (mkc (l.getD k default)))] 16 (2 <= 2 /\ 0 < 2) (by decide) (mk1_ok (l.getD k default) p (by omega) (by omega)) (Cn0 ((l.getD k default).path == p) [0, 1, 5, 7, 8] [] ⟨fun hc10 c10 => ?_, fun hc10 c10 => ?_⟩)⟩)
 try simp only [KF] at c10
 refine Rr (Fn0 [] [(4, .int .i64 k)] (Rt (.int .i64 k) (fin_lea ?_)))
 rw [hi2, idxM_hit (by omega) hc10]; exact lea_refl _
 try simp only [KF] at c10
 refine Sk (Bn (Jn (hK7 (Kp [0, 1, 7, 8] (Rn (Av1 1 18 [] (congrArg (AV.int .i64) (wn1 k (by omega))) (Ki /\ ·) ⟨rfl, Gn0 [(8, .int .i64 ((k + 1 : Nat) : Int))] (nk_n ?_)⟩))))))
 refine Lr (k + 1) [] 0 [(0, .sl 2 (l.map mkc)), (1, .fn (.func 70) [.pat [pth p]]), (7, .int .i64 l.length), (8, .int .i64 ((k + 1 : Nat) : Int))] [] [] ?_ ?_ (by kernel_rfl) (by kernel_rfl)
 (try dsimp only); omega
 refine ⟨?_, rfl⟩; (try dsimp only); exact ⟨by omega, by rw [hi2, idxM_miss (by omega) hc10]⟩
 try simp only [KF] at c6
 refine Xt (Jx (Lx (Bh (Jn (hK2 (Kp [] (Rr (Fn0 [] [(4, .int .i64 (-1))] (Rt (.int .i64 (-1)) (fin_lea ?_))))))))))
 rw [hi2, idxM_end (by omega)]; exact lea_refl _
theorem conM_ok (l : List Mk) (p : List Str) (hl : ∀ m ∈ l, wS m.path < 2 ^ 40) (hn : l.length < 2 ^ 20) (hp : p.length < 2 ^ 40) : PE G 69 [.sl 2 (l.map mkc), .fn (.func 70) [.pat [pth p]]] (.bool (l.any fun m => m.path == p)) := by
 refine Pe Tryz.func69 ?_
 refine Rr (Fn0 [0, 1] [] (Rr (Pc0 3 [(6, .fn (.func 70) [.pat [pth p]]), (5, .sl 2 (l.map mkc))] 7 (idxM_ok l p hl (by omega) (by omega)) (Fn1 [] [(4, .bool (decide ((0 : Int) <= (idxM p 0 l : Int))))] (Ki /\ ·) ⟨rfl, ?_⟩))))
 refine Rt (.bool (decide ((0 : Int) <= (idxM p 0 l : Int)))) (fin_lea ?_)
 rw [idxM_any p l 0]; exact lea_refl _
theorem marked_ok (l : List Mk) (p : List Str) (hl : ∀ m ∈ l, wS m.path < 2 ^ 40) (hn : l.length < 2 ^ 20) (hp : wS p < 2 ^ 40) : PE G 44 [.sl 2 (l.map mkc), pth p] (.bool (mrkM l p)) := by
 have hpl := wS_len p
 refine Pe Tryz.func44 ?_
 refine Rr (Fn2 [0] [(3, .ptr 0 0)] [(0, [pth p])] 4 (Rr (Pc1 3 [(6, pth p), (5, .sl 2 (l.map mkc))] 7 (0 + 1 <= 1 /\ 0 < 1) (by decide) (under_ok l p hl (by omega) (by omega)) (An0 1 [(8, .bool (undM l p))] ?_))))
 refine run_b (fun g3 => ?_) (fun g3 => ?_)
 have hg3 := g3
 try simp only [KF] at g3
 refine Fn0 [] [(4, .bool true)] (Rt (.bool true) (fin_lea ?_))
 have hr : mrkM l p = (true) := by unfold mrkM; simp only [hg3, Bool.true_or, Bool.false_or]
 rw [hr]; exact lea_refl _
 have hg3 := g3
 try simp only [KF] at g3
 refine Bc0 3 [(10, .fn (.func 70) [.ptr 0 0]), (9, .sl 2 (l.map mkc))] 69 [.sl 2 (l.map mkc), .fn (.func 70) [.ptr 0 0]] 11 ?_
 refine Tz 0 1 1 ([[pth p]]) ([pth p]) [.sl 2 (l.map mkc), .fn (.func 70) [.pat [pth p]]] [] [] (by kernel_rfl) (by first | decide | simp) ?_
 refine PE.use (conM_ok l p hl (by omega) (by omega)) ?_
 refine Ke (Fn0 [] [(4, .bool (l.any fun m => m.path == p))] (Rt (.bool (l.any fun m => m.path == p)) (fin_lea ?_)))
 have hr : mrkM l p = ((l.any fun m => m.path == p)) := by unfold mrkM; simp only [hg3, Bool.true_or, Bool.false_or]
 rw [hr]; exact lea_refl _
theorem TrailOk_ok (l : List Mk) (hl : ∀ m ∈ l, wS m.path < 2 ^ 40) (hn : l.length < 2 ^ 20) : PE G 9 [.sl 2 (l.map mkc)] (.bool (trOk l)) := by
 refine Pe Tryz.func9 ?_
 refine Rr (Fn0 [0] [] (Sq fun K2 hK2 => ?_))
 refine Rr (Av0 (r := .int .i64 ((l.map mkc).length : Nat)) (v := .int .i64 l.length) 2 6 [(5, .sl 2 (l.map mkc))] (by rw [List.length_map]) (Fn0 [0, 5, 6] [(7, .int .i64 0)] (Bl (h_l (fun (k : Nat) => ([(0, .sl 2 (l.map mkc)), (5, .sl 2 (l.map mkc)), (6, .int .i64 l.length), (7, .int .i64 k)] : Fr)) (fun (k : Nat) => ([] : Hp)) (fun (k : Nat) cn => (k <= l.length /\ (List.range k).all (stepM l) = true) /\ cn = 0) (fun (k : Nat) => l.length - k) 0 (by kernel_rfl) ?_ ?_ ?_ ?_))))
 refine ⟨?_, rfl⟩; exact ⟨Nat.zero_le _, rfl⟩
 exact ⟨by kernel_rfl, by kernel_rfl, by kernel_rfl, by kernel_rfl, trivial⟩
 exact (List.nil_sublist _)
 rintro k n1 hI
 (try dsimp only at hI)
 obtain ⟨⟨hi1, hi2⟩, rfl⟩ := hI
 refine Rr (Fn1 [0, 5, 6, 7] [(8, .bool (decide ((k : Int) < (l.length : Int))))] (Ki /\ ·) ⟨rfl, Sq fun K5 hK5 => ?_⟩)
 refine Cc (decide ((k : Int) < (l.length : Int))) (fun hc6 c6 => ?_) fun hc6 c6 => ?_
 try simp only [KF] at c6
 refine Sk (Jn (hK5 (Kp [0, 5, 6, 7] (Sq fun K7 hK7 => ?_))))
 refine Bl (Rr (Av1 2 10 [(9, .int .i64 k)] (congrArg AV.pat (mg_mk l k (by omega))) ((2 = 2 /\ (0 : Int) <= (k : Int) /\ (k : Int) < ((l.map mkc).length : Int)) /\ ·) ⟨⟨rfl, by omega, by rw [List.length_map]; omega⟩, Fn3 [0, 5, 6, 7] [(3, .int .i64 k), (4, .ptr 0 0)] [(0, mkc (l.getD k default))] 4 ((2 <= 2 /\ 0 < 2) /\ (true = true /\ 2 = 2 /\ 0 + 2 <= 2) /\ ·) ⟨(by decide), (by decide), ?_⟩⟩))
 have hgm := hl _ (getD_mem l k default (by omega)); have hgl := wS_len (l.getD k default).path; have hgm2 := hl _ (getD_mem l ((k : Int) - 1).toNat default (by omega)); have hgl2 := wS_len (l.getD ((k : Int) - 1).toNat default).path; have htk : (l.take k).length <= l.length := by rw [List.length_take]; omega
 refine Qm [0, 1, 3, 7, 15, 31, 63, 127, 127, 383, 1023, 2047, 4095, 127, 8319, 32767, 65535, 131071, 262143, 524287, 1048575, 1048575, 4194303, 1048575, 9437183, 33554431, 67108863] [(0, []), (1, []), (2, []), (3, []), (4, []), (5, []), (6, []), (7, []), (8, []), (9, []), (10, []), (11, []), (12, []), (13, []), (14, []), (15, []), (16, []), (17, []), (18, []), (19, []), (20, []), (21, []), (22, []), (23, []), (24, []), (25, []), (26, [])] 38 (!stepM l k) [0, 5, 6, 7] ?_ ?_
 refine qBc1 2 [(12, .agg (mkc (l.getD k default)))] [] 26 [.agg (mkc (l.getD k default))] 13 ((0 + 2 <= 2 /\ 0 < 2) /\ ·) ⟨(by decide), ?_⟩
 refine PE.use (markOk_ok (l.getD k default) (by omega)) ?_
 refine Kq (p := (True)) trivial ?_
 refine qAn0 2 [(15, .bool (!(mkOk (l.getD k default)))), (14, .bool (!(mkOk (l.getD k default))))] (runq_b (fun g10 => ?_) (fun g10 => ?_))
 have hg10 := g10
 try simp only [KF] at g10
 refine qMn0 true (by unfold stepM; first | (simp_all; done) | (rw [Bool.eq_iff_iff]; simp_all; done) | (rw [Bool.eq_iff_iff]; simp_all; omega) | (simp_all; omega))
 have hg10 := g10
 try simp only [KF] at g10
 refine qAn1 3 [(18, .bool (decide ((0 : Int) < ((k : Int) : Int)))), (17, .bool (decide ((0 : Int) < ((k : Int) : Int)))), (16, .int .i64 k)] (Ki /\ ·) ⟨rfl, runq_b (fun g11 => ?_) (fun g11 => ?_)⟩
 have hg11 := g11
 try simp only [KF] at g11
 refine qAv1 (r := .int .i64 (IntKind.i64.wrap ((k : Int) - 1))) (v := .int .i64 ((k : Int) - 1)) 3 21 [(20, .int .i64 k), (19, .sl 2 (l.map mkc))] (congrArg (AV.int .i64) (wrap64 (by omega) (by omega))) (Ki /\ ·) ⟨rfl, qAv1 1 22 [] (congrArg AV.pat (mg_mk l (((k : Int) - 1).toNat) (by omega))) ((2 = 2 /\ (0 : Int) <= ((k : Int) - 1) /\ ((k : Int) - 1) < ((l.map mkc).length : Int)) /\ ·) ⟨⟨rfl, by omega, by rw [List.length_map]; omega⟩, qBc1 5 [(26, pth ((l.getD k default).path)), (25, .ptr 0 0), (24, pth ((l.getD (((k : Int) - 1).toNat) default).path)), (23, .pat (mkc (l.getD (((k : Int) - 1).toNat) default)))] [] 27 [pth ((l.getD (((k : Int) - 1).toNat) default).path), pth ((l.getD k default).path)] 27 (((1 : Nat) ≠ 0) /\ (1 <= 2 /\ 0 < 2) /\ ((1 : Nat) ≠ 0) /\ (0 + 1 <= 2 /\ 0 < 2) /\ ·) ⟨(by decide), (by decide), (by decide), (by decide), PE.use (cmpP_ok ((l.getD (((k : Int) - 1).toNat) default).path) ((l.getD k default).path) (by omega) (by omega)) (Kq (p := (True)) trivial ?_)⟩⟩⟩
 refine qAn1 4 [(31, .bool (decide ((0 : Int) <= (cmpP ((l.getD (((k : Int) - 1).toNat) default).path) ((l.getD k default).path) : Int)))), (30, .bool (decide ((0 : Int) <= (cmpP ((l.getD (((k : Int) - 1).toNat) default).path) ((l.getD k default).path) : Int)))), (29, .bool (decide ((0 : Int) <= (cmpP ((l.getD (((k : Int) - 1).toNat) default).path) ((l.getD k default).path) : Int)))), (28, .bool (decide ((0 : Int) <= (cmpP ((l.getD (((k : Int) - 1).toNat) default).path) ((l.getD k default).path) : Int))))] (Ki /\ ·) ⟨rfl, runq_b (fun g12 => ?_) (fun g12 => ?_)⟩
 have hg12 := g12
 try simp only [KF] at g12
 refine qMn0 true (by unfold stepM; first | (simp_all; done) | (rw [Bool.eq_iff_iff]; simp_all; done) | (rw [Bool.eq_iff_iff]; simp_all; omega) | (simp_all; omega))
 have hg12 := g12
 try simp only [KF] at g12
 refine qAv1 (r := .sl 2 (((l.map mkc).take k).drop 0)) (v := .sl 2 ((l.take k).map mkc)) 3 34 [(33, .int .i64 k), (32, .sl 2 (l.map mkc))] (congrArg (AV.sl 2) (slm_0 _ _ _)) ((2 = 2 /\ 0 <= (0 : Int) /\ (0 : Int) <= (k : Int) /\ (k : Int) <= ((l.map mkc).length : Int)) /\ ·) ⟨⟨rfl, by omega, by (try rw [List.length_map]); omega, by rw [List.length_map]; omega⟩, qBc1 3 [(36, pth ((l.getD k default).path)), (35, .ptr 0 0)] [] 28 [.sl 2 ((l.take k).map mkc), pth ((l.getD k default).path)] 37 (((1 : Nat) ≠ 0) /\ (0 + 1 <= 2 /\ 0 < 2) /\ ·) ⟨(by decide), (by decide), PE.use (under_ok (l.take k) ((l.getD k default).path) (fun m hm => hl m (List.mem_of_mem_take hm)) (by omega) (by omega)) (Kq (p := (True)) trivial (qMn0 (undM (l.take k) ((l.getD k default).path)) (by unfold stepM; first | (simp_all; done) | (rw [Bool.eq_iff_iff]; simp_all; done) | (rw [Bool.eq_iff_iff]; simp_all; omega) | (simp_all; omega))))⟩⟩
 have hg11 := g11
 try simp only [KF] at g11
 refine qAv1 (r := .sl 2 (((l.map mkc).take k).drop 0)) (v := .sl 2 ((l.take k).map mkc)) 16 34 [(33, .int .i64 k), (32, .sl 2 (l.map mkc)), (31, .bool false), (30, .bool false), (29, .bool false), (28, .tup []), (27, .tup []), (26, .tup []), (25, .tup []), (24, .tup []), (23, .tup []), (22, .tup []), (21, .tup []), (20, .tup []), (19, .tup [])] (congrArg (AV.sl 2) (slm_0 _ _ _)) ((2 = 2 /\ 0 <= (0 : Int) /\ (0 : Int) <= (k : Int) /\ (k : Int) <= ((l.map mkc).length : Int)) /\ ·) ⟨⟨rfl, by omega, by (try rw [List.length_map]); omega, by rw [List.length_map]; omega⟩, qBc1 3 [(36, pth ((l.getD k default).path)), (35, .ptr 0 0)] [] 28 [.sl 2 ((l.take k).map mkc), pth ((l.getD k default).path)] 37 (((1 : Nat) ≠ 0) /\ (0 + 1 <= 2 /\ 0 < 2) /\ ·) ⟨(by decide), (by decide), PE.use (under_ok (l.take k) ((l.getD k default).path) (fun m hm => hl m (List.mem_of_mem_take hm)) (by omega) (by omega)) (Kq (p := (True)) trivial (qMn0 (undM (l.take k) ((l.getD k default).path)) (by unfold stepM; first | (simp_all; done) | (rw [Bool.eq_iff_iff]; simp_all; done) | (rw [Bool.eq_iff_iff]; simp_all; omega) | (simp_all; omega))))⟩⟩
 refine Cc (!stepM l k) (fun hc13 c13 => ?_) fun hc13 c13 => ?_
 try simp only [KF] at c13
 refine Rr (Fn0 [] [(2, .bool false)] (Rt (.bool false) (fin_lea ?_)))
 rw [show trOk l = false by unfold trOk; rw [Bool.and_eq_false_iff]; left; rw [List.all_eq_false]; exact ⟨k, List.mem_range.2 (by omega), by simpa using c13⟩]; exact lea_refl _
 try simp only [KF] at c13
 refine Sk (Bn (Jn (hK7 (Kp [0, 5, 6, 7] (Rn (Av1 1 39 [] (congrArg (AV.int .i64) (wn1 k (by omega))) (Ki /\ ·) ⟨rfl, Gn0 [(7, .int .i64 ((k + 1 : Nat) : Int))] (nk_n ?_)⟩))))))
 refine Lr (k + 1) [] 0 [(0, .sl 2 (l.map mkc)), (5, .sl 2 (l.map mkc)), (6, .int .i64 l.length), (7, .int .i64 ((k + 1 : Nat) : Int))] [] [] ?_ ?_ (by kernel_rfl) (by kernel_rfl)
 (try dsimp only); omega
 refine ⟨?_, rfl⟩; (try dsimp only); exact ⟨by omega, by rw [List.range_succ, List.all_append, hi2]; simpa using c13⟩
 try simp only [KF] at c6
 refine Xt (Jx (Lx (Bh (Jn (hK2 (Kp [0] (Rr (Av0 (r := .int .i64 ((l.map mkc).length : Nat)) (v := .int .i64 l.length) 2 41 [(40, .sl 2 (l.map mkc))] (by rw [List.length_map]) (Fn1 [] [(2, .bool (decide ((l.length : Int) <= 6)))] (Ki /\ ·) ⟨rfl, Rt (.bool (decide ((l.length : Int) <= 6))) ?_⟩)))))))))
 refine fin_lea ?_
 obtain rfl : k = l.length := by omega
 rw [show trOk l = decide ((l.length : Int) <= 6) by unfold trOk; rw [hi2, Bool.true_and]; exact decide_eq_decide.2 ⟨fun h => by omega, fun h => by omega⟩]; exact lea_refl _
theorem getD_mid {α : Type} [Inhabited α] (A : List α) (x : α) (R : List α) : (A ++ x :: R).getD A.length default = x := by simp [List.getD]
theorem getD_left {α : Type} [Inhabited α] (A : List α) (x : α) (R : List α) {i : Nat} (h : i < A.length) : (A ++ x :: R).getD i default = A.getD i default := by simp [List.getD, List.getElem?_append_left h]
theorem split_last {α : Type} [Inhabited α] {A : List α} (h : 0 < A.length) : A = A.dropLast ++ [A.getD (A.length - 1) default] := by
 have hne : A ≠ [] := fun e => by rw [e] at h; simp at h
 have := List.dropLast_concat_getLast hne
 rw [List.getLast_eq_getElem] at this
 rw [show A.getD (A.length - 1) default = A[A.length - 1]'(by omega) by simp [List.getD, show A.length - 1 < A.length by omega]]
 exact this.symm
theorem swapM {α : Type} [Inhabited α] {A : List α} {x : α} {R : List α} (h : 0 < A.length) : ((A ++ x :: R).set A.length ((A ++ x :: R).getD (A.length - 1) default)).set (A.length - 1) ((A ++ x :: R).getD A.length default) = A.dropLast ++ x :: (A.getD (A.length - 1) default :: R) := by
 rw [getD_mid, getD_left A x R (show A.length - 1 < A.length by omega)]
 generalize hy : A.getD (A.length - 1) default = y
 have e := split_last h
 rw [hy] at e
 have hl : A.dropLast.length = A.length - 1 := List.length_dropLast
 generalize A.dropLast = B at e hl ⊢
 subst e
 simp only [List.length_append, List.length_singleton, Nat.add_sub_cancel] at *
 simp [List.set_append]
theorem le_last {A : List Mk} {x : Mk} (h : A.Pairwise leM) (hA : 0 < A.length) (hx : leM (A.getD (A.length - 1) default) x) : ∀ a ∈ A, leM a x := by
 intro a ha
 obtain ⟨i, hi, rfl⟩ := List.mem_iff_getElem.1 ha
 rcases Nat.lt_or_ge i (A.length - 1) with h1 | h1
 ·have := getD_pw h h1 (by omega)
  rw [show A.getD i default = A[i] by simp [List.getD, hi]] at this
  exact leM_trans this hx
 ·rw [show A.getD (A.length - 1) default = A[i] by rw [show A.length - 1 = i by omega]; simp [List.getD, hi]] at hx
  exact hx
theorem sorted_ins {A B : List Mk} {x : Mk} (hA : A.Pairwise leM) (hB : B.Pairwise leM) (hAB : ∀ a ∈ A, ∀ b ∈ B, leM a b) (hxB : ∀ b ∈ B, leM x b) (hAx : ∀ a ∈ A, leM a x) : (A ++ x :: B).Pairwise leM := by
 rw [List.pairwise_append]
 refine ⟨hA, List.pairwise_cons.2 ⟨hxB, hB⟩, fun a ha b hb => ?_⟩
 rcases List.mem_cons.1 hb with rfl | hb
 ·exact hAx a ha
 ·exact hAB a ha b hb
theorem oqs_flM (i l : Nat) (ds : List AV) : ∀ X : List Mk, oqs i 1 l ds -> oqs i 1 l (fl mkc X ++ ds)
 | [], h => h
 | m :: X, h => by
  have := oqs_flM i l ds X h
  simp only [fl, List.map_cons, List.flatten_cons, List.cons_append, List.nil_append, oqs, oq_pth, oq, true_and, mkc] at this ⊢
  exact this
theorem fqs_flM (i : Nat) (es : List (List AV)) (cs ds : List AV) : ∀ X : List Mk, fqs i 1 es cs (fl mkc X ++ ds) = fl mkc X ++ fqs i 1 es cs ds
 | [] => rfl
 | m :: X => by
  have := fqs_flM i es cs ds X
  simp only [fl, List.map_cons, List.flatten_cons, List.cons_append, List.nil_append, fqs, fq, mkc, pth] at this ⊢
  rw [this]
theorem FzM {np : Nat} {G : Prg} {c : Code} {F : Fr} {H : Hp} {n : Nat} {Q : Post} (i j : Nat) (X : List Mk) (p : List Str) (b : Bool) (F1 : Fr) (H1 : Hp) (m : List Bool) (h : TT np G.P c (fqF i 1 (p.map fun s => [AV.str s]) (fl sc p) F1) ((j, fl mkc (X ++ [⟨p, b⟩])) :: fqH i 1 (p.map fun s => [AV.str s]) (fl sc p) m H1) n Q)
  (hF : oqF i 1 p.length F1 := by simp only [oqF, oq, oqs, go_sem, and_self, reduceIte, Nat.reduceEqDiff]) (hH : oqR i 1 p.length m H1 := by simp only [oqR, oqs, oq, go_sem, and_self, reduceIte, Nat.reduceEqDiff]) (hj : (j == i) = false := by kernel_rfl)
  (h5 : (selH (j :: i :: H1.map (·.1)) H).map Prod.fst = some ((j, fl mkc X ++ [.osl i 1 0 p.length, .bool b]) :: (i, fl sc p) :: H1) := by kernel_rfl) (h4 : keepF (F1.map (·.1)) F = F1 := by kernel_rfl) : TT np G.P c F H n Q := by
 cases hs5 : selH (j :: i :: H1.map (·.1)) H with
 | none => rw [hs5] at h5; cases h5
 | some q =>
  obtain ⟨a, r⟩ := q
  rw [hs5] at h5
  simp only [Option.map_some, Option.some.injEq] at h5
  subst h5
  refine h_pm (selH_perm hs5) (TT_weak (F' := F1) (h4 ▸ keepF_sub F _) (List.sublist_append_left _ _) (TT_fz i (cs := fl sc p) (by simp only [hgt, hj, cond_false, beq_self_eq_true, cond_true]) ?_))
  rw [show hdel ((j, fl mkc X ++ [.osl i 1 0 p.length, .bool b]) :: (i, fl sc p) :: H1) i = (j, fl mkc X ++ [.osl i 1 0 p.length, .bool b]) :: H1 by simp only [hdel, hj, cond_false, beq_self_eq_true, cond_true]]
  rw [fqF_eq (chkS p) (flS_le p) F1 hF, fqR_eq (chkS p) (flS_le p) (H' := (j, fl mkc (X ++ [⟨p, b⟩])) :: fqH i 1 (p.map fun s => [AV.str s]) (fl sc p) m H1)]
  ·exact h
  ·refine ⟨rfl, .inr ⟨oqs_flM i _ _ X (by simp only [oqs, oq, and_self, if_true]), ?_⟩, fqR_of m H1 hH⟩
   rw [fqs_flM, fl_app, fl_one]
   simp only [fqs, fq, Nat.beq_refl, cond_true, mkc, pth]
open Go Go.Proofs
set_option maxRecDepth 100000
theorem add1_ok (a b : Mk) (ha : a.path.length < 2 ^ 40) (hb : b.path.length < 2 ^ 40) : PE G 47 [.agg (mkc a), .agg (mkc b)] (.int .i64 (cmpP a.path b.path)) := by
 refine Pe Tryz.func47 ?_
 refine Rr (Fn2 [] [(3, .ptr 4 0), (2, .ptr 0 0)] [(4, mkc b), (0, mkc a)] 8 (Rr (Bc1 5 [(8, pth b.path), (7, .ptr 4 0), (6, pth a.path), (5, .ptr 0 0)] 27 [pth a.path, pth b.path] 9 (((1 : Nat) ≠ 0) /\ (0 + 1 <= 2 /\ 0 < 2) /\ ((1 : Nat) ≠ 0) /\ (0 + 1 <= 2 /\ 0 < 2) /\ ·) ⟨(by decide), (by decide), (by decide), (by decide), PE.use (cmpP_ok a.path b.path (by omega) (by omega)) ?_⟩)))
 refine Ke (Fn0 [] [(4, .int .i64 (cmpP a.path b.path))] (Rt (.int .i64 (cmpP a.path b.path)) ?_))
 exact fin_lea (lea_refl _)
theorem isort_ok (X : List Mk) (hl : ∀ m ∈ X, wS m.path < 2 ^ 40) (hn : X.length < 2 ^ 20) : XC G 85 (fun i => .osl i 2 0 X.length) [.int .i64 0, .int .i64 X.length, .fn (.func 47) []] (fl mkc X) (fun r cs => r = .tup [] /\ ∃ Y, cs = fl mkc Y /\ Y.Perm X /\ Y.Pairwise leM) := by
 refine h_xc (F := [(0, .osl 0 2 0 X.length), (1, .int .i64 0), (2, .int .i64 X.length), (3, .fn (.func 47) [])]) (by simp only [go_sem]) (by simp only [go_sem]) Tryz.func85 (by kernel_rfl) (by kernel_rfl) ?_ (by kernel_rfl)
 refine Rr (Fn1 [0, 1, 2, 3] [(8, .int .i64 1)] (Ki /\ ·) ⟨rfl, Bl (h_l (fun (z : Nat × List Mk) => (match z with | (i, Y) => ([(0, .osl 0 2 0 X.length), (1, .int .i64 0), (2, .int .i64 X.length), (3, .fn (.func 47) []), (8, .int .i64 i)] : Fr))) (fun (z : Nat × List Mk) => (match z with | (i, Y) => ([(0, fl mkc Y)] : Hp))) (fun (z : Nat × List Mk) cn => (match z with | (i, Y) => (1 <= i /\ (i <= X.length \/ i = 1) /\ Y.length = X.length /\ Y.Perm X /\ (Y.take i).Pairwise leM) /\ cn = 4)) (fun (z : Nat × List Mk) => X.length + 1 - z.1) (1, X) (by kernel_rfl) ?_ ?_ ?_ ?_)⟩)
 refine ⟨?_, rfl⟩; refine ⟨Nat.le_refl _, by omega, rfl, List.Perm.refl _, ?_⟩; cases X <;> simp [List.take]
 exact ⟨by kernel_rfl, by kernel_rfl, by kernel_rfl, by kernel_rfl, by kernel_rfl, trivial⟩
 exact (sub_c (by kernel_rfl) (List.nil_sublist _))
 rintro ⟨i, Y⟩ n1 hI
 (try dsimp only at hI)
 obtain ⟨⟨hi1, hi2, hi3, hp1, hs1⟩, rfl⟩ := hI
 refine Sq fun K2 hK2 => ?_
 refine Rr (Cn1 (decide ((i : Int) < (X.length : Int))) [0, 1, 2, 3, 8] [] (Ki /\ ·) ⟨rfl, fun hc4 c4 => ?_, fun hc4 c4 => ?_⟩)
 try simp only [KF] at c4
 refine Sk (Jn (hK2 (Kp [0, 1, 2, 3, 8] (Sq fun K5 hK5 => ?_))))
 refine Bl (Rr (Fn0 [0, 1, 2, 3, 8] [(9, .int .i64 i)] (Bl (h_l (fun (z : List Mk × Mk × List Mk) => (match z with | (A, x, B) => ([(0, .osl 0 2 0 X.length), (1, .int .i64 0), (2, .int .i64 X.length), (3, .fn (.func 47) []), (8, .int .i64 i), (9, .int .i64 A.length)] : Fr))) (fun (z : List Mk × Mk × List Mk) => (match z with | (A, x, B) => ([(0, fl mkc (A ++ x :: (B ++ Y.drop (i + 1))))] : Hp))) (fun (z : List Mk × Mk × List Mk) cn => (match z with | (A, x, B) => (A.length + B.length = i /\ A.Pairwise leM /\ B.Pairwise leM /\ (∀ a ∈ A, ∀ b ∈ B, leM a b) /\ (∀ b ∈ B, leM x b) /\ (A ++ x :: (B ++ Y.drop (i + 1))).Perm X) /\ cn = 4)) (fun (z : List Mk × Mk × List Mk) => z.1.length) (Y.take i, Y.getD i default, []) (by kernel_rfl) ?_ ?_ ?_ ?_))))
 refine ⟨?_, rfl⟩; refine ⟨by rw [List.length_take, List.length_nil]; omega, hs1, List.Pairwise.nil, by simp, by simp, ?_⟩
 rw [List.nil_append, <- get_split Y i (by omega) default]; exact hp1
 exact ⟨by kernel_rfl, by kernel_rfl, by kernel_rfl, by kernel_rfl, by kernel_rfl, (by show AV.int .i64 _ = AV.int .i64 _; rw [List.length_take, Nat.min_eq_left (by omega)]), trivial⟩
 exact (sub_c (by rw [List.nil_append, <- get_split Y i (by omega) default]) (List.nil_sublist _))
 rintro ⟨A, x, B⟩ n1 hI
 (try dsimp only at hI)
 obtain ⟨⟨hAl, hA1, hB1, hAB, hxB, hp2⟩, rfl⟩ := hI
 have hlen := hp2.length_eq
 simp only [List.length_append, List.length_cons, List.length_drop] at hlen
 have hbd : ∀ q, q < (A ++ x :: (B ++ Y.drop (i + 1))).length -> ((A ++ x :: (B ++ Y.drop (i + 1))).getD q default).path.length < 2 ^ 40 := fun q hq => Nat.lt_of_le_of_lt (wS_len _) (hl _ (hp2.mem_iff.1 (getD_mem _ q default hq)))
 have hLl : (A ++ x :: (B ++ Y.drop (i + 1))).length = A.length + 1 + (B.length + (Y.length - (i + 1))) := by simp only [List.length_append, List.length_cons, List.length_drop]; omega
 refine Sq fun K7 hK7 => ?_
 refine Qm [0, 0, 3, 7, 15, 15, 15, 111, 239, 15, 15, 1039, 3599, 7695, 16383, 32767, 65535] [(0, []), (1, []), (2, []), (3, []), (4, []), (5, []), (6, []), (7, []), (8, []), (9, []), (10, []), (11, []), (12, []), (13, []), (14, []), (15, []), (16, [])] 34 ((decide ((0 : Int) < ((A.length : Int) : Int))) && (decide ((cmpP ((A ++ x :: (B ++ Y.drop (i + 1))).getD A.length default).path ((A ++ x :: (B ++ Y.drop (i + 1))).getD (((A.length : Int) - 1).toNat) default).path : Int) < (0 : Int)))) [0, 1, 2, 3, 8, 9] ?_ ?_
 refine qAn1 4 [(21, .bool (decide ((0 : Int) < ((A.length : Int) : Int)))), (20, .bool (decide ((0 : Int) < ((A.length : Int) : Int)))), (19, .int .i64 0), (18, .int .i64 A.length)] (Ki /\ ·) ⟨rfl, runq_b (fun g9 => ?_) (fun g9 => ?_)⟩
 have hg9 := g9
 try simp only [KF] at g9
 refine qAv1 (r := .agg (((fl mkc (A ++ x :: (B ++ Y.drop (i + 1)))).drop (0 + A.length * 2)).take 2)) (v := .agg (mkc ((A ++ x :: (B ++ Y.drop (i + 1))).getD A.length default))) 5 26 [(25, .ptr 0 (0 + A.length * 2)), (24, .int .i64 A.length), (23, .osl 0 2 0 X.length), (22, .fn (.func 47) [])] (congrArg AV.agg (rowM_get (A ++ x :: (B ++ Y.drop (i + 1))) A.length (by omega))) ((2 = 2 /\ (0 : Int) <= (A.length : Int) /\ (A.length : Int) < (X.length : Int)) /\ (0 + A.length * 2 + 2 <= (fl mkc (A ++ x :: (B ++ Y.drop (i + 1)))).length /\ 0 + A.length * 2 < (fl mkc (A ++ x :: (B ++ Y.drop (i + 1)))).length) /\ ·) ⟨⟨rfl, by omega, by omega⟩, ⟨by rw [flMl]; omega, by rw [flMl]; omega⟩, qAv1 (r := .int .i64 (IntKind.i64.wrap ((A.length : Int) - 1))) (v := .int .i64 ((A.length : Int) - 1)) 3 29 [(28, .int .i64 A.length), (27, .osl 0 2 0 X.length)] (congrArg (AV.int .i64) (wrap64 (by omega) (by omega))) (Ki /\ ·) ⟨rfl, qAv1 (r := .agg (((fl mkc (A ++ x :: (B ++ Y.drop (i + 1)))).drop (0 + (((A.length : Int) - 1).toNat) * 2)).take 2)) (v := .agg (mkc ((A ++ x :: (B ++ Y.drop (i + 1))).getD (((A.length : Int) - 1).toNat) default))) 2 31 [(30, .ptr 0 (0 + (((A.length : Int) - 1).toNat) * 2))] (congrArg AV.agg (rowM_get (A ++ x :: (B ++ Y.drop (i + 1))) (((A.length : Int) - 1).toNat) (by omega))) ((2 = 2 /\ (0 : Int) <= ((A.length : Int) - 1) /\ ((A.length : Int) - 1) < (X.length : Int)) /\ (0 + (((A.length : Int) - 1).toNat) * 2 + 2 <= (fl mkc (A ++ x :: (B ++ Y.drop (i + 1)))).length /\ 0 + (((A.length : Int) - 1).toNat) * 2 < (fl mkc (A ++ x :: (B ++ Y.drop (i + 1)))).length) /\ ·) ⟨⟨rfl, by omega, by omega⟩, ⟨by rw [flMl]; omega, by rw [flMl]; omega⟩, qBc0 1 [] [] 47 [.agg (mkc ((A ++ x :: (B ++ Y.drop (i + 1))).getD A.length default)), .agg (mkc ((A ++ x :: (B ++ Y.drop (i + 1))).getD (((A.length : Int) - 1).toNat) default))] 32 (PE.use (add1_ok ((A ++ x :: (B ++ Y.drop (i + 1))).getD A.length default) ((A ++ x :: (B ++ Y.drop (i + 1))).getD (((A.length : Int) - 1).toNat) default) (hbd _ (by omega)) (hbd _ (by omega))) ?_)⟩⟩⟩
 refine Kq (p := (True)) trivial ?_
 refine qMn1 (decide ((cmpP ((A ++ x :: (B ++ Y.drop (i + 1))).getD A.length default).path ((A ++ x :: (B ++ Y.drop (i + 1))).getD (((A.length : Int) - 1).toNat) default).path : Int) < (0 : Int))) (Ki /\ ·) ⟨rfl, (by rw [hg9]; rfl)⟩
 have hg9 := g9
 try simp only [KF] at g9
 refine qMn0 false (by rw [hg9]; rfl)
 refine Cc ((decide ((0 : Int) < ((A.length : Int) : Int))) && (decide ((cmpP ((A ++ x :: (B ++ Y.drop (i + 1))).getD A.length default).path ((A ++ x :: (B ++ Y.drop (i + 1))).getD (((A.length : Int) - 1).toNat) default).path : Int) < (0 : Int)))) (fun hc10 c10 => ?_) fun hc10 c10 => ?_
 try simp only [KF] at c10
 refine Sk (Jn (hK7 (Kp [0, 1, 2, 3, 8, 9] (Sq fun K11 hK11 => ?_))))
 refine Bl (Qb [0, 0, 0, 0, 8, 0, 0, 64, 224, 480, 0, 0, 3072, 7168, 16355, 32739, 65535, 131071] [(0, []), (1, []), (2, []), (3, []), (4, []), (5, []), (6, []), (7, []), (8, []), (9, []), (10, []), (11, []), (12, []), (13, []), (14, []), (15, []), (16, []), (17, [])] (fun h => Bn (Jn (hK11 h))) (qAv1 (r := .int .i64 (IntKind.i64.wrap ((A.length : Int) - 1))) (v := .int .i64 ((A.length : Int) - 1)) 5 41 [(40, .int .i64 A.length), (39, .osl 0 2 0 X.length), (38, .int .i64 A.length), (37, .osl 0 2 0 X.length)] (congrArg (AV.int .i64) (wrap64 (by omega) (by omega))) (Ki /\ ·) ⟨rfl, qAv1 (r := .int .i64 (IntKind.i64.wrap ((A.length : Int) - 1))) (v := .int .i64 ((A.length : Int) - 1)) 3 44 [(43, .int .i64 A.length), (42, .osl 0 2 0 X.length)] (congrArg (AV.int .i64) (wrap64 (by omega) (by omega))) (Ki /\ ·) ⟨rfl, qAv1 (r := .agg (((fl mkc (A ++ x :: (B ++ Y.drop (i + 1)))).drop (0 + (((A.length : Int) - 1).toNat) * 2)).take 2)) (v := .agg (mkc ((A ++ x :: (B ++ Y.drop (i + 1))).getD (((A.length : Int) - 1).toNat) default))) 2 46 [(45, .ptr 0 (0 + (((A.length : Int) - 1).toNat) * 2))] (congrArg AV.agg (rowM_get (A ++ x :: (B ++ Y.drop (i + 1))) (((A.length : Int) - 1).toNat) (by omega))) ((2 = 2 /\ (0 : Int) <= ((A.length : Int) - 1) /\ ((A.length : Int) - 1) < (X.length : Int)) /\ (0 + (((A.length : Int) - 1).toNat) * 2 + 2 <= (fl mkc (A ++ x :: (B ++ Y.drop (i + 1)))).length /\ 0 + (((A.length : Int) - 1).toNat) * 2 < (fl mkc (A ++ x :: (B ++ Y.drop (i + 1)))).length) /\ ·) ⟨⟨rfl, by omega, by omega⟩, ⟨by rw [flMl]; omega, by rw [flMl]; omega⟩, ?_⟩⟩⟩))
 refine qAv1 (r := .agg (((fl mkc (A ++ x :: (B ++ Y.drop (i + 1)))).drop (0 + A.length * 2)).take 2)) (v := .agg (mkc ((A ++ x :: (B ++ Y.drop (i + 1))).getD A.length default))) 4 50 [(49, .ptr 0 (0 + A.length * 2)), (48, .int .i64 A.length), (47, .osl 0 2 0 X.length)] (congrArg AV.agg (rowM_get (A ++ x :: (B ++ Y.drop (i + 1))) A.length (by omega))) ((2 = 2 /\ (0 : Int) <= (A.length : Int) /\ (A.length : Int) < (X.length : Int)) /\ (0 + A.length * 2 + 2 <= (fl mkc (A ++ x :: (B ++ Y.drop (i + 1)))).length /\ 0 + A.length * 2 < (fl mkc (A ++ x :: (B ++ Y.drop (i + 1)))).length) /\ ·) ⟨⟨rfl, by omega, by omega⟩, ⟨by rw [flMl]; omega, by rw [flMl]; omega⟩, qAn3 2 [(51, .ptr 0 (0 + A.length * 2))] [(0, (fl mkc (A ++ x :: (B ++ Y.drop (i + 1)))).take (0 + A.length * 2) ++ mkc ((A ++ x :: (B ++ Y.drop (i + 1))).getD (((A.length : Int) - 1).toNat) default) ++ (fl mkc (A ++ x :: (B ++ Y.drop (i + 1)))).drop (0 + A.length * 2 + 2))] 4 ((2 = 2 /\ (0 : Int) <= (A.length : Int) /\ (A.length : Int) < (X.length : Int)) /\ (true = true /\ 2 = 2 /\ 0 + A.length * 2 + 2 <= (fl mkc (A ++ x :: (B ++ Y.drop (i + 1)))).length) /\ (True) /\ ·) ⟨⟨rfl, by omega, by omega⟩, ⟨rfl, rfl, (by (try simp only [flMl, flTl, flSl, ints_len, List.length_set]); omega)⟩, trivial, runq_H (H' := [(0, fl mkc ((A ++ x :: (B ++ Y.drop (i + 1))).set A.length ((A ++ x :: (B ++ Y.drop (i + 1))).getD (((A.length : Int) - 1).toNat) default)))]) (by rw [rowM_set (A ++ x :: (B ++ Y.drop (i + 1))) A.length ((A ++ x :: (B ++ Y.drop (i + 1))).getD (((A.length : Int) - 1).toNat) default) (by first | omega | (rw [List.length_set]; omega))]) (qAn3 2 [(52, .ptr 0 (0 + (((A.length : Int) - 1).toNat) * 2))] [(0, (fl mkc ((A ++ x :: (B ++ Y.drop (i + 1))).set A.length ((A ++ x :: (B ++ Y.drop (i + 1))).getD (((A.length : Int) - 1).toNat) default))).take (0 + (((A.length : Int) - 1).toNat) * 2) ++ mkc ((A ++ x :: (B ++ Y.drop (i + 1))).getD A.length default) ++ (fl mkc ((A ++ x :: (B ++ Y.drop (i + 1))).set A.length ((A ++ x :: (B ++ Y.drop (i + 1))).getD (((A.length : Int) - 1).toNat) default))).drop (0 + (((A.length : Int) - 1).toNat) * 2 + 2))] 4 (fun Z => (2 = 2 /\ (0 : Int) <= ((A.length : Int) - 1) /\ ((A.length : Int) - 1) < (X.length : Int)) /\ (true = true /\ 2 = 2 /\ 0 + (((A.length : Int) - 1).toNat) * 2 + 2 <= (fl mkc ((A ++ x :: (B ++ Y.drop (i + 1))).set A.length ((A ++ x :: (B ++ Y.drop (i + 1))).getD (((A.length : Int) - 1).toNat) default))).length) /\ (True) /\ Z) ⟨⟨rfl, by omega, by omega⟩, ⟨rfl, rfl, (by (try simp only [flMl, flTl, flSl, ints_len, List.length_set]); omega)⟩, trivial, runq_H (H' := [(0, fl mkc (((A ++ x :: (B ++ Y.drop (i + 1))).set A.length ((A ++ x :: (B ++ Y.drop (i + 1))).getD (((A.length : Int) - 1).toNat) default)).set (((A.length : Int) - 1).toNat) ((A ++ x :: (B ++ Y.drop (i + 1))).getD A.length default)))]) (by rw [rowM_set ((A ++ x :: (B ++ Y.drop (i + 1))).set A.length ((A ++ x :: (B ++ Y.drop (i + 1))).getD (((A.length : Int) - 1).toNat) default)) (((A.length : Int) - 1).toNat) ((A ++ x :: (B ++ Y.drop (i + 1))).getD A.length default) (by first | omega | (rw [List.length_set]; omega))]) ?_⟩)⟩⟩
 refine qFn0 [0, 1, 2, 3, 8, 9] [] (Rn (Av1 (r := .int .i64 (IntKind.i64.wrap ((A.length : Int) - 1))) (v := .int .i64 ((A.length : Int) - 1)) 2 36 [(35, .int .i64 A.length)] (congrArg (AV.int .i64) (wrap64 (by omega) (by omega))) (Ki /\ ·) ⟨rfl, Gn0 [(9, .int .i64 ((A.length : Int) - 1))] (nk_n ?_)⟩))
 obtain ⟨hA0, hcx⟩ : 0 < A.length /\ cmpP x.path (A.getD (A.length - 1) default).path < 0 := by
   have h := c10
   rw [show ((A.length : Int) - 1).toNat = A.length - 1 by omega] at h
   have hA : 0 < A.length := by simp at h; omega
   rw [getD_mid, getD_left A x _ (by omega)] at h
   exact ⟨hA, by simpa [hA] using h⟩
 have hmem : A.getD (A.length - 1) default ∈ A := getD_mem A _ default (by omega)
 have hsp := split_last hA0
 have hdl : A.dropLast.length = A.length - 1 := List.length_dropLast
 refine Lr (A.dropLast, x, A.getD (A.length - 1) default :: B) [(0, 0)] 4 [(0, .osl 0 2 0 X.length), (1, .int .i64 0), (2, .int .i64 X.length), (3, .fn (.func 47) []), (8, .int .i64 i), (9, .int .i64 ((A.length : Int) - 1))] [(0, fl mkc (((A ++ x :: (B ++ Y.drop (i + 1))).set A.length ((A ++ x :: (B ++ Y.drop (i + 1))).getD (((A.length : Int) - 1).toNat) default)).set (((A.length : Int) - 1).toNat) ((A ++ x :: (B ++ Y.drop (i + 1))).getD A.length default)))] [false] ?_ ?_ (by (try ((try dsimp only); rw [show ((A.length : Int) - 1).toNat = A.length - 1 by omega]; rw [swapM hA0])); try kernel_rfl) (by (try ((try dsimp only); rw [hdl]; rw [show ((A.length - 1 : Nat) : Int) = (A.length : Int) - 1 by omega])); try kernel_rfl)
 (try dsimp only); omega
 refine ⟨?_, rfl⟩; (try dsimp only)
 refine ⟨by simp only [List.length_cons]; omega, ?_, ?_, ?_, ?_, ?_⟩
 · rw [hsp] at hA1; exact (List.pairwise_append.1 hA1).1
 · exact List.pairwise_cons.2 ⟨fun b hb => hAB _ hmem b hb, hB1⟩
 · intro a ha b hb
   rcases List.mem_cons.1 hb with rfl | hb
   · rw [hsp] at hA1; exact (List.pairwise_append.1 hA1).2.2 a ha _ (List.mem_singleton.2 rfl)
   · exact hAB a (List.dropLast_subset A ha) b hb
 · intro b hb
   rcases List.mem_cons.1 hb with rfl | hb
   · exact Int.le_of_lt hcx
   · exact hxB b hb
 · refine List.Perm.trans ?_ hp2
   conv => rhs; rw [hsp]
   rw [List.append_assoc]
   exact (List.Perm.swap _ _ _).append_left _
 try simp only [KF] at c10
 refine Xt (Jx (Lx (Bh (Bn (Jn (hK5 (Kp [0, 1, 2, 3, 8] (Rn (Av1 2 16 [(15, .int .i64 i)] (congrArg (AV.int .i64) (wn1 i (by omega))) (Ki /\ ·) ⟨rfl, Gn0 [(8, .int .i64 ((i + 1 : Nat) : Int))] (nk_n ?_)⟩)))))))))
 have hAx : ∀ a ∈ A, leM a x := by
   have h := c10
   rcases Nat.eq_zero_or_pos A.length with h0 | h0
   · rw [List.eq_nil_of_length_eq_zero h0]; simp
   · rw [show ((A.length : Int) - 1).toNat = A.length - 1 by omega] at h
     rw [getD_mid, getD_left A x _ (by omega)] at h
     refine le_last hA1 h0 (leM_of ?_)
     intro hc; simp [-List.getD_eq_getElem?_getD, h0, hc] at h
 refine Lr (i + 1, A ++ x :: (B ++ Y.drop (i + 1))) [(0, 0)] 4 [(0, .osl 0 2 0 X.length), (1, .int .i64 0), (2, .int .i64 X.length), (3, .fn (.func 47) []), (8, .int .i64 ((i + 1 : Nat) : Int))] [(0, fl mkc (A ++ x :: (B ++ Y.drop (i + 1))))] [false] ?_ ?_ (by kernel_rfl) (by kernel_rfl)
 (try dsimp only); omega
 refine ⟨?_, rfl⟩; (try dsimp only)
 refine ⟨by omega, by omega, by rw [hLl]; omega, hp2, ?_⟩
 rw [show A ++ x :: (B ++ Y.drop (i + 1)) = (A ++ x :: B) ++ Y.drop (i + 1) by simp, List.take_left' (by simp only [List.length_append, List.length_cons]; omega)]
 exact sorted_ins hA1 hB1 hAB hxB hAx
 try simp only [KF] at c4
 refine Xt (Jx (Lx (Bh (Rtn (fun Z => Z) (.tup []) ?_))))
 exact fin_xc (fl mkc Y) (lea_refl _) (by simp only [go_sem]) (by simp only [go_sem]) (by kernel_rfl) ⟨rfl, Y, rfl, hp1, by rw [List.take_of_length_le (by omega)] at hs1; exact hs1⟩
open Go Go.Proofs
set_option maxRecDepth 100000
def l8tab : Str := [0, 1, 2, 2, 3, 3, 3, 3, 4, 4, 4, 4, 4, 4, 4, 4, 5, 5, 5, 5, 5, 5, 5, 5, 5, 5, 5, 5, 5, 5, 5, 5, 6, 6, 6, 6, 6, 6, 6, 6, 6, 6, 6, 6, 6, 6, 6, 6, 6, 6, 6, 6, 6, 6, 6, 6, 6, 6, 6, 6, 6, 6, 6, 6, 7, 7, 7, 7, 7, 7, 7, 7, 7, 7, 7, 7, 7, 7, 7, 7, 7, 7, 7, 7, 7, 7, 7, 7, 7, 7, 7, 7, 7, 7, 7, 7, 7, 7, 7, 7, 7, 7, 7, 7, 7, 7, 7, 7, 7, 7, 7, 7, 7, 7, 7, 7, 7, 7, 7, 7, 7, 7, 7, 7, 7, 7, 7, 7, 8, 8, 8, 8, 8, 8, 8, 8, 8, 8, 8, 8, 8, 8, 8, 8, 8, 8, 8, 8, 8, 8, 8, 8, 8, 8, 8, 8, 8, 8, 8, 8, 8, 8, 8, 8, 8, 8, 8, 8, 8, 8, 8, 8, 8, 8, 8, 8, 8, 8, 8, 8, 8, 8, 8, 8, 8, 8, 8, 8, 8, 8, 8, 8, 8, 8, 8, 8, 8, 8, 8, 8, 8, 8, 8, 8, 8, 8, 8, 8, 8, 8, 8, 8, 8, 8, 8, 8, 8, 8, 8, 8, 8, 8, 8, 8, 8, 8, 8, 8, 8, 8, 8, 8, 8, 8, 8, 8, 8, 8, 8, 8, 8, 8, 8, 8, 8, 8, 8, 8, 8, 8, 8, 8, 8, 8, 8, 8]
theorem l8len : l8tab.length = 256 := by decide
theorem len64_ok (m : Nat) (hm : m < 256) : PC G 94 [.int .u64 (m : Int)] (fun r => ∃ k : Nat, k < 256 /\ r = .int .i64 k) := by
 have h8 := l8len
 refine h_pc (F := [(0, .int .u64 (m : Int))]) (by simp only [go_sem]) Tryz.func94 (by kernel_rfl) (by kernel_rfl) ?_ (by kernel_rfl)
 refine Rr (Fn0 [0] [(2, .int .i64 0)] (Sq fun K2 hK2 => ?_))
 refine Rr (Cn1 (decide ((4294967296 : Int) <= ((m : Int) : Int))) [0, 2] [] ((IntKind.u64 = IntKind.u64) /\ ·) ⟨rfl, fun hc4 c4 => ?_, fun hc4 c4 => ?_⟩)
 try simp only [KF] at c4
 omega
 try simp only [KF] at c4
 refine Sk (Jn (hK2 (Kp [0, 2] (Sq fun K5 hK5 => ?_))))
 refine Rr (Cn1 (decide ((65536 : Int) <= ((m : Int) : Int))) [0, 2] [] ((IntKind.u64 = IntKind.u64) /\ ·) ⟨rfl, fun hc7 c7 => ?_, fun hc7 c7 => ?_⟩)
 try simp only [KF] at c7
 omega
 try simp only [KF] at c7
 refine Sk (Jn (hK5 (Kp [0, 2] (Sq fun K8 hK8 => ?_))))
 refine Rr (Cn1 (decide ((256 : Int) <= ((m : Int) : Int))) [0, 2] [] ((IntKind.u64 = IntKind.u64) /\ ·) ⟨rfl, fun hc10 c10 => ?_, fun hc10 c10 => ?_⟩)
 try simp only [KF] at c10
 omega
 try simp only [KF] at c10
 refine Sk (Jn (hK8 (Kp [0, 2] (Rr (Av0 (r := .int .u8 (IntKind.u8.wrap (m : Int))) (v := .int .u8 (m : Int)) 3 21 [(20, .int .u64 (m : Int)), (19, .int .i64 0)] (congrArg (AV.int .u8) (wrap8 (by omega) (by omega))) ?_)))))
 have hu12 := UInt8.toNat_lt (l8tab.getD m 0)
 refine Av1 (r := .int .i64 (IntKind.i64.wrap ((l8tab.getD m 0).toNat : Int))) (v := .int .i64 ((l8tab.getD m 0).toNat : Int)) 2 23 [(22, .int .u8 ((l8tab.getD m 0).toNat : Int))] (congrArg (AV.int .i64) (wrap64 (by omega) (by omega))) (((0 : Int) <= (m : Int) /\ (m : Int) < (l8tab.length : Int)) /\ ·) ⟨⟨by omega, by omega⟩, Av1 1 24 [] (congrArg (AV.int .i64) (wnn 0 ((l8tab.getD m 0).toNat) (by omega))) (Ki /\ ·) ⟨rfl, Fn0 [] [(2, .int .i64 ((0 + ((l8tab.getD m 0).toNat) : Nat) : Int))] (Rt (.int .i64 ((0 + ((l8tab.getD m 0).toNat) : Nat) : Int)) (⟨[], List.nil_sublist _, _, lea_refl _, ⟨_, ?_, rfl⟩, rfl⟩))⟩⟩; omega
theorem len_ok (m : Nat) (hm : m < 256) : PC G 73 [.int .u64 (m : Int)] (fun r => ∃ k : Nat, k < 256 /\ r = .int .i64 k) := by
 refine h_pc (F := [(0, .int .u64 (m : Int))]) (by simp only [go_sem]) Tryz.func73 (by kernel_rfl) (by kernel_rfl) ?_ (by kernel_rfl)
 refine Rr (Fn0 [0] [] (Sq fun K2 hK2 => ?_))
 refine Cf (Sk (Jn (hK2 (Kp [0] (Rr (Bc0 2 [(6, .int .u64 (m : Int))] 94 [.int .u64 (m : Int)] 7 (PC.use (len64_ok m (by omega)) fun r hr => ?_))))))); obtain ⟨lk4, hlk4, rfl⟩ := hr
 refine Ke (Fn0 [] [(2, .int .i64 lk4)] (Rt (.int .i64 lk4) ?_))
 exact ⟨[], List.nil_sublist _, _, lea_refl _, ⟨_, by omega, rfl⟩, rfl⟩
theorem pdq_ok (X : List Mk) (lm : Nat) (hl : ∀ m ∈ X, wS m.path < 2 ^ 40) (hn : X.length <= 12) : XC G 72 (fun i => .osl i 2 0 X.length) [.int .i64 0, .int .i64 X.length, .int .i64 lm, .fn (.func 47) []] (fl mkc X) (fun r zs => r = .tup [] /\ ∃ Y, zs = fl mkc Y /\ Y.Perm X /\ Y.Pairwise leM) := by
 refine h_xc (F := [(0, .osl 0 2 0 X.length), (1, .int .i64 0), (2, .int .i64 X.length), (3, .int .i64 lm), (4, .fn (.func 47) [])]) (by simp only [go_sem]) (by simp only [go_sem]) Tryz.func72 (by kernel_rfl) (by kernel_rfl) ?_ (by kernel_rfl)
 refine Rr (Fn0 [0, 1, 2, 3, 4] [(10, .bool true)] (Rr (Fn0 [0, 1, 2, 3, 4, 10] [(11, .bool true)] (Bl ?_))))
 refine h_l (fun (u : Unit) => (match u with | _ => ([(0, .osl 0 2 0 X.length), (1, .int .i64 0), (2, .int .i64 X.length), (3, .int .i64 lm), (4, .fn (.func 47) []), (10, .bool true), (11, .bool true)] : Fr))) (fun (u : Unit) => (match u with | _ => ([(0, fl mkc X)] : Hp))) (fun (u : Unit) cn => (match u with | _ => (True) /\ cn = 4)) (fun (u : Unit) => 0) () (by kernel_rfl) ?_ ?_ ?_ ?_
 refine ⟨?_, rfl⟩; trivial
 exact ⟨by kernel_rfl, by kernel_rfl, by kernel_rfl, by kernel_rfl, by kernel_rfl, by kernel_rfl, by kernel_rfl, trivial⟩
 exact (sub_c (by kernel_rfl) (List.nil_sublist _))
 rintro ⟨⟩ n1 hI
 (try dsimp only at hI)
 obtain ⟨-, rfl⟩ := hI
 refine Bl (Rr (Av1 (r := .int .i64 (IntKind.i64.wrap ((X.length : Int) - 0))) (v := .int .i64 ((X.length : Int) - 0)) 3 23 [(22, .int .i64 0), (21, .int .i64 X.length)] (congrArg (AV.int .i64) (wrap64 (by omega) (by omega))) (Ki /\ ·) ⟨rfl, Fn0 [0, 1, 2, 3, 4, 10, 11] [(12, .int .i64 ((X.length : Int) - 0))] (Sq fun K4 hK4 => ?_)⟩))
 refine Rr (Cn1 (decide ((((X.length : Int) - 0) : Int) <= (12 : Int))) [0, 1, 2, 3, 4, 10, 11, 12] [] (Ki /\ ·) ⟨rfl, fun hc6 c6 => ?_, fun hc6 c6 => ?_⟩)
 try simp only [KF] at c6
 refine Rr (Bc0 5 [(29, .fn (.func 47) []), (28, .int .i64 X.length), (27, .int .i64 0), (26, .osl 0 2 0 X.length)] 85 [.osl 0 2 0 X.length, .int .i64 0, .int .i64 X.length, .fn (.func 47) []] 30 (XC.use (a := fun i => .osl i 2 0 X.length) (isort_ok X hl (by omega)) (by kernel_rfl) fun r cs hr => ?_)); obtain ⟨Y8, rfl, hpY8, hsY8⟩ := hr.2; obtain rfl := hr.1
 refine Ke (Fn0 [] [] (Rt (.tup []) ?_))
 exact fin_xc (fl mkc Y8) (lea_refl _) (by simp only [go_sem]) (by simp only [go_sem]) (by kernel_rfl) ⟨rfl, Y8, rfl, hpY8, hsY8⟩
 try simp only [KF] at c6
 omega
theorem SortM_ok (X : List Mk) (hl : ∀ m ∈ X, wS m.path < 2 ^ 40) (hn : X.length <= 12) : XC G 46 (fun i => .osl i 2 0 X.length) [.fn (.func 47) []] (fl mkc X) (fun r zs => r = .tup [] /\ ∃ Y, zs = fl mkc Y /\ Y.Perm X /\ Y.Pairwise leM) := by
 refine h_xc (F := [(0, .osl 0 2 0 X.length), (1, .fn (.func 47) [])]) (by simp only [go_sem]) (by simp only [go_sem]) Tryz.func46 (by kernel_rfl) (by kernel_rfl) ?_ (by kernel_rfl)
 refine Rr (Fn0 [0, 1] [(4, .int .i64 X.length)] (Rn (Av0 (r := .int .u64 (IntKind.u64.wrap (X.length : Int))) (v := .int .u64 (X.length : Int)) 4 10 [(9, .int .i64 X.length), (8, .int .i64 X.length), (7, .osl 0 2 0 X.length)] (congrArg (AV.int .u64) (wrapu64 (by omega) (by omega))) (Bc0 1 [] 73 [.int .u64 (X.length : Int)] 11 ?_))))
 refine PC.use (len_ok X.length (by omega)) fun r hr => ?_; obtain ⟨lk2, hlk2, rfl⟩ := hr
 refine Ke (Bc0 2 [(12, .fn (.func 47) [])] 72 [.osl 0 2 0 X.length, .int .i64 0, .int .i64 X.length, .int .i64 lk2, .fn (.func 47) []] 13 (XC.use (a := fun i => .osl i 2 0 X.length) (pdq_ok X lk2 hl (by omega)) (by kernel_rfl) fun r cs hr => ?_)); obtain ⟨Y3, rfl, hpY3, hsY3⟩ := hr.2; obtain rfl := hr.1
 refine Ke (Gn0 [] (nk_n (Rtn (fun Z => Z) (.tup []) ?_)))
 exact fin_xc (fl mkc Y3) (lea_refl _) (by simp only [go_sem]) (by simp only [go_sem]) (by kernel_rfl) ⟨rfl, Y3, rfl, hpY3, hsY3⟩
open Go Go.Proofs
set_option maxRecDepth 100000
theorem cloneM_ok (l : List Mk) (hl : ∀ m ∈ l, wS m.path < 2 ^ 40) (hn : l.length < 2 ^ 20) : PE G 19 [.sl 2 (l.map mkc)] (.sl 2 (l.map mkc)) := by
 refine Pe Tryz.func19 ?_
 refine Rr (Fn0 [0] [] (Rr (Fn3 [0] [(3, .osl 0 2 0 0)] [(0, [])] 4 ((0 * 2 <= 16777216) /\ ·) ⟨(by decide), Sq fun K3 hK3 => ?_⟩)))
 refine Rr (Av0 (r := .int .i64 ((l.map mkc).length : Nat)) (v := .int .i64 l.length) 2 8 [(7, .sl 2 (l.map mkc))] (by rw [List.length_map]) (Fn0 [3, 7, 8] [(9, .int .i64 0)] (Bl (h_l (fun (k : Nat) => ([(3, .osl 0 2 0 ((l.take k).length)), (7, .sl 2 (l.map mkc)), (8, .int .i64 l.length), (9, .int .i64 k)] : Fr)) (fun (k : Nat) => ([(0, fl mkc (l.take k))] : Hp)) (fun (k : Nat) cn => (k <= l.length) /\ cn = 4) (fun (k : Nat) => l.length - k) 0 (by kernel_rfl) ?_ ?_ ?_ ?_))))
 refine ⟨?_, rfl⟩; exact Nat.zero_le _
 exact ⟨by kernel_rfl, by kernel_rfl, by kernel_rfl, by kernel_rfl, trivial⟩
 exact (sub_c (by kernel_rfl) (List.nil_sublist _))
 rintro k n1 hI
 (try dsimp only at hI)
 obtain ⟨hi1, rfl⟩ := hI
 refine Rr (Fn1 [3, 7, 8, 9] [(10, .bool (decide ((k : Int) < (l.length : Int))))] (Ki /\ ·) ⟨rfl, Sq fun K6 hK6 => ?_⟩)
 refine Cc (decide ((k : Int) < (l.length : Int))) (fun hc7 c7 => ?_) fun hc7 c7 => ?_
 try simp only [KF] at c7
 refine Sk (Jn (hK6 (Kp [3, 7, 8, 9] (Sq fun K8 hK8 => ?_))))
 refine Bl (Rr (Av1 1 11 [] (congrArg AV.pat (mg_mk l k (by omega))) ((2 = 2 /\ (0 : Int) <= (k : Int) /\ (k : Int) < ((l.map mkc).length : Int)) /\ ·) ⟨⟨rfl, by omega, by rw [List.length_map]; omega⟩, Fn3 [3, 7, 8, 9] [(5, .ptr 4 0)] [(4, mkc (l.getD k default)), (0, fl mkc (l.take k))] 8 ((2 <= 2 /\ 0 < 2) /\ (true = true /\ 2 = 2 /\ 0 + 2 <= 2) /\ ·) ⟨(by decide), (by decide), ?_⟩⟩))
 have hgm := hl _ (getD_mem l k default (by omega)); have hgl := wS_len (l.getD k default).path; have htk : (l.take k).length = k := by rw [List.length_take]; omega
 refine Qlb [0, 0, 0, 4, 14, 0, 32, 126, 254, 511] [(0, []), (2, []), (3, []), (5, []), (6, []), (1, [3, 6]), (4, [6]), (7, []), (8, []), (9, [])] (fun h => Bn (Jn (hK8 h))) ?_
 refine qAn3 7 [(17, .osl 12 1 0 (0 + (((l.getD k default).path).map (fun s => [AV.str s])).length)), (14, .osl 8 1 0 0), (19, .bool ((l.getD k default).sub)), (18, .ptr 4 1), (16, pth ((l.getD k default).path)), (15, .ptr 4 0), (13, .osl 0 2 0 ((l.take k).length))] [(12, apd [] (0 * 1) ((((l.getD k default).path).map (fun s => [AV.str s])).flatten)), (4, mkc (l.getD k default)), (0, fl mkc (l.take k))] 16 (fun Z => ((1 : Nat) ≠ 0) /\ (0 + 1 <= 2 /\ 0 < 2) /\ ((1 : Nat) ≠ 0) /\ (1 + 1 <= 2 /\ 1 < 2) /\ (0 * 1 <= 16777216) /\ (((0 + 1 <= 2 /\ 0 < 2) /\ (pth ((l.getD k default).path) = pth ((l.getD k default).path))) /\ ((1 + 1 <= 2 /\ 1 < 2) /\ (AV.bool ((l.getD k default).sub) = (.bool ((l.getD k default).sub) : AV))) /\ True) /\ True /\ (1 = 1 /\ 0 * 1 <= 0 /\ 0 < 16 /\ (0 + (((l.getD k default).path).map (fun s => [AV.str s])).length) * 16 <= 140737488355328) /\ (((1 + 1 <= 2 /\ 1 < 2) /\ (AV.bool ((l.getD k default).sub) = (.bool ((l.getD k default).sub) : AV))) /\ True) /\ Z) ⟨(by decide), (by decide), (by decide), (by decide), (by decide), ⟨⟨(by decide), rfl⟩, ⟨(by decide), rfl⟩, trivial⟩, trivial, ⟨rfl, by (first | omega | (simp only [LL]; omega)), by decide, by (first | omega | (simp only [LL]; omega))⟩, ⟨⟨(by decide), rfl⟩, trivial⟩, runq_v (v' := .osl 12 1 0 (((l.getD k default).path).length)) (by rw [Nat.zero_add, List.length_map]) (runq_h (cs' := fl sc ((l.getD k default).path)) (app0_str _) (qAn3 3 [(22, .osl 20 2 0 ((l.take k).length + 1)), (21, .osl 16 2 0 1), (20, .agg [.osl 12 1 0 (((l.getD k default).path).length), .bool ((l.getD k default).sub)])] [(20, apd (fl mkc (l.take k)) ((l.take k).length * 2) ((([.osl 12 1 0 (((l.getD k default).path).length), .bool ((l.getD k default).sub)] : List AV).drop 0).take (1 * 2))), (16, [.osl 12 1 0 (((l.getD k default).path).length), .bool ((l.getD k default).sub)]), (12, fl sc ((l.getD k default).path)), (4, mkc (l.getD k default))] 24 ((1 * 2 <= 16777216) /\ (True) /\ (0 + 1 * 2 <= ([.osl 12 1 0 (((l.getD k default).path).length), .bool ((l.getD k default).sub)] : List AV).length) /\ (2 = 2 /\ (l.take k).length * 2 <= (fl mkc (l.take k)).length /\ 0 < 32 /\ ((l.take k).length + 1) * 32 <= 140737488355328) /\ (True) /\ ·) ⟨(by decide), trivial, (by first | decide | simp), ⟨rfl, by (first | omega | (simp only [LL, flMl]; omega)), by decide, by (first | omega | (simp only [LL, flMl]; omega))⟩, trivial, runq_H (H' := [(20, fl mkc (l.take k) ++ [.osl 12 1 0 (((l.getD k default).path).length), .bool ((l.getD k default).sub)]), (16, [.osl 12 1 0 (((l.getD k default).path).length), .bool ((l.getD k default).sub)]), (12, fl sc ((l.getD k default).path)), (4, mkc (l.getD k default))]) (by rw [show apd (fl mkc (l.take k)) ((l.take k).length * 2) ((([.osl 12 1 0 (((l.getD k default).path).length), .bool ((l.getD k default).sub)] : List AV).drop 0).take (1 * 2)) = fl mkc (l.take k) ++ [.osl 12 1 0 (((l.getD k default).path).length), .bool ((l.getD k default).sub)] from (by unfold apd; rw [fl_full mkc_len (l.take k) rfl]; rfl)]) ?_⟩))⟩
 refine qGn0 [] (Lo 3 (.osl 20 2 0 ((l.take k).length + 1)) (fun Z => Z) (Cfi [3, 7, 8, 9] (FzM 12 20 (l.take k) ((l.getD k default).path) ((l.getD k default).sub) [(3, .osl 20 2 0 ((l.take k).length + 1)), (7, .sl 2 (l.map mkc)), (8, .int .i64 l.length), (9, .int .i64 k)] [] [] (Rn ?_))))
 refine Av1 1 23 [] (congrArg (AV.int .i64) (wn1 k (by omega))) (Ki /\ ·) ⟨rfl, Gn0 [(9, .int .i64 ((k + 1 : Nat) : Int))] (nk_n (Lr (k + 1) [(20, 0)] 4 [(3, .osl 20 2 0 ((l.take k).length + 1)), (7, .sl 2 (l.map mkc)), (8, .int .i64 l.length), (9, .int .i64 ((k + 1 : Nat) : Int))] [(20, fl mkc (l.take k ++ [Mk.mk ((l.getD k default).path) ((l.getD k default).sub)]))] [false] ?_ ?_ (by (try ((try dsimp only); rw [take_snoc l k default (by omega)])); try kernel_rfl) (by (try ((try dsimp only); rw [take_snoc l k default (by omega), List.length_append])); try kernel_rfl)))⟩
 (try dsimp only); omega
 refine ⟨?_, rfl⟩; (try dsimp only); omega
 try simp only [KF] at c7
 refine Xt (Jx (Lx (Bh (Jn (hK3 (Kp [3] (Rr (Fn0 [] [(2, .osl 0 2 0 ((l.take k).length))] (Fz 0 2 ((l.take k).length) ((l.take k).map mkc) (fl mkc (l.take k)) [(2, .osl 0 2 0 ((l.take k).length))] [] [] (chkM _) (flM_le _) (Rt (.sl 2 ((l.take k).map mkc)) ?_))))))))))
 refine fin_lea ?_
 rw [List.take_of_length_le (by omega)]; exact lea_refl _
open Go Go.Proofs
set_option maxRecDepth 100000
theorem filt_t {l : List Mk} {m : Mk} {k : Nat} (hk : k < l.length) (h : keepM m (l.getD k default) = true) : (l.take (k + 1)).filter (keepM m) = (l.take k).filter (keepM m) ++ [l.getD k default] := by
  rw [take_snoc l k default hk, List.filter_append]; simp only [List.filter_cons, h, if_true, List.filter_nil]
theorem filt_f {l : List Mk} {m : Mk} {k : Nat} (hk : k < l.length) (h : keepM m (l.getD k default) = false) : (l.take (k + 1)).filter (keepM m) = (l.take k).filter (keepM m) := by
  rw [take_snoc l k default hk, List.filter_append]; simp only [List.filter_cons, h, Bool.false_eq_true, if_false, List.filter_nil, List.append_nil]
theorem addM_ok (l : List Mk) (m : Mk) (hl : ∀ m ∈ l, wS m.path < 2 ^ 40) (hm : wS m.path < 2 ^ 40) (hn : l.length <= 5) : PC G 21 [.sl 2 (l.map mkc), .agg (mkc m)] (fun r => ∃ l2, r = .sl 2 (l2.map mkc) /\ AddR l m l2) := by
 have hml := wS_len m.path
 refine h_pc (F := [(0, .sl 2 (l.map mkc)), (1, .agg (mkc m))]) (by simp only [go_sem]) Tryz.func21 (by kernel_rfl) (by kernel_rfl) ?_ (by kernel_rfl)
 refine Rr (Fn2 [0] [(3, .ptr 0 0)] [(0, mkc m)] 4 (Sq fun K2 hK2 => ?_))
 refine Rm 26 (addC l m) [0, 3] ?_ ?_
 refine Bc1 4 [(14, pth m.path), (13, .ptr 0 0), (12, .sl 2 (l.map mkc))] 28 [.sl 2 (l.map mkc), pth m.path] 15 (((1 : Nat) ≠ 0) /\ (0 + 1 <= 2 /\ 0 < 2) /\ ·) ⟨(by decide), (by decide), ?_⟩
 refine PE.use (under_ok l m.path hl (by omega) (by omega)) ?_
 refine Ke (An0 1 [(16, .bool (undM l m.path))] (run_b (fun g4 => ?_) (fun g4 => ?_)))
 have hg4 := g4
 try simp only [KF] at g4
 refine Mn0 true (by unfold addC; first | (simp_all; done) | (rw [Bool.eq_iff_iff]; simp_all; done))
 have hg4 := g4
 try simp only [KF] at g4
 refine An1 4 [(20, .bool (!m.sub)), (19, .bool (!m.sub)), (18, .bool m.sub), (17, .ptr 0 1)] (((1 : Nat) ≠ 0) /\ (1 + 1 <= 2 /\ 1 < 2) /\ ·) ⟨(by decide), (by decide), run_b (fun g5 => ?_) (fun g5 => ?_)⟩
 have hg5 := g5
 try simp only [KF] at g5
 refine Bc1 4 [(23, pth m.path), (22, .ptr 0 0), (21, .sl 2 (l.map mkc))] 44 [.sl 2 (l.map mkc), pth m.path] 24 (((1 : Nat) ≠ 0) /\ (0 + 1 <= 2 /\ 0 < 2) /\ ·) ⟨(by decide), (by decide), ?_⟩
 refine PE.use (marked_ok l m.path hl (by omega) (by omega)) ?_
 refine Ke (Mn0 (mrkM l m.path) (by unfold addC; first | (simp_all; done) | (rw [Bool.eq_iff_iff]; simp_all; done)))
 have hg5 := g5
 try simp only [KF] at g5
 refine Mn0 false (by unfold addC; first | (simp_all; done) | (rw [Bool.eq_iff_iff]; simp_all; done))
 refine Cc (addC l m) (fun hc6 c6 => ?_) fun hc6 c6 => ?_
 try simp only [KF] at c6
 refine Rr (Fn0 [] [(4, .sl 2 (l.map mkc))] (Rt (.sl 2 (l.map mkc)) ?_))
 exact ⟨[], List.nil_sublist _, _, lea_refl _, ⟨l, rfl, .inl ⟨hc6, rfl⟩⟩, by simp only [pur, puress_mk]⟩
 try simp only [KF] at c6
 refine Sk (Jn (hK2 (Kp [0, 3] (Rr (Fn3 [0, 3] [(5, .osl 4 2 0 0)] [(4, []), (0, mkc m)] 8 ((0 * 2 <= 16777216) /\ ·) ⟨(by decide), Sq fun K9 hK9 => ?_⟩)))))
 refine Rr (Av0 (r := .int .i64 ((l.map mkc).length : Nat)) (v := .int .i64 l.length) 2 30 [(29, .sl 2 (l.map mkc))] (by rw [List.length_map]) (Fn0 [3, 5, 29, 30] [(31, .int .i64 0)] (Bl (h_l (fun (k : Nat) => ([(3, .ptr 0 0), (5, .osl 4 2 0 (((l.take k).filter (keepM m)).length)), (29, .sl 2 (l.map mkc)), (30, .int .i64 l.length), (31, .int .i64 k)] : Fr)) (fun (k : Nat) => ([(4, fl mkc ((l.take k).filter (keepM m))), (0, mkc m)] : Hp)) (fun (k : Nat) cn => (k <= l.length) /\ cn = 8) (fun (k : Nat) => l.length - k) 0 (by kernel_rfl) ?_ ?_ ?_ ?_))))
 refine ⟨?_, rfl⟩; exact Nat.zero_le _
 exact ⟨by kernel_rfl, by kernel_rfl, by kernel_rfl, by kernel_rfl, by kernel_rfl, trivial⟩
 exact (sub_c (by kernel_rfl) (sub_c (by kernel_rfl) (List.nil_sublist _)))
 rintro k n1 hI
 (try dsimp only at hI)
 obtain ⟨hi1, rfl⟩ := hI
 refine Rr (Fn1 [3, 5, 29, 30, 31] [(32, .bool (decide ((k : Int) < (l.length : Int))))] (Ki /\ ·) ⟨rfl, Sq fun K12 hK12 => ?_⟩)
 refine Cc (decide ((k : Int) < (l.length : Int))) (fun hc13 c13 => ?_) fun hc13 c13 => ?_
 try simp only [KF] at c13
 refine Sk (Jn (hK12 (Kp [3, 5, 29, 30, 31] (Sq fun K14 hK14 => ?_))))
 refine Bl (Rr (Av1 1 33 [] (congrArg AV.pat (mg_mk l k (by omega))) ((2 = 2 /\ (0 : Int) <= (k : Int) /\ (k : Int) < ((l.map mkc).length : Int)) /\ ·) ⟨⟨rfl, by omega, by rw [List.length_map]; omega⟩, Fn3 [3, 5, 29, 30, 31] [(7, .ptr 8 0)] [(8, mkc (l.getD k default)), (4, fl mkc ((l.take k).filter (keepM m))), (0, mkc m)] 12 ((2 <= 2 /\ 0 < 2) /\ (true = true /\ 2 = 2 /\ 0 + 2 <= 2) /\ ·) ⟨(by decide), (by decide), ?_⟩⟩))
 have hgm := hl _ (getD_mem l k default (by omega)); have hgl := wS_len (l.getD k default).path
 refine Rm 45 (keepM m (l.getD k default)) [3, 5, 7, 29, 30, 31] ?_ ?_
 refine An1 4 [(38, .bool (!m.sub)), (37, .bool (!m.sub)), (36, .bool m.sub), (35, .ptr 0 1)] (((1 : Nat) ≠ 0) /\ (1 + 1 <= 2 /\ 1 < 2) /\ ·) ⟨(by decide), (by decide), run_b (fun g17 => ?_) (fun g17 => ?_)⟩
 have hg17 := g17
 try simp only [KF] at g17
 refine Mn0 true (by unfold keepM; first | (simp_all; done) | (rw [Bool.eq_iff_iff]; simp_all; done))
 have hg17 := g17
 try simp only [KF] at g17
 refine Bc1 5 [(42, pth m.path), (41, .ptr 0 0), (40, pth ((l.getD k default).path)), (39, .ptr 8 0)] 45 [pth ((l.getD k default).path), pth m.path] 43 (((1 : Nat) ≠ 0) /\ (0 + 1 <= 2 /\ 0 < 2) /\ ((1 : Nat) ≠ 0) /\ (0 + 1 <= 2 /\ 0 < 2) /\ ·) ⟨(by decide), (by decide), (by decide), (by decide), ?_⟩
 refine PE.use (begins_ok ((l.getD k default).path) m.path (by omega) (by omega)) ?_
 refine Ke (Mn0 (!(m.path.isPrefixOf ((l.getD k default).path))) (by unfold keepM; first | (simp_all; done) | (rw [Bool.eq_iff_iff]; simp_all; done)))
 refine Cc (keepM m (l.getD k default)) (fun hc18 c18 => ?_) fun hc18 c18 => ?_
 try simp only [KF] at c18
 have hflt := List.length_filter_le (keepM m) (l.take k); have htk : (l.take k).length <= l.length := by rw [List.length_take]; omega
 refine Rb (fun h => Bn (Jn (hK14 h))) (An3 4 [(49, .osl 16 2 0 (((l.take k).filter (keepM m)).length + 1)), (48, .osl 12 2 0 1), (47, .agg (mkc (l.getD k default))), (46, .osl 4 2 0 (((l.take k).filter (keepM m)).length))] [(16, apd (fl mkc ((l.take k).filter (keepM m))) (((l.take k).filter (keepM m)).length * 2) (mkc (l.getD k default))), (12, mkc (l.getD k default)), (8, mkc (l.getD k default)), (0, mkc m)] 20 ((0 + 2 <= 2 /\ 0 < 2) /\ (1 * 2 <= 16777216) /\ (0 + 1 * 2 <= 2) /\ (2 = 2 /\ ((l.take k).filter (keepM m)).length * 2 <= (fl mkc ((l.take k).filter (keepM m))).length /\ 0 < 32 /\ (((l.take k).filter (keepM m)).length + 1) * 32 <= 140737488355328) /\ ·) ⟨(by decide), (by decide), (by decide), ⟨rfl, by (first | omega | (simp only [LL, flMl]; omega)), by decide, by (first | omega | (simp only [LL, flMl]; omega))⟩, run_v (v' := .osl 16 2 0 (((l.take k).filter (keepM m) ++ [(l.getD k default)]).length)) (push_len _ _ _ _) (run_h (cs' := fl mkc ((l.take k).filter (keepM m) ++ [(l.getD k default)])) (push_mk ((l.take k).filter (keepM m)) (l.getD k default)) (Fn0 [3, 29, 30, 31] [(5, .osl 16 2 0 (((l.take k).filter (keepM m) ++ [(l.getD k default)]).length))] ?_))⟩)
 refine Rn (Av1 1 50 [] (congrArg (AV.int .i64) (wn1 k (by omega))) (Ki /\ ·) ⟨rfl, Gn0 [(31, .int .i64 ((k + 1 : Nat) : Int))] (nk_n (Lr (k + 1) [(0, 0), (16, 4)] 8 [(3, .ptr 0 0), (5, .osl 16 2 0 (((l.take k).filter (keepM m) ++ [(l.getD k default)]).length)), (29, .sl 2 (l.map mkc)), (30, .int .i64 l.length), (31, .int .i64 ((k + 1 : Nat) : Int))] [(16, fl mkc ((l.take k).filter (keepM m) ++ [(l.getD k default)])), (0, mkc m)] [false, true] ?_ ?_ (by (try ((try dsimp only); rw [filt_t (by omega) hc18])); try kernel_rfl) (by (try ((try dsimp only); rw [filt_t (by omega) hc18])); try kernel_rfl)))⟩)
 (try dsimp only); omega
 refine ⟨?_, rfl⟩; (try dsimp only); omega
 try simp only [KF] at c18
 refine Sk (Bn (Jn (hK14 (Kp [3, 5, 29, 30, 31] (Rn (Av1 1 50 [] (congrArg (AV.int .i64) (wn1 k (by omega))) (Ki /\ ·) ⟨rfl, Gn0 [(31, .int .i64 ((k + 1 : Nat) : Int))] (nk_n ?_)⟩))))))
 refine Lr (k + 1) [(0, 0), (4, 4)] 8 [(3, .ptr 0 0), (5, .osl 4 2 0 (((l.take k).filter (keepM m)).length)), (29, .sl 2 (l.map mkc)), (30, .int .i64 l.length), (31, .int .i64 ((k + 1 : Nat) : Int))] [(4, fl mkc ((l.take k).filter (keepM m))), (0, mkc m)] [false, true] ?_ ?_ (by (try ((try dsimp only); rw [filt_f (by omega) hc18])); try kernel_rfl) (by (try ((try dsimp only); rw [filt_f (by omega) hc18])); try kernel_rfl)
 (try dsimp only); omega
 refine ⟨?_, rfl⟩; (try dsimp only); omega
 try simp only [KF] at c13
 refine Xt (Jx (Lx (Bh (Jn (hK9 (Kp [3, 5] ?_))))))
 have hlA : ∀ q ∈ (l.take k).filter (keepM m) ++ [m], wS q.path < 2 ^ 40 := by
   intro q hq
   rcases List.mem_append.1 hq with h | h
   · exact hl _ (List.mem_of_mem_take (List.mem_filter.1 h).1)
   · rw [List.mem_singleton] at h; subst h; exact hm
 have hflt := List.length_filter_le (keepM m) (l.take k)
 have htk : (l.take k).length <= l.length := by rw [List.length_take]; omega
 have hall : ((l.take k).filter (keepM m) ++ [m]).length <= 12 := by rw [List.length_append, List.length_singleton]; omega
 refine Rr (An3 4 [(54, .osl 12 2 0 (((l.take k).filter (keepM m)).length + 1)), (53, .osl 8 2 0 1), (52, .agg (mkc m)), (51, .osl 4 2 0 (((l.take k).filter (keepM m)).length))] [(12, apd (fl mkc ((l.take k).filter (keepM m))) (((l.take k).filter (keepM m)).length * 2) (mkc m)), (8, mkc m), (0, mkc m)] 16 ((0 + 2 <= 2 /\ 0 < 2) /\ (1 * 2 <= 16777216) /\ (0 + 1 * 2 <= 2) /\ (2 = 2 /\ ((l.take k).filter (keepM m)).length * 2 <= (fl mkc ((l.take k).filter (keepM m))).length /\ 0 < 32 /\ (((l.take k).filter (keepM m)).length + 1) * 32 <= 140737488355328) /\ ·) ⟨(by decide), (by decide), (by decide), ⟨rfl, by (first | omega | (simp only [LL, flMl]; omega)), by decide, by (first | omega | (simp only [LL, flMl]; omega))⟩, run_v (v' := .osl 12 2 0 (((l.take k).filter (keepM m) ++ [m]).length)) (push_len _ _ _ _) (run_h (cs' := fl mkc ((l.take k).filter (keepM m) ++ [m])) (push_mk ((l.take k).filter (keepM m)) m) (Fn0 [] [(5, .osl 12 2 0 (((l.take k).filter (keepM m) ++ [m]).length))] ?_))⟩)
 refine Rr (Bc0 2 [(55, .osl 12 2 0 (((l.take k).filter (keepM m) ++ [m]).length))] 46 [.osl 12 2 0 (((l.take k).filter (keepM m) ++ [m]).length), .fn (.func 47) []] 56 (XC.use (a := fun i => .osl i 2 0 ((l.take k).filter (keepM m) ++ [m]).length) (SortM_ok ((l.take k).filter (keepM m) ++ [m]) hlA (by omega)) (by kernel_rfl) fun r cs hr => ?_)); obtain ⟨Y21, rfl, hpY21, hsY21⟩ := hr.2; obtain rfl := hr.1
 refine Ke (Fn0 [5] [] (h_k [5] (F' := [(5, .osl 12 2 0 (((l.take k).filter (keepM m) ++ [m]).length))]) (by kernel_rfl) (h_st (F' := [(5, .osl 12 2 0 Y21.length)]) (H' := [(12, fl mkc Y21), (8, mkc m), (0, mkc m)]) (by rw [hpY21.length_eq]) rfl ?_)))
 have hY6 : Y21.length <= 6 := by rw [hpY21.length_eq, List.length_append, List.length_singleton]; have := List.length_filter_le (keepM m) (l.take k); rw [List.length_take] at this; omega
 refine Sq fun K22 hK22 => ?_
 refine Bl (h_l (fun (u : Unit) => (match u with | _ => ([(5, .osl 12 2 0 Y21.length)] : Fr))) (fun (u : Unit) => (match u with | _ => ([(12, fl mkc Y21), (8, mkc m), (0, mkc m)] : Hp))) (fun (u : Unit) cn => (match u with | _ => (True) /\ cn = 16)) (fun (u : Unit) => 0) () (by kernel_rfl) ?_ ?_ ?_ ?_)
 refine ⟨?_, rfl⟩; trivial
 exact ⟨by kernel_rfl, trivial⟩
 exact (sub_c (by kernel_rfl) (sub_c (by kernel_rfl) (sub_c (by kernel_rfl) (List.nil_sublist _))))
 rintro ⟨⟩ n1 hI
 (try dsimp only at hI)
 obtain ⟨-, rfl⟩ := hI
 refine Sq fun K23 hK23 => ?_
 refine Rr (Cn1 (decide ((6 : Int) < ((Y21.length : Int) : Int))) [5] [] (Ki /\ ·) ⟨rfl, fun hc25 c25 => ?_, fun hc25 c25 => ?_⟩)
 try simp only [KF] at c25
 omega
 try simp only [KF] at c25
 refine Xt (Jx (Lx (Bh (Jn (hK22 (Kp [5] (Rr (Fn0 [] [(4, .osl 12 2 0 Y21.length)] (Fz 12 2 Y21.length (Y21.map mkc) (fl mkc Y21) [(4, .osl 12 2 0 Y21.length)] [] [] (chkM _) (flM_le _) (Rt (.sl 2 (Y21.map mkc)) ?_))))))))))
 obtain rfl : k = l.length := by omega
 rw [List.take_length] at hpY21
 exact ⟨[], List.nil_sublist _, _, lea_refl _, ⟨Y21, rfl, .inr ⟨hc6, hpY21, hsY21⟩⟩, by simp only [pur, puress_mk]⟩
def dirAt (t : Tr) (p : List Str) : Bool := match tat t p with | some x => x.dir | none => false
def mksOf (t : Tr) (c : Cl) : List Mk := bif !callOk c then [] else bif decide (c.kind = (5 : Int)) then [⟨c.path, dirAt t c.path⟩, ⟨c.to, dirAt t c.path⟩] else [⟨c.path, false⟩]
inductive AddL : List Mk -> List Mk -> List Mk -> Prop
 | nil (l : List Mk) : AddL l [] l
 | snoc {l l1 l2 : List Mk} {ms : List Mk} {m : Mk} (h : AddL l ms l1) (k : AddR l1 m l2) : AddL l (ms ++ [m]) l2
theorem AddL.len {l ms l2 : List Mk} (h : AddL l ms l2) : l2.length <= l.length + ms.length := by
 induction h with
 | nil => simp
 | snoc h k ih => have := k.len; simp only [List.length_append, List.length_singleton]; omega
theorem AddL.mem {l ms l2 : List Mk} (h : AddL l ms l2) {x : Mk} (hx : x ∈ l2) : x ∈ l \/ x ∈ ms := by
 induction h with
 | nil => exact .inl hx
 | snoc h k ih =>
  rcases k.mem hx with h1 | rfl
  ·exact (ih h1).imp id (fun h => List.mem_append_left _ h)
  ·exact .inr (by simp)
theorem AddL.trl {l ms l2 : List Mk} (h : AddL l ms l2) (ht : Trl l) (hm : ∀ m ∈ ms, mkOk m = true) : Trl l2 := by
 induction h with
 | nil => exact ht
 | snoc h k ih => exact k.trl (ih fun m hx => hm m (List.mem_append_left _ hx)) (hm _ (by simp))
theorem mksOf_len (t : Tr) (c : Cl) : (mksOf t c).length <= 2 := by
 unfold mksOf; cases callOk c <;> cases hk : decide (c.kind = (5 : Int)) <;> simp
theorem mksOf_mem {t : Tr} {c : Cl} {m : Mk} (h : m ∈ mksOf t c) : callOk c = true /\ (m.path = c.path \/ m.path = c.to) /\ (m.sub = true -> c.kind = 5 /\ dirAt t c.path = true) := by
 unfold mksOf at h
 cases hc : callOk c with
 | false => rw [hc] at h; simp at h
 | true =>
  rw [hc] at h
  simp only [Bool.not_true, cond_false] at h
  cases hk : decide (c.kind = (5 : Int)) with
  | false => rw [hk] at h; simp at h; subst h; simp
  | true =>
   rw [hk] at h
   simp only [cond_true, List.mem_cons, List.not_mem_nil, or_false] at h
   have hk5 : c.kind = 5 := of_decide_eq_true hk
   rcases h with rfl | rfl
   ·exact ⟨rfl, .inl rfl, fun h => ⟨hk5, h⟩⟩
   ·exact ⟨rfl, .inr rfl, fun h => ⟨hk5, h⟩⟩
open Go Go.Proofs
set_option maxRecDepth 100000
theorem marksOf_ok (t : Tr) (c : Cl) (hw : t.W < 2 ^ 40) (hwf : t.wf = true) (h1 : wS c.path < 2 ^ 40) (h2 : wS c.to < 2 ^ 40) : PE G 20 [.agg (tcs t), .agg (clc c)] (.sl 2 ((mksOf t c).map mkc)) := by
 have hl1 := wS_len c.path; have hl2 := wS_len c.to
 refine Pe Tryz.func20 ?_
 refine Rr (Fn2 [] [(3, .ptr 4 0), (2, .ptr 0 0)] [(4, clc c), (0, tcs t)] 8 (Sq fun K2 hK2 => ?_))
 refine Rr (Pc1 2 [(8, .agg (clc c))] 9 (0 + 5 <= 5 /\ 0 < 5) (by decide) (isCall_ok c (by omega) (by omega)) (Cn0 (!(callOk c)) [2, 3] [] ⟨fun hc4 c4 => ?_, fun hc4 c4 => ?_⟩))
 try simp only [KF] at c4
 refine Rr (Fn3 [] [(4, .osl 8 2 0 0)] [(8, []), (4, clc c), (0, tcs t)] 12 ((0 * 2 <= 16777216) /\ ·) ⟨(by decide), Fz 8 2 0 ([]) ([]) [(4, .osl 8 2 0 0)] [] [] (by kernel_rfl) (by decide) (Rt (.sl 2 ([].map mkc)) (fin_lea ?_))⟩)
 rw [show mksOf t c = [] by unfold mksOf; simp only [hc4, Bool.not_true, Bool.not_false, cond_true, cond_false]]; exact lea_refl _
 try simp only [KF] at c4
 refine Sk (Jn (hK2 (Kp [2, 3] (Rr (Fn3 [2, 3] [(5, .osl 8 2 0 1)] [(8, [pth c.path, .bool false]), (4, clc c), (0, tcs t)] 12 (((1 : Nat) ≠ 0) /\ (1 + 1 <= 5 /\ 1 < 5) /\ (1 * 2 <= 16777216) /\ ·) ⟨(by decide), (by decide), (by decide), Sq fun K7 hK7 => ?_⟩)))))
 refine Rr (Cn1 (decide ((c.kind : Int) = (5 : Int))) [2, 3, 5] [] (((1 : Nat) ≠ 0) /\ (0 + 1 <= 5 /\ 0 < 5) /\ Ki /\ ·) ⟨(by decide), (by decide), rfl, fun hc9 c9 => ?_, fun hc9 c9 => ?_⟩)
 try simp only [KF] at c9
 refine Rr (Bc1 3 [(20, pth c.path), (19, .ptr 4 1)] 43 [.ptr 0 0, pth c.path] 21 (((1 : Nat) ≠ 0) /\ (1 + 1 <= 5 /\ 1 < 5) /\ ·) ⟨(by decide), (by decide), Tz 0 1 5 ([[.bool t.dir], [.int .i64 t.mode], [.str t.data], [pth t.names], [.sl 5 (t.kids.map trc)]]) (tcs t) [.pat (tcs t), pth c.path] [(8, [pth c.path, .bool false]), (4, clc c)] [true, true] (by kernel_rfl) (by first | decide | simp) (PE.use (atp_ok t c.path (by omega) (by assumption) (by omega)) ?_)⟩)
 unfold atp
 rcases hf : tat t c.path with _ | x
 dsimp only
 refine Ke (Fn0 [3] [(6, .nilp)] (Rr (Fn1 [3] [(7, .bool false)] ((∃ e, TK.ptr 26 = TK.ptr e) /\ ·) ⟨⟨_, rfl⟩, Rb (fun h => Jn (hK7 h)) ?_⟩)))
 refine Fn3 [] [(5, .osl 12 2 0 2)] [(12, [pth c.path, .bool false, pth c.to, .bool false]), (8, [pth c.path, .bool false]), (4, clc c)] 16 (((1 : Nat) ≠ 0) /\ (1 + 1 <= 5 /\ 1 < 5) /\ ((1 : Nat) ≠ 0) /\ (2 + 1 <= 5 /\ 2 < 5) /\ (2 * 2 <= 16777216) /\ ·) ⟨(by decide), (by decide), (by decide), (by decide), (by decide), Rr (Bc0 2 [(39, .osl 12 2 0 2)] 19 [.osl 12 2 0 2] 40 (Tz 12 2 2 ([[pth c.path, .bool false], [pth c.to, .bool false]]) ([pth c.path, .bool false, pth c.to, .bool false]) [.sl 2 ([Mk.mk c.path false, Mk.mk c.to false].map mkc)] [(8, [pth c.path, .bool false]), (4, clc c)] [true, true] (by kernel_rfl) (by first | decide | simp) (PE.use (cloneM_ok [Mk.mk c.path false, Mk.mk c.to false] (by intro q hq; simp only [List.mem_cons, List.not_mem_nil, or_false] at hq; first | (subst hq; assumption) | (rcases hq with rfl | rfl <;> assumption)) (by simp)) ?_)))⟩
 refine Ke (Fn0 [] [(4, .sl 2 ([Mk.mk c.path false, Mk.mk c.to false].map mkc))] (Rt (.sl 2 ([Mk.mk c.path false, Mk.mk c.to false].map mkc)) (fin_lea ?_)))
 rw [show mksOf t c = [Mk.mk c.path false, Mk.mk c.to false] by unfold mksOf; unfold dirAt; simp only [hc4, hc9, Bool.not_true, Bool.not_false, cond_true, cond_false, hf]]; exact lea_refl _
 dsimp only
 have hxW := W_tat _ _ _ hf
 have hxd := data_W x
 have hxn := wS_len x.names
 have hxE := W_eq x
 refine Ke (Fn0 [3] [(6, .pat (tcs x))] (Rr (Fn1 [3] [(7, .bool x.dir)] ((∃ e, TK.ptr 26 = TK.ptr e) /\ ((1 : Nat) ≠ 0) /\ (1 <= 5 /\ 0 < 5) /\ ·) ⟨⟨_, rfl⟩, (by decide), (by decide), Rb (fun h => Jn (hK7 h)) ?_⟩)))
 refine Fn3 [] [(5, .osl 12 2 0 2)] [(12, [pth c.path, .bool x.dir, pth c.to, .bool x.dir]), (8, [pth c.path, .bool false]), (4, clc c)] 16 (((1 : Nat) ≠ 0) /\ (1 + 1 <= 5 /\ 1 < 5) /\ ((1 : Nat) ≠ 0) /\ (2 + 1 <= 5 /\ 2 < 5) /\ (2 * 2 <= 16777216) /\ ·) ⟨(by decide), (by decide), (by decide), (by decide), (by decide), Rr (Bc0 2 [(39, .osl 12 2 0 2)] 19 [.osl 12 2 0 2] 40 (Tz 12 2 2 ([[pth c.path, .bool x.dir], [pth c.to, .bool x.dir]]) ([pth c.path, .bool x.dir, pth c.to, .bool x.dir]) [.sl 2 ([Mk.mk c.path x.dir, Mk.mk c.to x.dir].map mkc)] [(8, [pth c.path, .bool false]), (4, clc c)] [true, true] (by kernel_rfl) (by first | decide | simp) (PE.use (cloneM_ok [Mk.mk c.path x.dir, Mk.mk c.to x.dir] (by intro q hq; simp only [List.mem_cons, List.not_mem_nil, or_false] at hq; first | (subst hq; assumption) | (rcases hq with rfl | rfl <;> assumption)) (by simp)) ?_)))⟩
 refine Ke (Fn0 [] [(4, .sl 2 ([Mk.mk c.path x.dir, Mk.mk c.to x.dir].map mkc))] (Rt (.sl 2 ([Mk.mk c.path x.dir, Mk.mk c.to x.dir].map mkc)) (fin_lea ?_)))
 rw [show mksOf t c = [Mk.mk c.path x.dir, Mk.mk c.to x.dir] by unfold mksOf; unfold dirAt; simp only [hc4, hc9, Bool.not_true, Bool.not_false, cond_true, cond_false, hf]]; exact lea_refl _
 try simp only [KF] at c9
 refine Sk (Jn (hK7 (Kp [5] (Rr (Bc0 2 [(39, .osl 8 2 0 1)] 19 [.osl 8 2 0 1] 40 (Tz 8 2 1 ([[pth c.path, .bool false]]) ([pth c.path, .bool false]) [.sl 2 ([Mk.mk c.path false].map mkc)] [(4, clc c), (0, tcs t)] [true, true] (by kernel_rfl) (by first | decide | simp) (PE.use (cloneM_ok [Mk.mk c.path false] (by intro q hq; simp only [List.mem_cons, List.not_mem_nil, or_false] at hq; first | (subst hq; assumption) | (rcases hq with rfl | rfl <;> assumption)) (by simp)) ?_)))))))
 refine Ke (Fn0 [] [(4, .sl 2 ([Mk.mk c.path false].map mkc))] (Rt (.sl 2 ([Mk.mk c.path false].map mkc)) (fin_lea ?_)))
 rw [show mksOf t c = [Mk.mk c.path false] by unfold mksOf; simp only [hc4, hc9, Bool.not_true, Bool.not_false, cond_true, cond_false]]; exact lea_refl _
theorem wtHead_ok (p q : List Str) (hp : p.length < 2 ^ 40) (hq : q.length < 2 ^ 40) : PE G 25 [pth p, pth q] (.bool (q.isPrefixOf p)) := by
 refine Pe Tryz.func25 ?_
 refine Rr (Fn0 [0, 1] [] ?_)
 have htk : (p.take q.length).length <= p.length := by rw [List.length_take]; omega
 refine Rm 4 ((decide ((q.length : Int) <= (p.length : Int))) && ((p.take q.length) == q)) [] ?_ ?_
 refine Av0 (r := .int .i64 ((p.map (fun s => [AV.str s])).length : Nat)) (v := .int .i64 p.length) 2 6 [(5, pth p)] (by rw [List.length_map]) (Av0 (r := .int .i64 ((q.map (fun s => [AV.str s])).length : Nat)) (v := .int .i64 q.length) 2 8 [(7, pth q)] (by rw [List.length_map]) (An1 2 [(10, .bool (decide ((q.length : Int) <= (p.length : Int)))), (9, .bool (decide ((q.length : Int) <= (p.length : Int))))] (Ki /\ ·) ⟨rfl, run_b (fun g3 => ?_) (fun g3 => ?_)⟩))
 have hg3 := g3
 try simp only [KF] at g3
 refine Av0 (r := .int .i64 ((q.map (fun s => [AV.str s])).length : Nat)) (v := .int .i64 q.length) 3 13 [(12, pth q), (11, pth p)] (by rw [List.length_map]) (Av1 (r := .sl 1 (((p.map (fun s => [AV.str s])).take q.length).drop 0)) (v := pth (p.take q.length)) 1 14 [] (congrArg (AV.sl 1) (slm_0 _ _ _)) ((1 = 1 /\ 0 <= (0 : Int) /\ (0 : Int) <= (q.length : Int) /\ (q.length : Int) <= ((p.map (fun s => [AV.str s])).length : Int)) /\ ·) ⟨⟨rfl, by omega, by (try rw [List.length_map]); omega, by rw [List.length_map]; omega⟩, Pc0 2 [(15, pth q)] 16 (wtTexts_ok (p.take q.length) q (by omega) (by omega)) (Mn0 ((p.take q.length) == q) (by rw [hg3]; rfl))⟩)
 have hg3 := g3
 try simp only [KF] at g3
 refine Mn0 false (by rw [hg3]; rfl)
 refine Rt (.bool ((decide ((q.length : Int) <= (p.length : Int))) && ((p.take q.length) == q))) (fin_lea ?_)
 have hr : q.isPrefixOf p = ((decide ((q.length : Int) <= (p.length : Int))) && ((p.take q.length) == q)) := by
   rw [Bool.eq_iff_iff, List.isPrefixOf_iff_prefix, List.prefix_iff_eq_take]
   constructor
   · intro h; have hl := congrArg List.length h; rw [List.length_take] at hl; simp; exact ⟨by omega, h.symm⟩
   · intro h; simp at h; exact h.2.symm
 rw [hr]; exact lea_refl _
theorem wuMarked_ok (l : List Mk) (p : List Str) (hl : ∀ m ∈ l, wS m.path < 2 ^ 40) (hn : l.length < 2 ^ 20) (hp : p.length < 2 ^ 40) : PE G 8 [.sl 2 (l.map mkc), pth p] (.bool (l.any fun m => m.path == p || (m.sub && m.path.isPrefixOf p))) := by
 refine Pe Tryz.func8 ?_
 refine Rr (Fn0 [0, 1] [] (Sq fun K2 hK2 => ?_))
 refine Rr (Fn0 [0, 1] [(5, .int .i64 0)] (Bl (h_l (fun (k : Nat) => ([(0, .sl 2 (l.map mkc)), (1, pth p), (5, .int .i64 k)] : Fr)) (fun (k : Nat) => ([] : Hp)) (fun (k : Nat) cn => (k <= l.length /\ ((l.take k).any fun m => m.path == p || (m.sub && m.path.isPrefixOf p)) = false) /\ cn = 0) (fun (k : Nat) => l.length - k) 0 (by kernel_rfl) ?_ ?_ ?_ ?_)))
 refine ⟨?_, rfl⟩; exact ⟨Nat.zero_le _, rfl⟩
 exact ⟨by kernel_rfl, by kernel_rfl, by kernel_rfl, trivial⟩
 exact (List.nil_sublist _)
 rintro k n1 hI
 (try dsimp only at hI)
 obtain ⟨⟨hi1, hi2⟩, rfl⟩ := hI
 refine Sq fun K4 hK4 => ?_
 refine Rr (Av0 (r := .int .i64 ((l.map mkc).length : Nat)) (v := .int .i64 l.length) 3 8 [(7, .sl 2 (l.map mkc)), (6, .int .i64 k)] (by rw [List.length_map]) (Cn1 (decide ((k : Int) < (l.length : Int))) [0, 1, 5] [] (Ki /\ ·) ⟨rfl, fun hc6 c6 => ?_, fun hc6 c6 => ?_⟩))
 try simp only [KF] at c6
 refine Sk (Jn (hK4 (Kp [0, 1, 5] (Sq fun K7 hK7 => ?_))))
 refine Bl ?_
 have hgm := hl _ (getD_mem l k default (by omega)); have hgl := wS_len (l.getD k default).path
 refine Rm 34 ((l.getD k default).path == p || ((l.getD k default).sub && (l.getD k default).path.isPrefixOf p)) [0, 1, 5] ?_ ?_
 refine Av1 3 14 [(13, .int .i64 k), (12, .sl 2 (l.map mkc))] (congrArg AV.pat (mg_mk l k (by omega))) ((2 = 2 /\ (0 : Int) <= (k : Int) /\ (k : Int) < ((l.map mkc).length : Int)) /\ ·) ⟨⟨rfl, by omega, by rw [List.length_map]; omega⟩, Bc1 4 [(17, pth p), (16, pth ((l.getD k default).path)), (15, .pat (mkc (l.getD k default)))] 24 [pth ((l.getD k default).path), pth p] 18 (((1 : Nat) ≠ 0) /\ (1 <= 2 /\ 0 < 2) /\ ·) ⟨(by decide), (by decide), PE.use (wtTexts_ok ((l.getD k default).path) p (by omega) (by omega)) (Ke (An0 1 [(19, .bool (((l.getD k default).path) == p))] ?_))⟩⟩
 refine run_b (fun g9 => ?_) (fun g9 => ?_)
 have hg9 := g9
 try simp only [KF] at g9
 refine Mn0 true (by first | (simp_all; done) | (rw [Bool.eq_iff_iff]; simp_all; done))
 have hg9 := g9
 try simp only [KF] at g9
 refine Av1 3 22 [(21, .int .i64 k), (20, .sl 2 (l.map mkc))] (congrArg AV.pat (mg_mk l k (by omega))) ((2 = 2 /\ (0 : Int) <= (k : Int) /\ (k : Int) < ((l.map mkc).length : Int)) /\ ·) ⟨⟨rfl, by omega, by rw [List.length_map]; omega⟩, An1 3 [(25, .bool ((l.getD k default).sub)), (24, .bool ((l.getD k default).sub)), (23, .pat [.bool ((l.getD k default).sub)])] (((1 : Nat) ≠ 0) /\ (1 <= 1 /\ 0 < 1) /\ ·) ⟨(by decide), (by decide), run_b (fun g10 => ?_) (fun g10 => ?_)⟩⟩
 have hg10 := g10
 try simp only [KF] at g10
 refine Av1 4 29 [(28, .int .i64 k), (27, .sl 2 (l.map mkc)), (26, pth p)] (congrArg AV.pat (mg_mk l k (by omega))) ((2 = 2 /\ (0 : Int) <= (k : Int) /\ (k : Int) < ((l.map mkc).length : Int)) /\ ·) ⟨⟨rfl, by omega, by rw [List.length_map]; omega⟩, Bc1 3 [(31, pth ((l.getD k default).path)), (30, .pat (mkc (l.getD k default)))] 25 [pth p, pth ((l.getD k default).path)] 32 (((1 : Nat) ≠ 0) /\ (1 <= 2 /\ 0 < 2) /\ ·) ⟨(by decide), (by decide), PE.use (wtHead_ok p ((l.getD k default).path) (by omega) (by omega)) (Ke (Mn0 (((l.getD k default).path).isPrefixOf p) (by first | (simp_all; done) | (rw [Bool.eq_iff_iff]; simp_all; done))))⟩⟩
 have hg10 := g10
 try simp only [KF] at g10
 refine Mn0 false (by first | (simp_all; done) | (rw [Bool.eq_iff_iff]; simp_all; done))
 refine Cc ((l.getD k default).path == p || ((l.getD k default).sub && (l.getD k default).path.isPrefixOf p)) (fun hc11 c11 => ?_) fun hc11 c11 => ?_
 try simp only [KF] at c11
 refine Rr (Fn0 [] [(4, .bool true)] (Rt (.bool true) (fin_lea ?_)))
 rw [List.any_eq_true.2 ⟨_, getD_mem l k default (by omega), hc11⟩]; exact lea_refl _
 try simp only [KF] at c11
 refine Sk (Bn (Jn (hK7 (Kp [0, 1, 5] (Rn (Av1 2 11 [(10, .int .i64 k)] (congrArg (AV.int .i64) (wn1 k (by omega))) (Ki /\ ·) ⟨rfl, Gn0 [(5, .int .i64 ((k + 1 : Nat) : Int))] (nk_n ?_)⟩))))))
 refine Lr (k + 1) [] 0 [(0, .sl 2 (l.map mkc)), (1, pth p), (5, .int .i64 ((k + 1 : Nat) : Int))] [] [] ?_ ?_ (by kernel_rfl) (by kernel_rfl)
 (try dsimp only); omega
 refine ⟨?_, rfl⟩; (try dsimp only); exact ⟨by omega, by rw [take_snoc l k default (by omega), List.any_append, hi2, Bool.false_or, List.any_cons, List.any_nil, Bool.or_false]; exact hc11⟩
 try simp only [KF] at c6
 refine Xt (Jx (Lx (Bh (Jn (hK2 (Kp [] (Rr (Fn0 [] [(4, .bool false)] (Rt (.bool false) (fin_lea ?_))))))))))
 obtain rfl : k = l.length := by omega
 rw [List.take_length] at hi2; rw [hi2]; exact lea_refl _
open Go Go.Proofs
set_option maxRecDepth 100000
def aDo (t : Tr) (c : Cl) : Tr × Int :=
  bif !callOk c then (t, 2) else bif !decide ((iDo t c).2 = (0 : Int)) then (t, (iDo t c).2) else bif !treeOk (iDo t c).1 then (t, 6) else ((iDo t c).1, 0)
def iTreeDo (t : Tr) (c : Cl) : Tr × Int := bif !treeOk t then (.none, 1) else aDo t c
set_option maxHeartbeats 2000000 in
theorem after_ok (t : Tr) (c : Cl) (hto : treeOk t = true) (h1 : wS c.path < 2 ^ 40) (h2 : wS c.to < 2 ^ 40) (h3 : c.data.length < 2 ^ 20) : PE G 18 [.agg (tcs t), .agg (clc c)] (.tup [.agg (tcs (aDo t c).1), .int .i64 (aDo t c).2]) := by
 have hl1 := wS_len c.path; have hl2 := wS_len c.to; have hWT := W_ok hto
 refine Pe Tryz.func18 ?_
 refine Rr (Fn2 [] [(4, .ptr 8 0), (3, .ptr 4 0), (2, .ptr 0 0)] ((8, zt) :: (4, clc c) :: (0, tcs t) :: []) 12 (Sq fun K2 hK2 => ?_))
 refine Rr (Pc1 2 [(8, .agg (clc c))] 9 (0 + 5 <= 5 /\ 0 < 5) (by decide) (isCall_ok c (by omega) (by omega)) (Cn0 (!(callOk c)) [2, 3, 4] [] ⟨fun hc4 c4 => ?_, fun hc4 c4 => ?_⟩))
 try simp only [KF] at c4
 refine Rr (Pc1 2 [(11, .agg (tcs t))] 12 (0 + 5 <= 5 /\ 0 < 5) (by decide) (clonep_ok _ t rfl (by omega)) (Fn3 [4] [(5, .int .i64 2)] ((8, tcs t) :: (4, clc c) :: (0, tcs t) :: []) 12 ((true = true /\ 5 = 5 /\ 0 + 5 <= 5) /\ ·) ⟨(by decide), Rt1 ((0 + 5 <= 5 /\ 0 < 5) /\ ·) (.tup [.agg (tcs t), .int .i64 2]) ⟨(by decide), ?_⟩⟩))
 have e : aDo t c = (t, 2) := by
   unfold aDo
   simp only [hc4, cond_true, cond_false]
 refine fin_lea ?_
 rw [e]; exact lea_refl _
 try simp only [KF] at c4
 refine Sk (Jn (hK2 (Kp [2, 3, 4] ?_)))
 have hco : callOk c = true := by simpa using hc4
 obtain ⟨f1, f2, f3, f4⟩ := callOk_facts hco
 refine Rr (Bc1 2 [(13, .agg (tcs t))] 41 [.agg (tcs t)] 14 ((0 + 5 <= 5 /\ 0 < 5) /\ ·) ⟨(by decide), TCall.mono (cl_use (View.refl _ _) (clone_ok _ t rfl (by omega))) ?_⟩)
 rintro _ H1 _ _ ⟨rfl, Tn, hH1, he, hs, ha, rfl⟩
 have hH2 : H1 = ((8, zt) :: (4, clc c) :: (0, tcs t) :: objs Tn) := by rw [hH1]; simp only [List.cons_append, List.nil_append]
 clear hH1; subst hH2
 refine Ke (Fn3 [2, 3, 4] [(6, .ptr 12 0)] ((12, otc Tn) :: (8, zt) :: (4, clc c) :: (0, tcs t) :: (objs Tn)) 16 ((true = true /\ 5 = 5 /\ 0 + 5 <= 5) /\ ·) ⟨(by decide), Sq fun K7 hK7 => ?_⟩)
 refine h_pm (H' := ((8, zt) :: (4, clc c) :: (0, tcs t) :: (12, otc Tn) :: (objs Tn))) (List.Perm.trans (List.Perm.cons _ (List.Perm.cons _ (List.Perm.swap _ _ _))) (List.Perm.trans (List.Perm.cons _ (List.Perm.swap _ _ _)) (List.Perm.swap _ _ _))) ?_
 refine h_k [2, 3, 4, 6] (F' := [(2, .ptr 0 0), (3, .ptr 4 0), (4, .ptr 8 0), (6, .ptr 12 0)]) (by kernel_rfl) ?_
 refine h_odd (H := [(8, zt), (4, clc c), (0, tcs t), (12, otc Tn)]) 12 (fun jr => [(2, .ptr 0 0), (3, .ptr 4 0), (4, .ptr 8 0), (6, .ptr (2 * jr + 1) 0)]) (fun jr => [(8, zt), (4, clc c), (0, tcs t), ((2 * jr + 1), otc Tn)]) (by kernel_rfl) (odH_objs Tn) (fun jr => ⟨by simp only [slF, slp, slps, go_sem, and_self], by kernel_rfl⟩) (fun jr => ⟨rfl, .inr ⟨by simp only [tcs, slps, slp, go_sem, and_self], by kernel_rfl⟩, rfl, .inr ⟨by simp only [tcs, slps, slp, go_sem, and_self], by kernel_rfl⟩, rfl, .inr ⟨by simp only [tcs, slps, slp, go_sem, and_self], by kernel_rfl⟩, rfl, .inl ⟨ods_otc _, rfl⟩, trivial⟩) (fun jr => ?_)
 refine Rr (Bc1 2 [(15, .agg (clc c))] 42 [.ptr (2 * jr + 1) 0, .agg (clc c)] 16 ((0 + 5 <= 5 /\ 0 < 5) /\ ·) ⟨(by decide), ?_⟩)
 have hL : Lies ((2 * jr + 1, otc Tn) :: objs Tn) (2 * jr + 1) [] [] Tn [] := ⟨⟨by omega, ods_otc Tn, odH_objs Tn⟩, by omega, by simp, by unfold owf; rw [he]; exact wf_ok hto, hs, osm_W Tn (by rw [he]; omega)⟩
 refine DC.use (do_ok (A0 := []) (B0 := []) c hL ha (by rw [he]; exact hto) f1 f2 f3 f4 h3) [(8, zt), (4, clc c), (0, tcs t)] rfl ⟨rfl, ⟨rfl, ⟨rfl, trivial⟩⟩⟩ ?_
 rintro _ Z1 ⟨T1, W1, rfl, hZ1, he1, hs1⟩
 rw [he] at he1 ⊢
 have hWi := W_iDo (c := c) hWT f2 f3 (fun h => (f4 h).2)
 refine Ke (Fn0 [2, 4, 6] [(7, .int .i64 ((iDo t c).2))] (Rr (Cn1 (!decide (((iDo t c).2 : Int) = (0 : Int))) [2, 4, 6, 7] [] (Ki /\ ·) ⟨rfl, fun hc10 c10 => ?_, fun hc10 c10 => ?_⟩)))
 try simp only [KF] at c10
 refine Rr (Pc1 2 [(19, .agg (tcs t))] 20 (0 + 5 <= 5 /\ 0 < 5) (by decide) (clonep_ok _ t rfl (by omega)) (Fn3 [4] [(5, .int .i64 ((iDo t c).2))] ((8, tcs t) :: (4, clc c) :: (0, tcs t) :: Z1) 16 ((true = true /\ 5 = 5 /\ 0 + 5 <= 5) /\ ·) ⟨(by decide), Rt1 ((0 + 5 <= 5 /\ 0 < 5) /\ ·) (.tup [.agg (tcs t), .int .i64 ((iDo t c).2)]) ⟨(by decide), ?_⟩⟩))
 have e : aDo t c = (t, (iDo t c).2) := by
   unfold aDo
   simp only [hc4, hc10, cond_true, cond_false]
 refine fin_lea ?_
 rw [e]; exact lea_refl _
 try simp only [KF] at c10
 refine Sk (Jn (hK7 (Kp [2, 4, 6] (Sq fun K12 hK12 => ?_))))
 refine h_k [6, 2, 4] (F' := [(6, .ptr (2 * jr + 1) 0), (2, .ptr 0 0), (4, .ptr 8 0)]) (by kernel_rfl) ?_
 refine h_dfz (k := 6) (H' := [(8, zt), (4, clc c), (0, tcs t)]) (Z := Z1) hZ1.1 hs1 ?_
 rw [he1]
 refine Rr (Pc1 2 [(22, .agg (tcs ((iDo t c).1)))] 23 (5 <= 5 /\ 0 < 5) (by decide) (TreeOk_ok ((iDo t c).1) (by omega)) (Cn0 (!(treeOk ((iDo t c).1))) [2, 4, 6] [] ⟨fun hc14 c14 => ?_, fun hc14 c14 => ?_⟩))
 try simp only [KF] at c14
 refine Rr (Pc1 2 [(25, .agg (tcs t))] 26 (0 + 5 <= 5 /\ 0 < 5) (by decide) (clonep_ok _ t rfl (by omega)) (Fn3 [4] [(5, .int .i64 6)] [(8, tcs t), (4, clc c), (0, tcs t)] 16 ((true = true /\ 5 = 5 /\ 0 + 5 <= 5) /\ ·) ⟨(by decide), Rt1 ((0 + 5 <= 5 /\ 0 < 5) /\ ·) (.tup [.agg (tcs t), .int .i64 6]) ⟨(by decide), ?_⟩⟩))
 have e : aDo t c = (t, 6) := by
   unfold aDo
   simp only [hc4, hc10, hc14, cond_true, cond_false]
 refine fin_lea ?_
 rw [e]; exact lea_refl _
 try simp only [KF] at c14
 refine Sk (Jn (hK12 (Kp [4, 6] (Rr (Pc1 2 [(27, .agg (tcs ((iDo t c).1)))] 28 (5 <= 5 /\ 0 < 5) (by decide) (clonep_ok _ ((iDo t c).1) rfl (by omega)) (Fn3 [4] [(5, .int .i64 0)] [(8, tcs ((iDo t c).1)), (4, clc c), (0, tcs t)] 16 ((true = true /\ 5 = 5 /\ 0 + 5 <= 5) /\ ·) ⟨(by decide), Rt1 ((0 + 5 <= 5 /\ 0 < 5) /\ ·) (.tup [.agg (tcs ((iDo t c).1)), .int .i64 0]) ⟨(by decide), ?_⟩⟩))))))
 have e : aDo t c = (((iDo t c).1), 0) := by
   unfold aDo
   simp only [hc4, hc10, hc14, cond_true, cond_false]
 refine fin_lea ?_
 rw [e]; exact lea_refl _
set_option maxRecDepth 100000
theorem wrt_l2w {s d : Str} {a : Int} (h : 0 <= a) : wrt s a d = l2w s a.toNat d := by
 obtain ⟨k, rfl⟩ := Int.eq_ofNat_of_zero_le h
 simp only [wrt, l2w, szd, Int.toNat_natCast]
 by_cases h1 : ((s.length : Nat) : Int) < ((k : Nat) : Int)
 ·rw [if_pos h1, if_neg (show ¬ ((k : Nat) : Int) <= ((s.length : Nat) : Int) by omega)]
  have e1 : (s ++ List.replicate (((k : Nat) : Int) - ((s.length : Nat) : Int)).toNat (0 : UInt8)).take k = s ++ List.replicate (k - s.length) 0 := by
   rw [List.take_of_length_le (by simp; omega)]
   congr 2; omega
  have e2 : (s ++ List.replicate (k + d.length - s.length) (0 : UInt8)).take k = s ++ List.replicate (k - s.length) 0 := by
   rw [List.take_append, List.take_of_length_le (by omega), List.take_replicate]
   congr 2; omega
  rw [e1, e2, if_neg (by simp; omega), List.drop_eq_nil_of_le (by simp; omega), List.append_nil]
 ·rw [if_neg h1]
  by_cases h2 : k + d.length < s.length
  ·rw [if_pos (by simp; omega), show k + d.length - s.length = 0 by omega, List.replicate_zero, List.append_nil]
   congr 2
   simp; omega
  ·rw [if_neg (by simp; omega), List.drop_eq_nil_of_le (by simp; omega), List.append_nil, List.take_append_of_le_length (by omega)]
theorem szd_l2w {s : Str} {a : Int} (h : 0 <= a) : l2w (bif decide (a < ((s.length : Nat) : Int)) then s.take a.toNat else s) a.toNat [] = szd s a := by
 have key : ∀ (u : Str) (k : Nat), l2w u k [] = u ++ List.replicate (k - u.length) 0 := fun u k => by
  simp only [l2w, List.length_nil, Nat.add_zero, List.append_nil, List.take_append_drop]
 rw [key]
 unfold szd
 by_cases h1 : a < ((s.length : Nat) : Int)
 ·rw [decide_eq_true h1, cond_true, if_pos (by omega), show a.toNat - (s.take a.toNat).length = 0 by simp; omega]
  simp
 ·rw [decide_eq_false h1, cond_false]
  by_cases h2 : a <= ((s.length : Nat) : Int)
  ·rw [if_pos h2, show a.toNat - s.length = 0 by omega, List.take_of_length_le (by omega)]; simp
  ·rw [if_neg h2]; congr 2; omega
def ents (t : Tr) : List (Str × Tr) := t.names.zip t.kids
def mkE (t : Tr) (l : List (Str × Tr)) : Tr := .mk t.dir t.mode t.data (l.map (·.1)) (l.map (·.2))
theorem ents_mkE (t : Tr) (l : List (Str × Tr)) : ents (mkE t l) = l := by
 simp only [ents, mkE, Tr.names_mk, Tr.kids_mk]
 induction l with
 | nil => rfl
 | cons e l ih => simp only [List.map_cons, List.zip_cons_cons, ih]
theorem mkE_mkE (t : Tr) (l m : List (Str × Tr)) : mkE (mkE t l) m = mkE t m := rfl
theorem mkE_len (t : Tr) (l : List (Str × Tr)) : (mkE t l).names.length = (mkE t l).kids.length := by simp [mkE]
def insE (nm : Str) (x : Tr) : List (Str × Tr) -> List (Str × Tr)
 | [] => [(nm, x)]
 | e :: l => if blt e.1 nm then e :: insE nm x l else (nm, x) :: e :: l
theorem fA5 {nm : Str} {x : Tr} {r : Tr -> Tr} : ∀ (l : List (Str × Tr)) (a : List Str) (b : List Tr), l.foldl (sstp nm true true x r) (a, b, false) = (a ++ (l.filter fun e => !(e.1 == nm)).map (·.1), b ++ (l.filter fun e => !(e.1 == nm)).map (·.2), false)
 | [], a, b => by simp
 | e :: l, a, b => by
  cases h : e.1 == nm with
  | true =>
   have e1 : sstp nm true true x r (a, b, false) e = (a, b, false) := by simp [sstp, h]
   rw [List.foldl_cons, e1, fA5 l, List.filter_cons, h]; rfl
  | false =>
   have e1 : sstp nm true true x r (a, b, false) e = (a ++ [e.1], b ++ [e.2], false) := by simp [sstp, h]
   rw [List.foldl_cons, e1, fA5 l, List.filter_cons, h]; simp
theorem fA6 {nm : Str} {x : Tr} {r : Tr -> Tr} {t : Tr} : ∀ (l : List (Str × Tr)) (a : List Str) (b : List Tr), (∀ e ∈ l, e.1 ≠ nm) -> sE nm true false x t (l.foldl (sstp nm true false x r) (a, b, false)) = .mk t.dir t.mode t.data (a ++ (insE nm x l).map (·.1)) (b ++ (insE nm x l).map (·.2))
 | [], a, b, _ => by simp [sE, insE]
 | e :: l, a, b, h => by
  have h2 : (e.1 == nm) = false := by simpa using h e (by simp)
  cases hb : blt e.1 nm with
  | true =>
   have e1 : sstp nm true false x r (a, b, false) e = (a ++ [e.1], b ++ [e.2], false) := by simp [sstp, h2, hb]
   rw [List.foldl_cons, e1, fA6 l _ _ fun e' he => h e' (by simp [he]), insE, if_pos hb]; simp
  | false =>
   have e1 : sstp nm true false x r (a, b, false) e = (a ++ [nm] ++ [e.1], b ++ [x] ++ [e.2], true) := by simp [sstp, h2, hb]
   rw [List.foldl_cons, e1, fA2 l _ _ fun e' he => h e' (by simp [he]), insE, if_neg (by rw [hb]; simp)]
   simp [sE]
theorem tsE_gone (t x : Tr) (nm : Str) : tset [nm] t x true = mkE t ((ents t).filter fun e => !(e.1 == nm)) := by
 rw [tset, sA_all, List.isEmpty_nil, fA5]
 simp [sE, mkE, ents]
theorem tsE_new (t x : Tr) (nm : Str) (h : ∀ e ∈ ents t, e.1 ≠ nm) : tset [nm] t x false = mkE t (insE nm x (ents t)) := by
 rw [tset, sA_all, List.isEmpty_nil, show t.names.zip t.kids = ents t from rfl, fA6 _ _ _ h]
 simp [mkE, ents]
theorem tsE_deep (t x : Tr) (n : Str) (p : List Str) (g : Bool) (hp : p ≠ []) : tset (n :: p) t x g = mkE t ((ents t).map fun e => (e.1, bif e.1 == n then tset p e.2 x g else e.2)) := by
 have hpe : p.isEmpty = false := by cases p with | nil => exact absurd rfl hp | cons _ _ => rfl
 rw [tset, sA_all, hpe, fA4]
 simp only [sE, Bool.false_and, cond_false, List.nil_append, mkE, ents, List.map_map]
 rfl
theorem ins_map {nm n : Str} {x : Tr} (f : Tr -> Tr) (hne : nm ≠ n) : ∀ l : List (Str × Tr), insE nm x (l.map fun e => (e.1, bif e.1 == n then f e.2 else e.2)) = (insE nm x l).map fun e => (e.1, bif e.1 == n then f e.2 else e.2)
 | [] => by
  have : (nm == n) = false := by simpa using hne
  simp [insE, this]
 | e :: l => by
  have : (nm == n) = false := by simpa using hne
  simp only [List.map_cons, insE]
  split
  ·rw [List.map_cons, ins_map f hne l]
  ·simp only [List.map_cons, this, cond_false]
theorem ins_flt {nm n : Str} {x : Tr} (hne : nm ≠ n) : ∀ l : List (Str × Tr), asc (l.map (·.1)) = true -> insE nm x (l.filter fun e => !(e.1 == n)) = (insE nm x l).filter fun e => !(e.1 == n)
 | [], _ => by
  have : (nm == n) = false := by simpa using hne
  simp [insE, this]
 | e :: l, h => by
  have hnm : (nm == n) = false := by simpa using hne
  have hl : asc (l.map (·.1)) = true := by
   cases l with
   | nil => rfl
   | cons e' l => simp only [List.map_cons, asc, Bool.and_eq_true] at h ⊢; exact h.2
  have hgt : ∀ e' ∈ l, blt e.1 e'.1 = true := by
   intro e' he
   obtain ⟨i, hi, rfl⟩ := List.mem_iff_getElem.1 he
   have := asc_lt h (show 0 < i + 1 by omega) (by simp; omega)
   simpa [List.getD, hi] using this
  cases hb : blt e.1 nm with
  | true =>
   rw [insE, if_pos hb, List.filter_cons, List.filter_cons]
   split
   ·rw [insE, if_pos hb, ins_flt hne l hl]
   ·exact ins_flt hne l hl
  | false =>
   rw [insE, if_neg (by rw [hb]; simp)]
   have hc : ∀ m : List (Str × Tr), (∀ e' ∈ m, blt e'.1 nm = false) -> insE nm x m = (nm, x) :: m := by
    intro m hm
    cases m with
    | nil => rfl
    | cons e' m => rw [insE, if_neg (by rw [hm e' (by simp)]; simp)]
   rw [hc _ (fun e' he => by
    have he := (List.mem_filter.1 he).1
    rcases List.mem_cons.1 he with rfl | he
    ·exact hb
    ·cases hx : blt e'.1 nm with
     | false => rfl
     | true => rw [blt_trans (hgt e' he) hx] at hb; cases hb)]
   rw [List.filter_cons (x := (nm, x))]
   simp only [hnm, Bool.not_false, if_true]
theorem tat_mem {t : Tr} {n : Str} {p : List Str} (h : tat t (n :: p) = none) (hp : p = []) : ∀ e ∈ ents t, e.1 ≠ n := by
 intro e he hn
 subst hp
 rw [tat_cons] at h
 cases hf : fnd n t.names with
 | none => exact fnd_none hf (hn ▸ (List.of_mem_zip he).1)
 | some k => rw [hf] at h; simp [tat] at h
theorem asc_ents {t : Tr} (hw : t.wf = true) (h : asc t.names = true) : asc ((ents t).map (·.1)) = true := by
 rw [show (ents t).map (·.1) = t.names from (zip_f t (wf_len hw)).1]; exact h
mutual
def tas : Tr -> Prop | .mk _ _ _ ns ks => asc ns = true /\ tass ks
def tass : List Tr -> Prop | [] => True | t :: ts => tas t /\ tass ts
end
theorem tas_eq (t : Tr) : tas t ↔ asc t.names = true /\ tass t.kids := by cases t; simp only [tas, Tr.names, Tr.kids]
theorem tass_mem : ∀ {ks : List Tr}, tass ks -> ∀ {x : Tr}, x ∈ ks -> tas x
 | [], _, x, hx => by simp at hx
 | t :: ts, h, x, hx => by
  rcases List.mem_cons.1 hx with rfl | hx
  ·exact h.1
  ·exact tass_mem h.2 hx
mutual
theorem tas_parts : ∀ (t : Tr) (n : Int), partsOk t n = true -> tas t
 | .mk d m s ns ks, n, h => by
  simp only [partsOk, Bool.and_eq_true] at h
  refine ⟨?_, tass_parts ks (n + 1) h.2.2⟩
  have h1 := h.1
  simp only [plainOk, Tr.names_mk, Tr.kids_mk, Tr.dir_mk, Tr.data_mk, Bool.and_eq_true, decide_eq_true_eq] at h1
  have h7 := h1.2.2
  cases d with
  | true => simp only [if_true, Bool.and_eq_true] at h7; exact h7.2.1
  | false =>
   simp only [Bool.false_eq_true, if_false, Bool.and_eq_true] at h7
   have h8 : ns = [] := List.eq_nil_of_length_eq_zero (of_decide_eq_true h7.2)
   subst h8; rfl
theorem tass_parts : ∀ (ks : List Tr) (n : Int), partsOks ks n = true -> tass ks
 | [], _, _ => trivial
 | k :: ks, n, h => by
  simp only [partsOks, Bool.and_eq_true] at h
  exact ⟨tas_parts k n h.1, tass_parts ks n h.2⟩
end
theorem ent_fnd {t : Tr} {n : Str} (hw : t.wf = true) (hn : t.names.Nodup) {e : Str × Tr} (he : e ∈ ents t) (h : e.1 = n) (p : List Str) : tat t (n :: p) = tat e.2 p := by
 obtain ⟨i, hi, rfl⟩ := List.mem_iff_getElem.1 he
 have hwl := wf_len hw
 simp only [ents, List.length_zip] at hi
 simp only [ents, List.getElem_zip] at h ⊢
 rw [tat_cons]
 cases hf : fnd n t.names with
 | none => exact absurd (h ▸ List.getElem_mem _) (fnd_none hf)
 | some k =>
  have hk := fnd_lt hf
  have hg := fnd_some hf
  have : k = i := by
   rcases Nat.decEq k i with hne | heq
   ·refine absurd ?_ (nd_ne hn hk (show i < t.names.length by omega) hne)
    rw [hg, <- h]
    simp [List.getD, show i < t.names.length by omega]
   ·exact heq
  subst this
  dsimp only
  congr 1
  simp [List.getD, show k < t.kids.length by omega]
theorem swap_ok {x : Tr} : ∀ (p q : List Str) (t : Tr), t.wf = true -> tas t -> tnd t -> p ≠ [] -> q ≠ [] -> (tat t p).isSome = true -> tat t q = none -> p.isPrefixOf q = false -> tset q (tset p t .none true) x false = tset p (tset q t x false) .none true
 | [], _, _, _, _, _, h, _, _, _, _ => absurd rfl h
 | _, [], _, _, _, _, _, h, _, _, _ => absurd rfl h
 | [n], [m], t, hw, ha, hn, _, _, hp, hq, hx => by
  have hne : m ≠ n := by rintro rfl; simp [List.isPrefixOf] at hx
  have h1 := tat_mem hq rfl
  rw [tsE_gone, tsE_new t x m h1, tsE_new _ x m (by rw [ents_mkE]; exact fun e he => h1 e (List.mem_filter.1 he).1), tsE_gone, ents_mkE, ents_mkE, mkE_mkE, mkE_mkE, ins_flt hne _ (asc_ents hw ((tas_eq t).1 ha).1)]
 | [n], m :: m2 :: q, t, hw, ha, hn, _, _, hp, hq, hx => by
  have hne : n ≠ m := by rintro rfl; simp [List.isPrefixOf] at hx
  rw [tsE_gone, tsE_deep _ _ m _ _ (by simp), tsE_deep _ _ m _ _ (by simp), tsE_gone, ents_mkE, ents_mkE, mkE_mkE, mkE_mkE]
  congr 1
  rw [List.filter_map]
  rfl
 | n :: n2 :: p, [m], t, hw, ha, hn, _, _, hp, hq, hx => by
  have h1 := tat_mem hq rfl
  have hne : m ≠ n := by
   rintro rfl
   rw [tat_cons] at hp
   cases hf : fnd m t.names with
   | none => rw [hf] at hp; simp at hp
   | some k => rw [tat_cons, hf] at hq; simp [tat] at hq
  rw [tsE_deep _ _ n _ _ (by simp), tsE_new t x m h1, tsE_new _ x m (by
   rw [ents_mkE]
   intro e he
   obtain ⟨e', he', rfl⟩ := List.mem_map.1 he
   exact h1 e' he'), tsE_deep _ _ n _ _ (by simp), ents_mkE, ents_mkE, mkE_mkE, mkE_mkE]
  rw [ins_map (fun k => tset (n2 :: p) k .none true) hne]
 | n :: n2 :: p, m :: m2 :: q, t, hw, ha, hn, _, _, hp, hq, hx => by
  rw [tsE_deep _ _ n _ _ (by simp), tsE_deep _ _ m _ _ (by simp), tsE_deep _ _ m _ _ (by simp), tsE_deep _ _ n _ _ (by simp), ents_mkE, ents_mkE, mkE_mkE, mkE_mkE]
  congr 1
  rw [List.map_map, List.map_map]
  refine List.map_congr_left fun e he => ?_
  simp only [Function.comp]
  congr 1
  cases h1 : e.1 == n <;> cases h2 : e.1 == m <;> simp only [cond_true, cond_false]
  have e1 := eq_of_beq h1
  have e2 := eq_of_beq h2
  have hnm : n = m := by rw [<- e1, <- e2]
  subst hnm
  have hk : e.2 ∈ t.kids := (List.of_mem_zip he).2
  have hwk : e.2.wf = true := by
   have := hw
   rw [wf_eq] at this
   simp only [Bool.and_eq_true, List.all_eq_true] at this
   exact this.2 _ hk
  have hnk : tnd e.2 := by
   obtain ⟨i, hi, h⟩ := List.mem_iff_getElem.1 hk
   have := tnds_get ((tnd_eq t).1 hn).2 hi
   rw [<- h]
   simpa [List.getD, hi] using this
  have hs := swap_ok (x := x) (n2 :: p) (m2 :: q) e.2 hwk (tass_mem ((tas_eq t).1 ha).2 hk) hnk (by simp) (by simp) (by rw [<- ent_fnd hw ((tnd_eq t).1 hn).1 he e1]; exact hp) (by rw [<- ent_fnd hw ((tnd_eq t).1 hn).1 he e1]; exact hq) (by simpa [List.isPrefixOf] using hx)
  exact hs
set_option maxRecDepth 100000
theorem asc_pw {l : List Str} (h : asc l = true) : l.Pairwise fun a b => blt a b = true := by
 refine List.pairwise_iff_getElem.2 fun i j hi hj hij => ?_
 have := asc_lt h hij hj
 simpa [List.getD, hi, hj] using this
theorem asc_of_pw : ∀ {l : List Str}, (l.Pairwise fun a b => blt a b = true) -> asc l = true
 | [], _ => rfl
 | [a], _ => rfl
 | a :: b :: r, h => by
  rw [asc, Bool.and_eq_true]
  have h1 := List.pairwise_cons.1 h
  exact ⟨h1.1 b (by simp), asc_of_pw h1.2⟩
theorem parts_mkE {t : Tr} {n : Int} {l : List (Str × Tr)} (h : partsOk t n = true) (hn : (l.map (·.1)).Sublist t.names) (hk : ∀ e ∈ l, partsOk e.2 (n + 1) = true) : partsOk (mkE t l) n = true := by
 rw [partsOk_eq] at h ⊢
 simp only [Bool.and_eq_true] at h ⊢
 refine ⟨?_, h.2.1, ?_⟩
 ·have h1 := h.1
  simp only [plainOk, Bool.and_eq_true, decide_eq_true_eq] at h1 ⊢
  refine ⟨h1.1, mkE_len t l, ?_⟩
  have h7 := h1.2.2
  show (if t.dir then (l.map (·.1)).all nmOk && (asc (l.map (·.1)) && t.data == []) else decide (t.data.length <= 24) && decide ((l.map (·.1)).length = 0)) = true
  cases hd : t.dir with
  | true =>
   rw [hd] at h7
   simp only [if_true, Bool.and_eq_true] at h7 ⊢
   exact ⟨List.all_eq_true.2 fun x hx => List.all_eq_true.1 h7.1 x (hn.subset hx), asc_of_pw ((asc_pw h7.2.1).sublist hn), h7.2.2⟩
  | false =>
   rw [hd] at h7
   simp only [Bool.false_eq_true, if_false, Bool.and_eq_true] at h7 ⊢
   have h8 := of_decide_eq_true h7.2
   have := hn.length_le
   exact ⟨h7.1, decide_eq_true (by omega)⟩
 ·refine List.all_eq_true.2 fun x hx => ?_
  obtain ⟨e, he, rfl⟩ := List.mem_map.1 hx
  exact hk e he
theorem ents_f {t : Tr} (hl : t.names.length = t.kids.length) : (ents t).map (·.1) = t.names /\ (ents t).map (·.2) = t.kids := zip_f t hl
theorem parts_len {t : Tr} {n : Int} (h : partsOk t n = true) : t.names.length = t.kids.length := by
 rw [partsOk_eq] at h
 simp only [Bool.and_eq_true] at h
 have h1 := h.1
 simp only [plainOk, Bool.and_eq_true, decide_eq_true_eq] at h1
 exact h1.2.1
theorem parts_kid {t : Tr} {n : Int} (h : partsOk t n = true) {x : Tr} (hx : x ∈ t.kids) : partsOk x (n + 1) = true := by
 rw [partsOk_eq] at h
 simp only [Bool.and_eq_true] at h
 exact List.all_eq_true.1 h.2.2 x hx
theorem cnts_map {α : Type} (g f : α -> Tr) : ∀ (l : List α), (∀ e ∈ l, cnt (g e) <= cnt (f e)) -> cnts (l.map g) <= cnts (l.map f)
 | [], _ => by simp
 | e :: l, h => by
  have := cnts_map g f l fun e he => h e (by simp [he])
  have := h e (by simp)
  simp only [List.map_cons, cnts]; omega
theorem cnts_flt (q : Str × Tr -> Bool) : ∀ (l : List (Str × Tr)), cnts ((l.filter q).map (·.2)) <= cnts (l.map (·.2))
 | [] => by simp
 | e :: l => by
  have := cnts_flt q l
  rw [List.filter_cons]
  split <;> simp only [List.map_cons, cnts] <;> omega
theorem gone_parts : ∀ (p : List Str) (t : Tr) (n : Int), partsOk t n = true -> p ≠ [] -> partsOk (tset p t .none true) n = true /\ cnt (tset p t .none true) <= cnt t /\ (tset p t .none true).dir = t.dir
 | [], _, _, _, h => absurd rfl h
 | [nm], t, n, h, _ => by
  obtain ⟨z1, z2⟩ := ents_f (parts_len h)
  rw [tsE_gone]
  refine ⟨parts_mkE h ?_ fun e he => parts_kid h (List.of_mem_zip (List.mem_filter.1 he).1).2, ?_, rfl⟩
  ·conv => rhs; rw [<- z1]
   exact List.filter_sublist.map _
  ·rw [cnt_eq, cnt_eq]
   conv => rhs; rw [<- z2]
   exact cnts_flt _ _
 | m :: m2 :: p, t, n, h, _ => by
  obtain ⟨z1, z2⟩ := ents_f (parts_len h)
  rw [tsE_deep _ _ _ _ _ (by simp)]
  refine ⟨parts_mkE h ?_ fun e he => ?_, ?_, rfl⟩
  ·rw [List.map_map]
   exact (z1 ▸ List.Sublist.refl _ : ((ents t).map (·.1)).Sublist t.names)
  ·obtain ⟨e', he', rfl⟩ := List.mem_map.1 he
   have hk := parts_kid h (List.of_mem_zip he').2
   dsimp only
   cases e'.1 == m
   ·exact hk
   ·exact (gone_parts (m2 :: p) e'.2 (n + 1) hk (by simp)).1
  ·rw [cnt_eq, cnt_eq]
   conv => rhs; rw [<- z2]
   show cnts (((ents t).map _).map _) <= _
   rw [List.map_map]
   refine cnts_map _ _ _ fun e' he' => ?_
   have hk := parts_kid h (List.of_mem_zip he').2
   simp only [Function.comp]
   cases e'.1 == m
   ·exact Nat.le_refl _
   ·exact (gone_parts (m2 :: p) e'.2 (n + 1) hk (by simp)).2.1
theorem gone_ok {t : Tr} {p : List Str} (h : treeOk t = true) (hp : p ≠ []) : treeOk (tset p t .none true) = true := by
 simp only [treeOk, Bool.and_eq_true, decide_eq_true_eq] at h ⊢
 obtain ⟨h1, h2, h3⟩ := gone_parts p t 0 h.2.1 hp
 exact ⟨by rw [h3]; exact h.1, h1, by omega⟩
theorem mode_parts {m : Int} (hm : inb m 0 7 = true) : ∀ (p : List Str) (t x : Tr) (n : Int), partsOk t n = true -> t.wf = true -> tnd t -> p ≠ [] -> tat t p = some x -> partsOk (tset p t (wMode x m) false) n = true /\ cnt (tset p t (wMode x m) false) <= cnt t /\ (tset p t (wMode x m) false).dir = t.dir
 | [], _, _, _, _, _, _, h, _ => absurd rfl h
 | [nm], t, x, n, h, hw, hn, _, hx => by
  have hl := parts_len h
  obtain ⟨z1, z2⟩ := ents_f hl
  rw [tat_cons] at hx
  cases hf : fnd nm t.names with
  | none => rw [hf] at hx; cases hx
  | some k =>
   rw [hf] at hx
   simp only [tat, Option.some.injEq] at hx
   have hk := fnd_lt hf
   have ha := (tas_eq t).1 (tas_parts t n h)
   rw [tset_hit hl ha.1 hk (fnd_some hf)]
   have hxk : x ∈ t.kids := by rw [<- hx]; exact getD_mem t.kids k Tr.none (by omega)
   have hpx := parts_kid h hxk
   have hpm : partsOk (wMode x m) (n + 1) = true := by
    rw [partsOk_eq] at hpx ⊢
    simp only [plainOk, wMode, Tr.mode_mk, Tr.names_mk, Tr.kids_mk, Tr.dir_mk, Tr.data_mk, Bool.and_eq_true] at hpx ⊢
    exact ⟨⟨hm, hpx.1.2⟩, hpx.2⟩
   have hc : cnt (wMode x m) = cnt x := by rw [cnt_eq, cnt_eq]; rfl
   have hs : t.kids.set k (wMode x m) = t.kids.take k ++ wMode x m :: t.kids.drop (k + 1) := set_split _ _ (by omega) _
   have hg : t.kids = t.kids.take k ++ x :: t.kids.drop (k + 1) := by
    have := get_split t.kids k (by omega) Tr.none
    rw [hx] at this; exact this
   refine ⟨?_, ?_, rfl⟩
   ·rw [partsOk_eq] at h ⊢
    simp only [Bool.and_eq_true, Tr.kids_mk] at h ⊢
    refine ⟨?_, h.2.1, List.all_eq_true.2 fun y hy => ?_⟩
    ·have h1 := h.1
     simp only [plainOk, Tr.mode_mk, Tr.names_mk, Tr.kids_mk, Tr.dir_mk, Tr.data_mk, List.length_set] at h1 ⊢
     exact h1
    ·rcases List.mem_or_eq_of_mem_set hy with hy | rfl
     ·exact List.all_eq_true.1 h.2.2 y hy
     ·exact hpm
   ·rw [cnt_eq, cnt_eq, Tr.kids_mk, hs]
    conv => rhs; rw [hg]
    have happ : ∀ (a b : List Tr), cnts (a ++ b) = cnts a + cnts b := by
     intro a b
     induction a with
     | nil => simp [cnts]
     | cons y a ih => simp only [List.cons_append, cnts, ih]; omega
    rw [happ, happ]
    simp only [cnts, hc]
    exact Nat.le_refl _
 | n' :: m2 :: p, t, x, n, h, hw, hn, _, hx => by
  obtain ⟨z1, z2⟩ := ents_f (parts_len h)
  rw [tsE_deep _ _ _ _ _ (by simp)]
  have key : ∀ e' ∈ ents t, (e'.1 == n') = true -> partsOk (tset (m2 :: p) e'.2 (wMode x m) false) (n + 1) = true /\ cnt (tset (m2 :: p) e'.2 (wMode x m) false) <= cnt e'.2 := by
   intro e' he' hb
   have hk := (List.of_mem_zip he').2
   have hwk : e'.2.wf = true := by
    have := hw
    rw [wf_eq] at this
    simp only [Bool.and_eq_true, List.all_eq_true] at this
    exact this.2 _ hk
   have hnk : tnd e'.2 := by
    obtain ⟨i, hi, h⟩ := List.mem_iff_getElem.1 hk
    have := tnds_get ((tnd_eq t).1 hn).2 hi
    rw [<- h]
    simpa [List.getD, hi] using this
   have := mode_parts hm (m2 :: p) e'.2 x (n + 1) (parts_kid h hk) hwk hnk (by simp) (by rw [<- ent_fnd hw ((tnd_eq t).1 hn).1 he' (eq_of_beq hb)]; exact hx)
   exact ⟨this.1, this.2.1⟩
  refine ⟨parts_mkE h ?_ fun e he => ?_, ?_, rfl⟩
  ·rw [List.map_map]
   exact (z1 ▸ List.Sublist.refl _ : ((ents t).map (·.1)).Sublist t.names)
  ·obtain ⟨e', he', rfl⟩ := List.mem_map.1 he
   dsimp only
   cases hb : e'.1 == n'
   ·exact parts_kid h (List.of_mem_zip he').2
   ·exact (key e' he' hb).1
  ·rw [cnt_eq, cnt_eq]
   conv => rhs; rw [<- z2]
   show cnts (((ents t).map _).map _) <= _
   rw [List.map_map]
   refine cnts_map _ _ _ fun e' he' => ?_
   simp only [Function.comp]
   cases hb : e'.1 == n'
   ·exact Nat.le_refl _
   ·exact (key e' he' hb).2
theorem mode_ok {t x : Tr} {p : List Str} {m : Int} (h : treeOk t = true) (hm : inb m 0 7 = true) (hp : p ≠ []) (hx : tat t p = some x) : treeOk (tset p t (wMode x m) false) = true := by
 have hw := wf_ok h
 have hn := tnd_ok h
 simp only [treeOk, Bool.and_eq_true, decide_eq_true_eq] at h ⊢
 obtain ⟨h1, h2, h3⟩ := mode_parts hm p t x 0 h.2.1 hw hn hp hx
 exact ⟨by rw [h3]; exact h.1, h1, by omega⟩
theorem file_names {t x : Tr} {p : List Str} (h : treeOk t = true) (hx : tat t p = some x) (hd : x.dir = false) : x.names.length = 0 := by
 simp only [treeOk, Bool.and_eq_true] at h
 obtain ⟨m, hm⟩ := parts_tat h.2.1 hx
 rw [partsOk_eq] at hm
 simp only [Bool.and_eq_true] at hm
 have h1 := hm.1
 simp only [plainOk, Bool.and_eq_true, decide_eq_true_eq] at h1
 have h7 := h1.2.2
 rw [hd] at h7
 simp only [Bool.false_eq_true, if_false, Bool.and_eq_true] at h7
 exact of_decide_eq_true h7.2
theorem aDo_err {t : Tr} {c : Cl} {k : Int} (hc : callOk c = true) (h : iDo t c = (t, k)) (hk : k ≠ 0) : aDo t c = (t, k) := by
 unfold aDo
 rw [hc, h]
 simp only [Bool.not_true, cond_false, decide_eq_false hk, Bool.not_false, cond_true]
theorem aDo_ok {t y : Tr} {c : Cl} (hc : callOk c = true) (h : iDo t c = (y, 0)) : aDo t c = fits y t := by
 unfold aDo fits
 rw [hc, h]
 simp only [Bool.not_true, cond_false, decide_true]
 cases treeOk y <;> rfl
theorem aDo_sDo {t : Tr} {c : Cl} (ht : treeOk t = true) (hc : callOk c = true) : aDo t c = sDo t c := by
 obtain ⟨f1, f2, f3, f4⟩ := callOk_facts hc
 have hp : c.path ≠ [] := fun h => by rw [h] at f1; simp at f1
 have hk16 : c.kind = 1 \/ c.kind = 2 \/ c.kind = 3 \/ c.kind = 4 \/ c.kind = 5 \/ c.kind = 6 := by
  unfold callOk at hc
  split at hc
  ·rename_i h; omega
  split at hc
  ·rename_i h; omega
  split at hc
  ·rename_i h; omega
  split at hc
  ·rename_i h; omega
  ·cases hc
 have hm6 : c.kind = 6 -> inb c.at_ 0 7 = true := fun h => by
  unfold callOk at hc
  rw [if_pos (by omega)] at hc
  simp only [Bool.and_eq_true] at hc
  exact hc.2
 by_cases hP : parC t c.path = 0
 case neg =>
  have e : iDo t c = (t, parC t c.path) := by
   unfold iDo
   rw [decide_eq_false hP]; rfl
  rw [aDo_err hc e hP]
  unfold sDo
  rw [decide_eq_false hP]; rfl
 have hPd : decide (parC t c.path = (0 : Int)) = true := decide_eq_true hP
 rcases hk16 with hk | hk | hk | hk | hk | hk
 ·-- a new directory
  have es : sDo t c = bif (tat t c.path).isSome then (t, 5) else fits (tset c.path t (newDir c.at_) false) t := by
   unfold sDo; rw [hPd, hk]; rfl
  have ei : iDo t c = match tat t c.path with | some _ => (t, 5) | none => (tset c.path t (newDir c.at_) false, 0) := by
   unfold iDo; rw [hPd, hk]; rfl
  rw [es]
  cases hx : tat t c.path with
  | some x => rw [hx] at ei; rw [aDo_err hc ei (by decide)]; rfl
  | none => rw [hx] at ei; rw [aDo_ok hc ei]; rfl
 ·-- a write
  obtain ⟨f8, f9⟩ := f3 (.inl hk)
  have es : sDo t c = sFile t c := by unfold sDo; rw [hPd, hk]; rfl
  have hd : decide ((24 : Int) < ((c.data.length : Nat) : Int) + c.at_) = decide ((24 : Int) < c.at_ + ((c.data.length : Nat) : Int)) := decide_eq_decide.2 (by omega)
  have ei : iDo t c = match tat t c.path with
   | some x => bif x.dir then (t, 4) else bif decide ((24 : Int) < c.at_ + ((c.data.length : Nat) : Int)) then (t, 6) else (tset c.path t (wData x (wrt x.data c.at_ c.data)) false, 0)
   | none => bif decide ((24 : Int) < c.at_ + ((c.data.length : Nat) : Int)) then (t, 6) else (tset c.path t (wData .none (wrt [] c.at_ c.data)) false, 0) := by
   unfold iDo; rw [hPd, hk]; rfl
  rw [es]
  unfold sFile
  rw [hd, show decide (c.kind = (3 : Int)) = false by rw [hk]; rfl]
  cases hx : tat t c.path with
  | some x =>
   rw [hx] at ei
   have hxa : xat t c.path = x := by unfold xat; rw [hx]; rfl
   dsimp only at ei
   rw [hxa]
   simp only [Option.isSome_some, Bool.true_and, Bool.not_true, Bool.false_and, cond_false]
   cases hdx : x.dir with
   | true => rw [hdx] at ei; rw [aDo_err hc ei (by decide)]; rfl
   | false =>
    rw [hdx] at ei
    simp only [cond_false] at ei ⊢
    cases h24 : decide ((24 : Int) < c.at_ + ((c.data.length : Nat) : Int)) with
    | true => rw [h24] at ei; rw [aDo_err hc ei (by decide)]; rfl
    | false => rw [h24] at ei; rw [aDo_ok hc ei, wrt_l2w f8]; rfl
  | none =>
   rw [hx] at ei
   have hxa : xat t c.path = .none := by unfold xat; rw [hx]; rfl
   dsimp only at ei
   rw [hxa]
   simp only [Option.isSome_none, Bool.false_and, Bool.not_false, Bool.and_false, cond_false]
   cases h24 : decide ((24 : Int) < c.at_ + ((c.data.length : Nat) : Int)) with
   | true => rw [h24] at ei; rw [aDo_err hc ei (by decide)]; rfl
   | false => rw [h24] at ei; rw [aDo_ok hc ei, wrt_l2w f8]; rfl
 ·-- a new length
  obtain ⟨f8, f9⟩ := f3 (.inr hk)
  have es : sDo t c = sFile t c := by unfold sDo; rw [hPd, hk]; rfl
  have ei : iDo t c = match tat t c.path with
   | none => (t, 3)
   | some x => bif x.dir then (t, 4) else (tset c.path t (wData x (szd x.data c.at_)) false, 0) := by
   unfold iDo; rw [hPd, hk]; rfl
  rw [es]
  unfold sFile
  rw [show decide (c.kind = (3 : Int)) = true by rw [hk]; rfl]
  cases hx : tat t c.path with
  | some x =>
   rw [hx] at ei
   have hxa : xat t c.path = x := by unfold xat; rw [hx]; rfl
   dsimp only at ei
   rw [hxa]
   simp only [Option.isSome_some, Bool.true_and, Bool.not_true, Bool.false_and, cond_false, cond_true]
   cases hdx : x.dir with
   | true => rw [hdx] at ei; rw [aDo_err hc ei (by decide)]; rfl
   | false => rw [hdx] at ei; rw [aDo_ok hc ei, szd_l2w f8]; rfl
  | none =>
   rw [hx] at ei
   rw [aDo_err hc ei (by decide)]; rfl
 ·-- a removal
  have es : sDo t c = bif !(tat t c.path).isSome then (t, 3) else bif decide ((0 : Int) < (((xat t c.path).names.length : Nat) : Int)) then (t, 5) else (tset c.path t .none true, 0) := by
   unfold sDo; rw [hPd, hk]; rfl
  have ei : iDo t c = match tat t c.path with
   | none => (t, 3)
   | some x => bif x.dir && decide ((0 : Int) < ((x.names.length : Nat) : Int)) then (t, 5) else (tset c.path t .none true, 0) := by
   unfold iDo; rw [hPd, hk]; rfl
  rw [es]
  cases hx : tat t c.path with
  | some x =>
   rw [hx] at ei
   have hxa : xat t c.path = x := by unfold xat; rw [hx]; rfl
   dsimp only at ei
   rw [hxa]
   simp only [Option.isSome_some, Bool.not_true, cond_false]
   have hb : (x.dir && decide ((0 : Int) < ((x.names.length : Nat) : Int))) = decide ((0 : Int) < ((x.names.length : Nat) : Int)) := by
    cases hdx : x.dir with
    | true => rfl
    | false => have := file_names ht hx hdx; rw [this]; rfl
   rw [hb] at ei
   cases h0 : decide ((0 : Int) < ((x.names.length : Nat) : Int)) with
   | true => rw [h0] at ei; rw [aDo_err hc ei (by decide)]; rfl
   | false =>
    rw [h0] at ei
    rw [aDo_ok hc ei]
    unfold fits
    rw [gone_ok ht hp]; rfl
  | none => rw [hx] at ei; rw [aDo_err hc ei (by decide)]; rfl
 ·-- a rename
  obtain ⟨f5, f6⟩ := f4 hk
  have hto : c.to ≠ [] := fun h => by rw [h] at f5; simp at f5
  have es : sDo t c = sRename t c := by unfold sDo; rw [hPd, hk]; rfl
  have ei : iDo t c = iRename t c := by unfold iDo; rw [hPd, hk]; rfl
  rw [es]
  unfold sRename
  unfold iRename at ei
  cases hx : tat t c.path with
  | none => rw [hx] at ei; rw [aDo_err hc ei (by decide)]; rfl
  | some x =>
   rw [hx] at ei
   have hxa : xat t c.path = x := by unfold xat; rw [hx]; rfl
   dsimp only at ei
   rw [hxa]
   simp only [Option.isSome_some, Bool.not_true, cond_false]
   cases hpre : c.path.isPrefixOf c.to with
   | true => rw [hpre] at ei; rw [aDo_err hc ei (by decide)]; rfl
   | false =>
    rw [hpre] at ei
    simp only [cond_false] at ei ⊢
    by_cases hQ : parC t c.to = 0
    case neg => rw [decide_eq_false hQ] at ei ⊢; rw [aDo_err hc ei hQ]; rfl
    rw [decide_eq_true hQ] at ei ⊢
    cases hy : tat t c.to with
    | some y => rw [hy] at ei; rw [aDo_err hc ei (by decide)]; rfl
    | none =>
     rw [hy] at ei
     rw [aDo_ok hc ei, swap_ok c.path c.to t (wf_ok ht) (by
      simp only [treeOk, Bool.and_eq_true] at ht; exact tas_parts t 0 ht.2.1) (tnd_ok ht) hp hto (by rw [hx]; rfl) hy hpre]
     rfl
 ·-- a new mode
  have es : sDo t c = bif !(tat t c.path).isSome then (t, 3) else (tset c.path t (wMode (xat t c.path) c.at_) false, 0) := by
   unfold sDo; rw [hPd, hk]; rfl
  have ei : iDo t c = match tat t c.path with
   | none => (t, 3)
   | some x => (tset c.path t (wMode x c.at_) false, 0) := by
   unfold iDo; rw [hPd, hk]; rfl
  rw [es]
  cases hx : tat t c.path with
  | some x =>
   rw [hx] at ei
   have hxa : xat t c.path = x := by unfold xat; rw [hx]; rfl
   dsimp only at ei
   rw [hxa, aDo_ok hc ei]
   unfold fits
   rw [mode_ok ht (hm6 hk) hp hx]; rfl
  | none => rw [hx] at ei; rw [aDo_err hc ei (by decide)]; rfl
theorem iTreeDo_eq (t : Tr) (c : Cl) : iTreeDo t c = sTreeDo t c := by
 unfold iTreeDo sTreeDo
 cases ht : treeOk t with
 | false => rfl
 | true =>
  cases hc : callOk c with
  | false => simp only [Bool.not_true, Bool.not_false, cond_false, cond_true, aDo, hc]
  | true => simp only [Bool.not_true, cond_false]; exact aDo_sDo ht hc
open Go Go.Proofs
set_option maxRecDepth 100000
theorem sTreeAt_ok (t : Tr) (p : List Str) (hw : t.W < 2 ^ 40) (hp : p.length < 2 ^ 40) : PE G 5 [.agg (tcs t), pth p] (.tup [.agg (tcs (tAt t p).1), .bool (tAt t p).2]) := by
 refine Pe Tryz.func5 ?_
 refine Rr (Fn2 [1] [(4, .ptr 4 0), (2, .ptr 0 0)] [(4, zt), (0, tcs t)] 8 (Sq fun K2 hK2 => ?_))
 refine Rr (Pc1 2 [(8, .agg (tcs t))] 9 (0 + 5 <= 5 /\ 0 < 5) (by decide) (sTreeOk_c t (by omega)) (Cn0 (!(treeOk t)) [1, 2, 4] [] ⟨fun hc4 c4 => ?_, fun hc4 c4 => ?_⟩))
 try simp only [KF] at c4
 refine Rr (Fn1 [4] [(5, .bool false)] ((true = true /\ 5 = 5 /\ 0 + 5 <= 5) /\ ·) ⟨(by decide), Rt1 ((0 + 5 <= 5 /\ 0 < 5) /\ ·) (.tup [.agg zt, .bool false]) ⟨(by decide), fin_lea ?_⟩⟩)
 unfold tAt
 rw [show treeOk t = false by simpa using hc4]
 simp [lea, leas, pth, Tr.none, tcs]
 try simp only [KF] at c4
 refine Sk (Jn (hK2 (Kp [1, 2, 4] ?_)))
 have hto : treeOk t = true := by simpa using hc4
 have hwf := wf_ok hto
 have hxx := W_xat t p
 refine Rr (Pc1 3 [(14, pth p), (13, .agg (tcs t))] 15 (0 + 5 <= 5 /\ 0 < 5) (by decide) (l1At_c p t (by omega) (by assumption) (by omega)) (Fn3 [4] [(7, .bool ((tat t p).isSome)), (6, .ptr 8 0)] [(8, tcs (xat t p)), (4, zt), (0, tcs t)] 12 ((0 < 2) /\ (1 < 2) /\ (true = true /\ 5 = 5 /\ 0 + 5 <= 5) /\ ·) ⟨(by decide), (by decide), (by decide), Rr (Pc1 2 [(18, .agg (tcs (xat t p)))] 19 (0 + 5 <= 5 /\ 0 < 5) (by decide) (l1Copy_ok _ (xat t p) rfl (by omega)) ?_)⟩))
 refine Fn3 [4] [(5, .bool ((tat t p).isSome))] [(8, tcs (xat t p)), (4, tcs (xat t p)), (0, tcs t)] 12 ((true = true /\ 5 = 5 /\ 0 + 5 <= 5) /\ ·) ⟨(by decide), Rt1 ((0 + 5 <= 5 /\ 0 < 5) /\ ·) (.tup [.agg (tcs (xat t p)), .bool ((tat t p).isSome)]) ⟨(by decide), fin_lea ?_⟩⟩
 unfold tAt
 rw [hto]; exact lea_refl _
theorem TrailDo_ok (t : Tr) (l : List Mk) (c : Cl) (hw : t.W < 2 ^ 40) (h1 : wS c.path < 2 ^ 40) (h2 : wS c.to < 2 ^ 40) (h3 : c.data.length < 2 ^ 20) (hl : ∀ m ∈ l, wS m.path < 2 ^ 40) (hn : l.length <= 4) (ht : Trl l) : PC G 6 [.agg (tcs t), .sl 2 (l.map mkc), .agg (clc c)] (fun r => ∃ l2, r = .tup [.agg (tcs (sTreeDo t c).1), .sl 2 (l2.map mkc), .int .i64 (sTreeDo t c).2] /\ ((sTreeDo t c).2 = 0 -> AddL l (mksOf t c) l2)) := by
 refine h_pc (F := [(0, .agg (tcs t)), (1, .sl 2 (l.map mkc)), (2, .agg (clc c))]) (by simp only [go_sem]) Tryz.func6 (by kernel_rfl) (by kernel_rfl) ?_ (by kernel_rfl)
 refine Rr (Fn2 [1] [(6, .ptr 8 0), (5, .ptr 4 0), (3, .ptr 0 0)] [(8, zt), (4, clc c), (0, tcs t)] 12 (Sq fun K2 hK2 => ?_))
 refine Rm 21 ((!(treeOk t)) || (!(trOk l))) [1, 3, 5, 6] ?_ ?_
 refine Pc1 2 [(14, .agg (tcs t))] 15 (0 + 5 <= 5 /\ 0 < 5) (by decide) (TreeOk_ok t (by omega)) (An0 2 [(17, .bool (!(treeOk t))), (16, .bool (!(treeOk t)))] (run_b (fun g4 => ?_) (fun g4 => ?_)))
 have hg4 := g4
 try simp only [KF] at g4
 refine Mn0 true (by rw [hg4]; rfl)
 have hg4 := g4
 try simp only [KF] at g4
 refine Pc0 2 [(18, .sl 2 (l.map mkc))] 19 (TrailOk_ok l hl (by omega)) (Mn0 (!(trOk l)) (by rw [hg4]; rfl))
 refine Cc ((!(treeOk t)) || (!(trOk l))) (fun hc5 c5 => ?_) fun hc5 c5 => ?_
 try simp only [KF] at c5
 refine Rr (Fn3 [6] [(8, .int .i64 1), (7, .osl 12 2 0 0)] [(12, []), (8, zt), (4, clc c), (0, tcs t)] 16 ((0 * 2 <= 16777216) /\ (true = true /\ 5 = 5 /\ 0 + 5 <= 5) /\ ·) ⟨(by decide), (by decide), Fz 12 2 0 ([]) ([]) [(6, .ptr 8 0), (7, .osl 12 2 0 0), (8, .int .i64 1)] [(8, zt)] [true] (by kernel_rfl) (by decide) (Rt1 ((0 + 5 <= 5 /\ 0 < 5) /\ ·) (.tup [.agg zt, .sl 2 ([].map mkc), .int .i64 1]) ⟨(by decide), ?_⟩)⟩)
 have hto : treeOk t = false := by
   have h := c5
   rw [ht.trOk (by omega)] at h
   simpa using h
 have hsd : sTreeDo t c = (.none, 1) := by unfold sTreeDo; rw [hto]; rfl
 refine ⟨[], List.nil_sublist _, _, ?_, ⟨[], by rw [hsd], fun h => by rw [hsd] at h; cases h⟩, by simp only [go_sem, pur, purs, puress_mk, Bool.and_self]⟩
 simp [lea, leas, Tr.none, tcs, pth]
 try simp only [KF] at c5
 refine Sk (Jn (hK2 (Kp [1, 3, 5, 6] ?_)))
 have hto : treeOk t = true := c5.1
 have hwf := wf_ok hto
 have hsd : sTreeDo t c = aDo t c := by rw [<- iTreeDo_eq]; unfold iTreeDo; rw [hto]; rfl
 refine Rr (Bc1 3 [(26, .agg (clc c)), (25, .agg (tcs t))] 18 [.agg (tcs t), .agg (clc c)] 27 ((0 + 5 <= 5 /\ 0 < 5) /\ (0 + 5 <= 5 /\ 0 < 5) /\ ·) ⟨(by decide), (by decide), PE.use (after_ok t c hto h1 h2 h3) (Ke (Fn3 [1, 3, 5, 6] [(10, .int .i64 ((aDo t c).2)), (9, .ptr 12 0)] [(12, tcs ((aDo t c).1)), (8, zt), (4, clc c), (0, tcs t)] 16 ((0 < 2) /\ (1 < 2) /\ (true = true /\ 5 = 5 /\ 0 + 5 <= 5) /\ ·) ⟨(by decide), (by decide), (by decide), ?_⟩))⟩)
 refine Rr (Pc0 2 [(30, .sl 2 (l.map mkc))] 31 (cloneM_ok l hl (by omega)) (Fn0 [3, 5, 6, 9, 10] [(11, .sl 2 (l.map mkc))] (Sq fun K9 hK9 => ?_)))
 refine Rr (Cn1 (!decide (((aDo t c).2 : Int) = (0 : Int))) [3, 5, 6, 9, 10, 11] [] (Ki /\ ·) ⟨rfl, fun hc11 c11 => ?_, fun hc11 c11 => ?_⟩)
 try simp only [KF] at c11
 refine Rr (Fn3 [6] [(8, .int .i64 ((aDo t c).2)), (7, .sl 2 (l.map mkc))] [(12, tcs ((aDo t c).1)), (8, tcs ((aDo t c).1)), (4, clc c), (0, tcs t)] 16 ((0 + 5 <= 5 /\ 0 < 5) /\ (true = true /\ 5 = 5 /\ 0 + 5 <= 5) /\ ·) ⟨(by decide), (by decide), Rt1 ((0 + 5 <= 5 /\ 0 < 5) /\ ·) (.tup [.agg (tcs ((aDo t c).1)), .sl 2 (l.map mkc), .int .i64 ((aDo t c).2)]) ⟨(by decide), ?_⟩⟩)
 exact ⟨[], List.nil_sublist _, _, lea_refl _, ⟨l, by rw [hsd], fun h => absurd (by rw [hsd] at h; exact h) c11⟩, by simp only [go_sem, pur, purs, puress_mk, Bool.and_self]⟩
 try simp only [KF] at c11
 refine Sk (Jn (hK9 (Kp [3, 5, 6, 9, 11] (Sq fun K13 hK13 => ?_))))
 refine Rr (Bc1 3 [(38, .agg (clc c)), (37, .agg (tcs t))] 20 [.agg (tcs t), .agg (clc c)] 39 ((0 + 5 <= 5 /\ 0 < 5) /\ (0 + 5 <= 5 /\ 0 < 5) /\ ·) ⟨(by decide), (by decide), ?_⟩)
 have hmo := mksOf_len t c
 refine PE.use (marksOf_ok t c hw hwf h1 h2) ?_
 refine Ke (Av0 (r := .int .i64 (((mksOf t c).map mkc).length : Nat)) (v := .int .i64 ((mksOf t c).length : Int)) 1 40 [] (by rw [List.length_map]) (Fn0 [6, 9, 11, 39, 40] [(41, .int .i64 0)] (Bl (h_l (fun (z : Nat × List Mk) => (match z with | (k, o) => ([(6, .ptr 8 0), (9, .ptr 12 0), (11, .sl 2 (o.map mkc)), (39, .sl 2 ((mksOf t c).map mkc)), (40, .int .i64 ((mksOf t c).length : Int)), (41, .int .i64 k)] : Fr))) (fun (z : Nat × List Mk) => (match z with | (k, o) => ([(12, tcs ((aDo t c).1)), (8, zt), (4, clc c), (0, tcs t)] : Hp))) (fun (z : Nat × List Mk) cn => (match z with | (k, o) => (k <= (mksOf t c).length /\ AddL l ((mksOf t c).take k) o) /\ cn = 16)) (fun (z : Nat × List Mk) => (mksOf t c).length - z.1) (0, l) (by kernel_rfl) ?_ ?_ ?_ ?_))))
 refine ⟨?_, rfl⟩; exact ⟨Nat.zero_le _, .nil l⟩
 exact ⟨by kernel_rfl, by kernel_rfl, by kernel_rfl, by kernel_rfl, by kernel_rfl, by kernel_rfl, trivial⟩
 exact (sub_c (by kernel_rfl) (sub_c (by kernel_rfl) (sub_c (by kernel_rfl) (sub_c (by kernel_rfl) (List.nil_sublist _)))))
 rintro ⟨k, o⟩ n1 hI
 (try dsimp only at hI)
 obtain ⟨⟨hi1, hi2⟩, rfl⟩ := hI
 have hml0 := mksOf_len t c
 refine Rr (Fn1 [6, 9, 11, 39, 40, 41] [(42, .bool (decide ((k : Int) < ((mksOf t c).length : Int))))] (Ki /\ ·) ⟨rfl, Sq fun K16 hK16 => ?_⟩)
 refine Cc (decide ((k : Int) < ((mksOf t c).length : Int))) (fun hc17 c17 => ?_) fun hc17 c17 => ?_
 try simp only [KF] at c17
 refine Sk (Jn (hK16 (Kp [6, 9, 11, 39, 40, 41] (Sq fun K18 hK18 => ?_))))
 refine Bl (Rr (Av1 1 43 [] (congrArg AV.pat (mg_mk (mksOf t c) k (by omega))) ((2 = 2 /\ (0 : Int) <= (k : Int) /\ (k : Int) < (((mksOf t c).map mkc).length : Int)) /\ ·) ⟨⟨rfl, by omega, by rw [List.length_map]; omega⟩, Fn3 [6, 9, 11, 39, 40, 41] [(13, .ptr 16 0)] [(16, mkc ((mksOf t c).getD k default)), (12, tcs ((aDo t c).1)), (8, zt), (4, clc c), (0, tcs t)] 20 ((2 <= 2 /\ 0 < 2) /\ (true = true /\ 2 = 2 /\ 0 + 2 <= 2) /\ ·) ⟨(by decide), (by decide), ?_⟩⟩))
 have hml := mksOf_len t c
 have hmb : ∀ m ∈ mksOf t c, wS m.path < 2 ^ 40 := fun m hm => by rcases (mksOf_mem hm).2.1 with e | e <;> rw [e] <;> assumption
 have hal := hi2.len
 rw [List.length_take] at hal
 have hlo : ∀ m ∈ o, wS m.path < 2 ^ 40 := fun m hm => (hi2.mem hm).elim (hl m) (fun h => hmb m (List.mem_of_mem_take h))
 have hmk := hmb _ (getD_mem (mksOf t c) k default (by omega))
 refine Rb (fun h => Bn (Jn (hK18 h))) (Bc1 3 [(46, .agg (mkc ((mksOf t c).getD k default))), (45, .sl 2 (o.map mkc))] 21 [.sl 2 (o.map mkc), .agg (mkc ((mksOf t c).getD k default))] 47 ((0 + 2 <= 2 /\ 0 < 2) /\ ·) ⟨(by decide), PC.use (addM_ok o ((mksOf t c).getD k default) hlo hmk (by omega)) fun r hr => ?_⟩); obtain ⟨ad20, rfl, had20⟩ := hr
 refine Ke (Fn0 [6, 9, 39, 40, 41] [(11, .sl 2 (ad20.map mkc))] (Rn (Av1 1 48 [] (congrArg (AV.int .i64) (wn1 k (by omega))) (Ki /\ ·) ⟨rfl, Gn0 [(41, .int .i64 ((k + 1 : Nat) : Int))] ?_⟩)))
 refine nk_n (Lr (k + 1, ad20) [(0, 0), (4, 4), (8, 8), (12, 12)] 16 [(6, .ptr 8 0), (9, .ptr 12 0), (11, .sl 2 (ad20.map mkc)), (39, .sl 2 ((mksOf t c).map mkc)), (40, .int .i64 ((mksOf t c).length : Int)), (41, .int .i64 ((k + 1 : Nat) : Int))] [(12, tcs ((aDo t c).1)), (8, zt), (4, clc c), (0, tcs t)] [true, true, true, true] ?_ ?_ (by kernel_rfl) (by kernel_rfl))
 (try dsimp only); omega
 refine ⟨?_, rfl⟩; (try dsimp only); exact ⟨by omega, by rw [take_snoc (mksOf t c) k default (by omega)]; exact .snoc hi2 had20⟩
 try simp only [KF] at c17
 refine Xt (Jx (Lx (Bh (Jn (hK13 (Kp [6, 9, 11] ?_))))))
 have hal := hi2.len
 rw [List.length_take] at hal
 have hmb : ∀ m ∈ mksOf t c, wS m.path < 2 ^ 40 := fun m hm => by rcases (mksOf_mem hm).2.1 with e | e <;> rw [e] <;> assumption
 have hlo : ∀ m ∈ o, wS m.path < 2 ^ 40 := fun m hm => (hi2.mem hm).elim (hl m) (fun h => hmb m (List.mem_of_mem_take h))
 have hml0 := mksOf_len t c
 refine Qr [0, 0, 2, 7, 15, 31] [(0, []), (1, []), (2, [0]), (3, []), (4, []), (5, [])] (qBc1 3 [(50, .sl 2 (o.map mkc)), (49, .agg (tcs ((aDo t c).1)))] [0] 19 [.sl 2 (o.map mkc)] 51 ((0 + 5 <= 5 /\ 0 < 5) /\ ·) ⟨(by decide), PE.use (cloneM_ok o hlo (by omega)) (Kq (p := (((0 + 5 <= 5 /\ 0 < 5) /\ (AV.agg (tcs ((aDo t c).1)) = (.agg (tcs ((aDo t c).1)) : AV))) /\ True)) ⟨⟨(by decide), rfl⟩, trivial⟩ (qFn3 [6] [(8, .int .i64 0), (7, .sl 2 (o.map mkc))] [(12, tcs ((aDo t c).1)), (8, tcs ((aDo t c).1)), (4, clc c), (0, tcs t)] 16 ((true = true /\ 5 = 5 /\ 0 + 5 <= 5) /\ (True) /\ ·) ⟨(by decide), trivial, ?_⟩))⟩)
 refine Rt1 ((0 + 5 <= 5 /\ 0 < 5) /\ ·) (.tup [.agg (tcs ((aDo t c).1)), .sl 2 (o.map mkc), .int .i64 0]) ⟨(by decide), ?_⟩
 obtain rfl : k = (mksOf t c).length := by omega
 rw [List.take_length] at hi2
 have hc0 : (aDo t c).2 = 0 := by have h := c11; omega
 exact ⟨[], List.nil_sublist _, _, (by rw [hsd, hc0]; exact lea_refl _), ⟨o, rfl, fun _ => hi2⟩, by simp only [go_sem, pur, purs, puress_mk, Bool.and_self]⟩
set_option maxRecDepth 100000
theorem lend_ref {G : Prg} {f : Nat} {args : List AV} {H : Hp} {n : Nat} {R : AV -> Hp -> Prop} (h : TCall G f args [] n fun r Z' n' => n' = n /\ R r Z') :
  TCall G f args H n fun r H' n' => n' = n /\ ∃ Z', H' = H ++ Z' /\ R r Z' := by
 intro X ρ w vs hf hr hvs
 have hr0 : HR (OX X ρ H) ρ w [] := ⟨by simp [ids], by simp [ids], by simp [ids], fun b hb => hr.ox_old hb, by simp⟩
 refine (h (OX X ρ H) ρ w vs hf hr0 (by rw [OX_nil]; exact hvs)).mono ?_
 rintro e w' ⟨v, r, ρ', Z', n', rfl, q1, q2, q3, q4, rfl, q7⟩
 have hnew : ∀ b, Own ρ' Z' b -> w.heap.size <= b := fun b hb => (q4.own b hb).resolve_left fun ⟨i, hi, _⟩ => by simp [ids] at hi
 obtain ⟨g1, g2⟩ := frame_out (n := n') (fun _ => False) hr (List.Sublist.refl H) (fun _ h => h.elim) q4.rho q2
  (fun i hi hi' => by
   obtain ⟨b, hb, hlt⟩ := hr.has hi
   have := hnew b ⟨i, hi', q4.rho i b hb⟩
   omega)
  (q4.ext.mono fun b _ hb => by obtain ⟨i, hi, _⟩ := hb; simp [ids] at hi) (fun b hb => .inr (hnew b hb))
 refine ⟨v, r, ρ', H ++ Z', n', rfl, q1, g1, VR_carry (Carry.less fun b hb => ?_) _ _ q3, g2, rfl, Z', rfl, q7⟩
 rcases hb with hb | ⟨i, hi, hb⟩
 ·exact .inl (.inl hb)
 ·simp only [ids, List.map_append, List.mem_append] at hi
  rcases hi with hi | hi
  ·obtain ⟨b', hb', _⟩ := hr.has hi
   have := q4.rho i b' hb'
   rw [hb] at this; cases this
   exact .inl (.inr ⟨i, hi, hb'⟩)
  ·exact .inr ⟨i, hi, hb⟩
theorem tc_evn {G : Prg} {f : Nat} {args : List AV} {H : Hp} {n : Nat} {Q : CPost}
  (h : TCall G f args H n fun r H' n' => (ids H').Nodup -> n' % 4 = 0 -> Q r H' n' \/ ∃ j cs K, j % 2 = 1 /\ H'.Perm ((j, cs) :: K) /\ slp r /\ Q (r1 j n' r) ((n', cs) :: K) (n' + 4)) : TCall G f args H n Q := by
 intro X ρ w vs hf hr hvs
 refine (h X ρ w vs hf hr hvs).mono ?_
 rintro e w' ⟨v, r, ρ', H', n', rfl, q1, q2, q3, q4, hdis⟩
 rcases hdis q2.nodup q1.1 with hq | ⟨j, cs, K, hj2, hp, hs, hq⟩
 ·exact ⟨v, r, ρ', H', n', rfl, q1, q2, q3, q4, hq⟩
 have hn4 : n' % 4 = 0 := q1.1
 have hρn : ρ' n' = none := q1.2.1 n' (Nat.le_refl _) (by omega)
 let ρ2 : Rho := fun i => if i = n' then ρ' j else ρ' i
 have hold : ∀ i b, ρ' i = some b -> ρ2 i = some b := fun i b hb => by
  show (if i = n' then ρ' j else ρ' i) = some b
  rw [if_neg (by rintro rfl; rw [hρn] at hb; cases hb)]; exact hb
 have hρ : ∀ i b, ρ' i = some b -> ρ2 (bif Nat.beq i j then n' else i) = some b := by
  intro i b hb
  by_cases hi : i = j
  ·subst hi
   rw [Nat.beq_refl]
   show (if n' = n' then ρ' i else ρ' n') = some b
   rw [if_pos rfl]; exact hb
  ·rw [show Nat.beq i j = false from nbq hi]
   exact hold i b hb
 obtain ⟨m, hm⟩ := q1.2.2
 have hr2 := q2
 have hjH : j ∈ ids H' := (ids_perm hp.symm j).1 (by simp [ids])
 have hKH : ∀ i, i ∈ ids K -> i ∈ ids H' := fun i hi => (ids_perm hp.symm i).1 (by simp only [ids, List.map_cons, List.mem_cons]; exact .inr hi)
 have hKn : ∀ i, i ∈ ids K -> i ≠ n' := fun i hi e => by
  obtain ⟨b, hb, _⟩ := q2.has (hKH i hi)
  rw [e, hρn] at hb; cases hb
 have hnd : j ∉ ids K /\ (ids K).Nodup := by
  have := (List.Perm.nodup_iff (hp.map (fun p : Nat × List AV => p.1))).1 q2.nodup
  exact List.nodup_cons.1 this
 have hK2 : ∀ i, i ∈ ids K -> ρ2 i = ρ' i := fun i hi => if_neg (hKn i hi)
 have hn2 : ρ2 n' = ρ' j := if_pos rfl
 have hown : ∀ b, Own ρ2 ((n', cs) :: K) b ↔ Own ρ' H' b := by
  intro b
  constructor
  ·rintro ⟨i, hi, hb⟩
   simp only [ids, List.map_cons, List.mem_cons] at hi
   rcases hi with rfl | hi
   ·rw [hn2] at hb; exact ⟨j, hjH, hb⟩
   ·rw [hK2 i hi] at hb; exact ⟨i, hKH i hi, hb⟩
  ·rintro ⟨i, hi, hb⟩
   have := (ids_perm hp i).1 hi
   simp only [ids, List.map_cons, List.mem_cons] at this
   rcases this with rfl | hi
   ·exact ⟨n', by simp [ids], by rw [hn2]; exact hb⟩
   ·exact ⟨i, by simp only [ids, List.map_cons, List.mem_cons]; exact .inr hi, hold i b hb⟩
 have hO : OX X ρ2 ((n', cs) :: K) = OX X ρ' H' := by funext b; simp only [OX, hown]
 have hcar : ∀ (az : List AV) (vs : List Value), VRs ρ' w' (OX X ρ' H') az vs -> VRs ρ2 w' (OX X ρ' H') az vs := fun az vs hv => VRs_carry ⟨hold, Nat.le_refl _, fun _ _ _ => rfl, fun b cs e f h => ⟨cs, h, rfl⟩, fun b _ ho => ho⟩ _ _ hv
 refine ⟨v, r1 j n' r, ρ2, (n', cs) :: K, n' + 4, rfl, ⟨by omega, fun i hi h0 => ?_, max m (n' + 1), fun i hi => ?_⟩, ⟨?_, ?_, ?_, q2.xold, ?_⟩, ?_, ⟨fun i b hb => hold i b (q4.rho i b hb), Nat.le_trans q4.le (by omega), q4.ext, fun b hb => q4.own b ((hown b).1 hb)⟩, hq⟩
 ·show (if i = n' then ρ' j else ρ' i) = none
  rw [if_neg (by omega)]; exact q1.2.1 i (by omega) h0
 ·show (if i = n' then ρ' j else ρ' i) = none
  rw [if_neg (by omega)]; exact hm i (by omega)
 ·exact List.nodup_cons.2 ⟨fun hi => hKn _ hi rfl, hnd.2⟩
 ·intro i k b hi hk h1 h2
  simp only [ids, List.map_cons, List.mem_cons] at hi hk
  rcases hi with rfl | hi <;> rcases hk with rfl | hk
  ·rfl
  ·rw [hn2] at h1; rw [hK2 k hk] at h2
   have := q2.inj j k b hjH (hKH k hk) h1 h2
   subst this; exact absurd hk hnd.1
  ·rw [hn2] at h2; rw [hK2 i hi] at h1
   have := q2.inj i j b (hKH i hi) hjH h1 h2
   subst this; exact absurd hi hnd.1
  ·rw [hK2 i hi] at h1; rw [hK2 k hk] at h2
   exact q2.inj i k b (hKH i hi) (hKH k hk) h1 h2
 ·intro i b hi h1
  simp only [ids, List.map_cons, List.mem_cons] at hi
  rcases hi with rfl | hi
  ·rw [hn2] at h1; exact q2.notX j b hjH h1
  ·rw [hK2 i hi] at h1; exact q2.notX i b (hKH i hi) h1
 ·intro i ds hm'
  rw [hO]
  rcases List.mem_cons.1 hm' with e | hm'
  ·cases e
   obtain ⟨b, c', e, f, k1, k2, k3, k4, k5, k6⟩ := q2.obj j cs (hp.symm.mem_iff.1 (by simp))
   exact ⟨b, c', e, f, hn2.trans k1, k2, ⟨k3.1, .inl (k3.2.resolve_right (by omega))⟩, k4, k5, hcar _ _ k6⟩
  ·obtain ⟨b, c', e, f, k1, k2, k3, k4, k5, k6⟩ := q2.obj i ds (hp.symm.mem_iff.1 (by simp [hm']))
   exact ⟨b, c', e, f, hold i b k1, k2, k3, k4, k5, hcar _ _ k6⟩
 ·rw [hO]
  exact r1_vr hρ _ _ hs q3
mutual
theorem od_pur : ∀ a : AV, pur a = true -> od a
 | .osl .., h => by simp [pur] at h
 | .ocl .., h => by simp [pur] at h
 | .ptr .., h => by simp [pur] at h
 | .agg az, h => by simp only [pur, od] at *; exact ods_pur az h
 | .tup az, h => by simp only [pur, od] at *; exact ods_pur az h
 | .fn _ az, h => by simp only [pur, od] at *; exact ods_pur az h
 | .pat az, h => by simp only [pur, od] at *; exact ods_pur az h
 | .sl _ es, h => by simpa only [pur, od] using h
 | .int .., _ => trivial
 | .bool _, _ => trivial
 | .str _, _ => trivial
 | .raw _, _ => trivial
 | .nils, _ => trivial
 | .nilp, _ => trivial
 | .dead, _ => trivial
theorem ods_pur : ∀ az : List AV, purs az = true -> ods az
 | [], _ => trivial
 | a :: az, h => by
  simp only [purs, Bool.and_eq_true] at h
  exact ⟨od_pur a h.1, ods_pur az h.2⟩
end
def OpR (X : Str) (r : AV) (Z : Hp) : Prop := ∃ (j : Nat) (b : Str), r = .ptr (2 * j + 1) 0 /\ Z = [(2 * j + 1, rdc b 0)] /\ b.length <= 2000
theorem op_use {G : Prg} {f : Nat} {X : Str} {arg : AV} {H : Hp} {n : Nat} {Q : CPost} (h : DC G f [arg] [] (OpR X))
  (q : ∀ b : Str, b.length <= 2000 -> Q (.ptr n 0) ((n, rdc b 0) :: H) (n + 4)) : TCall G f [arg] H n Q := by
 have h0 : TCall G f [arg] H n fun r H' n' => n' = n /\ ∃ Z', H' = H ++ Z' /\ OpR X r Z' := by
  refine lend_ref ((h [] n trivial).mono ?_)
  rintro r H' n' _ ⟨rfl, Z', rfl, hc⟩
  exact ⟨rfl, hc⟩
 refine tc_evn (h0.mono ?_)
 rintro r H' n' _ ⟨rfl, Z', rfl, j, b, rfl, rfl, hb⟩ hnd hn4
 refine .inr ⟨2 * j + 1, _, H, by omega, List.perm_append_comm, by simp [slp], ?_⟩
 rw [show r1 (2 * j + 1) n' (.ptr (2 * j + 1) 0) = .ptr n' 0 by simp only [r1, Nat.beq_refl, cond_true]]
 exact q b hb
open Go Go.Proofs
set_option maxRecDepth 100000
theorem W_sTreeDo (t : Tr) (c : Cl) (ht : t.W < 2 ^ 12) : (sTreeDo t c).1.W < 2 ^ 12 := by
  unfold sTreeDo
  cases h : treeOk t <;> simp only [Bool.not_true, Bool.not_false, cond_true, cond_false]
  · rw [W_none]; omega
  · cases h2 : callOk c <;> simp only [Bool.not_true, Bool.not_false, cond_true, cond_false]
    · exact ht
    · rw [<- aDo_sDo h h2]
      unfold aDo
      cases callOk c <;> simp only [Bool.not_true, Bool.not_false, cond_true, cond_false]
      · exact ht
      cases decide ((iDo t c).2 = (0 : Int)) <;> simp only [Bool.not_true, Bool.not_false, cond_true, cond_false]
      · exact ht
      cases h3 : treeOk (iDo t c).1 <;> simp only [Bool.not_true, Bool.not_false, cond_true, cond_false]
      · exact ht
      · exact Nat.lt_trans (W_ok h3) (by omega)
theorem l4Calls_ok (b : Str) (p : Nat) (t : Tr) (n : Nat) (hw : t.W < 2 ^ 12) (hp : p < 2 ^ 26) (hn : n < 2 ^ 20) (hb : b.length < 2 ^ 30) : RC G 31 [.agg (tcs t), .int .i64 n] b p (fun r p' => ∃ x : Tr, x.W < 2 ^ 12 /\ r = .agg (tcs x) /\ p' <= p + 50 * n) := by
 refine h_rc (F := [(0, .ptr 0 0), (1, .agg (tcs t)), (2, .int .i64 n)]) (by simp only [go_sem]) Tryz.func31 (by kernel_rfl) (by kernel_rfl) ?_ (by kernel_rfl)
 refine Rr (Fn2 [0, 2] [(6, .ptr 8 0), (4, .ptr 4 0)] [(8, zt), (4, tcs t), (0, rdc b p)] 12 (Sq fun K2 hK2 => ?_))
 refine Bl (h_l (fun (z : Tr × Nat × Nat) => (match z with | (x, q, k) => ([(0, .ptr 0 0), (2, .int .i64 k), (4, .ptr 4 0), (6, .ptr 8 0)] : Fr))) (fun (z : Tr × Nat × Nat) => (match z with | (x, q, k) => ([(8, zt), (4, tcs x), (0, rdc b q)] : Hp))) (fun (z : Tr × Nat × Nat) cn => (match z with | (x, q, k) => (x.W < 2 ^ 12 /\ q + 50 * k <= p + 50 * n /\ k <= n) /\ cn = 12)) (fun (z : Tr × Nat × Nat) => z.2.2) (t, p, n) (by kernel_rfl) ?_ ?_ ?_ ?_)
 refine ⟨?_, rfl⟩; exact ⟨hw, by omega, by omega⟩
 exact ⟨by kernel_rfl, by kernel_rfl, by kernel_rfl, by kernel_rfl, trivial⟩
 exact (sub_c (by kernel_rfl) (sub_c (by kernel_rfl) (sub_c (by kernel_rfl) (List.nil_sublist _))))
 rintro ⟨x, q, k⟩ n1 hI
 (try dsimp only at hI)
 obtain ⟨⟨hi1, hi2, hi3⟩, rfl⟩ := hI
 refine Sq fun K3 hK3 => ?_
 refine Rr (Cn1 (decide ((0 : Int) < ((k : Int) : Int))) [0, 2, 4, 6] [] (Ki /\ ·) ⟨rfl, fun hc5 c5 => ?_, fun hc5 c5 => ?_⟩)
 try simp only [KF] at c5
 refine Sk (Jn (hK3 (Kp [0, 2, 4, 6] (Sq fun K6 hK6 => ?_))))
 refine Bl (Qr [0, 0, 0, 6, 15, 31, 63, 63, 0, 383, 1023] [(0, []), (1, []), (2, []), (3, [0]), (4, []), (5, []), (6, []), (7, []), (8, [0, 2]), (9, []), (10, [])] (qBc1 4 [(16, .agg (tcs x)), (15, .ptr 0 0), (14, .agg (tcs x))] [0] 13 [.ptr 0 0, .agg (tcs x)] 17 ((0 + 5 <= 5 /\ 0 < 5) /\ (0 + 5 <= 5 /\ 0 < 5) /\ ·) ⟨(by decide), (by decide), RC.use (l4Call_ok b q x (by omega) (by omega) (by omega)) (by kernel_rfl) fun r q9 hr => ?_⟩)); obtain ⟨cl8, h0cl8, h1cl8, h2cl8, rfl, h3cl8⟩ := hr
 refine Kq (p := (((0 + 5 <= 5 /\ 0 < 5) /\ (AV.agg (tcs x) = (.agg (tcs x) : AV))) /\ True)) ⟨⟨(by decide), rfl⟩, trivial⟩ ?_
 refine qBc0 1 [] [] 7 [.agg (tcs x), .agg (clc cl8)] 18 ?_
 have hB10 := W_sTreeDo x cl8 (by omega)
 refine PE.use (sTreeDo_ok x cl8 (by omega) (by first | omega | decide | (dsimp only; first | omega | decide)) (by first | omega | decide | (dsimp only; first | omega | decide)) (by first | omega | decide | (dsimp only; first | omega | decide))) ?_
 refine Kq (p := (True)) trivial ?_
 refine qFn3 [0, 2, 4, 6] [(8, .int .i64 ((sTreeDo x cl8).2)), (7, .ptr 12 0)] [(12, tcs ((sTreeDo x cl8).1)), (8, zt), (4, tcs x), (0, rdc b q9)] 16 ((0 < 2) /\ (1 < 2) /\ (((0 + 5 <= 5 /\ 0 < 5) /\ (AV.agg (tcs x) = (.agg (tcs x) : AV))) /\ ((0 + 5 <= 5 /\ 0 < 5) /\ (AV.agg (tcs x) = (.agg (tcs x) : AV))) /\ True) /\ (true = true /\ 5 = 5 /\ 0 + 5 <= 5) /\ (True) /\ ·) ⟨(by decide), (by decide), ⟨⟨(by decide), rfl⟩, ⟨(by decide), rfl⟩, trivial⟩, (by decide), trivial, Rr (Cn1 (decide (((sTreeDo x cl8).2 : Int) = (0 : Int))) [0, 2, 4, 6, 7] [] (Ki /\ ·) ⟨rfl, fun hc12 c12 => ?_, fun hc12 c12 => ?_⟩)⟩
 try simp only [KF] at c12
 refine Rb (fun h => Bn (Jn (hK6 h))) (Fn3 [0, 2, 4, 6] [] [(12, tcs ((sTreeDo x cl8).1)), (8, zt), (4, tcs ((sTreeDo x cl8).1)), (0, rdc b q9)] 16 ((0 + 5 <= 5 /\ 0 < 5) /\ (true = true /\ 5 = 5 /\ 0 + 5 <= 5) /\ ·) ⟨(by decide), (by decide), Rn (Av1 (r := .int .i64 (IntKind.i64.wrap ((k : Int) - 1))) (v := .int .i64 ((k : Int) - 1)) 2 12 [(11, .int .i64 k)] (congrArg (AV.int .i64) (wrap64 (by omega) (by omega))) (Ki /\ ·) ⟨rfl, Gn0 [(2, .int .i64 ((k : Int) - 1))] ?_⟩)⟩)
 refine nk_n (Lr (((sTreeDo x cl8).1), q9, k - 1) [(0, 0), (4, 4), (8, 8)] 12 [(0, .ptr 0 0), (2, .int .i64 ((k : Int) - 1)), (4, .ptr 4 0), (6, .ptr 8 0)] [(8, zt), (4, tcs ((sTreeDo x cl8).1)), (0, rdc b q9)] [true, true, true] ?_ ?_ (by kernel_rfl) (by (try rw [show ((k : Int) - 1) = ((k - 1 : Nat) : Int) by omega]); try kernel_rfl))
 (try dsimp only); omega
 refine ⟨?_, rfl⟩; (try dsimp only); exact ⟨by omega, by omega, by omega⟩
 try simp only [KF] at c12
 refine Sk (Bn (Jn (hK6 (Kp [0, 2, 4, 6] (Rn (Av1 (r := .int .i64 (IntKind.i64.wrap ((k : Int) - 1))) (v := .int .i64 ((k : Int) - 1)) 2 12 [(11, .int .i64 k)] (congrArg (AV.int .i64) (wrap64 (by omega) (by omega))) (Ki /\ ·) ⟨rfl, Gn0 [(2, .int .i64 ((k : Int) - 1))] (nk_n ?_)⟩))))))
 refine Lr (x, q9, k - 1) [(0, 0), (4, 4), (8, 8)] 12 [(0, .ptr 0 0), (2, .int .i64 ((k : Int) - 1)), (4, .ptr 4 0), (6, .ptr 8 0)] [(8, zt), (4, tcs x), (0, rdc b q9)] [true, true, true] ?_ ?_ (by kernel_rfl) (by (try rw [show ((k : Int) - 1) = ((k - 1 : Nat) : Int) by omega]); try kernel_rfl)
 (try dsimp only); omega
 refine ⟨?_, rfl⟩; (try dsimp only); exact ⟨by omega, by omega, by omega⟩
 try simp only [KF] at c5
 refine Xt (Jx (Lx (Bh (Jn (hK2 (Kp [4, 6] (Rr (Fn3 [6] [] [(8, tcs x), (4, tcs x), (0, rdc b q)] 12 ((0 + 5 <= 5 /\ 0 < 5) /\ (true = true /\ 5 = 5 /\ 0 + 5 <= 5) /\ ·) ⟨(by decide), (by decide), Rt1 ((0 + 5 <= 5 /\ 0 < 5) /\ ·) (.agg (tcs x)) ⟨(by decide), ?_⟩⟩))))))))
 exact fin_rc q (by first | exact lea_refl _ | simp [lea, leas, pth, tcs]) (by simp only [go_sem]) (by kernel_rfl) ⟨x, by omega, rfl, by omega⟩
theorem l4Tree_ok (b : Str) (p : Nat) (hp : p < 2 ^ 25) (hb : b.length < 2 ^ 30) : RC G 11 [] b p (fun r p' => ∃ x : Tr, x.W < 2 ^ 12 /\ r = .agg (tcs x) /\ p' <= p + 1000) := by
 refine h_rc (F := [(0, .ptr 0 0)]) (by simp only [go_sem]) Tryz.func11 (by kernel_rfl) (by kernel_rfl) ?_ (by kernel_rfl)
 refine Rr (Fn2 [0] [(2, .ptr 4 0)] [(4, zt), (0, rdc b p)] 8 (Rr (Bc0 2 [(8, .ptr 0 0)] 12 [.ptr 0 0, .int .i64 8] 9 (RC.use (pick_ok b p 8 (by omega) (by omega) (by omega) (by omega)) (by kernel_rfl) fun r p1 hr => ?_)))); obtain ⟨pk3, hpk3, rfl, rfl⟩ := hr
 refine Ke (Bc0 2 [(10, .ptr 0 0)] 12 [.ptr 0 0, .int .i64 2] 11 (RC.use (pick_ok b (p + 1) 2 (by omega) (by omega) (by omega) (by omega)) (by kernel_rfl) fun r p1 hr => ?_)); obtain ⟨pk4, hpk4, rfl, rfl⟩ := hr
 refine Ke ?_
 have hm5 := Nat.mul_lt_mul'' hpk3 hpk4
 refine Av1 1 12 [] (congrArg (AV.int .i64) (wnm pk3 pk4 (by omega))) (Ki /\ ·) ⟨rfl, Fn3 [0, 2] [(3, .ptr 8 0)] [(8, [.bool true, .int .i64 ((pk3 * pk4 : Nat) : Int), .str [], .nils, .nils]), (4, zt), (0, rdc b (p + 1 + 1))] 12 ((true = true /\ 5 = 5 /\ 0 + 5 <= 5) /\ ·) ⟨(by decide), Sq fun K6 hK6 => ?_⟩⟩
 refine Rr (Bc0 2 [(14, .ptr 0 0)] 12 [.ptr 0 0, .int .i64 12] 15 (RC.use (pick_ok b (p + 1 + 1) 12 (by omega) (by omega) (by omega) (by omega)) (by kernel_rfl) fun r p1 hr => ?_)); obtain ⟨pk8, hpk8, rfl, rfl⟩ := hr
 refine Ke (Fn0 [0, 2, 3] [(4, .int .i64 pk8)] (Bl (h_lo (H' := [(8, tcs ((Tr.mk true ((pk3 * pk4 : Nat) : Int) [] [] []))), (4, zt), (0, rdc b (p + 1 + 1 + 1))]) ⟨⟨rfl, (by simp [lea, leas, pth, tcs, clc])⟩, ⟨rfl, leas_refl _⟩, ⟨rfl, leas_refl _⟩, trivial⟩ (h_l (fun (z : Tr × Nat × Nat) => (match z with | (x, q, k) => ([(0, .ptr 0 0), (2, .ptr 4 0), (3, .ptr 8 0), (4, .int .i64 k)] : Fr))) (fun (z : Tr × Nat × Nat) => (match z with | (x, q, k) => ([(8, tcs x), (4, zt), (0, rdc b q)] : Hp))) (fun (z : Tr × Nat × Nat) cn => (match z with | (x, q, k) => (x.W < 2 ^ 12 /\ q + 20 * k <= p + 600 /\ k <= 12) /\ cn = 12)) (fun (z : Tr × Nat × Nat) => z.2.2) (((Tr.mk true ((pk3 * pk4 : Nat) : Int) [] [] [])), p + 1 + 1 + 1, pk8) (by kernel_rfl) ?_ ?_ ?_ ?_))))
 refine ⟨?_, rfl⟩; exact ⟨by simp [Tr.W, wS, Tr.Ws], by omega, by omega⟩
 exact ⟨by kernel_rfl, by kernel_rfl, by kernel_rfl, by kernel_rfl, trivial⟩
 exact (sub_c (by kernel_rfl) (sub_c (by kernel_rfl) (sub_c (by kernel_rfl) (List.nil_sublist _))))
 rintro ⟨x, q, k⟩ n1 hI
 (try dsimp only at hI)
 obtain ⟨⟨hi1, hi2, hi3⟩, rfl⟩ := hI
 refine Sq fun K9 hK9 => ?_
 refine Rr (Cn1 (decide ((0 : Int) < ((k : Int) : Int))) [0, 2, 3, 4] [] (Ki /\ ·) ⟨rfl, fun hc11 c11 => ?_, fun hc11 c11 => ?_⟩)
 try simp only [KF] at c11
 refine Sk (Jn (hK9 (Kp [0, 2, 3, 4] (Sq fun K12 hK12 => ?_))))
 refine Bl (Qr [0, 1, 3, 0, 0, 27, 63, 0, 255] [(0, []), (3, []), (4, []), (1, [4]), (2, []), (5, []), (6, []), (7, [4]), (8, [])] (qBc1 4 [(24, .agg (tcs x)), (23, .ptr 0 0), (20, .ptr 0 0)] [4] 12 [.ptr 0 0, .int .i64 2] 21 ((0 + 5 <= 5 /\ 0 < 5) /\ ·) ⟨(by decide), RC.use (pick_ok b q 2 (by omega) (by omega) (by omega) (by omega)) (by kernel_rfl) fun r p1 hr => ?_⟩)); obtain ⟨pk14, hpk14, rfl, rfl⟩ := hr
 refine Kq (p := (((0 + 5 <= 5 /\ 0 < 5) /\ (AV.agg (tcs x) = (.agg (tcs x) : AV))) /\ True)) ⟨⟨(by decide), rfl⟩, trivial⟩ ?_
 refine qAv1 1 22 [] (congrArg (AV.int .i64) (wnn 1 pk14 (by omega))) (Ki /\ ·) ⟨rfl, qBc0 1 [] [] 29 [.ptr 0 0, .agg (tcs x)] 25 (RC.use (l4Path_ok b (q + 1) x (by omega) (by omega) (by omega)) (by kernel_rfl) fun r q16 hr => ?_)⟩; obtain ⟨o15, h0o15, h1o15, h2o15, rfl, h3o15⟩ := hr
 refine Kq (p := (True)) trivial ?_
 refine qFn3 [0, 2, 3, 4] [(5, .ptr 12 0)] [(12, [.int .i64 ((1 + pk14 : Nat) : Int), pth o15, .nils, .int .i64 0, .str []]), (8, tcs x), (4, zt), (0, rdc b q16)] 16 ((((0 + 5 <= 5 /\ 0 < 5) /\ (AV.agg (tcs x) = (.agg (tcs x) : AV))) /\ True) /\ (true = true /\ 5 = 5 /\ 0 + 5 <= 5) /\ (True) /\ ·) ⟨⟨⟨(by decide), rfl⟩, trivial⟩, (by decide), trivial, Sq fun K17 hK17 => ?_⟩
 refine Rr (Cn1 (decide (((1 + pk14 : Nat) : Int) = 2)) [0, 2, 3, 4, 5] [] (((1 : Nat) ≠ 0) /\ (0 + 1 <= 5 /\ 0 < 5) /\ Ki /\ ·) ⟨(by decide), (by decide), rfl, fun hc19 c19 => ?_, fun hc19 c19 => ?_⟩)
 try simp only [KF] at c19
 refine Rb (fun h => Jn (hK17 h)) (Bc0 2 [(30, .ptr 0 0)] 30 [.ptr 0 0] 31 (RC.use (l4Data_ok b q16 (by omega) (by omega)) (by kernel_rfl) fun r p1 hr => ?_)); obtain ⟨ds20, hds20, rfl, rfl⟩ := hr
 refine Ke (Fn3 [0, 2, 3, 4, 5] [] [(12, [.int .i64 ((1 + pk14 : Nat) : Int), pth o15, .nils, .int .i64 0, .str ds20]), (8, tcs x), (4, zt), (0, rdc b (q16 + 1 + 1))] 16 (((1 : Nat) ≠ 0) /\ (true = true /\ 1 = 1 /\ 4 + 1 <= 5) /\ ·) ⟨(by decide), (by decide), Rr (Bc1 3 [(35, .agg [.int .i64 ((1 + pk14 : Nat) : Int), pth o15, .nils, .int .i64 0, .str ds20]), (34, .agg (tcs x))] 7 [.agg (tcs x), .agg [.int .i64 ((1 + pk14 : Nat) : Int), pth o15, .nils, .int .i64 0, .str ds20]] 36 ((0 + 5 <= 5 /\ 0 < 5) /\ (0 + 5 <= 5 /\ 0 < 5) /\ ·) ⟨(by decide), (by decide), ?_⟩)⟩)
 have hB22 := W_sTreeDo x (Cl.mk ((1 + pk14 : Nat) : Int) o15 [] 0 ds20) (by omega)
 refine TCall_le [.agg (tcs x), .agg (clc (Cl.mk ((1 + pk14 : Nat) : Int) o15 [] 0 ds20))] (by simp [lea, leas, pth, Tr.none, tcs, clc]) ?_
 refine PE.use (sTreeDo_ok x (Cl.mk ((1 + pk14 : Nat) : Int) o15 [] 0 ds20) (by omega) (by first | omega | decide | (dsimp only; first | omega | decide)) (by first | omega | decide | (dsimp only; first | omega | decide)) (by first | omega | decide | (dsimp only; first | omega | decide))) ?_
 refine Ke (Fn3 [0, 2, 3, 4] [(7, .int .i64 ((sTreeDo x (Cl.mk ((1 + pk14 : Nat) : Int) o15 [] 0 ds20)).2)), (6, .ptr 16 0)] [(16, tcs ((sTreeDo x (Cl.mk ((1 + pk14 : Nat) : Int) o15 [] 0 ds20)).1)), (12, [.int .i64 ((1 + pk14 : Nat) : Int), pth o15, .nils, .int .i64 0, .str ds20]), (8, tcs x), (4, zt), (0, rdc b (q16 + 1 + 1))] 20 ((0 < 2) /\ (1 < 2) /\ (true = true /\ 5 = 5 /\ 0 + 5 <= 5) /\ ·) ⟨(by decide), (by decide), (by decide), Rr (Cn1 (decide (((sTreeDo x (Cl.mk ((1 + pk14 : Nat) : Int) o15 [] 0 ds20)).2 : Int) = (0 : Int))) [0, 2, 3, 4, 6] [] (Ki /\ ·) ⟨rfl, fun hc24 c24 => ?_, fun hc24 c24 => ?_⟩)⟩)
 try simp only [KF] at c24
 refine Rb (fun h => Bn (Jn (hK12 h))) (Fn3 [0, 2, 3, 4] [] [(16, tcs ((sTreeDo x (Cl.mk ((1 + pk14 : Nat) : Int) o15 [] 0 ds20)).1)), (12, [.int .i64 ((1 + pk14 : Nat) : Int), pth o15, .nils, .int .i64 0, .str ds20]), (8, tcs ((sTreeDo x (Cl.mk ((1 + pk14 : Nat) : Int) o15 [] 0 ds20)).1)), (4, zt), (0, rdc b (q16 + 1 + 1))] 20 ((0 + 5 <= 5 /\ 0 < 5) /\ (true = true /\ 5 = 5 /\ 0 + 5 <= 5) /\ ·) ⟨(by decide), (by decide), Rn (Av1 (r := .int .i64 (IntKind.i64.wrap ((k : Int) - 1))) (v := .int .i64 ((k : Int) - 1)) 2 19 [(18, .int .i64 k)] (congrArg (AV.int .i64) (wrap64 (by omega) (by omega))) (Ki /\ ·) ⟨rfl, Gn0 [(4, .int .i64 ((k : Int) - 1))] ?_⟩)⟩)
 refine nk_n (Lr (((sTreeDo x (Cl.mk ((1 + pk14 : Nat) : Int) o15 [] 0 ds20)).1), q16 + 1 + 1, k - 1) [(0, 0), (4, 4), (8, 8)] 12 [(0, .ptr 0 0), (2, .ptr 4 0), (3, .ptr 8 0), (4, .int .i64 ((k : Int) - 1))] [(8, tcs ((sTreeDo x (Cl.mk ((1 + pk14 : Nat) : Int) o15 [] 0 ds20)).1)), (4, zt), (0, rdc b (q16 + 1 + 1))] [true, true, true] ?_ ?_ (by kernel_rfl) (by (try rw [show ((k : Int) - 1) = ((k - 1 : Nat) : Int) by omega]); try kernel_rfl))
 (try dsimp only); omega
 refine ⟨?_, rfl⟩; (try dsimp only); exact ⟨by omega, by omega, by omega⟩
 try simp only [KF] at c24
 refine Sk (Bn (Jn (hK12 (Kp [0, 2, 3, 4] (Rn (Av1 (r := .int .i64 (IntKind.i64.wrap ((k : Int) - 1))) (v := .int .i64 ((k : Int) - 1)) 2 19 [(18, .int .i64 k)] (congrArg (AV.int .i64) (wrap64 (by omega) (by omega))) (Ki /\ ·) ⟨rfl, Gn0 [(4, .int .i64 ((k : Int) - 1))] (nk_n ?_)⟩))))))
 refine Lr (x, q16 + 1 + 1, k - 1) [(0, 0), (4, 4), (8, 8)] 12 [(0, .ptr 0 0), (2, .ptr 4 0), (3, .ptr 8 0), (4, .int .i64 ((k : Int) - 1))] [(8, tcs x), (4, zt), (0, rdc b (q16 + 1 + 1))] [true, true, true] ?_ ?_ (by kernel_rfl) (by (try rw [show ((k : Int) - 1) = ((k - 1 : Nat) : Int) by omega]); try kernel_rfl)
 (try dsimp only); omega
 refine ⟨?_, rfl⟩; (try dsimp only); exact ⟨by omega, by omega, by omega⟩
 try simp only [KF] at c19
 refine Sk (Jn (hK17 (Kp [0, 2, 3, 4, 5] (Rr (Bc1 3 [(35, .agg [.int .i64 ((1 + pk14 : Nat) : Int), pth o15, .nils, .int .i64 0, .str []]), (34, .agg (tcs x))] 7 [.agg (tcs x), .agg [.int .i64 ((1 + pk14 : Nat) : Int), pth o15, .nils, .int .i64 0, .str []]] 36 ((0 + 5 <= 5 /\ 0 < 5) /\ (0 + 5 <= 5 /\ 0 < 5) /\ ·) ⟨(by decide), (by decide), ?_⟩)))))
 have hB26 := W_sTreeDo x (Cl.mk ((1 + pk14 : Nat) : Int) o15 [] 0 []) (by omega)
 refine TCall_le [.agg (tcs x), .agg (clc (Cl.mk ((1 + pk14 : Nat) : Int) o15 [] 0 []))] (by simp [lea, leas, pth, Tr.none, tcs, clc]) ?_
 refine PE.use (sTreeDo_ok x (Cl.mk ((1 + pk14 : Nat) : Int) o15 [] 0 []) (by omega) (by first | omega | decide | (dsimp only; first | omega | decide)) (by first | omega | decide | (dsimp only; first | omega | decide)) (by first | omega | decide | (dsimp only; first | omega | decide))) ?_
 refine Ke (Fn3 [0, 2, 3, 4] [(7, .int .i64 ((sTreeDo x (Cl.mk ((1 + pk14 : Nat) : Int) o15 [] 0 [])).2)), (6, .ptr 16 0)] [(16, tcs ((sTreeDo x (Cl.mk ((1 + pk14 : Nat) : Int) o15 [] 0 [])).1)), (12, [.int .i64 ((1 + pk14 : Nat) : Int), pth o15, .nils, .int .i64 0, .str []]), (8, tcs x), (4, zt), (0, rdc b q16)] 20 ((0 < 2) /\ (1 < 2) /\ (true = true /\ 5 = 5 /\ 0 + 5 <= 5) /\ ·) ⟨(by decide), (by decide), (by decide), Rr (Cn1 (decide (((sTreeDo x (Cl.mk ((1 + pk14 : Nat) : Int) o15 [] 0 [])).2 : Int) = (0 : Int))) [0, 2, 3, 4, 6] [] (Ki /\ ·) ⟨rfl, fun hc28 c28 => ?_, fun hc28 c28 => ?_⟩)⟩)
 try simp only [KF] at c28
 refine Rb (fun h => Bn (Jn (hK12 h))) (Fn3 [0, 2, 3, 4] [] [(16, tcs ((sTreeDo x (Cl.mk ((1 + pk14 : Nat) : Int) o15 [] 0 [])).1)), (12, [.int .i64 ((1 + pk14 : Nat) : Int), pth o15, .nils, .int .i64 0, .str []]), (8, tcs ((sTreeDo x (Cl.mk ((1 + pk14 : Nat) : Int) o15 [] 0 [])).1)), (4, zt), (0, rdc b q16)] 20 ((0 + 5 <= 5 /\ 0 < 5) /\ (true = true /\ 5 = 5 /\ 0 + 5 <= 5) /\ ·) ⟨(by decide), (by decide), Rn (Av1 (r := .int .i64 (IntKind.i64.wrap ((k : Int) - 1))) (v := .int .i64 ((k : Int) - 1)) 2 19 [(18, .int .i64 k)] (congrArg (AV.int .i64) (wrap64 (by omega) (by omega))) (Ki /\ ·) ⟨rfl, Gn0 [(4, .int .i64 ((k : Int) - 1))] ?_⟩)⟩)
 refine nk_n (Lr (((sTreeDo x (Cl.mk ((1 + pk14 : Nat) : Int) o15 [] 0 [])).1), q16, k - 1) [(0, 0), (4, 4), (8, 8)] 12 [(0, .ptr 0 0), (2, .ptr 4 0), (3, .ptr 8 0), (4, .int .i64 ((k : Int) - 1))] [(8, tcs ((sTreeDo x (Cl.mk ((1 + pk14 : Nat) : Int) o15 [] 0 [])).1)), (4, zt), (0, rdc b q16)] [true, true, true] ?_ ?_ (by kernel_rfl) (by (try rw [show ((k : Int) - 1) = ((k - 1 : Nat) : Int) by omega]); try kernel_rfl))
 (try dsimp only); omega
 refine ⟨?_, rfl⟩; (try dsimp only); exact ⟨by omega, by omega, by omega⟩
 try simp only [KF] at c28
 refine Sk (Bn (Jn (hK12 (Kp [0, 2, 3, 4] (Rn (Av1 (r := .int .i64 (IntKind.i64.wrap ((k : Int) - 1))) (v := .int .i64 ((k : Int) - 1)) 2 19 [(18, .int .i64 k)] (congrArg (AV.int .i64) (wrap64 (by omega) (by omega))) (Ki /\ ·) ⟨rfl, Gn0 [(4, .int .i64 ((k : Int) - 1))] (nk_n ?_)⟩))))))
 refine Lr (x, q16, k - 1) [(0, 0), (4, 4), (8, 8)] 12 [(0, .ptr 0 0), (2, .ptr 4 0), (3, .ptr 8 0), (4, .int .i64 ((k : Int) - 1))] [(8, tcs x), (4, zt), (0, rdc b q16)] [true, true, true] ?_ ?_ (by kernel_rfl) (by (try rw [show ((k : Int) - 1) = ((k - 1 : Nat) : Int) by omega]); try kernel_rfl)
 (try dsimp only); omega
 refine ⟨?_, rfl⟩; (try dsimp only); exact ⟨by omega, by omega, by omega⟩
 try simp only [KF] at c11
 refine Xt (Jx (Lx (Bh (Jn (hK6 (Kp [0, 2, 3] (Qr [0, 0, 0, 4, 15, 31] [(0, []), (1, []), (2, []), (3, [1]), (4, []), (5, [])] (qBc1 4 [(44, .ptr 0 0), (43, .agg (tcs x)), (42, .ptr 0 0)] [1] 12 [.ptr 0 0, .int .i64 6] 45 ((0 + 5 <= 5 /\ 0 < 5) /\ ·) ⟨(by decide), RC.use (pick_ok b q 6 (by omega) (by omega) (by omega) (by omega)) (by kernel_rfl) fun r p1 hr => ?_⟩)))))))); obtain ⟨pk30, hpk30, rfl, rfl⟩ := hr
 refine Kq (p := (((0 + 5 <= 5 /\ 0 < 5) /\ (AV.agg (tcs x) = (.agg (tcs x) : AV))) /\ True)) ⟨⟨(by decide), rfl⟩, trivial⟩ ?_
 refine qBc0 1 [] [] 31 [.ptr 0 0, .agg (tcs x), .int .i64 pk30] 46 ?_
 refine RC.use (l4Calls_ok b (q + 1) x pk30 (by omega) (by omega) (by omega) (by omega)) (by kernel_rfl) fun r q32 hr => ?_; obtain ⟨x31, h1x31, rfl, h3x31⟩ := hr
 refine Kq (p := (True)) trivial ?_
 refine qFn3 [2] [] [(8, tcs x), (4, tcs x31), (0, rdc b q32)] 12 ((true = true /\ 5 = 5 /\ 0 + 5 <= 5) /\ (True) /\ ·) ⟨(by decide), trivial, Rt1 ((0 + 5 <= 5 /\ 0 < 5) /\ ·) (.agg (tcs x31)) ⟨(by decide), ?_⟩⟩
 exact fin_rc q32 (by first | exact lea_refl _ | simp [lea, leas, pth, tcs]) (by simp only [go_sem]) (by kernel_rfl) ⟨x31, by omega, rfl, by omega⟩
end Go.Proofs.YtoekdppgejhikaaGreatT
