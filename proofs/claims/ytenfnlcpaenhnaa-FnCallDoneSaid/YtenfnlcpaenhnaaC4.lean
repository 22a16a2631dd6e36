/- A part of the proof that FnCallDone, on every slice of bytes, returns true (no conditions): rules of the walk, and what the functions compute. -/
import Derived.Test.YtenfnlcpaenhnaaC3
set_option linter.unusedVariables false
set_option linter.unusedSimpArgs false
namespace Go.Proofs.YtenfnlcpaenhnaaT
open Go
theorem er_mk (d : Bool) (m : Int) (s : Str) (i : Option (Nat × Nat)) (ns : List Str) (ks : List OT) : er (.mk d m s i ns ks) = .mk d m s ns (ks.map er) := by simp only [er, ers_map]
theorem er_names (t : OT) : (er t).names = t.names := by rw [er_eq]; rfl
theorem er_kids (t : OT) : (er t).kids = t.kids.map er := by rw [er_eq]; rfl
theorem er_dir (t : OT) : (er t).dir = t.dir := by rw [er_eq]; rfl
theorem er_mode (t : OT) : (er t).mode = t.mode := by rw [er_eq]; rfl
theorem er_data (t : OT) : (er t).data = t.data := by rw [er_eq]; rfl
theorem getD_er' (ks : List OT) (k : Nat) : (ks.map er).getD k default = er (ks.getD k default) := getD_er ks k
theorem orep_tset {x : Tr} {g : Bool} {nm : Str} : ∀ (q : List Str) (T u u' : OT), owf T -> tnd (er T) -> oat T q = some u -> er u' = tset [nm] (er u) x g -> er (orep T q u') = tset (q ++ [nm]) (er T) x g
 | [], T, u, u', _, _, he, hu => by simp only [oat, Option.some.injEq] at he; subst he; exact hu
 | n :: q, T, u, u', hw, hn, he, hu => by
  rw [oat] at he
  rw [orep, List.cons_append, tset_deep (wf_len hw) ((tnd_eq _).1 hn).1 (by simp), er_names]
  cases hf : fnd n T.names with
  | none => exact absurd he (by rw [hf]; simp)
  | some k =>
   rw [hf] at he
   have hk : k < T.kids.length := by rw [<- owf_len hw]; exact fnd_lt hf
   have hn2 : tnd (er (T.kids.getD k default)) := by
    have := tnds_get ((tnd_eq _).1 hn).2 (k := k) (by rw [er_kids]; simpa using hk)
    rwa [er_kids, getD_er'] at this
   dsimp only
   rw [er_mk, List.map_set, orep_tset q _ u u' (owf_kid hw hk) hn2 he hu, er_kids, getD_er', er_dir, er_mode, er_data]
theorem orep_snoc : ∀ (q : List Str) (T u y : OT) (nm : Str) (k : Nat), oat T q = some u -> fnd nm u.names = some k -> orep T (q ++ [nm]) y = orep T q (.mk u.dir u.mode u.data u.ids u.names (u.kids.set k y))
 | [], T, u, y, nm, k, he, hk => by
  simp only [oat, Option.some.injEq] at he; subst he
  simp only [List.nil_append, orep, hk]
 | n :: q, T, u, y, nm, k, he, hk => by
  rw [oat] at he
  rw [List.cons_append, orep, orep]
  cases hf : fnd n T.names with
  | none => rfl
  | some j =>
   rw [hf] at he
   dsimp only
   rw [orep_snoc q _ u y nm k he hk]
theorem shps_set : ∀ {ks : List OT}, shps ks -> ∀ {k : Nat} {y : OT}, shp y -> shps (ks.set k y)
 | [], _, k, y, _ => by simp [shps]
 | t :: ts, h, 0, y, hy => ⟨hy, h.2⟩
 | t :: ts, h, k + 1, y, hy => ⟨h.1, shps_set (ks := ts) h.2 hy⟩
theorem asms_set : ∀ {ks : List OT}, asms ks -> ∀ {k : Nat} {y : OT}, asm y -> asms (ks.set k y)
 | [], _, k, y, _ => by simp [asms]
 | t :: ts, h, 0, y, hy => ⟨hy, h.2⟩
 | t :: ts, h, k + 1, y, hy => ⟨h.1, asms_set (ks := ts) h.2 hy⟩
theorem orep_shp : ∀ {q : List Str} {T u u' : OT}, owf T -> shp T -> oat T q = some u -> shp u' -> shp (orep T q u')
 | [], T, u, u', _, _, _, h => h
 | n :: q, T, u, u', hw, hs, he, h => by
  rw [oat] at he
  rw [orep]
  cases hf : fnd n T.names with
  | none => exact hs
  | some k =>
   rw [hf] at he
   have hk : k < T.kids.length := by rw [<- owf_len hw]; exact fnd_lt hf
   have h1 := (shp_eq T).1 hs
   refine (shp_eq _).2 ⟨fun hi => ?_, shps_set h1.2 (orep_shp (owf_kid hw hk) (shps_get h1.2 hk) he h)⟩
   have := (h1.1 hi).2
   rw [this] at hk; simp at hk
theorem orep_asm : ∀ {q : List Str} {T u u' : OT}, owf T -> asm T -> oat T q = some u -> asm u' -> asm (orep T q u')
 | [], T, u, u', _, _, _, h => h
 | n :: q, T, u, u', hw, hs, he, h => by
  rw [oat] at he
  rw [orep]
  cases hf : fnd n T.names with
  | none => exact hs
  | some k =>
   rw [hf] at he
   have hk : k < T.kids.length := by rw [<- owf_len hw]; exact fnd_lt hf
   have h1 := (asm_eq T).1 hs
   exact (asm_eq _).2 ⟨h1.1, asms_set h1.2 (orep_asm (owf_kid hw hk) (asms_get h1.2 hk) he h)⟩
theorem orep_tnd : ∀ {q : List Str} {T u u' : OT}, owf T -> tnd (er T) -> oat T q = some u -> tnd (er u') -> tnd (er (orep T q u'))
 | [], T, u, u', _, _, _, h => h
 | n :: q, T, u, u', hw, hs, he, h => by
  rw [oat] at he
  rw [orep]
  cases hf : fnd n T.names with
  | none => exact hs
  | some k =>
   rw [hf] at he
   have hk : k < T.kids.length := by rw [<- owf_len hw]; exact fnd_lt hf
   have h1 := (tnd_eq _).1 hs
   rw [er_names, er_kids] at h1
   have h2 := tnds_get h1.2 (k := k) (by simpa using hk)
   rw [getD_er'] at h2
   rw [er_mk, List.map_set]
   exact (tnd_eq _).2 ⟨h1.1, tnds_set h1.2 (orep_tnd (owf_kid hw hk) h2 he h)⟩
theorem osm_W : ∀ {B : Nat} (t : OT), (er t).W <= B -> osm B t
 | B, .mk d m s i ns ks, h => by
  simp only [er, Tr.W] at h
  have := wS_len ns
  refine ⟨by omega, osms_W ks (by omega)⟩
where osms_W : ∀ {B : Nat} (ks : List OT), Tr.Ws (ers ks) <= B -> osms B ks
 | B, [], _ => trivial
 | B, t :: ts, h => by
  simp only [ers, Tr.Ws] at h
  exact ⟨osm_W t (by omega), osms_W ts (by omega)⟩
section
variable {Z W : Hp} {r : Nat} {A0 B0 : List AV} {T : OT}
def Lies' (Z : Hp) (r : Nat) (A0 B0 : List AV) (T : OT) (W : Hp) : Prop := Z.Perm ((r, A0 ++ otc T ++ B0) :: (objs T ++ W)) /\ odH Z
theorem kidL {q : List Str} {u : OT} {i o : Nat} (nm : Str) (hL : Lies Z r A0 B0 T W) (hu : oat T q = some u) (ho : opos T r A0.length q = some (i, o)) :
  DC G 46 [.ptr i o, .str nm] Z (fun r' Z' => Z' = Z /\ r' = oad (opos T r A0.length (q ++ [nm]))) := by
 obtain ⟨i', A, B, Wo, q1, q2, q3, q4, q5, q6⟩ := hL.foc hu
 rw [ho] at q1; cases q1
 refine (kid_ok (t := u) nm hL.odd q2 q3 q4 (by omega)).mono ?_
 rintro _ _ ⟨rfl, rfl⟩
 refine ⟨rfl, ?_⟩
 rw [okid_oad u nm i A.length, opos_snoc, ho, hu]
theorem objss_set {ks : List OT} {k : Nat} {x : OT} (hk : k < ks.length) (hx : objs x = objs (ks.getD k default)) : objss (ks.set k x) = objss ks := by
 conv => rhs; rw [get_split ks k hk default]
 rw [set_split ks k hk, objss_app, objss_app]
 simp only [objss, hx]
theorem putL_hit {q : List Str} {u x : OT} {i o k a b : Nat} (nm : Str) (hL : Lies Z r A0 B0 T W) (hu : oat T q = some u) (ho : opos T r A0.length q = some (i, o)) (hids : u.ids = some (a, b)) (hasc : asc u.names = true) (hk : fnd nm u.names = some k) (hx : objs x = objs (u.kids.getD k default)) :
  DC G 55 [.ptr i o, .str nm, .agg (otc x)] Z (fun _ Z' => Lies' Z' r A0 B0 (orep T (q ++ [nm]) x) W) := by
 obtain ⟨i', A, B, Wo, q1, q2, q3, q4, q5, q6⟩ := hL.foc hu
 rw [ho] at q1; cases q1
 refine (put_ok (t := u) nm x a b hids hL.odd q2 q3 q4 q5 hasc).mono ?_
 rintro _ Z' ⟨t', hp, hz, h⟩
 have hkl := fnd_lt hk
 have hkn := fnd_some hk
 have ht' : t' = .mk u.dir u.mode u.data u.ids u.names (u.kids.set k x) := by
  rcases h with ⟨j, h1, h2, h3⟩ | ⟨j, _, _, h1, h2, h3, h4, _⟩
  ·have : j = k := by
    rcases Nat.decEq j k with hne | heq
    ·exact absurd (by rw [h2, hkn]) (nd_ne (asc_nd hasc) h1 hkl hne)
    ·exact heq
   rw [h3, this]
  ·exfalso
   rcases Nat.lt_trichotomy k j with hlt | heq | hgt
   ·have := h2 k hlt; rw [hkn, blt_irr] at this; cases this
   ·subst heq; exact h4 hkl hkn
   ·have := asc_lt hasc hgt hkl
    rw [hkn, h3 j (Nat.le_refl _) (by omega)] at this; cases this
 refine ⟨?_, hz⟩
 rw [orep_snoc q T u x nm k hu hk]
 rw [ht'] at hp
 refine hp.trans ((q6 _).trans ?_).symm
 rw [objs_eq]
 simp only [OT.kids_mk]
 rw [objss_set (by omega) hx, <- List.append_assoc (own _)]
theorem putL_new {q : List Str} {u x : OT} {i o a b : Nat} {W' : Hp} (nm : Str) (hL : Lies Z r A0 B0 T W) (hu : oat T q = some u) (ho : opos T r A0.length q = some (i, o)) (hids : u.ids = some (a, b)) (hasc : asc u.names = true) (hk : fnd nm u.names = none) (hW : W.Perm (objs x ++ W')) :
  DC G 55 [.ptr i o, .str nm, .agg (otc x)] Z (fun _ Z' => ∃ (j k k' : Nat) (u' : OT), j <= u.names.length /\ u' = .mk u.dir u.mode u.data (some (k, k')) (u.names.take j ++ [nm] ++ u.names.drop j) (u.kids.take j ++ [x] ++ u.kids.drop j) /\
   er u' = tset [nm] (er u) (er x) false /\ Lies' Z' r A0 B0 (orep T q u') W') := by
 obtain ⟨i', A, B, Wo, q1, q2, q3, q4, q5, q6⟩ := hL.foc hu
 rw [ho] at q1; cases q1
 refine (put_ok (t := u) nm x a b hids hL.odd q2 q3 q4 q5 hasc).mono ?_
 rintro _ Z' ⟨t', hp, hz, h⟩
 rcases h with ⟨j, h1, h2, h3⟩ | ⟨j, k, k', h1, h2, h3, h4, h5⟩
 ·exact absurd (by rw [<- h2]; simp [List.getD, h1]) (fnd_none hk)
 ·refine ⟨j, k, k', t', h1, h5, ?_, ?_, hz⟩
  ·rw [h5, tset_new (by rw [er_names, er_kids, List.length_map]; exact q4) (by rw [er_names]; exact hasc) (by rw [er_names]; exact h1) (by rw [er_names]; exact h2) (by rw [er_names]; exact h3) (by rw [er_names]; exact h4)]
   rw [er_mk, er_names, er_kids, er_dir, er_mode, er_data]
   simp only [List.map_append, List.map_take, List.map_drop, List.map_cons, List.map_nil]
  ·have e1 : (objs t').Perm (own t' ++ (objs x ++ objss u.kids)) := by
    rw [objs_eq]
    refine List.Perm.append_left _ ?_
    rw [h5]; simp only [OT.kids_mk]
    rw [List.append_assoc, objss_app, objss_app]
    conv => rhs; rw [<- List.take_append_drop j u.kids, objss_app]
    simp only [objss, List.append_nil]
    rw [<- List.append_assoc, <- List.append_assoc]
    exact List.perm_append_comm.append_right _
   have e2 := q6 t'
   refine (List.perm_append_right_iff (objs x)).1 ?_
   have e3 : (((r, A0 ++ otc (orep T q t') ++ B0) :: (objs (orep T q t') ++ W')) ++ objs x).Perm ((r, A0 ++ otc (orep T q t') ++ B0) :: (objs (orep T q t') ++ W)) := by
    rw [List.cons_append, List.append_assoc (objs (orep T q t'))]
    refine List.Perm.cons _ (List.Perm.append_left _ ?_)
    exact List.perm_append_comm.trans hW.symm
   refine List.Perm.trans ?_ e3.symm
   refine List.Perm.trans ?_ e2.symm
   refine (hp.append_right (objs x)).trans ?_
   rw [List.cons_append]
   refine List.Perm.cons _ ?_
   refine List.Perm.trans ?_ (e1.append_right Wo).symm
   simp only [List.append_assoc]
   refine List.Perm.append_left _ ?_
   rw [<- List.append_assoc (objss u.kids)]
   exact List.perm_append_comm
theorem dropL {q : List Str} {u : OT} {i o k a b : Nat} (nm : Str) (hL : Lies Z r A0 B0 T W) (hu : oat T q = some u) (ho : opos T r A0.length q = some (i, o)) (hids : u.ids = some (a, b)) (hk : fnd nm u.names = some k) :
  DC G 58 [.ptr i o, .str nm] Z (fun _ Z' => ∃ W', Lies' Z' r A0 B0 (orep T q (.mk u.dir u.mode u.data u.ids (u.names.take k ++ u.names.drop (k + 1)) (u.kids.take k ++ u.kids.drop (k + 1)))) W') := by
 obtain ⟨i', A, B, Wo, q1, q2, q3, q4, q5, q6⟩ := hL.foc hu
 rw [ho] at q1; cases q1
 refine (drop_ok (t := u) nm a b hids hL.odd q2 q3 q4 q5).mono ?_
 rintro _ Z' ⟨hp, hz⟩
 rw [hk] at hp
 dsimp only at hp
 have hkl : k < u.kids.length := by rw [<- q4]; exact fnd_lt hk
 refine ⟨W ++ objs (u.kids.getD k default), ?_, hz⟩
 generalize hu' : OT.mk u.dir u.mode u.data u.ids (u.names.take k ++ u.names.drop (k + 1)) (u.kids.take k ++ u.kids.drop (k + 1)) = u' at hp ⊢
 have e1 : (objss u.kids).Perm (objss u'.kids ++ objs (u.kids.getD k default)) := by
  conv => lhs; rw [get_split u.kids k hkl default]
  rw [<- hu', OT.kids_mk, objss_app, objss_app]
  simp only [objss, List.append_assoc]
  exact List.Perm.append_left _ List.perm_append_comm
 have e2 : ((r, A0 ++ otc (orep T q u') ++ B0) :: (objs (orep T q u') ++ (W ++ objs (u.kids.getD k default)))).Perm (((i, A ++ otc u' ++ B) :: (objs u' ++ Wo)) ++ objs (u.kids.getD k default)) := by
  have := (q6 u').append_right (objs (u.kids.getD k default))
  rwa [List.cons_append, List.append_assoc (objs (orep T q u'))] at this
 refine List.Perm.trans ?_ e2.symm
 refine hp.trans ?_
 rw [List.cons_append]
 refine List.Perm.cons _ ?_
 rw [objs_eq u']
 simp only [List.append_assoc]
 refine List.Perm.append_left _ ?_
 refine (e1.append_right Wo).trans ?_
 rw [List.append_assoc]
 exact List.Perm.append_left _ List.perm_append_comm
end
open Go Go.Proofs
theorem zrs_u8 (k : Nat) : zrs k [.int .u8 0] = ints (List.replicate k 0) := by
  simp only [zrs, ints]
  induction k with
  | zero => rfl
  | succ k ih => rw [List.replicate_succ, List.replicate_succ, List.flatten_cons, ih]; rfl
def szd (s : Str) (n : Int) : Str := if n <= (s.length : Int) then s.take n.toNat else s ++ List.replicate (n - (s.length : Int)).toNat 0
theorem szd_len {s : Str} {n : Int} (h : 0 <= n) : (szd s n).length = n.toNat := by
  unfold szd; split <;> simp <;> omega
def wrt (s : Str) (a : Int) (d : Str) : Str :=
  (fun s1 => (fun o => if (o.length : Int) < (s1.length : Int) then o ++ s1.drop o.length else o) (s1.take a.toNat ++ d)) (if (s.length : Int) < a then szd s a else s)
theorem modeOk_ok (n : Int) : PE G 50 [.int .i64 n] (.bool (inb n 0 7)) := by
 refine Pe Try.func50 ?_
 refine Rr (Fn0 [0] [] (Rr (Pc0 2 [(3, .int .i64 n)] 4 (within_ok n 0 7) (Fn0 [] [(2, .bool (inb n 0 7))] ?_))))
 refine Rt (.bool (inb n 0 7)) ?_
 exact fin_lea (lea_refl _)
theorem sized_ok (s : Str) (n : Int) (h0 : 0 <= n) (hn : n < 2 ^ 40) (hs : s.length < 2 ^ 40) : PE G 57 [.str s, .int .i64 n] (.str (szd s n)) := by
 refine Pe Try.func57 ?_
 refine Rr (Fn0 [0, 1] [] (Sq fun K2 hK2 => ?_))
 refine Rr (Cn1 (decide ((n : Int) <= ((s.length : Int) : Int))) [0, 1] [] (Ki /\ ·) ⟨rfl, fun hc4 c4 => ?_, fun hc4 c4 => ?_⟩)
 try simp only [KF] at c4
 refine Rr (Fn1 [] [(4, .str (s.take n.toNat))] ((0 <= (0 : Int) /\ (0 : Int) <= n /\ n <= (s.length : Int)) /\ ·) ⟨⟨by omega, by omega, by omega⟩, Rt (.str (s.take n.toNat)) (fin_lea ?_)⟩)
 unfold szd
 rw [if_pos (by omega)]; exact lea_refl _
 try simp only [KF] at c4
 refine Sk (Jn (hK2 (Kp [0, 1] ?_)))
 have hrl : (List.replicate (n - (s.length : Int)).toNat (0 : UInt8)).length = (n - (s.length : Int)).toNat := List.length_replicate
 refine Rr (Av1 (r := .int .i64 (IntKind.i64.wrap (n - (s.length : Int)))) (v := .int .i64 (n - (s.length : Int))) 5 16 [(15, .int .i64 s.length), (14, .str s), (13, .int .i64 n), (12, .str s)] (congrArg (AV.int .i64) (wrap64 (by omega) (by omega))) (Ki /\ ·) ⟨rfl, An3 1 [(17, .osl 0 1 0 (n - (s.length : Int)).toNat)] [(0, zrs ((n - (s.length : Int)).toNat) [.int .u8 0])] 4 (((n - (s.length : Int)) = (n - (s.length : Int)) /\ (0 : Int) <= (n - (s.length : Int)) /\ (n - (s.length : Int)).toNat * 1 <= 140737488355328 /\ (n - (s.length : Int)) <= 140737488355328) /\ ·) ⟨⟨rfl, by omega, by omega, by omega⟩, run_v (v' := .osl 0 1 0 ((List.replicate (n - (s.length : Int)).toNat (0 : UInt8)).length)) (by rw [List.length_replicate]) (run_h (cs' := ints (List.replicate (n - (s.length : Int)).toNat (0 : UInt8))) (zrs_u8 _) ?_)⟩⟩)
 refine Av1 (r := .str ((((ints (List.replicate (n - (s.length : Int)).toNat (0 : UInt8))).drop 0).take (List.replicate (n - (s.length : Int)).toNat (0 : UInt8)).length).map unu)) (v := .str (List.replicate (n - (s.length : Int)).toNat (0 : UInt8))) 1 18 [] (congrArg AV.str (unu_ints _)) (fun Z => (1 = 1 /\ 0 + (List.replicate (n - (s.length : Int)).toNat (0 : UInt8)).length <= (ints (List.replicate (n - (s.length : Int)).toNat (0 : UInt8))).length /\ allu (((ints (List.replicate (n - (s.length : Int)).toNat (0 : UInt8))).drop 0).take (List.replicate (n - (s.length : Int)).toNat (0 : UInt8)).length)) /\ Z) ⟨⟨rfl, by rw [ints_len]; omega, allu_ints _⟩, Fn1 [] [(4, .str (s ++ (List.replicate (n - (s.length : Int)).toNat (0 : UInt8))))] ((s.length + (List.replicate (n - (s.length : Int)).toNat (0 : UInt8)).length <= 9223372036854775807) /\ ·) ⟨(by omega), Rt (.str (s ++ (List.replicate (n - (s.length : Int)).toNat (0 : UInt8)))) (fin_lea ?_)⟩⟩
 unfold szd
 rw [if_neg (by omega)]; exact lea_refl _
theorem written_ok (s : Str) (a : Int) (d : Str) (h0 : 0 <= a) (ha : a < 2 ^ 40) (hs : s.length < 2 ^ 40) (hd : d.length < 2 ^ 40) : PE G 56 [.str s, .int .i64 a, .str d] (.str (wrt s a d)) := by
 refine Pe Try.func56 ?_
 refine Rr (Fn0 [0, 1, 2] [] (Sq fun K2 hK2 => ?_))
 refine Rr (Cn1 (decide ((s.length : Int) < a)) [0, 1, 2] [] (Ki /\ ·) ⟨rfl, fun hc4 c4 => ?_, fun hc4 c4 => ?_⟩)
 try simp only [KF] at c4
 refine Rb (fun h => Jn (hK2 h)) ?_
 have hzl := szd_len (s := s) h0
 refine Pc0 3 [(13, .int .i64 a), (12, .str s)] 14 (sized_ok s a (by omega) (by omega) (by omega)) (Fn0 [1, 2] [(0, .str (szd s a))] ?_)
 have hzl := szd_len (s := s) h0; have htk : (s.take a.toNat).length <= s.length := (by rw [List.length_take]; omega); have htk2 : ((szd s a).take a.toNat).length <= (szd s a).length := (by rw [List.length_take]; omega)
 refine Rr (Fn1 [0] [(7, .str (((szd s a).take a.toNat) ++ d))] ((0 <= (0 : Int) /\ (0 : Int) <= a /\ a <= ((szd s a).length : Int)) /\ (((szd s a).take a.toNat).length + d.length <= 9223372036854775807) /\ ·) ⟨⟨by omega, by omega, by omega⟩, (by omega), Sq fun K6 hK6 => ?_⟩)
 have hlt1 : (s.take a.toNat ++ d).length = (s.take a.toNat).length + d.length := List.length_append; have hlt2 : ((szd s a).take a.toNat ++ d).length = ((szd s a).take a.toNat).length + d.length := List.length_append; have hdr : (s.drop (s.take a.toNat ++ d).length).length <= s.length := by rw [List.length_drop]; omega
 have hdr2 : ((szd s a).drop ((szd s a).take a.toNat ++ d).length).length <= (szd s a).length := by rw [List.length_drop]; omega
 refine Rr (Cn1 (decide ((((((szd s a).take a.toNat) ++ d).length : Nat) : Int) < ((szd s a).length : Int))) [0, 7] [] (Ki /\ ·) ⟨rfl, fun hc8 c8 => ?_, fun hc8 c8 => ?_⟩)
 try simp only [KF] at c8
 refine Rb (fun h => Jn (hK6 h)) (Av1 (r := .str (((szd s a).take ((szd s a).length)).drop ((((szd s a).take a.toNat) ++ d).length))) (v := .str ((szd s a).drop ((((szd s a).take a.toNat) ++ d).length))) 5 29 [(28, .int .i64 (((((szd s a).take a.toNat) ++ d).length : Nat) : Int)), (27, .str (((szd s a).take a.toNat) ++ d)), (26, .str (szd s a)), (25, .str (((szd s a).take a.toNat) ++ d))] (congrArg AV.str (congrArg (List.drop _) List.take_length)) (fun Z => (0 <= ((((((szd s a).take a.toNat) ++ d).length : Nat) : Int) : Int) /\ ((((((szd s a).take a.toNat) ++ d).length : Nat) : Int) : Int) <= ((szd s a).length : Int) /\ ((szd s a).length : Int) <= ((szd s a).length : Int)) /\ Z) ⟨⟨by omega, by omega, by omega⟩, Fn1 [] [(7, .str ((((szd s a).take a.toNat) ++ d) ++ ((szd s a).drop ((((szd s a).take a.toNat) ++ d).length))))] (fun Z => ((((szd s a).take a.toNat) ++ d).length + ((szd s a).drop ((((szd s a).take a.toNat) ++ d).length)).length <= 9223372036854775807) /\ Z) ⟨(by omega), Rr (Fn0 [] [(6, .str ((((szd s a).take a.toNat) ++ d) ++ ((szd s a).drop ((((szd s a).take a.toNat) ++ d).length))))] ?_)⟩⟩)
 refine Rt (.str ((((szd s a).take a.toNat) ++ d) ++ ((szd s a).drop ((((szd s a).take a.toNat) ++ d).length)))) (fin_lea ?_)
 unfold wrt
 rw [show (if (s.length : Int) < a then szd s a else s) = szd s a from if_pos (by omega)]
 dsimp only
 rw [if_pos (by omega)]
 exact lea_refl _
 try simp only [KF] at c8
 refine Sk (Jn (hK6 (Kp [7] (Rr (Fn0 [] [(6, .str (((szd s a).take a.toNat) ++ d))] (Rt (.str (((szd s a).take a.toNat) ++ d)) (fin_lea ?_)))))))
 unfold wrt
 rw [show (if (s.length : Int) < a then szd s a else s) = szd s a from if_pos (by omega)]
 dsimp only
 rw [if_neg (by omega)]
 exact lea_refl _
 try simp only [KF] at c4
 refine Sk (Jn (hK2 (Kp [0, 1, 2] ?_)))
 have hzl := szd_len (s := s) h0; have htk : (s.take a.toNat).length <= s.length := (by rw [List.length_take]; omega); have htk2 : ((szd s a).take a.toNat).length <= (szd s a).length := (by rw [List.length_take]; omega)
 refine Rr (Fn1 [0] [(7, .str ((s.take a.toNat) ++ d))] ((0 <= (0 : Int) /\ (0 : Int) <= a /\ a <= (s.length : Int)) /\ ((s.take a.toNat).length + d.length <= 9223372036854775807) /\ ·) ⟨⟨by omega, by omega, by omega⟩, (by omega), Sq fun K12 hK12 => ?_⟩)
 have hlt1 : (s.take a.toNat ++ d).length = (s.take a.toNat).length + d.length := List.length_append; have hlt2 : ((szd s a).take a.toNat ++ d).length = ((szd s a).take a.toNat).length + d.length := List.length_append; have hdr : (s.drop (s.take a.toNat ++ d).length).length <= s.length := by rw [List.length_drop]; omega
 have hdr2 : ((szd s a).drop ((szd s a).take a.toNat ++ d).length).length <= (szd s a).length := by rw [List.length_drop]; omega
 refine Rr (Cn1 (decide ((((s.take a.toNat) ++ d).length : Int) < (s.length : Int))) [0, 7] [] (Ki /\ ·) ⟨rfl, fun hc14 c14 => ?_, fun hc14 c14 => ?_⟩)
 try simp only [KF] at c14
 refine Rb (fun h => Jn (hK12 h)) (Av1 (r := .str ((s.take s.length).drop (((s.take a.toNat) ++ d).length))) (v := .str (s.drop (((s.take a.toNat) ++ d).length))) 5 29 [(28, .int .i64 (((s.take a.toNat) ++ d).length : Int)), (27, .str ((s.take a.toNat) ++ d)), (26, .str s), (25, .str ((s.take a.toNat) ++ d))] (congrArg AV.str (congrArg (List.drop _) List.take_length)) ((0 <= ((((s.take a.toNat) ++ d).length : Int) : Int) /\ ((((s.take a.toNat) ++ d).length : Int) : Int) <= (s.length : Int) /\ (s.length : Int) <= (s.length : Int)) /\ ·) ⟨⟨by omega, by omega, by omega⟩, Fn1 [] [(7, .str (((s.take a.toNat) ++ d) ++ (s.drop (((s.take a.toNat) ++ d).length))))] ((((s.take a.toNat) ++ d).length + (s.drop (((s.take a.toNat) ++ d).length)).length <= 9223372036854775807) /\ ·) ⟨(by omega), Rr (Fn0 [] [(6, .str (((s.take a.toNat) ++ d) ++ (s.drop (((s.take a.toNat) ++ d).length))))] ?_)⟩⟩)
 refine Rt (.str (((s.take a.toNat) ++ d) ++ (s.drop (((s.take a.toNat) ++ d).length)))) (fin_lea ?_)
 unfold wrt
 rw [show (if (s.length : Int) < a then szd s a else s) = s from if_neg (by omega)]
 dsimp only
 rw [if_pos (by omega)]
 exact lea_refl _
 try simp only [KF] at c14
 refine Sk (Jn (hK12 (Kp [7] (Rr (Fn0 [] [(6, .str ((s.take a.toNat) ++ d))] (Rt (.str ((s.take a.toNat) ++ d)) (fin_lea ?_)))))))
 unfold wrt
 rw [show (if (s.length : Int) < a then szd s a else s) = s from if_neg (by omega)]
 dsimp only
 rw [if_neg (by omega)]
 exact lea_refl _
theorem begins_ok (p q : List Str) (hp : p.length < 2 ^ 60) (hq : q.length < 2 ^ 60) : PE G 70 [pth p, pth q] (.bool (q.isPrefixOf p)) := by
 refine Pe Try.func70 ?_
 refine Rr (Fn0 [0, 1] [] (Sq fun K2 hK2 => ?_))
 refine Rr (Av0 (r := .int .i64 ((p.map (fun s => [AV.str s])).length : Nat)) (v := .int .i64 p.length) 2 7 [(6, pth p)] (by rw [List.length_map]) (Av0 (r := .int .i64 ((q.map (fun s => [AV.str s])).length : Nat)) (v := .int .i64 q.length) 2 9 [(8, pth q)] (by rw [List.length_map]) (Cn1 (decide ((p.length : Int) < (q.length : Int))) [0, 1] [] (Ki /\ ·) ⟨rfl, fun hc4 c4 => ?_, fun hc4 c4 => ?_⟩)))
 try simp only [KF] at c4
 refine Rr (Fn0 [] [(4, .bool false)] (Rt (.bool false) (fin_lea ?_)))
 rw [pre_no (by omega)]; exact lea_refl _
 try simp only [KF] at c4
 refine Sk (Jn (hK2 (Kp [0, 1] (Sq fun K6 hK6 => ?_))))
 refine Rr (Av0 (r := .int .i64 ((q.map (fun s => [AV.str s])).length : Nat)) (v := .int .i64 q.length) 2 12 [(11, pth q)] (by rw [List.length_map]) (Fn0 [0, 1, 12] [(13, .int .i64 0)] (Bl (h_l (fun (k : Nat) => ([(0, pth p), (1, pth q), (12, .int .i64 q.length), (13, .int .i64 k)] : Fr)) (fun (k : Nat) => ([] : Hp)) (fun (k : Nat) cn => (k <= q.length /\ q.take k = p.take k) /\ cn = 0) (fun (k : Nat) => q.length - k) 0 (by kernel_rfl) ?_ ?_ ?_ ?_))))
 refine ⟨?_, rfl⟩; exact ⟨Nat.zero_le _, rfl⟩
 exact ⟨by kernel_rfl, by kernel_rfl, by kernel_rfl, by kernel_rfl, trivial⟩
 exact (List.nil_sublist _)
 rintro k n1 hI
 (try dsimp only at hI)
 obtain ⟨⟨hk, hpre⟩, rfl⟩ := hI
 refine Rr (Fn1 [0, 1, 12, 13] [(14, .bool (decide ((k : Int) < (q.length : Int))))] (Ki /\ ·) ⟨rfl, Sq fun K9 hK9 => ?_⟩)
 refine Cc (decide ((k : Int) < (q.length : Int))) (fun hc10 c10 => ?_) fun hc10 c10 => ?_
 try simp only [KF] at c10
 refine Sk (Jn (hK9 (Kp [0, 1, 12, 13] (Sq fun K11 hK11 => ?_))))
 refine Bl (Rr (Fn0 [0, 1, 12, 13] [(5, .int .i64 k)] (Qr [0, 0, 3, 7, 0, 0, 48, 112, 255] [(0, []), (1, []), (2, []), (3, []), (4, []), (5, []), (6, []), (7, []), (8, [])] (qAv1 3 18 [(17, .int .i64 k), (16, pth p)] (congrArg AV.pat (mg_str p k (by omega))) ((1 = 1 /\ (0 : Int) <= (k : Int) /\ (k : Int) < ((p.map (fun s => [AV.str s])).length : Int)) /\ ·) ⟨⟨rfl, by omega, by rw [List.length_map]; omega⟩, ?_⟩))))
 refine qAv1 4 22 [(21, .int .i64 k), (20, pth q), (19, .str (p.getD k default))] (congrArg AV.pat (mg_str q k (by omega))) ((1 <= 1 /\ 0 < 1) /\ (1 = 1 /\ (0 : Int) <= (k : Int) /\ (k : Int) < ((q.map (fun s => [AV.str s])).length : Int)) /\ ·) ⟨(by decide), ⟨rfl, by omega, by rw [List.length_map]; omega⟩, qCn1 (!((p.getD k default) == (q.getD k default))) [0, 1, 12, 13] [] ((1 <= 1 /\ 0 < 1) /\ ·) ⟨(by decide), fun hc14 c14 => ?_, fun hc14 c14 => ?_⟩⟩
 try simp only [KF] at c14
 refine Rr (Fn0 [] [(4, .bool false)] (Rt (.bool false) (fin_lea ?_)))
 rw [pre_ne (k := k) (by omega) (by simpa using hc14)]; exact lea_refl _
 try simp only [KF] at c14
 refine Sk (Bn (Jn (hK11 (Kp [0, 1, 12, 13] (Rn (Av1 1 25 [] (congrArg (AV.int .i64) (wn1 k (by omega))) (Ki /\ ·) ⟨rfl, Gn0 [(13, .int .i64 ((k + 1 : Nat) : Int))] (nk_n ?_)⟩))))))
 refine Lr (k + 1) [] 0 [(0, pth p), (1, pth q), (12, .int .i64 q.length), (13, .int .i64 ((k + 1 : Nat) : Int))] [] [] ?_ ?_ (by kernel_rfl) (by kernel_rfl)
 (try dsimp only); omega
 refine ⟨?_, rfl⟩; (try dsimp only); refine ⟨by omega, ?_⟩; rw [take_snoc q k default (by omega), take_snoc p k default (by omega), hpre]; congr 2; symm; simpa using hc14
 try simp only [KF] at c10
 refine Xt (Jx (Lx (Bh (Jn (hK6 (Kp [] (Rr (Fn0 [] [(4, .bool true)] (Rt (.bool true) (fin_lea ?_))))))))))
 rw [pre_yes (by omega) hpre]; exact lea_refl _
theorem sound_ok : ∀ (N : Nat) (t : Tr) (n : Int), t.W = N -> t.W < 2 ^ 40 -> 0 <= n -> n <= 5 -> PE G 32 [.agg (tcs t), .int .i64 n] (.bool (partsOk t n)) := by
 intro N; refine Nat.strongRecOn N fun N ih => ?_; intro t n hN hw hn0 hn5; have hWe := W_eq t; rw [W_eq] at hN hw; have hks := Ws_len t.kids; have hns := wS_len t.names
 refine Pe Try.func32 ?_
 refine Rr (Fn2 [1] [(2, .ptr 0 0)] [(0, tcs t)] 4 (Sq fun K2 hK2 => ?_))
 refine Rm 23 ((!(inb t.mode 0 7)) || ((decide ((4 : Int) < (n : Int))) || (!decide ((t.names.length : Int) = (t.kids.length : Int))))) [1, 2] ?_ ?_
 refine Bc1 3 [(8, .int .i64 t.mode), (7, .ptr 0 1)] 50 [.int .i64 t.mode] 9 (((1 : Nat) ≠ 0) /\ (1 + 1 <= 5 /\ 1 < 5) /\ ·) ⟨(by decide), (by decide), ?_⟩
 refine PE.use (modeOk_ok t.mode) ?_
 refine Ke (An0 2 [(11, .bool (!(inb t.mode 0 7))), (10, .bool (!(inb t.mode 0 7)))] (run_b (fun g4 => ?_) (fun g4 => ?_)))
 have hg4 := g4
 try simp only [KF] at g4
 refine Mn0 true (by rw [hg4]; rfl)
 have hg4 := g4
 try simp only [KF] at g4
 refine An1 4 [(15, .bool (decide ((4 : Int) < (n : Int)))), (14, .bool (decide ((4 : Int) < (n : Int)))), (13, .bool (decide ((4 : Int) < (n : Int)))), (12, .int .i64 n)] (Ki /\ ·) ⟨rfl, run_b (fun g5 => ?_) (fun g5 => ?_)⟩
 have hg5 := g5
 try simp only [KF] at g5
 refine Mn0 true (by rw [hg4, hg5]; rfl)
 have hg5 := g5
 try simp only [KF] at g5
 refine Av1 (r := .int .i64 ((t.names.map (fun s => [AV.str s])).length : Nat)) (v := .int .i64 t.names.length) 3 18 [(17, pth t.names), (16, .ptr 0 3)] (by rw [List.length_map]) (((1 : Nat) ≠ 0) /\ (3 + 1 <= 5 /\ 3 < 5) /\ ·) ⟨(by decide), (by decide), Av1 (r := .int .i64 ((t.kids.map trc).length : Nat)) (v := .int .i64 t.kids.length) 3 21 [(20, .sl 5 (t.kids.map trc)), (19, .ptr 0 4)] (by rw [List.length_map]) (((1 : Nat) ≠ 0) /\ (4 + 1 <= 5 /\ 4 < 5) /\ ·) ⟨(by decide), (by decide), Mn1 (!decide ((t.names.length : Int) = (t.kids.length : Int))) (Ki /\ ·) ⟨rfl, (by rw [hg4, hg5]; rfl)⟩⟩⟩
 refine Cc ((!(inb t.mode 0 7)) || ((decide ((4 : Int) < (n : Int))) || (!decide ((t.names.length : Int) = (t.kids.length : Int))))) (fun hc6 c6 => ?_) fun hc6 c6 => ?_
 try simp only [KF] at c6
 refine Rr (Fn0 [] [(4, .bool false)] (Rt (.bool false) (fin_lea ?_)))
 have hr : partsOk t n = false := by
   rw [partsOk_eq]; simp only [plainOk]
   rcases c6 with h | h | h
   · simp [h]
   · simp [show ¬ n <= 4 by omega]
   · simp [show ¬ t.names.length = t.kids.length by omega]
 rw [hr]; exact lea_refl _
 try simp only [KF] at c6
 refine Sk (Jn (hK2 (Kp [1, 2] (Sq fun K8 hK8 => ?_))))
 refine Rr (Cn1 (!t.dir) [1, 2] [] (((1 : Nat) ≠ 0) /\ (0 + 1 <= 5 /\ 0 < 5) /\ ·) ⟨(by decide), (by decide), fun hc10 c10 => ?_, fun hc10 c10 => ?_⟩)
 try simp only [KF] at c10
 refine Rm 4 ((decide ((t.data.length : Int) <= 24)) && (decide ((t.names.length : Int) = 0))) [] ?_ ?_
 refine An1 5 [(31, .bool (decide ((t.data.length : Int) <= 24))), (30, .bool (decide ((t.data.length : Int) <= 24))), (29, .int .i64 t.data.length), (28, .str t.data), (27, .ptr 0 2)] (((1 : Nat) ≠ 0) /\ (2 + 1 <= 5 /\ 2 < 5) /\ Ki /\ ·) ⟨(by decide), (by decide), rfl, run_b (fun g12 => ?_) (fun g12 => ?_)⟩
 have hg12 := g12
 try simp only [KF] at g12
 refine Av1 (r := .int .i64 ((t.names.map (fun s => [AV.str s])).length : Nat)) (v := .int .i64 t.names.length) 3 34 [(33, pth t.names), (32, .ptr 0 3)] (by rw [List.length_map]) (((1 : Nat) ≠ 0) /\ (3 + 1 <= 5 /\ 3 < 5) /\ ·) ⟨(by decide), (by decide), Mn1 (decide ((t.names.length : Int) = 0)) (Ki /\ ·) ⟨rfl, (by rw [hg12]; rfl)⟩⟩
 have hg12 := g12
 try simp only [KF] at g12
 refine Mn0 false (by rw [hg12]; rfl)
 refine Rt (.bool ((decide ((t.data.length : Int) <= 24)) && (decide ((t.names.length : Int) = 0)))) (fin_lea ?_)
 have hr : partsOk t n = ((decide ((t.data.length : Int) <= 24)) && (decide ((t.names.length : Int) = 0))) := by
   obtain ⟨a1, a2, a3⟩ := c6
   have hd : t.dir = false := by simpa using hc10
   have hn0 : t.names.length = 0 -> t.kids = [] := fun h => List.eq_nil_of_length_eq_zero (by omega)
   rw [partsOk_eq]; simp only [plainOk]
   simp only [a1, show t.names.length = t.kids.length by omega, show n <= 4 by omega, hd, decide_true, Bool.true_and, Bool.false_eq_true, if_false]
   rw [show decide ((t.data.length : Int) <= 24) = decide (t.data.length <= 24) from decide_eq_decide.2 (by omega)]
   rcases Nat.eq_zero_or_pos t.names.length with h0 | h0
   · rw [hn0 h0]; simp [h0]
   · have h2 : decide (t.kids.length = 0) = false := decide_eq_false (by omega)
     have h3 : decide ((t.kids.length : Int) = 0) = false := decide_eq_false (by omega)
     rw [h2, h3]; simp
 rw [hr]; exact lea_refl _
 try simp only [KF] at c10
 refine Sk (Jn (hK8 (Kp [1, 2] (Sq fun K13 hK13 => ?_))))
 refine Rr (Cn1 (!(t.data == [])) [1, 2] [] (((1 : Nat) ≠ 0) /\ (2 + 1 <= 5 /\ 2 < 5) /\ ·) ⟨(by decide), (by decide), fun hc15 c15 => ?_, fun hc15 c15 => ?_⟩)
 try simp only [KF] at c15
 refine Rr (Fn0 [] [(4, .bool false)] (Rt (.bool false) (fin_lea ?_)))
 have hr : partsOk t n = false := by
   cases hp : partsOk t n
   · rfl
   exfalso
   rw [partsOk_eq] at hp; simp only [plainOk] at hp
   have hd : t.dir = true := by simpa using hc10
   simp only [hd, if_true, Bool.and_eq_true, decide_eq_true_eq] at hp
   have := hp.1.2.2.2.2
   rw [this] at hc15; cases hc15
 rw [hr]; exact lea_refl _
 try simp only [KF] at c15
 refine Sk (Jn (hK13 (Kp [1, 2] (Sq fun K17 hK17 => ?_))))
 refine Rr (Av1 (r := .int .i64 ((t.names.map (fun s => [AV.str s])).length : Nat)) (v := .int .i64 t.names.length) 3 42 [(41, pth t.names), (40, .ptr 0 3)] (by rw [List.length_map]) (((1 : Nat) ≠ 0) /\ (3 + 1 <= 5 /\ 3 < 5) /\ ·) ⟨(by decide), (by decide), Fn0 [1, 2, 41, 42] [(43, .int .i64 0)] (Bl (h_l (fun (k : Nat) => ([(1, .int .i64 n), (2, .ptr 0 0), (41, pth t.names), (42, .int .i64 t.names.length), (43, .int .i64 k)] : Fr)) (fun (k : Nat) => ([(0, tcs t)] : Hp)) (fun (k : Nat) cn => (k <= t.names.length /\ (t.names.take k).all nmOk = true /\ asc (t.names.take k) = true /\ (t.kids.take k).all (partsOk · (n + 1)) = true) /\ cn = 4) (fun (k : Nat) => t.names.length - k) 0 (by kernel_rfl) ?_ ?_ ?_ ?_))⟩)
 refine ⟨?_, rfl⟩; exact ⟨Nat.zero_le _, rfl, rfl, rfl⟩
 exact ⟨by kernel_rfl, by kernel_rfl, by kernel_rfl, by kernel_rfl, by kernel_rfl, trivial⟩
 exact (sub_c (by kernel_rfl) (List.nil_sublist _))
 rintro k n1 hI
 (try dsimp only at hI)
 obtain ⟨⟨hk, g1, g2, g3⟩, rfl⟩ := hI
 refine Rr (Fn1 [1, 2, 41, 42, 43] [(44, .bool (decide ((k : Int) < (t.names.length : Int))))] (Ki /\ ·) ⟨rfl, Sq fun K20 hK20 => ?_⟩)
 refine Cc (decide ((k : Int) < (t.names.length : Int))) (fun hc21 c21 => ?_) fun hc21 c21 => ?_
 try simp only [KF] at c21
 refine Sk (Jn (hK20 (Kp [1, 2, 41, 42, 43] (Sq fun K22 hK22 => ?_))))
 refine Bl (Rr (Av1 2 46 [(45, .int .i64 k)] (congrArg AV.pat (mg_str t.names k (by omega))) ((1 = 1 /\ (0 : Int) <= (k : Int) /\ (k : Int) < ((t.names.map (fun s => [AV.str s])).length : Int)) /\ ·) ⟨⟨rfl, by omega, by rw [List.length_map]; omega⟩, Fn1 [1, 2, 41, 42, 43] [(6, .str (t.names.getD k default)), (5, .int .i64 k)] ((1 <= 1 /\ 0 < 1) /\ ·) ⟨(by decide), Rm 75 ((!(nmOk (t.names.getD k default))) || (bif decide ((0 : Int) < ((k : Int) : Int)) then (!blt (t.names.getD (((k : Int) - 1).toNat) default) (t.names.getD k default)) || (!(partsOk (t.kids.getD k default) (n + 1))) else !(partsOk (t.kids.getD k default) (n + 1)))) [1, 2, 41, 42, 43] ?_ ?_⟩⟩))
 refine Pc0 2 [(48, .str (t.names.getD k default))] 49 (nameOk_ok (t.names.getD k default) (by (have := wS_get t.names k (by omega); omega))) (An0 2 [(51, .bool (!(nmOk (t.names.getD k default)))), (50, .bool (!(nmOk (t.names.getD k default))))] (run_b (fun g25 => ?_) (fun g25 => ?_)))
 have hg25 := g25
 try simp only [KF] at g25
 refine Mn0 true (by rw [hg25]; rfl)
 have hg25 := g25
 try simp only [KF] at g25
 refine An1 3 [(54, .bool (decide ((0 : Int) < ((k : Int) : Int)))), (53, .bool (decide ((0 : Int) < ((k : Int) : Int)))), (52, .int .i64 k)] (Ki /\ ·) ⟨rfl, run_b (fun g26 => ?_) (fun g26 => ?_)⟩
 have hg26 := g26
 try simp only [KF] at g26
 refine Av1 (r := .int .i64 (IntKind.i64.wrap ((k : Int) - 1))) (v := .int .i64 ((k : Int) - 1)) 4 58 [(57, .int .i64 k), (56, pth t.names), (55, .ptr 0 3)] (congrArg (AV.int .i64) (wrap64 (by omega) (by omega))) (((1 : Nat) ≠ 0) /\ (3 + 1 <= 5 /\ 3 < 5) /\ Ki /\ ·) ⟨(by decide), (by decide), rfl, Av1 1 59 [] (congrArg AV.pat (mg_str t.names (((k : Int) - 1).toNat) (by omega))) ((1 = 1 /\ (0 : Int) <= ((k : Int) - 1) /\ ((k : Int) - 1) < ((t.names.map (fun s => [AV.str s])).length : Int)) /\ ·) ⟨⟨rfl, by omega, by rw [List.length_map]; omega⟩, An1 6 [(65, .bool (!blt (t.names.getD (((k : Int) - 1).toNat) default) (t.names.getD k default))), (64, .bool (!blt (t.names.getD (((k : Int) - 1).toNat) default) (t.names.getD k default))), (63, .bool (!blt (t.names.getD (((k : Int) - 1).toNat) default) (t.names.getD k default))), (62, .bool (!blt (t.names.getD (((k : Int) - 1).toNat) default) (t.names.getD k default))), (61, .str (t.names.getD k default)), (60, .str (t.names.getD (((k : Int) - 1).toNat) default))] ((1 <= 1 /\ 0 < 1) /\ ·) ⟨(by decide), run_b (fun g27 => ?_) (fun g27 => ?_)⟩⟩⟩
 have hg27 := g27
 try simp only [KF] at g27
 refine Mn0 true (by rw [hg25, hg26, hg27]; rfl)
 have hg27 := g27
 try simp only [KF] at g27
 refine Av1 4 69 [(68, .int .i64 k), (67, .sl 5 (t.kids.map trc)), (66, .ptr 0 4)] (congrArg AV.pat (mg_trc t.kids k (by omega))) (((1 : Nat) ≠ 0) /\ (4 + 1 <= 5 /\ 4 < 5) /\ (5 = 5 /\ (0 : Int) <= (k : Int) /\ (k : Int) < ((t.kids.map trc).length : Int)) /\ ·) ⟨(by decide), (by decide), ⟨rfl, by omega, by rw [List.length_map]; omega⟩, Av1 (r := .int .i64 (IntKind.i64.wrap (n + 1))) (v := .int .i64 (n + 1)) 3 72 [(71, .int .i64 n), (70, .agg (tcs (t.kids.getD k default)))] (congrArg (AV.int .i64) (wrap64 (by omega) (by omega))) ((5 <= 5 /\ 0 < 5) /\ Ki /\ ·) ⟨(by decide), rfl, ?_⟩⟩
 have hW := Ws_get t.kids k (by omega)
 refine Pc0 1 [] 73 (ih _ (by omega) (t.kids.getD k default) (n + 1) rfl (by omega) (by omega) (by omega)) (Mn0 (!(partsOk (t.kids.getD k default) (n + 1))) (by rw [hg25, hg26, hg27]; rfl))
 have hg26 := g26
 try simp only [KF] at g26
 refine Av1 15 69 [(68, .int .i64 k), (67, .sl 5 (t.kids.map trc)), (66, .ptr 0 4), (65, .bool false), (64, .bool false), (63, .bool false), (62, .tup []), (61, .tup []), (60, .tup []), (59, .tup []), (58, .tup []), (57, .tup []), (56, .tup []), (55, .tup [])] (congrArg AV.pat (mg_trc t.kids k (by omega))) (((1 : Nat) ≠ 0) /\ (4 + 1 <= 5 /\ 4 < 5) /\ (5 = 5 /\ (0 : Int) <= (k : Int) /\ (k : Int) < ((t.kids.map trc).length : Int)) /\ ·) ⟨(by decide), (by decide), ⟨rfl, by omega, by rw [List.length_map]; omega⟩, Av1 (r := .int .i64 (IntKind.i64.wrap (n + 1))) (v := .int .i64 (n + 1)) 3 72 [(71, .int .i64 n), (70, .agg (tcs (t.kids.getD k default)))] (congrArg (AV.int .i64) (wrap64 (by omega) (by omega))) ((5 <= 5 /\ 0 < 5) /\ Ki /\ ·) ⟨(by decide), rfl, ?_⟩⟩
 have hW := Ws_get t.kids k (by omega)
 refine Pc0 1 [] 73 (ih _ (by omega) (t.kids.getD k default) (n + 1) rfl (by omega) (by omega) (by omega)) (Mn0 (!(partsOk (t.kids.getD k default) (n + 1))) (by rw [hg25, hg26]; rfl))
 refine Cc ((!(nmOk (t.names.getD k default))) || (bif decide ((0 : Int) < ((k : Int) : Int)) then (!blt (t.names.getD (((k : Int) - 1).toNat) default) (t.names.getD k default)) || (!(partsOk (t.kids.getD k default) (n + 1))) else !(partsOk (t.kids.getD k default) (n + 1)))) (fun hc28 c28 => ?_) fun hc28 c28 => ?_
 try simp only [KF] at c28
 refine Rr (Fn0 [] [(4, .bool false)] (Rt (.bool false) (fin_lea ?_)))
 have hr : partsOk t n = false := by
   cases hp : partsOk t n
   · rfl
   exfalso
   rw [partsOk_eq] at hp; simp only [plainOk] at hp
   have hd : t.dir = true := by simpa using hc10
   simp only [hd, if_true, Bool.and_eq_true, decide_eq_true_eq] at hp
   have p1 := all_getD nmOk t.names k default (by omega) hp.1.2.2.1
   have p2 := all_getD _ t.kids k default (by omega) hp.2.2
   have p3 : k = 0 \/ blt (t.names.getD (k - 1) default) (t.names.getD k default) = true := by
     rcases Nat.eq_zero_or_pos k with h | h
     · exact .inl h
     · exact .inr (asc_lt hp.1.2.2.2.1 (by omega) (by omega))
   have hc := hc28
   rw [show ((k : Int) - 1).toNat = k - 1 by omega, p1, p2] at hc
   rcases p3 with p3 | p3
   · rw [decide_eq_false (by omega)] at hc; simp at hc
   · rw [p3] at hc; cases hd : decide ((0 : Int) < (k : Int)) <;> rw [hd] at hc <;> simp at hc
 rw [hr]; exact lea_refl _
 try simp only [KF] at c28
 refine Sk (Bn (Jn (hK22 (Kp [1, 2, 41, 42, 43] (Rn (Av1 1 76 [] (congrArg (AV.int .i64) (wn1 k (by omega))) (Ki /\ ·) ⟨rfl, Gn0 [(43, .int .i64 ((k + 1 : Nat) : Int))] (nk_n ?_)⟩))))))
 obtain ⟨a1, a2, a3⟩ : nmOk (t.names.getD k default) = true /\ (k = 0 \/ blt (t.names.getD (k - 1) default) (t.names.getD k default) = true) /\ partsOk (t.kids.getD k default) (n + 1) = true := by
   have hc := hc28
   rw [show ((k : Int) - 1).toNat = k - 1 by omega] at hc
   cases q1 : nmOk (t.names.getD k default) with
   | false => rw [q1] at hc; simp at hc
   | true =>
   cases q2 : partsOk (t.kids.getD k default) (n + 1) with
   | false => rw [q1, q2] at hc; cases hd : decide ((0 : Int) < (k : Int)) <;> rw [hd] at hc <;> simp at hc
   | true =>
   refine ⟨rfl, ?_, rfl⟩
   rw [q1, q2] at hc
   rcases Nat.eq_zero_or_pos k with h | h
   · exact .inl h
   · right; rw [decide_eq_true (by omega)] at hc; simpa using hc
 refine Lr (k + 1) [(0, 0)] 4 [(1, .int .i64 n), (2, .ptr 0 0), (41, pth t.names), (42, .int .i64 t.names.length), (43, .int .i64 ((k + 1 : Nat) : Int))] [(0, tcs t)] [true] ?_ ?_ (by kernel_rfl) (by kernel_rfl)
 (try dsimp only); omega
 refine ⟨?_, rfl⟩; (try dsimp only); refine ⟨by omega, ?_, ?_, ?_⟩
 · rw [take_snoc t.names k default (by omega), List.all_append, g1]; simpa using a1
 · rw [asc_take t.names k (by omega), g2]; simpa using a2
 · rw [take_snoc t.kids k default (by omega), List.all_append, g3]; simpa using a3
 try simp only [KF] at c21
 refine Xt (Jx (Lx (Bh (Jn (hK17 (Kp [] (Rr (Fn0 [] [(4, .bool true)] (Rt (.bool true) (fin_lea ?_))))))))))
 have hr : partsOk t n = true := by
   obtain ⟨a1, a2, a3⟩ := c6
   have hd : t.dir = true := by simpa using hc10
   rw [partsOk_eq]; simp only [plainOk]
   obtain rfl : k = t.names.length := by omega
   rw [List.take_length] at g1 g2
   rw [List.take_of_length_le (by omega)] at g3
   simp only [a1, show t.names.length = t.kids.length by omega, show n <= 4 by omega, hd, decide_true, Bool.true_and, if_true, g1, g2, g3, Bool.and_true]
   simpa using hc15
 rw [hr]; exact lea_refl _
theorem paths_ok : ∀ (N : Nat) (t : Tr), t.W = N -> t.W < 2 ^ 40 -> PE G 33 [.agg (tcs t)] (.int .i64 ((1 + cnt t : Nat) : Int)) := by
 intro N; refine Nat.strongRecOn N fun N ih => ?_; intro t hN hw; have hcW := cnt_W t; have hWe := W_eq t; rw [W_eq] at hN; have hks := Ws_len t.kids; rw [cnt_eq] at hcW
 refine Pe Try.func33 ?_
 refine Rr (Fn2 [] [(1, .ptr 0 0)] [(0, tcs t)] 4 (Rr (Fn0 [1] [(3, .int .i64 1)] (Sq fun K3 hK3 => ?_))))
 refine Rr (Av1 (r := .int .i64 ((t.kids.map trc).length : Nat)) (v := .int .i64 t.kids.length) 3 8 [(7, .sl 5 (t.kids.map trc)), (6, .ptr 0 4)] (by rw [List.length_map]) (((1 : Nat) ≠ 0) /\ (4 + 1 <= 5 /\ 4 < 5) /\ ·) ⟨(by decide), (by decide), Fn0 [3, 7, 8] [(9, .int .i64 0)] (Bl (h_l (fun (k : Nat) => ([(3, .int .i64 ((1 + cnts (t.kids.take k) : Nat) : Int)), (7, .sl 5 (t.kids.map trc)), (8, .int .i64 t.kids.length), (9, .int .i64 k)] : Fr)) (fun (k : Nat) => ([(0, tcs t)] : Hp)) (fun (k : Nat) cn => (k <= t.kids.length) /\ cn = 4) (fun (k : Nat) => t.kids.length - k) 0 (by kernel_rfl) ?_ ?_ ?_ ?_))⟩)
 refine ⟨?_, rfl⟩; omega
 exact ⟨by kernel_rfl, by kernel_rfl, by kernel_rfl, by kernel_rfl, trivial⟩
 exact (sub_c (by kernel_rfl) (List.nil_sublist _))
 rintro k n1 hI
 (try dsimp only at hI)
 obtain ⟨hk, rfl⟩ := hI
 have hct := cnts_take_le t.kids k
 refine Rr (Fn1 [3, 7, 8, 9] [(10, .bool (decide ((k : Int) < (t.kids.length : Int))))] (Ki /\ ·) ⟨rfl, Sq fun K6 hK6 => ?_⟩)
 refine Cc (decide ((k : Int) < (t.kids.length : Int))) (fun hc7 c7 => ?_) fun hc7 c7 => ?_
 try simp only [KF] at c7
 refine Sk (Jn (hK6 (Kp [3, 7, 8, 9] (Sq fun K8 hK8 => ?_))))
 refine Bl (Rr (Av1 1 11 [] (congrArg AV.pat (mg_trc t.kids k (by omega))) ((5 = 5 /\ (0 : Int) <= (k : Int) /\ (k : Int) < ((t.kids.map trc).length : Int)) /\ ·) ⟨⟨rfl, by omega, by rw [List.length_map]; omega⟩, Fn3 [3, 7, 8, 9] [(5, .ptr 4 0)] [(4, tcs (t.kids.getD k default)), (0, tcs t)] 8 ((5 <= 5 /\ 0 < 5) /\ (true = true /\ 5 = 5 /\ 0 + 5 <= 5) /\ ·) ⟨(by decide), (by decide), Rb (fun h => Bn (Jn (hK8 h))) ?_⟩⟩))
 have hW := Ws_get t.kids k (by omega)
 have hcw := cnt_W (t.kids.getD k default)
 refine Pc1 3 [(14, .agg (tcs (t.kids.getD k default))), (13, .int .i64 ((1 + cnts (t.kids.take k) : Nat) : Int))] 15 (0 + 5 <= 5 /\ 0 < 5) (by decide) (ih _ (by omega) (t.kids.getD k default) rfl (by omega)) (Av1 1 16 [] (congrArg (AV.int .i64) (wnn (1 + cnts (t.kids.take k)) (1 + cnt (t.kids.getD k default)) (by omega))) (Ki /\ ·) ⟨rfl, Fn0 [7, 8, 9] [(3, .int .i64 (((1 + cnts (t.kids.take k)) + (1 + cnt (t.kids.getD k default)) : Nat) : Int))] (Rn (Av1 1 17 [] (congrArg (AV.int .i64) (wn1 k (by omega))) (Ki /\ ·) ⟨rfl, ?_⟩))⟩)
 refine Gn0 [(9, .int .i64 ((k + 1 : Nat) : Int))] (nk_n (Lr (k + 1) [(0, 0)] 4 [(3, .int .i64 (((1 + cnts (t.kids.take k)) + (1 + cnt (t.kids.getD k default)) : Nat) : Int)), (7, .sl 5 (t.kids.map trc)), (8, .int .i64 t.kids.length), (9, .int .i64 ((k + 1 : Nat) : Int))] [(0, tcs t)] [true] ?_ ?_ (by kernel_rfl) (by (try rw [show 1 + cnts (t.kids.take (k + 1)) = 1 + cnts (t.kids.take k) + (1 + cnt (t.kids.getD k default)) by rw [cnts_take t.kids k (by omega)]; omega]); try kernel_rfl)))
 (try dsimp only); omega
 refine ⟨?_, rfl⟩; (try dsimp only); omega
 try simp only [KF] at c7
 refine Xt (Jx (Lx (Bh (Jn (hK3 (Kp [3] (Rr (Fn0 [] [(2, .int .i64 ((1 + cnts (t.kids.take k) : Nat) : Int))] (Rt (.int .i64 ((1 + cnts (t.kids.take k) : Nat) : Int)) (fin_lea ?_))))))))))
 obtain rfl : k = t.kids.length := by omega
 rw [List.take_length, cnt_eq]; exact lea_refl _
theorem TreeOk_ok (t : Tr) (hw : t.W < 2 ^ 40) : PE G 14 [.agg (tcs t)] (.bool (treeOk t)) := by
 have hcW := cnt_W t
 refine Pe Try.func14 ?_
 refine Rr (Fn2 [] [(1, .ptr 0 0)] [(0, tcs t)] 4 (Rm 2 (t.dir && ((partsOk t 0) && (decide (((1 + cnt t : Nat) : Int) <= 31)))) [] ?_ ?_))
 refine An1 3 [(5, .bool t.dir), (4, .bool t.dir), (3, .ptr 0 0)] (((1 : Nat) ≠ 0) /\ (0 + 1 <= 5 /\ 0 < 5) /\ ·) ⟨(by decide), (by decide), run_b (fun g3 => ?_) (fun g3 => ?_)⟩
 have hg3 := g3
 try simp only [KF] at g3
 refine Pc1 2 [(6, .agg (tcs t))] 7 (0 + 5 <= 5 /\ 0 < 5) (by decide) (sound_ok _ t 0 rfl (by omega) (by omega) (by omega)) (An0 2 [(9, .bool (partsOk t 0)), (8, .bool (partsOk t 0))] (run_b (fun g4 => ?_) (fun g4 => ?_)))
 have hg4 := g4
 try simp only [KF] at g4
 refine Pc1 2 [(10, .agg (tcs t))] 11 (0 + 5 <= 5 /\ 0 < 5) (by decide) (paths_ok _ t rfl (by omega)) (Mn1 (decide (((1 + cnt t : Nat) : Int) <= 31)) (Ki /\ ·) ⟨rfl, (by rw [hg3, hg4]; rfl)⟩)
 have hg4 := g4
 try simp only [KF] at g4
 refine Mn0 false (by rw [hg3, hg4]; rfl)
 have hg3 := g3
 try simp only [KF] at g3
 refine Mn0 false (by rw [hg3]; rfl)
 refine Rt (.bool (t.dir && ((partsOk t 0) && (decide (((1 + cnt t : Nat) : Int) <= 31))))) (fin_lea ?_)
 have hr : treeOk t = (t.dir && ((partsOk t 0) && (decide (((1 + cnt t : Nat) : Int) <= 31)))) := by
   unfold treeOk; rw [show decide (cnt t <= 30) = decide (((1 + cnt t : Nat) : Int) <= (31 : Int)) from decide_eq_decide.2 ⟨fun h => by omega, fun h => by omega⟩]
 rw [hr]; exact lea_refl _
theorem isCall_ok (c : Cl) (h1 : wS c.path < 2 ^ 40) (h2 : wS c.to < 2 ^ 40) : PE G 34 [.agg (clc c)] (.bool (callOk c)) := by
 have hl1 := wS_len c.path; have hl2 := wS_len c.to
 refine Pe Try.func34 ?_
 refine Rr (Fn2 [] [(1, .ptr 0 0)] [(0, clc c)] 4 (Sq fun K2 hK2 => ?_))
 refine Rm 12 ((!(inb c.kind 1 6)) || (!(pthOk c.path 1))) [1] ?_ ?_
 refine Bc1 3 [(4, .int .i64 c.kind), (3, .ptr 0 0)] 52 [.int .i64 c.kind, .int .i64 1, .int .i64 6] 5 (((1 : Nat) ≠ 0) /\ (0 + 1 <= 5 /\ 0 < 5) /\ ·) ⟨(by decide), (by decide), ?_⟩
 refine PE.use (within_ok c.kind 1 6) ?_
 refine Ke (An0 2 [(7, .bool (!(inb c.kind 1 6))), (6, .bool (!(inb c.kind 1 6)))] (run_b (fun g4 => ?_) (fun g4 => ?_)))
 have hg4 := g4
 try simp only [KF] at g4
 refine Mn0 true (by rw [hg4]; rfl)
 have hg4 := g4
 try simp only [KF] at g4
 refine Bc1 3 [(9, pth c.path), (8, .ptr 0 1)] 53 [pth c.path, .int .i64 1] 10 (((1 : Nat) ≠ 0) /\ (1 + 1 <= 5 /\ 1 < 5) /\ ·) ⟨(by decide), (by decide), ?_⟩
 refine PE.use (namesOk_ok c.path 1 (by omega) (fun s hs => Nat.lt_trans (wS_mem hs) (by omega))) ?_
 refine Ke (Mn0 (!(pthOk c.path 1)) (by rw [hg4]; rfl))
 refine Cc ((!(inb c.kind 1 6)) || (!(pthOk c.path 1))) (fun hc5 c5 => ?_) fun hc5 c5 => ?_
 try simp only [KF] at c5
 refine Rr (Fn0 [] [(2, .bool false)] (Rt (.bool false) (fin_lea ?_)))
 have hr : callOk c = (false) := by
   unfold callOk
   have hz : ∀ q : inb c.kind 1 6 = false, ¬ (1 <= c.kind /\ c.kind <= 6) := fun q => by simp only [inb, Bool.and_eq_false_iff, decide_eq_false_iff_not] at q; omega
   rcases c5 with q | q
   · have := hz q; (repeat' split) <;> first | rfl | omega
   · (repeat' split) <;> first | rfl | (rw [q, Bool.false_and]) | (rw [q])
 rw [hr]; exact lea_refl _
 try simp only [KF] at c5
 refine Sk (Jn (hK2 (Kp [1] (Sq fun K7 hK7 => ?_))))
 refine Rr (Fn1 [1] [(14, .int .i64 c.kind)] (((1 : Nat) ≠ 0) /\ (0 + 1 <= 5 /\ 0 < 5) /\ ·) ⟨(by decide), (by decide), Bl (Sq fun K9 hK9 => ?_)⟩)
 refine Rr (Cn1 (decide ((c.kind : Int) = (1 : Int))) [1, 14] [(15, .bool (decide ((c.kind : Int) = (1 : Int))))] (Ki /\ ·) ⟨rfl, fun hc11 c11 => ?_, fun hc11 c11 => ?_⟩)
 try simp only [KF] at c11
 refine Sk (Jn (hK9 (Kp [1, 14, 15] (C1 (t := decide ((c.kind : Int) = (1 : Int))) hc11 (Rr (Bc1 3 [(19, .int .i64 c.at_), (18, .ptr 0 3)] 50 [.int .i64 c.at_] 20 (((1 : Nat) ≠ 0) /\ (3 + 1 <= 5 /\ 3 < 5) /\ ·) ⟨(by decide), (by decide), PE.use (modeOk_ok c.at_) ?_⟩))))))
 refine Ke (Fn0 [] [(2, .bool (inb c.at_ 0 7))] (Rt (.bool (inb c.at_ 0 7)) ?_))
 · refine fin_lea ?_
   have hr : callOk c = (inb c.at_ 0 7) := by
     obtain ⟨q1, q2⟩ : inb c.kind 1 6 = true /\ pthOk c.path 1 = true := by simpa using hc5
     have q3 : 1 <= c.kind /\ c.kind <= 6 := by simpa [inb] using q1
     unfold callOk
     (repeat' split) <;> first | omega | (simp only [q2, Bool.true_and]; done) | (rw [q2])
   rw [hr]; exact lea_refl _
 try simp only [KF] at c11
 refine Rb (fun h => Jn (hK9 h)) (Fn1 [1, 14] [(15, .bool (decide ((c.kind : Int) = (6 : Int))))] (Ki /\ ·) ⟨rfl, Cc (decide ((c.kind : Int) = (6 : Int))) (fun hc13 c13 => ?_) fun hc13 c13 => ?_⟩)
 try simp only [KF] at c13
 refine Rr (Bc1 3 [(19, .int .i64 c.at_), (18, .ptr 0 3)] 50 [.int .i64 c.at_] 20 (((1 : Nat) ≠ 0) /\ (3 + 1 <= 5 /\ 3 < 5) /\ ·) ⟨(by decide), (by decide), PE.use (modeOk_ok c.at_) (Ke (Fn0 [] [(2, .bool (inb c.at_ 0 7))] ?_))⟩)
 refine Rt (.bool (inb c.at_ 0 7)) ?_
 · refine fin_lea ?_
   have hr : callOk c = (inb c.at_ 0 7) := by
     obtain ⟨q1, q2⟩ : inb c.kind 1 6 = true /\ pthOk c.path 1 = true := by simpa using hc5
     have q3 : 1 <= c.kind /\ c.kind <= 6 := by simpa [inb] using q1
     unfold callOk
     (repeat' split) <;> first | omega | (simp only [q2, Bool.true_and]; done) | (rw [q2])
   rw [hr]; exact lea_refl _
 try simp only [KF] at c13
 refine Sq fun K15 hK15 => ?_
 refine Rr (Cn1 (decide ((c.kind : Int) = (2 : Int))) [1, 14] [(21, .bool (decide ((c.kind : Int) = (2 : Int))))] (Ki /\ ·) ⟨rfl, fun hc17 c17 => ?_, fun hc17 c17 => ?_⟩)
 try simp only [KF] at c17
 refine Sk (Jn (hK15 (Kp [1, 14, 21] (C1 (t := decide ((c.kind : Int) = (2 : Int))) hc17 (Rr (Bc1 3 [(25, .int .i64 c.at_), (24, .ptr 0 3)] 52 [.int .i64 c.at_, .int .i64 0, .int .i64 24] 26 (((1 : Nat) ≠ 0) /\ (3 + 1 <= 5 /\ 3 < 5) /\ ·) ⟨(by decide), (by decide), PE.use (within_ok c.at_ 0 24) ?_⟩))))))
 refine Ke (Fn0 [] [(2, .bool (inb c.at_ 0 24))] (Rt (.bool (inb c.at_ 0 24)) ?_))
 · refine fin_lea ?_
   have hr : callOk c = (inb c.at_ 0 24) := by
     obtain ⟨q1, q2⟩ : inb c.kind 1 6 = true /\ pthOk c.path 1 = true := by simpa using hc5
     have q3 : 1 <= c.kind /\ c.kind <= 6 := by simpa [inb] using q1
     unfold callOk
     (repeat' split) <;> first | omega | (simp only [q2, Bool.true_and]; done) | (rw [q2])
   rw [hr]; exact lea_refl _
 try simp only [KF] at c17
 refine Rb (fun h => Jn (hK15 h)) (Fn1 [1, 14] [(21, .bool (decide ((c.kind : Int) = (3 : Int))))] (Ki /\ ·) ⟨rfl, Cc (decide ((c.kind : Int) = (3 : Int))) (fun hc19 c19 => ?_) fun hc19 c19 => ?_⟩)
 try simp only [KF] at c19
 refine Rr (Bc1 3 [(25, .int .i64 c.at_), (24, .ptr 0 3)] 52 [.int .i64 c.at_, .int .i64 0, .int .i64 24] 26 (((1 : Nat) ≠ 0) /\ (3 + 1 <= 5 /\ 3 < 5) /\ ·) ⟨(by decide), (by decide), PE.use (within_ok c.at_ 0 24) (Ke (Fn0 [] [(2, .bool (inb c.at_ 0 24))] ?_))⟩)
 refine Rt (.bool (inb c.at_ 0 24)) ?_
 · refine fin_lea ?_
   have hr : callOk c = (inb c.at_ 0 24) := by
     obtain ⟨q1, q2⟩ : inb c.kind 1 6 = true /\ pthOk c.path 1 = true := by simpa using hc5
     have q3 : 1 <= c.kind /\ c.kind <= 6 := by simpa [inb] using q1
     unfold callOk
     (repeat' split) <;> first | omega | (simp only [q2, Bool.true_and]; done) | (rw [q2])
   rw [hr]; exact lea_refl _
 try simp only [KF] at c19
 refine Rr (Cn1 (decide ((c.kind : Int) = (5 : Int))) [1] [] (Ki /\ ·) ⟨rfl, fun hc22 c22 => ?_, fun hc22 c22 => ?_⟩)
 try simp only [KF] at c22
 refine Rr (Bc1 3 [(30, pth c.to), (29, .ptr 0 2)] 53 [pth c.to, .int .i64 1] 31 (((1 : Nat) ≠ 0) /\ (2 + 1 <= 5 /\ 2 < 5) /\ ·) ⟨(by decide), (by decide), PE.use (namesOk_ok c.to 1 (by omega) (fun s hs => Nat.lt_trans (wS_mem hs) (by omega))) (Ke (Fn0 [] [(2, .bool (pthOk c.to 1))] ?_))⟩)
 refine Rt (.bool (pthOk c.to 1)) ?_
 · refine fin_lea ?_
   have hr : callOk c = (pthOk c.to 1) := by
     obtain ⟨q1, q2⟩ : inb c.kind 1 6 = true /\ pthOk c.path 1 = true := by simpa using hc5
     have q3 : 1 <= c.kind /\ c.kind <= 6 := by simpa [inb] using q1
     unfold callOk
     (repeat' split) <;> first | omega | (simp only [q2, Bool.true_and]; done) | (rw [q2])
   rw [hr]; exact lea_refl _
 try simp only [KF] at c22
 refine Sk (Bn (Jn (hK7 (Kp [] (Rr (Fn0 [] [(2, .bool true)] (Rt (.bool true) ?_)))))))
 · refine fin_lea ?_
   have hr : callOk c = (true) := by
     obtain ⟨q1, q2⟩ : inb c.kind 1 6 = true /\ pthOk c.path 1 = true := by simpa using hc5
     have q3 : 1 <= c.kind /\ c.kind <= 6 := by simpa [inb] using q1
     unfold callOk
     (repeat' split) <;> first | omega | (simp only [q2, Bool.true_and]; done) | (rw [q2])
   rw [hr]; exact lea_refl _
open Go Go.Proofs
theorem tat_snoc : ∀ (q : List Str) (T : Tr) (n : Str), tat T (q ++ [n]) = match tat T q with | some t => tat t [n] | none => none
  | [], T, n => by simp only [List.nil_append, tat]
  | m :: q, T, n => by
    rw [List.cons_append, tat_cons, tat_cons]
    cases fnd m T.names with
    | none => rfl
    | some k => exact tat_snoc q _ n
theorem tat_app : ∀ (q p : List Str) (T : Tr), tat T q = none -> tat T (q ++ p) = none
  | [], p, T, h => by simp [tat] at h
  | m :: q, p, T, h => by
    rw [List.cons_append, tat_cons]
    rw [tat_cons] at h
    cases hf : fnd m T.names with
    | none => rfl
    | some k => rw [hf] at h; exact tat_app q p _ h
def kdp (t : Tr) (nm : Str) : AV := match fnd nm t.names with | some k => .pat (tcs (t.kids.getD k default)) | none => .nilp
def atp (t : Tr) (p : List Str) : AV := match tat t p with | some x => .pat (tcs x) | none => .nilp
def tAt (t : Tr) (p : List Str) : Tr × Bool := bif treeOk t then (xat t p, (tat t p).isSome) else (.none, false)
def tList (t : Tr) (p : List Str) : List Str × Int := bif treeOk t then (match tat t p with | none => ([], 3) | some x => bif x.dir then (x.names, 0) else ([], 4)) else ([], 1)
def tRead (t : Tr) (p : List Str) (a n : Int) : Str × Int :=
  bif treeOk t then (bif decide (a < 0) || decide (n < 0) then ([], 2) else match tat t p with
    | none => ([], 3)
    | some x => bif x.dir then ([], 4) else ((x.data.drop (min a.toNat x.data.length)).take n.toNat, 0)) else ([], 1)
theorem rd_eq (s : Str) (a n : Int) (h : ¬ a < 0 /\ ¬ n < 0) : List.take (if ((s.length - (if (s.length : Int) < a then (s.length : Int) else a).toNat : Nat) : Int) < n then ((s.length - (if (s.length : Int) < a then (s.length : Int) else a).toNat : Nat) : Int) else n).toNat
    (List.drop (if (s.length : Int) < a then (s.length : Int) else a).toNat s) = (s.drop (min a.toNat s.length)).take n.toNat := by
  rw [show (if (s.length : Int) < a then (s.length : Int) else a).toNat = min a.toNat s.length by split <;> omega]
  split
  · rw [List.take_of_length_le (by rw [List.length_drop]; omega), List.take_of_length_le (by rw [List.length_drop]; omega)]
  · rfl
noncomputable def wtT (a b : Tr) : Bool := @decide (a = b) (Classical.propDecidable _)
theorem wtT_iff {a b : Tr} : wtT a b = true ↔ a = b := by unfold wtT; exact @decide_eq_true_iff _ (Classical.propDecidable _)
theorem wtT_no {a b : Tr} (h : a ≠ b) : wtT a b = false := by
  cases hx : wtT a b
  · rfl
  · exact absurd (wtT_iff.1 hx) h
@[go_sem] theorem pur_kdp (t : Tr) (nm : Str) : pur (kdp t nm) = true := by
  unfold kdp; cases fnd nm t.names <;> simp only [go_sem]
@[go_sem] theorem pur_atp (t : Tr) (p : List Str) : pur (atp t p) = true := by
  unfold atp; cases tat t p <;> simp only [go_sem]
theorem clonep_ok : ∀ (N : Nat) (t : Tr), t.W = N -> t.W < 2 ^ 40 -> PE G 22 [.agg (tcs t)] (.agg (tcs t)) := by
 intro N; refine Nat.strongRecOn N fun N ih => ?_; intro t hN hw; rw [W_eq] at hN hw; have hks := Ws_len t.kids; have hns := wS_len t.names
 refine Pe Try.func22 ?_
 refine Rr (Fn2 [] [(2, .ptr 4 0), (1, .ptr 0 0)] [(4, zt), (0, tcs t)] 8 (Rr (Fn3 [1, 2] [(3, .osl 8 5 0 0)] [(8, []), (4, zt), (0, tcs t)] 12 ((0 * 5 <= 16777216) /\ ·) ⟨(by decide), Sq fun K3 hK3 => ?_⟩)))
 refine Rr (Av1 (r := .int .i64 ((t.kids.map trc).length : Nat)) (v := .int .i64 t.kids.length) 3 9 [(8, .sl 5 (t.kids.map trc)), (7, .ptr 0 4)] (by rw [List.length_map]) (((1 : Nat) ≠ 0) /\ (4 + 1 <= 5 /\ 4 < 5) /\ ·) ⟨(by decide), (by decide), Fn0 [1, 2, 3, 8, 9] [(10, .int .i64 0)] (Bl (h_l (fun (k : Nat) => ([(1, .ptr 0 0), (2, .ptr 4 0), (3, .osl 8 5 0 ((t.kids.take k).length)), (8, .sl 5 (t.kids.map trc)), (9, .int .i64 t.kids.length), (10, .int .i64 k)] : Fr)) (fun (k : Nat) => ([(8, fl trc (t.kids.take k)), (4, zt), (0, tcs t)] : Hp)) (fun (k : Nat) cn => (k <= t.kids.length) /\ cn = 12) (fun (k : Nat) => t.kids.length - k) 0 (by kernel_rfl) ?_ ?_ ?_ ?_))⟩)
 refine ⟨?_, rfl⟩; omega
 exact ⟨by kernel_rfl, by kernel_rfl, by kernel_rfl, by kernel_rfl, by kernel_rfl, by kernel_rfl, trivial⟩
 exact (sub_c (by kernel_rfl) (sub_c (by kernel_rfl) (sub_c (by kernel_rfl) (List.nil_sublist _))))
 rintro k n1 hI
 (try dsimp only at hI)
 obtain ⟨hk, rfl⟩ := hI
 have hkl : (t.kids.take k).length = k := tkl hk
 refine Rr (Fn1 [1, 2, 3, 8, 9, 10] [(11, .bool (decide ((k : Int) < (t.kids.length : Int))))] (Ki /\ ·) ⟨rfl, Sq fun K6 hK6 => ?_⟩)
 refine Cc (decide ((k : Int) < (t.kids.length : Int))) (fun hc7 c7 => ?_) fun hc7 c7 => ?_
 try simp only [KF] at c7
 refine Sk (Jn (hK6 (Kp [1, 2, 3, 8, 9, 10] (Sq fun K8 hK8 => ?_))))
 refine Bl (Rr (Av1 1 12 [] (congrArg AV.pat (mg_trc t.kids k (by omega))) ((5 = 5 /\ (0 : Int) <= (k : Int) /\ (k : Int) < ((t.kids.map trc).length : Int)) /\ ·) ⟨⟨rfl, by omega, by rw [List.length_map]; omega⟩, Fn3 [1, 2, 3, 8, 9, 10] [(5, .ptr 12 0)] [(12, tcs (t.kids.getD k default)), (8, fl trc (t.kids.take k)), (4, zt), (0, tcs t)] 16 ((5 <= 5 /\ 0 < 5) /\ (true = true /\ 5 = 5 /\ 0 + 5 <= 5) /\ ·) ⟨(by decide), (by decide), Rb (fun h => Bn (Jn (hK8 h))) ?_⟩⟩))
 have hW := Ws_get t.kids k (by omega)
 refine Pc1 3 [(15, .agg (tcs (t.kids.getD k default))), (14, .osl 8 5 0 ((t.kids.take k).length))] 16 (0 + 5 <= 5 /\ 0 < 5) (by decide) (ih _ (by omega) (t.kids.getD k default) rfl (by omega)) (An3 2 [(18, .osl 20 5 0 ((t.kids.take k).length + 1)), (17, .osl 16 5 0 1)] [(20, apd (fl trc (t.kids.take k)) ((t.kids.take k).length * 5) (tcs (t.kids.getD k default))), (16, tcs (t.kids.getD k default)), (12, tcs (t.kids.getD k default)), (4, zt), (0, tcs t)] 24 ((1 * 5 <= 16777216) /\ (0 + 1 * 5 <= 5) /\ (5 = 5 /\ (t.kids.take k).length * 5 <= (fl trc (t.kids.take k)).length /\ 0 < 80 /\ ((t.kids.take k).length + 1) * 80 <= 140737488355328) /\ ·) ⟨(by decide), (by decide), ⟨rfl, by (first | omega | (simp only [LL]; omega)), by decide, by (first | omega | (simp only [LL]; omega))⟩, run_v (v' := .osl 20 5 0 ((t.kids.take k ++ [(t.kids.getD k default)]).length)) (push_len _ _ _ _) (run_h (cs' := fl trc (t.kids.take k ++ [(t.kids.getD k default)])) (push_trc (t.kids.take k) (t.kids.getD k default)) (Fn0 [1, 2, 8, 9, 10] [(3, .osl 20 5 0 ((t.kids.take k ++ [(t.kids.getD k default)]).length))] ?_))⟩)
 refine Rn (Av1 1 19 [] (congrArg (AV.int .i64) (wn1 k (by omega))) (Ki /\ ·) ⟨rfl, Gn0 [(10, .int .i64 ((k + 1 : Nat) : Int))] (nk_n (Lr (k + 1) [(0, 0), (4, 4), (20, 8)] 12 [(1, .ptr 0 0), (2, .ptr 4 0), (3, .osl 20 5 0 ((t.kids.take k ++ [(t.kids.getD k default)]).length)), (8, .sl 5 (t.kids.map trc)), (9, .int .i64 t.kids.length), (10, .int .i64 ((k + 1 : Nat) : Int))] [(20, fl trc (t.kids.take k ++ [(t.kids.getD k default)])), (4, zt), (0, tcs t)] [false, true, true] ?_ ?_ (by (try rw [<- take_snoc t.kids k default (by omega)]); try kernel_rfl) (by (try rw [<- take_snoc t.kids k default (by omega)]); try kernel_rfl)))⟩)
 (try dsimp only); omega
 refine ⟨?_, rfl⟩; (try dsimp only); omega
 try simp only [KF] at c7
 refine Xt (Jx (Lx (Bh (Jn (hK3 (Kp [1, 2, 3] (Rr (An3 4 [(23, .osl 16 1 0 (0 + (t.names.map (fun s => [AV.str s])).length)), (22, pth t.names), (21, .ptr 0 3), (20, .osl 12 1 0 0)] [(16, apd [] (0 * 1) ((t.names.map (fun s => [AV.str s])).flatten)), (8, fl trc (t.kids.take k)), (4, zt), (0, tcs t)] 20 ((0 * 1 <= 16777216) /\ ((1 : Nat) ≠ 0) /\ (3 + 1 <= 5 /\ 3 < 5) /\ True /\ (1 = 1 /\ 0 * 1 <= 0 /\ 0 < 16 /\ (0 + (t.names.map (fun s => [AV.str s])).length) * 16 <= 140737488355328) /\ ·) ⟨(by decide), (by decide), (by decide), trivial, ⟨rfl, by (first | omega | (simp only [LL]; omega)), by decide, by (first | omega | (simp only [LL]; omega))⟩, run_v (v' := .osl 16 1 0 t.names.length) (by rw [Nat.zero_add, List.length_map]) (run_h (cs' := fl sc t.names) (app0_str _) ?_)⟩))))))))
 refine Fn3 [1, 2, 3] [] [(16, fl sc t.names), (8, fl trc (t.kids.take k)), (4, zt), (0, [.bool t.dir, .int .i64 t.mode, .str t.data, .osl 16 1 0 t.names.length, .sl 5 (t.kids.map trc)])] 20 (((1 : Nat) ≠ 0) /\ (true = true /\ 1 = 1 /\ 3 + 1 <= 5) /\ ·) ⟨(by decide), (by decide), Rr (Fn3 [1, 2] [] [(16, fl sc t.names), (8, fl trc (t.kids.take k)), (4, zt), (0, [.bool t.dir, .int .i64 t.mode, .str t.data, .osl 16 1 0 t.names.length, .osl 8 5 0 ((t.kids.take k).length)])] 20 (((1 : Nat) ≠ 0) /\ (true = true /\ 1 = 1 /\ 4 + 1 <= 5) /\ ·) ⟨(by decide), (by decide), Rr (Fn3 [2] [] [(16, fl sc t.names), (8, fl trc (t.kids.take k)), (4, [.bool t.dir, .int .i64 t.mode, .str t.data, .osl 16 1 0 t.names.length, .osl 8 5 0 ((t.kids.take k).length)]), (0, [.bool t.dir, .int .i64 t.mode, .str t.data, .osl 16 1 0 t.names.length, .osl 8 5 0 ((t.kids.take k).length)])] 20 ((0 + 5 <= 5 /\ 0 < 5) /\ (true = true /\ 5 = 5 /\ 0 + 5 <= 5) /\ ·) ⟨(by decide), (by decide), ?_⟩)⟩)⟩
 refine FzS 16 t.names [(2, .ptr 4 0)] [(8, fl trc (t.kids.take k)), (4, [.bool t.dir, .int .i64 t.mode, .str t.data, .osl 16 1 0 t.names.length, .osl 8 5 0 ((t.kids.take k).length)])] [false, true] (FzT 8 (t.kids.take k) [(2, .ptr 4 0)] [(4, [.bool t.dir, .int .i64 t.mode, .str t.data, pth t.names, .osl 8 5 0 ((t.kids.take k).length)])] [true] (Rt1 ((0 + 5 <= 5 /\ 0 < 5) /\ ·) (.agg [.bool t.dir, .int .i64 t.mode, .str t.data, pth t.names, .sl 5 ((t.kids.take k).map trc)]) ⟨(by decide), fin_lea ?_⟩))
 rw [List.take_of_length_le (by omega)]; exact lea_refl _
theorem kidp_ok (t : Tr) (nm : Str) (hns : t.names.length < 2 ^ 40) (hwf : t.wf = true) : PE G 46 [.pat (tcs t), .str nm] (kdp t nm) := by
 have hwl := wf_len hwf
 refine Pe Try.func46 ?_
 refine Rr (Fn0 [0, 1] [] (Rr (Bc1 6 [(10, .str nm), (9, pth t.names), (8, .pat [pth t.names, .sl 5 (t.kids.map trc)]), (7, .pat (tcs t)), (6, .pat (tcs t))] 64 [pth t.names, .str nm] 11 (((1 : Nat) ≠ 0) /\ (1 <= 2 /\ 0 < 2) /\ ·) ⟨(by decide), (by decide), PE.use (index_ok t.names nm (by omega)) ?_⟩)))
 refine Ke (Fn0 [0] [(5, .int .i64 (fndI nm t.names))] (Sq fun K3 hK3 => ?_))
 refine Rm 22 ((decide ((fndI nm t.names : Int) < (0 : Int))) || (decide ((t.kids.length : Int) <= fndI nm t.names))) [0, 5] ?_ ?_
 refine An1 3 [(14, .bool (decide ((fndI nm t.names : Int) < (0 : Int)))), (13, .bool (decide ((fndI nm t.names : Int) < (0 : Int)))), (12, .int .i64 (fndI nm t.names))] (Ki /\ ·) ⟨rfl, run_b (fun g5 => ?_) (fun g5 => ?_)⟩
 have hg5 := g5
 try simp only [KF] at g5
 refine Mn0 true (by rw [hg5]; rfl)
 have hg5 := g5
 try simp only [KF] at g5
 refine Av1 (r := .int .i64 ((t.kids.map trc).length : Nat)) (v := .int .i64 t.kids.length) 6 20 [(19, .sl 5 (t.kids.map trc)), (18, .pat [.sl 5 (t.kids.map trc)]), (17, .pat (tcs t)), (16, .pat (tcs t)), (15, .int .i64 (fndI nm t.names))] (by rw [List.length_map]) (((1 : Nat) ≠ 0) /\ (1 <= 1 /\ 0 < 1) /\ ·) ⟨(by decide), (by decide), Mn1 (decide ((t.kids.length : Int) <= fndI nm t.names)) (Ki /\ ·) ⟨rfl, (by rw [hg5]; rfl)⟩⟩
 refine Cc ((decide ((fndI nm t.names : Int) < (0 : Int))) || (decide ((t.kids.length : Int) <= fndI nm t.names))) (fun hc6 c6 => ?_) fun hc6 c6 => ?_
 try simp only [KF] at c6
 refine Rr (Fn0 [] [(4, .nilp)] (Rt (.nilp) (fin_lea ?_)))
 unfold kdp
 rw [fndI_no (by rcases Decidable.em (fndI nm t.names < 0) with h | h; exact h; exfalso; obtain ⟨k, e1, e2, e3⟩ := fndI_lt (n := nm) (l := t.names) (by omega); omega)]; exact lea_refl _
 try simp only [KF] at c6
 refine Sk (Jn (hK3 (Kp [0, 5] (Rr (Av1 6 28 [(27, .int .i64 (fndI nm t.names)), (26, .sl 5 (t.kids.map trc)), (25, .pat [.sl 5 (t.kids.map trc)]), (24, .pat (tcs t)), (23, .pat (tcs t))] (congrArg AV.pat (mg_trc t.kids ((fndI nm t.names).toNat) (by omega))) (((1 : Nat) ≠ 0) /\ (1 <= 1 /\ 0 < 1) /\ (5 = 5 /\ (0 : Int) <= fndI nm t.names /\ fndI nm t.names < ((t.kids.map trc).length : Int)) /\ ·) ⟨(by decide), (by decide), ⟨rfl, by omega, by rw [List.length_map]; omega⟩, Fn0 [] [(4, .pat (tcs (t.kids.getD ((fndI nm t.names).toNat) default)))] (Rt (.pat (tcs (t.kids.getD ((fndI nm t.names).toNat) default))) ?_)⟩)))))
 refine fin_lea ?_
 obtain ⟨kk, e1, e2, e3⟩ := fndI_lt (n := nm) (l := t.names) (by omega)
 unfold kdp
 rw [e1, e2, Int.toNat_natCast]; exact lea_refl _
theorem atp_ok (t : Tr) (p : List Str) (hw : t.W < 2 ^ 40) (hwf : t.wf = true) (hp : p.length < 2 ^ 40) : PE G 21 [.pat (tcs t), pth p] (atp t p) := by
 refine Pe Try.func21 ?_
 refine Rr (Fn0 [0, 1] [] (Sq fun K2 hK2 => ?_))
 refine Rr (Av0 (r := .int .i64 ((p.map (fun s => [AV.str s])).length : Nat)) (v := .int .i64 p.length) 2 8 [(7, pth p)] (by rw [List.length_map]) (Fn0 [0, 7, 8] [(9, .int .i64 0)] (Bl (h_l (fun (z : Nat × Tr) => (match z with | (k, u) => ([(0, .pat (tcs u)), (7, pth p), (8, .int .i64 p.length), (9, .int .i64 k)] : Fr))) (fun (z : Nat × Tr) => (match z with | (k, u) => ([] : Hp))) (fun (z : Nat × Tr) cn => (match z with | (k, u) => (tat t (p.take k) = some u /\ k <= p.length /\ u.wf = true /\ u.W <= t.W) /\ cn = 0)) (fun (z : Nat × Tr) => p.length - z.1) (0, t) (by kernel_rfl) ?_ ?_ ?_ ?_))))
 refine ⟨?_, rfl⟩; exact ⟨rfl, Nat.zero_le _, hwf, Nat.le_refl _⟩
 exact ⟨by kernel_rfl, by kernel_rfl, by kernel_rfl, by kernel_rfl, trivial⟩
 exact (List.nil_sublist _)
 rintro ⟨k, u⟩ n1 hI
 (try dsimp only at hI)
 obtain ⟨⟨h1, hk, huw, huW⟩, rfl⟩ := hI
 have hun := wS_len u.names
 have huE := W_eq u
 refine Rr (Fn1 [0, 7, 8, 9] [(10, .bool (decide ((k : Int) < (p.length : Int))))] (Ki /\ ·) ⟨rfl, Sq fun K5 hK5 => ?_⟩)
 refine Cc (decide ((k : Int) < (p.length : Int))) (fun hc6 c6 => ?_) fun hc6 c6 => ?_
 try simp only [KF] at c6
 refine Sk (Jn (hK5 (Kp [0, 7, 8, 9] (Sq fun K7 hK7 => ?_))))
 refine Bl (Rr (Av1 1 11 [] (congrArg AV.pat (mg_str p k (by omega))) ((1 = 1 /\ (0 : Int) <= (k : Int) /\ (k : Int) < ((p.map (fun s => [AV.str s])).length : Int)) /\ ·) ⟨⟨rfl, by omega, by rw [List.length_map]; omega⟩, Fn1 [0, 7, 8, 9] [(6, .str (p.getD k default))] ((1 <= 1 /\ 0 < 1) /\ ·) ⟨(by decide), Rr ?_⟩⟩))
 refine Bc0 3 [(14, .str (p.getD k default)), (13, .pat (tcs u))] 46 [.pat (tcs u), .str (p.getD k default)] 15 ?_
 refine PE.use (kidp_ok u (p.getD k default) (by omega) (by assumption)) ?_
 unfold kdp
 rcases hf : fnd (p.getD k default) u.names with _ | kk
 dsimp only
 refine Ke (Fn0 [7, 8, 9] [(0, .nilp)] (Rr (Fn1 [0, 7, 8, 9] [(17, .bool true)] ((∃ e, TK.ptr 26 = TK.ptr e) /\ ·) ⟨⟨_, rfl⟩, Ct ?_⟩)))
 refine Rr (Fn0 [] [(4, .nilp)] (Rt (.nilp) (fin_lea ?_)))
 unfold atp
 rw [show tat t p = none by rw [<- List.take_append_drop (k + 1) p]; refine tat_app _ _ _ ?_; rw [take_snoc p k default (by omega), tat_snoc, h1]; simp only [tat, hf]]; exact lea_refl _
 dsimp only
 have hkk := fnd_lt hf
 refine Ke (Fn0 [7, 8, 9] [(0, .pat (tcs (u.kids.getD kk default)))] (Rr (Fn1 [0, 7, 8, 9] [(17, .bool false)] ((∃ e, TK.ptr 26 = TK.ptr e) /\ ·) ⟨⟨_, rfl⟩, Cf ?_⟩)))
 refine Sk (Bn (Jn (hK7 (Kp [0, 7, 8, 9] (Rn (Av1 1 18 [] (congrArg (AV.int .i64) (wn1 k (by omega))) (Ki /\ ·) ⟨rfl, Gn0 [(9, .int .i64 ((k + 1 : Nat) : Int))] (nk_n ?_)⟩))))))
 have hwu := wf_len huw
 have hkW := Ws_get u.kids kk (by omega)
 refine Lr (k + 1, u.kids.getD kk default) [] 0 [(0, .pat (tcs (u.kids.getD kk default))), (7, pth p), (8, .int .i64 p.length), (9, .int .i64 ((k + 1 : Nat) : Int))] [] [] ?_ ?_ (by kernel_rfl) (by kernel_rfl)
 (try dsimp only); omega
 refine ⟨?_, rfl⟩; (try dsimp only); refine ⟨?_, by omega, wf_kid huw (by omega) _, by omega⟩
 rw [take_snoc p k default (by omega), tat_snoc, h1]; simp only [tat, hf]; rfl
 try simp only [KF] at c6
 refine Xt (Jx (Lx (Bh (Jn (hK2 (Kp [0] (Rr (Fn0 [] [(4, .pat (tcs u))] (Rt (.pat (tcs u)) (fin_lea ?_))))))))))
 unfold atp
 rw [List.take_of_length_le (by omega)] at h1
 rw [h1]; exact lea_refl _
theorem TreeAt_ok (t : Tr) (p : List Str) (hw : t.W < 2 ^ 40) (hp : p.length < 2 ^ 40) : PE G 8 [.agg (tcs t), pth p] (.tup [.agg (tcs (tAt t p).1), .bool (tAt t p).2]) := by
 refine Pe Try.func8 ?_
 refine Rr (Fn2 [1] [(4, .ptr 4 0), (2, .ptr 0 0)] [(4, zt), (0, tcs t)] 8 (Sq fun K2 hK2 => ?_))
 refine Rr (Pc1 2 [(7, .agg (tcs t))] 8 (0 + 5 <= 5 /\ 0 < 5) (by decide) (TreeOk_ok t (by omega)) (Cn0 (!(treeOk t)) [1, 2, 4] [] ⟨fun hc4 c4 => ?_, fun hc4 c4 => ?_⟩))
 try simp only [KF] at c4
 refine Rr (Fn1 [4] [(5, .bool false)] ((true = true /\ 5 = 5 /\ 0 + 5 <= 5) /\ ·) ⟨(by decide), Rt1 ((0 + 5 <= 5 /\ 0 < 5) /\ ·) (.tup [.agg zt, .bool false]) ⟨(by decide), ?_⟩⟩)
 · refine fin_lea ?_
   unfold tAt
   rw [show treeOk t = false by simpa using hc4]
   first | exact lea_refl _ | (simp [lea, leas, pth, Tr.none, tcs, xat, hf]; done) | (simp [lea, leas, pth, Tr.none, tcs, xat]; done)
 try simp only [KF] at c4
 refine Sk (Jn (hK2 (Kp [1, 2, 4] ?_)))
 have hto : treeOk t = true := by simpa using hc4
 have hwf := wf_ok hto
 refine Rr (Bc0 2 [(11, pth p)] 21 [.ptr 0 0, pth p] 12 (Tz 0 1 5 ([[.bool t.dir], [.int .i64 t.mode], [.str t.data], [pth t.names], [.sl 5 (t.kids.map trc)]]) (tcs t) [.pat (tcs t), pth p] [(4, zt)] [true] (by kernel_rfl) (by first | decide | simp) (PE.use (atp_ok t p (by omega) (by assumption) (by omega)) ?_)))
 unfold atp
 rcases hf : tat t p with _ | x
 dsimp only
 refine Ke (Fn0 [4] [(6, .nilp)] (Sq fun K7 hK7 => ?_))
 refine Rr (Fn1 [4, 6] [(14, .bool true)] ((∃ e, TK.ptr 26 = TK.ptr e) /\ ·) ⟨⟨_, rfl⟩, Ct (Rr (Fn1 [4] [(5, .bool false)] ((true = true /\ 5 = 5 /\ 0 + 5 <= 5) /\ ·) ⟨(by decide), ?_⟩))⟩)
 refine Rt1 ((0 + 5 <= 5 /\ 0 < 5) /\ ·) (.tup [.agg zt, .bool false]) ⟨(by decide), ?_⟩
 · refine fin_lea ?_
   unfold tAt
   rw [hto]; (try rw [hf]); 
   first | exact lea_refl _ | (simp [lea, leas, pth, Tr.none, tcs, xat, hf]; done) | (simp [lea, leas, pth, Tr.none, tcs, xat]; done)
 dsimp only
 have hxW := W_tat _ _ _ hf
 have hxd := data_W x
 have hxn := wS_len x.names
 have hxE := W_eq x
 refine Ke (Fn0 [4] [(6, .pat (tcs x))] (Sq fun K10 hK10 => ?_))
 refine Rr (Fn1 [4, 6] [(14, .bool false)] ((∃ e, TK.ptr 26 = TK.ptr e) /\ ·) ⟨⟨_, rfl⟩, Cf (Sk (Jn (hK10 (Kp [4, 6] (Rr ?_)))))⟩)
 refine Pc1 4 [(18, .agg (tcs x)), (17, .pat (tcs x)), (16, .pat (tcs x))] 19 (5 <= 5 /\ 0 < 5) (by decide) (clonep_ok _ x rfl (by omega)) (Fn3 [4] [(5, .bool true)] [(4, tcs x)] 8 ((true = true /\ 5 = 5 /\ 0 + 5 <= 5) /\ ·) ⟨(by decide), Rt1 ((0 + 5 <= 5 /\ 0 < 5) /\ ·) (.tup [.agg (tcs x), .bool true]) ⟨(by decide), ?_⟩⟩)
 · refine fin_lea ?_
   unfold tAt
   rw [hto]; (try rw [hf]); 
   first | exact lea_refl _ | (simp [lea, leas, pth, Tr.none, tcs, xat, hf]; done) | (simp [lea, leas, pth, Tr.none, tcs, xat]; done)
theorem TreeList_ok (t : Tr) (p : List Str) (hw : t.W < 2 ^ 40) (hp : p.length < 2 ^ 40) : PE G 9 [.agg (tcs t), pth p] (.tup [pth (tList t p).1, .int .i64 (tList t p).2]) := by
 refine Pe Try.func9 ?_
 refine Rr (Fn2 [1] [(2, .ptr 0 0)] [(0, tcs t)] 4 (Sq fun K2 hK2 => ?_))
 refine Rr (Pc1 2 [(7, .agg (tcs t))] 8 (0 + 5 <= 5 /\ 0 < 5) (by decide) (TreeOk_ok t (by omega)) (Cn0 (!(treeOk t)) [1, 2] [] ⟨fun hc4 c4 => ?_, fun hc4 c4 => ?_⟩))
 try simp only [KF] at c4
 refine Rr (Fn3 [] [(5, .int .i64 1), (4, .osl 4 1 0 0)] [(4, []), (0, tcs t)] 8 ((0 * 1 <= 16777216) /\ ·) ⟨(by decide), Fz 4 1 0 ([]) ([]) [(4, .osl 4 1 0 0), (5, .int .i64 1)] [] [] (by kernel_rfl) (by first | decide | simp) (Rt (.tup [pth [], .int .i64 1]) ?_)⟩)
 · refine fin_lea ?_
   unfold tList
   rw [show treeOk t = false by simpa using hc4]
   first | exact lea_refl _ | (simp [lea, leas, pth, Tr.none, tcs, xat, hf]; done) | (simp [lea, leas, pth, Tr.none, tcs, xat]; done)
 try simp only [KF] at c4
 refine Sk (Jn (hK2 (Kp [1, 2] ?_)))
 have hto : treeOk t = true := by simpa using hc4
 have hwf := wf_ok hto
 refine Rr (Bc0 2 [(11, pth p)] 21 [.ptr 0 0, pth p] 12 (Tz 0 1 5 ([[.bool t.dir], [.int .i64 t.mode], [.str t.data], [pth t.names], [.sl 5 (t.kids.map trc)]]) (tcs t) [.pat (tcs t), pth p] [] [] (by kernel_rfl) (by first | decide | simp) (PE.use (atp_ok t p (by omega) (by assumption) (by omega)) ?_)))
 unfold atp
 rcases hf : tat t p with _ | x
 dsimp only
 refine Ke (Fn0 [] [(6, .nilp)] (Sq fun K7 hK7 => ?_))
 refine Bl (Rr (Fn1 [6] [(13, .bool true)] ((∃ e, TK.ptr 26 = TK.ptr e) /\ ·) ⟨⟨_, rfl⟩, Ct (Rr ?_)⟩))
 refine Fn3 [] [(5, .int .i64 3), (4, .osl 4 1 0 0)] [(4, [])] 8 ((0 * 1 <= 16777216) /\ ·) ⟨(by decide), Fz 4 1 0 ([]) ([]) [(4, .osl 4 1 0 0), (5, .int .i64 3)] [] [] (by kernel_rfl) (by first | decide | simp) (Rt (.tup [pth [], .int .i64 3]) ?_)⟩
 · refine fin_lea ?_
   unfold tList
   rw [hto]; (try rw [hf]); 
   first | exact lea_refl _ | (simp [lea, leas, pth, Tr.none, tcs, xat, hf]; done) | (simp [lea, leas, pth, Tr.none, tcs, xat]; done)
 dsimp only
 have hxW := W_tat _ _ _ hf
 have hxd := data_W x
 have hxn := wS_len x.names
 have hxE := W_eq x
 refine Ke (Fn0 [] [(6, .pat (tcs x))] (Sq fun K10 hK10 => ?_))
 refine Bl (Rr (Fn1 [6] [(13, .bool false)] ((∃ e, TK.ptr 26 = TK.ptr e) /\ ·) ⟨⟨_, rfl⟩, Cf (Rr ?_)⟩))
 refine Cn1 (!x.dir) [6] [] (((1 : Nat) ≠ 0) /\ (1 <= 5 /\ 0 < 5) /\ ·) ⟨(by decide), (by decide), fun hc13 c13 => ?_, fun hc13 c13 => ?_⟩
 try simp only [KF] at c13
 refine Rr (Fn3 [] [(5, .int .i64 4), (4, .osl 4 1 0 0)] [(4, [])] 8 ((0 * 1 <= 16777216) /\ ·) ⟨(by decide), Fz 4 1 0 ([]) ([]) [(4, .osl 4 1 0 0), (5, .int .i64 4)] [] [] (by kernel_rfl) (by first | decide | simp) (Rt (.tup [pth [], .int .i64 4]) ?_)⟩)
 · refine fin_lea ?_
   unfold tList
   rw [hto]; (try rw [hf]); (try simp only [hc13]); (try simp only [c13])
   first | exact lea_refl _ | (simp [lea, leas, pth, Tr.none, tcs, xat, hf]; done) | (simp [lea, leas, pth, Tr.none, tcs, xat]; done)
 try simp only [KF] at c13
 refine Sk (Bn (Jn (hK10 (Kp [6] (Rr (An3 6 [(29, .osl 8 1 0 (0 + (x.names.map (fun s => [AV.str s])).length)), (28, pth x.names), (27, .pat [pth x.names, .sl 5 (x.kids.map trc)]), (26, .pat (tcs x)), (25, .pat (tcs x)), (24, .osl 4 1 0 0)] [(8, apd [] (0 * 1) ((x.names.map (fun s => [AV.str s])).flatten))] 12 ((0 * 1 <= 16777216) /\ ((1 : Nat) ≠ 0) /\ (1 <= 2 /\ 0 < 2) /\ True /\ (1 = 1 /\ 0 * 1 <= 0 /\ 0 < 16 /\ (0 + (x.names.map (fun s => [AV.str s])).length) * 16 <= 140737488355328) /\ ·) ⟨(by decide), (by decide), (by decide), trivial, ⟨rfl, by (first | omega | (simp only [LL]; omega)), by decide, by (first | omega | (simp only [LL]; omega))⟩, run_v (v' := .osl 8 1 0 x.names.length) (by rw [Nat.zero_add, List.length_map]) (run_h (cs' := fl sc x.names) (app0_str _) ?_)⟩))))))
 refine Fn0 [] [(5, .int .i64 0), (4, .osl 8 1 0 x.names.length)] (FzS 8 x.names [(4, .osl 8 1 0 x.names.length), (5, .int .i64 0)] [] [] (Rt (.tup [pth x.names, .int .i64 0]) ?_))
 · refine fin_lea ?_
   unfold tList
   rw [hto]; (try rw [hf]); (try simp only [hc13]); (try simp only [c13])
   first | exact lea_refl _ | (simp [lea, leas, pth, Tr.none, tcs, xat, hf]; done) | (simp [lea, leas, pth, Tr.none, tcs, xat]; done)
theorem TreeRead_ok (t : Tr) (p : List Str) (a n : Int) (hw : t.W < 2 ^ 40) (hp : p.length < 2 ^ 40) (ha : a < 2 ^ 40) (hn : n < 2 ^ 40) (hn0 : -2 ^ 40 < n) : PE G 10 [.agg (tcs t), pth p, .int .i64 a, .int .i64 n] (.tup [.str (tRead t p a n).1, .int .i64 (tRead t p a n).2]) := by
 refine Pe Try.func10 ?_
 refine Rr (Fn2 [1, 2, 3] [(4, .ptr 0 0)] [(0, tcs t)] 4 (Sq fun K2 hK2 => ?_))
 refine Rr (Pc1 2 [(12, .agg (tcs t))] 13 (0 + 5 <= 5 /\ 0 < 5) (by decide) (TreeOk_ok t (by omega)) (Cn0 (!(treeOk t)) [1, 2, 3, 4] [] ⟨fun hc4 c4 => ?_, fun hc4 c4 => ?_⟩))
 try simp only [KF] at c4
 refine Rr (Fn0 [] [(9, .int .i64 1), (8, .str [])] (Rt (.tup [.str [], .int .i64 1]) ?_))
 · refine fin_lea ?_
   unfold tRead
   rw [show treeOk t = false by simpa using hc4]
   first | exact lea_refl _ | (simp [lea, leas, pth, Tr.none, tcs, xat, hf]; done) | (simp [lea, leas, pth, Tr.none, tcs, xat]; done)
 try simp only [KF] at c4
 refine Sk (Jn (hK2 (Kp [1, 2, 3, 4] (Sq fun K6 hK6 => ?_))))
 have hto : treeOk t = true := by simpa using hc4
 have hwf := wf_ok hto
 refine Rm 20 ((decide ((a : Int) < (0 : Int))) || (decide ((n : Int) < (0 : Int)))) [1, 2, 3, 4] ?_ ?_
 refine An1 3 [(17, .bool (decide ((a : Int) < (0 : Int)))), (16, .bool (decide ((a : Int) < (0 : Int)))), (15, .int .i64 a)] (Ki /\ ·) ⟨rfl, run_b (fun g8 => ?_) (fun g8 => ?_)⟩
 have hg8 := g8
 try simp only [KF] at g8
 refine Mn0 true (by rw [hg8]; rfl)
 have hg8 := g8
 try simp only [KF] at g8
 refine Mn1 (decide ((n : Int) < (0 : Int))) (Ki /\ ·) ⟨rfl, (by rw [hg8]; rfl)⟩
 refine Cc ((decide ((a : Int) < (0 : Int))) || (decide ((n : Int) < (0 : Int)))) (fun hc9 c9 => ?_) fun hc9 c9 => ?_
 try simp only [KF] at c9
 refine Rr (Fn0 [] [(9, .int .i64 2), (8, .str [])] (Rt (.tup [.str [], .int .i64 2]) ?_))
 · refine fin_lea ?_
   unfold tRead
   rw [hto]; (try rw [hf]); (try simp only [hc9]); (try simp only [c9])
   first | exact lea_refl _ | (simp [lea, leas, pth, Tr.none, tcs, xat, hf]; done) | (simp [lea, leas, pth, Tr.none, tcs, xat]; done) | (simp [lea, leas]; exact rd_eq _ _ _ c9)
 try simp only [KF] at c9
 refine Sk (Jn (hK6 (Kp [1, 2, 3, 4] (Rr (Bc0 2 [(21, pth p)] 21 [.ptr 0 0, pth p] 22 (Tz 0 1 5 ([[.bool t.dir], [.int .i64 t.mode], [.str t.data], [pth t.names], [.sl 5 (t.kids.map trc)]]) (tcs t) [.pat (tcs t), pth p] [] [] (by kernel_rfl) (by first | decide | simp) (PE.use (atp_ok t p (by omega) (by assumption) (by omega)) ?_)))))))
 unfold atp
 rcases hf : tat t p with _ | x
 dsimp only
 refine Ke (Fn0 [2, 3] [(10, .nilp)] (Sq fun K12 hK12 => ?_))
 refine Bl (Rr (Fn1 [2, 3, 10] [(23, .bool true)] ((∃ e, TK.ptr 26 = TK.ptr e) /\ ·) ⟨⟨_, rfl⟩, Ct (Rr ?_)⟩))
 refine Fn0 [] [(9, .int .i64 3), (8, .str [])] (Rt (.tup [.str [], .int .i64 3]) ?_)
 · refine fin_lea ?_
   unfold tRead
   rw [hto]; (try rw [hf]); (try simp only [hc9]); (try simp only [c9])
   first | exact lea_refl _ | (simp [lea, leas, pth, Tr.none, tcs, xat, hf]; done) | (simp [lea, leas, pth, Tr.none, tcs, xat]; done) | (simp [lea, leas]; exact rd_eq _ _ _ c9)
 dsimp only
 have hxW := W_tat _ _ _ hf
 have hxd := data_W x
 have hxn := wS_len x.names
 have hxE := W_eq x
 refine Ke (Fn0 [2, 3] [(10, .pat (tcs x))] (Sq fun K15 hK15 => ?_))
 refine Bl (Rr (Fn1 [2, 3, 10] [(23, .bool false)] ((∃ e, TK.ptr 26 = TK.ptr e) /\ ·) ⟨⟨_, rfl⟩, Cf (Rr ?_)⟩))
 refine Cn1 x.dir [2, 3, 10] [] (((1 : Nat) ≠ 0) /\ (1 <= 5 /\ 0 < 5) /\ ·) ⟨(by decide), (by decide), fun hc18 c18 => ?_, fun hc18 c18 => ?_⟩
 try simp only [KF] at c18
 refine Rr (Fn0 [] [(9, .int .i64 4), (8, .str [])] (Rt (.tup [.str [], .int .i64 4]) ?_))
 · refine fin_lea ?_
   unfold tRead
   rw [hto]; (try rw [hf]); (try simp only [hc9]); (try simp only [c9]); (try simp only [hc18]); (try simp only [c18])
   first | exact lea_refl _ | (simp [lea, leas, pth, Tr.none, tcs, xat, hf]; done) | (simp [lea, leas, pth, Tr.none, tcs, xat]; done) | (simp [lea, leas]; exact rd_eq _ _ _ c9)
 try simp only [KF] at c18
 refine Sk (Bn (Jn (hK15 (Kp [2, 3, 10] (Qr [0, 1, 3, 7, 0, 0, 32, 96, 224, 480, 1008, 2047, 4095] [(0, []), (1, []), (2, []), (3, []), (4, []), (5, []), (6, []), (7, []), (8, []), (9, []), (10, []), (11, []), (12, [])] (qAv1 (r := .str ((x.data.take x.data.length).drop ((if ((x.data.length : Int) : Int) < a then (x.data.length : Int) else a).toNat))) (v := .str (x.data.drop ((if ((x.data.length : Int) : Int) < a then (x.data.length : Int) else a).toNat))) 12 42 [(41, .int .i64 (if ((x.data.length : Int) : Int) < a then (x.data.length : Int) else a)), (40, .int .i64 x.data.length), (39, .str x.data), (38, .pat [.str x.data, pth x.names, .sl 5 (x.kids.map trc)]), (37, .pat (tcs x)), (36, .pat (tcs x)), (35, .int .i64 a), (34, .str x.data), (33, .pat [.str x.data, pth x.names, .sl 5 (x.kids.map trc)]), (32, .pat (tcs x)), (31, .pat (tcs x))] (congrArg AV.str (congrArg (List.drop _) List.take_length)) (((1 : Nat) ≠ 0) /\ (1 <= 3 /\ 0 < 3) /\ ((1 : Nat) ≠ 0) /\ (1 <= 3 /\ 0 < 3) /\ Ki /\ (0 <= ((if ((x.data.length : Int) : Int) < a then (x.data.length : Int) else a) : Int) /\ ((if ((x.data.length : Int) : Int) < a then (x.data.length : Int) else a) : Int) <= (x.data.length : Int) /\ (x.data.length : Int) <= (x.data.length : Int)) /\ ·) ⟨(by decide), (by decide), (by decide), (by decide), rfl, ⟨by omega, by omega, by omega⟩, qFn0 [3] [(11, .str (x.data.drop ((if ((x.data.length : Int) : Int) < a then (x.data.length : Int) else a).toNat)))] (Rr ?_)⟩))))))
 refine Fn1 [] [(9, .int .i64 0), (8, .str ((x.data.drop ((if ((x.data.length : Int) : Int) < a then (x.data.length : Int) else a).toNat)).take ((if ((((x.data.drop ((if ((x.data.length : Int) : Int) < a then (x.data.length : Int) else a).toNat)).length : Nat) : Int) : Int) < n then (((x.data.drop ((if ((x.data.length : Int) : Int) < a then (x.data.length : Int) else a).toNat)).length : Nat) : Int) else n).toNat)))] (fun Z => Ki /\ (0 <= (0 : Int) /\ (0 : Int) <= (if ((((x.data.drop ((if ((x.data.length : Int) : Int) < a then (x.data.length : Int) else a).toNat)).length : Nat) : Int) : Int) < n then (((x.data.drop ((if ((x.data.length : Int) : Int) < a then (x.data.length : Int) else a).toNat)).length : Nat) : Int) else n) /\ (if ((((x.data.drop ((if ((x.data.length : Int) : Int) < a then (x.data.length : Int) else a).toNat)).length : Nat) : Int) : Int) < n then (((x.data.drop ((if ((x.data.length : Int) : Int) < a then (x.data.length : Int) else a).toNat)).length : Nat) : Int) else n) <= (((x.data.drop ((if ((x.data.length : Int) : Int) < a then (x.data.length : Int) else a).toNat)).length : Nat) : Int)) /\ Z) ⟨rfl, ⟨by omega, by omega, by omega⟩, Rt (.tup [.str ((x.data.drop ((if ((x.data.length : Int) : Int) < a then (x.data.length : Int) else a).toNat)).take ((if ((((x.data.drop ((if ((x.data.length : Int) : Int) < a then (x.data.length : Int) else a).toNat)).length : Nat) : Int) : Int) < n then (((x.data.drop ((if ((x.data.length : Int) : Int) < a then (x.data.length : Int) else a).toNat)).length : Nat) : Int) else n).toNat)), .int .i64 0]) ?_⟩
 · refine fin_lea ?_
   unfold tRead
   rw [hto]; (try rw [hf]); (try simp only [hc9]); (try simp only [c9]); (try simp only [hc18]); (try simp only [c18])
   first | exact lea_refl _ | (simp [lea, leas, pth, Tr.none, tcs, xat, hf]; done) | (simp [lea, leas, pth, Tr.none, tcs, xat]; done) | (simp [lea, leas]; exact rd_eq _ _ _ c9)
theorem wtTexts_ok (p q : List Str) (hp : p.length < 2 ^ 40) (hq : q.length < 2 ^ 40) : PE G 20 [pth p, pth q] (.bool (p == q)) := by
 refine Pe Try.func20 ?_
 refine Rr (Fn0 [0, 1] [] (Sq fun K2 hK2 => ?_))
 refine Rr (Av0 (r := .int .i64 ((p.map (fun s => [AV.str s])).length : Nat)) (v := .int .i64 p.length) 2 7 [(6, pth p)] (by rw [List.length_map]) (Av0 (r := .int .i64 ((q.map (fun s => [AV.str s])).length : Nat)) (v := .int .i64 q.length) 2 9 [(8, pth q)] (by rw [List.length_map]) (Cn1 (!decide ((p.length : Int) = (q.length : Int))) [0, 1] [] (Ki /\ ·) ⟨rfl, fun hc4 c4 => ?_, fun hc4 c4 => ?_⟩)))
 try simp only [KF] at c4
 refine Rr (Fn0 [] [(4, .bool false)] (Rt (.bool false) (fin_lea ?_)))
 have hr : (p == q) = false := by
   rw [beq_eq_false_iff_ne]; intro e; subst e
   omega
 rw [hr]; exact lea_refl _
 try simp only [KF] at c4
 refine Sk (Jn (hK2 (Kp [0, 1] (Sq fun K6 hK6 => ?_))))
 refine Rr (Fn0 [0, 1] [(5, .int .i64 0)] (Bl (h_l (fun (k : Nat) => ([(0, pth p), (1, pth q), (5, .int .i64 k)] : Fr)) (fun (k : Nat) => ([] : Hp)) (fun (k : Nat) cn => (k <= p.length /\ p.take k = q.take k) /\ cn = 0) (fun (k : Nat) => p.length - k) 0 (by kernel_rfl) ?_ ?_ ?_ ?_)))
 refine ⟨?_, rfl⟩; exact ⟨Nat.zero_le _, rfl⟩
 exact ⟨by kernel_rfl, by kernel_rfl, by kernel_rfl, trivial⟩
 exact (List.nil_sublist _)
 rintro k n1 hI
 (try dsimp only at hI)
 obtain ⟨⟨hk, hpre⟩, rfl⟩ := hI
 refine Sq fun K8 hK8 => ?_
 refine Rr (Av0 (r := .int .i64 ((p.map (fun s => [AV.str s])).length : Nat)) (v := .int .i64 p.length) 3 13 [(12, pth p), (11, .int .i64 k)] (by rw [List.length_map]) (Cn1 (decide ((k : Int) < (p.length : Int))) [0, 1, 5] [] (Ki /\ ·) ⟨rfl, fun hc10 c10 => ?_, fun hc10 c10 => ?_⟩))
 try simp only [KF] at c10
 refine Sk (Jn (hK8 (Kp [0, 1, 5] (Sq fun K11 hK11 => ?_))))
 refine Bl (Qr [0, 0, 3, 7, 0, 0, 48, 112, 255] [(0, []), (1, []), (2, []), (3, []), (4, []), (5, []), (6, []), (7, []), (8, [])] (qAv1 3 19 [(18, .int .i64 k), (17, pth p)] (congrArg AV.pat (mg_str p k (by omega))) ((1 = 1 /\ (0 : Int) <= (k : Int) /\ (k : Int) < ((p.map (fun s => [AV.str s])).length : Int)) /\ ·) ⟨⟨rfl, by omega, by rw [List.length_map]; omega⟩, qAv1 4 23 [(22, .int .i64 k), (21, pth q), (20, .str (p.getD k default))] (congrArg AV.pat (mg_str q k (by omega))) ((1 <= 1 /\ 0 < 1) /\ (1 = 1 /\ (0 : Int) <= (k : Int) /\ (k : Int) < ((q.map (fun s => [AV.str s])).length : Int)) /\ ·) ⟨(by decide), ⟨rfl, by omega, by rw [List.length_map]; omega⟩, qCn1 (!((p.getD k default) == (q.getD k default))) [0, 1, 5] [] ((1 <= 1 /\ 0 < 1) /\ ·) ⟨(by decide), fun hc13 c13 => ?_, fun hc13 c13 => ?_⟩⟩⟩))
 try simp only [KF] at c13
 refine Rr (Fn0 [] [(4, .bool false)] (Rt (.bool false) (fin_lea ?_)))
 have hr : (p == q) = false := by
   rw [beq_eq_false_iff_ne]; intro e; subst e
   simp at hc13
 rw [hr]; exact lea_refl _
 try simp only [KF] at c13
 refine Sk (Bn (Jn (hK11 (Kp [0, 1, 5] (Rn (Av1 2 16 [(15, .int .i64 k)] (congrArg (AV.int .i64) (wn1 k (by omega))) (Ki /\ ·) ⟨rfl, Gn0 [(5, .int .i64 ((k + 1 : Nat) : Int))] (nk_n ?_)⟩))))))
 refine Lr (k + 1) [] 0 [(0, pth p), (1, pth q), (5, .int .i64 ((k + 1 : Nat) : Int))] [] [] ?_ ?_ (by kernel_rfl) (by kernel_rfl)
 (try dsimp only); omega
 refine ⟨?_, rfl⟩; (try dsimp only); refine ⟨by omega, ?_⟩; rw [take_snoc q k default (by omega), take_snoc p k default (by omega), hpre]; congr 2; simpa using hc13
 try simp only [KF] at c10
 refine Xt (Jx (Lx (Bh (Jn (hK6 (Kp [] (Rr (Fn0 [] [(4, .bool true)] (Rt (.bool true) (fin_lea ?_))))))))))
 have hr : (p == q) = true := by
   rw [List.take_of_length_le (by omega), List.take_of_length_le (by omega)] at hpre
   rw [hpre, beq_self_eq_true]
 rw [hr]; exact lea_refl _
theorem wtTree_ok : ∀ (N : Nat) (a b : Tr), a.W = N -> a.W < 2 ^ 40 -> b.W < 2 ^ 40 -> PE G 7 [.agg (tcs a), .agg (tcs b)] (.bool (wtT a b)) := by
 intro N; refine Nat.strongRecOn N fun N ih => ?_; intro a b hN hw hw2; rw [W_eq] at hN hw hw2; have hks := Ws_len a.kids; have hns := wS_len a.names; have hks2 := Ws_len b.kids; have hns2 := wS_len b.names
 refine Pe Try.func7 ?_
 refine Rr (Fn2 [] [(3, .ptr 4 0), (2, .ptr 0 0)] [(4, tcs b), (0, tcs a)] 8 (Sq fun K2 hK2 => ?_))
 refine Rm 41 ((!(a.dir == b.dir)) || ((!decide ((a.mode : Int) = (b.mode : Int))) || ((!(a.data == b.data)) || ((!(a.names == b.names)) || (!decide ((a.kids.length : Int) = (b.kids.length : Int))))))) [2, 3] ?_ ?_
 refine An1 6 [(11, .bool (!(a.dir == b.dir))), (10, .bool (!(a.dir == b.dir))), (9, .bool b.dir), (8, .ptr 4 0), (7, .bool a.dir), (6, .ptr 0 0)] (((1 : Nat) ≠ 0) /\ (0 + 1 <= 5 /\ 0 < 5) /\ ((1 : Nat) ≠ 0) /\ (0 + 1 <= 5 /\ 0 < 5) /\ (TK.bool = TK.bool) /\ ·) ⟨(by decide), (by decide), (by decide), (by decide), rfl, run_b (fun g4 => ?_) (fun g4 => ?_)⟩
 have hg4 := g4
 try simp only [KF] at g4
 refine Mn0 true (by rw [hg4]; rfl)
 have hg4 := g4
 try simp only [KF] at g4
 refine An1 7 [(18, .bool (!decide ((a.mode : Int) = (b.mode : Int)))), (17, .bool (!decide ((a.mode : Int) = (b.mode : Int)))), (16, .bool (!decide ((a.mode : Int) = (b.mode : Int)))), (15, .int .i64 b.mode), (14, .ptr 4 1), (13, .int .i64 a.mode), (12, .ptr 0 1)] (((1 : Nat) ≠ 0) /\ (1 + 1 <= 5 /\ 1 < 5) /\ ((1 : Nat) ≠ 0) /\ (1 + 1 <= 5 /\ 1 < 5) /\ Ki /\ ·) ⟨(by decide), (by decide), (by decide), (by decide), rfl, run_b (fun g5 => ?_) (fun g5 => ?_)⟩
 have hg5 := g5
 try simp only [KF] at g5
 refine Mn0 true (by rw [hg4, hg5]; rfl)
 have hg5 := g5
 try simp only [KF] at g5
 refine An1 7 [(25, .bool (!(a.data == b.data))), (24, .bool (!(a.data == b.data))), (23, .bool (!(a.data == b.data))), (22, .str b.data), (21, .ptr 4 2), (20, .str a.data), (19, .ptr 0 2)] (((1 : Nat) ≠ 0) /\ (2 + 1 <= 5 /\ 2 < 5) /\ ((1 : Nat) ≠ 0) /\ (2 + 1 <= 5 /\ 2 < 5) /\ ·) ⟨(by decide), (by decide), (by decide), (by decide), run_b (fun g6 => ?_) (fun g6 => ?_)⟩
 have hg6 := g6
 try simp only [KF] at g6
 refine Mn0 true (by rw [hg4, hg5, hg6]; rfl)
 have hg6 := g6
 try simp only [KF] at g6
 refine Bc1 5 [(29, pth b.names), (28, .ptr 4 3), (27, pth a.names), (26, .ptr 0 3)] 20 [pth a.names, pth b.names] 30 (((1 : Nat) ≠ 0) /\ (3 + 1 <= 5 /\ 3 < 5) /\ ((1 : Nat) ≠ 0) /\ (3 + 1 <= 5 /\ 3 < 5) /\ ·) ⟨(by decide), (by decide), (by decide), (by decide), ?_⟩
 refine PE.use (wtTexts_ok a.names b.names (by omega) (by omega)) ?_
 refine Ke (An0 3 [(33, .bool (!(a.names == b.names))), (32, .bool (!(a.names == b.names))), (31, .bool (!(a.names == b.names)))] (run_b (fun g7 => ?_) (fun g7 => ?_)))
 have hg7 := g7
 try simp only [KF] at g7
 refine Mn0 true (by rw [hg4, hg5, hg6, hg7]; rfl)
 have hg7 := g7
 try simp only [KF] at g7
 refine Av1 (r := .int .i64 ((a.kids.map trc).length : Nat)) (v := .int .i64 a.kids.length) 3 36 [(35, .sl 5 (a.kids.map trc)), (34, .ptr 0 4)] (by rw [List.length_map]) (((1 : Nat) ≠ 0) /\ (4 + 1 <= 5 /\ 4 < 5) /\ ·) ⟨(by decide), (by decide), Av1 (r := .int .i64 ((b.kids.map trc).length : Nat)) (v := .int .i64 b.kids.length) 3 39 [(38, .sl 5 (b.kids.map trc)), (37, .ptr 4 4)] (by rw [List.length_map]) (((1 : Nat) ≠ 0) /\ (4 + 1 <= 5 /\ 4 < 5) /\ ·) ⟨(by decide), (by decide), Mn1 (!decide ((a.kids.length : Int) = (b.kids.length : Int))) (Ki /\ ·) ⟨rfl, (by rw [hg4, hg5, hg6, hg7]; rfl)⟩⟩⟩
 refine Cc ((!(a.dir == b.dir)) || ((!decide ((a.mode : Int) = (b.mode : Int))) || ((!(a.data == b.data)) || ((!(a.names == b.names)) || (!decide ((a.kids.length : Int) = (b.kids.length : Int))))))) (fun hc8 c8 => ?_) fun hc8 c8 => ?_
 try simp only [KF] at c8
 refine Rr (Fn0 [] [(4, .bool false)] (Rt (.bool false) (fin_lea ?_)))
 have hr : wtT a b = false := by
   refine wtT_no fun e => ?_
   subst e
   simp at hc8
 rw [hr]; exact lea_refl _
 try simp only [KF] at c8
 refine Sk (Jn (hK2 (Kp [2, 3] (Sq fun K10 hK10 => ?_))))
 have hE : (((a.dir = b.dir /\ a.mode = b.mode) /\ a.data = b.data) /\ a.names = b.names) /\ a.kids.length = b.kids.length := by
   have h := hc8
   simp only [Bool.or_eq_false_iff, Bool.not_eq_false', beq_iff_eq, decide_eq_true_eq, decide_eq_false_iff_not, Bool.not_eq_true', bne_eq_false_iff_eq] at h
   obtain ⟨h1, h2, h3, h4, h5⟩ := h
   exact ⟨⟨⟨⟨h1, h2⟩, h3⟩, h4⟩, by omega⟩
 refine Rr (Fn0 [2, 3] [(5, .int .i64 0)] (Bl (h_l (fun (k : Nat) => ([(2, .ptr 0 0), (3, .ptr 4 0), (5, .int .i64 k)] : Fr)) (fun (k : Nat) => ([(4, tcs b), (0, tcs a)] : Hp)) (fun (k : Nat) cn => (k <= a.kids.length /\ a.kids.take k = b.kids.take k) /\ cn = 8) (fun (k : Nat) => a.kids.length - k) 0 (by kernel_rfl) ?_ ?_ ?_ ?_)))
 refine ⟨?_, rfl⟩; exact ⟨Nat.zero_le _, rfl⟩
 exact ⟨by kernel_rfl, by kernel_rfl, by kernel_rfl, trivial⟩
 exact (sub_c (by kernel_rfl) (sub_c (by kernel_rfl) (List.nil_sublist _)))
 rintro k n1 hI
 (try dsimp only at hI)
 obtain ⟨⟨hk, hpre⟩, rfl⟩ := hI
 refine Sq fun K12 hK12 => ?_
 refine Rr (Av1 (r := .int .i64 ((a.kids.map trc).length : Nat)) (v := .int .i64 a.kids.length) 4 45 [(44, .sl 5 (a.kids.map trc)), (43, .ptr 0 4), (42, .int .i64 k)] (by rw [List.length_map]) (((1 : Nat) ≠ 0) /\ (4 + 1 <= 5 /\ 4 < 5) /\ ·) ⟨(by decide), (by decide), Cn1 (decide ((k : Int) < (a.kids.length : Int))) [2, 3, 5] [] (Ki /\ ·) ⟨rfl, fun hc14 c14 => ?_, fun hc14 c14 => ?_⟩⟩)
 try simp only [KF] at c14
 refine Sk (Jn (hK12 (Kp [2, 3, 5] (Sq fun K15 hK15 => ?_))))
 refine Bl (Qr [0, 1, 0, 7, 15, 0, 32, 0, 224, 480, 1023, 2047] [(0, []), (1, []), (2, []), (3, []), (4, []), (5, []), (6, []), (7, []), (8, []), (9, []), (10, []), (11, [])] (qAv1 4 52 [(51, .int .i64 k), (50, .sl 5 (a.kids.map trc)), (49, .ptr 0 4)] (congrArg AV.pat (mg_trc a.kids k (by omega))) (((1 : Nat) ≠ 0) /\ (4 + 1 <= 5 /\ 4 < 5) /\ (5 = 5 /\ (0 : Int) <= (k : Int) /\ (k : Int) < ((a.kids.map trc).length : Int)) /\ ·) ⟨(by decide), (by decide), ⟨rfl, by omega, by rw [List.length_map]; omega⟩, qAv1 5 57 [(56, .int .i64 k), (55, .sl 5 (b.kids.map trc)), (54, .ptr 4 4), (53, .agg (tcs (a.kids.getD k default)))] (congrArg AV.pat (mg_trc b.kids k (by omega))) ((5 <= 5 /\ 0 < 5) /\ ((1 : Nat) ≠ 0) /\ (4 + 1 <= 5 /\ 4 < 5) /\ (5 = 5 /\ (0 : Int) <= (k : Int) /\ (k : Int) < ((b.kids.map trc).length : Int)) /\ ·) ⟨(by decide), (by decide), (by decide), ⟨rfl, by omega, by rw [List.length_map]; omega⟩, qBc1 2 [(58, .agg (tcs (b.kids.getD k default)))] [] 7 [.agg (tcs (a.kids.getD k default)), .agg (tcs (b.kids.getD k default))] 59 ((5 <= 5 /\ 0 < 5) /\ ·) ⟨(by decide), ?_⟩⟩⟩))
 have hW := Ws_get a.kids k (by omega)
 have hW2 := Ws_get b.kids k (by omega)
 refine PE.use (ih _ (by omega) (a.kids.getD k default) (b.kids.getD k default) rfl (by omega) (by omega)) ?_
 refine Kq (p := (True)) trivial ?_
 refine qCn0 (!(wtT (a.kids.getD k default) (b.kids.getD k default))) [2, 3, 5] [] ⟨fun hc17 c17 => ?_, fun hc17 c17 => ?_⟩
 try simp only [KF] at c17
 refine Rr (Fn0 [] [(4, .bool false)] (Rt (.bool false) (fin_lea ?_)))
 have hr : wtT a b = false := by
   refine wtT_no fun e => ?_
   subst e
   rw [show wtT (a.kids.getD k default) (a.kids.getD k default) = true from wtT_iff.2 rfl] at hc17; simp at hc17
 rw [hr]; exact lea_refl _
 try simp only [KF] at c17
 refine Sk (Bn (Jn (hK15 (Kp [2, 3, 5] (Rn (Av1 2 48 [(47, .int .i64 k)] (congrArg (AV.int .i64) (wn1 k (by omega))) (Ki /\ ·) ⟨rfl, Gn0 [(5, .int .i64 ((k + 1 : Nat) : Int))] (nk_n ?_)⟩))))))
 refine Lr (k + 1) [(0, 0), (4, 4)] 8 [(2, .ptr 0 0), (3, .ptr 4 0), (5, .int .i64 ((k + 1 : Nat) : Int))] [(4, tcs b), (0, tcs a)] [true, true] ?_ ?_ (by kernel_rfl) (by kernel_rfl)
 (try dsimp only); omega
 refine ⟨?_, rfl⟩; (try dsimp only); refine ⟨by omega, ?_⟩; rw [take_snoc b.kids k default (by omega), take_snoc a.kids k default (by omega), hpre]; congr 2; exact wtT_iff.1 (by simpa using hc17)
 try simp only [KF] at c14
 refine Xt (Jx (Lx (Bh (Jn (hK10 (Kp [] (Rr (Fn0 [] [(4, .bool true)] (Rt (.bool true) (fin_lea ?_))))))))))
 have hr : wtT a b = true := by
   rw [List.take_of_length_le (by omega), List.take_of_length_le (by omega)] at hpre
   obtain ⟨⟨⟨⟨e1, e2⟩, e3⟩, e4⟩, e5⟩ := hE
   refine wtT_iff.2 ?_
   cases a; cases b
   simp only [Tr.dir_mk, Tr.mode_mk, Tr.data_mk, Tr.names_mk, Tr.kids_mk] at *
   subst e1 e2 e3 e4 hpre; rfl
 rw [hr]; exact lea_refl _
def iRename (t : Tr) (c : Cl) : Tr × Int := match tat t c.path with
 | none => (t, 3)
 | some x => bif c.path.isPrefixOf c.to then (t, 7) else bif !decide (parC t c.to = (0 : Int)) then (t, parC t c.to) else
  match tat t c.to with
  | some _ => (t, 5)
  | none => (tset c.path (tset c.to t x false) .none true, 0)
def iDo (t : Tr) (c : Cl) : Tr × Int :=
 bif !decide (parC t c.path = (0 : Int)) then (t, parC t c.path) else
 bif decide (c.kind = (1 : Int)) then (match tat t c.path with | some _ => (t, 5) | none => (tset c.path t (newDir c.at_) false, 0)) else
 bif decide (c.kind = (2 : Int)) then (match tat t c.path with
  | some x => bif x.dir then (t, 4) else bif decide ((24 : Int) < c.at_ + ((c.data.length : Nat) : Int)) then (t, 6) else (tset c.path t (wData x (wrt x.data c.at_ c.data)) false, 0)
  | none => bif decide ((24 : Int) < c.at_ + ((c.data.length : Nat) : Int)) then (t, 6) else (tset c.path t (wData .none (wrt [] c.at_ c.data)) false, 0)) else
 bif decide (c.kind = (3 : Int)) then (match tat t c.path with
  | none => (t, 3)
  | some x => bif x.dir then (t, 4) else (tset c.path t (wData x (szd x.data c.at_)) false, 0)) else
 bif decide (c.kind = (4 : Int)) then (match tat t c.path with
  | none => (t, 3)
  | some x => bif x.dir && decide ((0 : Int) < ((x.names.length : Nat) : Int)) then (t, 5) else (tset c.path t .none true, 0)) else
 bif decide (c.kind = (5 : Int)) then iRename t c else
 bif decide (c.kind = (6 : Int)) then (match tat t c.path with
  | none => (t, 3)
  | some x => (tset c.path t (wMode x c.at_) false, 0)) else (t, 0)
theorem last_snoc {p : List Str} (h : 0 < p.length) : p.take (p.length - 1) ++ [p.getD (((p.length : Nat) : Int) - 1).toNat default] = p := by
 rw [show (((p.length : Nat) : Int) - 1).toNat = p.length - 1 by omega, <- take_snoc p (p.length - 1) default (by omega), show p.length - 1 + 1 = p.length by omega, List.take_length]
theorem oat_kid_none {T u : OT} {q : List Str} {nm : Str} (hu : oat T q = some u) (h : oat T (q ++ [nm]) = none) : fnd nm u.names = none := by
 rw [oat_snoc, hu] at h
 simp only [oat] at h
 cases hf : fnd nm u.names with
 | none => rfl
 | some k => rw [hf] at h; cases h
theorem oat_kid_some {T u y : OT} {q : List Str} {nm : Str} (hu : oat T q = some u) (h : oat T (q ++ [nm]) = some y) : ∃ k, fnd nm u.names = some k /\ u.kids.getD k default = y := by
 rw [oat_snoc, hu] at h
 simp only [oat] at h
 cases hf : fnd nm u.names with
 | none => rw [hf] at h; cases h
 | some k => rw [hf] at h; exact ⟨k, rfl, by simpa using h⟩
theorem fnd_ins {nm n : Str} (hne : n ≠ nm) (l : List Str) (j k : Nat) (h : fnd n l = some k) : fnd n (l.take j ++ [nm] ++ l.drop j) = some (if k < j then k else k + 1) := by
 have h1 : fnd n (l.take j ++ l.drop j) = some k := by rw [List.take_append_drop]; exact h
 rw [fnd_app] at h1
 rw [List.append_assoc, fnd_app]
 have h2 : fnd n ([nm] ++ l.drop j) = (fnd n (l.drop j)).map (· + 1) := by
  show fnd n (nm :: l.drop j) = _
  rw [fnd, show (nm == n) = false by simpa using Ne.symm hne]; rfl
 rw [h2]
 cases hf : fnd n (l.take j) with
 | some i =>
  rw [hf] at h1
  simp only [Option.some.injEq] at h1
  subst h1
  have := fnd_lt hf
  rw [List.length_take] at this
  simp only [show i < j by omega, if_true]
 | none =>
  rw [hf] at h1
  dsimp only at h1 ⊢
  cases hd : fnd n (l.drop j) with
  | none => rw [hd] at h1; cases h1
  | some i =>
   rw [hd] at h1
   simp only [Option.map_some, Option.some.injEq, List.length_take] at h1 ⊢
   have := fnd_lt hd
   rw [List.length_drop] at this
   split <;> omega
theorem getD_ins {α : Type} (l : List α) (x d : α) (j k : Nat) (hj : j <= l.length) (hk : k < l.length) : (l.take j ++ [x] ++ l.drop j).getD (if k < j then k else k + 1) d = l.getD k d := by
 simp only [List.getD_eq_getElem?_getD]
 congr 1
 split
 ·rename_i h
  rw [List.append_assoc, List.getElem?_append_left (by simp; omega), List.getElem?_take, if_pos h]
 ·rename_i h
  rw [List.getElem?_append_right (by simp; omega), List.getElem?_drop]
  congr 1
  simp; omega
theorem put_keeps {x : Tr} : ∀ (to : List Str) (t q : Tr) (p : List Str) (v : Tr), t.wf = true -> tnd t -> asc q.names = true -> to ≠ [] -> tat t (to.take (to.length - 1)) = some q -> tat t to = none -> tat t p = some v -> ∃ v', tat (tset to t x false) p = some v' /\ v'.dir = v.dir
 | [], _, _, _, _, _, _, _, h, _, _, _ => absurd rfl h
 | [nm], t, q, p, v, hw, hn, ha, _, hq, hz, hp => by
  simp only [List.length_cons, List.length_nil, Nat.zero_add, Nat.sub_self, List.take_zero, tat, Option.some.injEq] at hq
  subst hq
  rw [tat_cons] at hz
  have hf : fnd nm t.names = none := by
   cases hf : fnd nm t.names with
   | none => rfl
   | some k => rw [hf] at hz; simp [tat] at hz
  have hwl := wf_len hw
  obtain ⟨j, h1, h2, h3⟩ : ∃ j, j <= t.names.length /\ (∀ l, l < j -> blt (t.names.getD l default) nm = true) /\ (∀ l, j <= l -> l < t.names.length -> blt (t.names.getD l default) nm = false) := by
   have key : ∀ m, m <= t.names.length -> (∀ l, l < m -> blt (t.names.getD l default) nm = true) \/ ∃ j, j < m /\ (∀ l, l < j -> blt (t.names.getD l default) nm = true) /\ blt (t.names.getD j default) nm = false := by
    intro m
    induction m with
    | zero => intro _; exact .inl fun l hl => by omega
    | succ m ih =>
     intro hm
     rcases ih (by omega) with h | ⟨j, h1, h2, h3⟩
     ·cases hb : blt (t.names.getD m default) nm with
      | true =>
       refine .inl fun l hl => ?_
       rcases Nat.lt_or_ge l m with h' | h'
       ·exact h l h'
       ·obtain rfl : l = m := by omega
        exact hb
      | false => exact .inr ⟨m, by omega, h, hb⟩
     ·exact .inr ⟨j, by omega, h2, h3⟩
   rcases key _ (Nat.le_refl _) with h | ⟨j, h1, h2, h3⟩
   ·exact ⟨_, Nat.le_refl _, h, fun l h1 h2 => by omega⟩
   ·exact ⟨j, by omega, h2, bs_dn ha h3⟩
  have h4 : j < t.names.length -> t.names.getD j default ≠ nm := fun hj he => fnd_none hf (by rw [<- he]; simp [List.getD, hj])
  rw [tset_new hwl ha h1 h2 h3 h4]
  cases p with
  | nil => exact ⟨_, rfl, by simp only [tat, Option.some.injEq] at hp; subst hp; rfl⟩
  | cons n p =>
   rw [tat_cons] at hp ⊢
   cases hk : fnd n t.names with
   | none => rw [hk] at hp; cases hp
   | some k =>
    rw [hk] at hp
    have hne : n ≠ nm := fun e => by rw [e, hf] at hk; cases hk
    have hkl := fnd_lt hk
    rw [Tr.names_mk, Tr.kids_mk, fnd_ins hne _ _ _ hk]
    dsimp only
    rw [getD_ins _ _ _ _ _ (by omega) (by omega)]
    exact ⟨v, hp, rfl⟩
 | m :: n :: to, t, q, p, v, hw, hn, ha, _, hq, hz, hp => by
  have hwl := wf_len hw
  rw [tset_deep hwl ((tnd_eq t).1 hn).1 (by simp)]
  rw [show (m :: n :: to).length - 1 = (n :: to).length - 1 + 1 by simp, List.take_succ_cons, tat_cons] at hq
  rw [tat_cons] at hz
  cases hf : fnd m t.names with
  | none => rw [hf] at hq; cases hq
  | some k =>
   rw [hf] at hq hz
   have hk : k < t.kids.length := by rw [<- hwl]; exact fnd_lt hf
   dsimp only
   cases p with
   | nil => exact ⟨_, rfl, by simp only [tat, Option.some.injEq] at hp; subst hp; rfl⟩
   | cons n' p =>
    rw [tat_cons] at hp ⊢
    rw [Tr.names_mk, Tr.kids_mk]
    cases hk' : fnd n' t.names with
    | none => rw [hk'] at hp; cases hp
    | some k' =>
     rw [hk'] at hp
     dsimp only at hp ⊢
     rcases Nat.decEq k k' with hne | heq
     ·refine ⟨v, ?_, rfl⟩
      rw [<- hp]
      congr 1
      simp only [List.getD_eq_getElem?_getD, List.getElem?_set_ne hne]
     ·subst heq
      obtain ⟨v', e1, e2⟩ := put_keeps (x := x) (n :: to) (t.kids.getD k default) q p v (wf_kid hw hk _) (tnds_get ((tnd_eq t).1 hn).2 hk) ha (by simp) hq hz hp
      refine ⟨v', ?_, e2⟩
      rw [<- e1]
      congr 1
      simp [List.getD_eq_getElem?_getD, hk]
theorem nodup_ins {nm : Str} {l : List Str} (j : Nat) (h : nm ∉ l) (hn : l.Nodup) : (l.take j ++ [nm] ++ l.drop j).Nodup := by
 have : (l.take j ++ [nm] ++ l.drop j).Perm (nm :: l) := by
  have h1 : (l.take j ++ nm :: l.drop j).Perm (nm :: (l.take j ++ l.drop j)) := List.perm_middle
  rw [List.take_append_drop] at h1
  rw [List.append_assoc]
  exact h1
 exact (List.Perm.nodup_iff this).2 (List.nodup_cons.2 ⟨h, hn⟩)
theorem tnds_take {ks : List Tr} (h : tnds ks) (j : Nat) : tnds (ks.take j) /\ tnds (ks.drop j) := by
 rw [<- List.take_append_drop j ks] at h
 exact tnds_app.1 h
theorem tnd_ins {u' : OT} {u x : OT} {nm : Str} {j k k' : Nat} (hu : u' = .mk u.dir u.mode u.data (some (k, k')) (u.names.take j ++ [nm] ++ u.names.drop j) (u.kids.take j ++ [x] ++ u.kids.drop j)) (hf : fnd nm u.names = none) (h : tnd (er u)) (hx : tnd (er x)) : tnd (er u') := by
 rw [tnd_eq, er_names, er_kids] at h
 rw [hu, er_mk, tnd_eq]
 refine ⟨nodup_ins j (fnd_none hf) h.1, ?_⟩
 rw [Tr.kids_mk]
 simp only [List.map_append, List.map_take, List.map_drop, List.map_cons, List.map_nil]
 exact tnds_app.2 ⟨tnds_app.2 ⟨(tnds_take h.2 j).1, hx, trivial⟩, (tnds_take h.2 j).2⟩
theorem shps_take {ks : List OT} (h : shps ks) (j : Nat) : shps (ks.take j) /\ shps (ks.drop j) := by
 rw [<- List.take_append_drop j ks] at h
 exact shps_app.1 h
theorem asms_take {ks : List OT} (h : asms ks) (j : Nat) : asms (ks.take j) /\ asms (ks.drop j) := by
 rw [<- List.take_append_drop j ks] at h
 exact asms_app.1 h
theorem shp_ins {u' : OT} {u x : OT} {nm : Str} {j k k' : Nat} (hu : u' = .mk u.dir u.mode u.data (some (k, k')) (u.names.take j ++ [nm] ++ u.names.drop j) (u.kids.take j ++ [x] ++ u.kids.drop j)) (h : shp u) (hx : shp x) : shp u' := by
 have h2 := ((shp_eq u).1 h).2
 rw [hu, shp_eq]
 exact ⟨fun h => by simp at h, shps_app.2 ⟨shps_app.2 ⟨(shps_take h2 j).1, hx, trivial⟩, (shps_take h2 j).2⟩⟩
theorem asm_ins {u' : OT} {u x : OT} {nm : Str} {j k k' : Nat} (hu : u' = .mk u.dir u.mode u.data (some (k, k')) (u.names.take j ++ [nm] ++ u.names.drop j) (u.kids.take j ++ [x] ++ u.kids.drop j)) (h : asm u) (hx : asm x) : asm u' := by
 have h2 := ((asm_eq u).1 h).2
 rw [hu, asm_eq]
 exact ⟨rfl, asms_app.2 ⟨asms_app.2 ⟨(asms_take h2 j).1, hx, trivial⟩, (asms_take h2 j).2⟩⟩
theorem Lies'.lies {Z W : Hp} {r : Nat} {A0 B0 : List AV} {T : OT} (h : Lies' Z r A0 B0 T W) (h1 : r % 2 = 1) (h2 : owf T) (h3 : shp T) (h4 : (er T).W <= 2 ^ 36) : Lies Z r A0 B0 T W := ⟨h.2, h1, h.1, h2, h3, osm_W T h4⟩
theorem Lies.add {Z W Y : Hp} {r : Nat} {A0 B0 : List AV} {T : OT} (h : Lies Z r A0 B0 T W) (hy : odH Y) : Lies (Z ++ Y) r A0 B0 T (W ++ Y) :=
 ⟨odH_app.2 ⟨h.odd, hy⟩, h.r1, by
  have := h.perm.append_right Y
  rwa [List.cons_append, List.append_assoc (objs T)] at this, h.wf, h.shp, h.sm⟩
def DoR (f : Tr -> Cl -> Tr × Int) (T : OT) (c : Cl) (r : Nat) (A0 B0 : List AV) (r' : AV) (Z' : Hp) : Prop :=
 ∃ (T' : OT) (W' : Hp), r' = .int .i64 (f (er T) c).2 /\ Lies' Z' r A0 B0 T' W' /\ er T' = (f (er T) c).1 /\ shp T'
theorem parC_er {T : OT} {p : List Str} : parC (er T) p = match oat T (p.take (p.length - 1)) with | none => 3 | some u => if u.dir then 0 else 4 := by
 unfold parC
 rw [tat_er]
 cases oat T (p.take (p.length - 1)) with
 | none => rfl
 | some u => simp only [Option.map_some, er_dir]
theorem asc_oat {T u : OT} {p : List Str} (h : treeOk (er T) = true) (hu : oat T p = some u) : asc u.names = true := by
 have := asc_tat h (p := p) (x := er u) (by rw [tat_er, hu]; rfl)
 rwa [er_names] at this
theorem tnd_tat : ∀ {p : List Str} {t x : Tr}, t.wf = true -> tnd t -> tat t p = some x -> tnd x
 | [], t, x, _, h, he => by simp only [tat, Option.some.injEq] at he; exact he ▸ h
 | n :: p, t, x, hw, h, he => by
  rw [tat_cons] at he
  cases hf : fnd n t.names with
  | none => rw [hf] at he; cases he
  | some k =>
   rw [hf] at he
   have hk : k < t.kids.length := by rw [<- wf_len hw]; exact fnd_lt hf
   exact tnd_tat (wf_kid hw hk _) (tnds_get ((tnd_eq t).1 h).2 hk) he
theorem hit_er {T u x : OT} {q : List Str} {nm : Str} {k : Nat} (hw : owf T) (hto : treeOk (er T) = true) (hu : oat T q = some u) (hk : fnd nm u.names = some k) : er (orep T (q ++ [nm]) x) = tset (q ++ [nm]) (er T) (er x) false := by
 rw [orep_snoc q T u x nm k hu hk]
 refine orep_tset q T u _ hw (tnd_ok hto) hu ?_
 have hwu := oat_wf hw hu
 rw [tset_hit (j := k) (wf_len hwu) (by rw [er_names]; exact asc_oat hto hu) (by rw [er_names]; exact fnd_lt hk) (by rw [er_names]; exact fnd_some hk)]
 rw [er_mk, List.map_set, er_names, er_kids, er_dir, er_mode, er_data]
theorem new_er {T u u' x : OT} {q : List Str} {nm : Str} (hw : owf T) (hto : treeOk (er T) = true) (hu : oat T q = some u) (h : er u' = tset [nm] (er u) (er x) false) : er (orep T q u') = tset (q ++ [nm]) (er T) (er x) false :=
 orep_tset q T u u' hw (tnd_ok hto) hu h
theorem gone_er {T u : OT} {q : List Str} {nm : Str} {k : Nat} (hw : owf T) (hn : tnd (er T)) (hu : oat T q = some u) (hk : fnd nm u.names = some k) :
  er (orep T q (.mk u.dir u.mode u.data u.ids (u.names.take k ++ u.names.drop (k + 1)) (u.kids.take k ++ u.kids.drop (k + 1)))) = tset (q ++ [nm]) (er T) .none true := by
 refine orep_tset q T u _ hw hn hu ?_
 have hwu := oat_wf hw hu
 have hnu : tnd (er u) := tnd_tat hw hn (p := q) (by rw [tat_er, hu]; rfl)
 rw [tset_gone (j := k) (wf_len hwu) ((tnd_eq _).1 hnu).1 (by rw [er_names]; exact fnd_lt hk) (by rw [er_names]; exact fnd_some hk)]
 rw [er_mk, er_names, er_kids, er_dir, er_mode, er_data]
 simp only [List.map_append, List.map_take, List.map_drop]
theorem drop_shp {u : OT} {k : Nat} (h : shp u) : shp (.mk u.dir u.mode u.data u.ids (u.names.take k ++ u.names.drop (k + 1)) (u.kids.take k ++ u.kids.drop (k + 1))) := by
 have h1 := (shp_eq u).1 h
 refine (shp_eq _).2 ⟨fun hi => ?_, shps_app.2 ⟨(shps_take h1.2 k).1, (shps_take h1.2 (k + 1)).2⟩⟩
 obtain ⟨e1, e2⟩ := h1.1 hi
 simp only [OT.names_mk, OT.kids_mk, e1, e2]; simp
theorem setL {Z W Wo : Hp} {r i : Nat} {A0 B0 A B : List AV} {T y y' : OT} {p : List Str} (hnd : (ids Z).Nodup) (hz : odH Z) (hp : Z.Perm ((i, A ++ otc y ++ B) :: (own y ++ (objss y.kids ++ Wo))))
  (hr : ∀ t', ((r, A0 ++ otc (orep T p t') ++ B0) :: (objs (orep T p t') ++ W)).Perm ((i, A ++ otc t' ++ B) :: (objs t' ++ Wo))) (ho : own y' = own y) (hk : y'.kids = y.kids) :
  Lies' (hset Z i (A ++ otc y' ++ B)) r A0 B0 (orep T p y') W := by
 refine ⟨((hset_perm hnd hp).trans ?_).trans (hr y').symm, odH_hset hz (ods_mid hz hp) hnd⟩
 rw [objs_eq, ho, hk, List.append_assoc (own y)]
theorem ods_clc (c : Cl) : ods [.agg (clc c)] := by
 simp only [ods, od, clc, true_and, and_true]
 exact ⟨purs_pth _, purs_pth _⟩
theorem objs_data {y : OT} {d : Str} {m : Int} : objs (.mk y.dir m d y.ids y.names y.kids) = objs y := by
 rw [objs_eq, objs_eq y]; rfl
theorem shp_data {y : OT} {d : Str} {m : Int} (h : shp y) : shp (.mk y.dir m d y.ids y.names y.kids) := (shp_eq _).2 ((shp_eq y).1 h)
open Go Go.Proofs
theorem oat_parent {T y : OT} {q : List Str} {n : Str} (h : oat T (q ++ [n]) = some y) : ∃ u, oat T q = some u := by
  rw [oat_snoc] at h
  cases hq : oat T q with
  | none => rw [hq] at h; cases h
  | some u => exact ⟨u, rfl⟩
theorem oat_of_tat {T : OT} {p : List Str} {v : Tr} (h : tat (er T) p = some v) : ∃ y, oat T p = some y := by
  rw [tat_er] at h
  cases hq : oat T p with
  | none => rw [hq] at h; cases h
  | some u => exact ⟨u, rfl⟩
theorem dir_of_kid {T u : OT} {q : List Str} {n : Str} {k : Nat} (hto : treeOk (er T) = true) (hu : oat T q = some u) (hk : fnd n u.names = some k) : u.dir = true := by
  simp only [treeOk, Bool.and_eq_true] at hto
  obtain ⟨m, hm⟩ := parts_tat hto.2.1 (p := q) (x := er u) (by rw [tat_er, hu]; rfl)
  rw [partsOk_eq] at hm
  simp only [Bool.and_eq_true] at hm
  have h1 := hm.1
  simp only [plainOk, Bool.and_eq_true, decide_eq_true_eq] at h1
  have h7 := h1.2.2
  rw [er_dir, er_names] at h7
  cases hd : u.dir with
  | true => rfl
  | false =>
    rw [hd] at h7
    simp only [Bool.false_eq_true, if_false, Bool.and_eq_true] at h7
    have := of_decide_eq_true h7.2
    have := fnd_lt hk
    omega
set_option maxRecDepth 10000 in
set_option maxHeartbeats 2000000 in
theorem rename_ok {Z W : Hp} {r : Nat} {A0 B0 : List AV} {T : OT} (c : Cl) (hL : Lies Z r A0 B0 T W) (ha : asm T) (hto : treeOk (er T) = true) (f1 : 0 < c.path.length) (f2 : wS c.path < 2 ^ 10) (f5 : 0 < c.to.length) (f6 : wS c.to < 2 ^ 10) : DC G 59 [.ptr r A0.length, .agg (clc c)] Z (DoR iRename T c r A0 B0) := by
 refine DC_nd fun hnd => ?_
 have hl1 := wS_len c.path; have hWT := W_ok hto; have hl2 := wS_len c.to
 refine h_dc (F := [(0, .ptr r A0.length), (1, .agg (clc c))]) ⟨hL.r1, (ods_clc c).1, trivial⟩ hL.odd Try.func59 (by kernel_rfl) (by kernel_rfl) ?_ (by kernel_rfl)
 refine Rr (Fn2 [0] [(3, .ptr 0 0)] ((0, clc c) :: Z) 4 (Rr (Bc1 4 [(14, pth c.path), (13, .ptr 0 1), (12, .ptr r A0.length)] 21 [.ptr r A0.length, pth c.path] 15 (((1 : Nat) ≠ 0) /\ (1 + 1 <= 5 /\ 1 < 5) /\ ·) ⟨(by decide), (by decide), DC.use (at_ok c.path hL (by omega)) [(0, clc c)] rfl ⟨rfl, trivial⟩ ?_⟩)))
 rintro _ _ ⟨e1, rfl⟩
 rw [e1]; clear e1
 have hioya3 := opos_oat (r := r) (o := A0.length) (p := c.path) hL.wf hL.shp
 rcases hyya3 : oat T c.path with _ | ya3
 rw [hyya3] at hioya3
 have hXya3 : tat (er T) c.path = none := by rw [tat_er, hyya3]; rfl
 rw [show opos T r A0.length c.path = none from Option.isNone_iff_eq_none.1 (by rw [<- Option.not_isSome, hioya3]; rfl), show oad none = .nilp from rfl]
 refine Ke (Fn0 [0, 3] [(5, .nilp)] (Sq fun K4 hK4 => ?_))
 refine Bl (Rr (Fn1 [0, 3, 5] [(16, .bool true)] ((∃ e, TK.ptr 26 = TK.ptr e) /\ ·) ⟨⟨_, rfl⟩, Ct (Rr ?_)⟩))
 refine Fn0 [] [(4, .int .i64 3)] (Rt (.int .i64 3) ?_)
 have hT : er T = er T := rfl
 have e : iRename (er T) c = (er T, 3) := by
   rw [hT]; unfold iRename
   (try simp only [cond_true, hXya3, wData, wMode, newDir, Tr.none, er_mk, er_dir, er_mode, er_data, er_names, er_kids, List.map_nil, decide_true, Bool.not_true, Bool.not_false, Bool.true_and, Bool.and_true, Bool.false_and, Bool.and_false, cond_true, cond_false, show decide ((0 : Int) = 0) = true from rfl, show decide ((3 : Int) = 0) = false from rfl, show decide ((4 : Int) = 0) = false from rfl])
   try rfl
 refine fin_dc (.int .i64 3) Z (by first | exact List.Sublist.refl _ | exact List.Sublist.cons _ (List.Sublist.refl _) | exact List.Sublist.cons _ (List.Sublist.cons _ (List.Sublist.refl _))) (lea_refl _) trivial hL.odd ⟨T, W, ?_, ⟨hL.perm, hL.odd⟩, ?_, hL.shp⟩ <;> rw [e]
 obtain ⟨iya3, Aya3, Bya3, Wya3, hoya3, hiya3, hpya3, hnya3, hsya3, hrya3⟩ := hL.foc hyya3
 have hgya3 : hgt Z iya3 = some (Aya3 ++ otc ya3 ++ Bya3) := hgt_perm hnd hpya3 (by simp)
 have hXya3 : tat (er T) c.path = some (er ya3) := by rw [tat_er, hyya3]; rfl
 obtain ⟨⟨aya3, bya3⟩, hidsya3⟩ := Option.isSome_iff_exists.1 ((asm_eq _).1 (oat_asm hL.wf ha hyya3)).1
 have hWya3 := W_tat _ _ _ hXya3
 have hDya3 := data_W (er ya3)
 rw [er_data] at hDya3
 rw [hoya3, show oad (some (iya3, Aya3.length)) = .ptr iya3 Aya3.length from rfl]
 refine Ke (Fn0 [0, 3] [(5, .ptr iya3 Aya3.length)] (Sq fun K7 hK7 => ?_))
 refine Bl (Rr (Fn1 [0, 3, 5] [(16, .bool false)] ((∃ e, TK.ptr 26 = TK.ptr e) /\ ·) ⟨⟨_, rfl⟩, Cf (Rr ?_)⟩))
 refine Bc1 5 [(23, pth c.path), (22, .ptr 0 1), (21, pth c.to), (20, .ptr 0 2)] 70 [pth c.to, pth c.path] 24 (((1 : Nat) ≠ 0) /\ (2 + 1 <= 5 /\ 2 < 5) /\ ((1 : Nat) ≠ 0) /\ (1 + 1 <= 5 /\ 1 < 5) /\ ·) ⟨(by decide), (by decide), (by decide), (by decide), ?_⟩
 refine PE.use (begins_ok c.to c.path (by omega) (by omega)) ?_
 refine Ke (Cn0 (c.path.isPrefixOf c.to) [0, 3, 5] [] ⟨fun hc10 c10 => ?_, fun hc10 c10 => ?_⟩)
 try simp only [KF] at c10
 refine Rr (Fn0 [] [(4, .int .i64 7)] (Rt (.int .i64 7) ?_))
 have hT : er T = er T := rfl
 have e : iRename (er T) c = (er T, 7) := by
   rw [hT]; unfold iRename
   (try simp only [cond_true, hXya3, hc10, wData, wMode, newDir, Tr.none, er_mk, er_dir, er_mode, er_data, er_names, er_kids, List.map_nil, decide_true, Bool.not_true, Bool.not_false, Bool.true_and, Bool.and_true, Bool.false_and, Bool.and_false, cond_true, cond_false, show decide ((0 : Int) = 0) = true from rfl, show decide ((3 : Int) = 0) = false from rfl, show decide ((4 : Int) = 0) = false from rfl])
   try rfl
 refine fin_dc (.int .i64 7) Z (by first | exact List.Sublist.refl _ | exact List.Sublist.cons _ (List.Sublist.refl _) | exact List.Sublist.cons _ (List.Sublist.cons _ (List.Sublist.refl _))) (lea_refl _) trivial hL.odd ⟨T, W, ?_, ⟨hL.perm, hL.odd⟩, ?_, hL.shp⟩ <;> rw [e]
 try simp only [KF] at c10
 refine Sk (Bn (Jn (hK7 (Kp [0, 3, 5] (Rr (Bc1 4 [(28, pth c.to), (27, .ptr 0 2), (26, .ptr r A0.length)] 54 [.ptr r A0.length, pth c.to] 29 (((1 : Nat) ≠ 0) /\ (2 + 1 <= 5 /\ 2 < 5) /\ ·) ⟨(by decide), (by decide), DC.use (parent_ok c.to hL (by omega) (by omega)) [(0, clc c)] rfl ⟨rfl, trivial⟩ ?_⟩))))))
 rintro _ _ ⟨e1, rfl⟩
 rw [e1]; clear e1
 rcases hup13 : oat T (c.to.take (c.to.length - 1)) with _ | up13
 rotate_left
 dsimp only
 cases hdp13 : up13.dir
 simp only [cond_false]
 have hPp13 : parC (er T) c.to = 4 := by rw [parC_er, hup13]; simp only [hdp13]; rfl
 refine Ke (Fn1 [0, 3, 5] [(7, .int .i64 4), (6, .nilp)] ((0 < 2) /\ (1 < 2) /\ ·) ⟨(by decide), (by decide), Sq fun K14 hK14 => ?_⟩)
 refine Rr (Fn1 [0, 3, 5, 6, 7] [(33, .bool true)] (Ki /\ ·) ⟨rfl, Ct (Rr (Fn0 [] [(4, .int .i64 4)] ?_))⟩)
 refine Rt (.int .i64 4) ?_
 have hT : er T = er T := rfl
 have e : iRename (er T) c = (er T, 4) := by
   rw [hT]; unfold iRename
   (try simp only [hPp13, hXya3, hc10, wData, wMode, newDir, Tr.none, er_mk, er_dir, er_mode, er_data, er_names, er_kids, List.map_nil, decide_true, Bool.not_true, Bool.not_false, Bool.true_and, Bool.and_true, Bool.false_and, Bool.and_false, cond_true, cond_false, show decide ((0 : Int) = 0) = true from rfl, show decide ((3 : Int) = 0) = false from rfl, show decide ((4 : Int) = 0) = false from rfl])
   try rfl
 refine fin_dc (.int .i64 4) Z (by first | exact List.Sublist.refl _ | exact List.Sublist.cons _ (List.Sublist.refl _) | exact List.Sublist.cons _ (List.Sublist.cons _ (List.Sublist.refl _))) (lea_refl _) trivial hL.odd ⟨T, W, ?_, ⟨hL.perm, hL.odd⟩, ?_, hL.shp⟩ <;> rw [e]
 simp only [cond_true]
 have hPp13 : parC (er T) c.to = 0 := by rw [parC_er, hup13]; simp only [hdp13]; rfl
 obtain ⟨ip13, Ap13, Bp13, Wp13, hop13, hip13, hpp13, hnp13, hsp13, hrp13⟩ := hL.foc hup13
 rw [hop13, show oad (some (ip13, Ap13.length)) = .ptr ip13 Ap13.length from rfl]
 refine Ke (Fn1 [0, 3, 5] [(7, .int .i64 0), (6, .ptr ip13 Ap13.length)] ((0 < 2) /\ (1 < 2) /\ ·) ⟨(by decide), (by decide), Sq fun K17 hK17 => ?_⟩)
 refine Rr (Fn1 [0, 3, 5, 6, 7] [(33, .bool false)] (Ki /\ ·) ⟨rfl, Cf (Sk (Jn (hK17 (Kp [0, 3, 5, 6] (Rr ?_)))))⟩)
 refine Av1 (r := .int .i64 ((c.to.map (fun s => [AV.str s])).length : Nat)) (v := .int .i64 c.to.length) 5 39 [(38, pth c.to), (37, .ptr 0 2), (36, pth c.to), (35, .ptr 0 2)] (by rw [List.length_map]) (((1 : Nat) ≠ 0) /\ (2 + 1 <= 5 /\ 2 < 5) /\ ((1 : Nat) ≠ 0) /\ (2 + 1 <= 5 /\ 2 < 5) /\ ·) ⟨(by decide), (by decide), (by decide), (by decide), Av1 (r := .int .i64 (IntKind.i64.wrap ((c.to.length : Int) - 1))) (v := .int .i64 ((c.to.length : Int) - 1)) 1 40 [] (congrArg (AV.int .i64) (wrap64 (by omega) (by omega))) (Ki /\ ·) ⟨rfl, Av1 1 41 [] (congrArg AV.pat (mg_str c.to (((c.to.length : Int) - 1).toNat) (by omega))) ((1 = 1 /\ (0 : Int) <= ((c.to.length : Int) - 1) /\ ((c.to.length : Int) - 1) < ((c.to.map (fun s => [AV.str s])).length : Int)) /\ ·) ⟨⟨rfl, by omega, by rw [List.length_map]; omega⟩, Fn1 [0, 3, 5, 6] [(8, .str (c.to.getD (((c.to.length : Int) - 1).toNat) default))] ((1 <= 1 /\ 0 < 1) /\ ·) ⟨(by decide), Sq fun K20 hK20 => ?_⟩⟩⟩⟩
 refine Rr (Bc0 3 [(44, .str (c.to.getD (((c.to.length : Int) - 1).toNat) default)), (43, .ptr ip13 Ap13.length)] 46 [.ptr ip13 Ap13.length, .str (c.to.getD (((c.to.length : Int) - 1).toNat) default)] 45 ?_)
 have hpep13 := last_snoc (p := c.to) (by omega)
 refine DC.use (kidL (q := c.to.take (c.to.length - 1)) (c.to.getD (((c.to.length : Int) - 1).toNat) default) hL hup13 hop13) [(0, clc c)] rfl ⟨rfl, trivial⟩ ?_
 rintro _ _ ⟨e1, rfl⟩
 rw [e1, hpep13]; clear e1
 have hiop13 := opos_oat (r := r) (o := A0.length) (p := c.to) hL.wf hL.shp
 rcases hyyp13 : oat T c.to with _ | yp13
 rw [hyyp13] at hiop13
 have hXyp13 : tat (er T) c.to = none := by rw [tat_er, hyyp13]; rfl
 rw [show opos T r A0.length c.to = none from Option.isNone_iff_eq_none.1 (by rw [<- Option.not_isSome, hiop13]; rfl), show oad none = .nilp from rfl]
 refine Ke (Fn1 [0, 3, 5, 6, 8] [(46, .bool false)] ((∃ e, TK.ptr 26 = TK.ptr e) /\ ·) ⟨⟨_, rfl⟩, Cf (Sk (Jn (hK20 (Kp [0, 3, 5, 6, 8] (Rr ?_)))))⟩)
 refine An0 2 [(48, .ptr iya3 Aya3.length), (47, .ptr iya3 Aya3.length)] (gela (t := ya3) 49 26 iya3 (.agg (otc ya3)) (fun J => by kernel_rfl) ((hgt_ev (E := [(0, clc c)]) ⟨rfl, trivial⟩ hiya3).trans hgya3) (by kernel_rfl) rfl (Bc0 1 [] 22 [.agg (otc ya3)] 50 ?_))
 have hYs := oat_shp hL.wf hL.shp hyya3
 refine TCall.mono (cl_use (t := er ya3) (vw_deep hYs (fun p hp => List.mem_append_right [(0, clc c)] (hpya3.mem_iff.2 (by rw [objs_eq] at hp; simp only [List.mem_cons, List.mem_append] at hp ⊢; rcases hp with h | h; exact .inr (.inl h); exact .inr (.inr (.inl h))))) rfl) (clone_ok _ (er ya3) rfl (by omega))) ?_
 rintro _ H1 _ _ ⟨rfl, Tn, hH1, he, hs, ha2, rfl⟩
 have hH2 : H1 = ((0, clc c) :: (Z ++ objs Tn)) := by rw [hH1]; simp only [List.nil_append, List.cons_append, List.append_assoc]
 clear hH1; subst hH2
 have hL2 := hL.add (odH_objs Tn)
 refine Ke (Fn3 [0, 3, 6, 8] [(9, .ptr 4 0)] ((4, otc Tn) :: (0, clc c) :: (Z ++ objs Tn)) 8 ((true = true /\ 5 = 5 /\ 0 + 5 <= 5) /\ ·) ⟨(by decide), Rr (Bc1 4 [(53, .agg (otc Tn)), (52, .str (c.to.getD (((c.to.length : Int) - 1).toNat) default)), (51, .ptr ip13 Ap13.length)] 55 [.ptr ip13 Ap13.length, .str (c.to.getD (((c.to.length : Int) - 1).toNat) default), .agg (otc Tn)] 54 ((0 + 5 <= 5 /\ 0 < 5) /\ ·) ⟨(by decide), ?_⟩)⟩)
 have hkp13 := oat_kid_none hup13 (by rw [hpep13]; exact hyyp13)
 obtain ⟨⟨aup13, bup13⟩, hidsup13⟩ := Option.isSome_iff_exists.1 ((asm_eq _).1 (oat_asm hL.wf ha hup13)).1
 refine DC.use (putL_new (x := Tn) (W' := W) (c.to.getD (((c.to.length : Int) - 1).toNat) default) hL2 hup13 hop13 hidsup13 (asc_oat hto hup13) hkp13 List.perm_append_comm) [(4, otc Tn), (0, clc c)] rfl ⟨rfl, ⟨rfl, trivial⟩⟩ ?_
 rintro rr Z1 ⟨j, k1, k2, u', hj, e1, e2, hZ1⟩
 have hT2 := new_er hL.wf hto hup13 e2
 rw [hpep13, he] at hT2
 have htu : tat (er T) (c.to.take (c.to.length - 1)) = some (er up13) := by rw [tat_er, hup13]; rfl
 have hT2n := orep_tnd hL.wf (tnd_ok hto) hup13 (tnd_ins e1 hkp13 (tnd_tat hL.wf (tnd_ok hto) htu) (by rw [he]; exact tnd_tat hL.wf (tnd_ok hto) hXya3))
 have hs2 := orep_shp hL.wf hL.shp hup13 (shp_ins e1 (oat_shp hL.wf hL.shp hup13) hs)
 have ha3 := orep_asm hL.wf ha hup13 (asm_ins e1 (oat_asm hL.wf ha hup13) ha2)
 have hw2 : owf (orep T (c.to.take (c.to.length - 1)) u') := by
   unfold owf; rw [hT2]; exact wf_tset _ _ _ _ hL.wf (wf_xat .none _ _ _ hL.wf hXya3)
 have hW2 : (er (orep T (c.to.take (c.to.length - 1)) u')).W <= 2 ^ 36 := by
   rw [hT2]
   have := W_tset_lt2 (p := c.to) (t := er T) (x := er ya3) (g := false) (by omega) (by omega) f6
   omega
 obtain ⟨v', hv1, hv2⟩ := put_keeps (x := er ya3) c.to (er T) (er up13) c.path (er ya3) hL.wf (tnd_ok hto) (by rw [er_names]; exact asc_oat hto hup13) (fun h => by rw [h] at f5; simp at f5) htu hXyp13 hXya3
 obtain ⟨uP, hyP⟩ := oat_parent (last_snoc f1 ▸ hyya3)
 have hdP : uP.dir = true := by
   obtain ⟨kP, hkP, _⟩ := oat_kid_some hyP (last_snoc f1 ▸ hyya3)
   exact dir_of_kid hto hyP hkP
 obtain ⟨vP, hvP1, hvP2⟩ := put_keeps (x := er ya3) c.to (er T) (er up13) (c.path.take (c.path.length - 1)) (er uP) hL.wf (tnd_ok hto) (by rw [er_names]; exact asc_oat hto hup13) (fun h => by rw [h] at f5; simp at f5) htu hXyp13 (by rw [tat_er, hyP]; rfl)
 rw [<- hT2] at hv1 hvP1
 generalize orep T (c.to.take (c.to.length - 1)) u' = T2 at hZ1 hT2 hT2n hs2 ha3 hw2 hW2 hv1 hvP1
 have hL3 := hZ1.lies hL.r1 hw2 hs2 hW2
 obtain ⟨y2, hy2⟩ := oat_of_tat hv1
 obtain ⟨u2, hu2⟩ := oat_of_tat hvP1
 have hd2 : u2.dir = true := by
   rw [tat_er, hu2] at hvP1
   cases hvP1
   rw [er_dir, er_dir] at hvP2
   rw [hvP2]; exact hdP
 refine Ke (Fn0 [0, 3] [] (Rr (Bc1 4 [(58, pth c.path), (57, .ptr 0 1), (56, .ptr r A0.length)] 54 [.ptr r A0.length, pth c.path] 59 (((1 : Nat) ≠ 0) /\ (1 + 1 <= 5 /\ 1 < 5) /\ ·) ⟨(by decide), (by decide), DC.use (parent_ok c.path hL3 (by omega) (by omega)) [(4, otc Tn), (0, clc c)] rfl ⟨rfl, ⟨rfl, trivial⟩⟩ ?_⟩)))
 rintro _ _ ⟨e1, rfl⟩
 rw [e1, hu2]; clear e1
 dsimp only
 rw [hd2]; simp only [cond_true]
 obtain ⟨i2, A2, B2, W2', ho2, hi2, hp2, hn2, hs2', hr2⟩ := hL3.foc hu2
 rw [ho2, show oad (some (i2, A2.length)) = .ptr i2 A2.length from rfl]
 refine Ke (Fn1 [3] [(10, .ptr i2 A2.length)] ((0 < 2) /\ (1 < 2) /\ ·) ⟨(by decide), (by decide), Rr (Av1 (r := .int .i64 ((c.path.map (fun s => [AV.str s])).length : Nat)) (v := .int .i64 c.path.length) 6 67 [(66, pth c.path), (65, .ptr 0 1), (64, pth c.path), (63, .ptr 0 1), (62, .ptr i2 A2.length)] (by rw [List.length_map]) (((1 : Nat) ≠ 0) /\ (1 + 1 <= 5 /\ 1 < 5) /\ ((1 : Nat) ≠ 0) /\ (1 + 1 <= 5 /\ 1 < 5) /\ ·) ⟨(by decide), (by decide), (by decide), (by decide), Av1 (r := .int .i64 (IntKind.i64.wrap ((c.path.length : Int) - 1))) (v := .int .i64 ((c.path.length : Int) - 1)) 1 68 [] (congrArg (AV.int .i64) (wrap64 (by omega) (by omega))) (Ki /\ ·) ⟨rfl, ?_⟩⟩)⟩)
 refine Av1 1 69 [] (congrArg AV.pat (mg_str c.path (((c.path.length : Int) - 1).toNat) (by omega))) ((1 = 1 /\ (0 : Int) <= ((c.path.length : Int) - 1) /\ ((c.path.length : Int) - 1) < ((c.path.map (fun s => [AV.str s])).length : Int)) /\ ·) ⟨⟨rfl, by omega, by rw [List.length_map]; omega⟩, Bc1 2 [(70, .str (c.path.getD (((c.path.length : Int) - 1).toNat) default))] 58 [.ptr i2 A2.length, .str (c.path.getD (((c.path.length : Int) - 1).toNat) default)] 71 ((1 <= 1 /\ 0 < 1) /\ ·) ⟨(by decide), ?_⟩⟩
 obtain ⟨k2, hk12, hk22⟩ := oat_kid_some hu2 (by rw [last_snoc f1]; exact hy2)
 obtain ⟨⟨au2, bu2⟩, hidsu2⟩ := Option.isSome_iff_exists.1 ((asm_eq _).1 (oat_asm hw2 ha3 hu2)).1
 refine DC.use (dropL (c.path.getD (((c.path.length : Int) - 1).toNat) default) hL3 hu2 ho2 hidsu2 hk12) [(4, otc Tn), (0, clc c)] rfl ⟨rfl, ⟨rfl, trivial⟩⟩ ?_
 rintro rr2 Z2 ⟨W2, hZ2⟩
 have hT := gone_er hw2 hT2n hu2 hk12
 rw [last_snoc f1, hT2] at hT
 refine Ke (Fn0 [] [] (Rr (Fn0 [] [(4, .int .i64 0)] (Rt (.int .i64 0) ?_))))
 
 have e : iRename (er T) c = (er (orep T2 (c.path.take (c.path.length - 1)) (.mk u2.dir u2.mode u2.data u2.ids (u2.names.take k2 ++ u2.names.drop (k2 + 1)) (u2.kids.take k2 ++ u2.kids.drop (k2 + 1)))), 0) := by
   rw [hT]; unfold iRename
   (try simp only [hPp13, hXyp13, hXya3, hc10, wData, wMode, newDir, Tr.none, er_mk, er_dir, er_mode, er_data, er_names, er_kids, List.map_nil, decide_true, Bool.not_true, Bool.not_false, Bool.true_and, Bool.and_true, Bool.false_and, Bool.and_false, cond_true, cond_false, show decide ((0 : Int) = 0) = true from rfl, show decide ((3 : Int) = 0) = false from rfl, show decide ((4 : Int) = 0) = false from rfl])
   try rfl
 refine fin_dc (.int .i64 0) Z2 (by first | exact List.Sublist.refl _ | exact List.Sublist.cons _ (List.Sublist.refl _) | exact List.Sublist.cons _ (List.Sublist.cons _ (List.Sublist.refl _))) (lea_refl _) trivial hZ2.2 ⟨(orep T2 (c.path.take (c.path.length - 1)) (.mk u2.dir u2.mode u2.data u2.ids (u2.names.take k2 ++ u2.names.drop (k2 + 1)) (u2.kids.take k2 ++ u2.kids.drop (k2 + 1)))), W2, ?_, hZ2, ?_, (orep_shp hw2 hs2 hu2 (drop_shp (oat_shp hw2 hs2 hu2)))⟩ <;> rw [e]
 obtain ⟨iyp13, Ayp13, Byp13, Wyp13, hoyp13, hiyp13, hpyp13, hnyp13, hsyp13, hryp13⟩ := hL.foc hyyp13
 have hgyp13 : hgt Z iyp13 = some (Ayp13 ++ otc yp13 ++ Byp13) := hgt_perm hnd hpyp13 (by simp)
 have hXyp13 : tat (er T) c.to = some (er yp13) := by rw [tat_er, hyyp13]; rfl
 obtain ⟨⟨ayp13, byp13⟩, hidsyp13⟩ := Option.isSome_iff_exists.1 ((asm_eq _).1 (oat_asm hL.wf ha hyyp13)).1
 have hWyp13 := W_tat _ _ _ hXyp13
 have hDyp13 := data_W (er yp13)
 rw [er_data] at hDyp13
 rw [hoyp13, show oad (some (iyp13, Ayp13.length)) = .ptr iyp13 Ayp13.length from rfl]
 refine Ke (Fn1 [0, 3, 5, 6, 8] [(46, .bool true)] ((∃ e, TK.ptr 26 = TK.ptr e) /\ ·) ⟨⟨_, rfl⟩, Ct (Rr (Fn0 [] [(4, .int .i64 5)] ?_))⟩)
 refine Rt (.int .i64 5) ?_
 have hT : er T = er T := rfl
 have e : iRename (er T) c = (er T, 5) := by
   rw [hT]; unfold iRename
   (try simp only [hPp13, hXyp13, hXya3, hc10, wData, wMode, newDir, Tr.none, er_mk, er_dir, er_mode, er_data, er_names, er_kids, List.map_nil, decide_true, Bool.not_true, Bool.not_false, Bool.true_and, Bool.and_true, Bool.false_and, Bool.and_false, cond_true, cond_false, show decide ((0 : Int) = 0) = true from rfl, show decide ((3 : Int) = 0) = false from rfl, show decide ((4 : Int) = 0) = false from rfl])
   try rfl
 refine fin_dc (.int .i64 5) Z (by first | exact List.Sublist.refl _ | exact List.Sublist.cons _ (List.Sublist.refl _) | exact List.Sublist.cons _ (List.Sublist.cons _ (List.Sublist.refl _))) (lea_refl _) trivial hL.odd ⟨T, W, ?_, ⟨hL.perm, hL.odd⟩, ?_, hL.shp⟩ <;> rw [e]
 dsimp only
 have hPp13 : parC (er T) c.to = 3 := by rw [parC_er, hup13]
 refine Ke (Fn1 [0, 3, 5] [(7, .int .i64 3), (6, .nilp)] ((0 < 2) /\ (1 < 2) /\ ·) ⟨(by decide), (by decide), Sq fun K28 hK28 => ?_⟩)
 refine Rr (Fn1 [0, 3, 5, 6, 7] [(33, .bool true)] (Ki /\ ·) ⟨rfl, Ct (Rr (Fn0 [] [(4, .int .i64 3)] ?_))⟩)
 refine Rt (.int .i64 3) ?_
 have hT : er T = er T := rfl
 have e : iRename (er T) c = (er T, 3) := by
   rw [hT]; unfold iRename
   (try simp only [hPp13, hXya3, hc10, wData, wMode, newDir, Tr.none, er_mk, er_dir, er_mode, er_data, er_names, er_kids, List.map_nil, decide_true, Bool.not_true, Bool.not_false, Bool.true_and, Bool.and_true, Bool.false_and, Bool.and_false, cond_true, cond_false, show decide ((0 : Int) = 0) = true from rfl, show decide ((3 : Int) = 0) = false from rfl, show decide ((4 : Int) = 0) = false from rfl])
   try rfl
 refine fin_dc (.int .i64 3) Z (by first | exact List.Sublist.refl _ | exact List.Sublist.cons _ (List.Sublist.refl _) | exact List.Sublist.cons _ (List.Sublist.cons _ (List.Sublist.refl _))) (lea_refl _) trivial hL.odd ⟨T, W, ?_, ⟨hL.perm, hL.odd⟩, ?_, hL.shp⟩ <;> rw [e]
set_option maxRecDepth 10000 in
set_option maxHeartbeats 2000000 in
theorem do_ok {Z W : Hp} {r : Nat} {A0 B0 : List AV} {T : OT} (c : Cl) (hL : Lies Z r A0 B0 T W) (ha : asm T) (hto : treeOk (er T) = true) (f1 : 0 < c.path.length) (f2 : wS c.path < 2 ^ 10) (f3 : c.kind = 2 \/ c.kind = 3 -> 0 <= c.at_ /\ c.at_ <= 24) (f4 : c.kind = 5 -> 0 < c.to.length /\ wS c.to < 2 ^ 10) (f7 : c.data.length < 2 ^ 20) : DC G 35 [.ptr r A0.length, .agg (clc c)] Z (DoR iDo T c r A0 B0) := by
 refine DC_nd fun hnd => ?_
 have hl1 := wS_len c.path; have hWT := W_ok hto
 refine h_dc (F := [(0, .ptr r A0.length), (1, .agg (clc c))]) ⟨hL.r1, (ods_clc c).1, trivial⟩ hL.odd Try.func35 (by kernel_rfl) (by kernel_rfl) ?_ (by kernel_rfl)
 refine Rr (Fn2 [0] [(3, .ptr 0 0)] ((0, clc c) :: Z) 4 (Rr (Bc1 4 [(13, pth c.path), (12, .ptr 0 1), (11, .ptr r A0.length)] 54 [.ptr r A0.length, pth c.path] 14 (((1 : Nat) ≠ 0) /\ (1 + 1 <= 5 /\ 1 < 5) /\ ·) ⟨(by decide), (by decide), DC.use (parent_ok c.path hL (by omega) (by omega)) [(0, clc c)] rfl ⟨rfl, trivial⟩ ?_⟩)))
 rintro _ _ ⟨e1, rfl⟩
 rw [e1]; clear e1
 rcases hup3 : oat T (c.path.take (c.path.length - 1)) with _ | up3
 rotate_left
 dsimp only
 cases hdp3 : up3.dir
 simp only [cond_false]
 have hPp3 : parC (er T) c.path = 4 := by rw [parC_er, hup3]; simp only [hdp3]; rfl
 refine Ke (Fn1 [0, 3] [(6, .int .i64 4), (5, .nilp)] ((0 < 2) /\ (1 < 2) /\ ·) ⟨(by decide), (by decide), Sq fun K4 hK4 => ?_⟩)
 refine Rr (Fn1 [0, 3, 5, 6] [(18, .bool true)] (Ki /\ ·) ⟨rfl, Ct (Rr (Fn0 [] [(4, .int .i64 4)] ?_))⟩)
 refine Rt (.int .i64 4) ?_
 have hT : er T = er T := rfl
 have e : iDo (er T) c = (er T, 4) := by
   rw [hT]; unfold iDo
   (try simp only [hPp3, wData, wMode, newDir, Tr.none, er_mk, er_dir, er_mode, er_data, er_names, er_kids, List.map_nil, decide_true, Bool.not_true, Bool.not_false, Bool.true_and, Bool.and_true, Bool.false_and, Bool.and_false, cond_true, cond_false, show decide ((0 : Int) = 0) = true from rfl, show decide ((3 : Int) = 0) = false from rfl, show decide ((4 : Int) = 0) = false from rfl])
   try rfl
 refine fin_dc (.int .i64 4) Z (by first | exact List.Sublist.refl _ | exact List.Sublist.cons _ (List.Sublist.refl _) | exact List.Sublist.cons _ (List.Sublist.cons _ (List.Sublist.refl _))) (lea_refl _) trivial hL.odd ⟨T, W, ?_, ⟨hL.perm, hL.odd⟩, ?_, hL.shp⟩ <;> rw [e]
 simp only [cond_true]
 have hPp3 : parC (er T) c.path = 0 := by rw [parC_er, hup3]; simp only [hdp3]; rfl
 obtain ⟨ip3, Ap3, Bp3, Wp3, hop3, hip3, hpp3, hnp3, hsp3, hrp3⟩ := hL.foc hup3
 rw [hop3, show oad (some (ip3, Ap3.length)) = .ptr ip3 Ap3.length from rfl]
 refine Ke (Fn1 [0, 3] [(6, .int .i64 0), (5, .ptr ip3 Ap3.length)] ((0 < 2) /\ (1 < 2) /\ ·) ⟨(by decide), (by decide), Sq fun K7 hK7 => ?_⟩)
 refine Rr (Fn1 [0, 3, 5, 6] [(18, .bool false)] (Ki /\ ·) ⟨rfl, Cf (Sk (Jn (hK7 (Kp [0, 3, 5] (Rr ?_)))))⟩)
 refine Av1 (r := .int .i64 ((c.path.map (fun s => [AV.str s])).length : Nat)) (v := .int .i64 c.path.length) 5 24 [(23, pth c.path), (22, .ptr 0 1), (21, pth c.path), (20, .ptr 0 1)] (by rw [List.length_map]) (((1 : Nat) ≠ 0) /\ (1 + 1 <= 5 /\ 1 < 5) /\ ((1 : Nat) ≠ 0) /\ (1 + 1 <= 5 /\ 1 < 5) /\ ·) ⟨(by decide), (by decide), (by decide), (by decide), Av1 (r := .int .i64 (IntKind.i64.wrap ((c.path.length : Int) - 1))) (v := .int .i64 ((c.path.length : Int) - 1)) 1 25 [] (congrArg (AV.int .i64) (wrap64 (by omega) (by omega))) (Ki /\ ·) ⟨rfl, Av1 1 26 [] (congrArg AV.pat (mg_str c.path (((c.path.length : Int) - 1).toNat) (by omega))) ((1 = 1 /\ (0 : Int) <= ((c.path.length : Int) - 1) /\ ((c.path.length : Int) - 1) < ((c.path.map (fun s => [AV.str s])).length : Int)) /\ ·) ⟨⟨rfl, by omega, by rw [List.length_map]; omega⟩, Fn1 [0, 3, 5] [(7, .str (c.path.getD (((c.path.length : Int) - 1).toNat) default))] ((1 <= 1 /\ 0 < 1) /\ ·) ⟨(by decide), Rr ?_⟩⟩⟩⟩
 refine Bc0 3 [(29, .str (c.path.getD (((c.path.length : Int) - 1).toNat) default)), (28, .ptr ip3 Ap3.length)] 46 [.ptr ip3 Ap3.length, .str (c.path.getD (((c.path.length : Int) - 1).toNat) default)] 30 ?_
 have hpep3 := last_snoc (p := c.path) (by omega)
 refine DC.use (kidL (q := c.path.take (c.path.length - 1)) (c.path.getD (((c.path.length : Int) - 1).toNat) default) hL hup3 hop3) [(0, clc c)] rfl ⟨rfl, trivial⟩ ?_
 rintro _ _ ⟨e1, rfl⟩
 rw [e1, hpep3]; clear e1
 have hiop3 := opos_oat (r := r) (o := A0.length) (p := c.path) hL.wf hL.shp
 rcases hyyp3 : oat T c.path with _ | yp3
 rw [hyyp3] at hiop3
 have hXyp3 : tat (er T) c.path = none := by rw [tat_er, hyyp3]; rfl
 rw [show opos T r A0.length c.path = none from Option.isNone_iff_eq_none.1 (by rw [<- Option.not_isSome, hiop3]; rfl), show oad none = .nilp from rfl]
 refine Ke (Fn0 [0, 3, 5, 7] [(8, .nilp)] (Sq fun K11 hK11 => ?_))
 refine Rr (Fn1 [0, 3, 5, 7, 8] [(32, .int .i64 c.kind)] (((1 : Nat) ≠ 0) /\ (0 + 1 <= 5 /\ 0 < 5) /\ ·) ⟨(by decide), (by decide), Bl (Rr (Cn1 (decide ((c.kind : Int) = (1 : Int))) [0, 3, 5, 7, 8, 32] [] (Ki /\ ·) ⟨rfl, fun hc14 c14 => ?_, fun hc14 c14 => ?_⟩))⟩)
 try simp only [KF] at c14
 refine Sq fun K15 hK15 => ?_
 refine Rr (Fn1 [3, 5, 7] [(36, .bool false)] ((∃ e, TK.ptr 26 = TK.ptr e) /\ ·) ⟨⟨_, rfl⟩, Cf (Sk (Jn (hK15 (Kp [3, 5, 7] (Rb (fun h => Bn (Jn (hK11 h))) ?_)))))⟩)
 refine Bc1 6 [(41, .agg [.bool true, .int .i64 c.at_, .str [], .nils, .nils]), (40, .int .i64 c.at_), (39, .ptr 0 3), (38, .str (c.path.getD (((c.path.length : Int) - 1).toNat) default)), (37, .ptr ip3 Ap3.length)] 55 [.ptr ip3 Ap3.length, .str (c.path.getD (((c.path.length : Int) - 1).toNat) default), .agg [.bool true, .int .i64 c.at_, .str [], .nils, .nils]] 42 (((1 : Nat) ≠ 0) /\ (3 + 1 <= 5 /\ 3 < 5) /\ ·) ⟨(by decide), (by decide), ?_⟩
 have hkp3 := oat_kid_none hup3 (by rw [hpep3]; exact hyyp3)
 obtain ⟨⟨aup3, bup3⟩, hidsup3⟩ := Option.isSome_iff_exists.1 ((asm_eq _).1 (oat_asm hL.wf ha hup3)).1
 refine DC.use (putL_new (x := (.mk true c.at_ [] none [] [])) (W' := W) (c.path.getD (((c.path.length : Int) - 1).toNat) default) hL hup3 hop3 hidsup3 (asc_oat hto hup3) hkp3 (List.Perm.refl _)) [(0, clc c)] rfl ⟨rfl, trivial⟩ ?_
 rintro rr Z1 ⟨j, k1, k2, u', hj, e1, e2, hZ1⟩
 refine Ke (Fn0 [] [] (Rr (Fn0 [] [(4, .int .i64 0)] (Rt (.int .i64 0) ?_))))
 have hT := new_er hL.wf hto hup3 e2
 rw [hpep3] at hT
 have e : iDo (er T) c = (er (orep T (c.path.take (c.path.length - 1)) u'), 0) := by
   rw [hT]; unfold iDo
   (try simp only [hPp3, hXyp3, hc14, wData, wMode, newDir, Tr.none, er_mk, er_dir, er_mode, er_data, er_names, er_kids, List.map_nil, decide_true, Bool.not_true, Bool.not_false, Bool.true_and, Bool.and_true, Bool.false_and, Bool.and_false, cond_true, cond_false, show decide ((0 : Int) = 0) = true from rfl, show decide ((3 : Int) = 0) = false from rfl, show decide ((4 : Int) = 0) = false from rfl])
   try rfl
 refine fin_dc (.int .i64 0) Z1 (by first | exact List.Sublist.refl _ | exact List.Sublist.cons _ (List.Sublist.refl _) | exact List.Sublist.cons _ (List.Sublist.cons _ (List.Sublist.refl _))) (lea_refl _) trivial hZ1.2 ⟨(orep T (c.path.take (c.path.length - 1)) u'), W, ?_, hZ1, ?_, (orep_shp hL.wf hL.shp hup3 (shp_ins e1 (oat_shp hL.wf hL.shp hup3) ⟨fun _ => ⟨rfl, rfl⟩, trivial⟩))⟩ <;> rw [e]
 try simp only [KF] at c14
 refine Rr (Cn1 (decide ((c.kind : Int) = (2 : Int))) [0, 3, 5, 7, 8, 32] [] (Ki /\ ·) ⟨rfl, fun hc19 c19 => ?_, fun hc19 c19 => ?_⟩)
 try simp only [KF] at c19
 refine Sq fun K20 hK20 => ?_
 refine Bl (Rr (Fn1 [3, 5, 7, 8] [(45, .bool false)] ((∃ e, TK.ptr 26 = TK.ptr e) /\ ·) ⟨⟨_, rfl⟩, Cf ?_⟩))
 obtain ⟨f8, f9⟩ := f3 (.inl (by simpa using hc19))
 refine Rr (Av1 (r := .int .i64 (IntKind.i64.wrap (c.at_ + (c.data.length : Int)))) (v := .int .i64 (c.at_ + (c.data.length : Int))) 6 60 [(59, .int .i64 c.data.length), (58, .str c.data), (57, .ptr 0 4), (56, .int .i64 c.at_), (55, .ptr 0 3)] (congrArg (AV.int .i64) (wrap64 (by omega) (by omega))) (((1 : Nat) ≠ 0) /\ (3 + 1 <= 5 /\ 3 < 5) /\ ((1 : Nat) ≠ 0) /\ (4 + 1 <= 5 /\ 4 < 5) /\ Ki /\ ·) ⟨(by decide), (by decide), (by decide), (by decide), rfl, Cn1 (decide ((24 : Int) < ((c.at_ + (c.data.length : Int)) : Int))) [3, 5, 7, 8] [] (Ki /\ ·) ⟨rfl, fun hc23 c23 => ?_, fun hc23 c23 => ?_⟩⟩)
 try simp only [KF] at c23
 refine Rr (Fn0 [] [(4, .int .i64 6)] (Rt (.int .i64 6) ?_))
 have hT : er T = er T := rfl
 have e : iDo (er T) c = (er T, 6) := by
   rw [hT]; unfold iDo
   (try simp only [hPp3, hXyp3, hc14, hc19, hc23, wData, wMode, newDir, Tr.none, er_mk, er_dir, er_mode, er_data, er_names, er_kids, List.map_nil, decide_true, Bool.not_true, Bool.not_false, Bool.true_and, Bool.and_true, Bool.false_and, Bool.and_false, cond_true, cond_false, show decide ((0 : Int) = 0) = true from rfl, show decide ((3 : Int) = 0) = false from rfl, show decide ((4 : Int) = 0) = false from rfl])
   try rfl
 refine fin_dc (.int .i64 6) Z (by first | exact List.Sublist.refl _ | exact List.Sublist.cons _ (List.Sublist.refl _) | exact List.Sublist.cons _ (List.Sublist.cons _ (List.Sublist.refl _))) (lea_refl _) trivial hL.odd ⟨T, W, ?_, ⟨hL.perm, hL.odd⟩, ?_, hL.shp⟩ <;> rw [e]
 try simp only [KF] at c23
 refine Sk (Bn (Jn (hK20 (Kp [3, 5, 7, 8] (Rr (Fn3 [3, 5, 7, 8] [(9, .ptr 4 0)] ((4, zt) :: (0, clc c) :: Z) 8 ((true = true /\ 5 = 5 /\ 0 + 5 <= 5) /\ ·) ⟨(by decide), Sq fun K26 hK26 => ?_⟩))))))
 refine Rr (Fn1 [3, 5, 7, 8, 9] [(64, .bool false)] ((∃ e, TK.ptr 26 = TK.ptr e) /\ ·) ⟨⟨_, rfl⟩, Cf (Sk (Jn (hK26 (Kp [3, 5, 7, 9] (Rr ?_)))))⟩)
 refine Bc1 7 [(73, .str c.data), (72, .ptr 0 4), (71, .int .i64 c.at_), (70, .ptr 0 3), (69, .str []), (68, .ptr 4 2)] 56 [.str [], .int .i64 c.at_, .str c.data] 74 (((1 : Nat) ≠ 0) /\ (2 + 1 <= 5 /\ 2 < 5) /\ ((1 : Nat) ≠ 0) /\ (3 + 1 <= 5 /\ 3 < 5) /\ ((1 : Nat) ≠ 0) /\ (4 + 1 <= 5 /\ 4 < 5) /\ ·) ⟨(by decide), (by decide), (by decide), (by decide), (by decide), (by decide), ?_⟩
 refine PE.use (written_ok [] c.at_ c.data (by omega) (by omega) (by first | omega | decide) (by omega)) ?_
 refine Ke (Fn3 [5, 7, 9] [] ((4, [.bool false, .int .i64 0, .str (wrt [] c.at_ c.data), .nils, .nils]) :: (0, clc c) :: Z) 8 (((1 : Nat) ≠ 0) /\ (true = true /\ 1 = 1 /\ 2 + 1 <= 5) /\ ·) ⟨(by decide), (by decide), Rb (fun h => Bn (Jn (hK11 h))) (Bc1 4 [(78, .agg [.bool false, .int .i64 0, .str (wrt [] c.at_ c.data), .nils, .nils]), (77, .str (c.path.getD (((c.path.length : Int) - 1).toNat) default)), (76, .ptr ip3 Ap3.length)] 55 [.ptr ip3 Ap3.length, .str (c.path.getD (((c.path.length : Int) - 1).toNat) default), .agg [.bool false, .int .i64 0, .str (wrt [] c.at_ c.data), .nils, .nils]] 79 ((0 + 5 <= 5 /\ 0 < 5) /\ ·) ⟨(by decide), ?_⟩)⟩)
 have hkp3 := oat_kid_none hup3 (by rw [hpep3]; exact hyyp3)
 obtain ⟨⟨aup3, bup3⟩, hidsup3⟩ := Option.isSome_iff_exists.1 ((asm_eq _).1 (oat_asm hL.wf ha hup3)).1
 refine DC.use (putL_new (x := (.mk false 0 (wrt [] c.at_ c.data) none [] [])) (W' := W) (c.path.getD (((c.path.length : Int) - 1).toNat) default) hL hup3 hop3 hidsup3 (asc_oat hto hup3) hkp3 (List.Perm.refl _)) [(4, [.bool false, .int .i64 0, .str (wrt [] c.at_ c.data), .nils, .nils]), (0, clc c)] rfl ⟨rfl, ⟨rfl, trivial⟩⟩ ?_
 rintro rr Z1 ⟨j, k1, k2, u', hj, e1, e2, hZ1⟩
 refine Ke (Fn0 [] [] (Rr (Fn0 [] [(4, .int .i64 0)] (Rt (.int .i64 0) ?_))))
 have hT := new_er hL.wf hto hup3 e2
 rw [hpep3] at hT
 have e : iDo (er T) c = (er (orep T (c.path.take (c.path.length - 1)) u'), 0) := by
   rw [hT]; unfold iDo
   (try simp only [hPp3, hXyp3, hc14, hc19, hc23, wData, wMode, newDir, Tr.none, er_mk, er_dir, er_mode, er_data, er_names, er_kids, List.map_nil, decide_true, Bool.not_true, Bool.not_false, Bool.true_and, Bool.and_true, Bool.false_and, Bool.and_false, cond_true, cond_false, show decide ((0 : Int) = 0) = true from rfl, show decide ((3 : Int) = 0) = false from rfl, show decide ((4 : Int) = 0) = false from rfl])
   try rfl
 refine fin_dc (.int .i64 0) Z1 (by first | exact List.Sublist.refl _ | exact List.Sublist.cons _ (List.Sublist.refl _) | exact List.Sublist.cons _ (List.Sublist.cons _ (List.Sublist.refl _))) (lea_refl _) trivial hZ1.2 ⟨(orep T (c.path.take (c.path.length - 1)) u'), W, ?_, hZ1, ?_, (orep_shp hL.wf hL.shp hup3 (shp_ins e1 (oat_shp hL.wf hL.shp hup3) ⟨fun _ => ⟨rfl, rfl⟩, trivial⟩))⟩ <;> rw [e]
 try simp only [KF] at c19
 refine Rr (Cn1 (decide ((c.kind : Int) = (3 : Int))) [0, 3, 5, 7, 8, 32] [] (Ki /\ ·) ⟨rfl, fun hc31 c31 => ?_, fun hc31 c31 => ?_⟩)
 try simp only [KF] at c31
 refine Sq fun K32 hK32 => ?_
 refine Bl (Rr (Fn1 [3, 8] [(82, .bool true)] ((∃ e, TK.ptr 26 = TK.ptr e) /\ ·) ⟨⟨_, rfl⟩, Ct (Rr ?_)⟩))
 refine Fn0 [] [(4, .int .i64 3)] (Rt (.int .i64 3) ?_)
 have hT : er T = er T := rfl
 have e : iDo (er T) c = (er T, 3) := by
   rw [hT]; unfold iDo
   (try simp only [hPp3, hXyp3, hc14, hc19, hc31, wData, wMode, newDir, Tr.none, er_mk, er_dir, er_mode, er_data, er_names, er_kids, List.map_nil, decide_true, Bool.not_true, Bool.not_false, Bool.true_and, Bool.and_true, Bool.false_and, Bool.and_false, cond_true, cond_false, show decide ((0 : Int) = 0) = true from rfl, show decide ((3 : Int) = 0) = false from rfl, show decide ((4 : Int) = 0) = false from rfl])
   try rfl
 refine fin_dc (.int .i64 3) Z (by first | exact List.Sublist.refl _ | exact List.Sublist.cons _ (List.Sublist.refl _) | exact List.Sublist.cons _ (List.Sublist.cons _ (List.Sublist.refl _))) (lea_refl _) trivial hL.odd ⟨T, W, ?_, ⟨hL.perm, hL.odd⟩, ?_, hL.shp⟩ <;> rw [e]
 try simp only [KF] at c31
 refine Rr (Cn1 (decide ((c.kind : Int) = (4 : Int))) [0, 3, 5, 7, 8, 32] [] (Ki /\ ·) ⟨rfl, fun hc36 c36 => ?_, fun hc36 c36 => ?_⟩)
 try simp only [KF] at c36
 refine Sq fun K37 hK37 => ?_
 refine Bl (Rr (Fn1 [5, 7, 8] [(102, .bool true)] ((∃ e, TK.ptr 26 = TK.ptr e) /\ ·) ⟨⟨_, rfl⟩, Ct (Rr ?_)⟩))
 refine Fn0 [] [(4, .int .i64 3)] (Rt (.int .i64 3) ?_)
 have hT : er T = er T := rfl
 have e : iDo (er T) c = (er T, 3) := by
   rw [hT]; unfold iDo
   (try simp only [hPp3, hXyp3, hc14, hc19, hc31, hc36, wData, wMode, newDir, Tr.none, er_mk, er_dir, er_mode, er_data, er_names, er_kids, List.map_nil, decide_true, Bool.not_true, Bool.not_false, Bool.true_and, Bool.and_true, Bool.false_and, Bool.and_false, cond_true, cond_false, show decide ((0 : Int) = 0) = true from rfl, show decide ((3 : Int) = 0) = false from rfl, show decide ((4 : Int) = 0) = false from rfl])
   try rfl
 refine fin_dc (.int .i64 3) Z (by first | exact List.Sublist.refl _ | exact List.Sublist.cons _ (List.Sublist.refl _) | exact List.Sublist.cons _ (List.Sublist.cons _ (List.Sublist.refl _))) (lea_refl _) trivial hL.odd ⟨T, W, ?_, ⟨hL.perm, hL.odd⟩, ?_, hL.shp⟩ <;> rw [e]
 try simp only [KF] at c36
 refine Rr (Cn1 (decide ((c.kind : Int) = (5 : Int))) [0, 3, 8, 32] [] (Ki /\ ·) ⟨rfl, fun hc41 c41 => ?_, fun hc41 c41 => ?_⟩)
 try simp only [KF] at c41
 refine Rr (Bc1 3 [(124, .agg (clc c)), (123, .ptr r A0.length)] 59 [.ptr r A0.length, .agg (clc c)] 125 ((0 + 5 <= 5 /\ 0 < 5) /\ ·) ⟨(by decide), ?_⟩)
 obtain ⟨f5, f6⟩ := f4 (by simpa using hc41)
 refine DC.use (rename_ok c hL ha hto f1 f2 f5 f6) [(0, clc c)] rfl ⟨rfl, trivial⟩ ?_
 rintro _ Z1 ⟨T1, W1, rfl, hZ1, he1, hs1⟩
 refine Ke (Fn0 [] [(4, .int .i64 ((iRename (er T) c).2))] (Rt (.int .i64 ((iRename (er T) c).2)) ?_))
 have hT := he1
 have e : iDo (er T) c = (er T1, (iRename (er T) c).2) := by
   rw [hT]; unfold iDo
   (try simp only [hPp3, hXyp3, hc14, hc19, hc31, hc36, hc41, wData, wMode, newDir, Tr.none, er_mk, er_dir, er_mode, er_data, er_names, er_kids, List.map_nil, decide_true, Bool.not_true, Bool.not_false, Bool.true_and, Bool.and_true, Bool.false_and, Bool.and_false, cond_true, cond_false, show decide ((0 : Int) = 0) = true from rfl, show decide ((3 : Int) = 0) = false from rfl, show decide ((4 : Int) = 0) = false from rfl])
   try rfl
 refine fin_dc (.int .i64 ((iRename (er T) c).2)) Z1 (by first | exact List.Sublist.refl _ | exact List.Sublist.cons _ (List.Sublist.refl _) | exact List.Sublist.cons _ (List.Sublist.cons _ (List.Sublist.refl _))) (lea_refl _) trivial hZ1.2 ⟨T1, W1, ?_, hZ1, ?_, hs1⟩ <;> rw [e]
 try simp only [KF] at c41
 refine Rr (Cn1 (decide ((c.kind : Int) = (6 : Int))) [3, 8] [] (Ki /\ ·) ⟨rfl, fun hc44 c44 => ?_, fun hc44 c44 => ?_⟩)
 try simp only [KF] at c44
 refine Sq fun K45 hK45 => ?_
 refine Rr (Fn1 [3, 8] [(129, .bool true)] ((∃ e, TK.ptr 26 = TK.ptr e) /\ ·) ⟨⟨_, rfl⟩, Ct (Rr (Fn0 [] [(4, .int .i64 3)] ?_))⟩)
 refine Rt (.int .i64 3) ?_
 have hT : er T = er T := rfl
 have e : iDo (er T) c = (er T, 3) := by
   rw [hT]; unfold iDo
   (try simp only [hPp3, hXyp3, hc14, hc19, hc31, hc36, hc41, hc44, wData, wMode, newDir, Tr.none, er_mk, er_dir, er_mode, er_data, er_names, er_kids, List.map_nil, decide_true, Bool.not_true, Bool.not_false, Bool.true_and, Bool.and_true, Bool.false_and, Bool.and_false, cond_true, cond_false, show decide ((0 : Int) = 0) = true from rfl, show decide ((3 : Int) = 0) = false from rfl, show decide ((4 : Int) = 0) = false from rfl])
   try rfl
 refine fin_dc (.int .i64 3) Z (by first | exact List.Sublist.refl _ | exact List.Sublist.cons _ (List.Sublist.refl _) | exact List.Sublist.cons _ (List.Sublist.cons _ (List.Sublist.refl _))) (lea_refl _) trivial hL.odd ⟨T, W, ?_, ⟨hL.perm, hL.odd⟩, ?_, hL.shp⟩ <;> rw [e]
 try simp only [KF] at c44
 refine Sk (Bn (Jn (hK11 (Kp [] (Rr (Fn0 [] [(4, .int .i64 0)] (Rt (.int .i64 0) ?_)))))))
 have hT : er T = er T := rfl
 have e : iDo (er T) c = (er T, 0) := by
   rw [hT]; unfold iDo
   (try simp only [hPp3, hXyp3, hc14, hc19, hc31, hc36, hc41, hc44, wData, wMode, newDir, Tr.none, er_mk, er_dir, er_mode, er_data, er_names, er_kids, List.map_nil, decide_true, Bool.not_true, Bool.not_false, Bool.true_and, Bool.and_true, Bool.false_and, Bool.and_false, cond_true, cond_false, show decide ((0 : Int) = 0) = true from rfl, show decide ((3 : Int) = 0) = false from rfl, show decide ((4 : Int) = 0) = false from rfl])
   try rfl
 refine fin_dc (.int .i64 0) Z (by first | exact List.Sublist.refl _ | exact List.Sublist.cons _ (List.Sublist.refl _) | exact List.Sublist.cons _ (List.Sublist.cons _ (List.Sublist.refl _))) (lea_refl _) trivial hL.odd ⟨T, W, ?_, ⟨hL.perm, hL.odd⟩, ?_, hL.shp⟩ <;> rw [e]
 obtain ⟨iyp3, Ayp3, Byp3, Wyp3, hoyp3, hiyp3, hpyp3, hnyp3, hsyp3, hryp3⟩ := hL.foc hyyp3
 have hgyp3 : hgt Z iyp3 = some (Ayp3 ++ otc yp3 ++ Byp3) := hgt_perm hnd hpyp3 (by simp)
 have hXyp3 : tat (er T) c.path = some (er yp3) := by rw [tat_er, hyyp3]; rfl
 obtain ⟨⟨ayp3, byp3⟩, hidsyp3⟩ := Option.isSome_iff_exists.1 ((asm_eq _).1 (oat_asm hL.wf ha hyyp3)).1
 have hWyp3 := W_tat _ _ _ hXyp3
 have hDyp3 := data_W (er yp3)
 rw [er_data] at hDyp3
 rw [hoyp3, show oad (some (iyp3, Ayp3.length)) = .ptr iyp3 Ayp3.length from rfl]
 refine Ke (Fn0 [0, 3, 5, 7] [(8, .ptr iyp3 Ayp3.length)] (Sq fun K49 hK49 => ?_))
 refine Rr (Fn1 [0, 3, 5, 7, 8] [(32, .int .i64 c.kind)] (((1 : Nat) ≠ 0) /\ (0 + 1 <= 5 /\ 0 < 5) /\ ·) ⟨(by decide), (by decide), Bl (Rr (Cn1 (decide ((c.kind : Int) = (1 : Int))) [0, 3, 5, 7, 8, 32] [] (Ki /\ ·) ⟨rfl, fun hc52 c52 => ?_, fun hc52 c52 => ?_⟩))⟩)
 try simp only [KF] at c52
 refine Sq fun K53 hK53 => ?_
 refine Rr (Fn1 [3, 5, 7] [(36, .bool true)] ((∃ e, TK.ptr 26 = TK.ptr e) /\ ·) ⟨⟨_, rfl⟩, Ct (Rr (Fn0 [] [(4, .int .i64 5)] ?_))⟩)
 refine Rt (.int .i64 5) ?_
 have hT : er T = er T := rfl
 have e : iDo (er T) c = (er T, 5) := by
   rw [hT]; unfold iDo
   (try simp only [hPp3, hXyp3, hc52, wData, wMode, newDir, Tr.none, er_mk, er_dir, er_mode, er_data, er_names, er_kids, List.map_nil, decide_true, Bool.not_true, Bool.not_false, Bool.true_and, Bool.and_true, Bool.false_and, Bool.and_false, cond_true, cond_false, show decide ((0 : Int) = 0) = true from rfl, show decide ((3 : Int) = 0) = false from rfl, show decide ((4 : Int) = 0) = false from rfl])
   try rfl
 refine fin_dc (.int .i64 5) Z (by first | exact List.Sublist.refl _ | exact List.Sublist.cons _ (List.Sublist.refl _) | exact List.Sublist.cons _ (List.Sublist.cons _ (List.Sublist.refl _))) (lea_refl _) trivial hL.odd ⟨T, W, ?_, ⟨hL.perm, hL.odd⟩, ?_, hL.shp⟩ <;> rw [e]
 try simp only [KF] at c52
 refine Rr (Cn1 (decide ((c.kind : Int) = (2 : Int))) [0, 3, 5, 7, 8, 32] [] (Ki /\ ·) ⟨rfl, fun hc57 c57 => ?_, fun hc57 c57 => ?_⟩)
 try simp only [KF] at c57
 refine Sq fun K58 hK58 => ?_
 refine Bl (Rr (An1 6 [(51, .ptr iyp3 Ayp3.length), (50, .ptr iyp3 Ayp3.length), (49, .ptr iyp3 Ayp3.length), (48, .bool true), (47, .bool true), (46, .ptr iyp3 Ayp3.length)] ((∃ e, TK.ptr 26 = TK.ptr e) /\ ((1 : Nat) ≠ 0) /\ ·) ⟨⟨_, rfl⟩, (by decide), geln (t := yp3) 52 4 iyp3 0 (.bool yp3.dir) (fun J => by kernel_rfl) ((hgt_ev (E := [(0, clc c)]) ⟨rfl, trivial⟩ hiyp3).trans hgyp3) (by kernel_rfl) rfl (Cn0 yp3.dir [3, 5, 7, 8] [] ⟨fun hc60 c60 => ?_, fun hc60 c60 => ?_⟩)⟩))
 try simp only [KF] at c60
 refine Rr (Fn0 [] [(4, .int .i64 4)] (Rt (.int .i64 4) ?_))
 have hT : er T = er T := rfl
 have e : iDo (er T) c = (er T, 4) := by
   rw [hT]; unfold iDo
   (try simp only [hPp3, hXyp3, hc52, hc57, hc60, wData, wMode, newDir, Tr.none, er_mk, er_dir, er_mode, er_data, er_names, er_kids, List.map_nil, decide_true, Bool.not_true, Bool.not_false, Bool.true_and, Bool.and_true, Bool.false_and, Bool.and_false, cond_true, cond_false, show decide ((0 : Int) = 0) = true from rfl, show decide ((3 : Int) = 0) = false from rfl, show decide ((4 : Int) = 0) = false from rfl])
   try rfl
 refine fin_dc (.int .i64 4) Z (by first | exact List.Sublist.refl _ | exact List.Sublist.cons _ (List.Sublist.refl _) | exact List.Sublist.cons _ (List.Sublist.cons _ (List.Sublist.refl _))) (lea_refl _) trivial hL.odd ⟨T, W, ?_, ⟨hL.perm, hL.odd⟩, ?_, hL.shp⟩ <;> rw [e]
 try simp only [KF] at c60
 obtain ⟨f8, f9⟩ := f3 (.inl (by simpa using hc57))
 refine Rr (Av1 (r := .int .i64 (IntKind.i64.wrap (c.at_ + (c.data.length : Int)))) (v := .int .i64 (c.at_ + (c.data.length : Int))) 6 60 [(59, .int .i64 c.data.length), (58, .str c.data), (57, .ptr 0 4), (56, .int .i64 c.at_), (55, .ptr 0 3)] (congrArg (AV.int .i64) (wrap64 (by omega) (by omega))) (((1 : Nat) ≠ 0) /\ (3 + 1 <= 5 /\ 3 < 5) /\ ((1 : Nat) ≠ 0) /\ (4 + 1 <= 5 /\ 4 < 5) /\ Ki /\ ·) ⟨(by decide), (by decide), (by decide), (by decide), rfl, Cn1 (decide ((24 : Int) < ((c.at_ + (c.data.length : Int)) : Int))) [3, 5, 7, 8] [] (Ki /\ ·) ⟨rfl, fun hc63 c63 => ?_, fun hc63 c63 => ?_⟩⟩)
 try simp only [KF] at c63
 refine Rr (Fn0 [] [(4, .int .i64 6)] (Rt (.int .i64 6) ?_))
 have hT : er T = er T := rfl
 have e : iDo (er T) c = (er T, 6) := by
   rw [hT]; unfold iDo
   (try simp only [hPp3, hXyp3, hc52, hc57, hc60, hc63, wData, wMode, newDir, Tr.none, er_mk, er_dir, er_mode, er_data, er_names, er_kids, List.map_nil, decide_true, Bool.not_true, Bool.not_false, Bool.true_and, Bool.and_true, Bool.false_and, Bool.and_false, cond_true, cond_false, show decide ((0 : Int) = 0) = true from rfl, show decide ((3 : Int) = 0) = false from rfl, show decide ((4 : Int) = 0) = false from rfl])
   try rfl
 refine fin_dc (.int .i64 6) Z (by first | exact List.Sublist.refl _ | exact List.Sublist.cons _ (List.Sublist.refl _) | exact List.Sublist.cons _ (List.Sublist.cons _ (List.Sublist.refl _))) (lea_refl _) trivial hL.odd ⟨T, W, ?_, ⟨hL.perm, hL.odd⟩, ?_, hL.shp⟩ <;> rw [e]
 try simp only [KF] at c63
 refine Sk (Bn (Jn (hK58 (Kp [3, 5, 7, 8] (Rr (Fn3 [3, 5, 7, 8] [(9, .ptr 4 0)] ((4, zt) :: (0, clc c) :: Z) 8 ((true = true /\ 5 = 5 /\ 0 + 5 <= 5) /\ ·) ⟨(by decide), Sq fun K66 hK66 => ?_⟩))))))
 refine Rr (Fn1 [3, 5, 7, 8, 9] [(64, .bool true)] ((∃ e, TK.ptr 26 = TK.ptr e) /\ ·) ⟨⟨_, rfl⟩, Ct (Rb (fun h => Jn (hK66 h)) (An0 2 [(66, .ptr iyp3 Ayp3.length), (65, .ptr iyp3 Ayp3.length)] ?_))⟩)
 refine gela (t := yp3) 67 26 iyp3 (.agg (otc yp3)) (fun J => by kernel_rfl) ((hgt_ev (E := [(4, zt), (0, clc c)]) ⟨rfl, ⟨rfl, trivial⟩⟩ hiyp3).trans hgyp3) (by kernel_rfl) rfl ?_
 refine Fn3 [3, 5, 7, 9] [] ((4, otc yp3) :: (0, clc c) :: Z) 8 ((true = true /\ 5 = 5 /\ 0 + 5 <= 5) /\ ·) ⟨(by decide), Rr (Bc1 7 [(73, .str c.data), (72, .ptr 0 4), (71, .int .i64 c.at_), (70, .ptr 0 3), (69, .str yp3.data), (68, .ptr 4 2)] 56 [.str yp3.data, .int .i64 c.at_, .str c.data] 74 (((1 : Nat) ≠ 0) /\ (2 + 1 <= 5 /\ 2 < 5) /\ ((1 : Nat) ≠ 0) /\ (3 + 1 <= 5 /\ 3 < 5) /\ ((1 : Nat) ≠ 0) /\ (4 + 1 <= 5 /\ 4 < 5) /\ ·) ⟨(by decide), (by decide), (by decide), (by decide), (by decide), (by decide), PE.use (written_ok yp3.data c.at_ c.data (by omega) (by omega) (by first | omega | decide) (by omega)) (Ke ?_)⟩)⟩
 refine Fn3 [5, 7, 9] [] ((4, [.bool yp3.dir, .int .i64 yp3.mode, .str (wrt yp3.data c.at_ c.data), sln yp3.ids yp3.names.length, slk yp3.ids yp3.kids.length]) :: (0, clc c) :: Z) 8 (((1 : Nat) ≠ 0) /\ (true = true /\ 1 = 1 /\ 2 + 1 <= 5) /\ ·) ⟨(by decide), (by decide), Rb (fun h => Bn (Jn (hK49 h))) (Bc1 4 [(78, .agg [.bool yp3.dir, .int .i64 yp3.mode, .str (wrt yp3.data c.at_ c.data), sln yp3.ids yp3.names.length, slk yp3.ids yp3.kids.length]), (77, .str (c.path.getD (((c.path.length : Int) - 1).toNat) default)), (76, .ptr ip3 Ap3.length)] 55 [.ptr ip3 Ap3.length, .str (c.path.getD (((c.path.length : Int) - 1).toNat) default), .agg [.bool yp3.dir, .int .i64 yp3.mode, .str (wrt yp3.data c.at_ c.data), sln yp3.ids yp3.names.length, slk yp3.ids yp3.kids.length]] 79 ((0 + 5 <= 5 /\ 0 < 5) /\ ·) ⟨(by decide), ?_⟩)⟩
 obtain ⟨kp3, hk1p3, hk2p3⟩ := oat_kid_some hup3 (by rw [hpep3]; exact hyyp3)
 obtain ⟨⟨aup3, bup3⟩, hidsup3⟩ := Option.isSome_iff_exists.1 ((asm_eq _).1 (oat_asm hL.wf ha hup3)).1
 refine DC.use (putL_hit (x := (.mk yp3.dir yp3.mode (wrt yp3.data c.at_ c.data) yp3.ids yp3.names yp3.kids)) (c.path.getD (((c.path.length : Int) - 1).toNat) default) hL hup3 hop3 hidsup3 (asc_oat hto hup3) hk1p3 (by rw [hk2p3]; exact objs_data)) [(4, [.bool yp3.dir, .int .i64 yp3.mode, .str (wrt yp3.data c.at_ c.data), sln yp3.ids yp3.names.length, slk yp3.ids yp3.kids.length]), (0, clc c)] rfl ⟨rfl, ⟨rfl, trivial⟩⟩ ?_
 rintro rr Z1 hZ1
 rw [hpep3] at hZ1
 refine Ke (Fn0 [] [] (Rr (Fn0 [] [(4, .int .i64 0)] (Rt (.int .i64 0) ?_))))
 have hT := hit_er (x := (.mk yp3.dir yp3.mode (wrt yp3.data c.at_ c.data) yp3.ids yp3.names yp3.kids)) hL.wf hto hup3 hk1p3
 rw [hpep3] at hT
 have e : iDo (er T) c = (er (orep T c.path (.mk yp3.dir yp3.mode (wrt yp3.data c.at_ c.data) yp3.ids yp3.names yp3.kids)), 0) := by
   rw [hT]; unfold iDo
   (try simp only [hPp3, hXyp3, hc52, hc57, hc60, hc63, wData, wMode, newDir, Tr.none, er_mk, er_dir, er_mode, er_data, er_names, er_kids, List.map_nil, decide_true, Bool.not_true, Bool.not_false, Bool.true_and, Bool.and_true, Bool.false_and, Bool.and_false, cond_true, cond_false, show decide ((0 : Int) = 0) = true from rfl, show decide ((3 : Int) = 0) = false from rfl, show decide ((4 : Int) = 0) = false from rfl])
   try rfl
 refine fin_dc (.int .i64 0) Z1 (by first | exact List.Sublist.refl _ | exact List.Sublist.cons _ (List.Sublist.refl _) | exact List.Sublist.cons _ (List.Sublist.cons _ (List.Sublist.refl _))) (lea_refl _) trivial hZ1.2 ⟨(orep T c.path (.mk yp3.dir yp3.mode (wrt yp3.data c.at_ c.data) yp3.ids yp3.names yp3.kids)), W, ?_, hZ1, ?_, (orep_shp hL.wf hL.shp hyyp3 (shp_data (oat_shp hL.wf hL.shp hyyp3)))⟩ <;> rw [e]
 try simp only [KF] at c57
 refine Rr (Cn1 (decide ((c.kind : Int) = (3 : Int))) [0, 3, 5, 7, 8, 32] [] (Ki /\ ·) ⟨rfl, fun hc71 c71 => ?_, fun hc71 c71 => ?_⟩)
 try simp only [KF] at c71
 refine Sq fun K72 hK72 => ?_
 refine Bl (Rr (Fn1 [3, 8] [(82, .bool false)] ((∃ e, TK.ptr 26 = TK.ptr e) /\ ·) ⟨⟨_, rfl⟩, Cf (Rr ?_)⟩))
 refine An1 3 [(88, .ptr iyp3 Ayp3.length), (87, .ptr iyp3 Ayp3.length), (86, .ptr iyp3 Ayp3.length)] (((1 : Nat) ≠ 0) /\ ·) ⟨(by decide), geln (t := yp3) 89 4 iyp3 0 (.bool yp3.dir) (fun J => by kernel_rfl) ((hgt_ev (E := [(0, clc c)]) ⟨rfl, trivial⟩ hiyp3).trans hgyp3) (by kernel_rfl) rfl (Cn0 yp3.dir [3, 8] [] ⟨fun hc75 c75 => ?_, fun hc75 c75 => ?_⟩)⟩
 try simp only [KF] at c75
 refine Rr (Fn0 [] [(4, .int .i64 4)] (Rt (.int .i64 4) ?_))
 have hT : er T = er T := rfl
 have e : iDo (er T) c = (er T, 4) := by
   rw [hT]; unfold iDo
   (try simp only [hPp3, hXyp3, hc52, hc57, hc71, hc75, wData, wMode, newDir, Tr.none, er_mk, er_dir, er_mode, er_data, er_names, er_kids, List.map_nil, decide_true, Bool.not_true, Bool.not_false, Bool.true_and, Bool.and_true, Bool.false_and, Bool.and_false, cond_true, cond_false, show decide ((0 : Int) = 0) = true from rfl, show decide ((3 : Int) = 0) = false from rfl, show decide ((4 : Int) = 0) = false from rfl])
   try rfl
 refine fin_dc (.int .i64 4) Z (by first | exact List.Sublist.refl _ | exact List.Sublist.cons _ (List.Sublist.refl _) | exact List.Sublist.cons _ (List.Sublist.cons _ (List.Sublist.refl _))) (lea_refl _) trivial hL.odd ⟨T, W, ?_, ⟨hL.perm, hL.odd⟩, ?_, hL.shp⟩ <;> rw [e]
 try simp only [KF] at c75
 refine Sk (Bn (Jn (hK72 (Kp [3, 8] ?_))))
 obtain ⟨f8, f9⟩ := f3 (.inr (by simpa using hc71))
 refine Qb [0, 0, 2, 6, 14, 0, 32, 126, 255, 511, 1023] [(0, []), (1, []), (2, []), (3, []), (4, []), (5, []), (6, []), (7, []), (8, []), (9, []), (10, [])] (fun h => Bn (Jn (hK49 h))) (qAn1 4 [(93, .ptr iyp3 (Ayp3.length + 2)), (92, .ptr iyp3 Ayp3.length), (91, .ptr iyp3 Ayp3.length), (90, .ptr iyp3 Ayp3.length)] (((1 : Nat) ≠ 0) /\ ·) ⟨(by decide), gqln (t := yp3) 94 9 iyp3 2 (.str yp3.data) (fun J => by kernel_rfl) ((hgt_ev (E := [(0, clc c)]) ⟨rfl, trivial⟩ hiyp3).trans hgyp3) (by kernel_rfl) rfl (qBc1 3 [(96, .int .i64 c.at_), (95, .ptr 0 3)] [] 57 [.str yp3.data, .int .i64 c.at_] 97 (((1 : Nat) ≠ 0) /\ (3 + 1 <= 5 /\ 3 < 5) /\ ·) ⟨(by decide), (by decide), PE.use (sized_ok yp3.data c.at_ (by omega) (by omega) (by omega)) ?_⟩)⟩)
 refine Kq (p := (True)) trivial ?_
 refine qAn1 2 [(99, .ptr iyp3 (Ayp3.length + 2)), (98, .ptr iyp3 Ayp3.length)] (((1 : Nat) ≠ 0) /\ ·) ⟨(by decide), gqsn (t := yp3) 9 iyp3 2 (.str (szd yp3.data c.at_)) (.mk yp3.dir yp3.mode (szd yp3.data c.at_) yp3.ids yp3.names yp3.kids) ((0, clc c) :: (hset Z iyp3 (Ayp3 ++ otc (.mk yp3.dir yp3.mode (szd yp3.data c.at_) yp3.ids yp3.names yp3.kids) ++ Byp3))) (fun J => by kernel_rfl) ((hgt_ev (E := [(0, clc c)]) ⟨rfl, trivial⟩ hiyp3).trans hgyp3) (by kernel_rfl) rfl rfl (hset_ev (E := [(0, clc c)]) ⟨rfl, trivial⟩ hiyp3) ?_⟩
 obtain ⟨kp3, hk1p3, hk2p3⟩ := oat_kid_some hup3 (by rw [hpep3]; exact hyyp3)
 have hZ1 := setL (y' := (.mk yp3.dir yp3.mode (szd yp3.data c.at_) yp3.ids yp3.names yp3.kids)) hnd hL.odd hpyp3 hryp3 rfl rfl
 generalize (hset Z iyp3 (Ayp3 ++ otc (.mk yp3.dir yp3.mode (szd yp3.data c.at_) yp3.ids yp3.names yp3.kids) ++ Byp3)) = Z1 at hZ1 ⊢
 refine qFn0 [] [] (Rr (Fn0 [] [(4, .int .i64 0)] (Rt (.int .i64 0) ?_)))
 have hT := hit_er (x := (.mk yp3.dir yp3.mode (szd yp3.data c.at_) yp3.ids yp3.names yp3.kids)) hL.wf hto hup3 hk1p3
 rw [hpep3] at hT
 have e : iDo (er T) c = (er (orep T c.path (.mk yp3.dir yp3.mode (szd yp3.data c.at_) yp3.ids yp3.names yp3.kids)), 0) := by
   rw [hT]; unfold iDo
   (try simp only [hPp3, hXyp3, hc52, hc57, hc71, hc75, wData, wMode, newDir, Tr.none, er_mk, er_dir, er_mode, er_data, er_names, er_kids, List.map_nil, decide_true, Bool.not_true, Bool.not_false, Bool.true_and, Bool.and_true, Bool.false_and, Bool.and_false, cond_true, cond_false, show decide ((0 : Int) = 0) = true from rfl, show decide ((3 : Int) = 0) = false from rfl, show decide ((4 : Int) = 0) = false from rfl])
   try rfl
 refine fin_dc (.int .i64 0) Z1 (by first | exact List.Sublist.refl _ | exact List.Sublist.cons _ (List.Sublist.refl _) | exact List.Sublist.cons _ (List.Sublist.cons _ (List.Sublist.refl _))) (lea_refl _) trivial hZ1.2 ⟨(orep T c.path (.mk yp3.dir yp3.mode (szd yp3.data c.at_) yp3.ids yp3.names yp3.kids)), W, ?_, hZ1, ?_, (orep_shp hL.wf hL.shp hyyp3 (shp_data (oat_shp hL.wf hL.shp hyyp3)))⟩ <;> rw [e]
 try simp only [KF] at c71
 refine Rr (Cn1 (decide ((c.kind : Int) = (4 : Int))) [0, 3, 5, 7, 8, 32] [] (Ki /\ ·) ⟨rfl, fun hc79 c79 => ?_, fun hc79 c79 => ?_⟩)
 try simp only [KF] at c79
 refine Sq fun K80 hK80 => ?_
 refine Bl (Rr (Fn1 [5, 7, 8] [(102, .bool false)] ((∃ e, TK.ptr 26 = TK.ptr e) /\ ·) ⟨⟨_, rfl⟩, Cf (Rm 105 (yp3.dir && (decide ((0 : Int) < ((yp3.names.length : Int) : Int)))) [5, 7] ?_ ?_)⟩))
 refine An1 3 [(108, .ptr iyp3 Ayp3.length), (107, .ptr iyp3 Ayp3.length), (106, .ptr iyp3 Ayp3.length)] (((1 : Nat) ≠ 0) /\ ·) ⟨(by decide), geln (t := yp3) 109 4 iyp3 0 (.bool yp3.dir) (fun J => by kernel_rfl) ((hgt_ev (E := [(0, clc c)]) ⟨rfl, trivial⟩ hiyp3).trans hgyp3) (by kernel_rfl) rfl (An0 1 [(110, .bool yp3.dir)] (run_b (fun g83 => ?_) (fun g83 => ?_)))⟩
 have hg83 := g83
 try simp only [KF] at g83
 refine An1 3 [(113, .ptr iyp3 (Ayp3.length + 3)), (112, .ptr iyp3 Ayp3.length), (111, .ptr iyp3 Ayp3.length)] (((1 : Nat) ≠ 0) /\ ·) ⟨(by decide), geln (t := yp3) 114 23 iyp3 3 (.osl (2 * ayp3 + 1) 1 0 yp3.names.length) (fun J => by kernel_rfl) ((hgt_ev (E := [(0, clc c)]) ⟨rfl, trivial⟩ hiyp3).trans hgyp3) (by kernel_rfl) (by rw [otc, hidsyp3]; rfl) (Mn1 (decide ((0 : Int) < ((yp3.names.length : Int) : Int))) (Ki /\ ·) ⟨rfl, (by rw [hg83]; rfl)⟩)⟩
 have hg83 := g83
 try simp only [KF] at g83
 refine Mn0 false (by rw [hg83]; rfl)
 refine Cc (yp3.dir && (decide ((0 : Int) < ((yp3.names.length : Int) : Int)))) (fun hc84 c84 => ?_) fun hc84 c84 => ?_
 try simp only [KF] at c84
 refine Rr (Fn0 [] [(4, .int .i64 5)] (Rt (.int .i64 5) ?_))
 have hT : er T = er T := rfl
 have e : iDo (er T) c = (er T, 5) := by
   rw [hT]; unfold iDo
   (try simp only [hPp3, hXyp3, hc52, hc57, hc71, hc79, hc84, wData, wMode, newDir, Tr.none, er_mk, er_dir, er_mode, er_data, er_names, er_kids, List.map_nil, decide_true, Bool.not_true, Bool.not_false, Bool.true_and, Bool.and_true, Bool.false_and, Bool.and_false, cond_true, cond_false, show decide ((0 : Int) = 0) = true from rfl, show decide ((3 : Int) = 0) = false from rfl, show decide ((4 : Int) = 0) = false from rfl])
   try rfl
 refine fin_dc (.int .i64 5) Z (by first | exact List.Sublist.refl _ | exact List.Sublist.cons _ (List.Sublist.refl _) | exact List.Sublist.cons _ (List.Sublist.cons _ (List.Sublist.refl _))) (lea_refl _) trivial hL.odd ⟨T, W, ?_, ⟨hL.perm, hL.odd⟩, ?_, hL.shp⟩ <;> rw [e]
 try simp only [KF] at c84
 refine Sk (Bn (Jn (hK80 (Kp [5, 7] (Rb (fun h => Bn (Jn (hK49 h))) (Bc0 3 [(119, .str (c.path.getD (((c.path.length : Int) - 1).toNat) default)), (118, .ptr ip3 Ap3.length)] 58 [.ptr ip3 Ap3.length, .str (c.path.getD (((c.path.length : Int) - 1).toNat) default)] 120 ?_))))))
 obtain ⟨kp3, hk1p3, hk2p3⟩ := oat_kid_some hup3 (by rw [hpep3]; exact hyyp3)
 obtain ⟨⟨aup3, bup3⟩, hidsup3⟩ := Option.isSome_iff_exists.1 ((asm_eq _).1 (oat_asm hL.wf ha hup3)).1
 refine DC.use (dropL (c.path.getD (((c.path.length : Int) - 1).toNat) default) hL hup3 hop3 hidsup3 hk1p3) [(0, clc c)] rfl ⟨rfl, trivial⟩ ?_
 rintro rr Z1 ⟨W1, hZ1⟩
 refine Ke (Fn0 [] [] (Rr (Fn0 [] [(4, .int .i64 0)] (Rt (.int .i64 0) ?_))))
 have hT := gone_er hL.wf (tnd_ok hto) hup3 hk1p3
 rw [hpep3] at hT
 have e : iDo (er T) c = (er (orep T (c.path.take (c.path.length - 1)) (.mk up3.dir up3.mode up3.data up3.ids (up3.names.take kp3 ++ up3.names.drop (kp3 + 1)) (up3.kids.take kp3 ++ up3.kids.drop (kp3 + 1)))), 0) := by
   rw [hT]; unfold iDo
   (try simp only [hPp3, hXyp3, hc52, hc57, hc71, hc79, hc84, wData, wMode, newDir, Tr.none, er_mk, er_dir, er_mode, er_data, er_names, er_kids, List.map_nil, decide_true, Bool.not_true, Bool.not_false, Bool.true_and, Bool.and_true, Bool.false_and, Bool.and_false, cond_true, cond_false, show decide ((0 : Int) = 0) = true from rfl, show decide ((3 : Int) = 0) = false from rfl, show decide ((4 : Int) = 0) = false from rfl])
   try rfl
 refine fin_dc (.int .i64 0) Z1 (by first | exact List.Sublist.refl _ | exact List.Sublist.cons _ (List.Sublist.refl _) | exact List.Sublist.cons _ (List.Sublist.cons _ (List.Sublist.refl _))) (lea_refl _) trivial hZ1.2 ⟨(orep T (c.path.take (c.path.length - 1)) (.mk up3.dir up3.mode up3.data up3.ids (up3.names.take kp3 ++ up3.names.drop (kp3 + 1)) (up3.kids.take kp3 ++ up3.kids.drop (kp3 + 1)))), W1, ?_, hZ1, ?_, (orep_shp hL.wf hL.shp hup3 (drop_shp (oat_shp hL.wf hL.shp hup3)))⟩ <;> rw [e]
 try simp only [KF] at c79
 refine Rr (Cn1 (decide ((c.kind : Int) = (5 : Int))) [0, 3, 8, 32] [] (Ki /\ ·) ⟨rfl, fun hc88 c88 => ?_, fun hc88 c88 => ?_⟩)
 try simp only [KF] at c88
 refine Rr (Bc1 3 [(124, .agg (clc c)), (123, .ptr r A0.length)] 59 [.ptr r A0.length, .agg (clc c)] 125 ((0 + 5 <= 5 /\ 0 < 5) /\ ·) ⟨(by decide), ?_⟩)
 obtain ⟨f5, f6⟩ := f4 (by simpa using hc88)
 refine DC.use (rename_ok c hL ha hto f1 f2 f5 f6) [(0, clc c)] rfl ⟨rfl, trivial⟩ ?_
 rintro _ Z1 ⟨T1, W1, rfl, hZ1, he1, hs1⟩
 refine Ke (Fn0 [] [(4, .int .i64 ((iRename (er T) c).2))] (Rt (.int .i64 ((iRename (er T) c).2)) ?_))
 have hT := he1
 have e : iDo (er T) c = (er T1, (iRename (er T) c).2) := by
   rw [hT]; unfold iDo
   (try simp only [hPp3, hXyp3, hc52, hc57, hc71, hc79, hc88, wData, wMode, newDir, Tr.none, er_mk, er_dir, er_mode, er_data, er_names, er_kids, List.map_nil, decide_true, Bool.not_true, Bool.not_false, Bool.true_and, Bool.and_true, Bool.false_and, Bool.and_false, cond_true, cond_false, show decide ((0 : Int) = 0) = true from rfl, show decide ((3 : Int) = 0) = false from rfl, show decide ((4 : Int) = 0) = false from rfl])
   try rfl
 refine fin_dc (.int .i64 ((iRename (er T) c).2)) Z1 (by first | exact List.Sublist.refl _ | exact List.Sublist.cons _ (List.Sublist.refl _) | exact List.Sublist.cons _ (List.Sublist.cons _ (List.Sublist.refl _))) (lea_refl _) trivial hZ1.2 ⟨T1, W1, ?_, hZ1, ?_, hs1⟩ <;> rw [e]
 try simp only [KF] at c88
 refine Rr (Cn1 (decide ((c.kind : Int) = (6 : Int))) [3, 8] [] (Ki /\ ·) ⟨rfl, fun hc91 c91 => ?_, fun hc91 c91 => ?_⟩)
 try simp only [KF] at c91
 refine Sq fun K92 hK92 => ?_
 refine Rr (Fn1 [3, 8] [(129, .bool false)] ((∃ e, TK.ptr 26 = TK.ptr e) /\ ·) ⟨⟨_, rfl⟩, Cf (Sk (Jn (hK92 (Kp [3, 8] (Rb (fun h => Bn (Jn (hK49 h))) ?_)))))⟩)
 refine An1 5 [(134, .ptr iyp3 (Ayp3.length + 1)), (133, .ptr iyp3 Ayp3.length), (132, .int .i64 c.at_), (131, .ptr 0 3), (130, .ptr iyp3 Ayp3.length)] (((1 : Nat) ≠ 0) /\ (3 + 1 <= 5 /\ 3 < 5) /\ ((1 : Nat) ≠ 0) /\ ·) ⟨(by decide), (by decide), (by decide), gesn (t := yp3) 3 iyp3 1 (.int .i64 c.at_) (.mk yp3.dir c.at_ yp3.data yp3.ids yp3.names yp3.kids) ((0, clc c) :: (hset Z iyp3 (Ayp3 ++ otc (.mk yp3.dir c.at_ yp3.data yp3.ids yp3.names yp3.kids) ++ Byp3))) (fun J => by kernel_rfl) ((hgt_ev (E := [(0, clc c)]) ⟨rfl, trivial⟩ hiyp3).trans hgyp3) (by kernel_rfl) rfl rfl (hset_ev (E := [(0, clc c)]) ⟨rfl, trivial⟩ hiyp3) ?_⟩
 obtain ⟨kp3, hk1p3, hk2p3⟩ := oat_kid_some hup3 (by rw [hpep3]; exact hyyp3)
 have hZ1 := setL (y' := (.mk yp3.dir c.at_ yp3.data yp3.ids yp3.names yp3.kids)) hnd hL.odd hpyp3 hryp3 rfl rfl
 generalize (hset Z iyp3 (Ayp3 ++ otc (.mk yp3.dir c.at_ yp3.data yp3.ids yp3.names yp3.kids) ++ Byp3)) = Z1 at hZ1 ⊢
 refine Fn0 [] [] (Rr (Fn0 [] [(4, .int .i64 0)] (Rt (.int .i64 0) ?_)))
 have hT := hit_er (x := (.mk yp3.dir c.at_ yp3.data yp3.ids yp3.names yp3.kids)) hL.wf hto hup3 hk1p3
 rw [hpep3] at hT
 have e : iDo (er T) c = (er (orep T c.path (.mk yp3.dir c.at_ yp3.data yp3.ids yp3.names yp3.kids)), 0) := by
   rw [hT]; unfold iDo
   (try simp only [hPp3, hXyp3, hc52, hc57, hc71, hc79, hc88, hc91, wData, wMode, newDir, Tr.none, er_mk, er_dir, er_mode, er_data, er_names, er_kids, List.map_nil, decide_true, Bool.not_true, Bool.not_false, Bool.true_and, Bool.and_true, Bool.false_and, Bool.and_false, cond_true, cond_false, show decide ((0 : Int) = 0) = true from rfl, show decide ((3 : Int) = 0) = false from rfl, show decide ((4 : Int) = 0) = false from rfl])
   try rfl
 refine fin_dc (.int .i64 0) Z1 (by first | exact List.Sublist.refl _ | exact List.Sublist.cons _ (List.Sublist.refl _) | exact List.Sublist.cons _ (List.Sublist.cons _ (List.Sublist.refl _))) (lea_refl _) trivial hZ1.2 ⟨(orep T c.path (.mk yp3.dir c.at_ yp3.data yp3.ids yp3.names yp3.kids)), W, ?_, hZ1, ?_, (orep_shp hL.wf hL.shp hyyp3 (shp_data (oat_shp hL.wf hL.shp hyyp3)))⟩ <;> rw [e]
 try simp only [KF] at c91
 refine Sk (Bn (Jn (hK49 (Kp [] (Rr (Fn0 [] [(4, .int .i64 0)] (Rt (.int .i64 0) ?_)))))))
 have hT : er T = er T := rfl
 have e : iDo (er T) c = (er T, 0) := by
   rw [hT]; unfold iDo
   (try simp only [hPp3, hXyp3, hc52, hc57, hc71, hc79, hc88, hc91, wData, wMode, newDir, Tr.none, er_mk, er_dir, er_mode, er_data, er_names, er_kids, List.map_nil, decide_true, Bool.not_true, Bool.not_false, Bool.true_and, Bool.and_true, Bool.false_and, Bool.and_false, cond_true, cond_false, show decide ((0 : Int) = 0) = true from rfl, show decide ((3 : Int) = 0) = false from rfl, show decide ((4 : Int) = 0) = false from rfl])
   try rfl
 refine fin_dc (.int .i64 0) Z (by first | exact List.Sublist.refl _ | exact List.Sublist.cons _ (List.Sublist.refl _) | exact List.Sublist.cons _ (List.Sublist.cons _ (List.Sublist.refl _))) (lea_refl _) trivial hL.odd ⟨T, W, ?_, ⟨hL.perm, hL.odd⟩, ?_, hL.shp⟩ <;> rw [e]
 dsimp only
 have hPp3 : parC (er T) c.path = 3 := by rw [parC_er, hup3]
 refine Ke (Fn1 [0, 3] [(6, .int .i64 3), (5, .nilp)] ((0 < 2) /\ (1 < 2) /\ ·) ⟨(by decide), (by decide), Sq fun K96 hK96 => ?_⟩)
 refine Rr (Fn1 [0, 3, 5, 6] [(18, .bool true)] (Ki /\ ·) ⟨rfl, Ct (Rr (Fn0 [] [(4, .int .i64 3)] ?_))⟩)
 refine Rt (.int .i64 3) ?_
 have hT : er T = er T := rfl
 have e : iDo (er T) c = (er T, 3) := by
   rw [hT]; unfold iDo
   (try simp only [hPp3, wData, wMode, newDir, Tr.none, er_mk, er_dir, er_mode, er_data, er_names, er_kids, List.map_nil, decide_true, Bool.not_true, Bool.not_false, Bool.true_and, Bool.and_true, Bool.false_and, Bool.and_false, cond_true, cond_false, show decide ((0 : Int) = 0) = true from rfl, show decide ((3 : Int) = 0) = false from rfl, show decide ((4 : Int) = 0) = false from rfl])
   try rfl
 refine fin_dc (.int .i64 3) Z (by first | exact List.Sublist.refl _ | exact List.Sublist.cons _ (List.Sublist.refl _) | exact List.Sublist.cons _ (List.Sublist.cons _ (List.Sublist.refl _))) (lea_refl _) trivial hL.odd ⟨T, W, ?_, ⟨hL.perm, hL.odd⟩, ?_, hL.shp⟩ <;> rw [e]
theorem h_dfz {np : Nat} {G : Prg} {c : Code} {F0 : Fr} {H' Z W : Hp} {n : Nat} {Q : Post} {k r : Nat} {T : OT} (hz : Z.Perm ((r, [] ++ otc T ++ []) :: (objs T ++ W))) (hsT : shp T)
  (h : TT np G.P c ((k, .pat (tcs (er T))) :: F0) H' n Q) : TT np G.P c ((k, .ptr r 0) :: F0) (H' ++ Z) n Q := by
 refine TT_conv h fun X N ρ a w hs => ?_
 have hsub : H'.Sublist (H' ++ Z) := List.sublist_append_left _ _
 have hO : ∀ b, OX X ρ H' b -> OX X ρ (H' ++ Z) b := fun b hb => hb.imp id (Own.sub hsub)
 have hnd := hs.hr.nodup
 simp only [ids, List.map_append] at hnd
 have hno : ∀ i b, i ∈ ids Z -> ρ i = some b -> ¬ OX X ρ H' b := by
  intro i b hi hb hx
  have hi2 : i ∈ ids (H' ++ Z) := by simp only [ids, List.map_append, List.mem_append]; exact .inr hi
  rcases hx with hx | ⟨j, hj, hb'⟩
  ·exact hs.hr.notX i b hi2 hb hx
  ·have := hs.hr.inj i j b hi2 (by simp only [ids, List.map_append, List.mem_append]; exact .inl hj) hb hb'
   subst this
   exact (List.nodup_append.1 hnd).2.2 _ hj _ hi rfl
 refine ⟨ρ, ⟨hs.fresh, hs.hr.sub hsub, fun t => ?_, hs.df, hs.sz⟩, fun b hb => Own.sub hsub hb, fun _ _ _ h => h⟩
 have ht := hs.fr t
 simp only [gt] at ht ⊢
 cases hk : k == t with
 | false => rw [hk] at ht; exact VR_carry (Carry.less hO) _ _ ht
 | true =>
  rw [hk] at ht
  have ht : VR ρ w (OX X ρ (H' ++ Z)) (.ptr r 0) (a.tmps.getD t undef) := ht
  show VR ρ w (OX X ρ H') (.pat (tcs (er T))) (a.tmps.getD t undef)
  simp only [VR] at ht ⊢
  obtain ⟨b, hb, hv⟩ := ht
  have hm : (r, [] ++ otc T ++ []) ∈ H' ++ Z := List.mem_append.2 (.inr (hz.mem_iff.2 (by simp)))
  obtain ⟨b', c', e', f', q1, q2, q3, q4, q5, q6⟩ := hs.hr.obj _ _ hm
  rw [hb] at q1; cases q1
  simp only [List.nil_append, List.append_nil] at q5 q6
  have hmz : ∀ p, p ∈ objs T -> p ∈ Z := fun p hp => hz.mem_iff.2 (by simp only [List.mem_cons, List.mem_append]; exact .inr (.inl hp))
  have hd := deep_vr (X' := OX X ρ H') hs.hr hO T _ _ hsT (fun p hp => List.mem_append.2 (.inr (hmz p hp))) (fun i b hi hb => hno i b (by
   obtain ⟨p, hp, rfl⟩ := List.mem_map.1 hi
   exact List.mem_map.2 ⟨p, hmz p hp, rfl⟩) hb) q6
  refine ⟨_, hv, hno r b (List.mem_map.2 ⟨(r, [] ++ otc T ++ []), hz.mem_iff.2 (by simp), rfl⟩) hb, (Array.getElem?_eq_some_iff.1 q2).1, ?_⟩
  rw [show tcs (er T) = trc (er T) from (trc_eq _).symm]
  have hl : (trc (er T)).length = 5 := by rw [trc_eq]; rfl
  exact PCs_of q2 q4 (trc (er T)) 0 0 (by rw [hl]; rw [otc_len] at q5; omega) (by rw [hl, List.drop_zero]; rw [otc_len] at hd; exact hd)
theorem wrt_len {s d : Str} {a : Int} (h : 0 <= a) : (wrt s a d).length <= s.length + a.toNat + d.length := by
 have hz := szd_len (s := s) h
 unfold wrt
 dsimp only
 split <;> split <;> (try simp only [List.length_append, List.length_take, List.length_drop]) <;> omega
theorem W_new (m : Int) : (newDir m).W = 1 := by simp [newDir, Tr.W, wS, Tr.Ws]
theorem W_iDo {t : Tr} {c : Cl} (ht : t.W < 2 ^ 10) (f2 : wS c.path < 2 ^ 10) (f3 : c.kind = 2 \/ c.kind = 3 -> 0 <= c.at_ /\ c.at_ <= 24) (f6 : c.kind = 5 -> wS c.to < 2 ^ 10) : (iDo t c).1.W < 2 ^ 40 := by
 have h0 : t.W < 2 ^ 40 := by omega
 have key : ∀ (x : Tr) (g : Bool), x.W < 2 ^ 12 -> (tset c.path t x g).W < 2 ^ 40 := fun x g hx => by
  have := W_tset_lt2 (p := c.path) (t := t) (x := x) (g := g) (by omega) hx f2
  omega
 have hx : ∀ {x}, tat t c.path = some x -> x.W < 2 ^ 10 := fun h => by have := W_tat _ _ _ h; omega
 unfold iDo
 cases decide (parC t c.path = (0 : Int)) <;> simp only [Bool.not_true, Bool.not_false, cond_true, cond_false]
 ·exact h0
 cases decide (c.kind = (1 : Int)) <;> simp only [cond_true, cond_false]
 case true => split; exact h0; exact key _ _ (by rw [W_new]; omega)
 cases hk : decide (c.kind = (2 : Int)) <;> simp only [cond_true, cond_false]
 case true =>
  obtain ⟨f8, f9⟩ := f3 (.inl (by simpa using hk))
  split
  ·rename_i x he
   cases x.dir <;> simp only [cond_true, cond_false]
   case true => exact h0
   cases hd : decide ((24 : Int) < c.at_ + ((c.data.length : Nat) : Int)) <;> simp only [cond_true, cond_false]
   ·simp only [decide_eq_false_iff_not] at hd
    refine key _ _ ?_
    have h1 := W_wData x (wrt x.data c.at_ c.data)
    have h2 := wrt_len (s := x.data) (d := c.data) f8
    have := hx he
    have := data_W x
    omega
   ·exact h0
  ·cases hd : decide ((24 : Int) < c.at_ + ((c.data.length : Nat) : Int)) <;> simp only [cond_true, cond_false]
   ·simp only [decide_eq_false_iff_not] at hd
    refine key _ _ ?_
    have h1 := W_wData .none (wrt [] c.at_ c.data)
    have h2 := wrt_len (s := []) (d := c.data) f8
    have h3 : Tr.none.data.length = 0 := rfl
    rw [W_none] at h1
    simp only [List.length_nil] at h2
    omega
   ·exact h0
 cases hk : decide (c.kind = (3 : Int)) <;> simp only [cond_true, cond_false]
 case true =>
  obtain ⟨f8, f9⟩ := f3 (.inr (by simpa using hk))
  split
  ·exact h0
  ·rename_i x he
   cases x.dir <;> simp only [cond_true, cond_false]
   case true => exact h0
   refine key _ _ ?_
   have h1 := W_wData x (szd x.data c.at_)
   have h2 := szd_len (s := x.data) f8
   have := hx he
   have := data_W x
   omega
 cases decide (c.kind = (4 : Int)) <;> simp only [cond_true, cond_false]
 case true =>
  split
  ·exact h0
  ·rename_i x he
   cases x.dir && decide ((0 : Int) < ((x.names.length : Nat) : Int)) <;> simp only [cond_true, cond_false]
   ·exact key _ _ (by rw [W_none]; omega)
   ·exact h0
 cases hk : decide (c.kind = (5 : Int)) <;> simp only [cond_true, cond_false]
 case true =>
  have f7 := f6 (by simpa using hk)
  unfold iRename
  split
  ·exact h0
  ·rename_i x he
   cases c.path.isPrefixOf c.to <;> simp only [cond_true, cond_false]
   case true => exact h0
   cases decide (parC t c.to = (0 : Int)) <;> simp only [Bool.not_true, Bool.not_false, cond_true, cond_false]
   ·exact h0
   split
   ·exact h0
   ·have h1 := W_tset_lt2 (p := c.to) (t := t) (x := x) (g := false) (by omega) (by have := hx he; omega) f7
    have h2 := W_tset_lt3 (p := c.path) (t := tset c.to t x false) (x := .none) (g := true) h1 (by rw [W_none]; omega) f2
    exact h2
 cases decide (c.kind = (6 : Int)) <;> simp only [cond_true, cond_false]
 ·exact h0
 ·split
  ·exact h0
  ·rename_i x he
   exact key _ _ (by rw [W_wMode]; have := hx he; omega)
open Go Go.Proofs
def aDo (t : Tr) (c : Cl) : Tr × Int :=
  bif !callOk c then (t, 2) else bif !decide ((iDo t c).2 = (0 : Int)) then (t, (iDo t c).2) else bif !treeOk (iDo t c).1 then (t, 6) else ((iDo t c).1, 0)
def iTreeDo (t : Tr) (c : Cl) : Tr × Int := bif !treeOk t then (.none, 1) else aDo t c
set_option maxRecDepth 10000 in
set_option maxHeartbeats 2000000 in
theorem after_ok (t : Tr) (c : Cl) (hto : treeOk t = true) (h1 : wS c.path < 2 ^ 40) (h2 : wS c.to < 2 ^ 40) (h3 : c.data.length < 2 ^ 20) : PE G 15 [.agg (tcs t), .agg (clc c)] (.tup [.agg (tcs (aDo t c).1), .int .i64 (aDo t c).2]) := by
 have hl1 := wS_len c.path; have hl2 := wS_len c.to; have hWT := W_ok hto
 refine Pe Try.func15 ?_
 refine Rr (Fn2 [] [(4, .ptr 8 0), (3, .ptr 4 0), (2, .ptr 0 0)] ((8, zt) :: (4, clc c) :: (0, tcs t) :: []) 12 (Sq fun K2 hK2 => ?_))
 refine Rr (Pc1 2 [(8, .agg (clc c))] 9 (0 + 5 <= 5 /\ 0 < 5) (by decide) (isCall_ok c (by omega) (by omega)) (Cn0 (!(callOk c)) [2, 3, 4] [] ⟨fun hc4 c4 => ?_, fun hc4 c4 => ?_⟩))
 try simp only [KF] at c4
 refine Rr (Pc1 2 [(11, .agg (tcs t))] 12 (0 + 5 <= 5 /\ 0 < 5) (by decide) (clonep_ok _ t rfl (by omega)) (Fn3 [4] [(5, .int .i64 2)] ((8, tcs t) :: (4, clc c) :: (0, tcs t) :: []) 12 ((true = true /\ 5 = 5 /\ 0 + 5 <= 5) /\ ·) ⟨(by decide), Rt1 ((0 + 5 <= 5 /\ 0 < 5) /\ ·) (.tup [.agg (tcs t), .int .i64 2]) ⟨(by decide), ?_⟩⟩))
 have e : aDo t c = (t, 2) := by
   unfold aDo
   simp only [hc4, cond_true, cond_false]
 refine fin_lea ?_
 rw [e]; exact lea_refl _
 try simp only [KF] at c4
 refine Sk (Jn (hK2 (Kp [2, 3, 4] ?_)))
 have hco : callOk c = true := by simpa using hc4
 obtain ⟨f1, f2, f3, f4⟩ := callOk_facts hco
 refine Rr (Bc1 2 [(13, .agg (tcs t))] 22 [.agg (tcs t)] 14 ((0 + 5 <= 5 /\ 0 < 5) /\ ·) ⟨(by decide), TCall.mono (cl_use (View.refl _ _) (clone_ok _ t rfl (by omega))) ?_⟩)
 rintro _ H1 _ _ ⟨rfl, Tn, hH1, he, hs, ha, rfl⟩
 have hH2 : H1 = ((8, zt) :: (4, clc c) :: (0, tcs t) :: objs Tn) := by rw [hH1]; simp only [List.cons_append, List.nil_append]
 clear hH1; subst hH2
 refine Ke (Fn3 [2, 3, 4] [(6, .ptr 12 0)] ((12, otc Tn) :: (8, zt) :: (4, clc c) :: (0, tcs t) :: (objs Tn)) 16 ((true = true /\ 5 = 5 /\ 0 + 5 <= 5) /\ ·) ⟨(by decide), Sq fun K7 hK7 => ?_⟩)
 refine h_pm (H' := ((8, zt) :: (4, clc c) :: (0, tcs t) :: (12, otc Tn) :: (objs Tn))) (List.Perm.trans (List.Perm.cons _ (List.Perm.cons _ (List.Perm.swap _ _ _))) (List.Perm.trans (List.Perm.cons _ (List.Perm.swap _ _ _)) (List.Perm.swap _ _ _))) ?_
 refine h_k [2, 3, 4, 6] (F' := [(2, .ptr 0 0), (3, .ptr 4 0), (4, .ptr 8 0), (6, .ptr 12 0)]) (by kernel_rfl) ?_
 refine h_odd (H := [(8, zt), (4, clc c), (0, tcs t), (12, otc Tn)]) 12 (fun jr => [(2, .ptr 0 0), (3, .ptr 4 0), (4, .ptr 8 0), (6, .ptr (2 * jr + 1) 0)]) (fun jr => [(8, zt), (4, clc c), (0, tcs t), ((2 * jr + 1), otc Tn)]) (by kernel_rfl) (odH_objs Tn) (fun jr => ⟨by simp only [slF, slp, slps, go_sem, and_self], by kernel_rfl⟩) (fun jr => ⟨rfl, .inr ⟨by simp only [tcs, slps, slp, go_sem, and_self], by kernel_rfl⟩, rfl, .inr ⟨by simp only [tcs, slps, slp, go_sem, and_self], by kernel_rfl⟩, rfl, .inr ⟨by simp only [tcs, slps, slp, go_sem, and_self], by kernel_rfl⟩, rfl, .inl ⟨ods_otc _, rfl⟩, trivial⟩) (fun jr => ?_)
 refine Rr (Bc1 2 [(15, .agg (clc c))] 35 [.ptr (2 * jr + 1) 0, .agg (clc c)] 16 ((0 + 5 <= 5 /\ 0 < 5) /\ ·) ⟨(by decide), ?_⟩)
 have hL : Lies ((2 * jr + 1, otc Tn) :: objs Tn) (2 * jr + 1) [] [] Tn [] := ⟨⟨by omega, ods_otc Tn, odH_objs Tn⟩, by omega, by simp, by unfold owf; rw [he]; exact wf_ok hto, hs, osm_W Tn (by rw [he]; omega)⟩
 refine DC.use (do_ok (A0 := []) (B0 := []) c hL ha (by rw [he]; exact hto) f1 f2 f3 f4 h3) [(8, zt), (4, clc c), (0, tcs t)] rfl ⟨rfl, ⟨rfl, ⟨rfl, trivial⟩⟩⟩ ?_
 rintro _ Z1 ⟨T1, W1, rfl, hZ1, he1, hs1⟩
 rw [he] at he1 ⊢
 have hWi := W_iDo (c := c) hWT f2 f3 (fun h => (f4 h).2)
 refine Ke (Fn0 [2, 4, 6] [(7, .int .i64 ((iDo t c).2))] (Rr (Cn1 (!decide (((iDo t c).2 : Int) = (0 : Int))) [2, 4, 6, 7] [] (Ki /\ ·) ⟨rfl, fun hc10 c10 => ?_, fun hc10 c10 => ?_⟩)))
 try simp only [KF] at c10
 refine Rr (Pc1 2 [(19, .agg (tcs t))] 20 (0 + 5 <= 5 /\ 0 < 5) (by decide) (clonep_ok _ t rfl (by omega)) (Fn3 [4] [(5, .int .i64 ((iDo t c).2))] ((8, tcs t) :: (4, clc c) :: (0, tcs t) :: Z1) 16 ((true = true /\ 5 = 5 /\ 0 + 5 <= 5) /\ ·) ⟨(by decide), Rt1 ((0 + 5 <= 5 /\ 0 < 5) /\ ·) (.tup [.agg (tcs t), .int .i64 ((iDo t c).2)]) ⟨(by decide), ?_⟩⟩))
 have e : aDo t c = (t, (iDo t c).2) := by
   unfold aDo
   simp only [hc4, hc10, cond_true, cond_false]
 refine fin_lea ?_
 rw [e]; exact lea_refl _
 try simp only [KF] at c10
 refine Sk (Jn (hK7 (Kp [2, 4, 6] (Sq fun K12 hK12 => ?_))))
 refine h_k [6, 2, 4] (F' := [(6, .ptr (2 * jr + 1) 0), (2, .ptr 0 0), (4, .ptr 8 0)]) (by kernel_rfl) ?_
 refine h_dfz (k := 6) (H' := [(8, zt), (4, clc c), (0, tcs t)]) (Z := Z1) hZ1.1 hs1 ?_
 rw [he1]
 refine Rr (Pc1 2 [(22, .agg (tcs ((iDo t c).1)))] 23 (5 <= 5 /\ 0 < 5) (by decide) (TreeOk_ok ((iDo t c).1) (by omega)) (Cn0 (!(treeOk ((iDo t c).1))) [2, 4, 6] [] ⟨fun hc14 c14 => ?_, fun hc14 c14 => ?_⟩))
 try simp only [KF] at c14
 refine Rr (Pc1 2 [(25, .agg (tcs t))] 26 (0 + 5 <= 5 /\ 0 < 5) (by decide) (clonep_ok _ t rfl (by omega)) (Fn3 [4] [(5, .int .i64 6)] [(8, tcs t), (4, clc c), (0, tcs t)] 16 ((true = true /\ 5 = 5 /\ 0 + 5 <= 5) /\ ·) ⟨(by decide), Rt1 ((0 + 5 <= 5 /\ 0 < 5) /\ ·) (.tup [.agg (tcs t), .int .i64 6]) ⟨(by decide), ?_⟩⟩))
 have e : aDo t c = (t, 6) := by
   unfold aDo
   simp only [hc4, hc10, hc14, cond_true, cond_false]
 refine fin_lea ?_
 rw [e]; exact lea_refl _
 try simp only [KF] at c14
 refine Sk (Jn (hK12 (Kp [4, 6] (Rr (Pc1 2 [(27, .agg (tcs ((iDo t c).1)))] 28 (5 <= 5 /\ 0 < 5) (by decide) (clonep_ok _ ((iDo t c).1) rfl (by omega)) (Fn3 [4] [(5, .int .i64 0)] [(8, tcs ((iDo t c).1)), (4, clc c), (0, tcs t)] 16 ((true = true /\ 5 = 5 /\ 0 + 5 <= 5) /\ ·) ⟨(by decide), Rt1 ((0 + 5 <= 5 /\ 0 < 5) /\ ·) (.tup [.agg (tcs ((iDo t c).1)), .int .i64 0]) ⟨(by decide), ?_⟩⟩))))))
 have e : aDo t c = (((iDo t c).1), 0) := by
   unfold aDo
   simp only [hc4, hc10, hc14, cond_true, cond_false]
 refine fin_lea ?_
 rw [e]; exact lea_refl _
theorem iTreeDo_ok (t : Tr) (c : Cl) (hw0 : t.W < 2 ^ 40) (h1 : wS c.path < 2 ^ 40) (h2 : wS c.to < 2 ^ 40) (h3 : c.data.length < 2 ^ 20) : PE G 5 [.agg (tcs t), .agg (clc c)] (.tup [.agg (tcs (iTreeDo t c).1), .int .i64 (iTreeDo t c).2]) := by
 refine Pe Try.func5 ?_
 refine Rr (Fn2 [] [(4, .ptr 8 0), (3, .ptr 4 0), (2, .ptr 0 0)] [(8, zt), (4, clc c), (0, tcs t)] 12 (Sq fun K2 hK2 => ?_))
 refine Rr (Pc1 2 [(6, .agg (tcs t))] 7 (0 + 5 <= 5 /\ 0 < 5) (by decide) (TreeOk_ok t (by omega)) (Cn0 (!(treeOk t)) [2, 3, 4] [] ⟨fun hc4 c4 => ?_, fun hc4 c4 => ?_⟩))
 try simp only [KF] at c4
 refine Rr (Fn1 [4] [(5, .int .i64 1)] ((true = true /\ 5 = 5 /\ 0 + 5 <= 5) /\ ·) ⟨(by decide), Rt1 ((0 + 5 <= 5 /\ 0 < 5) /\ ·) (.tup [.agg zt, .int .i64 1]) ⟨(by decide), ?_⟩⟩)
 · refine fin_lea ?_
   unfold iTreeDo; simp only [hc4, cond_true, cond_false]
   first | exact lea_refl _ | (simp [lea, leas, Tr.none, tcs, pth]; done)
 try simp only [KF] at c4
 refine Sk (Jn (hK2 (Kp [2, 3, 4] (Rr (Bc1 3 [(11, .agg (clc c)), (10, .agg (tcs t))] 15 [.agg (tcs t), .agg (clc c)] 12 ((0 + 5 <= 5 /\ 0 < 5) /\ (0 + 5 <= 5 /\ 0 < 5) /\ ·) ⟨(by decide), (by decide), PE.use (after_ok t c (by simpa using hc4) h1 h2 h3) (Ke ?_)⟩)))))
 refine Fn3 [4] [(5, .int .i64 ((aDo t c).2))] [(8, tcs ((aDo t c).1)), (4, clc c), (0, tcs t)] 12 ((0 < 2) /\ (1 < 2) /\ (true = true /\ 5 = 5 /\ 0 + 5 <= 5) /\ ·) ⟨(by decide), (by decide), (by decide), Rt1 ((0 + 5 <= 5 /\ 0 < 5) /\ ·) (.tup [.agg (tcs ((aDo t c).1)), .int .i64 ((aDo t c).2)]) ⟨(by decide), ?_⟩⟩
 · refine fin_lea ?_
   unfold iTreeDo; simp only [hc4, cond_true, cond_false]
   first | exact lea_refl _ | (simp [lea, leas, Tr.none, tcs, pth]; done)
theorem wrt_l2w {s d : Str} {a : Int} (h : 0 <= a) : wrt s a d = l2w s a.toNat d := by
 obtain ⟨k, rfl⟩ := Int.eq_ofNat_of_zero_le h
 simp only [wrt, l2w, szd, Int.toNat_natCast]
 by_cases h1 : ((s.length : Nat) : Int) < ((k : Nat) : Int)
 ·rw [if_pos h1, if_neg (show ¬ ((k : Nat) : Int) <= ((s.length : Nat) : Int) by omega)]
  have e1 : (s ++ List.replicate (((k : Nat) : Int) - ((s.length : Nat) : Int)).toNat (0 : UInt8)).take k = s ++ List.replicate (k - s.length) 0 := by
   rw [List.take_of_length_le (by simp; omega)]
   congr 2; omega
  have e2 : (s ++ List.replicate (k + d.length - s.length) (0 : UInt8)).take k = s ++ List.replicate (k - s.length) 0 := by
   rw [List.take_append, List.take_of_length_le (by omega), List.take_replicate]
   congr 2; omega
  rw [e1, e2, if_neg (by simp; omega), List.drop_eq_nil_of_le (by simp; omega), List.append_nil]
 ·rw [if_neg h1]
  by_cases h2 : k + d.length < s.length
  ·rw [if_pos (by simp; omega), show k + d.length - s.length = 0 by omega, List.replicate_zero, List.append_nil]
   congr 2
   simp; omega
  ·rw [if_neg (by simp; omega), List.drop_eq_nil_of_le (by simp; omega), List.append_nil, List.take_append_of_le_length (by omega)]
theorem szd_l2w {s : Str} {a : Int} (h : 0 <= a) : l2w (bif decide (a < ((s.length : Nat) : Int)) then s.take a.toNat else s) a.toNat [] = szd s a := by
 have key : ∀ (u : Str) (k : Nat), l2w u k [] = u ++ List.replicate (k - u.length) 0 := fun u k => by
  simp only [l2w, List.length_nil, Nat.add_zero, List.append_nil, List.take_append_drop]
 rw [key]
 unfold szd
 by_cases h1 : a < ((s.length : Nat) : Int)
 ·rw [decide_eq_true h1, cond_true, if_pos (by omega), show a.toNat - (s.take a.toNat).length = 0 by simp; omega]
  simp
 ·rw [decide_eq_false h1, cond_false]
  by_cases h2 : a <= ((s.length : Nat) : Int)
  ·rw [if_pos h2, show a.toNat - s.length = 0 by omega, List.take_of_length_le (by omega)]; simp
  ·rw [if_neg h2]; congr 2; omega
def ents (t : Tr) : List (Str × Tr) := t.names.zip t.kids
def mkE (t : Tr) (l : List (Str × Tr)) : Tr := .mk t.dir t.mode t.data (l.map (·.1)) (l.map (·.2))
theorem ents_mkE (t : Tr) (l : List (Str × Tr)) : ents (mkE t l) = l := by
 simp only [ents, mkE, Tr.names_mk, Tr.kids_mk]
 induction l with
 | nil => rfl
 | cons e l ih => simp only [List.map_cons, List.zip_cons_cons, ih]
theorem mkE_mkE (t : Tr) (l m : List (Str × Tr)) : mkE (mkE t l) m = mkE t m := rfl
theorem mkE_len (t : Tr) (l : List (Str × Tr)) : (mkE t l).names.length = (mkE t l).kids.length := by simp [mkE]
def insE (nm : Str) (x : Tr) : List (Str × Tr) -> List (Str × Tr)
 | [] => [(nm, x)]
 | e :: l => if blt e.1 nm then e :: insE nm x l else (nm, x) :: e :: l
theorem fA5 {nm : Str} {x : Tr} {r : Tr -> Tr} : ∀ (l : List (Str × Tr)) (a : List Str) (b : List Tr), l.foldl (sstp nm true true x r) (a, b, false) = (a ++ (l.filter fun e => !(e.1 == nm)).map (·.1), b ++ (l.filter fun e => !(e.1 == nm)).map (·.2), false)
 | [], a, b => by simp
 | e :: l, a, b => by
  cases h : e.1 == nm with
  | true =>
   have e1 : sstp nm true true x r (a, b, false) e = (a, b, false) := by simp [sstp, h]
   rw [List.foldl_cons, e1, fA5 l, List.filter_cons, h]; rfl
  | false =>
   have e1 : sstp nm true true x r (a, b, false) e = (a ++ [e.1], b ++ [e.2], false) := by simp [sstp, h]
   rw [List.foldl_cons, e1, fA5 l, List.filter_cons, h]; simp
theorem fA6 {nm : Str} {x : Tr} {r : Tr -> Tr} {t : Tr} : ∀ (l : List (Str × Tr)) (a : List Str) (b : List Tr), (∀ e ∈ l, e.1 ≠ nm) -> sE nm true false x t (l.foldl (sstp nm true false x r) (a, b, false)) = .mk t.dir t.mode t.data (a ++ (insE nm x l).map (·.1)) (b ++ (insE nm x l).map (·.2))
 | [], a, b, _ => by simp [sE, insE]
 | e :: l, a, b, h => by
  have h2 : (e.1 == nm) = false := by simpa using h e (by simp)
  cases hb : blt e.1 nm with
  | true =>
   have e1 : sstp nm true false x r (a, b, false) e = (a ++ [e.1], b ++ [e.2], false) := by simp [sstp, h2, hb]
   rw [List.foldl_cons, e1, fA6 l _ _ fun e' he => h e' (by simp [he]), insE, if_pos hb]; simp
  | false =>
   have e1 : sstp nm true false x r (a, b, false) e = (a ++ [nm] ++ [e.1], b ++ [x] ++ [e.2], true) := by simp [sstp, h2, hb]
   rw [List.foldl_cons, e1, fA2 l _ _ fun e' he => h e' (by simp [he]), insE, if_neg (by rw [hb]; simp)]
   simp [sE]
theorem tsE_gone (t x : Tr) (nm : Str) : tset [nm] t x true = mkE t ((ents t).filter fun e => !(e.1 == nm)) := by
 rw [tset, sA_all, List.isEmpty_nil, fA5]
 simp [sE, mkE, ents]
theorem tsE_new (t x : Tr) (nm : Str) (h : ∀ e ∈ ents t, e.1 ≠ nm) : tset [nm] t x false = mkE t (insE nm x (ents t)) := by
 rw [tset, sA_all, List.isEmpty_nil, show t.names.zip t.kids = ents t from rfl, fA6 _ _ _ h]
 simp [mkE, ents]
theorem tsE_deep (t x : Tr) (n : Str) (p : List Str) (g : Bool) (hp : p ≠ []) : tset (n :: p) t x g = mkE t ((ents t).map fun e => (e.1, bif e.1 == n then tset p e.2 x g else e.2)) := by
 have hpe : p.isEmpty = false := by cases p with | nil => exact absurd rfl hp | cons _ _ => rfl
 rw [tset, sA_all, hpe, fA4]
 simp only [sE, Bool.false_and, cond_false, List.nil_append, mkE, ents, List.map_map]
 rfl
theorem ins_map {nm n : Str} {x : Tr} (f : Tr -> Tr) (hne : nm ≠ n) : ∀ l : List (Str × Tr), insE nm x (l.map fun e => (e.1, bif e.1 == n then f e.2 else e.2)) = (insE nm x l).map fun e => (e.1, bif e.1 == n then f e.2 else e.2)
 | [] => by
  have : (nm == n) = false := by simpa using hne
  simp [insE, this]
 | e :: l => by
  have : (nm == n) = false := by simpa using hne
  simp only [List.map_cons, insE]
  split
  ·rw [List.map_cons, ins_map f hne l]
  ·simp only [List.map_cons, this, cond_false]
theorem ins_flt {nm n : Str} {x : Tr} (hne : nm ≠ n) : ∀ l : List (Str × Tr), asc (l.map (·.1)) = true -> insE nm x (l.filter fun e => !(e.1 == n)) = (insE nm x l).filter fun e => !(e.1 == n)
 | [], _ => by
  have : (nm == n) = false := by simpa using hne
  simp [insE, this]
 | e :: l, h => by
  have hnm : (nm == n) = false := by simpa using hne
  have hl : asc (l.map (·.1)) = true := by
   cases l with
   | nil => rfl
   | cons e' l => simp only [List.map_cons, asc, Bool.and_eq_true] at h ⊢; exact h.2
  have hgt : ∀ e' ∈ l, blt e.1 e'.1 = true := by
   intro e' he
   obtain ⟨i, hi, rfl⟩ := List.mem_iff_getElem.1 he
   have := asc_lt h (show 0 < i + 1 by omega) (by simp; omega)
   simpa [List.getD, hi] using this
  cases hb : blt e.1 nm with
  | true =>
   rw [insE, if_pos hb, List.filter_cons, List.filter_cons]
   split
   ·rw [insE, if_pos hb, ins_flt hne l hl]
   ·exact ins_flt hne l hl
  | false =>
   rw [insE, if_neg (by rw [hb]; simp)]
   have hc : ∀ m : List (Str × Tr), (∀ e' ∈ m, blt e'.1 nm = false) -> insE nm x m = (nm, x) :: m := by
    intro m hm
    cases m with
    | nil => rfl
    | cons e' m => rw [insE, if_neg (by rw [hm e' (by simp)]; simp)]
   rw [hc _ (fun e' he => by
    have he := (List.mem_filter.1 he).1
    rcases List.mem_cons.1 he with rfl | he
    ·exact hb
    ·cases hx : blt e'.1 nm with
     | false => rfl
     | true => rw [blt_trans (hgt e' he) hx] at hb; cases hb)]
   rw [List.filter_cons (x := (nm, x))]
   simp only [hnm, Bool.not_false, if_true]
theorem tat_mem {t : Tr} {n : Str} {p : List Str} (h : tat t (n :: p) = none) (hp : p = []) : ∀ e ∈ ents t, e.1 ≠ n := by
 intro e he hn
 subst hp
 rw [tat_cons] at h
 cases hf : fnd n t.names with
 | none => exact fnd_none hf (hn ▸ (List.of_mem_zip he).1)
 | some k => rw [hf] at h; simp [tat] at h
theorem asc_ents {t : Tr} (hw : t.wf = true) (h : asc t.names = true) : asc ((ents t).map (·.1)) = true := by
 rw [show (ents t).map (·.1) = t.names from (zip_f t (wf_len hw)).1]; exact h
mutual
def tas : Tr -> Prop | .mk _ _ _ ns ks => asc ns = true /\ tass ks
def tass : List Tr -> Prop | [] => True | t :: ts => tas t /\ tass ts
end
theorem tas_eq (t : Tr) : tas t ↔ asc t.names = true /\ tass t.kids := by cases t; simp only [tas, Tr.names, Tr.kids]
theorem tass_mem : ∀ {ks : List Tr}, tass ks -> ∀ {x : Tr}, x ∈ ks -> tas x
 | [], _, x, hx => by simp at hx
 | t :: ts, h, x, hx => by
  rcases List.mem_cons.1 hx with rfl | hx
  ·exact h.1
  ·exact tass_mem h.2 hx
mutual
theorem tas_parts : ∀ (t : Tr) (n : Int), partsOk t n = true -> tas t
 | .mk d m s ns ks, n, h => by
  simp only [partsOk, Bool.and_eq_true] at h
  refine ⟨?_, tass_parts ks (n + 1) h.2.2⟩
  have h1 := h.1
  simp only [plainOk, Tr.names_mk, Tr.kids_mk, Tr.dir_mk, Tr.data_mk, Bool.and_eq_true, decide_eq_true_eq] at h1
  have h7 := h1.2.2
  cases d with
  | true => simp only [if_true, Bool.and_eq_true] at h7; exact h7.2.1
  | false =>
   simp only [Bool.false_eq_true, if_false, Bool.and_eq_true] at h7
   have h8 : ns = [] := List.eq_nil_of_length_eq_zero (of_decide_eq_true h7.2)
   subst h8; rfl
theorem tass_parts : ∀ (ks : List Tr) (n : Int), partsOks ks n = true -> tass ks
 | [], _, _ => trivial
 | k :: ks, n, h => by
  simp only [partsOks, Bool.and_eq_true] at h
  exact ⟨tas_parts k n h.1, tass_parts ks n h.2⟩
end
theorem ent_fnd {t : Tr} {n : Str} (hw : t.wf = true) (hn : t.names.Nodup) {e : Str × Tr} (he : e ∈ ents t) (h : e.1 = n) (p : List Str) : tat t (n :: p) = tat e.2 p := by
 obtain ⟨i, hi, rfl⟩ := List.mem_iff_getElem.1 he
 have hwl := wf_len hw
 simp only [ents, List.length_zip] at hi
 simp only [ents, List.getElem_zip] at h ⊢
 rw [tat_cons]
 cases hf : fnd n t.names with
 | none => exact absurd (h ▸ List.getElem_mem _) (fnd_none hf)
 | some k =>
  have hk := fnd_lt hf
  have hg := fnd_some hf
  have : k = i := by
   rcases Nat.decEq k i with hne | heq
   ·refine absurd ?_ (nd_ne hn hk (show i < t.names.length by omega) hne)
    rw [hg, <- h]
    simp [List.getD, show i < t.names.length by omega]
   ·exact heq
  subst this
  dsimp only
  congr 1
  simp [List.getD, show k < t.kids.length by omega]
theorem swap_ok {x : Tr} : ∀ (p q : List Str) (t : Tr), t.wf = true -> tas t -> tnd t -> p ≠ [] -> q ≠ [] -> (tat t p).isSome = true -> tat t q = none -> p.isPrefixOf q = false -> tset q (tset p t .none true) x false = tset p (tset q t x false) .none true
 | [], _, _, _, _, _, h, _, _, _, _ => absurd rfl h
 | _, [], _, _, _, _, _, h, _, _, _ => absurd rfl h
 | [n], [m], t, hw, ha, hn, _, _, hp, hq, hx => by
  have hne : m ≠ n := by rintro rfl; simp [List.isPrefixOf] at hx
  have h1 := tat_mem hq rfl
  rw [tsE_gone, tsE_new t x m h1, tsE_new _ x m (by rw [ents_mkE]; exact fun e he => h1 e (List.mem_filter.1 he).1), tsE_gone, ents_mkE, ents_mkE, mkE_mkE, mkE_mkE, ins_flt hne _ (asc_ents hw ((tas_eq t).1 ha).1)]
 | [n], m :: m2 :: q, t, hw, ha, hn, _, _, hp, hq, hx => by
  have hne : n ≠ m := by rintro rfl; simp [List.isPrefixOf] at hx
  rw [tsE_gone, tsE_deep _ _ m _ _ (by simp), tsE_deep _ _ m _ _ (by simp), tsE_gone, ents_mkE, ents_mkE, mkE_mkE, mkE_mkE]
  congr 1
  rw [List.filter_map]
  rfl
 | n :: n2 :: p, [m], t, hw, ha, hn, _, _, hp, hq, hx => by
  have h1 := tat_mem hq rfl
  have hne : m ≠ n := by
   rintro rfl
   rw [tat_cons] at hp
   cases hf : fnd m t.names with
   | none => rw [hf] at hp; simp at hp
   | some k => rw [tat_cons, hf] at hq; simp [tat] at hq
  rw [tsE_deep _ _ n _ _ (by simp), tsE_new t x m h1, tsE_new _ x m (by
   rw [ents_mkE]
   intro e he
   obtain ⟨e', he', rfl⟩ := List.mem_map.1 he
   exact h1 e' he'), tsE_deep _ _ n _ _ (by simp), ents_mkE, ents_mkE, mkE_mkE, mkE_mkE]
  rw [ins_map (fun k => tset (n2 :: p) k .none true) hne]
 | n :: n2 :: p, m :: m2 :: q, t, hw, ha, hn, _, _, hp, hq, hx => by
  rw [tsE_deep _ _ n _ _ (by simp), tsE_deep _ _ m _ _ (by simp), tsE_deep _ _ m _ _ (by simp), tsE_deep _ _ n _ _ (by simp), ents_mkE, ents_mkE, mkE_mkE, mkE_mkE]
  congr 1
  rw [List.map_map, List.map_map]
  refine List.map_congr_left fun e he => ?_
  simp only [Function.comp]
  congr 1
  cases h1 : e.1 == n <;> cases h2 : e.1 == m <;> simp only [cond_true, cond_false]
  have e1 := eq_of_beq h1
  have e2 := eq_of_beq h2
  have hnm : n = m := by rw [<- e1, <- e2]
  subst hnm
  have hk : e.2 ∈ t.kids := (List.of_mem_zip he).2
  have hwk : e.2.wf = true := by
   have := hw
   rw [wf_eq] at this
   simp only [Bool.and_eq_true, List.all_eq_true] at this
   exact this.2 _ hk
  have hnk : tnd e.2 := by
   obtain ⟨i, hi, h⟩ := List.mem_iff_getElem.1 hk
   have := tnds_get ((tnd_eq t).1 hn).2 hi
   rw [<- h]
   simpa [List.getD, hi] using this
  have hs := swap_ok (x := x) (n2 :: p) (m2 :: q) e.2 hwk (tass_mem ((tas_eq t).1 ha).2 hk) hnk (by simp) (by simp) (by rw [<- ent_fnd hw ((tnd_eq t).1 hn).1 he e1]; exact hp) (by rw [<- ent_fnd hw ((tnd_eq t).1 hn).1 he e1]; exact hq) (by simpa [List.isPrefixOf] using hx)
  exact hs
theorem asc_pw {l : List Str} (h : asc l = true) : l.Pairwise fun a b => blt a b = true := by
 refine List.pairwise_iff_getElem.2 fun i j hi hj hij => ?_
 have := asc_lt h hij hj
 simpa [List.getD, hi, hj] using this
theorem asc_of_pw : ∀ {l : List Str}, (l.Pairwise fun a b => blt a b = true) -> asc l = true
 | [], _ => rfl
 | [a], _ => rfl
 | a :: b :: r, h => by
  rw [asc, Bool.and_eq_true]
  have h1 := List.pairwise_cons.1 h
  exact ⟨h1.1 b (by simp), asc_of_pw h1.2⟩
theorem parts_mkE {t : Tr} {n : Int} {l : List (Str × Tr)} (h : partsOk t n = true) (hn : (l.map (·.1)).Sublist t.names) (hk : ∀ e ∈ l, partsOk e.2 (n + 1) = true) : partsOk (mkE t l) n = true := by
 rw [partsOk_eq] at h ⊢
 simp only [Bool.and_eq_true] at h ⊢
 refine ⟨?_, h.2.1, ?_⟩
 ·have h1 := h.1
  simp only [plainOk, Bool.and_eq_true, decide_eq_true_eq] at h1 ⊢
  refine ⟨h1.1, mkE_len t l, ?_⟩
  have h7 := h1.2.2
  show (if t.dir then (l.map (·.1)).all nmOk && (asc (l.map (·.1)) && t.data == []) else decide (t.data.length <= 24) && decide ((l.map (·.1)).length = 0)) = true
  cases hd : t.dir with
  | true =>
   rw [hd] at h7
   simp only [if_true, Bool.and_eq_true] at h7 ⊢
   exact ⟨List.all_eq_true.2 fun x hx => List.all_eq_true.1 h7.1 x (hn.subset hx), asc_of_pw ((asc_pw h7.2.1).sublist hn), h7.2.2⟩
  | false =>
   rw [hd] at h7
   simp only [Bool.false_eq_true, if_false, Bool.and_eq_true] at h7 ⊢
   have h8 := of_decide_eq_true h7.2
   have := hn.length_le
   exact ⟨h7.1, decide_eq_true (by omega)⟩
 ·refine List.all_eq_true.2 fun x hx => ?_
  obtain ⟨e, he, rfl⟩ := List.mem_map.1 hx
  exact hk e he
theorem ents_f {t : Tr} (hl : t.names.length = t.kids.length) : (ents t).map (·.1) = t.names /\ (ents t).map (·.2) = t.kids := zip_f t hl
theorem parts_len {t : Tr} {n : Int} (h : partsOk t n = true) : t.names.length = t.kids.length := by
 rw [partsOk_eq] at h
 simp only [Bool.and_eq_true] at h
 have h1 := h.1
 simp only [plainOk, Bool.and_eq_true, decide_eq_true_eq] at h1
 exact h1.2.1
theorem parts_kid {t : Tr} {n : Int} (h : partsOk t n = true) {x : Tr} (hx : x ∈ t.kids) : partsOk x (n + 1) = true := by
 rw [partsOk_eq] at h
 simp only [Bool.and_eq_true] at h
 exact List.all_eq_true.1 h.2.2 x hx
theorem cnts_map {α : Type} (g f : α -> Tr) : ∀ (l : List α), (∀ e ∈ l, cnt (g e) <= cnt (f e)) -> cnts (l.map g) <= cnts (l.map f)
 | [], _ => by simp
 | e :: l, h => by
  have := cnts_map g f l fun e he => h e (by simp [he])
  have := h e (by simp)
  simp only [List.map_cons, cnts]; omega
theorem cnts_flt (q : Str × Tr -> Bool) : ∀ (l : List (Str × Tr)), cnts ((l.filter q).map (·.2)) <= cnts (l.map (·.2))
 | [] => by simp
 | e :: l => by
  have := cnts_flt q l
  rw [List.filter_cons]
  split <;> simp only [List.map_cons, cnts] <;> omega
theorem gone_parts : ∀ (p : List Str) (t : Tr) (n : Int), partsOk t n = true -> p ≠ [] -> partsOk (tset p t .none true) n = true /\ cnt (tset p t .none true) <= cnt t /\ (tset p t .none true).dir = t.dir
 | [], _, _, _, h => absurd rfl h
 | [nm], t, n, h, _ => by
  obtain ⟨z1, z2⟩ := ents_f (parts_len h)
  rw [tsE_gone]
  refine ⟨parts_mkE h ?_ fun e he => parts_kid h (List.of_mem_zip (List.mem_filter.1 he).1).2, ?_, rfl⟩
  ·conv => rhs; rw [<- z1]
   exact List.filter_sublist.map _
  ·rw [cnt_eq, cnt_eq]
   conv => rhs; rw [<- z2]
   exact cnts_flt _ _
 | m :: m2 :: p, t, n, h, _ => by
  obtain ⟨z1, z2⟩ := ents_f (parts_len h)
  rw [tsE_deep _ _ _ _ _ (by simp)]
  refine ⟨parts_mkE h ?_ fun e he => ?_, ?_, rfl⟩
  ·rw [List.map_map]
   exact (z1 ▸ List.Sublist.refl _ : ((ents t).map (·.1)).Sublist t.names)
  ·obtain ⟨e', he', rfl⟩ := List.mem_map.1 he
   have hk := parts_kid h (List.of_mem_zip he').2
   dsimp only
   cases e'.1 == m
   ·exact hk
   ·exact (gone_parts (m2 :: p) e'.2 (n + 1) hk (by simp)).1
  ·rw [cnt_eq, cnt_eq]
   conv => rhs; rw [<- z2]
   show cnts (((ents t).map _).map _) <= _
   rw [List.map_map]
   refine cnts_map _ _ _ fun e' he' => ?_
   have hk := parts_kid h (List.of_mem_zip he').2
   simp only [Function.comp]
   cases e'.1 == m
   ·exact Nat.le_refl _
   ·exact (gone_parts (m2 :: p) e'.2 (n + 1) hk (by simp)).2.1
theorem gone_ok {t : Tr} {p : List Str} (h : treeOk t = true) (hp : p ≠ []) : treeOk (tset p t .none true) = true := by
 simp only [treeOk, Bool.and_eq_true, decide_eq_true_eq] at h ⊢
 obtain ⟨h1, h2, h3⟩ := gone_parts p t 0 h.2.1 hp
 exact ⟨by rw [h3]; exact h.1, h1, by omega⟩
theorem mode_parts {m : Int} (hm : inb m 0 7 = true) : ∀ (p : List Str) (t x : Tr) (n : Int), partsOk t n = true -> t.wf = true -> tnd t -> p ≠ [] -> tat t p = some x -> partsOk (tset p t (wMode x m) false) n = true /\ cnt (tset p t (wMode x m) false) <= cnt t /\ (tset p t (wMode x m) false).dir = t.dir
 | [], _, _, _, _, _, _, h, _ => absurd rfl h
 | [nm], t, x, n, h, hw, hn, _, hx => by
  have hl := parts_len h
  obtain ⟨z1, z2⟩ := ents_f hl
  rw [tat_cons] at hx
  cases hf : fnd nm t.names with
  | none => rw [hf] at hx; cases hx
  | some k =>
   rw [hf] at hx
   simp only [tat, Option.some.injEq] at hx
   have hk := fnd_lt hf
   have ha := (tas_eq t).1 (tas_parts t n h)
   rw [tset_hit hl ha.1 hk (fnd_some hf)]
   have hxk : x ∈ t.kids := by rw [<- hx]; exact getD_mem t.kids k Tr.none (by omega)
   have hpx := parts_kid h hxk
   have hpm : partsOk (wMode x m) (n + 1) = true := by
    rw [partsOk_eq] at hpx ⊢
    simp only [plainOk, wMode, Tr.mode_mk, Tr.names_mk, Tr.kids_mk, Tr.dir_mk, Tr.data_mk, Bool.and_eq_true] at hpx ⊢
    exact ⟨⟨hm, hpx.1.2⟩, hpx.2⟩
   have hc : cnt (wMode x m) = cnt x := by rw [cnt_eq, cnt_eq]; rfl
   have hs : t.kids.set k (wMode x m) = t.kids.take k ++ wMode x m :: t.kids.drop (k + 1) := set_split _ _ (by omega) _
   have hg : t.kids = t.kids.take k ++ x :: t.kids.drop (k + 1) := by
    have := get_split t.kids k (by omega) Tr.none
    rw [hx] at this; exact this
   refine ⟨?_, ?_, rfl⟩
   ·rw [partsOk_eq] at h ⊢
    simp only [Bool.and_eq_true, Tr.kids_mk] at h ⊢
    refine ⟨?_, h.2.1, List.all_eq_true.2 fun y hy => ?_⟩
    ·have h1 := h.1
     simp only [plainOk, Tr.mode_mk, Tr.names_mk, Tr.kids_mk, Tr.dir_mk, Tr.data_mk, List.length_set] at h1 ⊢
     exact h1
    ·rcases List.mem_or_eq_of_mem_set hy with hy | rfl
     ·exact List.all_eq_true.1 h.2.2 y hy
     ·exact hpm
   ·rw [cnt_eq, cnt_eq, Tr.kids_mk, hs]
    conv => rhs; rw [hg]
    have happ : ∀ (a b : List Tr), cnts (a ++ b) = cnts a + cnts b := by
     intro a b
     induction a with
     | nil => simp [cnts]
     | cons y a ih => simp only [List.cons_append, cnts, ih]; omega
    rw [happ, happ]
    simp only [cnts, hc]
    exact Nat.le_refl _
 | n' :: m2 :: p, t, x, n, h, hw, hn, _, hx => by
  obtain ⟨z1, z2⟩ := ents_f (parts_len h)
  rw [tsE_deep _ _ _ _ _ (by simp)]
  have key : ∀ e' ∈ ents t, (e'.1 == n') = true -> partsOk (tset (m2 :: p) e'.2 (wMode x m) false) (n + 1) = true /\ cnt (tset (m2 :: p) e'.2 (wMode x m) false) <= cnt e'.2 := by
   intro e' he' hb
   have hk := (List.of_mem_zip he').2
   have hwk : e'.2.wf = true := by
    have := hw
    rw [wf_eq] at this
    simp only [Bool.and_eq_true, List.all_eq_true] at this
    exact this.2 _ hk
   have hnk : tnd e'.2 := by
    obtain ⟨i, hi, h⟩ := List.mem_iff_getElem.1 hk
    have := tnds_get ((tnd_eq t).1 hn).2 hi
    rw [<- h]
    simpa [List.getD, hi] using this
   have := mode_parts hm (m2 :: p) e'.2 x (n + 1) (parts_kid h hk) hwk hnk (by simp) (by rw [<- ent_fnd hw ((tnd_eq t).1 hn).1 he' (eq_of_beq hb)]; exact hx)
   exact ⟨this.1, this.2.1⟩
  refine ⟨parts_mkE h ?_ fun e he => ?_, ?_, rfl⟩
  ·rw [List.map_map]
   exact (z1 ▸ List.Sublist.refl _ : ((ents t).map (·.1)).Sublist t.names)
  ·obtain ⟨e', he', rfl⟩ := List.mem_map.1 he
   dsimp only
   cases hb : e'.1 == n'
   ·exact parts_kid h (List.of_mem_zip he').2
   ·exact (key e' he' hb).1
  ·rw [cnt_eq, cnt_eq]
   conv => rhs; rw [<- z2]
   show cnts (((ents t).map _).map _) <= _
   rw [List.map_map]
   refine cnts_map _ _ _ fun e' he' => ?_
   simp only [Function.comp]
   cases hb : e'.1 == n'
   ·exact Nat.le_refl _
   ·exact (key e' he' hb).2
theorem mode_ok {t x : Tr} {p : List Str} {m : Int} (h : treeOk t = true) (hm : inb m 0 7 = true) (hp : p ≠ []) (hx : tat t p = some x) : treeOk (tset p t (wMode x m) false) = true := by
 have hw := wf_ok h
 have hn := tnd_ok h
 simp only [treeOk, Bool.and_eq_true, decide_eq_true_eq] at h ⊢
 obtain ⟨h1, h2, h3⟩ := mode_parts hm p t x 0 h.2.1 hw hn hp hx
 exact ⟨by rw [h3]; exact h.1, h1, by omega⟩
theorem file_names {t x : Tr} {p : List Str} (h : treeOk t = true) (hx : tat t p = some x) (hd : x.dir = false) : x.names.length = 0 := by
 simp only [treeOk, Bool.and_eq_true] at h
 obtain ⟨m, hm⟩ := parts_tat h.2.1 hx
 rw [partsOk_eq] at hm
 simp only [Bool.and_eq_true] at hm
 have h1 := hm.1
 simp only [plainOk, Bool.and_eq_true, decide_eq_true_eq] at h1
 have h7 := h1.2.2
 rw [hd] at h7
 simp only [Bool.false_eq_true, if_false, Bool.and_eq_true] at h7
 exact of_decide_eq_true h7.2
theorem aDo_err {t : Tr} {c : Cl} {k : Int} (hc : callOk c = true) (h : iDo t c = (t, k)) (hk : k ≠ 0) : aDo t c = (t, k) := by
 unfold aDo
 rw [hc, h]
 simp only [Bool.not_true, cond_false, decide_eq_false hk, Bool.not_false, cond_true]
theorem aDo_ok {t y : Tr} {c : Cl} (hc : callOk c = true) (h : iDo t c = (y, 0)) : aDo t c = fits y t := by
 unfold aDo fits
 rw [hc, h]
 simp only [Bool.not_true, cond_false, decide_true]
 cases treeOk y <;> rfl
theorem aDo_sDo {t : Tr} {c : Cl} (ht : treeOk t = true) (hc : callOk c = true) : aDo t c = sDo t c := by
 obtain ⟨f1, f2, f3, f4⟩ := callOk_facts hc
 have hp : c.path ≠ [] := fun h => by rw [h] at f1; simp at f1
 have hk16 : c.kind = 1 \/ c.kind = 2 \/ c.kind = 3 \/ c.kind = 4 \/ c.kind = 5 \/ c.kind = 6 := by
  unfold callOk at hc
  split at hc
  ·rename_i h; omega
  split at hc
  ·rename_i h; omega
  split at hc
  ·rename_i h; omega
  split at hc
  ·rename_i h; omega
  ·cases hc
 have hm6 : c.kind = 6 -> inb c.at_ 0 7 = true := fun h => by
  unfold callOk at hc
  rw [if_pos (by omega)] at hc
  simp only [Bool.and_eq_true] at hc
  exact hc.2
 by_cases hP : parC t c.path = 0
 case neg =>
  have e : iDo t c = (t, parC t c.path) := by
   unfold iDo
   rw [decide_eq_false hP]; rfl
  rw [aDo_err hc e hP]
  unfold sDo
  rw [decide_eq_false hP]; rfl
 have hPd : decide (parC t c.path = (0 : Int)) = true := decide_eq_true hP
 rcases hk16 with hk | hk | hk | hk | hk | hk
 ·-- a new directory
  have es : sDo t c = bif (tat t c.path).isSome then (t, 5) else fits (tset c.path t (newDir c.at_) false) t := by
   unfold sDo; rw [hPd, hk]; rfl
  have ei : iDo t c = match tat t c.path with | some _ => (t, 5) | none => (tset c.path t (newDir c.at_) false, 0) := by
   unfold iDo; rw [hPd, hk]; rfl
  rw [es]
  cases hx : tat t c.path with
  | some x => rw [hx] at ei; rw [aDo_err hc ei (by decide)]; rfl
  | none => rw [hx] at ei; rw [aDo_ok hc ei]; rfl
 ·-- a write
  obtain ⟨f8, f9⟩ := f3 (.inl hk)
  have es : sDo t c = sFile t c := by unfold sDo; rw [hPd, hk]; rfl
  have hd : decide ((24 : Int) < ((c.data.length : Nat) : Int) + c.at_) = decide ((24 : Int) < c.at_ + ((c.data.length : Nat) : Int)) := decide_eq_decide.2 (by omega)
  have ei : iDo t c = match tat t c.path with
   | some x => bif x.dir then (t, 4) else bif decide ((24 : Int) < c.at_ + ((c.data.length : Nat) : Int)) then (t, 6) else (tset c.path t (wData x (wrt x.data c.at_ c.data)) false, 0)
   | none => bif decide ((24 : Int) < c.at_ + ((c.data.length : Nat) : Int)) then (t, 6) else (tset c.path t (wData .none (wrt [] c.at_ c.data)) false, 0) := by
   unfold iDo; rw [hPd, hk]; rfl
  rw [es]
  unfold sFile
  rw [hd, show decide (c.kind = (3 : Int)) = false by rw [hk]; rfl]
  cases hx : tat t c.path with
  | some x =>
   rw [hx] at ei
   have hxa : xat t c.path = x := by unfold xat; rw [hx]; rfl
   dsimp only at ei
   rw [hxa]
   simp only [Option.isSome_some, Bool.true_and, Bool.not_true, Bool.false_and, cond_false]
   cases hdx : x.dir with
   | true => rw [hdx] at ei; rw [aDo_err hc ei (by decide)]; rfl
   | false =>
    rw [hdx] at ei
    simp only [cond_false] at ei ⊢
    cases h24 : decide ((24 : Int) < c.at_ + ((c.data.length : Nat) : Int)) with
    | true => rw [h24] at ei; rw [aDo_err hc ei (by decide)]; rfl
    | false => rw [h24] at ei; rw [aDo_ok hc ei, wrt_l2w f8]; rfl
  | none =>
   rw [hx] at ei
   have hxa : xat t c.path = .none := by unfold xat; rw [hx]; rfl
   dsimp only at ei
   rw [hxa]
   simp only [Option.isSome_none, Bool.false_and, Bool.not_false, Bool.and_false, cond_false]
   cases h24 : decide ((24 : Int) < c.at_ + ((c.data.length : Nat) : Int)) with
   | true => rw [h24] at ei; rw [aDo_err hc ei (by decide)]; rfl
   | false => rw [h24] at ei; rw [aDo_ok hc ei, wrt_l2w f8]; rfl
 ·-- a new length
  obtain ⟨f8, f9⟩ := f3 (.inr hk)
  have es : sDo t c = sFile t c := by unfold sDo; rw [hPd, hk]; rfl
  have ei : iDo t c = match tat t c.path with
   | none => (t, 3)
   | some x => bif x.dir then (t, 4) else (tset c.path t (wData x (szd x.data c.at_)) false, 0) := by
   unfold iDo; rw [hPd, hk]; rfl
  rw [es]
  unfold sFile
  rw [show decide (c.kind = (3 : Int)) = true by rw [hk]; rfl]
  cases hx : tat t c.path with
  | some x =>
   rw [hx] at ei
   have hxa : xat t c.path = x := by unfold xat; rw [hx]; rfl
   dsimp only at ei
   rw [hxa]
   simp only [Option.isSome_some, Bool.true_and, Bool.not_true, Bool.false_and, cond_false, cond_true]
   cases hdx : x.dir with
   | true => rw [hdx] at ei; rw [aDo_err hc ei (by decide)]; rfl
   | false => rw [hdx] at ei; rw [aDo_ok hc ei, szd_l2w f8]; rfl
  | none =>
   rw [hx] at ei
   rw [aDo_err hc ei (by decide)]; rfl
 ·-- a removal
  have es : sDo t c = bif !(tat t c.path).isSome then (t, 3) else bif decide ((0 : Int) < (((xat t c.path).names.length : Nat) : Int)) then (t, 5) else (tset c.path t .none true, 0) := by
   unfold sDo; rw [hPd, hk]; rfl
  have ei : iDo t c = match tat t c.path with
   | none => (t, 3)
   | some x => bif x.dir && decide ((0 : Int) < ((x.names.length : Nat) : Int)) then (t, 5) else (tset c.path t .none true, 0) := by
   unfold iDo; rw [hPd, hk]; rfl
  rw [es]
  cases hx : tat t c.path with
  | some x =>
   rw [hx] at ei
   have hxa : xat t c.path = x := by unfold xat; rw [hx]; rfl
   dsimp only at ei
   rw [hxa]
   simp only [Option.isSome_some, Bool.not_true, cond_false]
   have hb : (x.dir && decide ((0 : Int) < ((x.names.length : Nat) : Int))) = decide ((0 : Int) < ((x.names.length : Nat) : Int)) := by
    cases hdx : x.dir with
    | true => rfl
    | false => have := file_names ht hx hdx; rw [this]; rfl
   rw [hb] at ei
   cases h0 : decide ((0 : Int) < ((x.names.length : Nat) : Int)) with
   | true => rw [h0] at ei; rw [aDo_err hc ei (by decide)]; rfl
   | false =>
    rw [h0] at ei
    rw [aDo_ok hc ei]
    unfold fits
    rw [gone_ok ht hp]; rfl
  | none => rw [hx] at ei; rw [aDo_err hc ei (by decide)]; rfl
 ·-- a rename
  obtain ⟨f5, f6⟩ := f4 hk
  have hto : c.to ≠ [] := fun h => by rw [h] at f5; simp at f5
  have es : sDo t c = sRename t c := by unfold sDo; rw [hPd, hk]; rfl
  have ei : iDo t c = iRename t c := by unfold iDo; rw [hPd, hk]; rfl
  rw [es]
  unfold sRename
  unfold iRename at ei
  cases hx : tat t c.path with
  | none => rw [hx] at ei; rw [aDo_err hc ei (by decide)]; rfl
  | some x =>
   rw [hx] at ei
   have hxa : xat t c.path = x := by unfold xat; rw [hx]; rfl
   dsimp only at ei
   rw [hxa]
   simp only [Option.isSome_some, Bool.not_true, cond_false]
   cases hpre : c.path.isPrefixOf c.to with
   | true => rw [hpre] at ei; rw [aDo_err hc ei (by decide)]; rfl
   | false =>
    rw [hpre] at ei
    simp only [cond_false] at ei ⊢
    by_cases hQ : parC t c.to = 0
    case neg => rw [decide_eq_false hQ] at ei ⊢; rw [aDo_err hc ei hQ]; rfl
    rw [decide_eq_true hQ] at ei ⊢
    cases hy : tat t c.to with
    | some y => rw [hy] at ei; rw [aDo_err hc ei (by decide)]; rfl
    | none =>
     rw [hy] at ei
     rw [aDo_ok hc ei, swap_ok c.path c.to t (wf_ok ht) (by
      simp only [treeOk, Bool.and_eq_true] at ht; exact tas_parts t 0 ht.2.1) (tnd_ok ht) hp hto (by rw [hx]; rfl) hy hpre]
     rfl
 ·-- a new mode
  have es : sDo t c = bif !(tat t c.path).isSome then (t, 3) else (tset c.path t (wMode (xat t c.path) c.at_) false, 0) := by
   unfold sDo; rw [hPd, hk]; rfl
  have ei : iDo t c = match tat t c.path with
   | none => (t, 3)
   | some x => (tset c.path t (wMode x c.at_) false, 0) := by
   unfold iDo; rw [hPd, hk]; rfl
  rw [es]
  cases hx : tat t c.path with
  | some x =>
   rw [hx] at ei
   have hxa : xat t c.path = x := by unfold xat; rw [hx]; rfl
   dsimp only at ei
   rw [hxa, aDo_ok hc ei]
   unfold fits
   rw [mode_ok ht (hm6 hk) hp hx]; rfl
  | none => rw [hx] at ei; rw [aDo_err hc ei (by decide)]; rfl
theorem iTreeDo_eq (t : Tr) (c : Cl) : iTreeDo t c = sTreeDo t c := by
 unfold iTreeDo sTreeDo
 cases ht : treeOk t with
 | false => rfl
 | true =>
  cases hc : callOk c with
  | false => simp only [Bool.not_true, Bool.not_false, cond_false, cond_true, aDo, hc]
  | true => simp only [Bool.not_true, cond_false]; exact aDo_sDo ht hc
theorem lend_ref {G : Prg} {f : Nat} {args : List AV} {H : Hp} {n : Nat} {R : AV -> Hp -> Prop} (h : TCall G f args [] n fun r Z' n' => n' = n /\ R r Z') :
  TCall G f args H n fun r H' n' => n' = n /\ ∃ Z', H' = H ++ Z' /\ R r Z' := by
 intro X ρ w vs hf hr hvs
 have hr0 : HR (OX X ρ H) ρ w [] := ⟨by simp [ids], by simp [ids], by simp [ids], fun b hb => hr.ox_old hb, by simp⟩
 refine (h (OX X ρ H) ρ w vs hf hr0 (by rw [OX_nil]; exact hvs)).mono ?_
 rintro e w' ⟨v, r, ρ', Z', n', rfl, q1, q2, q3, q4, rfl, q7⟩
 have hnew : ∀ b, Own ρ' Z' b -> w.heap.size <= b := fun b hb => (q4.own b hb).resolve_left fun ⟨i, hi, _⟩ => by simp [ids] at hi
 obtain ⟨g1, g2⟩ := frame_out (n := n') (fun _ => False) hr (List.Sublist.refl H) (fun _ h => h.elim) q4.rho q2
  (fun i hi hi' => by
   obtain ⟨b, hb, hlt⟩ := hr.has hi
   have := hnew b ⟨i, hi', q4.rho i b hb⟩
   omega)
  (q4.ext.mono fun b _ hb => by obtain ⟨i, hi, _⟩ := hb; simp [ids] at hi) (fun b hb => .inr (hnew b hb))
 refine ⟨v, r, ρ', H ++ Z', n', rfl, q1, g1, VR_carry (Carry.less fun b hb => ?_) _ _ q3, g2, rfl, Z', rfl, q7⟩
 rcases hb with hb | ⟨i, hi, hb⟩
 ·exact .inl (.inl hb)
 ·simp only [ids, List.map_append, List.mem_append] at hi
  rcases hi with hi | hi
  ·obtain ⟨b', hb', _⟩ := hr.has hi
   have := q4.rho i b' hb'
   rw [hb] at this; cases this
   exact .inl (.inr ⟨i, hi, hb'⟩)
  ·exact .inr ⟨i, hi, hb⟩
theorem tc_evn {G : Prg} {f : Nat} {args : List AV} {H : Hp} {n : Nat} {Q : CPost}
  (h : TCall G f args H n fun r H' n' => (ids H').Nodup -> n' % 4 = 0 -> Q r H' n' \/ ∃ j cs K, j % 2 = 1 /\ H'.Perm ((j, cs) :: K) /\ slp r /\ Q (r1 j n' r) ((n', cs) :: K) (n' + 4)) : TCall G f args H n Q := by
 intro X ρ w vs hf hr hvs
 refine (h X ρ w vs hf hr hvs).mono ?_
 rintro e w' ⟨v, r, ρ', H', n', rfl, q1, q2, q3, q4, hdis⟩
 rcases hdis q2.nodup q1.1 with hq | ⟨j, cs, K, hj2, hp, hs, hq⟩
 ·exact ⟨v, r, ρ', H', n', rfl, q1, q2, q3, q4, hq⟩
 have hn4 : n' % 4 = 0 := q1.1
 have hρn : ρ' n' = none := q1.2.1 n' (Nat.le_refl _) (by omega)
 let ρ2 : Rho := fun i => if i = n' then ρ' j else ρ' i
 have hold : ∀ i b, ρ' i = some b -> ρ2 i = some b := fun i b hb => by
  show (if i = n' then ρ' j else ρ' i) = some b
  rw [if_neg (by rintro rfl; rw [hρn] at hb; cases hb)]; exact hb
 have hρ : ∀ i b, ρ' i = some b -> ρ2 (bif Nat.beq i j then n' else i) = some b := by
  intro i b hb
  by_cases hi : i = j
  ·subst hi
   rw [Nat.beq_refl]
   show (if n' = n' then ρ' i else ρ' n') = some b
   rw [if_pos rfl]; exact hb
  ·rw [show Nat.beq i j = false from nbq hi]
   exact hold i b hb
 obtain ⟨m, hm⟩ := q1.2.2
 have hr2 := q2
 have hjH : j ∈ ids H' := (ids_perm hp.symm j).1 (by simp [ids])
 have hKH : ∀ i, i ∈ ids K -> i ∈ ids H' := fun i hi => (ids_perm hp.symm i).1 (by simp only [ids, List.map_cons, List.mem_cons]; exact .inr hi)
 have hKn : ∀ i, i ∈ ids K -> i ≠ n' := fun i hi e => by
  obtain ⟨b, hb, _⟩ := q2.has (hKH i hi)
  rw [e, hρn] at hb; cases hb
 have hnd : j ∉ ids K /\ (ids K).Nodup := by
  have := (List.Perm.nodup_iff (hp.map (fun p : Nat × List AV => p.1))).1 q2.nodup
  exact List.nodup_cons.1 this
 have hK2 : ∀ i, i ∈ ids K -> ρ2 i = ρ' i := fun i hi => if_neg (hKn i hi)
 have hn2 : ρ2 n' = ρ' j := if_pos rfl
 have hown : ∀ b, Own ρ2 ((n', cs) :: K) b ↔ Own ρ' H' b := by
  intro b
  constructor
  ·rintro ⟨i, hi, hb⟩
   simp only [ids, List.map_cons, List.mem_cons] at hi
   rcases hi with rfl | hi
   ·rw [hn2] at hb; exact ⟨j, hjH, hb⟩
   ·rw [hK2 i hi] at hb; exact ⟨i, hKH i hi, hb⟩
  ·rintro ⟨i, hi, hb⟩
   have := (ids_perm hp i).1 hi
   simp only [ids, List.map_cons, List.mem_cons] at this
   rcases this with rfl | hi
   ·exact ⟨n', by simp [ids], by rw [hn2]; exact hb⟩
   ·exact ⟨i, by simp only [ids, List.map_cons, List.mem_cons]; exact .inr hi, hold i b hb⟩
 have hO : OX X ρ2 ((n', cs) :: K) = OX X ρ' H' := by funext b; simp only [OX, hown]
 have hcar : ∀ (az : List AV) (vs : List Value), VRs ρ' w' (OX X ρ' H') az vs -> VRs ρ2 w' (OX X ρ' H') az vs := fun az vs hv => VRs_carry ⟨hold, Nat.le_refl _, fun _ _ _ => rfl, fun b cs e f h => ⟨cs, h, rfl⟩, fun b _ ho => ho⟩ _ _ hv
 refine ⟨v, r1 j n' r, ρ2, (n', cs) :: K, n' + 4, rfl, ⟨by omega, fun i hi h0 => ?_, max m (n' + 1), fun i hi => ?_⟩, ⟨?_, ?_, ?_, q2.xold, ?_⟩, ?_, ⟨fun i b hb => hold i b (q4.rho i b hb), Nat.le_trans q4.le (by omega), q4.ext, fun b hb => q4.own b ((hown b).1 hb)⟩, hq⟩
 ·show (if i = n' then ρ' j else ρ' i) = none
  rw [if_neg (by omega)]; exact q1.2.1 i (by omega) h0
 ·show (if i = n' then ρ' j else ρ' i) = none
  rw [if_neg (by omega)]; exact hm i (by omega)
 ·exact List.nodup_cons.2 ⟨fun hi => hKn _ hi rfl, hnd.2⟩
 ·intro i k b hi hk h1 h2
  simp only [ids, List.map_cons, List.mem_cons] at hi hk
  rcases hi with rfl | hi <;> rcases hk with rfl | hk
  ·rfl
  ·rw [hn2] at h1; rw [hK2 k hk] at h2
   have := q2.inj j k b hjH (hKH k hk) h1 h2
   subst this; exact absurd hk hnd.1
  ·rw [hn2] at h2; rw [hK2 i hi] at h1
   have := q2.inj i j b (hKH i hi) hjH h1 h2
   subst this; exact absurd hi hnd.1
  ·rw [hK2 i hi] at h1; rw [hK2 k hk] at h2
   exact q2.inj i k b (hKH i hi) (hKH k hk) h1 h2
 ·intro i b hi h1
  simp only [ids, List.map_cons, List.mem_cons] at hi
  rcases hi with rfl | hi
  ·rw [hn2] at h1; exact q2.notX j b hjH h1
  ·rw [hK2 i hi] at h1; exact q2.notX i b (hKH i hi) h1
 ·intro i ds hm'
  rw [hO]
  rcases List.mem_cons.1 hm' with e | hm'
  ·cases e
   obtain ⟨b, c', e, f, k1, k2, k3, k4, k5, k6⟩ := q2.obj j cs (hp.symm.mem_iff.1 (by simp))
   exact ⟨b, c', e, f, hn2.trans k1, k2, ⟨k3.1, .inl (k3.2.resolve_right (by omega))⟩, k4, k5, hcar _ _ k6⟩
  ·obtain ⟨b, c', e, f, k1, k2, k3, k4, k5, k6⟩ := q2.obj i ds (hp.symm.mem_iff.1 (by simp [hm']))
   exact ⟨b, c', e, f, hold i b k1, k2, k3, k4, k5, hcar _ _ k6⟩
 ·rw [hO]
  exact r1_vr hρ _ _ hs q3
def cpA (t : Tr) (nm kd : AV) : AV := .agg [.bool t.dir, .int .i64 t.mode, .str t.data, nm, kd]
def CpR (t : Tr) (r : AV) (Z : Hp) : Prop := ∃ a : Nat,
 (t.kids = [] /\ r = cpA t (.osl (2 * a + 1) 1 0 t.names.length) .nils /\ Z = [(2 * a + 1, fl sc t.names)]) \/
 (0 < t.kids.length /\ ∃ b : Nat, r = cpA t (.osl (2 * a + 1) 1 0 t.names.length) (.osl (2 * b + 1) 5 0 t.kids.length) /\ Z = [(2 * a + 1, fl sc t.names), (2 * b + 1, fl trc t.kids)])
theorem cp_use {G : Prg} {f : Nat} {t : Tr} {H : Hp} {n : Nat} {Q : CPost} (h : DC G f [.agg (tcs t)] [] (CpR t))
  (q1 : t.kids = [] -> Q (cpA t (.osl n 1 0 t.names.length) .nils) ((n, fl sc t.names) :: H) (n + 4))
  (q2 : 0 < t.kids.length -> Q (cpA t (.osl n 1 0 t.names.length) (.osl (n + 4) 5 0 t.kids.length)) ((n + 4, fl trc t.kids) :: (n, fl sc t.names) :: H) (n + 4 + 4)) : TCall G f [.agg (tcs t)] H n Q := by
 have h0 : TCall G f [.agg (tcs t)] H n fun r H' n' => n' = n /\ ∃ Z', H' = H ++ Z' /\ CpR t r Z' := by
  refine lend_ref ((h [] n trivial).mono ?_)
  rintro r H' n' _ ⟨rfl, Z', rfl, hc⟩
  exact ⟨rfl, hc⟩
 refine tc_evn (tc_evn (h0.mono ?_))
 rintro r H' n' _ ⟨rfl, Z', rfl, a, hc⟩ hnd hn4
 rcases hc with ⟨hk, rfl, rfl⟩ | ⟨hk, b, rfl, rfl⟩
 ·refine .inr ⟨2 * a + 1, _, H, by omega, List.perm_append_comm, by simp [cpA, slp, slps], fun _ _ => .inl ?_⟩
  have e : r1 (2 * a + 1) n' (cpA t (.osl (2 * a + 1) 1 0 t.names.length) .nils) = cpA t (.osl n' 1 0 t.names.length) .nils := by
   simp only [cpA, r1, r1s, Nat.beq_refl, cond_true]
  rw [e]
  exact q1 hk
 ·have hab : (2 * b + 1) ≠ 2 * a + 1 := by
   intro e
   simp only [ids, List.map_append, List.map_cons, List.map_nil] at hnd
   have := (List.nodup_append.1 hnd).2.1
   rw [e] at this
   simp at this
  refine .inr ⟨2 * a + 1, _, (2 * b + 1, fl trc t.kids) :: H, by omega, ?_, by simp [cpA, slp, slps], fun _ _ => .inr ⟨2 * b + 1, _, (n', fl sc t.names) :: H, by omega, List.Perm.swap _ _ _, ?_, ?_⟩⟩
  ·exact (List.perm_append_comm (l₁ := H)).trans (by simp)
  ·simp [cpA, r1, r1s, slp, slps]
  ·have e : r1 (2 * b + 1) (n' + 4) (r1 (2 * a + 1) n' (cpA t (.osl (2 * a + 1) 1 0 t.names.length) (.osl (2 * b + 1) 5 0 t.kids.length))) = cpA t (.osl n' 1 0 t.names.length) (.osl (n' + 4) 5 0 t.kids.length) := by
    simp only [cpA, r1, r1s, Nat.beq_refl, cond_true]
    rw [nbq hab]
    simp only [cond_false, Nat.beq_refl, cond_true]
    rw [nbq (show n' ≠ 2 * b + 1 by omega)]
    rfl
   rw [e]
   exact q2 hk
mutual
theorem od_pur : ∀ a : AV, pur a = true -> od a
 | .osl .., h => by simp [pur] at h
 | .ocl .., h => by simp [pur] at h
 | .ptr .., h => by simp [pur] at h
 | .agg az, h => by simp only [pur, od] at *; exact ods_pur az h
 | .tup az, h => by simp only [pur, od] at *; exact ods_pur az h
 | .fn _ az, h => by simp only [pur, od] at *; exact ods_pur az h
 | .pat az, h => by simp only [pur, od] at *; exact ods_pur az h
 | .sl _ es, h => by simpa only [pur, od] using h
 | .int .., _ => trivial
 | .bool _, _ => trivial
 | .str _, _ => trivial
 | .raw _, _ => trivial
 | .nils, _ => trivial
 | .nilp, _ => trivial
 | .dead, _ => trivial
theorem ods_pur : ∀ az : List AV, purs az = true -> ods az
 | [], _ => trivial
 | a :: az, h => by
  simp only [purs, Bool.and_eq_true] at h
  exact ⟨od_pur a h.1, ods_pur az h.2⟩
end
theorem ods_flT (X : List Tr) : ods (fl trc X) := ods_fl (fun t => ods_pur _ (purs_trc t)) X
theorem rowT_get (X : List Tr) (k : Nat) (hk : k < X.length) : ((fl trc X).drop (0 + k * 5)).take 5 = tcs (X.getD k default) := by
 have hl : ∀ x : Tr, (trc x).length = 5 := fun x => by rw [trc_eq]; rfl
 rw [Nat.zero_add, fl_drop hl, List.drop_eq_getElem_cons hk]
 have : fl trc (X[k] :: X.drop (k + 1)) = trc X[k] ++ fl trc (X.drop (k + 1)) := by unfold fl; rw [List.map_cons, List.flatten_cons]
 rw [this, List.take_left' (hl _), show X.getD k default = X[k] by simp [List.getD, hk]]
 exact trc_eq _
theorem rowT_set (X : List Tr) (k : Nat) (y : Tr) (hk : k < X.length) : (fl trc X).take (0 + k * 5) ++ tcs y ++ (fl trc X).drop (0 + k * 5 + 5) = fl trc (X.set k y) := by
 have hl : ∀ x : Tr, (trc x).length = 5 := fun x => by rw [trc_eq]; rfl
 rw [Nat.zero_add, fl_take hl, show k * 5 + 5 = (k + 1) * 5 by omega, fl_drop hl, set_split X k hk, show tcs y = trc y from (trc_eq y).symm]
 rw [show X.take k ++ y :: X.drop (k + 1) = X.take k ++ [y] ++ X.drop (k + 1) by simp, fl_app, fl_app, fl_one]
theorem Ws_app' : ∀ (a b : List Tr), Tr.Ws (a ++ b) = Tr.Ws a + Tr.Ws b
 | [], b => by simp [Tr.Ws]
 | x :: a, b => by simp only [List.cons_append, Tr.Ws, Ws_app' a b]; omega
theorem Ws_set (X : List Tr) (k : Nat) (y : Tr) (hk : k < X.length) : Tr.Ws (X.set k y) + (X.getD k default).W = Tr.Ws X + y.W := by
 conv => rhs; rw [get_split X k hk default]
 rw [set_split X k hk, Ws_app', Ws_app']
 simp only [Tr.Ws]; omega
theorem leas_pre : ∀ (a : List AV) {b c : List AV}, leas b c -> leas (a ++ b) (a ++ c)
 | [], b, c, h => h
 | x :: a, b, c, h => by simp only [List.cons_append, leas]; exact ⟨lea_refl x, leas_pre a h⟩
theorem lea_zero (X : List Tr) : leas (fl trc X ++ [.bool false, .int .i64 0, .str [], .nils, .nils]) (fl trc (X ++ [.none])) := by
 rw [fl_app, fl_one, trc_none]
 exact leas_pre _ (by simp [leas, lea])
def OpR (X : Str) (r : AV) (Z : Hp) : Prop := ∃ (j : Nat) (b : Str), r = .ptr (2 * j + 1) 0 /\ Z = [(2 * j + 1, rdc b 0)] /\ b.length <= 2000
theorem op_use {G : Prg} {f : Nat} {X : Str} {arg : AV} {H : Hp} {n : Nat} {Q : CPost} (h : DC G f [arg] [] (OpR X))
  (q : ∀ b : Str, b.length <= 2000 -> Q (.ptr n 0) ((n, rdc b 0) :: H) (n + 4)) : TCall G f [arg] H n Q := by
 have h0 : TCall G f [arg] H n fun r H' n' => n' = n /\ ∃ Z', H' = H ++ Z' /\ OpR X r Z' := by
  refine lend_ref ((h [] n trivial).mono ?_)
  rintro r H' n' _ ⟨rfl, Z', rfl, hc⟩
  exact ⟨rfl, hc⟩
 refine tc_evn (h0.mono ?_)
 rintro r H' n' _ ⟨rfl, Z', rfl, j, b, rfl, rfl, hb⟩ hnd hn4
 refine .inr ⟨2 * j + 1, _, H, by omega, List.perm_append_comm, by simp [slp], ?_⟩
 rw [show r1 (2 * j + 1) n' (.ptr (2 * j + 1) 0) = .ptr n' 0 by simp only [r1, Nat.beq_refl, cond_true]]
 exact q b hb
open Go Go.Proofs
theorem W_sTreeDo (t : Tr) (c : Cl) (ht : t.W < 2 ^ 12) : (sTreeDo t c).1.W < 2 ^ 12 := by
  unfold sTreeDo
  cases h : treeOk t <;> simp only [Bool.not_true, Bool.not_false, cond_true, cond_false]
  · rw [W_none]; omega
  · cases h2 : callOk c <;> simp only [Bool.not_true, Bool.not_false, cond_true, cond_false]
    · exact ht
    · rw [<- aDo_sDo h h2]
      unfold aDo
      cases callOk c <;> simp only [Bool.not_true, Bool.not_false, cond_true, cond_false]
      · exact ht
      cases decide ((iDo t c).2 = (0 : Int)) <;> simp only [Bool.not_true, Bool.not_false, cond_true, cond_false]
      · exact ht
      cases h3 : treeOk (iDo t c).1 <;> simp only [Bool.not_true, Bool.not_false, cond_true, cond_false]
      · exact ht
      · exact Nat.lt_trans (W_ok h3) (by omega)
theorem l4Calls_ok (b : Str) (p : Nat) (t : Tr) (n : Nat) (hw : t.W < 2 ^ 12) (hp : p < 2 ^ 26) (hn : n < 2 ^ 20) (hb : b.length < 2 ^ 30) : RC G 48 [.agg (tcs t), .int .i64 n] b p (fun r p' => ∃ x : Tr, x.W < 2 ^ 12 /\ r = .agg (tcs x) /\ p' <= p + 50 * n) := by
 refine h_rc (F := [(0, .ptr 0 0), (1, .agg (tcs t)), (2, .int .i64 n)]) (by simp only [go_sem]) Try.func48 (by kernel_rfl) (by kernel_rfl) ?_ (by kernel_rfl)
 refine Rr (Fn2 [0, 2] [(6, .ptr 8 0), (4, .ptr 4 0)] [(8, zt), (4, tcs t), (0, rdc b p)] 12 (Sq fun K2 hK2 => ?_))
 refine Bl (h_l (fun (z : Tr × Nat × Nat) => (match z with | (x, q, k) => ([(0, .ptr 0 0), (2, .int .i64 k), (4, .ptr 4 0), (6, .ptr 8 0)] : Fr))) (fun (z : Tr × Nat × Nat) => (match z with | (x, q, k) => ([(8, zt), (4, tcs x), (0, rdc b q)] : Hp))) (fun (z : Tr × Nat × Nat) cn => (match z with | (x, q, k) => (x.W < 2 ^ 12 /\ q + 50 * k <= p + 50 * n /\ k <= n) /\ cn = 12)) (fun (z : Tr × Nat × Nat) => z.2.2) (t, p, n) (by kernel_rfl) ?_ ?_ ?_ ?_)
 refine ⟨?_, rfl⟩; exact ⟨hw, by omega, by omega⟩
 exact ⟨by kernel_rfl, by kernel_rfl, by kernel_rfl, by kernel_rfl, trivial⟩
 exact (sub_c (by kernel_rfl) (sub_c (by kernel_rfl) (sub_c (by kernel_rfl) (List.nil_sublist _))))
 rintro ⟨x, q, k⟩ n1 hI
 (try dsimp only at hI)
 obtain ⟨⟨hi1, hi2, hi3⟩, rfl⟩ := hI
 refine Sq fun K3 hK3 => ?_
 refine Rr (Cn1 (decide ((0 : Int) < ((k : Int) : Int))) [0, 2, 4, 6] [] (Ki /\ ·) ⟨rfl, fun hc5 c5 => ?_, fun hc5 c5 => ?_⟩)
 try simp only [KF] at c5
 refine Sk (Jn (hK3 (Kp [0, 2, 4, 6] (Sq fun K6 hK6 => ?_))))
 refine Bl (Qr [0, 0, 0, 6, 15, 31, 63, 63, 0, 383, 1023] [(0, []), (1, []), (2, []), (3, [0]), (4, []), (5, []), (6, []), (7, []), (8, [0, 2]), (9, []), (10, [])] (qBc1 4 [(16, .agg (tcs x)), (15, .ptr 0 0), (14, .agg (tcs x))] [0] 13 [.ptr 0 0, .agg (tcs x)] 17 ((0 + 5 <= 5 /\ 0 < 5) /\ (0 + 5 <= 5 /\ 0 < 5) /\ ·) ⟨(by decide), (by decide), RC.use (l4Call_ok b q x (by omega) (by omega) (by omega)) (by kernel_rfl) fun r q9 hr => ?_⟩)); obtain ⟨cl8, h0cl8, h1cl8, h2cl8, rfl, h3cl8⟩ := hr
 refine Kq (p := (((0 + 5 <= 5 /\ 0 < 5) /\ (AV.agg (tcs x) = (.agg (tcs x) : AV))) /\ True)) ⟨⟨(by decide), rfl⟩, trivial⟩ ?_
 refine qBc0 1 [] [] 6 [.agg (tcs x), .agg (clc cl8)] 18 ?_
 have hB10 := W_sTreeDo x cl8 (by omega)
 refine PE.use (sTreeDo_ok x cl8 (by omega) (by first | omega | decide | (dsimp only; first | omega | decide)) (by first | omega | decide | (dsimp only; first | omega | decide)) (by first | omega | decide | (dsimp only; first | omega | decide))) ?_
 refine Kq (p := (True)) trivial ?_
 refine qFn3 [0, 2, 4, 6] [(8, .int .i64 ((sTreeDo x cl8).2)), (7, .ptr 12 0)] [(12, tcs ((sTreeDo x cl8).1)), (8, zt), (4, tcs x), (0, rdc b q9)] 16 ((0 < 2) /\ (1 < 2) /\ (((0 + 5 <= 5 /\ 0 < 5) /\ (AV.agg (tcs x) = (.agg (tcs x) : AV))) /\ ((0 + 5 <= 5 /\ 0 < 5) /\ (AV.agg (tcs x) = (.agg (tcs x) : AV))) /\ True) /\ (true = true /\ 5 = 5 /\ 0 + 5 <= 5) /\ (True) /\ ·) ⟨(by decide), (by decide), ⟨⟨(by decide), rfl⟩, ⟨(by decide), rfl⟩, trivial⟩, (by decide), trivial, Rr (Cn1 (decide (((sTreeDo x cl8).2 : Int) = (0 : Int))) [0, 2, 4, 6, 7] [] (Ki /\ ·) ⟨rfl, fun hc12 c12 => ?_, fun hc12 c12 => ?_⟩)⟩
 try simp only [KF] at c12
 refine Rb (fun h => Bn (Jn (hK6 h))) (Fn3 [0, 2, 4, 6] [] [(12, tcs ((sTreeDo x cl8).1)), (8, zt), (4, tcs ((sTreeDo x cl8).1)), (0, rdc b q9)] 16 ((0 + 5 <= 5 /\ 0 < 5) /\ (true = true /\ 5 = 5 /\ 0 + 5 <= 5) /\ ·) ⟨(by decide), (by decide), Rn (Av1 (r := .int .i64 (IntKind.i64.wrap ((k : Int) - 1))) (v := .int .i64 ((k : Int) - 1)) 2 12 [(11, .int .i64 k)] (congrArg (AV.int .i64) (wrap64 (by omega) (by omega))) (Ki /\ ·) ⟨rfl, Gn0 [(2, .int .i64 ((k : Int) - 1))] ?_⟩)⟩)
 refine nk_n (Lr (((sTreeDo x cl8).1), q9, k - 1) [(0, 0), (4, 4), (8, 8)] 12 [(0, .ptr 0 0), (2, .int .i64 ((k : Int) - 1)), (4, .ptr 4 0), (6, .ptr 8 0)] [(8, zt), (4, tcs ((sTreeDo x cl8).1)), (0, rdc b q9)] [true, true, true] ?_ ?_ (by kernel_rfl) (by (try rw [show ((k : Int) - 1) = ((k - 1 : Nat) : Int) by omega]); try kernel_rfl))
 (try dsimp only); omega
 refine ⟨?_, rfl⟩; (try dsimp only); exact ⟨by omega, by omega, by omega⟩
 try simp only [KF] at c12
 refine Sk (Bn (Jn (hK6 (Kp [0, 2, 4, 6] (Rn (Av1 (r := .int .i64 (IntKind.i64.wrap ((k : Int) - 1))) (v := .int .i64 ((k : Int) - 1)) 2 12 [(11, .int .i64 k)] (congrArg (AV.int .i64) (wrap64 (by omega) (by omega))) (Ki /\ ·) ⟨rfl, Gn0 [(2, .int .i64 ((k : Int) - 1))] (nk_n ?_)⟩))))))
 refine Lr (x, q9, k - 1) [(0, 0), (4, 4), (8, 8)] 12 [(0, .ptr 0 0), (2, .int .i64 ((k : Int) - 1)), (4, .ptr 4 0), (6, .ptr 8 0)] [(8, zt), (4, tcs x), (0, rdc b q9)] [true, true, true] ?_ ?_ (by kernel_rfl) (by (try rw [show ((k : Int) - 1) = ((k - 1 : Nat) : Int) by omega]); try kernel_rfl)
 (try dsimp only); omega
 refine ⟨?_, rfl⟩; (try dsimp only); exact ⟨by omega, by omega, by omega⟩
 try simp only [KF] at c5
 refine Xt (Jx (Lx (Bh (Jn (hK2 (Kp [4, 6] (Rr (Fn3 [6] [] [(8, tcs x), (4, tcs x), (0, rdc b q)] 12 ((0 + 5 <= 5 /\ 0 < 5) /\ (true = true /\ 5 = 5 /\ 0 + 5 <= 5) /\ ·) ⟨(by decide), (by decide), Rt1 ((0 + 5 <= 5 /\ 0 < 5) /\ ·) (.agg (tcs x)) ⟨(by decide), ?_⟩⟩))))))))
 exact fin_rc q (by first | exact lea_refl _ | simp [lea, leas, pth, tcs]) (by simp only [go_sem]) (by kernel_rfl) ⟨x, by omega, rfl, by omega⟩
theorem l4Tree_ok (b : Str) (p : Nat) (hp : p < 2 ^ 25) (hb : b.length < 2 ^ 30) : RC G 25 [] b p (fun r p' => ∃ x : Tr, x.W < 2 ^ 12 /\ r = .agg (tcs x) /\ p' <= p + 1000) := by
 refine h_rc (F := [(0, .ptr 0 0)]) (by simp only [go_sem]) Try.func25 (by kernel_rfl) (by kernel_rfl) ?_ (by kernel_rfl)
 refine Rr (Fn2 [0] [(2, .ptr 4 0)] [(4, zt), (0, rdc b p)] 8 (Rr (Bc0 2 [(8, .ptr 0 0)] 23 [.ptr 0 0, .int .i64 8] 9 (RC.use (pick_ok b p 8 (by omega) (by omega) (by omega) (by omega)) (by kernel_rfl) fun r p1 hr => ?_)))); obtain ⟨pk3, hpk3, rfl, rfl⟩ := hr
 refine Ke (Bc0 2 [(10, .ptr 0 0)] 23 [.ptr 0 0, .int .i64 2] 11 (RC.use (pick_ok b (p + 1) 2 (by omega) (by omega) (by omega) (by omega)) (by kernel_rfl) fun r p1 hr => ?_)); obtain ⟨pk4, hpk4, rfl, rfl⟩ := hr
 refine Ke ?_
 have hm5 := Nat.mul_lt_mul'' hpk3 hpk4
 refine Av1 1 12 [] (congrArg (AV.int .i64) (wnm pk3 pk4 (by omega))) (Ki /\ ·) ⟨rfl, Fn3 [0, 2] [(3, .ptr 8 0)] [(8, [.bool true, .int .i64 ((pk3 * pk4 : Nat) : Int), .str [], .nils, .nils]), (4, zt), (0, rdc b (p + 1 + 1))] 12 ((true = true /\ 5 = 5 /\ 0 + 5 <= 5) /\ ·) ⟨(by decide), Sq fun K6 hK6 => ?_⟩⟩
 refine Rr (Bc0 2 [(14, .ptr 0 0)] 23 [.ptr 0 0, .int .i64 12] 15 (RC.use (pick_ok b (p + 1 + 1) 12 (by omega) (by omega) (by omega) (by omega)) (by kernel_rfl) fun r p1 hr => ?_)); obtain ⟨pk8, hpk8, rfl, rfl⟩ := hr
 refine Ke (Fn0 [0, 2, 3] [(4, .int .i64 pk8)] (Bl (h_lo (H' := [(8, tcs ((Tr.mk true ((pk3 * pk4 : Nat) : Int) [] [] []))), (4, zt), (0, rdc b (p + 1 + 1 + 1))]) ⟨⟨rfl, (by simp [lea, leas, pth, tcs, clc])⟩, ⟨rfl, leas_refl _⟩, ⟨rfl, leas_refl _⟩, trivial⟩ (h_l (fun (z : Tr × Nat × Nat) => (match z with | (x, q, k) => ([(0, .ptr 0 0), (2, .ptr 4 0), (3, .ptr 8 0), (4, .int .i64 k)] : Fr))) (fun (z : Tr × Nat × Nat) => (match z with | (x, q, k) => ([(8, tcs x), (4, zt), (0, rdc b q)] : Hp))) (fun (z : Tr × Nat × Nat) cn => (match z with | (x, q, k) => (x.W < 2 ^ 12 /\ q + 20 * k <= p + 600 /\ k <= 12) /\ cn = 12)) (fun (z : Tr × Nat × Nat) => z.2.2) (((Tr.mk true ((pk3 * pk4 : Nat) : Int) [] [] [])), p + 1 + 1 + 1, pk8) (by kernel_rfl) ?_ ?_ ?_ ?_))))
 refine ⟨?_, rfl⟩; exact ⟨by simp [Tr.W, wS, Tr.Ws], by omega, by omega⟩
 exact ⟨by kernel_rfl, by kernel_rfl, by kernel_rfl, by kernel_rfl, trivial⟩
 exact (sub_c (by kernel_rfl) (sub_c (by kernel_rfl) (sub_c (by kernel_rfl) (List.nil_sublist _))))
 rintro ⟨x, q, k⟩ n1 hI
 (try dsimp only at hI)
 obtain ⟨⟨hi1, hi2, hi3⟩, rfl⟩ := hI
 refine Sq fun K9 hK9 => ?_
 refine Rr (Cn1 (decide ((0 : Int) < ((k : Int) : Int))) [0, 2, 3, 4] [] (Ki /\ ·) ⟨rfl, fun hc11 c11 => ?_, fun hc11 c11 => ?_⟩)
 try simp only [KF] at c11
 refine Sk (Jn (hK9 (Kp [0, 2, 3, 4] (Sq fun K12 hK12 => ?_))))
 refine Bl (Qr [0, 1, 3, 0, 0, 27, 63, 0, 255] [(0, []), (3, []), (4, []), (1, [4]), (2, []), (5, []), (6, []), (7, [4]), (8, [])] (qBc1 4 [(24, .agg (tcs x)), (23, .ptr 0 0), (20, .ptr 0 0)] [4] 23 [.ptr 0 0, .int .i64 2] 21 ((0 + 5 <= 5 /\ 0 < 5) /\ ·) ⟨(by decide), RC.use (pick_ok b q 2 (by omega) (by omega) (by omega) (by omega)) (by kernel_rfl) fun r p1 hr => ?_⟩)); obtain ⟨pk14, hpk14, rfl, rfl⟩ := hr
 refine Kq (p := (((0 + 5 <= 5 /\ 0 < 5) /\ (AV.agg (tcs x) = (.agg (tcs x) : AV))) /\ True)) ⟨⟨(by decide), rfl⟩, trivial⟩ ?_
 refine qAv1 1 22 [] (congrArg (AV.int .i64) (wnn 1 pk14 (by omega))) (Ki /\ ·) ⟨rfl, qBc0 1 [] [] 27 [.ptr 0 0, .agg (tcs x)] 25 (RC.use (l4Path_ok b (q + 1) x (by omega) (by omega) (by omega)) (by kernel_rfl) fun r q16 hr => ?_)⟩; obtain ⟨o15, h0o15, h1o15, h2o15, rfl, h3o15⟩ := hr
 refine Kq (p := (True)) trivial ?_
 refine qFn3 [0, 2, 3, 4] [(5, .ptr 12 0)] [(12, [.int .i64 ((1 + pk14 : Nat) : Int), pth o15, .nils, .int .i64 0, .str []]), (8, tcs x), (4, zt), (0, rdc b q16)] 16 ((((0 + 5 <= 5 /\ 0 < 5) /\ (AV.agg (tcs x) = (.agg (tcs x) : AV))) /\ True) /\ (true = true /\ 5 = 5 /\ 0 + 5 <= 5) /\ (True) /\ ·) ⟨⟨⟨(by decide), rfl⟩, trivial⟩, (by decide), trivial, Sq fun K17 hK17 => ?_⟩
 refine Rr (Cn1 (decide (((1 + pk14 : Nat) : Int) = 2)) [0, 2, 3, 4, 5] [] (((1 : Nat) ≠ 0) /\ (0 + 1 <= 5 /\ 0 < 5) /\ Ki /\ ·) ⟨(by decide), (by decide), rfl, fun hc19 c19 => ?_, fun hc19 c19 => ?_⟩)
 try simp only [KF] at c19
 refine Rb (fun h => Jn (hK17 h)) (Bc0 2 [(30, .ptr 0 0)] 28 [.ptr 0 0] 31 (RC.use (l4Data_ok b q16 (by omega) (by omega)) (by kernel_rfl) fun r p1 hr => ?_)); obtain ⟨ds20, hds20, rfl, rfl⟩ := hr
 refine Ke (Fn3 [0, 2, 3, 4, 5] [] [(12, [.int .i64 ((1 + pk14 : Nat) : Int), pth o15, .nils, .int .i64 0, .str ds20]), (8, tcs x), (4, zt), (0, rdc b (q16 + 1 + 1))] 16 (((1 : Nat) ≠ 0) /\ (true = true /\ 1 = 1 /\ 4 + 1 <= 5) /\ ·) ⟨(by decide), (by decide), Rr (Bc1 3 [(35, .agg [.int .i64 ((1 + pk14 : Nat) : Int), pth o15, .nils, .int .i64 0, .str ds20]), (34, .agg (tcs x))] 6 [.agg (tcs x), .agg [.int .i64 ((1 + pk14 : Nat) : Int), pth o15, .nils, .int .i64 0, .str ds20]] 36 ((0 + 5 <= 5 /\ 0 < 5) /\ (0 + 5 <= 5 /\ 0 < 5) /\ ·) ⟨(by decide), (by decide), ?_⟩)⟩)
 have hB22 := W_sTreeDo x (Cl.mk ((1 + pk14 : Nat) : Int) o15 [] 0 ds20) (by omega)
 refine TCall_le [.agg (tcs x), .agg (clc (Cl.mk ((1 + pk14 : Nat) : Int) o15 [] 0 ds20))] (by simp [lea, leas, pth, Tr.none, tcs, clc]) ?_
 refine PE.use (sTreeDo_ok x (Cl.mk ((1 + pk14 : Nat) : Int) o15 [] 0 ds20) (by omega) (by first | omega | decide | (dsimp only; first | omega | decide)) (by first | omega | decide | (dsimp only; first | omega | decide)) (by first | omega | decide | (dsimp only; first | omega | decide))) ?_
 refine Ke (Fn3 [0, 2, 3, 4] [(7, .int .i64 ((sTreeDo x (Cl.mk ((1 + pk14 : Nat) : Int) o15 [] 0 ds20)).2)), (6, .ptr 16 0)] [(16, tcs ((sTreeDo x (Cl.mk ((1 + pk14 : Nat) : Int) o15 [] 0 ds20)).1)), (12, [.int .i64 ((1 + pk14 : Nat) : Int), pth o15, .nils, .int .i64 0, .str ds20]), (8, tcs x), (4, zt), (0, rdc b (q16 + 1 + 1))] 20 ((0 < 2) /\ (1 < 2) /\ (true = true /\ 5 = 5 /\ 0 + 5 <= 5) /\ ·) ⟨(by decide), (by decide), (by decide), Rr (Cn1 (decide (((sTreeDo x (Cl.mk ((1 + pk14 : Nat) : Int) o15 [] 0 ds20)).2 : Int) = (0 : Int))) [0, 2, 3, 4, 6] [] (Ki /\ ·) ⟨rfl, fun hc24 c24 => ?_, fun hc24 c24 => ?_⟩)⟩)
 try simp only [KF] at c24
 refine Rb (fun h => Bn (Jn (hK12 h))) (Fn3 [0, 2, 3, 4] [] [(16, tcs ((sTreeDo x (Cl.mk ((1 + pk14 : Nat) : Int) o15 [] 0 ds20)).1)), (12, [.int .i64 ((1 + pk14 : Nat) : Int), pth o15, .nils, .int .i64 0, .str ds20]), (8, tcs ((sTreeDo x (Cl.mk ((1 + pk14 : Nat) : Int) o15 [] 0 ds20)).1)), (4, zt), (0, rdc b (q16 + 1 + 1))] 20 ((0 + 5 <= 5 /\ 0 < 5) /\ (true = true /\ 5 = 5 /\ 0 + 5 <= 5) /\ ·) ⟨(by decide), (by decide), Rn (Av1 (r := .int .i64 (IntKind.i64.wrap ((k : Int) - 1))) (v := .int .i64 ((k : Int) - 1)) 2 19 [(18, .int .i64 k)] (congrArg (AV.int .i64) (wrap64 (by omega) (by omega))) (Ki /\ ·) ⟨rfl, Gn0 [(4, .int .i64 ((k : Int) - 1))] ?_⟩)⟩)
 refine nk_n (Lr (((sTreeDo x (Cl.mk ((1 + pk14 : Nat) : Int) o15 [] 0 ds20)).1), q16 + 1 + 1, k - 1) [(0, 0), (4, 4), (8, 8)] 12 [(0, .ptr 0 0), (2, .ptr 4 0), (3, .ptr 8 0), (4, .int .i64 ((k : Int) - 1))] [(8, tcs ((sTreeDo x (Cl.mk ((1 + pk14 : Nat) : Int) o15 [] 0 ds20)).1)), (4, zt), (0, rdc b (q16 + 1 + 1))] [true, true, true] ?_ ?_ (by kernel_rfl) (by (try rw [show ((k : Int) - 1) = ((k - 1 : Nat) : Int) by omega]); try kernel_rfl))
 (try dsimp only); omega
 refine ⟨?_, rfl⟩; (try dsimp only); exact ⟨by omega, by omega, by omega⟩
 try simp only [KF] at c24
 refine Sk (Bn (Jn (hK12 (Kp [0, 2, 3, 4] (Rn (Av1 (r := .int .i64 (IntKind.i64.wrap ((k : Int) - 1))) (v := .int .i64 ((k : Int) - 1)) 2 19 [(18, .int .i64 k)] (congrArg (AV.int .i64) (wrap64 (by omega) (by omega))) (Ki /\ ·) ⟨rfl, Gn0 [(4, .int .i64 ((k : Int) - 1))] (nk_n ?_)⟩))))))
 refine Lr (x, q16 + 1 + 1, k - 1) [(0, 0), (4, 4), (8, 8)] 12 [(0, .ptr 0 0), (2, .ptr 4 0), (3, .ptr 8 0), (4, .int .i64 ((k : Int) - 1))] [(8, tcs x), (4, zt), (0, rdc b (q16 + 1 + 1))] [true, true, true] ?_ ?_ (by kernel_rfl) (by (try rw [show ((k : Int) - 1) = ((k - 1 : Nat) : Int) by omega]); try kernel_rfl)
 (try dsimp only); omega
 refine ⟨?_, rfl⟩; (try dsimp only); exact ⟨by omega, by omega, by omega⟩
 try simp only [KF] at c19
 refine Sk (Jn (hK17 (Kp [0, 2, 3, 4, 5] (Rr (Bc1 3 [(35, .agg [.int .i64 ((1 + pk14 : Nat) : Int), pth o15, .nils, .int .i64 0, .str []]), (34, .agg (tcs x))] 6 [.agg (tcs x), .agg [.int .i64 ((1 + pk14 : Nat) : Int), pth o15, .nils, .int .i64 0, .str []]] 36 ((0 + 5 <= 5 /\ 0 < 5) /\ (0 + 5 <= 5 /\ 0 < 5) /\ ·) ⟨(by decide), (by decide), ?_⟩)))))
 have hB26 := W_sTreeDo x (Cl.mk ((1 + pk14 : Nat) : Int) o15 [] 0 []) (by omega)
 refine TCall_le [.agg (tcs x), .agg (clc (Cl.mk ((1 + pk14 : Nat) : Int) o15 [] 0 []))] (by simp [lea, leas, pth, Tr.none, tcs, clc]) ?_
 refine PE.use (sTreeDo_ok x (Cl.mk ((1 + pk14 : Nat) : Int) o15 [] 0 []) (by omega) (by first | omega | decide | (dsimp only; first | omega | decide)) (by first | omega | decide | (dsimp only; first | omega | decide)) (by first | omega | decide | (dsimp only; first | omega | decide))) ?_
 refine Ke (Fn3 [0, 2, 3, 4] [(7, .int .i64 ((sTreeDo x (Cl.mk ((1 + pk14 : Nat) : Int) o15 [] 0 [])).2)), (6, .ptr 16 0)] [(16, tcs ((sTreeDo x (Cl.mk ((1 + pk14 : Nat) : Int) o15 [] 0 [])).1)), (12, [.int .i64 ((1 + pk14 : Nat) : Int), pth o15, .nils, .int .i64 0, .str []]), (8, tcs x), (4, zt), (0, rdc b q16)] 20 ((0 < 2) /\ (1 < 2) /\ (true = true /\ 5 = 5 /\ 0 + 5 <= 5) /\ ·) ⟨(by decide), (by decide), (by decide), Rr (Cn1 (decide (((sTreeDo x (Cl.mk ((1 + pk14 : Nat) : Int) o15 [] 0 [])).2 : Int) = (0 : Int))) [0, 2, 3, 4, 6] [] (Ki /\ ·) ⟨rfl, fun hc28 c28 => ?_, fun hc28 c28 => ?_⟩)⟩)
 try simp only [KF] at c28
 refine Rb (fun h => Bn (Jn (hK12 h))) (Fn3 [0, 2, 3, 4] [] [(16, tcs ((sTreeDo x (Cl.mk ((1 + pk14 : Nat) : Int) o15 [] 0 [])).1)), (12, [.int .i64 ((1 + pk14 : Nat) : Int), pth o15, .nils, .int .i64 0, .str []]), (8, tcs ((sTreeDo x (Cl.mk ((1 + pk14 : Nat) : Int) o15 [] 0 [])).1)), (4, zt), (0, rdc b q16)] 20 ((0 + 5 <= 5 /\ 0 < 5) /\ (true = true /\ 5 = 5 /\ 0 + 5 <= 5) /\ ·) ⟨(by decide), (by decide), Rn (Av1 (r := .int .i64 (IntKind.i64.wrap ((k : Int) - 1))) (v := .int .i64 ((k : Int) - 1)) 2 19 [(18, .int .i64 k)] (congrArg (AV.int .i64) (wrap64 (by omega) (by omega))) (Ki /\ ·) ⟨rfl, Gn0 [(4, .int .i64 ((k : Int) - 1))] ?_⟩)⟩)
 refine nk_n (Lr (((sTreeDo x (Cl.mk ((1 + pk14 : Nat) : Int) o15 [] 0 [])).1), q16, k - 1) [(0, 0), (4, 4), (8, 8)] 12 [(0, .ptr 0 0), (2, .ptr 4 0), (3, .ptr 8 0), (4, .int .i64 ((k : Int) - 1))] [(8, tcs ((sTreeDo x (Cl.mk ((1 + pk14 : Nat) : Int) o15 [] 0 [])).1)), (4, zt), (0, rdc b q16)] [true, true, true] ?_ ?_ (by kernel_rfl) (by (try rw [show ((k : Int) - 1) = ((k - 1 : Nat) : Int) by omega]); try kernel_rfl))
 (try dsimp only); omega
 refine ⟨?_, rfl⟩; (try dsimp only); exact ⟨by omega, by omega, by omega⟩
 try simp only [KF] at c28
 refine Sk (Bn (Jn (hK12 (Kp [0, 2, 3, 4] (Rn (Av1 (r := .int .i64 (IntKind.i64.wrap ((k : Int) - 1))) (v := .int .i64 ((k : Int) - 1)) 2 19 [(18, .int .i64 k)] (congrArg (AV.int .i64) (wrap64 (by omega) (by omega))) (Ki /\ ·) ⟨rfl, Gn0 [(4, .int .i64 ((k : Int) - 1))] (nk_n ?_)⟩))))))
 refine Lr (x, q16, k - 1) [(0, 0), (4, 4), (8, 8)] 12 [(0, .ptr 0 0), (2, .ptr 4 0), (3, .ptr 8 0), (4, .int .i64 ((k : Int) - 1))] [(8, tcs x), (4, zt), (0, rdc b q16)] [true, true, true] ?_ ?_ (by kernel_rfl) (by (try rw [show ((k : Int) - 1) = ((k - 1 : Nat) : Int) by omega]); try kernel_rfl)
 (try dsimp only); omega
 refine ⟨?_, rfl⟩; (try dsimp only); exact ⟨by omega, by omega, by omega⟩
 try simp only [KF] at c11
 refine Xt (Jx (Lx (Bh (Jn (hK6 (Kp [0, 2, 3] (Qr [0, 0, 0, 4, 15, 31] [(0, []), (1, []), (2, []), (3, [1]), (4, []), (5, [])] (qBc1 4 [(44, .ptr 0 0), (43, .agg (tcs x)), (42, .ptr 0 0)] [1] 23 [.ptr 0 0, .int .i64 6] 45 ((0 + 5 <= 5 /\ 0 < 5) /\ ·) ⟨(by decide), RC.use (pick_ok b q 6 (by omega) (by omega) (by omega) (by omega)) (by kernel_rfl) fun r p1 hr => ?_⟩)))))))); obtain ⟨pk30, hpk30, rfl, rfl⟩ := hr
 refine Kq (p := (((0 + 5 <= 5 /\ 0 < 5) /\ (AV.agg (tcs x) = (.agg (tcs x) : AV))) /\ True)) ⟨⟨(by decide), rfl⟩, trivial⟩ ?_
 refine qBc0 1 [] [] 48 [.ptr 0 0, .agg (tcs x), .int .i64 pk30] 46 ?_
 refine RC.use (l4Calls_ok b (q + 1) x pk30 (by omega) (by omega) (by omega) (by omega)) (by kernel_rfl) fun r q32 hr => ?_; obtain ⟨x31, h1x31, rfl, h3x31⟩ := hr
 refine Kq (p := (True)) trivial ?_
 refine qFn3 [2] [] [(8, tcs x), (4, tcs x31), (0, rdc b q32)] 12 ((true = true /\ 5 = 5 /\ 0 + 5 <= 5) /\ (True) /\ ·) ⟨(by decide), trivial, Rt1 ((0 + 5 <= 5 /\ 0 < 5) /\ ·) (.agg (tcs x31)) ⟨(by decide), ?_⟩⟩
 exact fin_rc q32 (by first | exact lea_refl _ | simp [lea, leas, pth, tcs]) (by simp only [go_sem]) (by kernel_rfl) ⟨x31, by omega, rfl, by omega⟩
open Go Go.Proofs
def decN (n : Nat) : Str := if h : n < 10 then [UInt8.ofNat (48 + n)] else decN (n / 10) ++ [UInt8.ofNat (48 + n % 10)]
def dec (i : Int) : Str := if i < 0 then 45 :: decN (-i).toNat else decN i.toNat
theorem w8of (x : Int) (h0 : 0 <= x) (h1 : x < 256) : AV.int .u8 (IntKind.u8.wrap x) = .int .u8 ((UInt8.ofNat x.toNat).toNat : Int) := by
  rw [wrap8 h0 (by omega)]
  congr 1
  rw [UInt8.toNat_ofNat']
  omega
theorem decN_len (n : Nat) : ∀ k, n < 10 ^ (k + 1) -> (decN n).length <= k + 1 := by
  induction n using Nat.strongRecOn with
  | _ n ih =>
    intro k hk
    rw [decN]
    split
    · simp
    · cases k with
      | zero => omega
      | succ k =>
        have := ih (n / 10) (by omega) k (by rw [Nat.pow_succ] at hk; omega)
        simp only [List.length_append, List.length_cons, List.length_nil]
        omega
theorem dec_len (i : Int) (h1 : -9223372036854775808 <= i) (h2 : i <= 9223372036854775807) : (dec i).length <= 20 := by
  unfold dec
  split
  · have := decN_len (-i).toNat 18 (by omega)
    simp only [List.length_cons]; omega
  · have := decN_len i.toNat 18 (by omega)
    omega
theorem dec_neg {i : Int} (h : i < 0) : dec i = [45] ++ dec (0 - i) := by
  unfold dec
  rw [if_pos h, if_neg (by omega), show (0 - i) = -i by omega]; rfl
theorem dec_one {i : Int} (h0 : ¬ i < 0) (h : i < 10) : dec i = [UInt8.ofNat (48 + i).toNat] := by
  unfold dec
  rw [if_neg h0, decN, dif_pos (by omega), show (48 + i).toNat = 48 + i.toNat by omega]
theorem dec_more {i : Int} (h0 : ¬ i < 0) (h : ¬ i < 10) : dec i = dec (i / 10) ++ [UInt8.ofNat (48 + i % 10).toNat] := by
  unfold dec
  rw [if_neg h0, if_neg (by omega), decN, dif_neg (by omega), show (48 + i % 10).toNat = 48 + i.toNat % 10 by omega, show (i / 10).toNat = i.toNat / 10 by omega]
theorem dec_min : dec (-9223372036854775808) = [45, 57, 50, 50, 51, 51, 55, 50, 48, 51, 54, 56, 53, 52, 55, 55, 53, 56, 48, 56] := by
  unfold dec
  rw [if_pos (by decide)]
  simp [decN]
abbrev QD (i : Int) : Post := RQ G Try.f47.results fun r _ _ => lea r (.str (dec i))
noncomputable def k47_0 : Code := bd Try.f47
noncomputable def k47_2 : Code := q2 k47_0
noncomputable def k47_10 : Code := q2 k47_2
noncomputable def k47_18 : Code := q2 k47_10
noncomputable def k47_26 : Code := q2 k47_18
set_option maxHeartbeats 4000000 in
theorem l1Dec_ok : ∀ (N : Nat) (i : Int), (max i (1 - i)).toNat = N -> -9223372036854775808 <= i -> i <= 9223372036854775807 -> PE G 47 [.int .i64 i] (.str (dec i)) := by
 intro N; refine Nat.strongRecOn N fun N ih => ?_; intro i hN hi1 hi2
 refine Pe Try.func47 ?_
 refine Rr (Fn0 [0] [] (Sq fun K2 hK2 => ?_))
 refine Rr (Cn1 (decide ((i : Int) < (-9223372036854775807 : Int))) [0] [] (Ki /\ ·) ⟨rfl, fun hc4 c4 => ?_, fun hc4 c4 => ?_⟩)
 try simp only [KF] at c4
 refine Rr (Fn0 [] [(2, .str [45, 57, 50, 50, 51, 51, 55, 50, 48, 51, 54, 56, 53, 52, 55, 55, 53, 56, 48, 56])] (Rt (.str [45, 57, 50, 50, 51, 51, 55, 50, 48, 51, 54, 56, 53, 52, 55, 55, 53, 56, 48, 56]) (fin_lea ?_)))
 first
   | (have e : i = -9223372036854775808 := (by omega); subst e; rw [dec_min]; exact lea_refl _)
   | (rw [dec_neg (i := i) (by omega)]; exact lea_refl _)
   | (rw [dec_one (i := i) (by omega) (by omega)]; exact lea_refl _)
   | (rw [dec_more (i := i) (by omega) (by omega)]; exact lea_refl _)
 try simp only [KF] at c4
 refine Sk (Jn (hK2 (Kp [0] (Sq fun K6 hK6 => ?_))))
 refine Rr (Cn1 (decide ((i : Int) < (0 : Int))) [0] [] (Ki /\ ·) ⟨rfl, fun hc8 c8 => ?_, fun hc8 c8 => ?_⟩)
 try simp only [KF] at c8
 refine Rr (Av0 (r := .int .i64 (IntKind.i64.wrap (0 - i))) (v := .int .i64 (0 - i)) 2 8 [(7, .int .i64 i)] (congrArg (AV.int .i64) (wrap64 (by omega) (by omega))) ?_)
 have hl10 := dec_len (0 - i) (by omega) (by omega)
 refine Pc0 1 [] 9 (ih _ (by omega) (0 - i) rfl (by omega) (by omega)) (Fn1 [] [(2, .str ([45] ++ (dec (0 - i))))] (([45].length + (dec (0 - i)).length <= 9223372036854775807) /\ ·) ⟨(by simp only [List.length_cons, List.length_nil]; omega), Rt (.str ([45] ++ (dec (0 - i)))) (fin_lea ?_)⟩)
 first
   | (have e : i = -9223372036854775808 := (by omega); subst e; rw [dec_min]; exact lea_refl _)
   | (rw [dec_neg (i := i) (by omega)]; exact lea_refl _)
   | (rw [dec_one (i := i) (by omega) (by omega)]; exact lea_refl _)
   | (rw [dec_more (i := i) (by omega) (by omega)]; exact lea_refl _)
 try simp only [KF] at c8
 refine Sk (Jn (hK6 (Kp [0] (Sq fun K11 hK11 => ?_))))
 refine Rr (Cn1 (decide ((i : Int) < (10 : Int))) [0] [] (Ki /\ ·) ⟨rfl, fun hc13 c13 => ?_, fun hc13 c13 => ?_⟩)
 try simp only [KF] at c13
 refine Rr (Av1 (r := .int .i64 (IntKind.i64.wrap (48 + i))) (v := .int .i64 (48 + i)) 2 14 [(13, .int .i64 i)] (congrArg (AV.int .i64) (wrap64 (by omega) (by omega))) (Ki /\ ·) ⟨rfl, ?_⟩)
 have hu15 := UInt8.toNat_lt (UInt8.ofNat (48 + i).toNat)
 refine Av0 (r := .int .u8 (IntKind.u8.wrap (48 + i))) (v := .int .u8 ((UInt8.ofNat (48 + i).toNat).toNat : Int)) 1 15 [] (w8of (48 + i) (by omega) (by omega)) (Av3 (r := .str ((((ints [(UInt8.ofNat (48 + i).toNat)]).drop 0).take [(UInt8.ofNat (48 + i).toNat)].length).map unu)) (v := .str [(UInt8.ofNat (48 + i).toNat)]) 2 17 [(16, .osl 0 1 0 1)] (congrArg AV.str (unu_ints _)) [(0, [.int .u8 ((UInt8.ofNat (48 + i).toNat).toNat : Int)])] 4 (fun Z => (1 * 1 <= 16777216) /\ (1 = 1 /\ 0 + [(UInt8.ofNat (48 + i).toNat)].length <= (ints [(UInt8.ofNat (48 + i).toNat)]).length /\ allu (((ints [(UInt8.ofNat (48 + i).toNat)]).drop 0).take [(UInt8.ofNat (48 + i).toNat)].length)) /\ Z) ⟨(by decide), ⟨rfl, by rw [ints_len]; omega, allu_ints _⟩, Fn0 [] [(2, .str [(UInt8.ofNat (48 + i).toNat)])] (Rt (.str [(UInt8.ofNat (48 + i).toNat)]) (fin_lea ?_))⟩)
 first
   | (have e : i = -9223372036854775808 := (by omega); subst e; rw [dec_min]; exact lea_refl _)
   | (rw [dec_neg (i := i) (by omega)]; exact lea_refl _)
   | (rw [dec_one (i := i) (by omega) (by omega)]; exact lea_refl _)
   | (rw [dec_more (i := i) (by omega) (by omega)]; exact lea_refl _)
 try simp only [KF] at c13
 refine Sk (Jn (hK11 (Kp [0] ?_)))
 have hdl := dec_len (i / 10) (by omega) (by omega)
 refine Sa (Q := QD i) 11 ?_
 refine Hv (p := RT 0 G k47_26 (QD i) 0 [0, 1, 2, 3, 4, 5, 6, 7, 8, 9, 10] [(0, .int .i64 i), (2, .str ((dec (i / 10)) ++ [(UInt8.ofNat (48 + (i % 10)).toNat)])), (18, .int .i64 i), (19, .int .i64 (i / 10)), (20, .str (dec (i / 10))), (21, .int .i64 i), (22, .int .i64 (i % 10)), (23, .int .i64 (48 + (i % 10))), (24, .int .u8 (((UInt8.ofNat (48 + (i % 10)).toNat).toNat : Nat) : Int)), (25, .osl 0 1 0 1), (26, .str [(UInt8.ofNat (48 + (i % 10)).toNat)]), (27, .str ((dec (i / 10)) ++ [(UInt8.ofNat (48 + (i % 10)).toNat)]))] [(0, [.int .u8 (((UInt8.ofNat (48 + (i % 10)).toNat).toNat : Nat) : Int)])] 4) ?_ fun m17 => ?_
 refine R0 ?_
 refine Kp [2] (Rt (.str ((dec (i / 10)) ++ [(UInt8.ofNat (48 + (i % 10)).toNat)])) (fin_lea ?_))
 first
   | (have e : i = -9223372036854775808 := (by omega); subst e; rw [dec_min]; exact lea_refl _)
   | (rw [dec_neg (i := i) (by omega)]; exact lea_refl _)
   | (rw [dec_one (i := i) (by omega) (by omega)]; exact lea_refl _)
   | (rw [dec_more (i := i) (by omega) (by omega)]; exact lea_refl _)
 refine Hv (p := RT 0 G k47_26 (QD i) 1 [0, 1, 2, 3, 4, 5, 6, 7, 8, 9] [(0, .int .i64 i), (18, .int .i64 i), (19, .int .i64 (i / 10)), (20, .str (dec (i / 10))), (21, .int .i64 i), (22, .int .i64 (i % 10)), (23, .int .i64 (48 + (i % 10))), (24, .int .u8 (((UInt8.ofNat (48 + (i % 10)).toNat).toNat : Nat) : Int)), (25, .osl 0 1 0 1), (26, .str [(UInt8.ofNat (48 + (i % 10)).toNat)]), (27, .str ((dec (i / 10)) ++ [(UInt8.ofNat (48 + (i % 10)).toNat)]))] [(0, [.int .u8 (((UInt8.ofNat (48 + (i % 10)).toNat).toNat : Nat) : Int)])] 4) ?_ fun m18 => ?_
 refine Tc 10 [] ⟨?_, trivial⟩
 refine To0 2 (.str ((dec (i / 10)) ++ [(UInt8.ofNat (48 + (i % 10)).toNat)])) ?_
 exact Tm m17
 refine Hv (p := RT 0 G k47_26 (QD i) 2 [0, 1, 2, 3, 4, 5, 6, 7, 8] [(0, .int .i64 i), (18, .int .i64 i), (19, .int .i64 (i / 10)), (20, .str (dec (i / 10))), (21, .int .i64 i), (22, .int .i64 (i % 10)), (23, .int .i64 (48 + (i % 10))), (24, .int .u8 (((UInt8.ofNat (48 + (i % 10)).toNat).toNat : Nat) : Int)), (25, .osl 0 1 0 1), (26, .str [(UInt8.ofNat (48 + (i % 10)).toNat)])] [(0, [.int .u8 (((UInt8.ofNat (48 + (i % 10)).toNat).toNat : Nat) : Int)])] 4) ?_ fun m19 => ?_
 refine Tc 9 [] ⟨?_, trivial⟩
 refine To1 27 (.str ((dec (i / 10)) ++ [(UInt8.ofNat (48 + (i % 10)).toNat)])) (((dec (i / 10)).length + [(UInt8.ofNat (48 + (i % 10)).toNat)].length <= 9223372036854775807) /\ ·) ⟨(by simp only [List.length_cons, List.length_nil]; omega), ?_⟩
 exact Tm m18
 refine Hv (p := RT 0 G k47_26 (QD i) 3 [0, 1, 2, 3, 4, 5, 6, 7] [(0, .int .i64 i), (18, .int .i64 i), (19, .int .i64 (i / 10)), (20, .str (dec (i / 10))), (21, .int .i64 i), (22, .int .i64 (i % 10)), (23, .int .i64 (48 + (i % 10))), (24, .int .u8 (((UInt8.ofNat (48 + (i % 10)).toNat).toNat : Nat) : Int)), (25, .osl 0 1 0 1)] [(0, [.int .u8 (((UInt8.ofNat (48 + (i % 10)).toNat).toNat : Nat) : Int)])] 4) ?_ fun m20 => ?_
 refine Tc 8 [] ⟨?_, trivial⟩
 refine To1 26 (.str ((((ints [(UInt8.ofNat (48 + (i % 10)).toNat)]).drop 0).take [(UInt8.ofNat (48 + (i % 10)).toNat)].length).map unu)) (fun Z => (1 = 1 /\ 0 + [(UInt8.ofNat (48 + (i % 10)).toNat)].length <= (ints [(UInt8.ofNat (48 + (i % 10)).toNat)]).length /\ allu (((ints [(UInt8.ofNat (48 + (i % 10)).toNat)]).drop 0).take [(UInt8.ofNat (48 + (i % 10)).toNat)].length)) /\ Z) ⟨⟨rfl, by rw [ints_len]; omega, allu_ints _⟩, ?_⟩
 refine Tjv (v' := .str [(UInt8.ofNat (48 + (i % 10)).toNat)]) (congrArg AV.str (unu_ints _)) ?_
 exact Tm m19
 refine Hv (p := RT 0 G k47_26 (QD i) 3 [0, 1, 3, 4, 5, 6, 7, 8] [(0, .int .i64 i), (18, .int .i64 i), (19, .int .i64 (i / 10)), (21, .int .i64 i), (22, .int .i64 (i % 10)), (23, .int .i64 (48 + (i % 10))), (24, .int .u8 (((UInt8.ofNat (48 + (i % 10)).toNat).toNat : Nat) : Int)), (25, .osl 0 1 0 1), (26, .str [(UInt8.ofNat (48 + (i % 10)).toNat)])] [(0, [.int .u8 (((UInt8.ofNat (48 + (i % 10)).toNat).toNat : Nat) : Int)])] 4) ?_ fun m21 => ?_
 refine Tc 2 [] ⟨?_, trivial⟩
 have hl22 := dec_len (i / 10) (by omega) (by omega)
 refine Toc 20 (ih _ (by omega) (i / 10) rfl (by omega) (by omega)) ?_
 exact Tm m19
 refine Hv (p := RT 0 G k47_26 (QD i) 4 [0, 1, 2, 3, 4, 5, 6] [(0, .int .i64 i), (18, .int .i64 i), (19, .int .i64 (i / 10)), (20, .str (dec (i / 10))), (21, .int .i64 i), (22, .int .i64 (i % 10)), (23, .int .i64 (48 + (i % 10))), (24, .int .u8 (((UInt8.ofNat (48 + (i % 10)).toNat).toNat : Nat) : Int))] [] 0) ?_ fun m23 => ?_
 refine Tc 7 [] ⟨?_, trivial⟩
 refine To3 25 (.osl 0 1 0 1) [(0, [.int .u8 (((UInt8.ofNat (48 + (i % 10)).toNat).toNat : Nat) : Int)])] 4 ((1 * 1 <= 16777216) /\ ·) ⟨(by decide), ?_⟩
 exact Tm m20
 refine Hv (p := RT 0 G k47_26 (QD i) 4 [0, 1, 3, 4, 5, 6, 7] [(0, .int .i64 i), (18, .int .i64 i), (19, .int .i64 (i / 10)), (21, .int .i64 i), (22, .int .i64 (i % 10)), (23, .int .i64 (48 + (i % 10))), (24, .int .u8 (((UInt8.ofNat (48 + (i % 10)).toNat).toNat : Nat) : Int)), (25, .osl 0 1 0 1)] [(0, [.int .u8 (((UInt8.ofNat (48 + (i % 10)).toNat).toNat : Nat) : Int)])] 4) ?_ fun m24 => ?_
 refine Tc 2 [8] ⟨?_, ?_, trivial⟩
 have hl25 := dec_len (i / 10) (by omega) (by omega)
 refine Toc 20 (ih _ (by omega) (i / 10) rfl (by omega) (by omega)) ?_
 exact Tm m20
 refine To1 26 (.str ((((ints [(UInt8.ofNat (48 + (i % 10)).toNat)]).drop 0).take [(UInt8.ofNat (48 + (i % 10)).toNat)].length).map unu)) (fun Z => (1 = 1 /\ 0 + [(UInt8.ofNat (48 + (i % 10)).toNat)].length <= (ints [(UInt8.ofNat (48 + (i % 10)).toNat)]).length /\ allu (((ints [(UInt8.ofNat (48 + (i % 10)).toNat)]).drop 0).take [(UInt8.ofNat (48 + (i % 10)).toNat)].length)) /\ Z) ⟨⟨rfl, by rw [ints_len]; omega, allu_ints _⟩, ?_⟩
 refine Tjv (v' := .str [(UInt8.ofNat (48 + (i % 10)).toNat)]) (congrArg AV.str (unu_ints _)) ?_
 exact Tm m21
 refine Hv (p := RT 0 G k47_26 (QD i) 4 [0, 3, 4, 5, 6, 7, 8] [(0, .int .i64 i), (18, .int .i64 i), (21, .int .i64 i), (22, .int .i64 (i % 10)), (23, .int .i64 (48 + (i % 10))), (24, .int .u8 (((UInt8.ofNat (48 + (i % 10)).toNat).toNat : Nat) : Int)), (25, .osl 0 1 0 1), (26, .str [(UInt8.ofNat (48 + (i % 10)).toNat)])] [(0, [.int .u8 (((UInt8.ofNat (48 + (i % 10)).toNat).toNat : Nat) : Int)])] 4) ?_ fun m26 => ?_
 refine Tc 1 [] ⟨?_, trivial⟩
 refine To1 19 (.int .i64 (IntKind.i64.wrap (i.tdiv 10))) ((IntKind.i64 = IntKind.i64 /\ (10 : Int) ≠ 0) /\ ·) ⟨⟨rfl, by omega⟩, ?_⟩
 refine Tjv (v' := .int .i64 (i / 10)) (congrArg (AV.int .i64) (wdiv (by omega) (by omega) (by omega))) ?_
 exact Tm m21
 refine Hv (p := RT 0 G k47_26 (QD i) 5 [0, 1, 2, 3, 4, 5] [(0, .int .i64 i), (18, .int .i64 i), (19, .int .i64 (i / 10)), (20, .str (dec (i / 10))), (21, .int .i64 i), (22, .int .i64 (i % 10)), (23, .int .i64 (48 + (i % 10)))] [] 0) ?_ fun m27 => ?_
 refine Tc 6 [] ⟨?_, trivial⟩
 have hu28 := UInt8.toNat_lt (UInt8.ofNat (48 + (i % 10)).toNat)
 refine To0 24 (.int .u8 (IntKind.u8.wrap (48 + (i % 10)))) ?_
 refine Tjv (v' := .int .u8 (((UInt8.ofNat (48 + (i % 10)).toNat).toNat : Nat) : Int)) (w8of (48 + (i % 10)) (by omega) (by omega)) ?_
 exact Tm m23
 refine Hv (p := RT 0 G k47_26 (QD i) 5 [0, 1, 3, 4, 5, 6] [(0, .int .i64 i), (18, .int .i64 i), (19, .int .i64 (i / 10)), (21, .int .i64 i), (22, .int .i64 (i % 10)), (23, .int .i64 (48 + (i % 10))), (24, .int .u8 (((UInt8.ofNat (48 + (i % 10)).toNat).toNat : Nat) : Int))] [] 0) ?_ fun m29 => ?_
 refine Tc 2 [7] ⟨?_, ?_, trivial⟩
 have hl30 := dec_len (i / 10) (by omega) (by omega)
 refine Toc 20 (ih _ (by omega) (i / 10) rfl (by omega) (by omega)) ?_
 exact Tm m23
 refine To3 25 (.osl 0 1 0 1) [(0, [.int .u8 (((UInt8.ofNat (48 + (i % 10)).toNat).toNat : Nat) : Int)])] 4 ((1 * 1 <= 16777216) /\ ·) ⟨(by decide), ?_⟩
 exact Tm m24
 refine Hv (p := RT 0 G k47_26 (QD i) 5 [0, 3, 4, 5, 6, 7] [(0, .int .i64 i), (18, .int .i64 i), (21, .int .i64 i), (22, .int .i64 (i % 10)), (23, .int .i64 (48 + (i % 10))), (24, .int .u8 (((UInt8.ofNat (48 + (i % 10)).toNat).toNat : Nat) : Int)), (25, .osl 0 1 0 1)] [(0, [.int .u8 (((UInt8.ofNat (48 + (i % 10)).toNat).toNat : Nat) : Int)])] 4) ?_ fun m31 => ?_
 refine Tc 1 [8] ⟨?_, ?_, trivial⟩
 refine To1 19 (.int .i64 (IntKind.i64.wrap (i.tdiv 10))) ((IntKind.i64 = IntKind.i64 /\ (10 : Int) ≠ 0) /\ ·) ⟨⟨rfl, by omega⟩, ?_⟩
 refine Tjv (v' := .int .i64 (i / 10)) (congrArg (AV.int .i64) (wdiv (by omega) (by omega) (by omega))) ?_
 exact Tm m24
 refine To1 26 (.str ((((ints [(UInt8.ofNat (48 + (i % 10)).toNat)]).drop 0).take [(UInt8.ofNat (48 + (i % 10)).toNat)].length).map unu)) (fun Z => (1 = 1 /\ 0 + [(UInt8.ofNat (48 + (i % 10)).toNat)].length <= (ints [(UInt8.ofNat (48 + (i % 10)).toNat)]).length /\ allu (((ints [(UInt8.ofNat (48 + (i % 10)).toNat)]).drop 0).take [(UInt8.ofNat (48 + (i % 10)).toNat)].length)) /\ Z) ⟨⟨rfl, by rw [ints_len]; omega, allu_ints _⟩, ?_⟩
 refine Tjv (v' := .str [(UInt8.ofNat (48 + (i % 10)).toNat)]) (congrArg AV.str (unu_ints _)) ?_
 exact Tm m26
 refine Hv (p := RT 0 G k47_26 (QD i) 5 [3, 4, 5, 6, 7, 8] [(0, .int .i64 i), (21, .int .i64 i), (22, .int .i64 (i % 10)), (23, .int .i64 (48 + (i % 10))), (24, .int .u8 (((UInt8.ofNat (48 + (i % 10)).toNat).toNat : Nat) : Int)), (25, .osl 0 1 0 1), (26, .str [(UInt8.ofNat (48 + (i % 10)).toNat)])] [(0, [.int .u8 (((UInt8.ofNat (48 + (i % 10)).toNat).toNat : Nat) : Int)])] 4) ?_ fun m32 => ?_
 refine Tc 0 [] ⟨?_, trivial⟩
 refine To0 18 (.int .i64 i) ?_
 exact Tm m26
 refine Hv (p := RT 0 G k47_26 (QD i) 6 [0, 1, 2, 3, 4] [(0, .int .i64 i), (18, .int .i64 i), (19, .int .i64 (i / 10)), (20, .str (dec (i / 10))), (21, .int .i64 i), (22, .int .i64 (i % 10))] [] 0) ?_ fun m33 => ?_
 refine Tc 5 [] ⟨?_, trivial⟩
 refine To1 23 (.int .i64 (IntKind.i64.wrap (48 + (i % 10)))) (Ki /\ ·) ⟨rfl, ?_⟩
 refine Tjv (v' := .int .i64 (48 + (i % 10))) (congrArg (AV.int .i64) (wrap64 (by omega) (by omega))) ?_
 exact Tm m27
 refine Hv (p := RT 0 G k47_26 (QD i) 6 [0, 1, 3, 4, 5] [(0, .int .i64 i), (18, .int .i64 i), (19, .int .i64 (i / 10)), (21, .int .i64 i), (22, .int .i64 (i % 10)), (23, .int .i64 (48 + (i % 10)))] [] 0) ?_ fun m34 => ?_
 refine Tc 2 [6] ⟨?_, ?_, trivial⟩
 have hl35 := dec_len (i / 10) (by omega) (by omega)
 refine Toc 20 (ih _ (by omega) (i / 10) rfl (by omega) (by omega)) ?_
 exact Tm m27
 have hu36 := UInt8.toNat_lt (UInt8.ofNat (48 + (i % 10)).toNat)
 refine To0 24 (.int .u8 (IntKind.u8.wrap (48 + (i % 10)))) ?_
 refine Tjv (v' := .int .u8 (((UInt8.ofNat (48 + (i % 10)).toNat).toNat : Nat) : Int)) (w8of (48 + (i % 10)) (by omega) (by omega)) ?_
 exact Tm m29
 refine Hv (p := RT 0 G k47_26 (QD i) 6 [0, 3, 4, 5, 6] [(0, .int .i64 i), (18, .int .i64 i), (21, .int .i64 i), (22, .int .i64 (i % 10)), (23, .int .i64 (48 + (i % 10))), (24, .int .u8 (((UInt8.ofNat (48 + (i % 10)).toNat).toNat : Nat) : Int))] [] 0) ?_ fun m37 => ?_
 refine Tc 1 [7] ⟨?_, ?_, trivial⟩
 refine To1 19 (.int .i64 (IntKind.i64.wrap (i.tdiv 10))) ((IntKind.i64 = IntKind.i64 /\ (10 : Int) ≠ 0) /\ ·) ⟨⟨rfl, by omega⟩, ?_⟩
 refine Tjv (v' := .int .i64 (i / 10)) (congrArg (AV.int .i64) (wdiv (by omega) (by omega) (by omega))) ?_
 exact Tm m29
 refine To3 25 (.osl 0 1 0 1) [(0, [.int .u8 (((UInt8.ofNat (48 + (i % 10)).toNat).toNat : Nat) : Int)])] 4 ((1 * 1 <= 16777216) /\ ·) ⟨(by decide), ?_⟩
 exact Tm m31
 refine Hv (p := RT 0 G k47_26 (QD i) 6 [3, 4, 5, 6, 7] [(0, .int .i64 i), (21, .int .i64 i), (22, .int .i64 (i % 10)), (23, .int .i64 (48 + (i % 10))), (24, .int .u8 (((UInt8.ofNat (48 + (i % 10)).toNat).toNat : Nat) : Int)), (25, .osl 0 1 0 1)] [(0, [.int .u8 (((UInt8.ofNat (48 + (i % 10)).toNat).toNat : Nat) : Int)])] 4) ?_ fun m38 => ?_
 refine Tc 0 [8] ⟨?_, ?_, trivial⟩
 refine To0 18 (.int .i64 i) ?_
 exact Tm m31
 refine To1 26 (.str ((((ints [(UInt8.ofNat (48 + (i % 10)).toNat)]).drop 0).take [(UInt8.ofNat (48 + (i % 10)).toNat)].length).map unu)) (fun Z => (1 = 1 /\ 0 + [(UInt8.ofNat (48 + (i % 10)).toNat)].length <= (ints [(UInt8.ofNat (48 + (i % 10)).toNat)]).length /\ allu (((ints [(UInt8.ofNat (48 + (i % 10)).toNat)]).drop 0).take [(UInt8.ofNat (48 + (i % 10)).toNat)].length)) /\ Z) ⟨⟨rfl, by rw [ints_len]; omega, allu_ints _⟩, ?_⟩
 refine Tjv (v' := .str [(UInt8.ofNat (48 + (i % 10)).toNat)]) (congrArg AV.str (unu_ints _)) ?_
 exact Tm m32
 refine Hv (p := RT 0 G k47_26 (QD i) 7 [0, 1, 2, 3] [(0, .int .i64 i), (18, .int .i64 i), (19, .int .i64 (i / 10)), (20, .str (dec (i / 10))), (21, .int .i64 i)] [] 0) ?_ fun m39 => ?_
 refine Tc 4 [] ⟨?_, trivial⟩
 refine To1 22 (.int .i64 (i.tmod 10)) ((IntKind.i64 = IntKind.i64 /\ (10 : Int) ≠ 0) /\ ·) ⟨⟨rfl, by omega⟩, ?_⟩
 refine Tjv (v' := .int .i64 (i % 10)) (congrArg (AV.int .i64) (tmod_nn (by omega))) ?_
 exact Tm m33
 refine Hv (p := RT 0 G k47_26 (QD i) 7 [0, 1, 3, 4] [(0, .int .i64 i), (18, .int .i64 i), (19, .int .i64 (i / 10)), (21, .int .i64 i), (22, .int .i64 (i % 10))] [] 0) ?_ fun m40 => ?_
 refine Tc 2 [5] ⟨?_, ?_, trivial⟩
 have hl41 := dec_len (i / 10) (by omega) (by omega)
 refine Toc 20 (ih _ (by omega) (i / 10) rfl (by omega) (by omega)) ?_
 exact Tm m33
 refine To1 23 (.int .i64 (IntKind.i64.wrap (48 + (i % 10)))) (Ki /\ ·) ⟨rfl, ?_⟩
 refine Tjv (v' := .int .i64 (48 + (i % 10))) (congrArg (AV.int .i64) (wrap64 (by omega) (by omega))) ?_
 exact Tm m34
 refine Hv (p := RT 0 G k47_26 (QD i) 7 [0, 3, 4, 5] [(0, .int .i64 i), (18, .int .i64 i), (21, .int .i64 i), (22, .int .i64 (i % 10)), (23, .int .i64 (48 + (i % 10)))] [] 0) ?_ fun m42 => ?_
 refine Tc 1 [6] ⟨?_, ?_, trivial⟩
 refine To1 19 (.int .i64 (IntKind.i64.wrap (i.tdiv 10))) ((IntKind.i64 = IntKind.i64 /\ (10 : Int) ≠ 0) /\ ·) ⟨⟨rfl, by omega⟩, ?_⟩
 refine Tjv (v' := .int .i64 (i / 10)) (congrArg (AV.int .i64) (wdiv (by omega) (by omega) (by omega))) ?_
 exact Tm m34
 have hu43 := UInt8.toNat_lt (UInt8.ofNat (48 + (i % 10)).toNat)
 refine To0 24 (.int .u8 (IntKind.u8.wrap (48 + (i % 10)))) ?_
 refine Tjv (v' := .int .u8 (((UInt8.ofNat (48 + (i % 10)).toNat).toNat : Nat) : Int)) (w8of (48 + (i % 10)) (by omega) (by omega)) ?_
 exact Tm m37
 refine Hv (p := RT 0 G k47_26 (QD i) 7 [3, 4, 5, 6] [(0, .int .i64 i), (21, .int .i64 i), (22, .int .i64 (i % 10)), (23, .int .i64 (48 + (i % 10))), (24, .int .u8 (((UInt8.ofNat (48 + (i % 10)).toNat).toNat : Nat) : Int))] [] 0) ?_ fun m44 => ?_
 refine Tc 0 [7] ⟨?_, ?_, trivial⟩
 refine To0 18 (.int .i64 i) ?_
 exact Tm m37
 refine To3 25 (.osl 0 1 0 1) [(0, [.int .u8 (((UInt8.ofNat (48 + (i % 10)).toNat).toNat : Nat) : Int)])] 4 ((1 * 1 <= 16777216) /\ ·) ⟨(by decide), ?_⟩
 exact Tm m38
 refine Hv (p := RT 0 G k47_26 (QD i) 8 [0, 1, 2] [(0, .int .i64 i), (18, .int .i64 i), (19, .int .i64 (i / 10)), (20, .str (dec (i / 10)))] [] 0) ?_ fun m45 => ?_
 refine Tc 3 [] ⟨?_, trivial⟩
 refine To0 21 (.int .i64 i) ?_
 exact Tm m39
 refine Hv (p := RT 0 G k47_26 (QD i) 8 [0, 1, 3] [(0, .int .i64 i), (18, .int .i64 i), (19, .int .i64 (i / 10)), (21, .int .i64 i)] [] 0) ?_ fun m46 => ?_
 refine Tc 2 [4] ⟨?_, ?_, trivial⟩
 have hl47 := dec_len (i / 10) (by omega) (by omega)
 refine Toc 20 (ih _ (by omega) (i / 10) rfl (by omega) (by omega)) ?_
 exact Tm m39
 refine To1 22 (.int .i64 (i.tmod 10)) ((IntKind.i64 = IntKind.i64 /\ (10 : Int) ≠ 0) /\ ·) ⟨⟨rfl, by omega⟩, ?_⟩
 refine Tjv (v' := .int .i64 (i % 10)) (congrArg (AV.int .i64) (tmod_nn (by omega))) ?_
 exact Tm m40
 refine Hv (p := RT 0 G k47_26 (QD i) 8 [0, 3, 4] [(0, .int .i64 i), (18, .int .i64 i), (21, .int .i64 i), (22, .int .i64 (i % 10))] [] 0) ?_ fun m48 => ?_
 refine Tc 1 [5] ⟨?_, ?_, trivial⟩
 refine To1 19 (.int .i64 (IntKind.i64.wrap (i.tdiv 10))) ((IntKind.i64 = IntKind.i64 /\ (10 : Int) ≠ 0) /\ ·) ⟨⟨rfl, by omega⟩, ?_⟩
 refine Tjv (v' := .int .i64 (i / 10)) (congrArg (AV.int .i64) (wdiv (by omega) (by omega) (by omega))) ?_
 exact Tm m40
 refine To1 23 (.int .i64 (IntKind.i64.wrap (48 + (i % 10)))) (Ki /\ ·) ⟨rfl, ?_⟩
 refine Tjv (v' := .int .i64 (48 + (i % 10))) (congrArg (AV.int .i64) (wrap64 (by omega) (by omega))) ?_
 exact Tm m42
 refine Hv (p := RT 0 G k47_26 (QD i) 8 [3, 4, 5] [(0, .int .i64 i), (21, .int .i64 i), (22, .int .i64 (i % 10)), (23, .int .i64 (48 + (i % 10)))] [] 0) ?_ fun m49 => ?_
 refine Tc 0 [6] ⟨?_, ?_, trivial⟩
 refine To0 18 (.int .i64 i) ?_
 exact Tm m42
 have hu50 := UInt8.toNat_lt (UInt8.ofNat (48 + (i % 10)).toNat)
 refine To0 24 (.int .u8 (IntKind.u8.wrap (48 + (i % 10)))) ?_
 refine Tjv (v' := .int .u8 (((UInt8.ofNat (48 + (i % 10)).toNat).toNat : Nat) : Int)) (w8of (48 + (i % 10)) (by omega) (by omega)) ?_
 exact Tm m44
 refine Hv (p := RT 0 G k47_26 (QD i) 9 [0, 1] [(0, .int .i64 i), (18, .int .i64 i), (19, .int .i64 (i / 10))] [] 0) ?_ fun m51 => ?_
 refine Tc 2 [3] ⟨?_, ?_, trivial⟩
 have hl52 := dec_len (i / 10) (by omega) (by omega)
 refine Toc 20 (ih _ (by omega) (i / 10) rfl (by omega) (by omega)) ?_
 exact Tm m45
 refine To0 21 (.int .i64 i) ?_
 exact Tm m46
 refine Hv (p := RT 0 G k47_26 (QD i) 9 [0, 3] [(0, .int .i64 i), (18, .int .i64 i), (21, .int .i64 i)] [] 0) ?_ fun m53 => ?_
 refine Tc 1 [4] ⟨?_, ?_, trivial⟩
 refine To1 19 (.int .i64 (IntKind.i64.wrap (i.tdiv 10))) ((IntKind.i64 = IntKind.i64 /\ (10 : Int) ≠ 0) /\ ·) ⟨⟨rfl, by omega⟩, ?_⟩
 refine Tjv (v' := .int .i64 (i / 10)) (congrArg (AV.int .i64) (wdiv (by omega) (by omega) (by omega))) ?_
 exact Tm m46
 refine To1 22 (.int .i64 (i.tmod 10)) ((IntKind.i64 = IntKind.i64 /\ (10 : Int) ≠ 0) /\ ·) ⟨⟨rfl, by omega⟩, ?_⟩
 refine Tjv (v' := .int .i64 (i % 10)) (congrArg (AV.int .i64) (tmod_nn (by omega))) ?_
 exact Tm m48
 refine Hv (p := RT 0 G k47_26 (QD i) 9 [3, 4] [(0, .int .i64 i), (21, .int .i64 i), (22, .int .i64 (i % 10))] [] 0) ?_ fun m54 => ?_
 refine Tc 0 [5] ⟨?_, ?_, trivial⟩
 refine To0 18 (.int .i64 i) ?_
 exact Tm m48
 refine To1 23 (.int .i64 (IntKind.i64.wrap (48 + (i % 10)))) (Ki /\ ·) ⟨rfl, ?_⟩
 refine Tjv (v' := .int .i64 (48 + (i % 10))) (congrArg (AV.int .i64) (wrap64 (by omega) (by omega))) ?_
 exact Tm m49
 refine Hv (p := RT 0 G k47_26 (QD i) 10 [0] [(0, .int .i64 i), (18, .int .i64 i)] [] 0) ?_ fun m55 => ?_
 refine Tc 1 [3] ⟨?_, ?_, trivial⟩
 refine To1 19 (.int .i64 (IntKind.i64.wrap (i.tdiv 10))) ((IntKind.i64 = IntKind.i64 /\ (10 : Int) ≠ 0) /\ ·) ⟨⟨rfl, by omega⟩, ?_⟩
 refine Tjv (v' := .int .i64 (i / 10)) (congrArg (AV.int .i64) (wdiv (by omega) (by omega) (by omega))) ?_
 exact Tm m51
 refine To0 21 (.int .i64 i) ?_
 exact Tm m53
 refine Hv (p := RT 0 G k47_26 (QD i) 10 [3] [(0, .int .i64 i), (21, .int .i64 i)] [] 0) ?_ fun m56 => ?_
 refine Tc 0 [4] ⟨?_, ?_, trivial⟩
 refine To0 18 (.int .i64 i) ?_
 exact Tm m53
 refine To1 22 (.int .i64 (i.tmod 10)) ((IntKind.i64 = IntKind.i64 /\ (10 : Int) ≠ 0) /\ ·) ⟨⟨rfl, by omega⟩, ?_⟩
 refine Tjv (v' := .int .i64 (i % 10)) (congrArg (AV.int .i64) (tmod_nn (by omega))) ?_
 exact Tm m54
 refine Tc 0 [3] ⟨?_, ?_, trivial⟩
 refine To0 18 (.int .i64 i) ?_
 exact Tm m55
 refine To0 21 (.int .i64 i) ?_
 exact Tm m56
open Go Go.Proofs
theorem l4Full_ok (b : Str) (p : Nat) (hp : p < 2 ^ 25) (hb : b.length < 2 ^ 30) : RC G 26 [] b p (fun r p' => ∃ x : Tr, x.W < 2 ^ 12 /\ r = .agg (tcs x) /\ p' <= p + 40) := by
 refine h_rc (F := [(0, .ptr 0 0)]) (by simp only [go_sem]) Try.func26 (by kernel_rfl) (by kernel_rfl) ?_ (by kernel_rfl)
 refine Rr (Fn2 [0] [(2, .ptr 4 0)] [(4, zt), (0, rdc b p)] 8 (Rr (Fn3 [0, 2] [(3, .ptr 8 0)] [(8, [.bool true, .int .i64 0, .str [], .nils, .nils]), (4, zt), (0, rdc b p)] 12 ((true = true /\ 5 = 5 /\ 0 + 5 <= 5) /\ ·) ⟨(by decide), Sq fun K3 hK3 => ?_⟩)))
 refine Rr (Fn0 [0, 2, 3] [(4, .int .i64 0)] (Bl (h_lo (H' := [(8, tcs ((Tr.mk true 0 [] [] []))), (4, zt), (0, rdc b p)]) ⟨⟨rfl, (by simp [lea, leas, pth, tcs, clc])⟩, ⟨rfl, leas_refl _⟩, ⟨rfl, leas_refl _⟩, trivial⟩ (h_l (fun (z : Tr × Nat × Nat) => (match z with | (x, q, k) => ([(0, .ptr 0 0), (2, .ptr 4 0), (3, .ptr 8 0), (4, .int .i64 k)] : Fr))) (fun (z : Tr × Nat × Nat) => (match z with | (x, q, k) => ([(8, tcs x), (4, zt), (0, rdc b q)] : Hp))) (fun (z : Tr × Nat × Nat) cn => (match z with | (x, q, k) => (x.W < 2 ^ 12 /\ q <= p + k /\ k <= 30) /\ cn = 12)) (fun (z : Tr × Nat × Nat) => 31 - z.2.2) (((Tr.mk true 0 [] [] [])), p, 0) (by kernel_rfl) ?_ ?_ ?_ ?_))))
 refine ⟨?_, rfl⟩; exact ⟨by simp [Tr.W, wS, Tr.Ws], by omega, by omega⟩
 exact ⟨by kernel_rfl, by kernel_rfl, by kernel_rfl, by kernel_rfl, trivial⟩
 exact (sub_c (by kernel_rfl) (sub_c (by kernel_rfl) (sub_c (by kernel_rfl) (List.nil_sublist _))))
 rintro ⟨x, q, k⟩ n1 hI
 (try dsimp only at hI)
 obtain ⟨⟨hi1, hi2, hi3⟩, rfl⟩ := hI
 refine Sq fun K5 hK5 => ?_
 refine Rr (Bc0 3 [(7, .ptr 0 0), (6, .int .i64 k)] 23 [.ptr 0 0, .int .i64 3] 8 (RC.use (pick_ok b q 3 (by omega) (by omega) (by omega) (by omega)) (by kernel_rfl) fun r p1 hr => ?_)); obtain ⟨pk7, hpk7, rfl, rfl⟩ := hr
 refine Ke (Av1 (r := .int .i64 (IntKind.i64.wrap (30 - (pk7 : Int)))) (v := .int .i64 (30 - (pk7 : Int))) 1 9 [] (congrArg (AV.int .i64) (wrap64 (by omega) (by omega))) (Ki /\ ·) ⟨rfl, Cn1 (decide ((k : Int) < (30 - (pk7 : Int)))) [0, 2, 3, 4] [] (Ki /\ ·) ⟨rfl, fun hc8 c8 => ?_, fun hc8 c8 => ?_⟩⟩)
 try simp only [KF] at c8
 refine Sk (Jn (hK5 (Kp [0, 2, 3, 4] (Sq fun K9 hK9 => ?_))))
 refine Bl (Qb [0, 0, 2, 6, 14, 30, 62, 127, 255, 511, 511, 1023] [(0, []), (1, []), (2, []), (3, [0]), (4, []), (5, [0]), (6, []), (7, []), (8, []), (9, []), (10, []), (11, [])] (fun h => Bn (Jn (hK9 h))) (qAv1 3 16 [(15, .int .i64 k), (14, .agg (tcs x))] (congrArg (AV.int .i64) (wnn 100 k (by omega))) ((0 + 5 <= 5 /\ 0 < 5) /\ Ki /\ ·) ⟨(by decide), rfl, qBc0 1 [] [0] 47 [.int .i64 ((100 + k : Nat) : Int)] 17 ?_⟩))
 have hl10 := dec_len ((100 + k : Nat) : Int) (by omega) (by omega)
 refine PE.use (l1Dec_ok _ ((100 + k : Nat) : Int) rfl (by omega) (by omega)) ?_
 refine Kq (p := (((0 + 5 <= 5 /\ 0 < 5) /\ (AV.agg (tcs x) = (.agg (tcs x) : AV))) /\ True)) ⟨⟨(by decide), rfl⟩, trivial⟩ ?_
 refine qBc3 4 [(20, .agg [.int .i64 2, .osl 12 1 0 1, .nils, .int .i64 0, .str []]), (19, .osl 12 1 0 1), (18, .str ([102] ++ (dec ((100 + k : Nat) : Int))))] [] 6 [.agg (tcs x), .agg [.int .i64 2, .osl 12 1 0 1, .nils, .int .i64 0, .str []]] 21 [(12, [.str ([102] ++ (dec ((100 + k : Nat) : Int)))]), (8, tcs x), (4, zt), (0, rdc b (q + 1))] 16 (([102].length + (dec ((100 + k : Nat) : Int)).length <= 9223372036854775807) /\ (1 * 1 <= 16777216) /\ (((0 + 5 <= 5 /\ 0 < 5) /\ (AV.agg (tcs x) = (.agg (tcs x) : AV))) /\ True) /\ ·) ⟨(by simp only [List.length_cons, List.length_nil]; omega), (by decide), ⟨⟨(by decide), rfl⟩, trivial⟩, ?_⟩
 refine Tz 12 1 1 ([[.str ([102] ++ (dec ((100 + k : Nat) : Int)))]]) ([.str ([102] ++ (dec ((100 + k : Nat) : Int)))]) [.agg (tcs x), .agg [.int .i64 2, pth [[102] ++ (dec ((100 + k : Nat) : Int))], .nils, .int .i64 0, .str []]] [(8, tcs x), (4, zt), (0, rdc b (q + 1))] [true, true, true] (by kernel_rfl) (by first | decide | simp) ?_
 have hB11 := W_sTreeDo x (Cl.mk 2 [[102] ++ (dec ((100 + k : Nat) : Int))] [] 0 []) (by omega)
 refine TCall_le [.agg (tcs x), .agg (clc (Cl.mk 2 [[102] ++ (dec ((100 + k : Nat) : Int))] [] 0 []))] (by simp [lea, leas, pth, Tr.none, tcs, clc]) ?_
 refine PE.use (sTreeDo_ok x (Cl.mk 2 [[102] ++ (dec ((100 + k : Nat) : Int))] [] 0 []) (by omega) (by first | omega | decide | (dsimp only; first | omega | decide) | (simp only [wS, List.length_append, List.length_cons, List.length_nil]; omega)) (by first | omega | decide | (dsimp only; first | omega | decide) | (simp only [wS, List.length_append, List.length_cons, List.length_nil]; omega)) (by first | omega | decide | (dsimp only; first | omega | decide) | (simp only [wS, List.length_append, List.length_cons, List.length_nil]; omega))) ?_
 refine Kq (p := (True)) trivial ?_
 refine qFn3 [0, 2, 3, 4] [] [(8, tcs ((sTreeDo x (Cl.mk 2 [[102] ++ (dec ((100 + k : Nat) : Int))] [] 0 [])).1)), (4, zt), (0, rdc b (q + 1))] 16 ((0 < 2) /\ (1 < 2) /\ (true = true /\ 5 = 5 /\ 0 + 5 <= 5) /\ (True) /\ ·) ⟨(by decide), (by decide), (by decide), trivial, Rn (Av1 2 12 [(11, .int .i64 k)] (congrArg (AV.int .i64) (wn1 k (by omega))) (Ki /\ ·) ⟨rfl, Gn0 [(4, .int .i64 ((k + 1 : Nat) : Int))] (nk_n ?_)⟩)⟩
 refine Lr (((sTreeDo x (Cl.mk 2 [[102] ++ (dec ((100 + k : Nat) : Int))] [] 0 [])).1), q + 1, k + 1) [(0, 0), (4, 4), (8, 8)] 12 [(0, .ptr 0 0), (2, .ptr 4 0), (3, .ptr 8 0), (4, .int .i64 ((k + 1 : Nat) : Int))] [(8, tcs ((sTreeDo x (Cl.mk 2 [[102] ++ (dec ((100 + k : Nat) : Int))] [] 0 [])).1)), (4, zt), (0, rdc b (q + 1))] [true, true, true] ?_ ?_ (by kernel_rfl) (by kernel_rfl)
 (try dsimp only); omega
 refine ⟨?_, rfl⟩; (try dsimp only); exact ⟨by omega, by omega, by omega⟩
 try simp only [KF] at c8
 refine Xt (Jx (Lx (Bh (Jn (hK3 (Kp [2, 3] (Rr (Fn3 [2] [] [(8, tcs x), (4, tcs x), (0, rdc b (q + 1))] 12 ((0 + 5 <= 5 /\ 0 < 5) /\ (true = true /\ 5 = 5 /\ 0 + 5 <= 5) /\ ·) ⟨(by decide), (by decide), Rt1 ((0 + 5 <= 5 /\ 0 < 5) /\ ·) (.agg (tcs x)) ⟨(by decide), ?_⟩⟩))))))))
 exact fin_rc (q + 1) (by first | exact lea_refl _ | simp [lea, leas, pth, tcs]) (by simp only [go_sem]) (by kernel_rfl) ⟨x, by omega, rfl, by omega⟩
end Go.Proofs.YtenfnlcpaenhnaaT
