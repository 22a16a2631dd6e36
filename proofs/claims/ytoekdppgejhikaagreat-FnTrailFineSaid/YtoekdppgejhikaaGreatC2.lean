/- A part of the proof that FnTrailFine, on every slice of bytes, returns true (no conditions): rules of the walk, and what the functions compute. -/
import Derived.Test.YtoekdppgejhikaaGreatC1
set_option linter.unusedVariables false
set_option linter.unusedSimpArgs false
namespace Go.Proofs.YtoekdppgejhikaaGreatT
open Go
theorem trd_any {G : Prg} {A : Array Oper} {F : Fr} {H : Hp} {n : Nat} {K : RK} (B : List Nat) (ord : List Nat) (hc : okD A.toList B ord = true) (hM : okMk G A.toList = true)
  (h : runC G A.toList B ord [] F H n K) {X : Nat -> Prop} {N : Nat} {ρ : Rho} {a : Act} {w : World} (hs : S X N ρ n F H a w) (hN : okOps N A = true) {Q' : Exit -> Act -> World -> Prop}
  (hQ : ∀ ρ' F' H' n' a' w', S X N ρ' n' F' H' a' w' -> Nx ρ H w n ρ' H' w' n' -> K F' H' n' -> Q' .normal a' w') :
  wpAny G.P .any A Q' A.size (Array.replicate A.size false) a { w with drawn := w.drawn + 1 } := by
 simp only [okD, Bool.and_eq_true, List.all_eq_true] at hc
 obtain ⟨hB, hO, hR, hD, hall⟩ := hc
 have hcar : Carry ρ ρ w { w with drawn := w.drawn + 1 } (OX X ρ H) (OX X ρ H) := ⟨fun _ _ h => h, Nat.le_refl _, fun _ _ _ => rfl, fun b cs e f h => ⟨cs, h, rfl⟩, fun _ _ h => h⟩
 have hs1 : S X N ρ n F H a { w with drawn := w.drawn + 1 } := ⟨hs.fresh, hs.hr.carry hcar (fun _ _ => rfl) (fun _ _ => rfl), fun t => VR_carry hcar _ _ (hs.fr t), hs.df, hs.sz⟩
 have hfalse : ∀ j, (Array.replicate A.size false).getD j false = false := by
  intro j
  rw [Array.getD_eq_getD_getElem?]
  by_cases hj : j < A.size <;> simp [hj]
 have hA : At G A B (Array.replicate A.size false) [] ord [] [] F H n K := by
  refine ⟨hO, fun i hi => .inr ?_, by simp, by simp, fun j hj => ?_, by simp, by simp, h⟩
  ·have := hall i (by simpa using hi); simpa using this
  ·rw [hfalse] at hj; cases hj
 have hc0 : ∀ k o, A.toList[k]? = some o -> (Array.replicate A.size false).getD k false = true -> ∀ j, j ∈ prs o -> (Array.replicate A.size false).getD j false = true := fun k o _ hk => by rw [hfalse] at hk; cases hk
 have hn1 : Nx ρ H w n ρ H { w with drawn := w.drawn + 1 } n := ⟨fun _ _ h => h, Nat.le_refl _, ⟨rfl, rfl, rfl, Nat.le_refl _, fun _ _ _ => rfl, fun b cs e f h => ⟨cs, h, rfl⟩⟩, fun b hb => .inl hb⟩
 obtain ⟨s', r', d', l', F', H', n', ρ', pn', k1, k2, k3, k4, k5⟩ := settle (X := X) (N := N) (a := a) (w := { w with drawn := w.drawn + 1 }) (ρ0 := ρ) (H0 := H) (w0 := w) (n0 := n) hB hR hD hc0 _ _ _ _ _ _ _ _ _ hA
  (by rw [XP_nil]; exact hs1.re fun t => (gt_msk').symm) hn1 ⟨by simp, by simp, fun j o _ _ hl => (by rw [hfalse] at hl; cases hl), by simp⟩
 exact draw_all (Q' := Q') hB hR hD hM hN (ρ0 := ρ) (H0 := H) (w0 := w) (n0 := n) hQ
  A.size _ a _ ρ' n' F' H' s' r' d' l' pn' k2 k3 k1 k4 k5 hc0 (by simp) (Nat.le_trans List.countP_le_length (by simp))
section
variable {P : Program} {A : Array Oper} {o : Oper} {Q : Exit -> Act -> World -> Prop}
def Qe (o : Oper) (P : Program) (Q : Exit -> Act -> World -> Prop) : Exit -> Act -> World -> Prop := fun e a w => match e with
 | .normal => o.wp P a w (fun a' w' => Q .normal a' w') Q
 | e => Q e a w
theorem upon_qe {o' : Oper} {a : Act} {K : Act -> World -> Prop} {r : Result Next} (h : o'.upon P a K (Qe o P Q) r) : o'.upon P a K Q r := by
 unfold Oper.upon at h ⊢
 split at h <;> first | exact h | (simp only [Qe] at h; exact h) | (simp only [Qe, LetsOut] at h ⊢; exact h)
def gin (L : List Oper) : Bool := L.all fun o => match o.guard with | none => true | some (j, _) => Nat.blt j L.length
theorem wpAny_last (hg : gin A.toList = true) (hgo : o.guard = none) (hA : ∀ i oi, A[i]? = some oi -> ∀ j, j ∈ prs oi -> j < i) (ho : ∀ j, j < A.size ↔ j ∈ prs o) :
  ∀ (fuel : Nat) (lA l : Array Bool) (a : Act) (w : World), l.size = A.size + 1 -> lA.size = A.size -> (∀ j, j < A.size -> l.getD j false = lA.getD j false) -> l.getD A.size false = false ->
   wpAny P .any A (Qe o P Q) fuel lA a w -> wpAny P .any (A.push o) Q (fuel + 1) l a w := by
 have hget : ∀ i, i < A.size -> (A.push o)[i]? = A[i]? := fun i hi => by rw [Array.getElem?_push, if_neg (by omega)]
 have hgetl : (A.push o)[A.size]? = some o := by simp
 have hbt : ∀ {l : Array Bool} {i : Nat}, i < l.size -> l.getD i true = l.getD i false := fun {l i} hi => by
  rw [Array.getD_eq_getD_getElem?, Array.getD_eq_getD_getElem?, Array.getElem?_eq_getElem hi]; rfl
 have hprs : ∀ (o' : Oper) (l : Array Bool), (∀ e, e ∈ o'.after.toList -> Region.binds .any e = true -> l.getD e.on false = true) ↔ ∀ j, j ∈ prs o' -> l.getD j false = true := by
  intro o' l
  constructor
  ·intro h j hj
   obtain ⟨e, he, hej⟩ := List.mem_filterMap.1 hj
   cases hb : Region.binds .any e with
   | false => rw [hb] at hej; cases hej
   | true => rw [hb] at hej; simp only [cond_true, Option.some.injEq] at hej; subst hej; exact h e he hb
  ·intro h e he hb
   exact h _ (List.mem_filterMap.2 ⟨e, he, by simp [hb]⟩)
 have hrd : ∀ (lA l : Array Bool), l.size = A.size + 1 -> lA.size = A.size -> (∀ j, j < A.size -> l.getD j false = lA.getD j false) -> l.getD A.size false = false -> ∀ i, i ∈ Region.ready .any (A.push o) l ↔ (i ∈ Region.ready .any A lA \/ (i = A.size /\ ∀ j, j < A.size -> lA.getD j false = true)) := by
  intro lA l h1 h2 h3 h4 i
  rw [mem_ready, mem_ready]
  constructor
  ·rintro ⟨k1, o', k2, k3⟩
   have hi : i < (A.push o).size := (Array.getElem?_eq_some_iff.1 k2).1
   rw [Array.size_push] at hi
   by_cases hia : i = A.size
   ·subst hia
    rw [hgetl] at k2; cases k2
    refine .inr ⟨rfl, fun j hj => ?_⟩
    rw [<- h3 j hj]
    exact (hprs o l).1 (fun e he hb => k3 e (by simpa using he) hb) j ((ho j).1 hj)
   ·have hi : i < A.size := by omega
    rw [hget i hi] at k2
    refine .inl ⟨?_, o', k2, fun e he hb => ?_⟩
    ·rw [hbt (by omega), <- h3 i hi, <- hbt (by omega)]; exact k1
    ·have hj := (hprs o' l).1 (fun e he hb => k3 e (by simpa using he) hb)
     have hlt : e.on < i := hA i o' k2 _ (List.mem_filterMap.2 ⟨e, by simpa using he, by simp [hb]⟩)
     rw [<- h3 _ (by omega)]
     exact k3 e he hb
  ·rintro (⟨k1, o', k2, k3⟩ | ⟨rfl, hall⟩)
   ·have hi : i < A.size := (Array.getElem?_eq_some_iff.1 k2).1
    refine ⟨?_, o', by rw [hget i hi]; exact k2, fun e he hb => ?_⟩
    ·rw [hbt (by omega), h3 i hi, <- hbt (by omega)]; exact k1
    ·have hlt : e.on < i := hA i o' k2 _ (List.mem_filterMap.2 ⟨e, by simpa using he, by simp [hb]⟩)
     rw [h3 _ (by omega)]
     exact k3 e he hb
   ·refine ⟨by rw [hbt (by omega)]; exact h4, o, hgetl, fun e he hb => ?_⟩
    have hj : e.on ∈ prs o := List.mem_filterMap.2 ⟨e, by simpa using he, by simp [hb]⟩
    have := (ho _).2 hj
    rw [h3 _ this]
    exact hall _ this
 have hend : ∀ (fuel : Nat) (lA l : Array Bool) (a : Act) (w : World), l.size = A.size + 1 -> lA.size = A.size -> (∀ j, j < A.size -> l.getD j false = lA.getD j false) -> l.getD A.size false = false -> Region.ready .any A lA = [] -> Qe o P Q .normal a w -> wpAny P .any (A.push o) Q (fuel + 1) l a w := by
  intro fuel lA l a w h1 h2 h3 h4 hr hq
  have hall : ∀ j, j < A.size -> lA.getD j false = true := by
   intro j
   induction j using Nat.strongRecOn with
   | _ j ih =>
    intro hj
    cases hx : lA.getD j false
    ·exfalso
     have : j ∈ Region.ready .any A lA := by
      rw [mem_ready]
      refine ⟨by rw [hbt (by omega)]; exact hx, A[j], Array.getElem?_eq_getElem hj, fun e he hb => ?_⟩
      have hlt : e.on < j := hA j _ (Array.getElem?_eq_getElem hj) _ (List.mem_filterMap.2 ⟨e, by simpa using he, by simp [hb]⟩)
      exact ih _ hlt (by omega)
     rw [hr] at this; simp at this
    ·rfl
  have hready : ∀ i, i ∈ Region.ready .any (A.push o) l ↔ i = A.size := fun i => by
   rw [hrd lA l h1 h2 h3 h4 i, hr]
   exact ⟨fun h => h.elim (fun h => by simp at h) (·.1), fun h => .inr ⟨h, hall⟩⟩
  refine ⟨fun he => ?_, fun i hi => ?_⟩
  ·exfalso
   have := (hready A.size).2 rfl
   rw [he] at this; simp at this
  ·rw [hready] at hi; subst hi
   unfold wpOp
   rw [hgetl]
   dsimp only
   rw [if_pos (by simp [Region.wanted, hgo])]
   refine .inl (Oper.wp_mono (fun a' w' hq' => ?_) hq)
   have hl' : ∀ j, (l.setIfInBounds A.size true).getD j false = true \/ A.size < j := by
    intro j
    rcases Nat.lt_trichotomy j A.size with hj | hj | hj
    ·left
     rw [Array.getD_eq_getD_getElem?, Array.getElem?_setIfInBounds, if_neg (by omega), <- Array.getD_eq_getD_getElem?, h3 j hj]
     exact hall j hj
    ·left
     subst hj
     rw [Array.getD_eq_getD_getElem?, Array.getElem?_setIfInBounds, if_pos rfl, if_pos (by omega)]; rfl
    ·exact .inr hj
   have hnone : Region.ready .any (A.push o) (l.setIfInBounds A.size true) = [] := by
    rw [List.eq_nil_iff_forall_not_mem]
    intro i hi
    rw [mem_ready] at hi
    obtain ⟨k1, o', k2, _⟩ := hi
    have hi : i < (A.push o).size := (Array.getElem?_eq_some_iff.1 k2).1
    rw [Array.size_push] at hi
    rw [hbt (by simp; omega)] at k1
    rcases hl' i with h | h
    ·rw [h] at k1; cases k1
    ·omega
   cases fuel with
   | zero => exact ⟨hnone, hq'⟩
   | succ fuel => exact ⟨fun _ => hq', fun i hi => by rw [hnone] at hi; simp at hi⟩
 intro fuel
 induction fuel with
 | zero =>
  intro lA l a w h1 h2 h3 h4 h
  exact hend 0 lA l a w h1 h2 h3 h4 h.1 h.2
 | succ fuel ih =>
  intro lA l a w h1 h2 h3 h4 h
  by_cases hr : Region.ready .any A lA = []
  ·exact hend (fuel + 1) lA l a w h1 h2 h3 h4 hr (h.1 hr)
  ·refine ⟨fun he => ?_, fun i hi => ?_⟩
   ·exfalso
    apply hr
    rw [List.eq_nil_iff_forall_not_mem] at he ⊢
    intro i hi
    exact he i ((hrd lA l h1 h2 h3 h4 i).2 (.inl hi))
   ·rcases (hrd lA l h1 h2 h3 h4 i).1 hi with hi | ⟨rfl, hall⟩
    ·have hk := h.2 i hi
     have hia : i < A.size := by
      obtain ⟨_, o', k2, _⟩ := mem_ready.1 hi
      exact (Array.getElem?_eq_some_iff.1 k2).1
     unfold wpOp at hk ⊢
     rw [hget i hia]
     rw [Array.getElem?_eq_getElem hia] at hk ⊢
     dsimp only at hk ⊢
     have hw : Region.wanted A[i] (yielded (A.push o) a.tmps) = Region.wanted A[i] (yielded A a.tmps) := by
      unfold gin at hg
      rw [List.all_eq_true] at hg
      have := hg A[i] (by simp)
      unfold Region.wanted
      cases hgd : A[i].guard with
      | none => rfl
      | some g =>
       rw [hgd] at this
       obtain ⟨gj, gb⟩ := g
       have hlt : gj < A.size := by simpa [Nat.blt_eq] using this
       simp only [yielded, hget gj hlt]
     rw [hw]
     have hset : ∀ j, (l.setIfInBounds i true).getD j false = if j = i then true else l.getD j false := fun j => by
      rw [Array.getD_eq_getD_getElem?, Array.getElem?_setIfInBounds]
      by_cases e : i = j
      ·subst e; simp [show i < l.size by omega]
      ·rw [if_neg e, if_neg (fun h => e h.symm), Array.getD_eq_getD_getElem?]
     have hsetA : ∀ j, (lA.setIfInBounds i true).getD j false = if j = i then true else lA.getD j false := fun j => by
      rw [Array.getD_eq_getD_getElem?, Array.getElem?_setIfInBounds]
      by_cases e : i = j
      ·subst e; simp [show i < lA.size by omega]
      ·rw [if_neg e, if_neg (fun h => e h.symm), Array.getD_eq_getD_getElem?]
     cases hwt : Region.wanted A[i] (yielded A a.tmps) with
     | false =>
      rw [hwt] at hk
      simp only [Bool.false_eq_true, if_false] at hk ⊢
      exact ih _ _ _ w (by simp [h1]) (by simp [h2]) (fun j hj => by rw [hset, hsetA, h3 j hj]) (by rw [hset, if_neg (by omega)]; exact h4) hk
     | true =>
     rw [hwt, if_pos rfl] at hk
     rw [if_pos rfl]
     refine hk.imp (fun hk => ?_) (fun hk => ⟨hk.1, ?_⟩)
     ·unfold Oper.wp at hk ⊢
      refine upon_qe (o := o) (P := P) (Q := Q) ?_
      have := Oper.wp_mono (P := P) (Q := Qe o P Q) (o := A[i]) (a := a) (w := w) (K := wpAny P .any A (Qe o P Q) fuel (lA.setIfInBounds i true)) (K' := wpAny P .any (A.push o) Q (fuel + 1) (l.setIfInBounds i true)) (fun a' w' hk' => ih _ _ a' w' (by simp [h1]) (by simp [h2]) (fun j hj => by rw [hset, hsetA, h3 j hj]) (by rw [hset, if_neg (by omega)]; exact h4) hk') hk
      exact this
     ·obtain ⟨a', w', hq⟩ := hk.2
      exact ⟨a', w', hq⟩
    ·exfalso
     apply hr
     rw [List.eq_nil_iff_forall_not_mem]
     intro i hi
     obtain ⟨k1, o', k2, _⟩ := mem_ready.1 hi
     have hia := (Array.getElem?_eq_some_iff.1 k2).1
     rw [hbt (by omega), hall i hia] at k1
     cases k1
end
def okLast (L : List Oper) (o : Oper) : Bool := gin L && ((match o.guard with | none => true | some _ => false) && ((List.range L.length).all (fun j => (prs o).contains j) && ((prs o).all fun j => Nat.blt j L.length)))
theorem trq_last {G : Prg} {A : Array Oper} {o : Oper} {id : Nat} {F : Fr} {H : Hp} {n : Nat} {Q : Post} (B : List Nat) (pl : List (Nat × List Nat)) (hc : okPq G A.toList B pl = true) (hl : okLast A.toList o = true)
  (h : runQ G A.toList pl F H n (fun F' H' n' => runR G (NK Q) o.dst F' H' n' (eo G o.op F' H' n'))) : T G.P (.region id (A.push o) true) F H n Q := by
 simp only [okPq, Bool.and_eq_true] at hc
 have hd := hc.2.2.1
 simp only [okD, Bool.and_eq_true] at hd
 have hC := runQ_runC (okCv_at hc.2.1) hd.2.2.1 hd.2.2.2.1 hd.2.1 hc.2.2.2 (by simp) (by simp) h
 simp only [okLast, Bool.and_eq_true, List.all_eq_true, List.mem_range] at hl
 obtain ⟨l1, l2, l3, l4⟩ := hl
 intro X N ρ a w hs hN
 simp only [codeOk] at hN
 have hNA : okOps N A = true /\ ∀ d, o.dst = some d -> d < N := by
  unfold okOps at hN ⊢
  rw [Array.toList_push, List.all_append, Bool.and_eq_true] at hN
  refine ⟨hN.1, fun d hd => ?_⟩
  have := hN.2
  simp only [List.all_cons, hd, List.all_nil, Bool.and_true, decide_eq_true_eq] at this
  exact this
 refine wp_region_any G.mixed ?_
 have hgo : o.guard = none := by
  cases hg : o.guard with
  | none => rfl
  | some g => rw [hg] at l2; cases l2
 rw [Array.size_push]
 refine wpAny_last l1 hgo (fun i oi hi j hj => (okB_at hd.1 (by simpa using hi)).1 j hj) (fun j => ⟨fun hj => by simpa using l3 j (by simpa using hj), fun hj => by have := l4 j hj; rw [Nat.blt_eq] at this; simpa using this⟩)
  A.size (Array.replicate A.size false) _ a _ (by simp) (by simp) (fun j hj => by
   rw [Array.getD_eq_getD_getElem?, Array.getD_eq_getD_getElem?]
   simp [hj, show j < A.size + 1 by omega]) (by rw [Array.getD_eq_getD_getElem?]; simp) ?_
 refine trd_any B _ hc.2.2.1 hc.1 hC hs hNA.1 ?_
 intro ρ' F' H' n' a' w' h1 h2 h3
 show o.wp G.P a' w' _ _
 refine runR_put h1 hNA.2 ?_ _ (eo_sound o h1) h3
 rintro ρ2 F2 H2 n2 a2 w2 k1 k2 k3 _
 exact ⟨ρ2, F2, H2, n2, k1, h2.trans k2, k3⟩
section
variable {np : Nat} {G : Prg} {c : Code} {F : Fr} {H : Hp} {n id : Nat} {Q : Post} {L : List Oper} {pl : List (Nat × List Nat)}
def pp (c : Code) : List Oper := (ro c).toList.dropLast
def po (c : Code) : Oper := (ro c).toList.getLastD { dst := none, op := .move (.tmp 0), type := 0, pos := "", after := #[], guard := none }
theorem h_sl (B : List Nat) (hc : c = .seq (.region id ((pp (q1 c)).toArray.push (po (q1 c))) true) (q2 c)) (hL : pp (q1 c) = L) (hp : okPq G L B pl = true) (hl : okLast L (po (q1 c)) = true) (h : ∀ K : RK, (∀ F H n, TT np G.P (q2 c) F H n Q -> K F H n) -> runq G L pl 0 F H n (fun F' H' n' => runR G K (po (q1 c)).dst F' H' n' (eo G (po (q1 c)).op F' H' n'))) : TT np G.P c F H n Q := by
 rw [hc]; subst hL
 exact ttvs fun K hK => (trq_last (Q := JK K Q) (A := (pp (q1 c)).toArray) B pl (by simpa using hp) (by simpa using hl) (by
  have := h K hK
  rw [show NK (JK K Q) = K from rfl]
  exact this)).tt
theorem h_ql (B : List Nat) (hc : c = .region id ((pp c).toArray.push (po c)) true) (hL : pp c = L) (hp : okPq G L B pl = true) (hl : okLast L (po c) = true) (h : runq G L pl 0 F H n (fun F' H' n' => runR G (NK Q) (po c).dst F' H' n' (eo G (po c).op F' H' n'))) : TT np G.P c F H n Q := by
 rw [hc]; subst hL
 exact (trq_last (A := (pp c).toArray) B pl (by simpa using hp) (by simpa using hl) h).tt
theorem Sl (B : List Nat) (pl : List (Nat × List Nat)) (h : ∀ K : RK, (∀ F H n, TT np G.P (q2 c) F H n Q -> K F H n) -> runq G (pp (q1 c)) pl 0 F H n (fun F' H' n' => runR G K (po (q1 c)).dst F' H' n' (eo G (po (q1 c)).op F' H' n'))) (hc : c = .seq (.region (rid (q1 c)) ((pp (q1 c)).toArray.push (po (q1 c))) true) (q2 c) := by kernel_rfl) (hp : okPq G (pp (q1 c)) B pl = true := by kernel_rfl) (hl : okLast (pp (q1 c)) (po (q1 c)) = true := by kernel_rfl) : TT np G.P c F H n Q := h_sl B hc rfl hp hl h
theorem Ql (B : List Nat) (pl : List (Nat × List Nat)) (h : runq G (pp c) pl 0 F H n (fun F' H' n' => runR G (NK Q) (po c).dst F' H' n' (eo G (po c).op F' H' n'))) (hc : c = .region (rid c) ((pp c).toArray.push (po c)) true := by kernel_rfl) (hp : okPq G (pp c) B pl = true := by kernel_rfl) (hl : okLast (pp c) (po c) = true := by kernel_rfl) : TT np G.P c F H n Q := h_ql B hc rfl hp hl h
theorem Qlb {b : Code} {Q' : Post} (B : List Nat) (pl : List (Nat × List Nat)) (hQ : ∀ {F H n}, TT np G.P b F H n Q' -> Q .normal F H n) (h : runq G (pp c) pl 0 F H n (fun F' H' n' => runR G (CF np G b Q') (po c).dst F' H' n' (eo G (po c).op F' H' n'))) (hc : c = .region (rid c) ((pp c).toArray.push (po c)) true := by kernel_rfl) (hp : okPq G (pp c) B pl = true := by kernel_rfl) (hl : okLast (pp c) (po c) = true := by kernel_rfl) : TT np G.P c F H n Q :=
 Ql B pl (runQ_mono (fun F H n k => runR_mono (fun F H n h => hQ h) k) h) hc hp hl
theorem Cfi (ks : List Nat) (h : TT np G.P c (keepF ks F) H n Q) : CF np G c Q F H n := TT_weak (keepF_sub F ks) (List.Sublist.refl _) h
theorem Lo {K : RK} {o : Oper} (d : Nat) (v : AV) (P : Prop -> Prop) (h : P (K ((d, v) :: F) H n)) (e : ∀ X : RK, runR G X o.dst F H n (eo G o.op F H n) = P (X ((d, v) :: F) H n) := by intro X; kernel_rfl) : runR G K o.dst F H n (eo G o.op F H n) := by rw [e K]; exact h
end
inductive OT where
 | mk (dir : Bool) (mode : Int) (data : Str) (ids : Option (Nat × Nat)) (names : List Str) (kids : List OT)
instance : Inhabited OT := ⟨.mk false 0 [] none [] []⟩
namespace OT
def dir : OT -> Bool | .mk d _ _ _ _ _ => d
def mode : OT -> Int | .mk _ m _ _ _ _ => m
def data : OT -> Str | .mk _ _ s _ _ _ => s
def ids : OT -> Option (Nat × Nat) | .mk _ _ _ i _ _ => i
def names : OT -> List Str | .mk _ _ _ _ n _ => n
def kids : OT -> List OT | .mk _ _ _ _ _ k => k
end OT
@[simp] theorem OT.dir_mk (d : Bool) (m : Int) (s : Str) (i : Option (Nat × Nat)) (n : List Str) (k : List OT) : (OT.mk d m s i n k).dir = d := rfl
@[simp] theorem OT.mode_mk (d : Bool) (m : Int) (s : Str) (i : Option (Nat × Nat)) (n : List Str) (k : List OT) : (OT.mk d m s i n k).mode = m := rfl
@[simp] theorem OT.data_mk (d : Bool) (m : Int) (s : Str) (i : Option (Nat × Nat)) (n : List Str) (k : List OT) : (OT.mk d m s i n k).data = s := rfl
@[simp] theorem OT.ids_mk (d : Bool) (m : Int) (s : Str) (i : Option (Nat × Nat)) (n : List Str) (k : List OT) : (OT.mk d m s i n k).ids = i := rfl
@[simp] theorem OT.names_mk (d : Bool) (m : Int) (s : Str) (i : Option (Nat × Nat)) (n : List Str) (k : List OT) : (OT.mk d m s i n k).names = n := rfl
@[simp] theorem OT.kids_mk (d : Bool) (m : Int) (s : Str) (i : Option (Nat × Nat)) (n : List Str) (k : List OT) : (OT.mk d m s i n k).kids = k := rfl
def sln : Option (Nat × Nat) -> Nat -> AV | none, _ => .nils | some (a, _), l => .osl (2 * a + 1) 1 0 l
def slk : Option (Nat × Nat) -> Nat -> AV | none, _ => .nils | some (_, b), l => .osl (2 * b + 1) 5 0 l
def otc (t : OT) : List AV := [.bool t.dir, .int .i64 t.mode, .str t.data, sln t.ids t.names.length, slk t.ids t.kids.length]
theorem otc_len (t : OT) : (otc t).length = 5 := rfl
def own (t : OT) : Hp := match t.ids with | none => [] | some (a, b) => [(2 * a + 1, fl sc t.names), (2 * b + 1, fl otc t.kids)]
mutual
def objs : OT -> Hp | .mk d m s i ns ks => own (.mk d m s i ns ks) ++ objss ks
def objss : List OT -> Hp | [] => [] | t :: ts => objs t ++ objss ts
end
theorem objs_eq (t : OT) : objs t = own t ++ objss t.kids := by cases t; simp only [objs, OT.kids]
theorem objss_app : ∀ (a b : List OT), objss (a ++ b) = objss a ++ objss b
 | [], b => by simp [objss]
 | x :: a, b => by simp only [List.cons_append, objss, objss_app a b, List.append_assoc]
mutual
def er : OT -> Tr | .mk d m s _ ns ks => .mk d m s ns (ers ks)
def ers : List OT -> List Tr | [] => [] | t :: ts => er t :: ers ts
end
theorem ers_map : ∀ ks : List OT, ers ks = ks.map er
 | [] => by simp [ers]
 | t :: ts => by simp [ers, ers_map ts]
theorem er_eq (t : OT) : er t = .mk t.dir t.mode t.data t.names (t.kids.map er) := by cases t; simp only [er, ers_map, OT.dir, OT.mode, OT.data, OT.names, OT.kids]
mutual
def shp : OT -> Prop | .mk _ _ _ i ns ks => (i = none -> ns = [] /\ ks = []) /\ shps ks
def shps : List OT -> Prop | [] => True | t :: ts => shp t /\ shps ts
end
theorem shp_eq (t : OT) : shp t ↔ (t.ids = none -> t.names = [] /\ t.kids = []) /\ shps t.kids := by cases t; simp only [shp, OT.ids, OT.names, OT.kids]
theorem shps_app : ∀ {a b : List OT}, shps (a ++ b) ↔ shps a /\ shps b
 | [], b => by simp [shps]
 | x :: a, b => by simp only [List.cons_append, shps, shps_app (a := a), and_assoc]
theorem shps_get : ∀ {ks : List OT}, shps ks -> ∀ {k : Nat}, k < ks.length -> shp (ks.getD k default)
 | [], _, k, hk => by simp at hk
 | t :: ts, h, 0, _ => h.1
 | t :: ts, h, k + 1, hk => shps_get (ks := ts) h.2 (by simpa using hk)
theorem ods_otc (t : OT) : ods (otc t) := by
 simp only [otc, ods, od, true_and]
 cases t.ids with
 | none => exact ⟨trivial, trivial, trivial⟩
 | some p => obtain ⟨a, b⟩ := p; simp only [sln, slk, od]; exact ⟨by omega, by omega, trivial⟩
theorem ods_fl {α : Type} {f : α -> List AV} (hf : ∀ x, ods (f x)) : ∀ X : List α, ods (fl f X)
 | [] => trivial
 | x :: X => by
  have : fl f (x :: X) = f x ++ fl f X := by simp [fl]
  rw [this, ods_app]
  exact ⟨hf x, ods_fl hf X⟩
theorem ods_flS (X : List Str) : ods (fl sc X) := ods_fl (f := sc) (fun s => by simp [sc, ods, od]) X
theorem ods_flO (X : List OT) : ods (fl otc X) := ods_fl ods_otc X
theorem odH_own (t : OT) : odH (own t) := by
 unfold own
 cases t.ids with
 | none => trivial
 | some p => obtain ⟨a, b⟩ := p; exact ⟨by omega, ods_flS _, by omega, ods_flO _, trivial⟩
mutual
theorem odH_objs : ∀ t : OT, odH (objs t)
 | .mk d m s i ns ks => by simp only [objs]; exact odH_app.2 ⟨odH_own _, odH_objss ks⟩
theorem odH_objss : ∀ ks : List OT, odH (objss ks)
 | [] => by simp only [objss]; trivial
 | t :: ts => by simp only [objss]; exact odH_app.2 ⟨odH_objs t, odH_objss ts⟩
end
def oat : OT -> List Str -> Option OT
 | t, [] => some t
 | t, n :: p => match fnd n t.names with
  | some k => oat (t.kids.getD k default) p
  | none => none
def opos : OT -> Nat -> Nat -> List Str -> Option (Nat × Nat)
 | _, i, o, [] => some (i, o)
 | t, _, _, n :: p => match fnd n t.names, t.ids with
  | some k, some (_, b) => opos (t.kids.getD k default) (2 * b + 1) (k * 5) p
  | _, _ => none
def orep : OT -> List Str -> OT -> OT
 | _, [], x => x
 | t, n :: p, x => match fnd n t.names with
  | some k => .mk t.dir t.mode t.data t.ids t.names (t.kids.set k (orep (t.kids.getD k default) p x))
  | none => t
theorem getD_er (ks : List OT) (k : Nat) : (ks.map er).getD k Tr.none = er (ks.getD k default) := by
 simp only [List.getD, List.getElem?_map]
 cases ks[k]? <;> rfl
theorem tat_er : ∀ (p : List Str) (t : OT), tat (er t) p = (oat t p).map er
 | [], t => by simp [tat, oat]
 | n :: p, t => by
  rw [tat_cons, oat, er_eq, Tr.names_mk, Tr.kids_mk]
  cases fnd n t.names with
  | none => rfl
  | some k =>
   dsimp only
   rw [getD_er, tat_er p]
def owf (t : OT) : Prop := (er t).wf = true
theorem owf_len {t : OT} (h : owf t) : t.names.length = t.kids.length := by
 have := wf_len h
 rw [er_eq] at this
 simpa using this
theorem owf_kid {t : OT} (h : owf t) {k : Nat} (hk : k < t.kids.length) : owf (t.kids.getD k default) := by
 have := wf_kid h (k := k) (by rw [er_eq]; simpa using hk) Tr.none
 rw [er_eq, Tr.kids_mk, getD_er] at this
 exact this
theorem oat_wf : ∀ {p : List Str} {t x : OT}, owf t -> oat t p = some x -> owf x
 | [], t, x, h, he => by simp only [oat, Option.some.injEq] at he; exact he ▸ h
 | n :: p, t, x, h, he => by
  rw [oat] at he
  cases hf : fnd n t.names with
  | none => rw [hf] at he; cases he
  | some k =>
   rw [hf] at he
   exact oat_wf (owf_kid h (by rw [<- owf_len h]; exact fnd_lt hf)) he
theorem oat_shp : ∀ {p : List Str} {t x : OT}, owf t -> shp t -> oat t p = some x -> shp x
 | [], t, x, _, h, he => by simp only [oat, Option.some.injEq] at he; exact he ▸ h
 | n :: p, t, x, hw, h, he => by
  rw [oat] at he
  cases hf : fnd n t.names with
  | none => rw [hf] at he; cases he
  | some k =>
   rw [hf] at he
   have hk : k < t.kids.length := by rw [<- owf_len hw]; exact fnd_lt hf
   exact oat_shp (owf_kid hw hk) (shps_get ((shp_eq t).1 h).2 hk) he
theorem set_split {α : Type} (l : List α) (k : Nat) (hk : k < l.length) (y : α) : l.set k y = l.take k ++ y :: l.drop (k + 1) := by
 rw [List.set_eq_take_append_cons_drop, if_pos hk]
theorem get_split {α : Type} (l : List α) (k : Nat) (hk : k < l.length) (d : α) : l = l.take k ++ l.getD k d :: l.drop (k + 1) := by
 have : l.getD k d = l[k] := by simp [List.getD, hk]
 rw [this, <- List.drop_eq_getElem_cons hk, List.take_append_drop]
theorem focus : ∀ (p : List Str) (T t : OT), owf T -> shp T -> oat T p = some t -> ∀ (r : Nat) (A0 B0 : List AV),
  ∃ (i : Nat) (A B : List AV) (Wo : Hp), opos T r A0.length p = some (i, A.length) /\ (i = r \/ i % 2 = 1) /\
   ∀ t', ((r, A0 ++ otc (orep T p t') ++ B0) :: objs (orep T p t')).Perm ((i, A ++ otc t' ++ B) :: (objs t' ++ Wo))
 | [], T, t, _, _, he, r, A0, B0 => ⟨r, A0, B0, [], rfl, .inl rfl, fun t' => by simp only [orep, List.append_nil]; exact List.Perm.refl _⟩
 | n :: p, T, t, hw, hs, he, r, A0, B0 => by
  rw [oat] at he
  cases hf : fnd n T.names with
  | none => rw [hf] at he; cases he
  | some k =>
   rw [hf] at he
   have hk : k < T.kids.length := by rw [<- owf_len hw]; exact fnd_lt hf
   cases hi : T.ids with
   | none =>
    have := (((shp_eq T).1 hs).1 hi).2
    rw [this] at hk; simp at hk
   | some q =>
    obtain ⟨a, b⟩ := q
    obtain ⟨i, A, B, Wo, h1, h2, h3⟩ := focus p (T.kids.getD k default) t (owf_kid hw hk) (shps_get ((shp_eq T).1 hs).2 hk) he (2 * b + 1) (fl otc (T.kids.take k)) (fl otc (T.kids.drop (k + 1)))
    have hl : (fl otc (T.kids.take k)).length = k * 5 := by rw [fl_len otc_len, List.length_take, Nat.min_eq_left (by omega)]
    refine ⟨i, A, B, (r, A0 ++ otc T ++ B0) :: (2 * a + 1, fl sc T.names) :: (objss (T.kids.take k) ++ (objss (T.kids.drop (k + 1)) ++ Wo)), ?_, .inr (h2.elim (fun e => by omega) id), fun t' => ?_⟩
    ·rw [opos, hf, hi]
     dsimp only
     rw [<- hl]; exact h1
    ·have h3 := h3 t'
     have hrep : orep T (n :: p) t' = .mk T.dir T.mode T.data T.ids T.names (T.kids.set k (orep (T.kids.getD k default) p t')) := by rw [orep, hf]
     have hcell : otc (orep T (n :: p) t') = otc T := by rw [hrep]; simp [otc]
     rw [hcell, objs_eq, hrep, OT.kids_mk, set_split _ _ hk]
     have hown : own (.mk T.dir T.mode T.data T.ids T.names (T.kids.take k ++ orep (T.kids.getD k default) p t' :: T.kids.drop (k + 1))) =
       [(2 * a + 1, fl sc T.names), (2 * b + 1, fl otc (T.kids.take k) ++ otc (orep (T.kids.getD k default) p t') ++ fl otc (T.kids.drop (k + 1)))] := by
      simp only [own, OT.ids_mk, hi, OT.names_mk, OT.kids_mk]
      rw [show T.kids.take k ++ orep (T.kids.getD k default) p t' :: T.kids.drop (k + 1) = T.kids.take k ++ [orep (T.kids.getD k default) p t'] ++ T.kids.drop (k + 1) by simp, fl_app, fl_app, fl_one]
     rw [hown, show T.kids.take k ++ orep (T.kids.getD k default) p t' :: T.kids.drop (k + 1) = T.kids.take k ++ ([orep (T.kids.getD k default) p t'] ++ T.kids.drop (k + 1)) by simp, objss_app, objss_app]
     have e1 : objss [orep (T.kids.getD k default) p t'] = objs (orep (T.kids.getD k default) p t') := by simp [objss]
     rw [e1]
     have g1 : ((r, A0 ++ otc T ++ B0) :: ([(2 * a + 1, fl sc T.names), (2 * b + 1, fl otc (T.kids.take k) ++ otc (orep (T.kids.getD k default) p t') ++ fl otc (T.kids.drop (k + 1)))] ++ (objss (T.kids.take k) ++ (objs (orep (T.kids.getD k default) p t') ++ objss (T.kids.drop (k + 1)))))).Perm
       ((r, A0 ++ otc T ++ B0) :: (2 * a + 1, fl sc T.names) :: (((2 * b + 1, fl otc (T.kids.take k) ++ otc (orep (T.kids.getD k default) p t') ++ fl otc (T.kids.drop (k + 1))) :: objs (orep (T.kids.getD k default) p t')) ++ (objss (T.kids.take k) ++ objss (T.kids.drop (k + 1))))) := by
      simp only [List.cons_append, List.nil_append]
      refine List.Perm.cons _ (List.Perm.cons _ (List.Perm.cons _ ?_))
      rw [<- List.append_assoc, <- List.append_assoc]
      exact List.perm_append_comm.append_right _
     refine g1.trans ?_
     have g2 := (h3.append_right (objss (T.kids.take k) ++ objss (T.kids.drop (k + 1))))
     refine (List.Perm.cons _ (List.Perm.cons _ g2)).trans ?_
     simp only [List.cons_append, List.append_assoc]
     refine (List.Perm.cons _ (List.Perm.swap _ _ _)).trans ((List.Perm.swap _ _ _).trans (List.Perm.cons _ ?_))
     refine List.Perm.trans ?_ (List.perm_append_comm (l₁ := objs t') (l₂ := _)).symm
     simp only [List.cons_append, List.append_assoc]
     refine List.Perm.cons _ (List.Perm.cons _ ?_)
     have g3 : ∀ X Y M : Hp, (X ++ (Y ++ M)).Perm (M ++ (Y ++ X)) := fun X Y M => by
      refine List.perm_append_comm.trans ?_
      rw [<- List.append_assoc]
      exact List.perm_append_comm.append_right X
     rw [<- List.append_assoc (objss (T.kids.take k)) (objss (T.kids.drop (k + 1)))]
     exact g3 _ _ _
theorem orep_same : ∀ (p : List Str) (T t : OT), owf T -> oat T p = some t -> orep T p t = T
 | [], T, t, _, he => by simp only [oat, Option.some.injEq] at he; rw [orep, he]
 | n :: p, T, t, hw, he => by
  rw [oat] at he
  rw [orep]
  cases hf : fnd n T.names with
  | none => rfl
  | some k =>
   rw [hf] at he
   have hk : k < T.kids.length := by rw [<- owf_len hw]; exact fnd_lt hf
   dsimp only
   rw [orep_same p _ t (owf_kid hw hk) he]
   have : T.kids.set k (T.kids.getD k default) = T.kids := by rw [set_split _ _ hk]; exact (get_split _ _ hk _).symm
   rw [this]
   cases T; rfl
theorem hgt_of : ∀ {H : Hp}, (ids H).Nodup -> ∀ {i : Nat} {cs : List AV}, (i, cs) ∈ H -> hgt H i = some cs
 | (j, ds) :: H, hn, i, cs, hm => by
  simp only [ids, List.map_cons, List.nodup_cons] at hn
  simp only [hgt]
  rcases List.mem_cons.1 hm with e | hm
  ·cases e; simp
  ·have hne : j ≠ i := by rintro rfl; exact hn.1 (List.mem_map.2 ⟨_, hm, rfl⟩)
   have : (j == i) = false := by simpa using hne
   rw [this]; exact hgt_of hn.2 hm
theorem hgt_perm {H H' : Hp} (hn : (ids H).Nodup) (h : H.Perm H') {i : Nat} {cs : List AV} (hm : (i, cs) ∈ H') : hgt H i = some cs := hgt_of hn (h.mem_iff.2 hm)
theorem hgt_ev {E Z : Hp} {i : Nat} (hE : evH E) (hi : i % 2 = 1) : hgt (E ++ Z) i = hgt Z i := by
 induction E with
 | nil => rfl
 | cons p E ih =>
  obtain ⟨j, o⟩ := p
  have : (j == i) = false := by have := hE.1; simpa using (show j ≠ i by omega)
  simp only [List.cons_append, hgt, this, cond_false, ih hE.2]
theorem hset_ev {E Z : Hp} {i : Nat} {cs : List AV} (hE : evH E) (hi : i % 2 = 1) : hset (E ++ Z) i cs = E ++ hset Z i cs := by
 induction E with
 | nil => rfl
 | cons p E ih =>
  obtain ⟨j, o⟩ := p
  have : (j == i) = false := by have := hE.1; simpa using (show j ≠ i by omega)
  simp only [List.cons_append, hset, this, cond_false, ih hE.2]
theorem hset_perm : ∀ {H : Hp} {i : Nat} {cs ds : List AV} {W : Hp}, (ids H).Nodup -> H.Perm ((i, cs) :: W) -> (hset H i ds).Perm ((i, ds) :: W) := by
 intro H i cs ds W hn hp
 have hm : (i, cs) ∈ H := hp.mem_iff.2 (by simp)
 have key : ∀ H : Hp, (ids H).Nodup -> (i, cs) ∈ H -> ∃ A B, H = A ++ (i, cs) :: B /\ hset H i ds = A ++ (i, ds) :: B := by
  intro H
  induction H with
  | nil => intro _ h; simp at h
  | cons q H ih =>
   intro hn hm
   obtain ⟨j, o⟩ := q
   simp only [ids, List.map_cons, List.nodup_cons] at hn
   simp only [hset]
   rcases List.mem_cons.1 hm with e | hm
   ·cases e
    exact ⟨[], H, rfl, by simp⟩
   ·have hne : j ≠ i := by rintro rfl; exact hn.1 (List.mem_map.2 ⟨_, hm, rfl⟩)
    have : (j == i) = false := by simpa using hne
    obtain ⟨A, B, h1, h2⟩ := ih hn.2 hm
    exact ⟨(j, o) :: A, B, by rw [h1]; rfl, by simp only [this, cond_false, h2]; rfl⟩
 obtain ⟨A, B, h1, h2⟩ := key H hn hm
 rw [h2]
 refine List.perm_middle.trans (List.Perm.cons _ ?_)
 rw [h1] at hp
 exact (List.perm_cons _).1 (List.perm_middle.symm.trans hp)
theorem hdel_perm {H : Hp} {i : Nat} {cs : List AV} {W : Hp} (hn : (ids H).Nodup) (hp : H.Perm ((i, cs) :: W)) : (hdel H i).Perm W := by
 have hm : (i, cs) ∈ H := hp.mem_iff.2 (by simp)
 have key : ∀ H : Hp, (ids H).Nodup -> (i, cs) ∈ H -> ∃ A B, H = A ++ (i, cs) :: B /\ hdel H i = A ++ B := by
  intro H
  induction H with
  | nil => intro _ h; simp at h
  | cons q H ih =>
   intro hn hm
   obtain ⟨j, o⟩ := q
   simp only [ids, List.map_cons, List.nodup_cons] at hn
   simp only [hdel]
   rcases List.mem_cons.1 hm with e | hm
   ·cases e
    exact ⟨[], H, rfl, by simp⟩
   ·have hne : j ≠ i := by rintro rfl; exact hn.1 (List.mem_map.2 ⟨_, hm, rfl⟩)
    have : (j == i) = false := by simpa using hne
    obtain ⟨A, B, h1, h2⟩ := ih hn.2 hm
    exact ⟨(j, o) :: A, B, by rw [h1]; rfl, by simp only [this, cond_false, h2]; rfl⟩
 obtain ⟨A, B, h1, h2⟩ := key H hn hm
 rw [h2]
 rw [h1] at hp
 exact (List.perm_cons _).1 (List.perm_middle.symm.trans hp)
theorem DC_nd {G : Prg} {f : Nat} {args : List AV} {Z : Hp} {R : AV -> Hp -> Prop} (h : (ids Z).Nodup -> DC G f args Z R) : DC G f args Z R := by
 intro E n hE X ρ w vs hf hr hv
 have hn : (ids Z).Nodup := by
  have := hr.nodup
  simp only [ids, List.map_append] at this
  exact (List.nodup_append.1 this).2.1
 exact h hn E n hE X ρ w vs hf hr hv
theorem ldr_d {ti : TI} {i o : Nat} {cs : List AV} {v : AV} {H : Hp} {n : Nat} (hg : hgt H i = some cs) (hv : ldo ti cs o = v) : ldr ti (.ptr i o) H n = .need (o + ti.size <= cs.length /\ o < cs.length) (.ok v H n) := by
 simp only [ldr, hg, hv]
def tiq (G : Prg) (t : Nat) : TI := match G.tf t with | some i => i | none => ⟨0, 0, false, [], .other⟩
section
variable {G : Prg} {L : List Oper} {pl : List (Nat × List Nat)} {k : Nat} {F : Fr} {H : Hp} {n : Nat} {K : RK}
theorem gel (d : Nat) (ti : TI) (i o : Nat) (v : AV) {cs : List AV} (e : ∀ J : RK, runE G L ((L.drop k).take 1) F H n J = runR G J (some d) F H n (ldr ti (.ptr i o) H n)) (hg : hgt H i = some cs) (h1 : o + ti.size <= cs.length /\ o < cs.length) (hv : ldo ti cs o = v)
  (h : runE G L (L.drop (k + 1)) ((d, v) :: F) H n K) : runE G L (L.drop k) F H n K := by
 refine sege 1 (k + 1) rfl fun J hJ => ?_
 rw [e J, ldr_d hg hv]
 exact ⟨h1, hJ _ _ _ h⟩
theorem gql (d : Nat) (ti : TI) (i o : Nat) (v : AV) {cs : List AV} (e : ∀ J : RK, runQ G L ((pl.drop k).take 1) F H n J = rR2 (ldr ti (.ptr i o) H n) (fun v => J ((d, v) :: F) H n)) (hg : hgt H i = some cs) (h1 : o + ti.size <= cs.length /\ o < cs.length) (hv : ldo ti cs o = v)
  (h : runQ G L (pl.drop (k + 1)) ((d, v) :: F) H n K) : runQ G L (pl.drop k) F H n K := by
 refine segq 1 (k + 1) rfl fun J hJ => ?_
 rw [e J, ldr_d hg hv]
 exact ⟨h1, hJ _ _ _ h⟩
theorem ges (ti : TI) (i o : Nat) (v : AV) (H' : Hp) {cs : List AV} (e : ∀ J : RK, runE G L ((L.drop k).take 1) F H n J = runR G J none F H n (str ti (.ptr i o) v H n)) (hg : hgt H i = some cs) (h1 : okc v = true /\ (cl v).length = ti.size /\ o + ti.size <= cs.length) (hH : hset H i (cs.take o ++ cl v ++ cs.drop (o + ti.size)) = H')
  (h : runE G L (L.drop (k + 1)) F H' n K) : runE G L (L.drop k) F H n K := by
 refine sege 1 (k + 1) rfl fun J hJ => ?_
 rw [e J]
 unfold str
 dsimp only
 rw [hg]
 dsimp only
 rw [hH]
 exact ⟨h1, hJ _ _ _ h⟩
theorem gqs (ti : TI) (i o : Nat) (v : AV) (H' : Hp) {cs : List AV} (e : ∀ J : RK, runQ G L ((pl.drop k).take 1) F H n J = runR G (fun F' H' n' => True /\ J F' H' n') none F H n (str ti (.ptr i o) v H n)) (hg : hgt H i = some cs) (h1 : okc v = true /\ (cl v).length = ti.size /\ o + ti.size <= cs.length) (hH : hset H i (cs.take o ++ cl v ++ cs.drop (o + ti.size)) = H')
  (h : runQ G L (pl.drop (k + 1)) F H' n K) : runQ G L (pl.drop k) F H n K := by
 refine segq 1 (k + 1) rfl fun J hJ => ?_
 rw [e J]
 unfold str
 dsimp only
 rw [hg]
 dsimp only
 rw [hH]
 exact ⟨h1, trivial, hJ _ _ _ h⟩
end
theorem mid_get {A B : List AV} {t : OT} (j : Nat) (hj : j < 5) (d : AV) : (A ++ otc t ++ B).getD (A.length + j) d = (otc t).getD j d := by
 simp only [List.getD]
 rw [List.append_assoc, List.getElem?_append_right (by omega), Nat.add_sub_cancel_left, List.getElem?_append_left (by rw [otc_len]; exact hj)]
theorem mid_take {A B : List AV} {t : OT} : ((A ++ otc t ++ B).drop A.length).take 5 = otc t := by
 rw [List.append_assoc, List.drop_left', List.take_left'] <;> rfl
theorem mid_set {A B : List AV} {t : OT} (j : Nat) (hj : j < 5) (x : AV) : (A ++ otc t ++ B).take (A.length + j) ++ [x] ++ (A ++ otc t ++ B).drop (A.length + j + 1) = A ++ ((otc t).take j ++ [x] ++ (otc t).drop (j + 1)) ++ B := by
 have e1 : (A ++ otc t ++ B).take (A.length + j) = A ++ (otc t).take j := by
  rw [List.append_assoc, List.take_append, List.take_of_length_le (by omega), Nat.add_sub_cancel_left, List.take_append_of_le_length (by rw [otc_len]; omega)]
 have e2 : (A ++ otc t ++ B).drop (A.length + j + 1) = (otc t).drop (j + 1) ++ B := by
  rw [List.append_assoc, List.drop_append, List.drop_of_length_le (by omega), List.nil_append, show A.length + j + 1 - A.length = j + 1 by omega, List.drop_append_of_le_length (by rw [otc_len]; omega)]
 rw [e1, e2]
 simp only [List.append_assoc]
section
variable {G : Prg} {L : List Oper} {pl : List (Nat × List Nat)} {k : Nat} {F : Fr} {H : Hp} {n : Nat} {K : RK} {A B : List AV} {t : OT}
def ok1 (ti : TI) : Bool := Nat.beq ti.size 1 && !ti.agg
theorem ok1_at {ti : TI} (h : ok1 ti = true) : ti.size = 1 /\ ti.agg = false := by
 simp only [ok1, Bool.and_eq_true, Bool.not_eq_true'] at h
 exact ⟨Nat.eq_of_beq_eq_true h.1, h.2⟩
theorem mid_in {ti : TI} (h : ok1 ti = true) (j : Nat) (hj : j < 5) : A.length + j + ti.size <= (A ++ otc t ++ B).length /\ A.length + j < (A ++ otc t ++ B).length := by
 rw [(ok1_at h).1]; simp only [List.length_append, otc_len]; omega
theorem mid_ldo {ti : TI} (h : ok1 ti = true) (j : Nat) (hj : j < 5) : ldo ti (A ++ otc t ++ B) (A.length + j) = (otc t).getD j .dead := by
 simp only [ldo, (ok1_at h).2, cond_false, mid_get j hj]
theorem geln (d tn : Nat) (i j : Nat) (v : AV) (e : ∀ J : RK, runE G L ((L.drop k).take 1) F H n J = runR G J (some d) F H n (ldr (tiq G tn) (.ptr i (A.length + j)) H n)) (hg : hgt H i = some (A ++ otc t ++ B)) (h1 : (ok1 (tiq G tn) && Nat.blt j 5) = true) (hv : (otc t).getD j .dead = v)
  (h : runE G L (L.drop (k + 1)) ((d, v) :: F) H n K) : runE G L (L.drop k) F H n K := by
 rw [Bool.and_eq_true, Nat.blt_eq] at h1
 exact gel d (tiq G tn) i (A.length + j) v e hg (mid_in h1.1 j h1.2) ((mid_ldo h1.1 j h1.2).trans hv) h
theorem gqln (d tn : Nat) (i j : Nat) (v : AV) (e : ∀ J : RK, runQ G L ((pl.drop k).take 1) F H n J = rR2 (ldr (tiq G tn) (.ptr i (A.length + j)) H n) (fun v => J ((d, v) :: F) H n)) (hg : hgt H i = some (A ++ otc t ++ B)) (h1 : (ok1 (tiq G tn) && Nat.blt j 5) = true) (hv : (otc t).getD j .dead = v)
  (h : runQ G L (pl.drop (k + 1)) ((d, v) :: F) H n K) : runQ G L (pl.drop k) F H n K := by
 rw [Bool.and_eq_true, Nat.blt_eq] at h1
 exact gql d (tiq G tn) i (A.length + j) v e hg (mid_in h1.1 j h1.2) ((mid_ldo h1.1 j h1.2).trans hv) h
theorem gela (d tn : Nat) (i : Nat) (v : AV) (e : ∀ J : RK, runE G L ((L.drop k).take 1) F H n J = runR G J (some d) F H n (ldr (tiq G tn) (.ptr i A.length) H n)) (hg : hgt H i = some (A ++ otc t ++ B)) (h1 : (Nat.beq (tiq G tn).size 5 && (tiq G tn).agg) = true) (hv : .agg (otc t) = v)
  (h : runE G L (L.drop (k + 1)) ((d, v) :: F) H n K) : runE G L (L.drop k) F H n K := by
 rw [Bool.and_eq_true] at h1
 have hs := Nat.eq_of_beq_eq_true h1.1
 refine gel d (tiq G tn) i A.length v e hg (by rw [hs]; simp only [List.length_append, otc_len]; omega) ?_ h
 simp only [ldo, h1.2, hs, cond_true, mid_take]
 exact hv
theorem gesn (tn : Nat) (i j : Nat) (v : AV) (t' : OT) (H' : Hp) (e : ∀ J : RK, runE G L ((L.drop k).take 1) F H n J = runR G J none F H n (str (tiq G tn) (.ptr i (A.length + j)) v H n)) (hg : hgt H i = some (A ++ otc t ++ B)) (h1 : (ok1 (tiq G tn) && (Nat.blt j 5 && okc v)) = true) (hc : cl v = [v]) (hv : (otc t).take j ++ [v] ++ (otc t).drop (j + 1) = otc t') (hH : hset H i (A ++ otc t' ++ B) = H')
  (h : runE G L (L.drop (k + 1)) F H' n K) : runE G L (L.drop k) F H n K := by
 rw [Bool.and_eq_true, Bool.and_eq_true, Nat.blt_eq] at h1
 obtain ⟨h2, h3, h4⟩ := h1
 refine ges (tiq G tn) i (A.length + j) v H' e hg ⟨h4, by rw [hc, (ok1_at h2).1]; rfl, (mid_in h2 j h3).1⟩ ?_ h
 rw [hc, (ok1_at h2).1, mid_set j h3, hv]; exact hH
theorem gqsn (tn : Nat) (i j : Nat) (v : AV) (t' : OT) (H' : Hp) (e : ∀ J : RK, runQ G L ((pl.drop k).take 1) F H n J = runR G (fun F' H' n' => True /\ J F' H' n') none F H n (str (tiq G tn) (.ptr i (A.length + j)) v H n)) (hg : hgt H i = some (A ++ otc t ++ B)) (h1 : (ok1 (tiq G tn) && (Nat.blt j 5 && okc v)) = true) (hc : cl v = [v]) (hv : (otc t).take j ++ [v] ++ (otc t).drop (j + 1) = otc t') (hH : hset H i (A ++ otc t' ++ B) = H')
  (h : runQ G L (pl.drop (k + 1)) F H' n K) : runQ G L (pl.drop k) F H n K := by
 rw [Bool.and_eq_true, Bool.and_eq_true, Nat.blt_eq] at h1
 obtain ⟨h2, h3, h4⟩ := h1
 refine gqs (tiq G tn) i (A.length + j) v H' e hg ⟨h4, by rw [hc, (ok1_at h2).1]; rfl, (mid_in h2 j h3).1⟩ ?_ h
 rw [hc, (ok1_at h2).1, mid_set j h3, hv]; exact hH
end
theorem vw_n {H : Hp} {a : Nat} {X : List Str} (s : Str) (hg : hgt H a = some (fl sc X)) : View H [.osl a 1 0 X.length, .str s] [pth X, .str s] := by
 refine View.fz a hg ?_
 have : fzs a (fl sc X) [.osl a 1 0 X.length, .str s] = [pth X, .str s] := by
  simp only [fzs, fz, beq_self_eq_true, Bool.true_and, List.drop_zero]
  rw [Nat.ble_eq_true_of_le (by rw [flSl]; omega)]
  simp only [cond_true, pth]
  have := chkS X
  rw [this]
 rw [this]
 exact View.refl _ _
def okid (t : OT) (nm : Str) : AV := match fnd nm t.names, t.ids with | some k, some (_, b) => .ptr (2 * b + 1) (k * 5) | _, _ => .nilp
theorem okid_no {t : OT} {nm : Str} (h : fndI nm t.names < 0 \/ ((t.names.length : Nat) : Int) <= fndI nm t.names) : okid t nm = .nilp := by
 unfold okid fndI at *
 cases hf : fnd nm t.names with
 | none => rfl
 | some k =>
  rw [hf] at h
  have := fnd_lt hf
  dsimp only at h
  omega
theorem okid_none {t : OT} {nm : Str} (h : t.ids = none) : okid t nm = .nilp := by
 unfold okid; rw [h]
 cases fnd nm t.names <;> rfl
def oad (x : Option (Nat × Nat)) : AV := match x with | some (i, o) => .ptr i o | none => .nilp
theorem oat_snoc : ∀ (q : List Str) (T : OT) (n : Str), oat T (q ++ [n]) = match oat T q with | some t => oat t [n] | none => none
 | [], T, n => by simp only [List.nil_append]; rfl
 | m :: q, T, n => by
  rw [List.cons_append, oat, oat]
  cases fnd m T.names with
  | none => rfl
  | some k => exact oat_snoc q _ n
theorem opos_snoc : ∀ (q : List Str) (T : OT) (r o : Nat) (n : Str), opos T r o (q ++ [n]) = match opos T r o q, oat T q with | some (i, o'), some t => opos t i o' [n] | _, _ => none
 | [], T, r, o, n => by simp only [List.nil_append, oat]; rw [show opos T r o [] = some (r, o) from rfl]
 | m :: q, T, r, o, n => by
  rw [List.cons_append, opos, opos, oat]
  cases fnd m T.names with
  | none => rfl
  | some k =>
   cases T.ids with
   | none => rfl
   | some p => obtain ⟨a, b⟩ := p; exact opos_snoc q _ _ _ n
theorem opos_cut {T : OT} {r o : Nat} {p : List Str} (k : Nat) (h : opos T r o (p.take k) = none) : opos T r o p = none := by
 have key : ∀ (q : List Str) (T : OT) (r o : Nat) (s : List Str), opos T r o q = none -> opos T r o (q ++ s) = none := by
  intro q
  induction q with
  | nil => intro T r o s h; simp [opos] at h
  | cons m q ih =>
   intro T r o s h
   rw [List.cons_append, opos]
   rw [opos] at h
   cases hf : fnd m T.names with
   | none => rfl
   | some k =>
    cases hi : T.ids with
    | none => rfl
    | some p =>
     rw [hf, hi] at h
     exact ih _ _ _ _ h
 have := key (p.take k) T r o (p.drop k) h
 rwa [List.take_append_drop] at this
theorem okid_oad (t : OT) (nm : Str) (i o : Nat) : okid t nm = oad (opos t i o [nm]) := by
 unfold okid
 rw [opos]
 cases fnd nm t.names with
 | none => rfl
 | some k => cases t.ids with
  | none => rfl
  | some p => obtain ⟨a, b⟩ := p; rfl
theorem opos_oat : ∀ {p : List Str} {T : OT} {r o : Nat}, owf T -> shp T -> ((opos T r o p).isSome = (oat T p).isSome)
 | [], T, r, o, _, _ => rfl
 | n :: p, T, r, o, hw, hs => by
  rw [opos, oat]
  cases hf : fnd n T.names with
  | none => rfl
  | some k =>
   have hk : k < T.kids.length := by rw [<- owf_len hw]; exact fnd_lt hf
   cases hi : T.ids with
   | none =>
    have := (((shp_eq T).1 hs).1 hi).2
    rw [this] at hk; simp at hk
   | some q => obtain ⟨a, b⟩ := q; exact opos_oat (owf_kid hw hk) (shps_get ((shp_eq T).1 hs).2 hk)
mutual
def osm (B : Nat) : OT -> Prop | .mk _ _ _ _ ns ks => ns.length < B /\ osms B ks
def osms (B : Nat) : List OT -> Prop | [] => True | t :: ts => osm B t /\ osms B ts
end
theorem osm_eq {B : Nat} (t : OT) : osm B t ↔ t.names.length < B /\ osms B t.kids := by cases t; simp only [osm, OT.names, OT.kids]
theorem osms_get {B : Nat} : ∀ {ks : List OT}, osms B ks -> ∀ {k : Nat}, k < ks.length -> osm B (ks.getD k default)
 | [], _, k, hk => by simp at hk
 | t :: ts, h, 0, _ => h.1
 | t :: ts, h, k + 1, hk => osms_get (ks := ts) h.2 (by simpa using hk)
theorem oat_osm {B : Nat} : ∀ {p : List Str} {t x : OT}, owf t -> osm B t -> oat t p = some x -> osm B x
 | [], t, x, _, h, he => by simp only [oat, Option.some.injEq] at he; exact he ▸ h
 | n :: p, t, x, hw, h, he => by
  rw [oat] at he
  cases hf : fnd n t.names with
  | none => rw [hf] at he; cases he
  | some k =>
   rw [hf] at he
   have hk : k < t.kids.length := by rw [<- owf_len hw]; exact fnd_lt hf
   exact oat_osm (owf_kid hw hk) (osms_get ((osm_eq t).1 h).2 hk) he
theorem h_lp {np : Nat} {G : Prg} {c : Code} {F : Fr} {H : Hp} {n : Nat} {Q : Post} {σ : Type} (Fi : σ -> Fr) (Hi : σ -> Hp) (I : σ -> Nat -> Prop) (m : σ -> Nat) (x0 : σ) (hc : c = .loop (lp c)) (h0 : I x0 n) (hf : fsub (Fi x0) F) (hh : (Hi x0).Sublist H)
  (round : ∀ x n', I x n' -> TT np G.P (lp c) (Fi x) (Hi x) n' (LK Fi Hi I m x Q)) : TT np G.P c F H n Q := by
 rw [hc]; exact TT_loop Fi Hi I m x0 h0 hf hh round
structure Lies (Z : Hp) (r : Nat) (A0 B0 : List AV) (T : OT) (W : Hp) : Prop where
 odd : odH Z
 r1 : r % 2 = 1
 perm : Z.Perm ((r, A0 ++ otc T ++ B0) :: (objs T ++ W))
 wf : owf T
 shp : shp T
 sm : osm (2 ^ 36) T
theorem Lies.foc {Z W : Hp} {r : Nat} {A0 B0 : List AV} {T t : OT} {p : List Str} (h : Lies Z r A0 B0 T W) (ht : oat T p = some t) :
  ∃ (i : Nat) (A B : List AV) (Wo : Hp), opos T r A0.length p = some (i, A.length) /\ i % 2 = 1 /\ Z.Perm ((i, A ++ otc t ++ B) :: (own t ++ (objss t.kids ++ Wo))) /\ t.names.length = t.kids.length /\ t.names.length < 2 ^ 36 /\
   (∀ t', ((r, A0 ++ otc (orep T p t') ++ B0) :: (objs (orep T p t') ++ W)).Perm ((i, A ++ otc t' ++ B) :: (objs t' ++ Wo))) := by
 obtain ⟨i, A, B, Wo, h1, h2, h3⟩ := focus p T t h.wf h.shp ht r A0 B0
 have hr := h.r1
 refine ⟨i, A, B, Wo ++ W, h1, h2.elim (fun e => by omega) id, ?_, owf_len (oat_wf h.wf ht), ((osm_eq t).1 (oat_osm h.wf h.sm ht)).1, fun t' => ?_⟩
 ·have h4 := h3 t
  rw [orep_same p T t h.wf ht] at h4
  refine h.perm.trans ?_
  have := h4.append_right W
  simp only [List.cons_append, List.append_assoc] at this
  rw [objs_eq t, List.append_assoc] at this
  simpa only [List.append_assoc] using this
 ·have := (h3 t').append_right W
  simpa only [List.cons_append, List.append_assoc] using this
theorem rows_set (X : List OT) (j : Nat) (x : OT) (hj : j < X.length) : (fl otc X).take (0 + j * 5) ++ otc x ++ (fl otc X).drop (0 + j * 5 + 5) = fl otc (X.set j x) := by
 rw [Nat.zero_add, fl_take otc_len, show j * 5 + 5 = (j + 1) * 5 by omega, fl_drop otc_len, set_split X j hj]
 rw [show X.take j ++ x :: X.drop (j + 1) = X.take j ++ [x] ++ X.drop (j + 1) by simp, fl_app, fl_app, fl_one]
section
variable {G : Prg} {L : List Oper} {pl : List (Nat × List Nat)} {k : Nat} {F : Fr} {H : Hp} {n : Nat} {K : RK}
theorem gqsr (tn i : Nat) (X : List OT) (j : Nat) (x : OT) (H' : Hp) (e : ∀ J : RK, runQ G L ((pl.drop k).take 1) F H n J = runR G (fun F' H' n' => True /\ J F' H' n') none F H n (str (tiq G tn) (.ptr i (0 + j * 5)) (.agg (otc x)) H n)) (hg : hgt H i = some (fl otc X)) (h1 : Nat.beq (tiq G tn).size 5 = true) (hj : j < X.length) (hH : hset H i (fl otc (X.set j x)) = H')
  (h : runQ G L (pl.drop (k + 1)) F H' n K) : runQ G L (pl.drop k) F H n K := by
 have h1 := Nat.eq_of_beq_eq_true h1
 refine gqs (tiq G tn) i (0 + j * 5) (.agg (otc x)) H' e hg ⟨rfl, h1.symm ▸ rfl, by rw [h1, fl_len otc_len]; omega⟩ ?_ h
 rw [h1]
 simp only [cl]
 rw [rows_set X j x hj]; exact hH
end
theorem put_p1 {Z W : Hp} {i a b k : Nat} {cs X K Y : List AV} (hn : (ids Z).Nodup) (hp : Z.Perm ((i, cs) :: ([(2 * a + 1, X), (2 * b + 1, K)] ++ W))) (hk : (2 * k + 1) ∉ ids Z) :
  (hdel Z (2 * a + 1) ++ [(2 * k + 1, Y)]).Perm ((i, cs) :: ([(2 * k + 1, Y), (2 * b + 1, K)] ++ W)) /\ (ids (hdel Z (2 * a + 1) ++ [(2 * k + 1, Y)])).Nodup := by
 have h1 : Z.Perm ((2 * a + 1, X) :: (i, cs) :: (2 * b + 1, K) :: W) := hp.trans (List.Perm.swap _ _ _)
 have h2 := hdel_perm hn h1
 refine ⟨?_, ?_⟩
 ·refine List.perm_append_comm.trans ?_
  simp only [List.cons_append, List.nil_append]
  refine (List.Perm.cons _ h2).trans (List.Perm.swap _ _ _)
 ·simp only [ids, List.map_append, List.map_cons, List.map_nil]
  refine List.nodup_append.2 ⟨List.Sublist.nodup ((hdel_sub Z (2 * a + 1)).map (·.1)) hn, by simp, fun x hx y hy e => ?_⟩
  simp only [List.mem_singleton] at hy
  subst hy; subst e
  exact hk (((hdel_sub Z (2 * a + 1)).map (·.1)).subset hx)
theorem put_p2 {Z W : Hp} {i a b k : Nat} {cs X K Y : List AV} (hn : (ids Z).Nodup) (hp : Z.Perm ((i, cs) :: ([(2 * a + 1, X), (2 * b + 1, K)] ++ W))) (hk : (2 * k + 1) ∉ ids Z) :
  (hdel Z (2 * b + 1) ++ [(2 * k + 1, Y)]).Perm ((i, cs) :: ([(2 * a + 1, X), (2 * k + 1, Y)] ++ W)) /\ (ids (hdel Z (2 * b + 1) ++ [(2 * k + 1, Y)])).Nodup := by
 have h0 : ((i, cs) :: ([(2 * a + 1, X), (2 * b + 1, K)] ++ W)).Perm ((i, cs) :: ([(2 * b + 1, K), (2 * a + 1, X)] ++ W)) := List.Perm.cons _ (List.Perm.swap _ _ _)
 obtain ⟨h1, h2⟩ := put_p1 (Y := Y) hn (hp.trans h0) hk
 exact ⟨h1.trans (List.Perm.cons _ (List.Perm.swap _ _ _)), h2⟩
theorem odH_put {Z : Hp} {a k : Nat} {Y : List AV} (hz : odH Z) (hY : ods Y) : odH (hdel Z a ++ [(2 * k + 1, Y)]) :=
 odH_app.2 ⟨odH_of fun i cs hm => odH_mem hz ((hdel_sub Z a).subset hm), ⟨by omega, hY, trivial⟩⟩
theorem odH_hset {Z : Hp} {a : Nat} {Y : List AV} (hz : odH Z) (hY : ods Y) (hn : (ids Z).Nodup) : odH (hset Z a Y) := odH_of fun i cs hm => by
 rcases hset_mem hn hm with ⟨rfl, rfl⟩ | ⟨_, hm'⟩
 ·have : i ∈ ids (hset Z i cs) := List.mem_map.2 ⟨_, hm, rfl⟩
  rw [hset_ids] at this
  exact ⟨odH_ids hz this, hY⟩
 ·exact odH_mem hz hm'
theorem ods_mid {A B : List AV} {t : OT} {Z : Hp} {i : Nat} {W : Hp} {t0 : OT} (hz : odH Z) (hp : Z.Perm ((i, A ++ otc t0 ++ B) :: W)) : ods (A ++ otc t ++ B) := by
 have h := (odH_mem hz (hp.mem_iff.2 (by simp) : (i, A ++ otc t0 ++ B) ∈ Z)).2
 rw [ods_app, ods_app] at h ⊢
 exact ⟨⟨h.1.1, ods_otc t⟩, h.2⟩
theorem rldn {H : Hp} {n i j : Nat} {A B : List AV} {t : OT} {ti : TI} {v : AV} (hg : hgt H i = some (A ++ otc t ++ B)) (h1 : (ok1 ti && Nat.blt j 5) = true) (hv : (otc t).getD j .dead = v) : rR2 (ldr ti (.ptr i (A.length + j)) H n) (fun x => x = v) := by
 rw [Bool.and_eq_true, Nat.blt_eq] at h1
 rw [ldr_d hg ((mid_ldo h1.1 j h1.2).trans hv)]
 exact ⟨mid_in h1.1 j h1.2, rfl⟩
theorem del_p1 {Z W : Hp} {i a b : Nat} {cs X K Y : List AV} (hn : (ids Z).Nodup) (hp : Z.Perm ((i, cs) :: ([(2 * a + 1, X), (2 * b + 1, K)] ++ W))) :
  (hdel Z (2 * a + 1) ++ [(2 * a + 1, Y)]).Perm ((i, cs) :: ([(2 * a + 1, Y), (2 * b + 1, K)] ++ W)) /\ (ids (hdel Z (2 * a + 1) ++ [(2 * a + 1, Y)])).Nodup := by
 have h1 : Z.Perm ((2 * a + 1, X) :: (i, cs) :: (2 * b + 1, K) :: W) := hp.trans (List.Perm.swap _ _ _)
 have h2 := hdel_perm hn h1
 refine ⟨?_, ?_⟩
 ·refine List.perm_append_comm.trans ?_
  simp only [List.cons_append, List.nil_append]
  exact (List.Perm.cons _ h2).trans (List.Perm.swap _ _ _)
 ·simp only [ids, List.map_append, List.map_cons, List.map_nil]
  refine List.nodup_append.2 ⟨List.Sublist.nodup ((hdel_sub Z (2 * a + 1)).map (·.1)) hn, by simp, fun x hx y hy e => ?_⟩
  simp only [List.mem_singleton] at hy
  subst hy; subst e
  exact hdel_not hn hx
theorem del_p2 {Z W : Hp} {i a b : Nat} {cs X K Y : List AV} (hn : (ids Z).Nodup) (hp : Z.Perm ((i, cs) :: ([(2 * a + 1, X), (2 * b + 1, K)] ++ W))) :
  (hdel Z (2 * b + 1) ++ [(2 * b + 1, Y)]).Perm ((i, cs) :: ([(2 * a + 1, X), (2 * b + 1, Y)] ++ W)) /\ (ids (hdel Z (2 * b + 1) ++ [(2 * b + 1, Y)])).Nodup := by
 have h0 : ((i, cs) :: ([(2 * a + 1, X), (2 * b + 1, K)] ++ W)).Perm ((i, cs) :: ([(2 * b + 1, K), (2 * a + 1, X)] ++ W)) := List.Perm.cons _ (List.Perm.swap _ _ _)
 obtain ⟨h1, h2⟩ := del_p1 (Y := Y) hn (hp.trans h0)
 exact ⟨h1.trans (List.Perm.cons _ (List.Perm.swap _ _ _)), h2⟩
theorem chkS' (X : List Str) : chk 1 X.length (fl sc X) = X.map fun s => [AV.str s] := chkS X
theorem chkT' (X : List Tr) : chk 5 X.length (fl trc X) = X.map trc := chkT X
section
variable {X : Nat -> Prop} {ρ : Rho} {w : World} {H : Hp} {X' : Nat -> Prop}
mutual
theorem deep_vr (hr : HR X ρ w H) (hX : ∀ b, X' b -> OX X ρ H b) : ∀ (T : OT) (vs : List Value) (O : Nat -> Prop), shp T -> (∀ p, p ∈ objs T -> p ∈ H) -> (∀ i b, i ∈ ids (objs T) -> ρ i = some b -> ¬ X' b) -> VRs ρ w O (otc T) vs -> VRs ρ w X' (trc (er T)) vs
 | .mk d m s i ns ks, vs, O, hs, hsub, hno, hv => by
  match vs, hv with
  | [v1, v2, v3, v4, v5], hv =>
   simp only [otc, VRs, OT.dir, OT.mode, OT.data, OT.ids, OT.names, OT.kids] at hv
   obtain ⟨h1, h2, h3, h4, h5, _⟩ := hv
   rw [er, trc]
   simp only [VRs]
   refine ⟨by simpa only [VR] using h1, by simpa only [VR] using h2, by simpa only [VR] using h3, ?_, ?_, trivial⟩
   ·cases i with
    | none =>
     obtain ⟨e1, e2⟩ := hs.1 rfl
     subst e1
     simp only [sln, VR] at h4
     simp only [pth, VR, List.map_nil]
     exact ⟨none, 0, h4, Nat.le_refl _, fun h => absurd rfl h⟩
    | some p =>
     obtain ⟨a, b⟩ := p
     have hm : (2 * a + 1, fl sc ns) ∈ objs (.mk d m s (some (a, b)) ns ks) := by simp [objs, own]
     simp only [sln, VR] at h4
     obtain ⟨bk, c, o', cs, e, f, k1, rfl, k2, k3, k4, k5⟩ := h4
     obtain ⟨b', c', e', f', q1, q2, q3, q4, q5, q6⟩ := hr.obj _ _ (hsub _ hm)
     rw [k1] at q1; cases q1
     rw [k4] at q2; cases q2
     simp only [pth, VR, List.length_map]
     refine ⟨_, c, rfl, k2, fun hne => ?_⟩
     have hl : 0 < ns.length := List.length_pos_iff.2 fun h => hne (by rw [h]; rfl)
     have ho := k3 (by omega)
     subst ho
     refine ⟨_, rfl, hno _ _ (List.mem_map.2 ⟨_, hm, rfl⟩) k1, (Array.getElem?_eq_some_iff.1 k4).1, ?_⟩
     have := PEs_of (ρ := ρ) (O := X') (s := 1) k4 q4 ns.length (fl sc ns) 0 0 (by rw [flSl]; omega) (by rw [flSl] at q5 ⊢; omega) (VRs_carry (Carry.less hX) _ _ q6)
     rw [chkS'] at this
     exact this
   ·cases i with
    | none =>
     obtain ⟨e1, e2⟩ := hs.1 rfl
     subst e2
     simp only [slk, VR] at h5
     simp only [ers, trcs, VR]
     exact ⟨none, 0, h5, Nat.le_refl _, fun h => absurd rfl h⟩
    | some p =>
     obtain ⟨a, b⟩ := p
     have hm : (2 * b + 1, fl otc ks) ∈ objs (.mk d m s (some (a, b)) ns ks) := by simp [objs, own]
     simp only [slk, VR] at h5
     obtain ⟨bk, c, o', cs, e, f, k1, rfl, k2, k3, k4, k5⟩ := h5
     obtain ⟨b', c', e', f', q1, q2, q3, q4, q5, q6⟩ := hr.obj _ _ (hsub _ hm)
     rw [k1] at q1; cases q1
     rw [k4] at q2; cases q2
     have hrow := deeps_vr hr hX ks _ _ hs.2 (fun p hp => hsub p (by simp only [objs, List.mem_append]; exact .inr hp)) (fun i b hi hb => hno i b (by simp only [objs, ids, List.map_append, List.mem_append]; exact .inr hi) hb) q6
     have hlen : (fl trc (ers ks)).length = (fl otc ks).length := by rw [flTl, fl_len otc_len, ers_map, List.length_map]
     simp only [VR, trcs_map, List.length_map]
     rw [show (ers ks).length = ks.length by rw [ers_map, List.length_map]]
     refine ⟨_, c, rfl, k2, fun hne => ?_⟩
     have hl : 0 < ks.length := List.length_pos_iff.2 fun h => hne (by rw [h]; rfl)
     have ho := k3 (by omega)
     subst ho
     refine ⟨_, rfl, hno _ _ (List.mem_map.2 ⟨_, hm, rfl⟩) k1, (Array.getElem?_eq_some_iff.1 k4).1, ?_⟩
     have := PEs_of (ρ := ρ) (O := X') (s := 5) k4 q4 (ers ks).length (fl trc (ers ks)) 0 0 (by rw [flTl]; omega) (by rw [hlen]; omega) (by rw [hlen]; exact hrow)
     rw [chkT'] at this
     exact this
  | [], hv => simp [otc, VRs] at hv
  | [_], hv => simp [otc, VRs] at hv
  | [_, _], hv => simp [otc, VRs] at hv
  | [_, _, _], hv => simp [otc, VRs] at hv
  | [_, _, _, _], hv => simp [otc, VRs] at hv
  | _ :: _ :: _ :: _ :: _ :: _ :: _, hv => simp [otc, VRs] at hv
theorem deeps_vr (hr : HR X ρ w H) (hX : ∀ b, X' b -> OX X ρ H b) : ∀ (ks : List OT) (vs : List Value) (O : Nat -> Prop), shps ks -> (∀ p, p ∈ objss ks -> p ∈ H) -> (∀ i b, i ∈ ids (objss ks) -> ρ i = some b -> ¬ X' b) -> VRs ρ w O (fl otc ks) vs -> VRs ρ w X' (fl trc (ers ks)) vs
 | [], vs, O, _, _, _, hv => by
  simp only [ers, fl, List.map_nil, List.flatten_nil] at hv ⊢
  match vs, hv with
  | [], _ => simp only [VRs]
  | _ :: _, hv => simp [VRs] at hv
 | t :: ts, vs, O, hs, hsub, hno, hv => by
  have e1 : fl otc (t :: ts) = otc t ++ fl otc ts := by simp [fl]
  have e2 : fl trc (ers (t :: ts)) = trc (er t) ++ fl trc (ers ts) := by simp [fl, ers]
  rw [e1] at hv
  rw [e2]
  have h1 := VRs_take 5 hv
  have h2 := VRs_drop 5 hv
  rw [List.take_left' (otc_len t)] at h1
  rw [List.drop_left' (otc_len t)] at h2
  have g1 := deep_vr hr hX t _ _ hs.1 (fun p hp => hsub p (by simp only [objss, List.mem_append]; exact .inl hp)) (fun i b hi hb => hno i b (by simp only [objss, ids, List.map_append, List.mem_append]; exact .inl hi) hb) h1
  have g2 := deeps_vr hr hX ts _ _ hs.2 (fun p hp => hsub p (by simp only [objss, List.mem_append]; exact .inr hp)) (fun i b hi hb => hno i b (by simp only [objss, ids, List.map_append, List.mem_append]; exact .inr hi) hb) h2
  have := VRs_append g1 g2
  rwa [List.take_append_drop] at this
end
end
theorem vw_deep {H : Hp} {T : OT} {bs : List AV} (hs : shp T) (hsub : ∀ p, p ∈ objs T -> p ∈ H) (hb : purs bs = true) : View H (.agg (otc T) :: bs) (.agg (tcs (er T)) :: bs) := by
 intro X ρ w vs hr hv
 refine ⟨fun b => OX X ρ H b /\ ¬ Own ρ (objs T) b, fun b h => h.1, ?_⟩
 match vs, hv with
 | v :: vs, hv =>
  simp only [VRs] at hv ⊢
  refine ⟨?_, purs_vr _ _ hb (VRs_carry (Carry.less fun b h => h.1) _ _ hv.2)⟩
  have h1 := hv.1
  simp only [VR] at h1 ⊢
  obtain ⟨us, e, h0, h2⟩ := h1
  refine ⟨us, e, h0, ?_⟩
  rw [show tcs (er T) = trc (er T) from (trc_eq _).symm]
  exact deep_vr hr (fun b h => h.1) T _ _ hs hsub (fun i b hi hb h => h.2 ⟨i, hi, hb⟩) h2
 | [], hv => simp only [VRs] at hv
mutual
def nsl : AV -> Prop
 | .sl .. | .pat _ => False
 | .agg az => nsls az
 | .tup az => nsls az
 | .fn _ az => nsls az
 | _ => True
def nsls : List AV -> Prop
 | [] => True
 | a :: az => nsl a /\ nsls az
end
def nslH : Hp -> Prop
 | [] => True
 | (_, cs) :: H => nsls cs /\ nslH H
theorem nslH_mem : ∀ {H : Hp} {i : Nat} {cs : List AV}, nslH H -> (i, cs) ∈ H -> nsls cs
 | (j, ds) :: H, i, cs, h, hm => by
  rcases List.mem_cons.1 hm with e | hm
  ·cases e; exact h.1
  ·exact nslH_mem h.2 hm
theorem nsls_app : ∀ {az bs : List AV}, nsls (az ++ bs) ↔ nsls az /\ nsls bs
 | [], bs => by simp [nsls]
 | a :: az, bs => by simp only [List.cons_append, nsls, nsls_app (az := az), and_assoc]
theorem nslH_app : ∀ {H K : Hp}, nslH (H ++ K) ↔ nslH H /\ nslH K
 | [], K => by simp [nslH]
 | (i, cs) :: H, K => by simp only [List.cons_append, nslH, nslH_app (H := H), and_assoc]
section
variable {ρ : Rho} {w : World} {O O' : Nat -> Prop}
mutual
theorem nsl_vr : ∀ (a : AV) (v : Value), nsl a -> VR ρ w O a v -> VR ρ w O' a v
 | .osl .., _, _, hv => by simpa only [VR] using hv
 | .ocl .., _, _, hv => by simpa only [VR] using hv
 | .ptr .., _, _, hv => by simpa only [VR] using hv
 | .agg az, _, h, hv => by
  simp only [VR, nsl] at *
  obtain ⟨vs, e, h0, h1⟩ := hv
  exact ⟨vs, e, h0, nsls_vr az _ h h1⟩
 | .tup az, _, h, hv => by
  simp only [VR, nsl] at *
  obtain ⟨vs, e, h1⟩ := hv
  exact ⟨vs, e, nsls_vr az _ h h1⟩
 | .fn f az, _, h, hv => by
  simp only [VR, nsl] at *
  obtain ⟨vs, e, h1⟩ := hv
  exact ⟨vs, e, nsls_vr az _ h h1⟩
 | .sl .., _, h, _ => by simp only [nsl] at h
 | .pat _, _, h, _ => by simp only [nsl] at h
 | .int _ _, _, _, hv => by simpa only [VR] using hv
 | .bool _, _, _, hv => by simpa only [VR] using hv
 | .str _, _, _, hv => by simpa only [VR] using hv
 | .raw _, _, _, hv => by simpa only [VR] using hv
 | .nils, _, _, hv => by simpa only [VR] using hv
 | .nilp, _, _, hv => by simpa only [VR] using hv
 | .dead, _, _, _ => by simp only [VR]
theorem nsls_vr : ∀ (az : List AV) (vs : List Value), nsls az -> VRs ρ w O az vs -> VRs ρ w O' az vs
 | [], [], _, _ => by simp only [VRs]
 | a :: az, v :: vs, h, hv => by
  simp only [VRs, nsls] at *
  exact ⟨nsl_vr a v h.1 hv.1, nsls_vr az vs h.2 hv.2⟩
 | [], _ :: _, _, hv => by simp only [VRs] at hv
 | _ :: _, [], _, hv => by simp only [VRs] at hv
end
end
theorem nsls_otc (t : OT) : nsls (otc t) := by
 simp only [otc, nsls, nsl, true_and]
 cases t.ids with
 | none => exact ⟨trivial, trivial, trivial⟩
 | some p => obtain ⟨a, b⟩ := p; exact ⟨trivial, trivial, trivial⟩
theorem nsls_fl {α : Type} {f : α -> List AV} (hf : ∀ x, nsls (f x)) : ∀ X : List α, nsls (fl f X)
 | [] => trivial
 | x :: X => by
  have : fl f (x :: X) = f x ++ fl f X := by simp [fl]
  rw [this, nsls_app]
  exact ⟨hf x, nsls_fl hf X⟩
theorem nslH_own (t : OT) : nslH (own t) := by
 unfold own
 cases t.ids with
 | none => trivial
 | some p => obtain ⟨a, b⟩ := p; exact ⟨nsls_fl (f := sc) (fun s => ⟨trivial, trivial⟩) _, nsls_fl nsls_otc _, trivial⟩
mutual
theorem nslH_objs : ∀ t : OT, nslH (objs t)
 | .mk d m s i ns ks => by simp only [objs]; exact nslH_app.2 ⟨nslH_own _, nslH_objss ks⟩
theorem nslH_objss : ∀ ks : List OT, nslH (objss ks)
 | [] => by simp only [objss]; trivial
 | t :: ts => by simp only [objss]; exact nslH_app.2 ⟨nslH_objs t, nslH_objss ts⟩
end
theorem lend_own {G : Prg} {f : Nat} {args args' : List AV} {H : Hp} {n : Nat} {R : AV -> Hp -> Prop} (hv : View H args args') (h : TCall G f args' [] n fun r Z' n' => n' = n /\ nsl r /\ nslH Z' /\ odH Z' /\ R r Z') :
  TCall G f args H n fun r H' n' => n' = n /\ ∃ Z', H' = H ++ Z' /\ odH Z' /\ R r Z' := by
 intro X ρ w vs hf hr hvs
 obtain ⟨X', h1, h2⟩ := hv X ρ w vs.toList hr hvs
 have hr0 : HR X' ρ w [] := ⟨by simp [ids], by simp [ids], by simp [ids], fun b hb => hr.ox_old (h1 b hb), by simp⟩
 refine (h X' ρ w vs hf hr0 (by rw [OX_nil]; exact h2)).mono ?_
 rintro e w' ⟨v, r, ρ', Z', n', rfl, q1, q2, q3, q4, rfl, q5, q6, q6b, q7⟩
 have hnew : ∀ b, Own ρ' Z' b -> w.heap.size <= b := fun b hb => (q4.own b hb).resolve_left fun ⟨i, hi, _⟩ => by simp [ids] at hi
 have hC : HR (OX X ρ H) ρ' w' Z' := by
  refine ⟨q2.nodup, q2.inj, fun i b hi hb hx => ?_, fun b hb => Nat.lt_of_lt_of_le (hr.ox_old hb) q4.ext.size, fun i cs hm => ?_⟩
  ·have := hnew b ⟨i, hi, hb⟩
   have := hr.ox_old hx
   omega
  ·obtain ⟨b, c, e, f, k1, k2, k3, k4, k5, k6⟩ := q2.obj i cs hm
   exact ⟨b, c, e, f, k1, k2, k3, k4, k5, nsls_vr _ _ (nslH_mem q6 hm) k6⟩
 obtain ⟨g1, g2⟩ := frame_out (n := n') (fun _ => False) hr (List.Sublist.refl H) (fun _ h => h.elim) q4.rho hC
  (fun i hi hi' => by
   obtain ⟨b, hb, hlt⟩ := hr.has hi
   have := hnew b ⟨i, hi', q4.rho i b hb⟩
   omega)
  (q4.ext.mono fun b _ hb => by obtain ⟨i, hi, _⟩ := hb; simp [ids] at hi) (fun b hb => .inr (hnew b hb))
 exact ⟨v, r, ρ', H ++ Z', n', rfl, q1, g1, nsl_vr _ _ q5 q3, g2, rfl, Z', rfl, q6b, q7⟩
def rnC3 (m : List (Nat × Nat)) (cs cs' : List AV) : Prop := rnC m cs cs' \/ (ods cs /\ cs = cs')
def rnR3 (m : List (Nat × Nat)) : Hp -> Hp -> Prop
 | [], [] => True
 | (i, cs) :: H, (j, cs') :: H' => lkm m i = some j /\ rnC3 m cs cs' /\ rnR3 m H H'
 | _, _ => False
section
variable {m : List (Nat × Nat)} {n : Nat}
theorem rnR3_mem : ∀ {H H' : Hp} {j : Nat} {ds : List AV}, rnR3 m H H' -> (j, ds) ∈ H' -> ∃ i cs, (i, cs) ∈ H /\ lkm m i = some j /\ rnC3 m cs ds
 | [], [], _, _, _, h => by simp at h
 | (i, cs) :: H, (k, cs') :: H', j, ds, hr, h => by
  simp only [rnR3] at hr
  rcases List.mem_cons.1 h with e | h
  ·cases e; exact ⟨i, cs, by simp, hr.1, hr.2.1⟩
  ·obtain ⟨i', cs2, h1, h2⟩ := rnR3_mem hr.2.2 h
   exact ⟨i', cs2, by simp [h1], h2⟩
 | [], _ :: _, _, _, hr, _ => by simp only [rnR3] at hr
 | _ :: _, [], _, _, hr, _ => by simp only [rnR3] at hr
theorem rnR3_ids {H H' : Hp} (hr : rnR3 m H H') {j : Nat} (h : j ∈ ids H') : ∃ i, i ∈ ids H /\ lkm m i = some j := by
 obtain ⟨⟨k, ds⟩, hm, rfl⟩ := List.mem_map.1 h
 obtain ⟨i, cs, h1, h2, _⟩ := rnR3_mem hr hm
 exact ⟨i, List.mem_map.2 ⟨_, h1, rfl⟩, h2⟩
theorem rnR3_nodup (h : okm m n = true) : ∀ {H H' : Hp}, rnR3 m H H' -> (ids H).Nodup -> (ids H').Nodup
 | [], [], _, _ => by simp [ids]
 | (i, cs) :: H, (k, cs') :: H', hr, hn => by
  simp only [rnR3] at hr
  simp only [ids, List.map_cons, List.nodup_cons] at hn ⊢
  refine ⟨fun hk => hn.1 ?_, rnR3_nodup h hr.2.2 hn.2⟩
  obtain ⟨i', h1, h2⟩ := rnR3_ids hr.2.2 hk
  have e1 := (okm_at h (lkm_mem hr.1)).1
  have e2 := (okm_at h (lkm_mem h2)).1
  rw [e1] at e2; cases e2; exact h1
 | [], _ :: _, hr, _ => by simp only [rnR3] at hr
 | _ :: _, [], hr, _ => by simp only [rnR3] at hr
theorem S.rnz {np : Nat} {X : Nat -> Prop} {N n n' : Nat} {ρ : Rho} {F F' : Fr} {H H' Z : Hp} {a : Act} {w : World} (hm : okm m n' = true) (hpn : okp m np = true) (hF : slF F /\ rnF m F = F') (hH : rnR3 m H H') (hz : odH Z) (hst : S X N ρ n F (H ++ Z) a w) :
  S X N (rnr m ρ) n' F' (H' ++ Z) a w /\ (∀ b, Own (rnr m ρ) (H' ++ Z) b -> Own ρ (H ++ Z) b) /\ ∀ i b, (i < np \/ i % 2 = 1) -> ρ i = some b -> rnr m ρ i = some b := by
 obtain ⟨hsl, rfl⟩ := hF
 have iA : ∀ {A B : Hp} {i : Nat}, i ∈ ids (A ++ B) ↔ i ∈ ids A \/ i ∈ ids B := fun {A B i} => by simp only [ids, List.map_append, List.mem_append]
 have hodd : ∀ i, i % 2 = 1 -> rnr m ρ i = ρ i := fun i hi => by unfold rnr; rw [if_pos hi]
 have hev : ∀ j, j ∈ ids H' -> j % 2 = 0 := fun j hj => by
  obtain ⟨i, _, hl⟩ := rnR3_ids hH hj
  exact (okm_at hm (lkm_mem hl)).2.2.1
 have hown : ∀ b, Own (rnr m ρ) (H' ++ Z) b -> Own ρ (H ++ Z) b := by
  rintro b ⟨j, hj, hb⟩
  rcases iA.1 hj with hj | hj
  ·obtain ⟨i, hi, hl⟩ := rnR3_ids hH hj
   rw [rnr_at hm hl] at hb
   exact ⟨i, iA.2 (.inl hi), hb⟩
  ·rw [hodd j (odH_ids hz hj)] at hb
   exact ⟨j, iA.2 (.inr hj), hb⟩
 have hO : ∀ b, OX X (rnr m ρ) (H' ++ Z) b -> OX X ρ (H ++ Z) b := fun b hb => hb.imp id (hown b)
 have hnd : (ids H).Nodup /\ (ids Z).Nodup := by
  have := hst.hr.nodup
  simp only [ids, List.map_append] at this
  exact ⟨(List.nodup_append.1 this).1, (List.nodup_append.1 this).2.1⟩
 refine ⟨⟨⟨?_, fun j hj he => ?_, ?_⟩, ⟨?_, ?_, ?_, hst.hr.xold, ?_⟩, fun t => ?_, hst.df, hst.sz⟩, hown, fun i b hi hb => ?_⟩
 ·unfold okm at hm
  rw [Bool.and_eq_true] at hm
  exact Nat.eq_of_beq_eq_true hm.1
 ·unfold rnr
  rw [if_neg (by omega)]
  cases hl : lkm (swp m) j with
  | none => rfl
  | some i =>
   exfalso
   have := lkm_mem hl
   obtain ⟨⟨a1, a2⟩, h1, h2⟩ := List.mem_map.1 this
   cases h2
   have := (okm_at hm h1).2
   omega
 ·obtain ⟨m0, h0⟩ := hst.fresh.2.2
  refine ⟨max m0 n', fun j hj => ?_⟩
  unfold rnr
  by_cases h2 : j % 2 = 1
  ·rw [if_pos h2]; exact h0 j (by omega)
  ·rw [if_neg h2]
   cases hl : lkm (swp m) j with
   | none => rfl
   | some i =>
    exfalso
    have := lkm_mem hl
    obtain ⟨⟨a1, a2⟩, h1, h2⟩ := List.mem_map.1 this
    cases h2
    have := (okm_at hm h1).2
    omega
 ·simp only [ids, List.map_append]
  refine List.nodup_append.2 ⟨rnR3_nodup hm hH hnd.1, hnd.2, fun x hx y hy e => ?_⟩
  subst e
  have h1 := hev x hx
  have h2 := odH_ids hz hy
  omega
 ·intro i j b hi hj h1 h2
  rcases iA.1 hi with hi | hi <;> rcases iA.1 hj with hj | hj
  ·obtain ⟨i', k1, k2⟩ := rnR3_ids hH hi
   obtain ⟨j', k3, k4⟩ := rnR3_ids hH hj
   rw [rnr_at hm k2] at h1
   rw [rnr_at hm k4] at h2
   have := hst.hr.inj i' j' b (iA.2 (.inl k1)) (iA.2 (.inl k3)) h1 h2
   subst this
   rw [k2] at k4; cases k4; rfl
  ·obtain ⟨i', k1, k2⟩ := rnR3_ids hH hi
   rw [rnr_at hm k2] at h1
   rw [hodd j (odH_ids hz hj)] at h2
   have := hst.hr.inj i' j b (iA.2 (.inl k1)) (iA.2 (.inr hj)) h1 h2
   subst this
   have := hst.hr.nodup
   simp only [ids, List.map_append] at this
   exact absurd rfl ((List.nodup_append.1 this).2.2 i' k1 i' hj)
  ·obtain ⟨j', k1, k2⟩ := rnR3_ids hH hj
   rw [rnr_at hm k2] at h2
   rw [hodd i (odH_ids hz hi)] at h1
   have := hst.hr.inj j' i b (iA.2 (.inl k1)) (iA.2 (.inr hi)) h2 h1
   subst this
   have := hst.hr.nodup
   simp only [ids, List.map_append] at this
   exact absurd rfl ((List.nodup_append.1 this).2.2 j' k1 j' hi)
  ·rw [hodd i (odH_ids hz hi)] at h1; rw [hodd j (odH_ids hz hj)] at h2
   exact hst.hr.inj i j b (iA.2 (.inr hi)) (iA.2 (.inr hj)) h1 h2
 ·intro i b hi h1
  rcases iA.1 hi with hi | hi
  ·obtain ⟨i', k1, k2⟩ := rnR3_ids hH hi
   rw [rnr_at hm k2] at h1
   exact hst.hr.notX i' b (iA.2 (.inl k1)) h1
  ·rw [hodd i (odH_ids hz hi)] at h1
   exact hst.hr.notX i b (iA.2 (.inr hi)) h1
 ·intro j ds hj
  have hod : ∀ cs, ods cs -> ∀ vs, VRs ρ w (OX X ρ (H ++ Z)) cs vs -> VRs (rnr m ρ) w (OX X (rnr m ρ) (H' ++ Z)) cs vs := fun cs ho vs hv => ods_vr (fun i b hi hb => by rw [hodd i hi]; exact hb) hO _ _ ho hv
  rcases List.mem_append.1 hj with hj | hj
  ·obtain ⟨i, cs, h1, h2, h3⟩ := rnR3_mem hH hj
   obtain ⟨b, c', e, f, k1, k2, k3, k4, k5, k6⟩ := hst.hr.obj i cs (List.mem_append.2 (.inl h1))
   have hk3 : UF j c' f := ⟨k3.1, k3.2.imp (fun h => h) (by have := (okm_at hm (lkm_mem h2)).2.2.2; omega)⟩
   rcases h3 with (⟨hp, rfl⟩ | ⟨hs, rfl⟩) | ⟨ho, rfl⟩
   ·exact ⟨b, c', e, f, (rnr_at hm h2).trans k1, k2, hk3, k4, k5, purs_vr _ _ hp (VRs_carry (Carry.less hO) _ _ k6)⟩
   ·refine ⟨b, c', e, f, (rnr_at hm h2).trans k1, k2, hk3, k4, by rw [rns_len]; exact k5, ?_⟩
    rw [rns_len]
    exact rns_vr hm hO _ _ hs k6
   ·exact ⟨b, c', e, f, (rnr_at hm h2).trans k1, k2, hk3, k4, k5, hod _ ho _ k6⟩
  ·obtain ⟨b, c', e, f, k1, k2, k3, k4, k5, k6⟩ := hst.hr.obj j ds (List.mem_append.2 (.inr hj))
   have h1 := odH_mem hz hj
   exact ⟨b, c', e, f, by rw [hodd j h1.1]; exact k1, k2, k3, k4, k5, hod _ h1.2 _ k6⟩
 ·rw [gt_rnF]
  exact rn_vr hm hO _ _ (slF_gt t hsl) (hst.fr t)
 ·unfold okp at hpn
  rw [List.all_eq_true] at hpn
  by_cases ho : i % 2 = 1
  ·rw [hodd i ho]; exact hb
  unfold rnr
  rw [if_neg ho]
  have h1 := hpn i (by simpa using hi.resolve_right ho)
  rw [show Nat.beq (i % 2) 1 = false from Bool.eq_false_iff.2 fun hq => ho (Nat.eq_of_beq_eq_true hq)] at h1
  rw [Bool.false_or] at h1
  cases hl : lkm (swp m) i with
  | none => rw [hl] at h1; cases h1
  | some k =>
   rw [hl] at h1
   simp only [opb] at h1
   rw [Nat.eq_of_beq_eq_true h1]
   exact hb
end
def LS (np : Nat) {σ : Type} (Fi : σ -> Fr) (Hi : σ -> Hp) (I : σ -> Nat -> Prop) (m : σ -> Nat) (x : σ) (Q : Post) : Post := fun e F H n => match e with
 | .normal => ∃ y, m y < m x /\ ∃ n', I y n' /\ ∀ X N ρ a w, S X N ρ n F H a w -> ∃ ρ', S X N ρ' n' (Fi y) (Hi y) a w /\ (∀ b, Own ρ' (Hi y) b -> Own ρ H b) /\ ∀ i b, (i < np \/ i % 2 = 1) -> ρ i = some b -> ρ' i = some b
 | e => Q e F H n
theorem TT_loops {np : Nat} {P : Program} {c : Code} {F : Fr} {H : Hp} {n : Nat} {Q : Post} {σ : Type} (Fi : σ -> Fr) (Hi : σ -> Hp) (I : σ -> Nat -> Prop) (m : σ -> Nat) (x0 : σ)
  (h0 : I x0 n) (hf : fsub (Fi x0) F) (hh : (Hi x0).Sublist H)
  (round : ∀ x n', I x n' -> TT np P c (Fi x) (Hi x) n' (LS np Fi Hi I m x Q)) : TT np P (.loop c) F H n Q := by
 intro X N ρ a w hst hc
 simp only [codeOk] at hc
 intro b it cs
 have key : ∀ k x ρ' n' a' w', m x = k -> S X N ρ' n' (Fi x) (Hi x) a' w' -> Ny np ρ H w ρ' (Hi x) w' -> I x n' ->
   ∃ e a2 w2, (∃ ρ' F' H' n', S X N ρ' n' F' H' a2 w2 /\ Ny np ρ H w ρ' H' w2 /\ Q e F' H' n') /\ Arrives P (lone (b.at a' (.code c :: .inLoop c :: it)) cs w') b it cs e a2 w2 := by
  intro k
  induction k using Nat.strongRecOn with
  | _ k ih =>
   intro x ρ' n' a' w' hk hs' hn' hI
   obtain ⟨e, a1, w1, ⟨ρ1, F1, H1, n1, hs1, hn1, hq⟩, harr⟩ := round x n' hI X N ρ' a' w' hs' hc b (.inLoop c :: it) cs
   cases e with
   | normal =>
    obtain ⟨y, hm, n2, hIy, hcv⟩ := hq
    obtain ⟨ρ2, hs2, ho2, hp2⟩ := hcv X N ρ1 a1 w1 hs1
    have hn2 : Ny np ρ H w ρ2 (Hi y) w1 :=
     let h := hn'.trans hn1
     ⟨fun i b hi hb => hp2 i b hi (h.pin i b hi hb), h.ext, fun b hb => h.own b (ho2 b hb)⟩
    obtain ⟨e2, a2, w2, hq2, harr2⟩ := ih (m y) (hk ▸ hm) y ρ2 n2 a1 w1 rfl hs2 hn2 hIy
    exact ⟨e2, a2, w2, hq2, .of_steps (Steps.trans harr (.one step_inLoop)) harr2⟩
   | exit id => exact ⟨_, a1, w1, ⟨ρ1, F1, H1, n1, hs1, hn'.trans hn1, hq⟩, .pass (x := .inLoop c) rfl (fun _ _ => .inl (by simp)) harr⟩
   | goto l => exact ⟨_, a1, w1, ⟨ρ1, F1, H1, n1, hs1, hn'.trans hn1, hq⟩, .pass (x := .inLoop c) rfl (fun _ _ => .inl (by simp)) harr⟩
   | ret => exact ⟨_, a1, w1, ⟨ρ1, F1, H1, n1, hs1, hn'.trans hn1, hq⟩, .pass (x := .inLoop c) rfl (fun _ _ => .inl (by simp)) harr⟩
   | panic ch => exact ⟨_, a1, w1, ⟨ρ1, F1, H1, n1, hs1, hn'.trans hn1, hq⟩, .pass (x := .inLoop c) rfl (fun _ _ => .inl (by simp)) harr⟩
   | outgrown => exact ⟨_, a1, w1, ⟨ρ1, F1, H1, n1, hs1, hn'.trans hn1, hq⟩, .pass (x := .inLoop c) rfl (fun _ _ => .inl (by simp)) harr⟩
 obtain ⟨e, a2, w2, hq, harr⟩ := key _ x0 ρ n a w rfl (hst.sub hh hf) ⟨fun _ _ _ h => h, Ext.refl _ _, fun b hb => .inl (Own.sub hh hb)⟩ h0
 exact ⟨e, a2, w2, hq, .of_steps (.one step_loop) harr⟩
theorem h_ls {np : Nat} {G : Prg} {c : Code} {F : Fr} {H : Hp} {n : Nat} {Q : Post} {σ : Type} (Fi : σ -> Fr) (Hi : σ -> Hp) (I : σ -> Nat -> Prop) (m : σ -> Nat) (x0 : σ) (hc : c = .loop (lp c)) (h0 : I x0 n) (hf : fsub (Fi x0) F) (hh : (Hi x0).Sublist H)
  (round : ∀ x n', I x n' -> TT np G.P (lp c) (Fi x) (Hi x) n' (LS np Fi Hi I m x Q)) : TT np G.P c F H n Q := by
 rw [hc]; exact TT_loops Fi Hi I m x0 h0 hf hh round
instance {np : Nat} {σ : Type} {Fi : σ -> Fr} {Hi : σ -> Hp} {I : σ -> Nat -> Prop} {m : σ -> Nat} {x : σ} {Q Q0 : Post} [h : Btm Q Q0] : Btm (LS np Fi Hi I m x Q) Q0 := ⟨fun k => h.of k⟩
theorem Lsx {np j : Nat} {σ : Type} {Fi : σ -> Fr} {Hi : σ -> Hp} {I : σ -> Nat -> Prop} {m : σ -> Nat} {x : σ} {Q : Post} {F : Fr} {H : Hp} {n : Nat} (h : Q (.exit j) F H n) : LS np Fi Hi I m x Q (.exit j) F H n := h
theorem lsz_mk {np : Nat} {σ : Type} {Fi : σ -> Fr} {Hi : σ -> Hp} {I : σ -> Nat -> Prop} {m : σ -> Nat} {x : σ} {Q : Post} {F : Fr} {H : Hp} {n : Nat} (y : σ) (mp : List (Nat × Nat)) (n' : Nat) (F1 : Fr) (H1 Hf Z : Hp)
  (h1 : m y < m x) (h2 : I y n') (h3 : okm mp n' = true /\ okp mp np = true) (h4 : fsub F1 F) (h5 : ∃ H0 : Hp, H0.Perm H /\ (H1 ++ Z).Sublist H0) (h6 : slF F1 /\ rnF mp F1 = Fi y) (h7 : rnR3 mp H1 Hf) (h8 : Hf ++ Z = Hi y) (h9 : odH Z) : LS np Fi Hi I m x Q .normal F H n := by
 refine ⟨y, h1, n', h2, fun X N ρ a w hs => ?_⟩
 obtain ⟨H0, hpm, hsub⟩ := h5
 obtain ⟨k1, k2, k3⟩ := S.rnz (np := np) h3.1 h3.2 h6 h7 h9 ((hs.perm hpm).sub hsub h4)
 rw [h8] at k1 k2
 exact ⟨_, k1, fun b hb => by obtain ⟨i, hi, hb⟩ := Own.sub hsub (k2 b hb); exact ⟨i, (ids_perm hpm i).1 hi, hb⟩, k3⟩
mutual
def asm : OT -> Prop | .mk _ _ _ i _ ks => i.isSome = true /\ asms ks
def asms : List OT -> Prop | [] => True | t :: ts => asm t /\ asms ts
end
theorem asm_eq (t : OT) : asm t ↔ t.ids.isSome = true /\ asms t.kids := by cases t; simp only [asm, OT.ids, OT.kids]
theorem asms_app : ∀ {a b : List OT}, asms (a ++ b) ↔ asms a /\ asms b
 | [], b => by simp [asms]
 | x :: a, b => by simp only [List.cons_append, asms, asms_app (a := a), and_assoc]
theorem asms_get : ∀ {ks : List OT}, asms ks -> ∀ {k : Nat}, k < ks.length -> asm (ks.getD k default)
 | [], _, k, hk => by simp at hk
 | t :: ts, h, 0, _ => h.1
 | t :: ts, h, k + 1, hk => asms_get (ks := ts) h.2 (by simpa using hk)
theorem oat_asm : ∀ {p : List Str} {t x : OT}, owf t -> asm t -> oat t p = some x -> asm x
 | [], t, x, _, h, he => by simp only [oat, Option.some.injEq] at he; exact he ▸ h
 | n :: p, t, x, hw, h, he => by
  rw [oat] at he
  cases hf : fnd n t.names with
  | none => rw [hf] at he; cases he
  | some k =>
   rw [hf] at he
   have hk : k < t.kids.length := by rw [<- owf_len hw]; exact fnd_lt hf
   exact oat_asm (owf_kid hw hk) (asms_get ((asm_eq t).1 h).2 hk) he
def ClR (t : Tr) (r : AV) (Z : Hp) : Prop := ∃ T : OT, er T = t /\ shp T /\ asm T /\ r = .agg (otc T) /\ Z = objs T
theorem push_ot (X : List OT) (y : OT) : apd (fl otc X) (X.length * 5) (otc y) = fl otc (X ++ [y]) := by
 unfold apd
 rw [List.take_of_length_le (by rw [fl_len otc_len]; exact Nat.le_refl _), fl_app, fl_one]
theorem ods_tcs (t : Tr) : ods [.agg (tcs t)] := by
 simp only [ods, od, tcs, true_and, and_true]
 exact ⟨purs_pth _, puress_trc _⟩
theorem cl_use {G : Prg} {f : Nat} {t : Tr} {H : Hp} {n : Nat} {arg : AV} (hv : View H [arg] [.agg (tcs t)]) (h : DC G f [.agg (tcs t)] [] (ClR t)) :
  TCall G f [arg] H n fun r H' n' => n' = n /\ ∃ T : OT, H' = H ++ objs T /\ er T = t /\ shp T /\ asm T /\ r = .agg (otc T) := by
 refine TCall.mono (lend_own (R := ClR t) hv ((h [] n trivial).mono ?_)) ?_
 ·rintro r H' n' _ ⟨rfl, Z', rfl, T, q1, q2, q3, rfl, rfl⟩
  exact ⟨rfl, nsls_otc T, nslH_objs T, odH_objs T, T, q1, q2, q3, rfl, rfl⟩
 ·rintro r H' n' _ ⟨rfl, Z', rfl, _, T, q1, q2, q3, rfl, rfl⟩
  exact ⟨rfl, T, rfl, q1, q2, q3, rfl⟩
open Go Go.Proofs
set_option maxRecDepth 100000
theorem within_ok (n lo hi : Int) : PE G 61 [.int .i64 n, .int .i64 lo, .int .i64 hi] (.bool (inb n lo hi)) := by
 refine Pe Tryz.func61 ?_
 refine Rr (Fn0 [0, 1, 2] [] (Rm 6 ((decide ((lo : Int) <= (n : Int))) && (decide ((n : Int) <= (hi : Int)))) [] ?_ ?_))
 refine An1 4 [(10, .bool (decide ((lo : Int) <= (n : Int)))), (9, .bool (decide ((lo : Int) <= (n : Int)))), (8, .int .i64 lo), (7, .int .i64 n)] (Ki /\ ·) ⟨rfl, run_b (fun g3 => ?_) (fun g3 => ?_)⟩
 have hg3 := g3
 try simp only [KF] at g3
 refine Mn1 (decide ((n : Int) <= (hi : Int))) (Ki /\ ·) ⟨rfl, (by rw [hg3]; rfl)⟩
 have hg3 := g3
 try simp only [KF] at g3
 refine Mn0 false (by rw [hg3]; rfl)
 refine Rt (.bool ((decide ((lo : Int) <= (n : Int))) && (decide ((n : Int) <= (hi : Int))))) ?_
 exact fin_lea (lea_refl _)
theorem l1In_ok (n lo hi : Int) : PE G 50 [.int .i64 n, .int .i64 lo, .int .i64 hi] (.bool (inb n lo hi)) := by
 refine Pe Tryz.func50 ?_
 refine Rr (Fn0 [0, 1, 2] [] (Rm 6 ((decide ((lo : Int) <= (n : Int))) && (decide ((n : Int) <= (hi : Int)))) [] ?_ ?_))
 refine An1 4 [(10, .bool (decide ((lo : Int) <= (n : Int)))), (9, .bool (decide ((lo : Int) <= (n : Int)))), (8, .int .i64 lo), (7, .int .i64 n)] (Ki /\ ·) ⟨rfl, run_b (fun g3 => ?_) (fun g3 => ?_)⟩
 have hg3 := g3
 try simp only [KF] at g3
 refine Mn1 (decide ((n : Int) <= (hi : Int))) (Ki /\ ·) ⟨rfl, (by rw [hg3]; rfl)⟩
 have hg3 := g3
 try simp only [KF] at g3
 refine Mn0 false (by rw [hg3]; rfl)
 refine Rt (.bool ((decide ((lo : Int) <= (n : Int))) && (decide ((n : Int) <= (hi : Int))))) ?_
 exact fin_lea (lea_refl _)
theorem nameOk_ok (s : List UInt8) (hs : s.length < 2 ^ 62) : PE G 60 [.str s] (.bool (nmOk s)) := by
 refine Pe Tryz.func60 ?_
 refine Rr (Fn0 [0] [] (Sq fun K2 hK2 => ?_))
 refine Rr (Fn0 [0] [(6, .int .i64 0), (5, .int .i64 s.length)] (Bl (h_l (fun (k : Nat) => ([(0, .str s), (5, .int .i64 s.length), (6, .int .i64 k)] : Fr)) (fun (k : Nat) => ([] : Hp)) (fun (k : Nat) cn => (k <= s.length /\ (s.take k).all chOk = true) /\ cn = 0) (fun (k : Nat) => s.length - k) 0 (by kernel_rfl) ?_ ?_ ?_ ?_)))
 refine ⟨?_, rfl⟩; exact ⟨Nat.zero_le _, rfl⟩
 exact ⟨by kernel_rfl, by kernel_rfl, by kernel_rfl, trivial⟩
 exact (List.nil_sublist _)
 rintro k n1 hI
 (try dsimp only at hI)
 obtain ⟨⟨hi1, hi2⟩, rfl⟩ := hI
 refine Rr (Fn1 [0, 5, 6] [(7, .bool (decide ((k : Int) < (s.length : Int))))] (Ki /\ ·) ⟨rfl, Sq fun K5 hK5 => ?_⟩)
 refine Cc (decide ((k : Int) < (s.length : Int))) (fun hc6 c6 => ?_) fun hc6 c6 => ?_
 try simp only [KF] at c6
 refine Sk (Jn (hK5 (Kp [0, 5, 6] (Sq fun K7 hK7 => ?_))))
 refine Bl (Rr (Fn0 [0, 5, 6] [(3, .int .i64 k)] (Rm 30 (!chOk (s.getD k 0)) [0, 5, 6] ?_ ?_)))
 refine An1 5 [(13, .bool (decide (((s.getD k 0).toNat : Int) < 97))), (12, .bool (decide (((s.getD k 0).toNat : Int) < 97))), (11, .int .u8 ((s.getD k 0).toNat : Int)), (10, .int .i64 k), (9, .str s)] (((0 : Int) <= (k : Int) /\ (k : Int) < (s.length : Int)) /\ (IntKind.u8 = IntKind.u8) /\ ·) ⟨⟨by omega, by omega⟩, rfl, run_b (fun g10 => ?_) (fun g10 => ?_)⟩
 have hg10 := g10
 try simp only [KF] at g10
 refine An1 11 [(24, .bool (decide (((s.getD k 0).toNat : Int) < 48))), (23, .bool (decide (((s.getD k 0).toNat : Int) < 48))), (22, .int .u8 ((s.getD k 0).toNat : Int)), (21, .int .i64 k), (20, .str s), (19, .bool true), (18, .bool true), (17, .tup []), (16, .tup []), (15, .tup []), (14, .tup [])] (((0 : Int) <= (k : Int) /\ (k : Int) < (s.length : Int)) /\ (IntKind.u8 = IntKind.u8) /\ ·) ⟨⟨by omega, by omega⟩, rfl, run_b (fun g11 => ?_) (fun g11 => ?_)⟩
 have hg11 := g11
 try simp only [KF] at g11
 refine Mn0 true (by rw [Bool.eq_iff_iff]; simp [chOk, -List.getD_eq_getElem?_getD]; omega)
 have hg11 := g11
 try simp only [KF] at g11
 refine Mn1 (decide ((57 : Int) < (((s.getD k 0).toNat : Int) : Int))) (((0 : Int) <= (k : Int) /\ (k : Int) < (s.length : Int)) /\ (IntKind.u8 = IntKind.u8) /\ ·) ⟨⟨by omega, by omega⟩, rfl, (by rw [Bool.eq_iff_iff]; simp [chOk, -List.getD_eq_getElem?_getD]; omega)⟩
 have hg10 := g10
 try simp only [KF] at g10
 refine An1 6 [(19, .bool (decide ((122 : Int) < (((s.getD k 0).toNat : Int) : Int)))), (18, .bool (decide ((122 : Int) < (((s.getD k 0).toNat : Int) : Int)))), (17, .bool (decide ((122 : Int) < (((s.getD k 0).toNat : Int) : Int)))), (16, .int .u8 ((s.getD k 0).toNat : Int)), (15, .int .i64 k), (14, .str s)] (((0 : Int) <= (k : Int) /\ (k : Int) < (s.length : Int)) /\ (IntKind.u8 = IntKind.u8) /\ ·) ⟨⟨by omega, by omega⟩, rfl, run_b (fun g12 => ?_) (fun g12 => ?_)⟩
 have hg12 := g12
 try simp only [KF] at g12
 refine An1 5 [(24, .bool (decide (((s.getD k 0).toNat : Int) < 48))), (23, .bool (decide (((s.getD k 0).toNat : Int) < 48))), (22, .int .u8 ((s.getD k 0).toNat : Int)), (21, .int .i64 k), (20, .str s)] (((0 : Int) <= (k : Int) /\ (k : Int) < (s.length : Int)) /\ (IntKind.u8 = IntKind.u8) /\ ·) ⟨⟨by omega, by omega⟩, rfl, run_b (fun g13 => ?_) (fun g13 => ?_)⟩
 have hg13 := g13
 try simp only [KF] at g13
 refine Mn0 true (by rw [Bool.eq_iff_iff]; simp [chOk, -List.getD_eq_getElem?_getD]; omega)
 have hg13 := g13
 try simp only [KF] at g13
 refine Mn1 (decide ((57 : Int) < (((s.getD k 0).toNat : Int) : Int))) (((0 : Int) <= (k : Int) /\ (k : Int) < (s.length : Int)) /\ (IntKind.u8 = IntKind.u8) /\ ·) ⟨⟨by omega, by omega⟩, rfl, (by rw [Bool.eq_iff_iff]; simp [chOk, -List.getD_eq_getElem?_getD]; omega)⟩
 have hg12 := g12
 try simp only [KF] at g12
 refine Mn0 false (by rw [Bool.eq_iff_iff]; simp [chOk, -List.getD_eq_getElem?_getD]; omega)
 refine Cc (!chOk (s.getD k 0)) (fun hc14 c14 => ?_) fun hc14 c14 => ?_
 try simp only [KF] at c14
 refine Rr (Fn0 [] [(2, .bool false)] (Rt (.bool false) (fin_lea ?_)))
 rw [show nmOk s = false by simp [-List.getD_eq_getElem?_getD, nmOk, all_false_at chOk s k 0 (by omega) c14]]; exact lea_refl _
 try simp only [KF] at c14
 refine Sk (Bn (Jn (hK7 (Kp [0, 5, 6] (Rn (Av1 1 31 [] (congrArg (AV.int .i64) (wn1 k (by omega))) (Ki /\ ·) ⟨rfl, Gn0 [(6, .int .i64 ((k + 1 : Nat) : Int))] (nk_n ?_)⟩))))))
 refine Lr (k + 1) [] 0 [(0, .str s), (5, .int .i64 s.length), (6, .int .i64 ((k + 1 : Nat) : Int))] [] [] ?_ ?_ (by kernel_rfl) (by kernel_rfl)
 (try dsimp only); omega
 refine ⟨?_, rfl⟩; (try dsimp only); exact ⟨by omega, by rw [all_take_snoc chOk s k 0 (by omega), hi2, c14]; rfl⟩
 try simp only [KF] at c6
 refine Xt (Jx (Lx (Bh (Jn (hK2 (Kp [0] (Rr (Pc0 3 [(33, .int .i64 s.length), (32, .str s)] 34 (within_ok (s.length : Int) 1 5) (Fn0 [] [(2, .bool (inb (s.length : Int) 1 5))] (Rt (.bool (inb (s.length : Int) 1 5)) ?_))))))))))
 refine fin_lea ?_
 rw [show nmOk s = inb (s.length : Int) 1 5 by simp [nmOk, all_take_full chOk s k (by omega) hi2]]; exact lea_refl _
theorem l1NameOk_ok (s : List UInt8) (hs : s.length < 2 ^ 62) : PE G 74 [.str s] (.bool (nmOk s)) := by
 refine Pe Tryz.func74 ?_
 refine Rr (Fn0 [0] [] (Sq fun K2 hK2 => ?_))
 refine Rr (Fn0 [0] [(3, .int .i64 0)] (Bl (h_l (fun (k : Nat) => ([(0, .str s), (3, .int .i64 k)] : Fr)) (fun (k : Nat) => ([] : Hp)) (fun (k : Nat) cn => (k <= s.length /\ (s.take k).all chOk = true) /\ cn = 0) (fun (k : Nat) => s.length - k) 0 (by kernel_rfl) ?_ ?_ ?_ ?_)))
 refine ⟨?_, rfl⟩; exact ⟨Nat.zero_le _, rfl⟩
 exact ⟨by kernel_rfl, by kernel_rfl, trivial⟩
 exact (List.nil_sublist _)
 rintro k n1 hI
 (try dsimp only at hI)
 obtain ⟨⟨hi1, hi2⟩, rfl⟩ := hI
 refine Sq fun K4 hK4 => ?_
 refine Rr (Cn1 (decide ((k : Int) < (s.length : Int))) [0, 3] [] (Ki /\ ·) ⟨rfl, fun hc6 c6 => ?_, fun hc6 c6 => ?_⟩)
 try simp only [KF] at c6
 refine Sk (Jn (hK4 (Kp [0, 3] (Sq fun K7 hK7 => ?_))))
 refine Bl (Rm 32 (!chOk (s.getD k 0)) [0, 3] ?_ ?_)
 refine An1 5 [(14, .bool (decide ((97 : Int) <= (((s.getD k 0).toNat : Int) : Int)))), (13, .bool (decide ((97 : Int) <= (((s.getD k 0).toNat : Int) : Int)))), (12, .int .u8 ((s.getD k 0).toNat : Int)), (11, .int .i64 k), (10, .str s)] (((0 : Int) <= (k : Int) /\ (k : Int) < (s.length : Int)) /\ (IntKind.u8 = IntKind.u8) /\ ·) ⟨⟨by omega, by omega⟩, rfl, run_b (fun g9 => ?_) (fun g9 => ?_)⟩
 have hg9 := g9
 try simp only [KF] at g9
 refine An1 6 [(20, .bool (decide (((s.getD k 0).toNat : Int) <= 122))), (19, .bool (decide (((s.getD k 0).toNat : Int) <= 122))), (18, .bool (decide (((s.getD k 0).toNat : Int) <= 122))), (17, .int .u8 ((s.getD k 0).toNat : Int)), (16, .int .i64 k), (15, .str s)] (((0 : Int) <= (k : Int) /\ (k : Int) < (s.length : Int)) /\ (IntKind.u8 = IntKind.u8) /\ ·) ⟨⟨by omega, by omega⟩, rfl, run_b (fun g10 => ?_) (fun g10 => ?_)⟩
 have hg10 := g10
 try simp only [KF] at g10
 refine Mn0 false (by rw [Bool.eq_iff_iff]; simp [chOk, -List.getD_eq_getElem?_getD]; omega)
 have hg10 := g10
 try simp only [KF] at g10
 refine An1 5 [(25, .bool (decide ((48 : Int) <= (((s.getD k 0).toNat : Int) : Int)))), (24, .bool (decide ((48 : Int) <= (((s.getD k 0).toNat : Int) : Int)))), (23, .int .u8 ((s.getD k 0).toNat : Int)), (22, .int .i64 k), (21, .str s)] (((0 : Int) <= (k : Int) /\ (k : Int) < (s.length : Int)) /\ (IntKind.u8 = IntKind.u8) /\ ·) ⟨⟨by omega, by omega⟩, rfl, run_b (fun g11 => ?_) (fun g11 => ?_)⟩
 have hg11 := g11
 try simp only [KF] at g11
 refine Mn1 (!(decide (((s.getD k 0).toNat : Int) <= 57))) (((0 : Int) <= (k : Int) /\ (k : Int) < (s.length : Int)) /\ (IntKind.u8 = IntKind.u8) /\ ·) ⟨⟨by omega, by omega⟩, rfl, (by rw [Bool.eq_iff_iff]; simp [chOk, -List.getD_eq_getElem?_getD]; omega)⟩
 have hg11 := g11
 try simp only [KF] at g11
 refine Mn0 true (by rw [Bool.eq_iff_iff]; simp [chOk, -List.getD_eq_getElem?_getD]; omega)
 have hg9 := g9
 try simp only [KF] at g9
 refine An1 11 [(25, .bool (decide ((48 : Int) <= (((s.getD k 0).toNat : Int) : Int)))), (24, .bool (decide ((48 : Int) <= (((s.getD k 0).toNat : Int) : Int)))), (23, .int .u8 ((s.getD k 0).toNat : Int)), (22, .int .i64 k), (21, .str s), (20, .bool false), (19, .bool false), (18, .tup []), (17, .tup []), (16, .tup []), (15, .tup [])] (((0 : Int) <= (k : Int) /\ (k : Int) < (s.length : Int)) /\ (IntKind.u8 = IntKind.u8) /\ ·) ⟨⟨by omega, by omega⟩, rfl, run_b (fun g12 => ?_) (fun g12 => ?_)⟩
 have hg12 := g12
 try simp only [KF] at g12
 refine Mn1 (!(decide (((s.getD k 0).toNat : Int) <= 57))) (((0 : Int) <= (k : Int) /\ (k : Int) < (s.length : Int)) /\ (IntKind.u8 = IntKind.u8) /\ ·) ⟨⟨by omega, by omega⟩, rfl, (by rw [Bool.eq_iff_iff]; simp [chOk, -List.getD_eq_getElem?_getD]; omega)⟩
 have hg12 := g12
 try simp only [KF] at g12
 refine Mn0 true (by rw [Bool.eq_iff_iff]; simp [chOk, -List.getD_eq_getElem?_getD]; omega)
 refine Cc (!chOk (s.getD k 0)) (fun hc13 c13 => ?_) fun hc13 c13 => ?_
 try simp only [KF] at c13
 refine Rr (Fn0 [] [(2, .bool false)] (Rt (.bool false) (fin_lea ?_)))
 rw [show nmOk s = false by simp [-List.getD_eq_getElem?_getD, nmOk, all_false_at chOk s k 0 (by omega) c13]]; exact lea_refl _
 try simp only [KF] at c13
 refine Sk (Bn (Jn (hK7 (Kp [0, 3] (Rn (Av1 2 9 [(8, .int .i64 k)] (congrArg (AV.int .i64) (wn1 k (by omega))) (Ki /\ ·) ⟨rfl, Gn0 [(3, .int .i64 ((k + 1 : Nat) : Int))] (nk_n ?_)⟩))))))
 refine Lr (k + 1) [] 0 [(0, .str s), (3, .int .i64 ((k + 1 : Nat) : Int))] [] [] ?_ ?_ (by kernel_rfl) (by kernel_rfl)
 (try dsimp only); omega
 refine ⟨?_, rfl⟩; (try dsimp only); exact ⟨by omega, by rw [all_take_snoc chOk s k 0 (by omega), hi2, c13]; rfl⟩
 try simp only [KF] at c6
 refine Xt (Jx (Lx (Bh (Jn (hK2 (Kp [0] (Rr (Pc0 3 [(34, .int .i64 s.length), (33, .str s)] 35 (l1In_ok (s.length : Int) 1 5) (Fn0 [] [(2, .bool (inb (s.length : Int) 1 5))] (Rt (.bool (inb (s.length : Int) 1 5)) ?_))))))))))
 refine fin_lea ?_
 rw [show nmOk s = inb (s.length : Int) 1 5 by simp [nmOk, all_take_full chOk s k (by omega) hi2]]; exact lea_refl _
theorem namesOk_ok (p : List Str) (lo : Int) (hp : p.length < 2 ^ 62) (hs : ∀ s ∈ p, s.length < 2 ^ 62) : PE G 56 [pth p, .int .i64 lo] (.bool (pthOk p lo)) := by
 refine Pe Tryz.func56 ?_
 refine Rr (Fn0 [0, 1] [] (Sq fun K2 hK2 => ?_))
 refine Rr (Av0 (r := .int .i64 ((p.map (fun s => [AV.str s])).length : Nat)) (v := .int .i64 p.length) 2 8 [(7, pth p)] (by rw [List.length_map]) (Fn0 [0, 1, 7, 8] [(9, .int .i64 0)] (Bl (h_l (fun (k : Nat) => ([(0, pth p), (1, .int .i64 lo), (7, pth p), (8, .int .i64 p.length), (9, .int .i64 k)] : Fr)) (fun (k : Nat) => ([] : Hp)) (fun (k : Nat) cn => (k <= p.length /\ (p.take k).all nmOk = true) /\ cn = 0) (fun (k : Nat) => p.length - k) 0 (by kernel_rfl) ?_ ?_ ?_ ?_))))
 refine ⟨?_, rfl⟩; exact ⟨Nat.zero_le _, rfl⟩
 exact ⟨by kernel_rfl, by kernel_rfl, by kernel_rfl, by kernel_rfl, by kernel_rfl, trivial⟩
 exact (List.nil_sublist _)
 rintro k n1 hI
 (try dsimp only at hI)
 obtain ⟨⟨hi1, hi2⟩, rfl⟩ := hI
 refine Rr (Fn1 [0, 1, 7, 8, 9] [(10, .bool (decide ((k : Int) < (p.length : Int))))] (Ki /\ ·) ⟨rfl, Sq fun K5 hK5 => ?_⟩)
 refine Cc (decide ((k : Int) < (p.length : Int))) (fun hc6 c6 => ?_) fun hc6 c6 => ?_
 try simp only [KF] at c6
 refine Sk (Jn (hK5 (Kp [0, 1, 7, 8, 9] (Sq fun K7 hK7 => ?_))))
 refine Bl (Rr (Av1 1 11 [] (congrArg AV.pat (mg_str p k (by omega))) ((1 = 1 /\ (0 : Int) <= (k : Int) /\ (k : Int) < ((p.map (fun s => [AV.str s])).length : Int)) /\ ·) ⟨⟨rfl, by omega, by rw [List.length_map]; omega⟩, Fn1 [0, 1, 7, 8, 9] [(6, .str (p.getD k default))] ((1 <= 1 /\ 0 < 1) /\ ·) ⟨(by decide), Rr ?_⟩⟩))
 refine Pc0 2 [(13, .str (p.getD k default))] 14 (nameOk_ok (p.getD k default) (hs _ (getD_mem p k default (by omega)))) (Cn0 (!(nmOk (p.getD k default))) [0, 1, 7, 8, 9] [] ⟨fun hc10 c10 => ?_, fun hc10 c10 => ?_⟩)
 try simp only [KF] at c10
 refine Rr (Fn0 [] [(4, .bool false)] (Rt (.bool false) (fin_lea ?_)))
 rw [show pthOk p lo = false by simp [-List.getD_eq_getElem?_getD, pthOk, all_false_at nmOk p k default (by omega) c10]]; exact lea_refl _
 try simp only [KF] at c10
 refine Sk (Bn (Jn (hK7 (Kp [0, 1, 7, 8, 9] (Rn (Av1 1 16 [] (congrArg (AV.int .i64) (wn1 k (by omega))) (Ki /\ ·) ⟨rfl, Gn0 [(9, .int .i64 ((k + 1 : Nat) : Int))] (nk_n ?_)⟩))))))
 refine Lr (k + 1) [] 0 [(0, pth p), (1, .int .i64 lo), (7, pth p), (8, .int .i64 p.length), (9, .int .i64 ((k + 1 : Nat) : Int))] [] [] ?_ ?_ (by kernel_rfl) (by kernel_rfl)
 (try dsimp only); omega
 refine ⟨?_, rfl⟩; (try dsimp only); exact ⟨by omega, by rw [all_take_snoc nmOk p k default (by omega), hi2, c10]; rfl⟩
 try simp only [KF] at c6
 refine Xt (Jx (Lx (Bh (Jn (hK2 (Kp [0, 1] (Rr (Av0 (r := .int .i64 ((p.map (fun s => [AV.str s])).length : Nat)) (v := .int .i64 p.length) 2 18 [(17, pth p)] (by rw [List.length_map]) (Pc0 2 [(19, .int .i64 lo)] 20 (within_ok (p.length : Int) lo 4) (Fn0 [] [(4, .bool (inb (p.length : Int) lo 4))] ?_))))))))))
 refine Rt (.bool (inb (p.length : Int) lo 4)) (fin_lea ?_)
 rw [show pthOk p lo = inb (p.length : Int) lo 4 by simp [pthOk, all_take_full nmOk p k (by omega) hi2]]; exact lea_refl _
theorem l2PathOk_ok (p : List Str) (hp : p.length < 2 ^ 62) (hs : ∀ s ∈ p, s.length < 2 ^ 62) : PE G 49 [pth p] (.bool (pthOk p 1)) := by
 refine Pe Tryz.func49 ?_
 refine Rr (Fn0 [0] [] (Sq fun K2 hK2 => ?_))
 refine Rr (Fn0 [0] [(3, .int .i64 0)] (Bl (h_l (fun (k : Nat) => ([(0, pth p), (3, .int .i64 k)] : Fr)) (fun (k : Nat) => ([] : Hp)) (fun (k : Nat) cn => (k <= p.length /\ (p.take k).all nmOk = true) /\ cn = 0) (fun (k : Nat) => p.length - k) 0 (by kernel_rfl) ?_ ?_ ?_ ?_)))
 refine ⟨?_, rfl⟩; exact ⟨Nat.zero_le _, rfl⟩
 exact ⟨by kernel_rfl, by kernel_rfl, trivial⟩
 exact (List.nil_sublist _)
 rintro k n1 hI
 (try dsimp only at hI)
 obtain ⟨⟨hi1, hi2⟩, rfl⟩ := hI
 refine Sq fun K4 hK4 => ?_
 refine Rr (Av0 (r := .int .i64 ((p.map (fun s => [AV.str s])).length : Nat)) (v := .int .i64 p.length) 3 6 [(5, pth p), (4, .int .i64 k)] (by rw [List.length_map]) (Cn1 (decide ((k : Int) < (p.length : Int))) [0, 3] [] (Ki /\ ·) ⟨rfl, fun hc6 c6 => ?_, fun hc6 c6 => ?_⟩))
 try simp only [KF] at c6
 refine Sk (Jn (hK4 (Kp [0, 3] (Sq fun K7 hK7 => ?_))))
 refine Bl (Rr (Av1 3 12 [(11, .int .i64 k), (10, pth p)] (congrArg AV.pat (mg_str p k (by omega))) ((1 = 1 /\ (0 : Int) <= (k : Int) /\ (k : Int) < ((p.map (fun s => [AV.str s])).length : Int)) /\ ·) ⟨⟨rfl, by omega, by rw [List.length_map]; omega⟩, Pc1 2 [(13, .str (p.getD k default))] 14 (1 <= 1 /\ 0 < 1) (by decide) (l1NameOk_ok (p.getD k default) (hs _ (getD_mem p k default (by omega)))) (Cn0 (!(nmOk (p.getD k default))) [0, 3] [] ⟨fun hc9 c9 => ?_, fun hc9 c9 => ?_⟩)⟩))
 try simp only [KF] at c9
 refine Rr (Fn0 [] [(2, .bool false)] (Rt (.bool false) (fin_lea ?_)))
 rw [show pthOk p 1 = false by simp [-List.getD_eq_getElem?_getD, pthOk, all_false_at nmOk p k default (by omega) c9]]; exact lea_refl _
 try simp only [KF] at c9
 refine Sk (Bn (Jn (hK7 (Kp [0, 3] (Rn (Av1 2 9 [(8, .int .i64 k)] (congrArg (AV.int .i64) (wn1 k (by omega))) (Ki /\ ·) ⟨rfl, Gn0 [(3, .int .i64 ((k + 1 : Nat) : Int))] (nk_n ?_)⟩))))))
 refine Lr (k + 1) [] 0 [(0, pth p), (3, .int .i64 ((k + 1 : Nat) : Int))] [] [] ?_ ?_ (by kernel_rfl) (by kernel_rfl)
 (try dsimp only); omega
 refine ⟨?_, rfl⟩; (try dsimp only); exact ⟨by omega, by rw [all_take_snoc nmOk p k default (by omega), hi2, c9]; rfl⟩
 try simp only [KF] at c6
 refine Xt (Jx (Lx (Bh (Jn (hK2 (Kp [0] (Rr (Av0 (r := .int .i64 ((p.map (fun s => [AV.str s])).length : Nat)) (v := .int .i64 p.length) 2 17 [(16, pth p)] (by rw [List.length_map]) (Pc0 1 [] 18 (l1In_ok (p.length : Int) 1 4) (Fn0 [] [(2, .bool (inb (p.length : Int) 1 4))] ?_))))))))))
 refine Rt (.bool (inb (p.length : Int) 1 4)) (fin_lea ?_)
 rw [show pthOk p 1 = inb (p.length : Int) 1 4 by simp [pthOk, all_take_full nmOk p k (by omega) hi2]]; exact lea_refl _
theorem l2Within_ok (p q : List Str) (hp : p.length < 2 ^ 62) (hq : q.length < 2 ^ 62) : PE G 76 [pth p, pth q] (.bool (q.isPrefixOf p)) := by
 refine Pe Tryz.func76 ?_
 refine Rr (Fn0 [0, 1] [] (Sq fun K2 hK2 => ?_))
 refine Rr (Av0 (r := .int .i64 ((p.map (fun s => [AV.str s])).length : Nat)) (v := .int .i64 p.length) 2 7 [(6, pth p)] (by rw [List.length_map]) (Av0 (r := .int .i64 ((q.map (fun s => [AV.str s])).length : Nat)) (v := .int .i64 q.length) 2 9 [(8, pth q)] (by rw [List.length_map]) (Cn1 (decide ((p.length : Int) < (q.length : Int))) [0, 1] [] (Ki /\ ·) ⟨rfl, fun hc4 c4 => ?_, fun hc4 c4 => ?_⟩)))
 try simp only [KF] at c4
 refine Rr (Fn0 [] [(4, .bool false)] (Rt (.bool false) (fin_lea ?_)))
 rw [pre_no (by omega)]; exact lea_refl _
 try simp only [KF] at c4
 refine Sk (Jn (hK2 (Kp [0, 1] (Sq fun K6 hK6 => ?_))))
 refine Rr (Fn0 [0, 1] [(5, .int .i64 0)] (Bl (h_l (fun (k : Nat) => ([(0, pth p), (1, pth q), (5, .int .i64 k)] : Fr)) (fun (k : Nat) => ([] : Hp)) (fun (k : Nat) cn => (k <= q.length /\ q.take k = p.take k) /\ cn = 0) (fun (k : Nat) => q.length - k) 0 (by kernel_rfl) ?_ ?_ ?_ ?_)))
 refine ⟨?_, rfl⟩; exact ⟨Nat.zero_le _, rfl⟩
 exact ⟨by kernel_rfl, by kernel_rfl, by kernel_rfl, trivial⟩
 exact (List.nil_sublist _)
 rintro k n1 hI
 (try dsimp only at hI)
 obtain ⟨⟨hi1, hi2⟩, rfl⟩ := hI
 refine Sq fun K8 hK8 => ?_
 refine Rr (Av0 (r := .int .i64 ((q.map (fun s => [AV.str s])).length : Nat)) (v := .int .i64 q.length) 3 13 [(12, pth q), (11, .int .i64 k)] (by rw [List.length_map]) (Cn1 (decide ((k : Int) < (q.length : Int))) [0, 1, 5] [] (Ki /\ ·) ⟨rfl, fun hc10 c10 => ?_, fun hc10 c10 => ?_⟩))
 try simp only [KF] at c10
 refine Sk (Jn (hK8 (Kp [0, 1, 5] (Sq fun K11 hK11 => ?_))))
 refine Bl (Qr [0, 0, 3, 7, 0, 0, 48, 112, 255] [(0, []), (1, []), (2, []), (3, []), (4, []), (5, []), (6, []), (7, []), (8, [])] (qAv1 3 19 [(18, .int .i64 k), (17, pth p)] (congrArg AV.pat (mg_str p k (by omega))) ((1 = 1 /\ (0 : Int) <= (k : Int) /\ (k : Int) < ((p.map (fun s => [AV.str s])).length : Int)) /\ ·) ⟨⟨rfl, by omega, by rw [List.length_map]; omega⟩, qAv1 4 23 [(22, .int .i64 k), (21, pth q), (20, .str (p.getD k default))] (congrArg AV.pat (mg_str q k (by omega))) ((1 <= 1 /\ 0 < 1) /\ (1 = 1 /\ (0 : Int) <= (k : Int) /\ (k : Int) < ((q.map (fun s => [AV.str s])).length : Int)) /\ ·) ⟨(by decide), ⟨rfl, by omega, by rw [List.length_map]; omega⟩, qCn1 (!((p.getD k default) == (q.getD k default))) [0, 1, 5] [] ((1 <= 1 /\ 0 < 1) /\ ·) ⟨(by decide), fun hc13 c13 => ?_, fun hc13 c13 => ?_⟩⟩⟩))
 try simp only [KF] at c13
 refine Rr (Fn0 [] [(4, .bool false)] (Rt (.bool false) (fin_lea ?_)))
 rw [pre_ne (k := k) (by omega) c13]; exact lea_refl _
 try simp only [KF] at c13
 refine Sk (Bn (Jn (hK11 (Kp [0, 1, 5] (Rn (Av1 2 16 [(15, .int .i64 k)] (congrArg (AV.int .i64) (wn1 k (by omega))) (Ki /\ ·) ⟨rfl, Gn0 [(5, .int .i64 ((k + 1 : Nat) : Int))] (nk_n ?_)⟩))))))
 refine Lr (k + 1) [] 0 [(0, pth p), (1, pth q), (5, .int .i64 ((k + 1 : Nat) : Int))] [] [] ?_ ?_ (by kernel_rfl) (by kernel_rfl)
 (try dsimp only); omega
 refine ⟨?_, rfl⟩; (try dsimp only); exact ⟨by omega, by rw [take_snoc q k default (by omega), take_snoc p k default (by omega), hi2, eq_of_beq c13]⟩
 try simp only [KF] at c10
 refine Xt (Jx (Lx (Bh (Jn (hK6 (Kp [] (Rr (Fn0 [] [(4, .bool true)] (Rt (.bool true) (fin_lea ?_))))))))))
 rw [pre_yes (k := k) (by omega) hi2]; exact lea_refl _
theorem l1Find_c (t : Tr) (s : Str) (hw : t.W < 2 ^ 60) : PE G 37 [.agg (tcs t), .str s] (.int .i64 (fndI s t.names)) := by
 rw [W_eq] at hw; have hns := wS_len t.names
 refine Pe Tryz.func37 ?_
 refine Rr (Fn2 [1] [(2, .ptr 0 0)] [(0, tcs t)] 4 (Sq fun K2 hK2 => ?_))
 refine Rr (Fn0 [1, 2] [(5, .int .i64 0)] (Bl (h_l (fun (k : Nat) => ([(1, .str s), (2, .ptr 0 0), (5, .int .i64 k)] : Fr)) (fun (k : Nat) => ([(0, tcs t)] : Hp)) (fun (k : Nat) cn => (k <= t.names.length /\ fnd s (t.names.take k) = none) /\ cn = 4) (fun (k : Nat) => t.names.length - k) 0 (by kernel_rfl) ?_ ?_ ?_ ?_)))
 refine ⟨?_, rfl⟩; exact ⟨Nat.zero_le _, rfl⟩
 exact ⟨by kernel_rfl, by kernel_rfl, by kernel_rfl, trivial⟩
 exact (sub_c (by kernel_rfl) (List.nil_sublist _))
 rintro k n1 hI
 (try dsimp only at hI)
 obtain ⟨⟨hi1, hi2⟩, rfl⟩ := hI
 refine Sq fun K4 hK4 => ?_
 refine Rr (Av1 (r := .int .i64 ((t.names.map (fun s => [AV.str s])).length : Nat)) (v := .int .i64 t.names.length) 4 9 [(8, pth t.names), (7, .ptr 0 3), (6, .int .i64 k)] (by rw [List.length_map]) (((1 : Nat) ≠ 0) /\ (3 + 1 <= 5 /\ 3 < 5) /\ ·) ⟨(by decide), (by decide), Cn1 (decide ((k : Int) < (t.names.length : Int))) [1, 2, 5] [] (Ki /\ ·) ⟨rfl, fun hc6 c6 => ?_, fun hc6 c6 => ?_⟩⟩)
 try simp only [KF] at c6
 refine Sk (Jn (hK4 (Kp [1, 2, 5] (Sq fun K7 hK7 => ?_))))
 refine Bl (Rr (Av1 4 16 [(15, .int .i64 k), (14, pth t.names), (13, .ptr 0 3)] (congrArg AV.pat (mg_str t.names k (by omega))) (((1 : Nat) ≠ 0) /\ (3 + 1 <= 5 /\ 3 < 5) /\ (1 = 1 /\ (0 : Int) <= (k : Int) /\ (k : Int) < ((t.names.map (fun s => [AV.str s])).length : Int)) /\ ·) ⟨(by decide), (by decide), ⟨rfl, by omega, by rw [List.length_map]; omega⟩, Cn1 ((t.names.getD k default) == s) [1, 2, 5] [] ((1 <= 1 /\ 0 < 1) /\ ·) ⟨(by decide), fun hc9 c9 => ?_, fun hc9 c9 => ?_⟩⟩))
 try simp only [KF] at c9
 refine Rr (Fn0 [] [(4, .int .i64 k)] (Rt (.int .i64 k) (fin_lea ?_)))
 simp only [fndI]; rw [fnd_found s _ k (by omega) hi2 (by simpa using c9)]; exact lea_refl _
 try simp only [KF] at c9
 refine Sk (Bn (Jn (hK7 (Kp [1, 2, 5] (Rn (Av1 2 12 [(11, .int .i64 k)] (congrArg (AV.int .i64) (wn1 k (by omega))) (Ki /\ ·) ⟨rfl, Gn0 [(5, .int .i64 ((k + 1 : Nat) : Int))] (nk_n ?_)⟩))))))
 refine Lr (k + 1) [(0, 0)] 4 [(1, .str s), (2, .ptr 0 0), (5, .int .i64 ((k + 1 : Nat) : Int))] [(0, tcs t)] [true] ?_ ?_ (by kernel_rfl) (by kernel_rfl)
 (try dsimp only); omega
 refine ⟨?_, rfl⟩; (try dsimp only); exact ⟨by omega, fnd_step s _ k (by omega) hi2 (by simpa using c9)⟩
 try simp only [KF] at c6
 refine Xt (Jx (Lx (Bh (Jn (hK2 (Kp [] (Rr (Fn0 [] [(4, .int .i64 (-1))] (Rt (.int .i64 (-1)) (fin_lea ?_))))))))))
 simp only [fndI]; rw [fnd_full s _ k (by omega) hi2]; exact lea_refl _
theorem l1Plain_ok (t : Tr) (hw : t.W < 2 ^ 60) : PE G 58 [.agg (tcs t)] (.bool (plainOk t)) := by
 rw [W_eq] at hw; have hns := wS_len t.names; have hks := Ws_len t.kids
 refine Pe Tryz.func58 ?_
 refine Rr (Fn2 [] [(1, .ptr 0 0)] [(0, tcs t)] 4 (Sq fun K2 hK2 => ?_))
 refine Rm 16 ((!(inb t.mode 0 7)) || (!decide ((t.names.length : Int) = (t.kids.length : Int)))) [1] ?_ ?_
 refine Bc1 3 [(5, .int .i64 t.mode), (4, .ptr 0 1)] 50 [.int .i64 t.mode, .int .i64 0, .int .i64 7] 6 (((1 : Nat) ≠ 0) /\ (1 + 1 <= 5 /\ 1 < 5) /\ ·) ⟨(by decide), (by decide), ?_⟩
 refine PE.use (l1In_ok t.mode 0 7) ?_
 refine Ke (An0 2 [(8, .bool (!(inb t.mode 0 7))), (7, .bool (!(inb t.mode 0 7)))] (run_b (fun g4 => ?_) (fun g4 => ?_)))
 have hg4 := g4
 try simp only [KF] at g4
 refine Mn0 true (by rw [hg4]; rfl)
 have hg4 := g4
 try simp only [KF] at g4
 refine Av1 (r := .int .i64 ((t.names.map (fun s => [AV.str s])).length : Nat)) (v := .int .i64 t.names.length) 3 11 [(10, pth t.names), (9, .ptr 0 3)] (by rw [List.length_map]) (((1 : Nat) ≠ 0) /\ (3 + 1 <= 5 /\ 3 < 5) /\ ·) ⟨(by decide), (by decide), Av1 (r := .int .i64 ((t.kids.map trc).length : Nat)) (v := .int .i64 t.kids.length) 3 14 [(13, .sl 5 (t.kids.map trc)), (12, .ptr 0 4)] (by rw [List.length_map]) (((1 : Nat) ≠ 0) /\ (4 + 1 <= 5 /\ 4 < 5) /\ ·) ⟨(by decide), (by decide), Mn1 (!decide ((t.names.length : Int) = (t.kids.length : Int))) (Ki /\ ·) ⟨rfl, (by rw [hg4]; rfl)⟩⟩⟩
 refine Cc ((!(inb t.mode 0 7)) || (!decide ((t.names.length : Int) = (t.kids.length : Int)))) (fun hc5 c5 => ?_) fun hc5 c5 => ?_
 try simp only [KF] at c5
 refine Rr (Fn0 [] [(2, .bool false)] (Rt (.bool false) (fin_lea ?_)))
 rw [show plainOk t = (false) by
   rcases c5 with h | h
   · simp [plainOk, h]
   · simp [plainOk, show t.names.length ≠ t.kids.length by omega]
   ]; exact lea_refl _
 try simp only [KF] at c5
 refine Sk (Jn (hK2 (Kp [1] (Sq fun K7 hK7 => ?_))))
 refine Rr (Cn1 (!t.dir) [1] [] (((1 : Nat) ≠ 0) /\ (0 + 1 <= 5 /\ 0 < 5) /\ ·) ⟨(by decide), (by decide), fun hc9 c9 => ?_, fun hc9 c9 => ?_⟩)
 try simp only [KF] at c9
 refine Rm 2 ((decide ((t.data.length : Int) <= 24)) && (decide ((t.names.length : Int) = 0))) [] ?_ ?_
 refine An1 5 [(24, .bool (decide ((t.data.length : Int) <= 24))), (23, .bool (decide ((t.data.length : Int) <= 24))), (22, .int .i64 t.data.length), (21, .str t.data), (20, .ptr 0 2)] (((1 : Nat) ≠ 0) /\ (2 + 1 <= 5 /\ 2 < 5) /\ Ki /\ ·) ⟨(by decide), (by decide), rfl, run_b (fun g11 => ?_) (fun g11 => ?_)⟩
 have hg11 := g11
 try simp only [KF] at g11
 refine Av1 (r := .int .i64 ((t.names.map (fun s => [AV.str s])).length : Nat)) (v := .int .i64 t.names.length) 3 27 [(26, pth t.names), (25, .ptr 0 3)] (by rw [List.length_map]) (((1 : Nat) ≠ 0) /\ (3 + 1 <= 5 /\ 3 < 5) /\ ·) ⟨(by decide), (by decide), Mn1 (decide ((t.names.length : Int) = 0)) (Ki /\ ·) ⟨rfl, (by rw [hg11]; rfl)⟩⟩
 have hg11 := g11
 try simp only [KF] at g11
 refine Mn0 false (by rw [hg11]; rfl)
 refine Rt (.bool ((decide ((t.data.length : Int) <= 24)) && (decide ((t.names.length : Int) = 0)))) (fin_lea ?_)
 rw [show plainOk t = ((decide ((t.data.length : Int) <= 24)) && (decide ((t.names.length : Int) = 0))) by
   have e1 := c5.1; have e2 : t.names.length = t.kids.length := (by have := c5.2; omega)
   have hd : t.dir = false := c9
   simp [plainOk, e1, e2, hd]; rw [Bool.eq_iff_iff]; simp; omega
   ]; exact lea_refl _
 try simp only [KF] at c9
 refine Sk (Jn (hK7 (Kp [1] (Sq fun K12 hK12 => ?_))))
 refine Rr (Fn0 [1] [(3, .int .i64 0)] (Bl (h_l (fun (k : Nat) => ([(1, .ptr 0 0), (3, .int .i64 k)] : Fr)) (fun (k : Nat) => ([(0, tcs t)] : Hp)) (fun (k : Nat) cn => (k <= t.names.length /\ (t.names.take k).all nmOk = true /\ asc (t.names.take k) = true) /\ cn = 4) (fun (k : Nat) => t.names.length - k) 0 (by kernel_rfl) ?_ ?_ ?_ ?_)))
 refine ⟨?_, rfl⟩; exact ⟨Nat.zero_le _, rfl, rfl⟩
 exact ⟨by kernel_rfl, by kernel_rfl, trivial⟩
 exact (sub_c (by kernel_rfl) (List.nil_sublist _))
 rintro k n1 hI
 (try dsimp only at hI)
 obtain ⟨⟨hi1, hi2, hi3⟩, rfl⟩ := hI
 refine Sq fun K14 hK14 => ?_
 refine Rr (Av1 (r := .int .i64 ((t.names.map (fun s => [AV.str s])).length : Nat)) (v := .int .i64 t.names.length) 4 33 [(32, pth t.names), (31, .ptr 0 3), (30, .int .i64 k)] (by rw [List.length_map]) (((1 : Nat) ≠ 0) /\ (3 + 1 <= 5 /\ 3 < 5) /\ ·) ⟨(by decide), (by decide), Cn1 (decide ((k : Int) < (t.names.length : Int))) [1, 3] [] (Ki /\ ·) ⟨rfl, fun hc16 c16 => ?_, fun hc16 c16 => ?_⟩⟩)
 try simp only [KF] at c16
 refine Sk (Jn (hK14 (Kp [1, 3] (Sq fun K17 hK17 => ?_))))
 refine Bl (Qm [0, 1, 0, 7, 15, 31, 63, 127, 255, 511, 1023, 2047, 4095, 2047, 10239, 32767, 65535, 2047, 133119, 2047, 919551, 1968127, 4194303, 8388607, 16777215] [(0, []), (1, []), (2, []), (3, []), (4, []), (5, []), (6, []), (7, []), (8, []), (9, []), (10, []), (11, []), (12, []), (13, []), (14, []), (15, []), (16, []), (17, []), (18, []), (19, []), (20, []), (21, []), (22, []), (23, []), (24, [])] 61 (!nmOk (t.names.getD k default) || (decide (0 < k) && !blt (t.names.getD (k - 1) default) (t.names.getD k default))) [1, 3] ?_ ?_)
 refine qAv1 4 40 [(39, .int .i64 k), (38, pth t.names), (37, .ptr 0 3)] (congrArg AV.pat (mg_str t.names k (by omega))) (((1 : Nat) ≠ 0) /\ (3 + 1 <= 5 /\ 3 < 5) /\ (1 = 1 /\ (0 : Int) <= (k : Int) /\ (k : Int) < ((t.names.map (fun s => [AV.str s])).length : Int)) /\ ·) ⟨(by decide), (by decide), ⟨rfl, by omega, by rw [List.length_map]; omega⟩, qBc1 2 [(41, .str (t.names.getD k default))] [] 74 [.str (t.names.getD k default)] 42 ((1 <= 1 /\ 0 < 1) /\ ·) ⟨(by decide), PE.use (l1NameOk_ok (t.names.getD k default) (Nat.lt_trans (wS_get t.names k (by omega)) (by omega))) (Kq (p := (True)) trivial (qAn0 2 [(44, .bool (!(nmOk (t.names.getD k default)))), (43, .bool (!(nmOk (t.names.getD k default))))] ?_))⟩⟩
 refine runq_b (fun g19 => ?_) (fun g19 => ?_)
 have hg19 := g19
 try simp only [KF] at g19
 refine qMn0 true (by (try rw [show ((k : Int) - 1).toNat = k - 1 by omega]); first | (simp_all; done) | (rw [Bool.eq_iff_iff]; simp_all; done) | (rw [Bool.eq_iff_iff]; simp_all; omega) | (simp_all; omega))
 have hg19 := g19
 try simp only [KF] at g19
 refine qAn1 3 [(47, .bool (decide ((0 : Int) < ((k : Int) : Int)))), (46, .bool (decide ((0 : Int) < ((k : Int) : Int)))), (45, .int .i64 k)] (Ki /\ ·) ⟨rfl, runq_b (fun g20 => ?_) (fun g20 => ?_)⟩
 have hg20 := g20
 try simp only [KF] at g20
 refine qAv1 (r := .int .i64 (IntKind.i64.wrap ((k : Int) - 1))) (v := .int .i64 ((k : Int) - 1)) 4 51 [(50, .int .i64 k), (49, pth t.names), (48, .ptr 0 3)] (congrArg (AV.int .i64) (wrap64 (by omega) (by omega))) (((1 : Nat) ≠ 0) /\ (3 + 1 <= 5 /\ 3 < 5) /\ Ki /\ ·) ⟨(by decide), (by decide), rfl, qAv1 1 52 [] (congrArg AV.pat (mg_str t.names (((k : Int) - 1).toNat) (by omega))) ((1 = 1 /\ (0 : Int) <= ((k : Int) - 1) /\ ((k : Int) - 1) < ((t.names.map (fun s => [AV.str s])).length : Int)) /\ ·) ⟨⟨rfl, by omega, by rw [List.length_map]; omega⟩, qAv1 5 57 [(56, .int .i64 k), (55, pth t.names), (54, .ptr 0 3), (53, .str (t.names.getD (((k : Int) - 1).toNat) default))] (congrArg AV.pat (mg_str t.names k (by omega))) ((1 <= 1 /\ 0 < 1) /\ ((1 : Nat) ≠ 0) /\ (3 + 1 <= 5 /\ 3 < 5) /\ (1 = 1 /\ (0 : Int) <= (k : Int) /\ (k : Int) < ((t.names.map (fun s => [AV.str s])).length : Int)) /\ ·) ⟨(by decide), (by decide), (by decide), ⟨rfl, by omega, by rw [List.length_map]; omega⟩, qMn1 (!blt (t.names.getD (((k : Int) - 1).toNat) default) (t.names.getD k default)) ((1 <= 1 /\ 0 < 1) /\ ·) ⟨(by decide), (by (try rw [show ((k : Int) - 1).toNat = k - 1 by omega]); first | (simp_all; done) | (rw [Bool.eq_iff_iff]; simp_all; done) | (rw [Bool.eq_iff_iff]; simp_all; omega) | (simp_all; omega))⟩⟩⟩⟩
 have hg20 := g20
 try simp only [KF] at g20
 refine qMn0 false (by (try rw [show ((k : Int) - 1).toNat = k - 1 by omega]); first | (simp_all; done) | (rw [Bool.eq_iff_iff]; simp_all; done) | (rw [Bool.eq_iff_iff]; simp_all; omega) | (simp_all; omega))
 refine Cc (!nmOk (t.names.getD k default) || (decide (0 < k) && !blt (t.names.getD (k - 1) default) (t.names.getD k default))) (fun hc21 c21 => ?_) fun hc21 c21 => ?_
 try simp only [KF] at c21
 refine Rr (Fn0 [] [(2, .bool false)] (Rt (.bool false) ?_))
 (try rw [show ((k : Int) - 1).toNat = k - 1 by omega] at c21)
 refine fin_lea ?_
 rw [show plainOk t = (false) by
   have e1 := c5.1; have e2 : t.names.length = t.kids.length := (by have := c5.2; omega)
   have hd : t.dir = true := c9
   rcases c21 with h | ⟨h1, h2⟩
   · simp [-List.getD_eq_getElem?_getD, plainOk, hd, all_false_at nmOk t.names k default (by omega) h]
   · simp [-List.getD_eq_getElem?_getD, plainOk, hd, asc_no (by omega) (by omega) h2]
   ]; exact lea_refl _
 try simp only [KF] at c21
 refine Sk (Bn (Jn (hK17 (Kp [1, 3] (Rn (Av1 2 36 [(35, .int .i64 k)] (congrArg (AV.int .i64) (wn1 k (by omega))) (Ki /\ ·) ⟨rfl, Gn0 [(3, .int .i64 ((k + 1 : Nat) : Int))] (nk_n ?_)⟩))))))
 (try rw [show ((k : Int) - 1).toNat = k - 1 by omega] at c21)
 refine Lr (k + 1) [(0, 0)] 4 [(1, .ptr 0 0), (3, .int .i64 ((k + 1 : Nat) : Int))] [(0, tcs t)] [true] ?_ ?_ (by kernel_rfl) (by kernel_rfl)
 (try dsimp only); omega
 refine ⟨?_, rfl⟩; (try dsimp only); exact ⟨by omega, by rw [all_take_snoc nmOk _ k default (by omega), hi2, c21.1]; rfl, by rw [asc_take _ k (by omega), hi3]; rcases c21.2 with h | h <;> simp [-List.getD_eq_getElem?_getD, h]; omega⟩
 try simp only [KF] at c16
 refine Xt (Jx (Lx (Bh (Jn (hK12 (Kp [1] (Rr (Fn1 [] [(2, .bool (t.data == []))] (((1 : Nat) ≠ 0) /\ (2 + 1 <= 5 /\ 2 < 5) /\ ·) ⟨(by decide), (by decide), Rt (.bool (t.data == [])) (fin_lea ?_)⟩))))))))
 rw [show plainOk t = (t.data == []) by
   have e1 := c5.1; have e2 : t.names.length = t.kids.length := (by have := c5.2; omega)
   have hd : t.dir = true := c9
   simp [plainOk, hd, e1, e2, all_take_full nmOk t.names k (by omega) hi2, asc_full (by omega) hi3]
   ]; exact lea_refl _
theorem l1Count_ok : ∀ (N : Nat) (t : Tr), t.W = N -> t.W < 2 ^ 60 -> PE G 36 [.agg (tcs t)] (.int .i64 (cnt t)) := by
 intro N; refine Nat.strongRecOn N fun N ih => ?_; intro t hN hw; rw [W_eq] at hN hw; have hks := Ws_len t.kids; have hcn := cnts_W t.kids
 refine Pe Tryz.func36 ?_
 refine Rr (Fn2 [] [(1, .ptr 0 0)] [(0, tcs t)] 4 (Rr (Av1 (r := .int .i64 ((t.kids.map trc).length : Nat)) (v := .int .i64 t.kids.length) 3 7 [(6, .sl 5 (t.kids.map trc)), (5, .ptr 0 4)] (by rw [List.length_map]) (((1 : Nat) ≠ 0) /\ (4 + 1 <= 5 /\ 4 < 5) /\ ·) ⟨(by decide), (by decide), Fn0 [1] [(3, .int .i64 t.kids.length)] ?_⟩)))
 refine Sq fun K3 hK3 => ?_
 refine Rr (Fn0 [1, 3] [(4, .int .i64 0)] (Bl (h_l (fun (k : Nat) => ([(1, .ptr 0 0), (3, .int .i64 ((t.kids.length : Int) + ((cnts (t.kids.take k) : Nat) : Int) - (k : Int))), (4, .int .i64 k)] : Fr)) (fun (k : Nat) => ([(0, tcs t)] : Hp)) (fun (k : Nat) cn => (k <= t.kids.length) /\ cn = 4) (fun (k : Nat) => t.kids.length - k) 0 (by kernel_rfl) ?_ ?_ ?_ ?_)))
 refine ⟨?_, rfl⟩; exact Nat.zero_le _
 exact ⟨by kernel_rfl, by show AV.int .i64 _ = AV.int .i64 _; simp [cnts], by kernel_rfl, trivial⟩
 exact (sub_c (by kernel_rfl) (List.nil_sublist _))
 rintro k n1 hI
 (try dsimp only at hI)
 obtain ⟨hk, rfl⟩ := hI
 refine Sq fun K5 hK5 => ?_
 refine Rr (Av1 (r := .int .i64 ((t.kids.map trc).length : Nat)) (v := .int .i64 t.kids.length) 4 11 [(10, .sl 5 (t.kids.map trc)), (9, .ptr 0 4), (8, .int .i64 k)] (by rw [List.length_map]) (((1 : Nat) ≠ 0) /\ (4 + 1 <= 5 /\ 4 < 5) /\ ·) ⟨(by decide), (by decide), Cn1 (decide ((k : Int) < (t.kids.length : Int))) [1, 3, 4] [] (Ki /\ ·) ⟨rfl, fun hc7 c7 => ?_, fun hc7 c7 => ?_⟩⟩)
 try simp only [KF] at c7
 refine Sk (Jn (hK5 (Kp [1, 3, 4] (Sq fun K8 hK8 => ?_))))
 refine Bl ?_
 have hct := cnts_take t.kids k (by omega); have hcl := cnts_take_le t.kids (k + 1); have hW := Ws_get t.kids k (by omega)
 refine Rb (fun h => Bn (Jn (hK8 h))) (Av1 5 19 [(18, .int .i64 k), (17, .sl 5 (t.kids.map trc)), (16, .ptr 0 4), (15, .int .i64 ((t.kids.length : Int) + ((cnts (t.kids.take k) : Nat) : Int) - (k : Int)))] (congrArg AV.pat (mg_trc t.kids k (by omega))) (((1 : Nat) ≠ 0) /\ (4 + 1 <= 5 /\ 4 < 5) /\ (5 = 5 /\ (0 : Int) <= (k : Int) /\ (k : Int) < ((t.kids.map trc).length : Int)) /\ ·) ⟨(by decide), (by decide), ⟨rfl, by omega, by rw [List.length_map]; omega⟩, Pc1 2 [(20, .agg (tcs (t.kids.getD k default)))] 21 (5 <= 5 /\ 0 < 5) (by decide) (ih _ (by omega) (t.kids.getD k default) rfl (by omega)) (Av1 (r := .int .i64 (IntKind.i64.wrap (((t.kids.length : Int) + ((cnts (t.kids.take k) : Nat) : Int) - (k : Int)) + ((cnt (t.kids.getD k default) : Nat) : Int)))) (v := .int .i64 (((t.kids.length : Int) + ((cnts (t.kids.take k) : Nat) : Int) - (k : Int)) + ((cnt (t.kids.getD k default) : Nat) : Int))) 1 22 [] (congrArg (AV.int .i64) (wrap64 (by omega) (by omega))) (Ki /\ ·) ⟨rfl, Fn0 [1, 4] [(3, .int .i64 (((t.kids.length : Int) + ((cnts (t.kids.take k) : Nat) : Int) - (k : Int)) + ((cnt (t.kids.getD k default) : Nat) : Int)))] ?_⟩)⟩)
 refine Rn (Av1 2 14 [(13, .int .i64 k)] (congrArg (AV.int .i64) (wn1 k (by omega))) (Ki /\ ·) ⟨rfl, Gn0 [(4, .int .i64 ((k + 1 : Nat) : Int))] (nk_n (Lr (k + 1) [(0, 0)] 4 [(1, .ptr 0 0), (3, .int .i64 (((t.kids.length : Int) + ((cnts (t.kids.take k) : Nat) : Int) - (k : Int)) + ((cnt (t.kids.getD k default) : Nat) : Int))), (4, .int .i64 ((k + 1 : Nat) : Int))] [(0, tcs t)] [true] ?_ ?_ (by kernel_rfl) (by (try rw [show ((t.kids.length : Int) + ((cnts (t.kids.take (k + 1)) : Nat) : Int) - ((k + 1 : Nat) : Int)) = (((t.kids.length : Int) + ((cnts (t.kids.take k) : Nat) : Int) - (k : Int)) + ((cnt (t.kids.getD k default) : Nat) : Int)) by omega]); try kernel_rfl)))⟩)
 (try dsimp only); omega
 refine ⟨?_, rfl⟩; (try dsimp only); omega
 try simp only [KF] at c7
 refine Xt (Jx (Lx (Bh (Jn (hK3 (Kp [3] (Rr (Fn0 [] [(2, .int .i64 ((t.kids.length : Int) + ((cnts (t.kids.take k) : Nat) : Int) - (k : Int)))] (Rt (.int .i64 ((t.kids.length : Int) + ((cnts (t.kids.take k) : Nat) : Int) - (k : Int))) (fin_lea ?_))))))))))
 rw [show ((t.kids.length : Int) + ((cnts (t.kids.take k) : Nat) : Int) - (k : Int)) = ((cnt t : Nat) : Int) by rw [cnt_eq, List.take_of_length_le (by omega)]; omega]; exact lea_refl _
theorem l1Parts_ok : ∀ (N : Nat) (t : Tr) (n : Int), t.W = N -> t.W < 2 ^ 60 -> -1000 <= n -> n < 1000000 -> PE G 35 [.agg (tcs t), .int .i64 n] (.bool (partsOk t n)) := by
 intro N; refine Nat.strongRecOn N fun N ih => ?_; intro t n hN hw hn1 hn2; have hw0 := hw; rw [W_eq] at hN hw; have hks := Ws_len t.kids
 refine Pe Tryz.func35 ?_
 refine Rr (Fn2 [1] [(2, .ptr 0 0)] [(0, tcs t)] 4 (Sq fun K2 hK2 => ?_))
 refine Rm 12 ((!(plainOk t)) || (decide ((4 : Int) < (n : Int)))) [1, 2] ?_ ?_
 refine Pc1 2 [(6, .agg (tcs t))] 7 (0 + 5 <= 5 /\ 0 < 5) (by decide) (l1Plain_ok t hw0) (An0 2 [(9, .bool (!(plainOk t))), (8, .bool (!(plainOk t)))] (run_b (fun g4 => ?_) (fun g4 => ?_)))
 have hg4 := g4
 try simp only [KF] at g4
 refine Mn0 true (by rw [hg4]; rfl)
 have hg4 := g4
 try simp only [KF] at g4
 refine Mn1 (decide ((4 : Int) < (n : Int))) (Ki /\ ·) ⟨rfl, (by rw [hg4]; rfl)⟩
 refine Cc ((!(plainOk t)) || (decide ((4 : Int) < (n : Int)))) (fun hc5 c5 => ?_) fun hc5 c5 => ?_
 try simp only [KF] at c5
 refine Rr (Fn0 [] [(4, .bool false)] (Rt (.bool false) (fin_lea ?_)))
 rw [partsOk_eq]
 rcases c5 with h | h
 · rw [h]; exact lea_refl _
 · rw [show decide (n <= 4) = false by simpa using h, Bool.false_and, Bool.and_false]; exact lea_refl _
 try simp only [KF] at c5
 refine Sk (Jn (hK2 (Kp [1, 2] (Sq fun K7 hK7 => ?_))))
 refine Rr (Fn0 [1, 2] [(5, .int .i64 0)] (Bl (h_l (fun (k : Nat) => ([(1, .int .i64 n), (2, .ptr 0 0), (5, .int .i64 k)] : Fr)) (fun (k : Nat) => ([(0, tcs t)] : Hp)) (fun (k : Nat) cn => (k <= t.kids.length /\ (t.kids.take k).all (partsOk · (n + 1)) = true) /\ cn = 4) (fun (k : Nat) => t.kids.length - k) 0 (by kernel_rfl) ?_ ?_ ?_ ?_)))
 refine ⟨?_, rfl⟩; exact ⟨Nat.zero_le _, rfl⟩
 exact ⟨by kernel_rfl, by kernel_rfl, by kernel_rfl, trivial⟩
 exact (sub_c (by kernel_rfl) (List.nil_sublist _))
 rintro k n1 hI
 (try dsimp only at hI)
 obtain ⟨⟨hi1, hi2⟩, rfl⟩ := hI
 refine Sq fun K9 hK9 => ?_
 refine Rr (Av1 (r := .int .i64 ((t.kids.map trc).length : Nat)) (v := .int .i64 t.kids.length) 4 16 [(15, .sl 5 (t.kids.map trc)), (14, .ptr 0 4), (13, .int .i64 k)] (by rw [List.length_map]) (((1 : Nat) ≠ 0) /\ (4 + 1 <= 5 /\ 4 < 5) /\ ·) ⟨(by decide), (by decide), Cn1 (decide ((k : Int) < (t.kids.length : Int))) [1, 2, 5] [] (Ki /\ ·) ⟨rfl, fun hc11 c11 => ?_, fun hc11 c11 => ?_⟩⟩)
 try simp only [KF] at c11
 refine Sk (Jn (hK9 (Kp [1, 2, 5] (Sq fun K12 hK12 => ?_))))
 refine Bl ?_
 have hW := Ws_get t.kids k (by omega); have h4 := c5.2
 refine Rr (Av1 4 23 [(22, .int .i64 k), (21, .sl 5 (t.kids.map trc)), (20, .ptr 0 4)] (congrArg AV.pat (mg_trc t.kids k (by omega))) (((1 : Nat) ≠ 0) /\ (4 + 1 <= 5 /\ 4 < 5) /\ (5 = 5 /\ (0 : Int) <= (k : Int) /\ (k : Int) < ((t.kids.map trc).length : Int)) /\ ·) ⟨(by decide), (by decide), ⟨rfl, by omega, by rw [List.length_map]; omega⟩, Av1 (r := .int .i64 (IntKind.i64.wrap (n + 1))) (v := .int .i64 (n + 1)) 3 26 [(25, .int .i64 n), (24, .agg (tcs (t.kids.getD k default)))] (congrArg (AV.int .i64) (wrap64 (by omega) (by omega))) ((5 <= 5 /\ 0 < 5) /\ Ki /\ ·) ⟨(by decide), rfl, Pc0 1 [] 27 (ih _ (by omega) (t.kids.getD k default) (n + 1) rfl (by omega) (by omega) (by omega)) (Cn0 (!(partsOk (t.kids.getD k default) (n + 1))) [1, 2, 5] [] ⟨fun hc14 c14 => ?_, fun hc14 c14 => ?_⟩)⟩⟩)
 try simp only [KF] at c14
 refine Rr (Fn0 [] [(4, .bool false)] (Rt (.bool false) (fin_lea ?_)))
 rw [partsOk_eq, all_false_at (partsOk · (n + 1)) t.kids k default (by omega) c14, Bool.and_false, Bool.and_false]; exact lea_refl _
 try simp only [KF] at c14
 refine Sk (Bn (Jn (hK12 (Kp [1, 2, 5] (Rn (Av1 2 19 [(18, .int .i64 k)] (congrArg (AV.int .i64) (wn1 k (by omega))) (Ki /\ ·) ⟨rfl, Gn0 [(5, .int .i64 ((k + 1 : Nat) : Int))] (nk_n ?_)⟩))))))
 refine Lr (k + 1) [(0, 0)] 4 [(1, .int .i64 n), (2, .ptr 0 0), (5, .int .i64 ((k + 1 : Nat) : Int))] [(0, tcs t)] [true] ?_ ?_ (by kernel_rfl) (by kernel_rfl)
 (try dsimp only); omega
 refine ⟨?_, rfl⟩; (try dsimp only); exact ⟨by omega, by rw [all_take_snoc (partsOk · (n + 1)) _ k default (by omega), hi2, c14]; rfl⟩
 try simp only [KF] at c11
 refine Xt (Jx (Lx (Bh (Jn (hK7 (Kp [] (Rr (Fn0 [] [(4, .bool true)] (Rt (.bool true) (fin_lea ?_))))))))))
 rw [partsOk_eq, all_take_full (partsOk · (n + 1)) t.kids k (by omega) hi2, c5.1, show decide (n <= 4) = true by have := c5.2; simpa using this]; exact lea_refl _
theorem sTreeOk_c (t : Tr) (hw : t.W < 2 ^ 60) : PE G 14 [.agg (tcs t)] (.bool (treeOk t)) := by
 refine Pe Tryz.func14 ?_
 refine Rr (Fn2 [] [(1, .ptr 0 0)] [(0, tcs t)] 4 (Rm 2 (t.dir && ((partsOk t 0) && (decide (((cnt t : Nat) : Int) <= 30)))) [] ?_ ?_))
 refine An1 3 [(5, .bool t.dir), (4, .bool t.dir), (3, .ptr 0 0)] (((1 : Nat) ≠ 0) /\ (0 + 1 <= 5 /\ 0 < 5) /\ ·) ⟨(by decide), (by decide), run_b (fun g3 => ?_) (fun g3 => ?_)⟩
 have hg3 := g3
 try simp only [KF] at g3
 refine Pc1 2 [(6, .agg (tcs t))] 7 (0 + 5 <= 5 /\ 0 < 5) (by decide) (l1Parts_ok _ t 0 rfl hw (by omega) (by omega)) (An0 2 [(9, .bool (partsOk t 0)), (8, .bool (partsOk t 0))] (run_b (fun g4 => ?_) (fun g4 => ?_)))
 have hg4 := g4
 try simp only [KF] at g4
 refine Pc1 2 [(10, .agg (tcs t))] 11 (0 + 5 <= 5 /\ 0 < 5) (by decide) (l1Count_ok _ t rfl hw) (Mn1 (decide (((cnt t : Nat) : Int) <= 30)) (Ki /\ ·) ⟨rfl, (by rw [hg3, hg4]; rfl)⟩)
 have hg4 := g4
 try simp only [KF] at g4
 refine Mn0 false (by rw [hg3, hg4]; rfl)
 have hg3 := g3
 try simp only [KF] at g3
 refine Mn0 false (by rw [hg3]; rfl)
 refine Rt (.bool (t.dir && ((partsOk t 0) && (decide (((cnt t : Nat) : Int) <= 30))))) (fin_lea ?_)
 have hr : treeOk t = (t.dir && ((partsOk t 0) && (decide (((cnt t : Nat) : Int) <= 30)))) := by
   unfold treeOk; rw [show decide (cnt t <= 30) = decide (((cnt t : Nat) : Int) <= (30 : Int)) from decide_eq_decide.2 ⟨fun h => by omega, fun h => by omega⟩]; try rw [Bool.and_assoc]
 rw [hr]; exact lea_refl _
theorem l1At_r : ∀ (N : Nat) (p : List Str) (t : Tr), p.length = N -> t.W < 2 ^ 60 -> t.wf = true -> p.length < 2 ^ 60 -> PE G 15 [.agg (tcs t), pth p] (.tup [.agg (tcs ((tat t p).getD .none)), .bool (tat t p).isSome]) := by
 intro N; refine Nat.strongRecOn N fun N ih => ?_; intro p t hN hw hwf hp; have hw0 := hw; rw [W_eq] at hw; have hks := Ws_len t.kids; have hwl := wf_len hwf
 refine Pe Tryz.func15 ?_
 refine Rr (Fn2 [1] [(4, .ptr 4 0), (2, .ptr 0 0)] [(4, zt), (0, tcs t)] 8 (Sq fun K2 hK2 => ?_))
 refine Rr (Av0 (r := .int .i64 ((p.map (fun s => [AV.str s])).length : Nat)) (v := .int .i64 p.length) 2 8 [(7, pth p)] (by rw [List.length_map]) (Cn1 (decide ((p.length : Int) = 0)) [1, 2, 4] [] (Ki /\ ·) ⟨rfl, fun hc4 c4 => ?_, fun hc4 c4 => ?_⟩))
 try simp only [KF] at c4
 refine Rr (Fn3 [4] [(5, .bool true)] [(4, tcs t), (0, tcs t)] 8 ((0 + 5 <= 5 /\ 0 < 5) /\ (true = true /\ 5 = 5 /\ 0 + 5 <= 5) /\ ·) ⟨(by decide), (by decide), Rt1 ((0 + 5 <= 5 /\ 0 < 5) /\ ·) (.tup [.agg (tcs t), .bool true]) ⟨(by decide), fin_lea ?_⟩⟩)
 rw [tat_zero t (by omega)]; exact lea_refl _
 try simp only [KF] at c4
 refine Sk (Jn (hK2 (Kp [1, 2, 4] (Qr [0, 0, 2, 6, 15, 31] [(0, []), (1, []), (2, []), (3, []), (4, []), (5, [])] (qAv1 3 13 [(12, pth p), (11, .agg (tcs t))] (congrArg AV.pat (mg_str p 0 (by omega))) ((0 + 5 <= 5 /\ 0 < 5) /\ (1 = 1 /\ (0 : Int) <= 0 /\ 0 < ((p.map (fun s => [AV.str s])).length : Int)) /\ ·) ⟨(by decide), ⟨rfl, by omega, by rw [List.length_map]; omega⟩, qBc1 2 [(14, .str (p.getD 0 default))] [] 37 [.agg (tcs t), .str (p.getD 0 default)] 15 ((1 <= 1 /\ 0 < 1) /\ ·) ⟨(by decide), PE.use (l1Find_c t (p.getD 0 default) hw0) ?_⟩⟩)))))
 refine Kq (p := (True)) trivial ?_
 refine qFn0 [1, 2, 4] [(6, .int .i64 (fndI (p.getD 0 default) t.names))] (Sq fun K7 hK7 => ?_)
 refine Rr (Cn1 (decide ((fndI (p.getD 0 default) t.names : Int) < (0 : Int))) [1, 2, 4, 6] [] (Ki /\ ·) ⟨rfl, fun hc9 c9 => ?_, fun hc9 c9 => ?_⟩)
 try simp only [KF] at c9
 refine Rr (Fn1 [4] [(5, .bool false)] ((true = true /\ 5 = 5 /\ 0 + 5 <= 5) /\ ·) ⟨(by decide), Rt1 ((0 + 5 <= 5 /\ 0 < 5) /\ ·) (.tup [.agg zt, .bool false]) ⟨(by decide), fin_lea ?_⟩⟩)
 rw [tat_step t (by omega), fndI_no c9]; simp [lea, leas, tcs, Tr.none, pth]
 try simp only [KF] at c9
 refine Sk (Jn (hK7 (Kp [1, 2, 4, 6] (h_k [1, 2, 4, 6] (F' := [(1, pth p), (2, .ptr 0 0), (4, .ptr 4 0), (6, .int .i64 (fndI (p.getD 0 default) t.names))]) (by kernel_rfl) ?_))))
 obtain ⟨k, hk1, hk2, hk3⟩ := fndI_lt c9
 have hW := Ws_get t.kids k (by omega)
 refine h_st (F' := [(1, pth p), (2, .ptr 0 0), (4, .ptr 4 0), (6, .int .i64 k)]) (H' := [(4, zt), (0, tcs t)]) (by rw [hk2]) rfl ?_
 refine Qr [0, 1, 0, 7, 15, 0, 32, 127, 255, 255, 1023, 2047] [(0, []), (1, []), (2, []), (3, []), (4, []), (5, []), (6, []), (7, []), (8, []), (9, []), (10, []), (11, [])] (qAv1 4 22 [(21, .int .i64 k), (20, .sl 5 (t.kids.map trc)), (19, .ptr 0 4)] (congrArg AV.pat (mg_trc t.kids k (by omega))) (((1 : Nat) ≠ 0) /\ (4 + 1 <= 5 /\ 4 < 5) /\ (5 = 5 /\ (0 : Int) <= (k : Int) /\ (k : Int) < ((t.kids.map trc).length : Int)) /\ ·) ⟨(by decide), (by decide), ⟨rfl, by omega, by rw [List.length_map]; omega⟩, qAv1 (r := .sl 1 (((p.map (fun s => [AV.str s])).take ((p.map (fun s => [AV.str s])).length)).drop 1)) (v := pth (p.drop 1)) 3 25 [(24, pth p), (23, .agg (tcs (t.kids.getD k default)))] (congrArg (AV.sl 1) (slm_all _ _ _)) ((5 <= 5 /\ 0 < 5) /\ (1 = 1 /\ 0 <= (1 : Int) /\ (1 : Int) <= ((p.map (fun s => [AV.str s])).length : Int) /\ ((p.map (fun s => [AV.str s])).length : Int) <= ((p.map (fun s => [AV.str s])).length : Int)) /\ ·) ⟨(by decide), ⟨rfl, by omega, by rw [List.length_map]; omega, by omega⟩, qBc0 1 [] [] 15 [.agg (tcs (t.kids.getD k default)), pth (p.drop 1)] 26 (PE.use (ih _ (by simp; omega) (p.drop 1) (t.kids.getD k default) rfl (by omega) (wf_kid hwf (by omega) _) (by simp; omega)) ?_)⟩⟩)
 refine Kq (p := (True)) trivial ?_
 refine qFn3 [4] [(5, .bool ((tat (t.kids.getD k default) (p.drop 1)).isSome))] [(4, tcs ((tat (t.kids.getD k default) (p.drop 1)).getD .none)), (0, tcs t)] 8 ((0 < 2) /\ (1 < 2) /\ (true = true /\ 5 = 5 /\ 0 + 5 <= 5) /\ (True) /\ ·) ⟨(by decide), (by decide), (by decide), trivial, Rt1 ((0 + 5 <= 5 /\ 0 < 5) /\ ·) (.tup [.agg (tcs ((tat (t.kids.getD k default) (p.drop 1)).getD .none)), .bool ((tat (t.kids.getD k default) (p.drop 1)).isSome)]) ⟨(by decide), fin_lea ?_⟩⟩
 rw [tat_step t (by omega), hk1]; exact lea_refl _
theorem l1At_c (p : List Str) (t : Tr) (hw : t.W < 2 ^ 60) (hf : t.wf = true) (hp : p.length < 2 ^ 60) : PE G 15 [.agg (tcs t), pth p] (.tup [.agg (tcs ((tat t p).getD .none)), .bool (tat t p).isSome]) := l1At_r _ p t rfl hw hf hp
theorem l2Fits_c (x t : Tr) (hw : x.W < 2 ^ 60) : PE G 52 [.agg (tcs x), .agg (tcs t)] (.tup [.agg (tcs (if treeOk x then x else t)), .int .i64 (if treeOk x then 0 else 6)]) := by
 refine Pe Tryz.func52 ?_
 refine Rr (Fn2 [] [(4, .ptr 8 0), (3, .ptr 4 0), (2, .ptr 0 0)] [(8, zt), (4, tcs t), (0, tcs x)] 12 (Sq fun K2 hK2 => ?_))
 refine Rr (Pc1 2 [(6, .agg (tcs x))] 7 (0 + 5 <= 5 /\ 0 < 5) (by decide) (sTreeOk_c x hw) (Cn0 (!(treeOk x)) [2, 3, 4] [] ⟨fun hc4 c4 => ?_, fun hc4 c4 => ?_⟩))
 try simp only [KF] at c4
 refine Rr (Fn3 [4] [(5, .int .i64 6)] [(8, tcs t), (4, tcs t), (0, tcs x)] 12 ((0 + 5 <= 5 /\ 0 < 5) /\ (true = true /\ 5 = 5 /\ 0 + 5 <= 5) /\ ·) ⟨(by decide), (by decide), Rt1 ((0 + 5 <= 5 /\ 0 < 5) /\ ·) (.tup [.agg (tcs t), .int .i64 6]) ⟨(by decide), fin_lea ?_⟩⟩)
 rw [show treeOk x = false by simpa using c4]; exact lea_refl _
 try simp only [KF] at c4
 refine Sk (Jn (hK2 (Kp [2, 4] (Rr (Fn3 [4] [(5, .int .i64 0)] [(8, tcs x), (4, tcs t), (0, tcs x)] 12 ((0 + 5 <= 5 /\ 0 < 5) /\ (true = true /\ 5 = 5 /\ 0 + 5 <= 5) /\ ·) ⟨(by decide), (by decide), Rt1 ((0 + 5 <= 5 /\ 0 < 5) /\ ·) (.tup [.agg (tcs x), .int .i64 0]) ⟨(by decide), fin_lea ?_⟩⟩)))))
 rw [show treeOk x = true by simpa using c4]; exact lea_refl _
theorem l2Parent_c (t : Tr) (p : List Str) (hw : t.W < 2 ^ 60) (hwf : t.wf = true) (hp : p.length < 2 ^ 60) (h0 : 0 < p.length) : PE G 51 [.agg (tcs t), pth p] (.int .i64 (parC t p)) := by
 refine Pe Tryz.func51 ?_
 refine Rr (Fn2 [1] [(2, .ptr 0 0)] [(0, tcs t)] 4 (Qr [0, 0, 0, 4, 12, 30, 63, 127, 255, 255, 0, 1535, 4095] [(0, []), (1, []), (2, []), (3, []), (4, []), (5, []), (6, []), (7, []), (8, []), (9, []), (10, [0]), (11, []), (12, [])] (qAv1 (r := .int .i64 ((p.map (fun s => [AV.str s])).length : Nat)) (v := .int .i64 p.length) 4 11 [(10, pth p), (9, pth p), (8, .agg (tcs t))] (by rw [List.length_map]) ((0 + 5 <= 5 /\ 0 < 5) /\ ·) ⟨(by decide), qAv1 (r := .int .i64 (IntKind.i64.wrap ((p.length : Int) - 1))) (v := .int .i64 ((p.length : Int) - 1)) 1 12 [] (congrArg (AV.int .i64) (wrap64 (by omega) (by omega))) (Ki /\ ·) ⟨rfl, ?_⟩⟩)))
 refine qAv1 (r := .sl 1 (((p.map (fun s => [AV.str s])).take (((p.length : Int) - 1).toNat)).drop 0)) (v := pth (p.take (((p.length : Int) - 1).toNat))) 1 13 [] (congrArg (AV.sl 1) (slm_0 _ _ _)) ((1 = 1 /\ 0 <= (0 : Int) /\ (0 : Int) <= ((p.length : Int) - 1) /\ ((p.length : Int) - 1) <= ((p.map (fun s => [AV.str s])).length : Int)) /\ ·) ⟨⟨rfl, by omega, by (try rw [List.length_map]); omega, by rw [List.length_map]; omega⟩, qBc0 1 [] [] 15 [.agg (tcs t), pth (p.take (((p.length : Int) - 1).toNat))] 14 (PE.use (l1At_c (p.take (((p.length : Int) - 1).toNat)) t hw hwf (by rw [List.length_take]; omega)) (Kq (p := (True)) trivial (qFn3 [] [(6, .bool ((tat t (p.take (((p.length : Int) - 1).toNat))).isSome)), (5, .ptr 4 0)] [(4, tcs ((tat t (p.take (((p.length : Int) - 1).toNat))).getD .none)), (0, tcs t)] 8 ((0 < 2) /\ (1 < 2) /\ (((0 + 5 <= 5 /\ 0 < 5) /\ (AV.agg (tcs t) = (.agg (tcs t) : AV))) /\ True) /\ (true = true /\ 5 = 5 /\ 0 + 5 <= 5) /\ (True) /\ ·) ⟨(by decide), (by decide), ⟨⟨(by decide), rfl⟩, trivial⟩, (by decide), trivial, ?_⟩)))⟩
 refine Sq fun K3 hK3 => ?_
 refine Bl (Rr (Cn0 (!((tat t (p.take (((p.length : Int) - 1).toNat))).isSome)) [5] [] ⟨fun hc5 c5 => ?_, fun hc5 c5 => ?_⟩))
 try simp only [KF] at c5
 refine Rr (Fn0 [] [(4, .int .i64 3)] (Rt (.int .i64 3) (fin_lea ?_)))
 have hr : parC t p = 3 := by
   unfold parC
   rw [show ((p.length : Int) - 1).toNat = p.length - 1 by omega] at *
   cases hx : tat t (p.take (p.length - 1)) <;> simp_all
 rw [hr]; exact lea_refl _
 try simp only [KF] at c5
 refine Rr (Cn1 (!(((tat t (p.take (((p.length : Int) - 1).toNat))).getD .none).dir)) [] [] (((1 : Nat) ≠ 0) /\ (0 + 1 <= 5 /\ 0 < 5) /\ ·) ⟨(by decide), (by decide), fun hc8 c8 => ?_, fun hc8 c8 => ?_⟩)
 try simp only [KF] at c8
 refine Rr (Fn0 [] [(4, .int .i64 4)] (Rt (.int .i64 4) (fin_lea ?_)))
 have hr : parC t p = 4 := by
   unfold parC
   rw [show ((p.length : Int) - 1).toNat = p.length - 1 by omega] at *
   cases hx : tat t (p.take (p.length - 1)) <;> simp_all
 rw [hr]; exact lea_refl _
 try simp only [KF] at c8
 refine Sk (Bn (Jn (hK3 (Kp [] (Rr (Fn0 [] [(4, .int .i64 0)] (Rt (.int .i64 0) (fin_lea ?_))))))))
 have hr : parC t p = 0 := by
   unfold parC
   rw [show ((p.length : Int) - 1).toNat = p.length - 1 by omega] at *
   cases hx : tat t (p.take (p.length - 1)) <;> simp_all
 rw [hr]; exact lea_refl _
theorem l2CallOk_ok (c : Cl) (h1 : c.path.length < 2 ^ 62) (h2 : ∀ s ∈ c.path, s.length < 2 ^ 62) (h3 : c.to.length < 2 ^ 62) (h4 : ∀ s ∈ c.to, s.length < 2 ^ 62) : PE G 22 [.agg (clc c)] (.bool (callOk c)) := by
 refine Pe Tryz.func22 ?_
 refine Rr (Fn2 [] [(1, .ptr 0 0)] [(0, clc c)] 4 (Sq fun K2 hK2 => ?_))
 refine Rr (Fn1 [1] [(4, .int .i64 c.kind)] (((1 : Nat) ≠ 0) /\ (0 + 1 <= 5 /\ 0 < 5) /\ ·) ⟨(by decide), (by decide), Bl (Sq fun K4 hK4 => ?_)⟩)
 refine Rr (Cn1 (decide ((c.kind : Int) = (1 : Int))) [1, 4] [(5, .bool (decide ((c.kind : Int) = (1 : Int))))] (Ki /\ ·) ⟨rfl, fun hc6 c6 => ?_, fun hc6 c6 => ?_⟩)
 try simp only [KF] at c6
 refine Sk (Jn (hK4 (Kp [1, 4, 5] (C1 (t := decide ((c.kind : Int) = (1 : Int))) hc6 (Rm 2 ((pthOk c.path 1) && (inb c.at_ 0 7)) [] ?_ ?_)))))
 refine Bc1 3 [(9, pth c.path), (8, .ptr 0 1)] 49 [pth c.path] 10 (((1 : Nat) ≠ 0) /\ (1 + 1 <= 5 /\ 1 < 5) /\ ·) ⟨(by decide), (by decide), ?_⟩
 refine PE.use (l2PathOk_ok c.path h1 h2) ?_
 refine Ke (An0 1 [(11, .bool (pthOk c.path 1))] (run_b (fun g8 => ?_) (fun g8 => ?_)))
 have hg8 := g8
 try simp only [KF] at g8
 refine Bc1 3 [(13, .int .i64 c.at_), (12, .ptr 0 3)] 50 [.int .i64 c.at_, .int .i64 0, .int .i64 7] 14 (((1 : Nat) ≠ 0) /\ (3 + 1 <= 5 /\ 3 < 5) /\ ·) ⟨(by decide), (by decide), ?_⟩
 refine PE.use (l1In_ok c.at_ 0 7) ?_
 refine Ke (Mn0 (inb c.at_ 0 7) (by rw [hg8]; rfl))
 have hg8 := g8
 try simp only [KF] at g8
 refine Mn0 false (by rw [hg8]; rfl)
 refine Rt (.bool ((pthOk c.path 1) && (inb c.at_ 0 7))) (fin_lea ?_)
 have hr : callOk c = ((pthOk c.path 1) && (inb c.at_ 0 7)) := by
   unfold callOk
   (repeat' split) <;> first | omega | rfl
 rw [hr]; exact lea_refl _
 try simp only [KF] at c6
 refine Rb (fun h => Jn (hK4 h)) (Fn1 [1, 4] [(5, .bool (decide ((c.kind : Int) = (6 : Int))))] (Ki /\ ·) ⟨rfl, Cc (decide ((c.kind : Int) = (6 : Int))) (fun hc9 c9 => ?_) fun hc9 c9 => ?_⟩)
 try simp only [KF] at c9
 refine Rm 2 ((pthOk c.path 1) && (inb c.at_ 0 7)) [] ?_ ?_
 refine Bc1 3 [(9, pth c.path), (8, .ptr 0 1)] 49 [pth c.path] 10 (((1 : Nat) ≠ 0) /\ (1 + 1 <= 5 /\ 1 < 5) /\ ·) ⟨(by decide), (by decide), ?_⟩
 refine PE.use (l2PathOk_ok c.path h1 h2) ?_
 refine Ke (An0 1 [(11, .bool (pthOk c.path 1))] (run_b (fun g11 => ?_) (fun g11 => ?_)))
 have hg11 := g11
 try simp only [KF] at g11
 refine Bc1 3 [(13, .int .i64 c.at_), (12, .ptr 0 3)] 50 [.int .i64 c.at_, .int .i64 0, .int .i64 7] 14 (((1 : Nat) ≠ 0) /\ (3 + 1 <= 5 /\ 3 < 5) /\ ·) ⟨(by decide), (by decide), ?_⟩
 refine PE.use (l1In_ok c.at_ 0 7) ?_
 refine Ke (Mn0 (inb c.at_ 0 7) (by rw [hg11]; rfl))
 have hg11 := g11
 try simp only [KF] at g11
 refine Mn0 false (by rw [hg11]; rfl)
 refine Rt (.bool ((pthOk c.path 1) && (inb c.at_ 0 7))) (fin_lea ?_)
 have hr : callOk c = ((pthOk c.path 1) && (inb c.at_ 0 7)) := by
   unfold callOk
   (repeat' split) <;> first | omega | rfl
 rw [hr]; exact lea_refl _
 try simp only [KF] at c9
 refine Sq fun K12 hK12 => ?_
 refine Rr (Cn1 (decide ((c.kind : Int) = (2 : Int))) [1, 4] [(16, .bool (decide ((c.kind : Int) = (2 : Int))))] (Ki /\ ·) ⟨rfl, fun hc14 c14 => ?_, fun hc14 c14 => ?_⟩)
 try simp only [KF] at c14
 refine Sk (Jn (hK12 (Kp [1, 4, 16] (C1 (t := decide ((c.kind : Int) = (2 : Int))) hc14 (Rm 2 ((pthOk c.path 1) && (inb c.at_ 0 24)) [] ?_ ?_)))))
 refine Bc1 3 [(20, pth c.path), (19, .ptr 0 1)] 49 [pth c.path] 21 (((1 : Nat) ≠ 0) /\ (1 + 1 <= 5 /\ 1 < 5) /\ ·) ⟨(by decide), (by decide), ?_⟩
 refine PE.use (l2PathOk_ok c.path h1 h2) ?_
 refine Ke (An0 1 [(22, .bool (pthOk c.path 1))] (run_b (fun g16 => ?_) (fun g16 => ?_)))
 have hg16 := g16
 try simp only [KF] at g16
 refine Bc1 3 [(24, .int .i64 c.at_), (23, .ptr 0 3)] 50 [.int .i64 c.at_, .int .i64 0, .int .i64 24] 25 (((1 : Nat) ≠ 0) /\ (3 + 1 <= 5 /\ 3 < 5) /\ ·) ⟨(by decide), (by decide), ?_⟩
 refine PE.use (l1In_ok c.at_ 0 24) ?_
 refine Ke (Mn0 (inb c.at_ 0 24) (by rw [hg16]; rfl))
 have hg16 := g16
 try simp only [KF] at g16
 refine Mn0 false (by rw [hg16]; rfl)
 refine Rt (.bool ((pthOk c.path 1) && (inb c.at_ 0 24))) (fin_lea ?_)
 have hr : callOk c = ((pthOk c.path 1) && (inb c.at_ 0 24)) := by
   unfold callOk
   (repeat' split) <;> first | omega | rfl
 rw [hr]; exact lea_refl _
 try simp only [KF] at c14
 refine Rb (fun h => Jn (hK12 h)) (Fn1 [1, 4] [(16, .bool (decide ((c.kind : Int) = (3 : Int))))] (Ki /\ ·) ⟨rfl, Cc (decide ((c.kind : Int) = (3 : Int))) (fun hc17 c17 => ?_) fun hc17 c17 => ?_⟩)
 try simp only [KF] at c17
 refine Rm 2 ((pthOk c.path 1) && (inb c.at_ 0 24)) [] ?_ ?_
 refine Bc1 3 [(20, pth c.path), (19, .ptr 0 1)] 49 [pth c.path] 21 (((1 : Nat) ≠ 0) /\ (1 + 1 <= 5 /\ 1 < 5) /\ ·) ⟨(by decide), (by decide), ?_⟩
 refine PE.use (l2PathOk_ok c.path h1 h2) ?_
 refine Ke (An0 1 [(22, .bool (pthOk c.path 1))] (run_b (fun g19 => ?_) (fun g19 => ?_)))
 have hg19 := g19
 try simp only [KF] at g19
 refine Bc1 3 [(24, .int .i64 c.at_), (23, .ptr 0 3)] 50 [.int .i64 c.at_, .int .i64 0, .int .i64 24] 25 (((1 : Nat) ≠ 0) /\ (3 + 1 <= 5 /\ 3 < 5) /\ ·) ⟨(by decide), (by decide), ?_⟩
 refine PE.use (l1In_ok c.at_ 0 24) ?_
 refine Ke (Mn0 (inb c.at_ 0 24) (by rw [hg19]; rfl))
 have hg19 := g19
 try simp only [KF] at g19
 refine Mn0 false (by rw [hg19]; rfl)
 refine Rt (.bool ((pthOk c.path 1) && (inb c.at_ 0 24))) (fin_lea ?_)
 have hr : callOk c = ((pthOk c.path 1) && (inb c.at_ 0 24)) := by
   unfold callOk
   (repeat' split) <;> first | omega | rfl
 rw [hr]; exact lea_refl _
 try simp only [KF] at c17
 refine Rr (Cn1 (decide ((c.kind : Int) = (4 : Int))) [1, 4] [] (Ki /\ ·) ⟨rfl, fun hc21 c21 => ?_, fun hc21 c21 => ?_⟩)
 try simp only [KF] at c21
 refine Rr (Bc1 3 [(30, pth c.path), (29, .ptr 0 1)] 49 [pth c.path] 31 (((1 : Nat) ≠ 0) /\ (1 + 1 <= 5 /\ 1 < 5) /\ ·) ⟨(by decide), (by decide), PE.use (l2PathOk_ok c.path h1 h2) (Ke (Fn0 [] [(2, .bool (pthOk c.path 1))] ?_))⟩)
 refine Rt (.bool (pthOk c.path 1)) (fin_lea ?_)
 have hr : callOk c = (pthOk c.path 1) := by
   unfold callOk
   (repeat' split) <;> first | omega | rfl
 rw [hr]; exact lea_refl _
 try simp only [KF] at c21
 refine Rr (Cn1 (decide ((c.kind : Int) = (5 : Int))) [1] [] (Ki /\ ·) ⟨rfl, fun hc24 c24 => ?_, fun hc24 c24 => ?_⟩)
 try simp only [KF] at c24
 refine Rm 2 ((pthOk c.path 1) && (pthOk c.to 1)) [] ?_ ?_
 refine Bc1 3 [(35, pth c.path), (34, .ptr 0 1)] 49 [pth c.path] 36 (((1 : Nat) ≠ 0) /\ (1 + 1 <= 5 /\ 1 < 5) /\ ·) ⟨(by decide), (by decide), ?_⟩
 refine PE.use (l2PathOk_ok c.path h1 h2) ?_
 refine Ke (An0 1 [(37, .bool (pthOk c.path 1))] (run_b (fun g26 => ?_) (fun g26 => ?_)))
 have hg26 := g26
 try simp only [KF] at g26
 refine Bc1 3 [(39, pth c.to), (38, .ptr 0 2)] 49 [pth c.to] 40 (((1 : Nat) ≠ 0) /\ (2 + 1 <= 5 /\ 2 < 5) /\ ·) ⟨(by decide), (by decide), ?_⟩
 refine PE.use (l2PathOk_ok c.to h3 h4) ?_
 refine Ke (Mn0 (pthOk c.to 1) (by rw [hg26]; rfl))
 have hg26 := g26
 try simp only [KF] at g26
 refine Mn0 false (by rw [hg26]; rfl)
 refine Rt (.bool ((pthOk c.path 1) && (pthOk c.to 1))) (fin_lea ?_)
 have hr : callOk c = ((pthOk c.path 1) && (pthOk c.to 1)) := by
   unfold callOk
   (repeat' split) <;> first | omega | rfl
 rw [hr]; exact lea_refl _
 try simp only [KF] at c24
 refine Sk (Bn (Jn (hK2 (Kp [] (Rr (Fn0 [] [(2, .bool false)] (Rt (.bool false) (fin_lea ?_))))))))
 have hr : callOk c = (false) := by
   unfold callOk
   (repeat' split) <;> first | omega | rfl
 rw [hr]; exact lea_refl _
open Go Go.Proofs
set_option maxRecDepth 100000
theorem l1Copy_ok : ∀ (N : Nat) (t : Tr), t.W = N -> t.W < 2 ^ 40 -> PE G 16 [.agg (tcs t)] (.agg (tcs t)) := by
 intro N; refine Nat.strongRecOn N fun N ih => ?_; intro t hN hw; rw [W_eq] at hN hw; have hks := Ws_len t.kids; have hns := wS_len t.names
 refine Pe Tryz.func16 ?_
 refine Rr (Fn2 [] [(2, .ptr 4 0), (1, .ptr 0 0)] [(4, zt), (0, tcs t)] 8 (Qr [0, 1, 0, 4, 0, 16, 0, 0, 128, 448, 1023, 0, 4095] [(0, []), (1, []), (2, []), (3, []), (4, []), (5, []), (7, []), (8, []), (6, [1, 3, 5, 8]), (9, [1, 3, 5]), (10, []), (11, [1, 3, 5, 8]), (12, [])] (qAn3 10 [(14, .osl 12 1 0 (0 + (t.names.map (fun s => [AV.str s])).length)), (11, .osl 8 1 0 0), (13, pth t.names), (12, .ptr 0 3), (10, .str t.data), (9, .ptr 0 2), (8, .int .i64 t.mode), (7, .ptr 0 1), (6, .bool t.dir), (5, .ptr 0 0)] [(12, apd [] (0 * 1) ((t.names.map (fun s => [AV.str s])).flatten)), (4, zt), (0, tcs t)] 16 (((1 : Nat) ≠ 0) /\ (0 + 1 <= 5 /\ 0 < 5) /\ ((1 : Nat) ≠ 0) /\ (1 + 1 <= 5 /\ 1 < 5) /\ ((1 : Nat) ≠ 0) /\ (2 + 1 <= 5 /\ 2 < 5) /\ ((1 : Nat) ≠ 0) /\ (3 + 1 <= 5 /\ 3 < 5) /\ (0 * 1 <= 16777216) /\ (((0 + 1 <= 5 /\ 0 < 5) /\ (AV.bool t.dir = (.bool t.dir : AV))) /\ ((1 + 1 <= 5 /\ 1 < 5) /\ (AV.int .i64 t.mode = (.int .i64 t.mode : AV))) /\ ((2 + 1 <= 5 /\ 2 < 5) /\ (AV.str t.data = (.str t.data : AV))) /\ ((3 + 1 <= 5 /\ 3 < 5) /\ (pth t.names = pth t.names)) /\ True) /\ True /\ (1 = 1 /\ 0 * 1 <= 0 /\ 0 < 16 /\ (0 + (t.names.map (fun s => [AV.str s])).length) * 16 <= 140737488355328) /\ (((0 + 1 <= 5 /\ 0 < 5) /\ (AV.bool t.dir = (.bool t.dir : AV))) /\ ((1 + 1 <= 5 /\ 1 < 5) /\ (AV.int .i64 t.mode = (.int .i64 t.mode : AV))) /\ ((2 + 1 <= 5 /\ 2 < 5) /\ (AV.str t.data = (.str t.data : AV))) /\ True) /\ ·) ⟨(by decide), (by decide), (by decide), (by decide), (by decide), (by decide), (by decide), (by decide), (by decide), ⟨⟨(by decide), rfl⟩, ⟨(by decide), rfl⟩, ⟨(by decide), rfl⟩, ⟨(by decide), rfl⟩, trivial⟩, trivial, ⟨rfl, by (first | omega | (simp only [LL]; omega)), by decide, by (first | omega | (simp only [LL]; omega))⟩, ⟨⟨(by decide), rfl⟩, ⟨(by decide), rfl⟩, ⟨(by decide), rfl⟩, trivial⟩, runq_v (v' := .osl 12 1 0 t.names.length) (by rw [Nat.zero_add, List.length_map]) ?_⟩)))
 refine runq_h (cs' := fl sc t.names) (app0_str _) ?_
 refine qFn3 [1, 2] [(3, .ptr 16 0)] [(16, [.bool t.dir, .int .i64 t.mode, .str t.data, .osl 12 1 0 t.names.length, .nils]), (12, fl sc t.names), (4, zt), (0, tcs t)] 20 ((((0 + 1 <= 5 /\ 0 < 5) /\ (AV.bool t.dir = (.bool t.dir : AV))) /\ ((1 + 1 <= 5 /\ 1 < 5) /\ (AV.int .i64 t.mode = (.int .i64 t.mode : AV))) /\ ((2 + 1 <= 5 /\ 2 < 5) /\ (AV.str t.data = (.str t.data : AV))) /\ ((3 + 1 <= 5 /\ 3 < 5) /\ (pth t.names = pth t.names)) /\ True) /\ (true = true /\ 5 = 5 /\ 0 + 5 <= 5) /\ (True) /\ ·) ⟨⟨⟨(by decide), rfl⟩, ⟨(by decide), rfl⟩, ⟨(by decide), rfl⟩, ⟨(by decide), rfl⟩, trivial⟩, (by decide), trivial, Sq fun K3 hK3 => ?_⟩
 refine Rr (Fn0 [1, 2, 3] [(4, .int .i64 0)] (Bl (h_l (fun (x : Nat × Option Unit) => (match x with | (_, none) => ([(1, .ptr 0 0), (2, .ptr 4 0), (3, .ptr 16 0), (4, .int .i64 0)] : Fr) | (k, some ()) => ([(1, .ptr 0 0), (2, .ptr 4 0), (3, .ptr 16 0), (4, .int .i64 k)] : Fr))) (fun (x : Nat × Option Unit) => (match x with | (_, none) => ([(16, [.bool t.dir, .int .i64 t.mode, .str t.data, .osl 12 1 0 t.names.length, .nils]), (12, fl sc t.names), (4, zt), (0, tcs t)] : Hp) | (k, some ()) => ([(20, fl trc (t.kids.take k)), (16, [.bool t.dir, .int .i64 t.mode, .str t.data, .osl 12 1 0 t.names.length, .osl 20 5 0 ((t.kids.take k).length)]), (12, fl sc t.names), (4, zt), (0, tcs t)] : Hp))) (fun (x : Nat × Option Unit) cn => (match x with | (_, none) => (x.1 = 0) /\ cn = 20 | (k, some ()) => (0 < k /\ k <= t.kids.length) /\ cn = 24)) (fun (x : Nat × Option Unit) => t.kids.length - x.1) (0, none) (by kernel_rfl) ?_ ?_ ?_ ?_)))
 refine ⟨?_, rfl⟩; rfl
 exact ⟨by kernel_rfl, by kernel_rfl, by kernel_rfl, by kernel_rfl, trivial⟩
 exact (sub_c (by kernel_rfl) (sub_c (by kernel_rfl) (sub_c (by kernel_rfl) (sub_c (by kernel_rfl) (List.nil_sublist _)))))
 rintro ⟨k, _ | ⟨⟩⟩ n1 hI
 (try dsimp only at hI)
 obtain ⟨rfl, rfl⟩ := hI
 dsimp only
 refine Sq fun K5 hK5 => ?_
 refine Rr (Av1 (r := .int .i64 ((t.kids.map trc).length : Nat)) (v := .int .i64 t.kids.length) 4 19 [(18, .sl 5 (t.kids.map trc)), (17, .ptr 0 4), (16, .int .i64 0)] (by rw [List.length_map]) (((1 : Nat) ≠ 0) /\ (4 + 1 <= 5 /\ 4 < 5) /\ ·) ⟨(by decide), (by decide), Cn1 (decide ((0 : Int) < ((t.kids.length : Int) : Int))) [1, 2, 3, 4] [] (Ki /\ ·) ⟨rfl, fun hc7 c7 => ?_, fun hc7 c7 => ?_⟩⟩)
 try simp only [KF] at c7
 refine Sk (Jn (hK5 (Kp [1, 2, 3, 4] (Sq fun K8 hK8 => ?_))))
 refine Bl (Qb [0, 1, 0, 4, 0, 28, 60, 124, 252, 511, 1023, 2047] [(0, []), (1, []), (2, []), (3, []), (4, []), (5, []), (6, []), (7, [1]), (8, [1]), (9, []), (10, []), (11, [])] (fun h => Bn (Jn (hK8 h))) (qAv1 6 28 [(27, .int .i64 0), (26, .sl 5 (t.kids.map trc)), (25, .ptr 0 4), (24, .nils), (23, .ptr 16 4)] (congrArg AV.pat (mg_trc t.kids 0 (by omega))) (((1 : Nat) ≠ 0) /\ (4 + 1 <= 5 /\ 4 < 5) /\ ((1 : Nat) ≠ 0) /\ (4 + 1 <= 5 /\ 4 < 5) /\ (5 = 5 /\ (0 : Int) <= 0 /\ 0 < ((t.kids.map trc).length : Int)) /\ ·) ⟨(by decide), (by decide), (by decide), (by decide), ⟨rfl, by omega, by rw [List.length_map]; omega⟩, qBc1 2 [(29, .agg (tcs (t.kids.getD 0 default)))] [1] 16 [.agg (tcs (t.kids.getD 0 default))] 30 ((5 <= 5 /\ 0 < 5) /\ ·) ⟨(by decide), ?_⟩⟩))
 have hW := Ws_get t.kids 0 (by omega)
 refine PE.use (ih _ (by omega) (t.kids.getD 0 default) rfl (by omega)) ?_
 refine Kq (p := (((4 + 1 <= 5 /\ 4 < 5) /\ (AV.nils = (.nils : AV))) /\ True)) ⟨⟨(by decide), rfl⟩, trivial⟩ ?_
 refine qAn3 2 [(32, .osl 24 5 0 1), (31, .osl 20 5 0 1)] [(24, tcs (t.kids.getD 0 default)), (20, tcs (t.kids.getD 0 default)), (16, [.bool t.dir, .int .i64 t.mode, .str t.data, .osl 12 1 0 t.names.length, .nils]), (12, fl sc t.names), (4, zt), (0, tcs t)] 28 ((1 * 5 <= 16777216) /\ (((4 + 1 <= 5 /\ 4 < 5) /\ (AV.nils = (.nils : AV))) /\ True) /\ (0 + 1 * 5 <= 5) /\ (0 < 1 /\ 0 < 80 /\ 1 * 80 <= 140737488355328) /\ (True) /\ ·) ⟨(by decide), ⟨⟨(by decide), rfl⟩, trivial⟩, (by decide), (by decide), trivial, runq_v (v' := .osl 24 5 0 ([(t.kids.getD 0 default)].length)) rfl (runq_h (cs' := fl trc [(t.kids.getD 0 default)]) (s1_trc (t.kids.getD 0 default)) (qFn3 [1, 2, 3, 4] [] [(24, fl trc [(t.kids.getD 0 default)]), (20, tcs (t.kids.getD 0 default)), (16, [.bool t.dir, .int .i64 t.mode, .str t.data, .osl 12 1 0 t.names.length, .osl 24 5 0 ([(t.kids.getD 0 default)].length)]), (12, fl sc t.names), (4, zt), (0, tcs t)] 28 (((1 : Nat) ≠ 0) /\ (true = true /\ 1 = 1 /\ 4 + 1 <= 5) /\ (True) /\ ·) ⟨(by decide), (by decide), trivial, Rn ?_⟩))⟩
 refine Gn1 [(4, .int .i64 1), (22, .int .i64 1), (21, .int .i64 0)] (Ki /\ ·) ⟨rfl, nk_n (Lr (1, some ()) [(0, 0), (4, 4), (12, 12), (16, 16), (24, 20)] 24 [(1, .ptr 0 0), (2, .ptr 4 0), (3, .ptr 16 0), (4, .int .i64 1)] [(24, fl trc [(t.kids.getD 0 default)]), (16, [.bool t.dir, .int .i64 t.mode, .str t.data, .osl 12 1 0 t.names.length, .osl 24 5 0 ([(t.kids.getD 0 default)].length)]), (12, fl sc t.names), (4, zt), (0, tcs t)] [false, true, false, true, true] ?_ ?_ (by (try rw [one_take default (by omega)]); try kernel_rfl) (by kernel_rfl))⟩
 (try dsimp only); omega
 refine ⟨?_, rfl⟩; (try dsimp only); omega
 try simp only [KF] at c7
 refine Xt (Jx (Lx (Bh (Jn (hK3 (Kp [2, 3] (Rr (Fn3 [2] [] [(16, [.bool t.dir, .int .i64 t.mode, .str t.data, .osl 12 1 0 t.names.length, .nils]), (12, fl sc t.names), (4, [.bool t.dir, .int .i64 t.mode, .str t.data, .osl 12 1 0 t.names.length, .nils]), (0, tcs t)] 20 ((0 + 5 <= 5 /\ 0 < 5) /\ (true = true /\ 5 = 5 /\ 0 + 5 <= 5) /\ ·) ⟨(by decide), (by decide), FzS 12 t.names [(2, .ptr 4 0)] [(4, [.bool t.dir, .int .i64 t.mode, .str t.data, .osl 12 1 0 t.names.length, .nils])] [true] (Rt1 ((0 + 5 <= 5 /\ 0 < 5) /\ ·) (.agg [.bool t.dir, .int .i64 t.mode, .str t.data, pth t.names, .nils]) ⟨(by decide), ?_⟩)⟩))))))))
 refine fin_lea ?_
 first
   | (rw [List.take_of_length_le (by omega)]; exact lea_refl _)
   | (have : t.kids = [] := List.eq_nil_of_length_eq_zero (by omega)
      simp only [tcs, this]; simp [lea, leas])
 (try dsimp only at hI)
 obtain ⟨⟨hk0, hk⟩, rfl⟩ := hI
 dsimp only
 have hkl : (t.kids.take k).length = k := tkl hk
 refine Sq fun K10 hK10 => ?_
 refine Rr (Av1 (r := .int .i64 ((t.kids.map trc).length : Nat)) (v := .int .i64 t.kids.length) 4 19 [(18, .sl 5 (t.kids.map trc)), (17, .ptr 0 4), (16, .int .i64 k)] (by rw [List.length_map]) (((1 : Nat) ≠ 0) /\ (4 + 1 <= 5 /\ 4 < 5) /\ ·) ⟨(by decide), (by decide), Cn1 (decide ((k : Int) < (t.kids.length : Int))) [1, 2, 3, 4] [] (Ki /\ ·) ⟨rfl, fun hc12 c12 => ?_, fun hc12 c12 => ?_⟩⟩)
 try simp only [KF] at c12
 refine Sk (Jn (hK10 (Kp [1, 2, 3, 4] (Sq fun K13 hK13 => ?_))))
 refine Bl (Qb [0, 1, 0, 4, 0, 28, 60, 124, 252, 511, 1023, 2047] [(0, []), (1, []), (2, []), (3, []), (4, []), (5, []), (6, []), (7, [1]), (8, [1]), (9, []), (10, []), (11, [])] (fun h => Bn (Jn (hK13 h))) (qAv1 6 28 [(27, .int .i64 k), (26, .sl 5 (t.kids.map trc)), (25, .ptr 0 4), (24, .osl 20 5 0 ((t.kids.take k).length)), (23, .ptr 16 4)] (congrArg AV.pat (mg_trc t.kids k (by omega))) (((1 : Nat) ≠ 0) /\ (4 + 1 <= 5 /\ 4 < 5) /\ ((1 : Nat) ≠ 0) /\ (4 + 1 <= 5 /\ 4 < 5) /\ (5 = 5 /\ (0 : Int) <= (k : Int) /\ (k : Int) < ((t.kids.map trc).length : Int)) /\ ·) ⟨(by decide), (by decide), (by decide), (by decide), ⟨rfl, by omega, by rw [List.length_map]; omega⟩, qBc1 2 [(29, .agg (tcs (t.kids.getD k default)))] [1] 16 [.agg (tcs (t.kids.getD k default))] 30 ((5 <= 5 /\ 0 < 5) /\ ·) ⟨(by decide), ?_⟩⟩))
 have hW := Ws_get t.kids k (by omega)
 refine PE.use (ih _ (by omega) (t.kids.getD k default) rfl (by omega)) ?_
 refine Kq (p := (((4 + 1 <= 5 /\ 4 < 5) /\ (AV.osl 20 5 0 ((t.kids.take k).length) = (.osl 20 5 0 ((t.kids.take k).length) : AV))) /\ True)) ⟨⟨(by decide), rfl⟩, trivial⟩ ?_
 refine qAn3 2 [(32, .osl 28 5 0 ((t.kids.take k).length + 1)), (31, .osl 24 5 0 1)] [(28, apd (fl trc (t.kids.take k)) ((t.kids.take k).length * 5) (tcs (t.kids.getD k default))), (24, tcs (t.kids.getD k default)), (16, [.bool t.dir, .int .i64 t.mode, .str t.data, .osl 12 1 0 t.names.length, .osl 20 5 0 ((t.kids.take k).length)]), (12, fl sc t.names), (4, zt), (0, tcs t)] 32 (fun Z => (1 * 5 <= 16777216) /\ (((4 + 1 <= 5 /\ 4 < 5) /\ (AV.osl 20 5 0 ((t.kids.take k).length) = (.osl 20 5 0 ((t.kids.take k).length) : AV))) /\ True) /\ (0 + 1 * 5 <= 5) /\ (5 = 5 /\ (t.kids.take k).length * 5 <= (fl trc (t.kids.take k)).length /\ 0 < 80 /\ ((t.kids.take k).length + 1) * 80 <= 140737488355328) /\ (True) /\ Z) ⟨(by decide), ⟨⟨(by decide), rfl⟩, trivial⟩, (by decide), ⟨rfl, by (first | omega | (simp only [LL]; omega)), by decide, by (first | omega | (simp only [LL]; omega))⟩, trivial, runq_v (v' := .osl 28 5 0 ((t.kids.take k ++ [(t.kids.getD k default)]).length)) (push_len _ _ _ _) (runq_h (cs' := fl trc (t.kids.take k ++ [(t.kids.getD k default)])) (push_trc (t.kids.take k) (t.kids.getD k default)) (qFn3 [1, 2, 3, 4] [] [(28, fl trc (t.kids.take k ++ [(t.kids.getD k default)])), (24, tcs (t.kids.getD k default)), (16, [.bool t.dir, .int .i64 t.mode, .str t.data, .osl 12 1 0 t.names.length, .osl 28 5 0 ((t.kids.take k ++ [(t.kids.getD k default)]).length)]), (12, fl sc t.names), (4, zt), (0, tcs t)] 32 (((1 : Nat) ≠ 0) /\ (true = true /\ 1 = 1 /\ 4 + 1 <= 5) /\ (True) /\ ·) ⟨(by decide), (by decide), trivial, Rn ?_⟩))⟩
 refine Av1 2 22 [(21, .int .i64 k)] (congrArg (AV.int .i64) (wn1 k (by omega))) (Ki /\ ·) ⟨rfl, Gn0 [(4, .int .i64 ((k + 1 : Nat) : Int))] (nk_n (Lr (k + 1, some ()) [(0, 0), (4, 4), (12, 12), (16, 16), (28, 20)] 24 [(1, .ptr 0 0), (2, .ptr 4 0), (3, .ptr 16 0), (4, .int .i64 ((k + 1 : Nat) : Int))] [(28, fl trc (t.kids.take k ++ [(t.kids.getD k default)])), (16, [.bool t.dir, .int .i64 t.mode, .str t.data, .osl 12 1 0 t.names.length, .osl 28 5 0 ((t.kids.take k ++ [(t.kids.getD k default)]).length)]), (12, fl sc t.names), (4, zt), (0, tcs t)] [false, true, false, true, true] ?_ ?_ (by (try rw [<- take_snoc t.kids k default (by omega)]); try kernel_rfl) (by kernel_rfl)))⟩
 (try dsimp only); omega
 refine ⟨?_, rfl⟩; (try dsimp only); omega
 try simp only [KF] at c12
 refine Xt (Jx (Lx (Bh (Jn (hK3 (Kp [2, 3] (Rr (Fn3 [2] [] [(20, fl trc (t.kids.take k)), (16, [.bool t.dir, .int .i64 t.mode, .str t.data, .osl 12 1 0 t.names.length, .osl 20 5 0 ((t.kids.take k).length)]), (12, fl sc t.names), (4, [.bool t.dir, .int .i64 t.mode, .str t.data, .osl 12 1 0 t.names.length, .osl 20 5 0 ((t.kids.take k).length)]), (0, tcs t)] 24 ((0 + 5 <= 5 /\ 0 < 5) /\ (true = true /\ 5 = 5 /\ 0 + 5 <= 5) /\ ·) ⟨(by decide), (by decide), FzS 12 t.names [(2, .ptr 4 0)] [(20, fl trc (t.kids.take k)), (4, [.bool t.dir, .int .i64 t.mode, .str t.data, .osl 12 1 0 t.names.length, .osl 20 5 0 ((t.kids.take k).length)])] [false, true] (FzT 20 (t.kids.take k) [(2, .ptr 4 0)] [(4, [.bool t.dir, .int .i64 t.mode, .str t.data, pth t.names, .osl 20 5 0 ((t.kids.take k).length)])] [true] ?_)⟩))))))))
 refine Rt1 ((0 + 5 <= 5 /\ 0 < 5) /\ ·) (.agg [.bool t.dir, .int .i64 t.mode, .str t.data, pth t.names, .sl 5 ((t.kids.take k).map trc)]) ⟨(by decide), fin_lea ?_⟩
 first
   | (rw [List.take_of_length_le (by omega)]; exact lea_refl _)
   | (have : t.kids = [] := List.eq_nil_of_length_eq_zero (by omega)
      simp only [tcs, this]; simp [lea, leas])
open Go Go.Proofs
set_option maxRecDepth 100000
theorem l2Set_ok : ∀ (N : Nat) (p : List Str) (t x : Tr) (gn : Bool), p.length = N -> t.W < 2 ^ 40 -> t.wf = true -> 0 < p.length -> p.length < 2 ^ 40 -> PE G 53 [.agg (tcs t), pth p, .agg (tcs x), .bool gn] (.agg (tcs (tset p t x gn))) := by
 intro N; refine Nat.strongRecOn N fun N ih => ?_; intro p t x gn hN hw hwf hp0 hp; rw [W_eq] at hw; have hks := Ws_len t.kids; have hns := wS_len t.names; have hwl := wf_len hwf
 obtain ⟨A, hA0, hAs, hAl, hAe⟩ : ∃ A : Nat -> List Str × List Tr × Bool, A 0 = ([], [], false) /\ (∀ k, k < t.names.length -> A (k + 1) = sstp (p.getD 0 default) (decide ((p.length : Int) = (1 : Int))) gn x (fun k => tset (p.drop 1) k x gn) (A k) (t.names.getD k default, t.kids.getD k default)) /\ (∀ k, k <= t.names.length -> (A k).1.length = (A k).2.1.length /\ (A k).1.length <= 2 * k) /\ tset p t x gn = sE (p.getD 0 default) (decide ((p.length : Int) = (1 : Int))) gn x t (A t.names.length) := ⟨sA (p.getD 0 default) (decide ((p.length : Int) = (1 : Int))) gn x (fun k => tset (p.drop 1) k x gn) t, rfl, fun k hk => sA_succ hk hwl, fun k hk => sA_len hwl k hk, tset_eq hp0 t x gn⟩
 refine Pe Tryz.func53 ?_
 refine Rr (Fn2 [1, 3] [(8, .ptr 8 0), (6, .ptr 4 0), (4, .ptr 0 0)] [(8, zt), (4, tcs x), (0, tcs t)] 12 (Rr (Fn3 [1, 3, 4, 6, 8] [(9, .ptr 12 0)] [(12, [.bool t.dir, .int .i64 t.mode, .str t.data, .nils, .nils]), (8, zt), (4, tcs x), (0, tcs t)] 16 (((1 : Nat) ≠ 0) /\ (0 + 1 <= 5 /\ 0 < 5) /\ ((1 : Nat) ≠ 0) /\ (1 + 1 <= 5 /\ 1 < 5) /\ ((1 : Nat) ≠ 0) /\ (2 + 1 <= 5 /\ 2 < 5) /\ (true = true /\ 5 = 5 /\ 0 + 5 <= 5) /\ ·) ⟨(by decide), (by decide), (by decide), (by decide), (by decide), (by decide), (by decide), Rr ?_⟩)))
 refine Fn0 [1, 3, 4, 6, 8, 9] [(10, .bool false)] (Sq fun K4 hK4 => ?_)
 refine Rr (Fn0 [1, 3, 4, 6, 8, 9, 10] [(11, .int .i64 0)] (Bl (h_l (fun (z : Nat × Option Unit) => (match z with | (k, none) => ([(1, pth p), (3, .bool gn), (4, .ptr 0 0), (6, .ptr 4 0), (8, .ptr 8 0), (9, .ptr 12 0), (10, .bool ((A k).2.2)), (11, .int .i64 k)] : Fr) | (k, some ()) => ([(1, pth p), (3, .bool gn), (4, .ptr 0 0), (6, .ptr 4 0), (8, .ptr 8 0), (9, .ptr 12 0), (10, .bool ((A k).2.2)), (11, .int .i64 k)] : Fr))) (fun (z : Nat × Option Unit) => (match z with | (k, none) => ([(12, [.bool t.dir, .int .i64 t.mode, .str t.data, .nils, .nils]), (8, zt), (4, tcs x), (0, tcs t)] : Hp) | (k, some ()) => ([(20, fl trc ((A k).2.1)), (16, fl sc ((A k).1)), (12, [.bool t.dir, .int .i64 t.mode, .str t.data, .osl 16 1 0 ((A k).1.length), .osl 20 5 0 ((A k).2.1.length)]), (8, zt), (4, tcs x), (0, tcs t)] : Hp))) (fun (z : Nat × Option Unit) cn => (match z with | (k, none) => (k <= t.names.length /\ (A k).1 = [] /\ (A k).2.1 = []) /\ cn = 16 | (k, some ()) => (k <= t.names.length) /\ cn = 24)) (fun (z : Nat × Option Unit) => t.names.length - z.1) (0, none) (by kernel_rfl) ?_ ?_ ?_ ?_)))
 refine ⟨?_, rfl⟩; simp [hA0]
 exact ⟨by kernel_rfl, by kernel_rfl, by kernel_rfl, by kernel_rfl, by kernel_rfl, by kernel_rfl, (by show AV.bool false = AV.bool (A 0).2.2; rw [hA0]), by kernel_rfl, trivial⟩
 exact (sub_c (by kernel_rfl) (sub_c (by kernel_rfl) (sub_c (by kernel_rfl) (sub_c (by kernel_rfl) (List.nil_sublist _)))))
 rintro ⟨k, _ | ⟨⟩⟩ n1 hI
 (try dsimp only at hI)
 obtain ⟨⟨hk, hn1, hn2⟩, rfl⟩ := hI
 dsimp only
 have hal := hAl k hk
 refine Sq fun K6 hK6 => ?_
 refine Rr (Av1 (r := .int .i64 ((t.names.map (fun s => [AV.str s])).length : Nat)) (v := .int .i64 t.names.length) 4 24 [(23, pth t.names), (22, .ptr 0 3), (21, .int .i64 k)] (by rw [List.length_map]) (((1 : Nat) ≠ 0) /\ (3 + 1 <= 5 /\ 3 < 5) /\ ·) ⟨(by decide), (by decide), Cn1 (decide ((k : Int) < (t.names.length : Int))) [1, 3, 4, 6, 8, 9, 10, 11] [] (Ki /\ ·) ⟨rfl, fun hc8 c8 => ?_, fun hc8 c8 => ?_⟩⟩)
 try simp only [KF] at c8
 refine Sk (Jn (hK6 (Kp [1, 3, 4, 6, 8, 9, 10, 11] (Sq fun K9 hK9 => ?_))))
 refine Bl (Rr (Av1 4 31 [(30, .int .i64 k), (29, pth t.names), (28, .ptr 0 3)] (congrArg AV.pat (mg_str t.names k (by omega))) (((1 : Nat) ≠ 0) /\ (3 + 1 <= 5 /\ 3 < 5) /\ (1 = 1 /\ (0 : Int) <= (k : Int) /\ (k : Int) < ((t.names.map (fun s => [AV.str s])).length : Int)) /\ ·) ⟨(by decide), (by decide), ⟨rfl, by omega, by rw [List.length_map]; omega⟩, Fn1 [1, 3, 4, 6, 8, 9, 10, 11] [(12, .str (t.names.getD k default))] ((1 <= 1 /\ 0 < 1) /\ ·) ⟨(by decide), Sq fun K11 hK11 => ?_⟩⟩))
 refine Rm 50 ((decide ((p.length : Int) = 1)) && ((!((A k).2.2)) && ((!gn) && (!blt (t.names.getD k default) (p.getD 0 default))))) [1, 3, 4, 6, 8, 9, 10, 11, 12] ?_ ?_
 refine Av0 (r := .int .i64 ((p.map (fun s => [AV.str s])).length : Nat)) (v := .int .i64 p.length) 2 34 [(33, pth p)] (by rw [List.length_map]) (An1 2 [(36, .bool (decide ((p.length : Int) = 1))), (35, .bool (decide ((p.length : Int) = 1)))] (Ki /\ ·) ⟨rfl, run_b (fun g13 => ?_) (fun g13 => ?_)⟩)
 have hg13 := g13
 try simp only [KF] at g13
 refine An0 4 [(40, .bool (!((A k).2.2))), (39, .bool (!((A k).2.2))), (38, .bool (!((A k).2.2))), (37, .bool ((A k).2.2))] (run_b (fun g14 => ?_) (fun g14 => ?_))
 have hg14 := g14
 try simp only [KF] at g14
 refine An0 4 [(44, .bool (!gn)), (43, .bool (!gn)), (42, .bool (!gn)), (41, .bool gn)] (run_b (fun g15 => ?_) (fun g15 => ?_))
 have hg15 := g15
 try simp only [KF] at g15
 refine Av1 3 47 [(46, pth p), (45, .str (t.names.getD k default))] (congrArg AV.pat (mg_str p 0 (by omega))) ((1 = 1 /\ (0 : Int) <= 0 /\ 0 < ((p.map (fun s => [AV.str s])).length : Int)) /\ ·) ⟨⟨rfl, by omega, by rw [List.length_map]; omega⟩, Mn1 (!blt (t.names.getD k default) (p.getD 0 default)) ((1 <= 1 /\ 0 < 1) /\ ·) ⟨(by decide), (by rw [hg13, hg14, hg15]; rfl)⟩⟩
 have hg15 := g15
 try simp only [KF] at g15
 refine Mn0 false (by rw [hg13, hg14, hg15]; rfl)
 have hg14 := g14
 try simp only [KF] at g14
 refine Mn0 false (by rw [hg13, hg14]; rfl)
 have hg13 := g13
 try simp only [KF] at g13
 refine Mn0 false (by rw [hg13]; rfl)
 refine Cc ((decide ((p.length : Int) = 1)) && ((!((A k).2.2)) && ((!gn) && (!blt (t.names.getD k default) (p.getD 0 default))))) (fun hc16 c16 => ?_) fun hc16 c16 => ?_
 try simp only [KF] at c16
 refine Qr [0, 1, 0, 4, 12, 28, 63, 127, 255] [(0, []), (1, []), (2, []), (3, []), (4, []), (5, [1]), (6, []), (7, []), (8, [])] (qAv1 4 54 [(53, pth p), (52, .nils), (51, .ptr 12 3)] (congrArg AV.pat (mg_str p 0 (by omega))) (((1 : Nat) ≠ 0) /\ (3 + 1 <= 5 /\ 3 < 5) /\ (1 = 1 /\ (0 : Int) <= 0 /\ 0 < ((p.map (fun s => [AV.str s])).length : Int)) /\ ·) ⟨(by decide), (by decide), ⟨rfl, by omega, by rw [List.length_map]; omega⟩, qAn3 3 [(57, .osl 20 1 0 1), (56, .osl 16 1 0 1), (55, .str (p.getD 0 default))] [(20, [.str (p.getD 0 default)]), (16, [.str (p.getD 0 default)]), (12, [.bool t.dir, .int .i64 t.mode, .str t.data, .nils, .nils]), (8, zt), (4, tcs x), (0, tcs t)] 24 ((1 <= 1 /\ 0 < 1) /\ (1 * 1 <= 16777216) /\ (((3 + 1 <= 5 /\ 3 < 5) /\ (AV.nils = (.nils : AV))) /\ True) /\ (0 + 1 * 1 <= 1) /\ (0 < 1 /\ 0 < 16 /\ 1 * 16 <= 140737488355328) /\ (True) /\ ·) ⟨(by decide), (by decide), ⟨⟨(by decide), rfl⟩, trivial⟩, (by decide), (by decide), trivial, runq_v (v' := .osl 20 1 0 ([p.getD 0 default].length)) rfl (runq_h (cs' := fl sc [p.getD 0 default]) (s1_str (p.getD 0 default)) ?_)⟩⟩)
 refine qFn3 [1, 3, 4, 6, 8, 9, 11, 12] [] [(20, fl sc [p.getD 0 default]), (16, [.str (p.getD 0 default)]), (12, [.bool t.dir, .int .i64 t.mode, .str t.data, .osl 20 1 0 ([p.getD 0 default].length), .nils]), (8, zt), (4, tcs x), (0, tcs t)] 24 (((1 : Nat) ≠ 0) /\ (true = true /\ 1 = 1 /\ 3 + 1 <= 5) /\ (True) /\ ·) ⟨(by decide), (by decide), trivial, Rr (An3 5 [(63, .osl 28 5 0 1), (62, .osl 24 5 0 1), (61, .agg (tcs x)), (60, .nils), (59, .ptr 12 4)] [(28, tcs x), (24, tcs x), (20, fl sc [p.getD 0 default]), (16, [.str (p.getD 0 default)]), (12, [.bool t.dir, .int .i64 t.mode, .str t.data, .osl 20 1 0 ([p.getD 0 default].length), .nils]), (8, zt), (4, tcs x), (0, tcs t)] 32 (((1 : Nat) ≠ 0) /\ (4 + 1 <= 5 /\ 4 < 5) /\ (0 + 5 <= 5 /\ 0 < 5) /\ (1 * 5 <= 16777216) /\ (0 + 1 * 5 <= 5) /\ (0 < 1 /\ 0 < 80 /\ 1 * 80 <= 140737488355328) /\ ·) ⟨(by decide), (by decide), (by decide), (by decide), (by decide), (by decide), run_v (v' := .osl 28 5 0 ([x].length)) rfl (run_h (cs' := fl trc [x]) (s1_trc x) ?_)⟩)⟩
 refine Fn3 [1, 3, 4, 6, 8, 9, 11, 12] [] [(28, fl trc [x]), (24, tcs x), (20, fl sc [p.getD 0 default]), (16, [.str (p.getD 0 default)]), (12, [.bool t.dir, .int .i64 t.mode, .str t.data, .osl 20 1 0 ([p.getD 0 default].length), .osl 28 5 0 ([x].length)]), (8, zt), (4, tcs x), (0, tcs t)] 32 (((1 : Nat) ≠ 0) /\ (true = true /\ 1 = 1 /\ 4 + 1 <= 5) /\ ·) ⟨(by decide), (by decide), Rb (fun h => Jn (hK11 h)) (Fn0 [1, 3, 4, 6, 8, 9, 11, 12] [(10, .bool true)] (Sq fun K19 hK19 => ?_))⟩
 refine Rm 74 (((t.names.getD k default) == (p.getD 0 default)) && (decide ((p.length : Int) = 1))) [1, 3, 4, 6, 8, 9, 10, 11, 12] ?_ ?_
 refine Av1 3 67 [(66, pth p), (65, .str (t.names.getD k default))] (congrArg AV.pat (mg_str p 0 (by omega))) ((1 = 1 /\ (0 : Int) <= 0 /\ 0 < ((p.map (fun s => [AV.str s])).length : Int)) /\ ·) ⟨⟨rfl, by omega, by rw [List.length_map]; omega⟩, An1 3 [(70, .bool ((t.names.getD k default) == (p.getD 0 default))), (69, .bool ((t.names.getD k default) == (p.getD 0 default))), (68, .str (p.getD 0 default))] ((1 <= 1 /\ 0 < 1) /\ ·) ⟨(by decide), run_b (fun g21 => ?_) (fun g21 => ?_)⟩⟩
 have hg21 := g21
 try simp only [KF] at g21
 refine Av0 (r := .int .i64 ((p.map (fun s => [AV.str s])).length : Nat)) (v := .int .i64 p.length) 2 72 [(71, pth p)] (by rw [List.length_map]) (Mn1 (decide ((p.length : Int) = 1)) (Ki /\ ·) ⟨rfl, (by rw [hg21]; rfl)⟩)
 have hg21 := g21
 try simp only [KF] at g21
 refine Mn0 false (by rw [hg21]; rfl)
 refine Cc (((t.names.getD k default) == (p.getD 0 default)) && (decide ((p.length : Int) = 1))) (fun hc22 c22 => ?_) fun hc22 c22 => ?_
 try simp only [KF] at c22
 refine Xt (Jx (Bh (Jn (hK9 (Kp [1, 3, 4, 6, 8, 9, 10, 11] (Rn (Av1 2 27 [(26, .int .i64 k)] (congrArg (AV.int .i64) (wn1 k (by omega))) (Ki /\ ·) ⟨rfl, Gn0 [(11, .int .i64 ((k + 1 : Nat) : Int))] (nk_n ?_)⟩)))))))
 have e := hAs k (by omega); simp only [sstp, hc8, hc16, hc22, Bool.true_and, Bool.false_and, cond_true, cond_false, hn1, hn2, List.nil_append] at e
 refine Lr (k + 1, some ()) [(0, 0), (4, 4), (8, 8), (12, 12), (20, 16), (28, 20)] 24 [(1, pth p), (3, .bool gn), (4, .ptr 0 0), (6, .ptr 4 0), (8, .ptr 8 0), (9, .ptr 12 0), (10, .bool true), (11, .int .i64 ((k + 1 : Nat) : Int))] [(28, fl trc [x]), (20, fl sc [p.getD 0 default]), (12, [.bool t.dir, .int .i64 t.mode, .str t.data, .osl 20 1 0 ([p.getD 0 default].length), .osl 28 5 0 ([x].length)]), (8, zt), (4, tcs x), (0, tcs t)] [false, false, true, true, true, true] ?_ ?_ (by (try ((try dsimp only); rw [e])); try kernel_rfl) (by (try ((try dsimp only); rw [e])); try kernel_rfl)
 (try dsimp only); omega
 refine ⟨?_, rfl⟩; (try dsimp only); first | omega | exact ⟨by omega, by rw [e]⟩
 try simp only [KF] at c22
 refine Sk (Jn (hK19 (Kp [1, 3, 4, 6, 8, 9, 10, 11, 12] (Rr (Av1 4 78 [(77, .int .i64 k), (76, .sl 5 (t.kids.map trc)), (75, .ptr 0 4)] (congrArg AV.pat (mg_trc t.kids k (by omega))) (((1 : Nat) ≠ 0) /\ (4 + 1 <= 5 /\ 4 < 5) /\ (5 = 5 /\ (0 : Int) <= (k : Int) /\ (k : Int) < ((t.kids.map trc).length : Int)) /\ ·) ⟨(by decide), (by decide), ⟨rfl, by omega, by rw [List.length_map]; omega⟩, Fn3 [1, 3, 4, 6, 8, 9, 10, 11, 12] [(13, .ptr 32 0)] [(32, tcs (t.kids.getD k default)), (28, fl trc [x]), (24, tcs x), (20, fl sc [p.getD 0 default]), (16, [.str (p.getD 0 default)]), (12, [.bool t.dir, .int .i64 t.mode, .str t.data, .osl 20 1 0 ([p.getD 0 default].length), .osl 28 5 0 ([x].length)]), (8, zt), (4, tcs x), (0, tcs t)] 36 ((5 <= 5 /\ 0 < 5) /\ (true = true /\ 5 = 5 /\ 0 + 5 <= 5) /\ ·) ⟨(by decide), (by decide), Sj (fun (z : Tr) => match z with | kk => ([(1, pth p), (3, .bool gn), (4, .ptr 0 0), (6, .ptr 4 0), (8, .ptr 8 0), (9, .ptr 12 0), (10, .bool true), (11, .int .i64 k), (12, .str (t.names.getD k default)), (13, .ptr 32 0)] : Fr)) (fun (z : Tr) => match z with | kk => ([(32, tcs kk), (28, fl trc [x]), (24, tcs x), (20, fl sc [p.getD 0 default]), (16, [.str (p.getD 0 default)]), (12, [.bool t.dir, .int .i64 t.mode, .str t.data, .osl 20 1 0 ([p.getD 0 default].length), .osl 28 5 0 ([x].length)]), (8, zt), (4, tcs x), (0, tcs t)] : Hp)) (fun (z : Tr) => match z with | kk => A (k + 1) = ([p.getD 0 default] ++ [t.names.getD k default], [x] ++ [kk], true)) 36 ?_ fun J24 K25 hK25 => ?_⟩⟩)))))
 rintro kk hi
 dsimp only at hi ⊢
 have hj := hi
 refine Rr (An3 5 [(95, .osl 40 1 0 ([p.getD 0 default].length + 1)), (94, .osl 36 1 0 1), (93, .str (t.names.getD k default)), (92, .osl 20 1 0 ([p.getD 0 default].length)), (91, .ptr 12 3)] [(40, apd (fl sc [p.getD 0 default]) ([p.getD 0 default].length * 1) [.str (t.names.getD k default)]), (36, [.str (t.names.getD k default)]), (32, tcs kk), (28, fl trc [x]), (24, tcs x), (16, [.str (p.getD 0 default)]), (12, [.bool t.dir, .int .i64 t.mode, .str t.data, .osl 20 1 0 ([p.getD 0 default].length), .osl 28 5 0 ([x].length)]), (8, zt), (4, tcs x), (0, tcs t)] 44 (((1 : Nat) ≠ 0) /\ (3 + 1 <= 5 /\ 3 < 5) /\ (1 * 1 <= 16777216) /\ (0 + 1 * 1 <= 1) /\ (1 = 1 /\ [p.getD 0 default].length * 1 <= (fl sc [p.getD 0 default]).length /\ 0 < 16 /\ ([p.getD 0 default].length + 1) * 16 <= 140737488355328) /\ ·) ⟨(by decide), (by decide), (by decide), (by decide), ⟨rfl, by (first | omega | (simp only [LL]; omega)), by decide, by (first | omega | (simp only [LL]; omega))⟩, run_v (v' := .osl 40 1 0 (([p.getD 0 default] ++ [t.names.getD k default]).length)) (push_len _ _ _ _) (run_h (cs' := fl sc ([p.getD 0 default] ++ [t.names.getD k default])) (push_str [p.getD 0 default] (t.names.getD k default)) (Fn3 [1, 3, 4, 6, 8, 9, 10, 11, 13] [] [(40, fl sc ([p.getD 0 default] ++ [t.names.getD k default])), (36, [.str (t.names.getD k default)]), (32, tcs kk), (28, fl trc [x]), (24, tcs x), (16, [.str (p.getD 0 default)]), (12, [.bool t.dir, .int .i64 t.mode, .str t.data, .osl 40 1 0 (([p.getD 0 default] ++ [t.names.getD k default]).length), .osl 28 5 0 ([x].length)]), (8, zt), (4, tcs x), (0, tcs t)] 44 (((1 : Nat) ≠ 0) /\ (true = true /\ 1 = 1 /\ 3 + 1 <= 5) /\ ·) ⟨(by decide), (by decide), ?_⟩))⟩)
 refine Rb (fun h => Bn (Jn (hK9 h))) (An3 5 [(101, .osl 48 5 0 ([x].length + 1)), (100, .osl 44 5 0 1), (99, .agg (tcs kk)), (98, .osl 28 5 0 ([x].length)), (97, .ptr 12 4)] [(48, apd (fl trc [x]) ([x].length * 5) (tcs kk)), (44, tcs kk), (40, fl sc ([p.getD 0 default] ++ [t.names.getD k default])), (36, [.str (t.names.getD k default)]), (32, tcs kk), (24, tcs x), (16, [.str (p.getD 0 default)]), (12, [.bool t.dir, .int .i64 t.mode, .str t.data, .osl 40 1 0 (([p.getD 0 default] ++ [t.names.getD k default]).length), .osl 28 5 0 ([x].length)]), (8, zt), (4, tcs x), (0, tcs t)] 52 (((1 : Nat) ≠ 0) /\ (4 + 1 <= 5 /\ 4 < 5) /\ (0 + 5 <= 5 /\ 0 < 5) /\ (1 * 5 <= 16777216) /\ (0 + 1 * 5 <= 5) /\ (5 = 5 /\ [x].length * 5 <= (fl trc [x]).length /\ 0 < 80 /\ ([x].length + 1) * 80 <= 140737488355328) /\ ·) ⟨(by decide), (by decide), (by decide), (by decide), (by decide), ⟨rfl, by (first | omega | (simp only [LL]; omega)), by decide, by (first | omega | (simp only [LL]; omega))⟩, run_v (v' := .osl 48 5 0 (([x] ++ [kk]).length)) (push_len _ _ _ _) (run_h (cs' := fl trc ([x] ++ [kk])) (push_trc [x] kk) (Fn3 [1, 3, 4, 6, 8, 9, 10, 11] [] [(48, fl trc ([x] ++ [kk])), (44, tcs kk), (40, fl sc ([p.getD 0 default] ++ [t.names.getD k default])), (36, [.str (t.names.getD k default)]), (32, tcs kk), (24, tcs x), (16, [.str (p.getD 0 default)]), (12, [.bool t.dir, .int .i64 t.mode, .str t.data, .osl 40 1 0 (([p.getD 0 default] ++ [t.names.getD k default]).length), .osl 48 5 0 (([x] ++ [kk]).length)]), (8, zt), (4, tcs x), (0, tcs t)] 52 (((1 : Nat) ≠ 0) /\ (true = true /\ 1 = 1 /\ 4 + 1 <= 5) /\ ·) ⟨(by decide), (by decide), ?_⟩))⟩)
 refine Rn (Av1 2 27 [(26, .int .i64 k)] (congrArg (AV.int .i64) (wn1 k (by omega))) (Ki /\ ·) ⟨rfl, Gn0 [(11, .int .i64 ((k + 1 : Nat) : Int))] (nk_n ?_)⟩)
 have e := hj
 refine Lr (k + 1, some ()) [(0, 0), (4, 4), (8, 8), (12, 12), (40, 16), (48, 20)] 24 [(1, pth p), (3, .bool gn), (4, .ptr 0 0), (6, .ptr 4 0), (8, .ptr 8 0), (9, .ptr 12 0), (10, .bool true), (11, .int .i64 ((k + 1 : Nat) : Int))] [(48, fl trc ([x] ++ [kk])), (40, fl sc ([p.getD 0 default] ++ [t.names.getD k default])), (12, [.bool t.dir, .int .i64 t.mode, .str t.data, .osl 40 1 0 (([p.getD 0 default] ++ [t.names.getD k default]).length), .osl 48 5 0 (([x] ++ [kk]).length)]), (8, zt), (4, tcs x), (0, tcs t)] [false, false, true, true, true, true] ?_ ?_ (by (try ((try dsimp only); rw [e])); try kernel_rfl) (by (try ((try dsimp only); rw [e])); try kernel_rfl)
 (try dsimp only); omega
 refine ⟨?_, rfl⟩; (try dsimp only); first | omega | exact ⟨by omega, by rw [e]⟩
 refine Rr (Av1 3 82 [(81, pth p), (80, .str (t.names.getD k default))] (congrArg AV.pat (mg_str p 0 (by omega))) ((1 = 1 /\ (0 : Int) <= 0 /\ 0 < ((p.map (fun s => [AV.str s])).length : Int)) /\ ·) ⟨⟨rfl, by omega, by rw [List.length_map]; omega⟩, Cn1 ((t.names.getD k default) == (p.getD 0 default)) [1, 3, 4, 6, 8, 9, 10, 11, 12, 13] [] ((1 <= 1 /\ 0 < 1) /\ ·) ⟨(by decide), fun hc28 c28 => ?_, fun hc28 c28 => ?_⟩⟩)
 try simp only [KF] at c28
 exfalso; rw [hc28, Bool.true_and] at hc22; simp only [decide_eq_false_iff_not] at hc22; omega
 try simp only [KF] at c28
 refine Sk (Jn (hK25 (Kp [1, 3, 4, 6, 8, 9, 10, 11, 12, 13] (Tr2 J24 (t.kids.getD k default) [(0, 0), (4, 4), (8, 8), (12, 12), (16, 16), (20, 20), (24, 24), (28, 28), (32, 32)] [(1, pth p), (3, .bool gn), (4, .ptr 0 0), (6, .ptr 4 0), (8, .ptr 8 0), (9, .ptr 12 0), (10, .bool true), (11, .int .i64 k), (12, .str (t.names.getD k default)), (13, .ptr 32 0)] [(32, tcs (t.kids.getD k default)), (28, fl trc [x]), (24, tcs x), (20, fl sc [p.getD 0 default]), (16, [.str (p.getD 0 default)]), (12, [.bool t.dir, .int .i64 t.mode, .str t.data, .osl 20 1 0 ([p.getD 0 default].length), .osl 28 5 0 ([x].length)]), (8, zt), (4, tcs x), (0, tcs t)] [true, false, true, false, true, true, true, true, true] ?_ (by kernel_rfl) (by kernel_rfl)))))
 (try dsimp only)
 have e := hAs k (by omega); simp only [sstp, hc8, hc16, hc22, hc28, Bool.true_and, Bool.false_and, cond_true, cond_false, hn1, hn2, List.nil_append] at e
 exact e
 try simp only [KF] at c16
 refine Sk (Jn (hK11 (Kp [1, 3, 4, 6, 8, 9, 10, 11, 12] (Sq fun K29 hK29 => ?_))))
 refine Rm 74 (((t.names.getD k default) == (p.getD 0 default)) && (decide ((p.length : Int) = 1))) [1, 3, 4, 6, 8, 9, 10, 11, 12] ?_ ?_
 refine Av1 3 67 [(66, pth p), (65, .str (t.names.getD k default))] (congrArg AV.pat (mg_str p 0 (by omega))) ((1 = 1 /\ (0 : Int) <= 0 /\ 0 < ((p.map (fun s => [AV.str s])).length : Int)) /\ ·) ⟨⟨rfl, by omega, by rw [List.length_map]; omega⟩, An1 3 [(70, .bool ((t.names.getD k default) == (p.getD 0 default))), (69, .bool ((t.names.getD k default) == (p.getD 0 default))), (68, .str (p.getD 0 default))] ((1 <= 1 /\ 0 < 1) /\ ·) ⟨(by decide), run_b (fun g31 => ?_) (fun g31 => ?_)⟩⟩
 have hg31 := g31
 try simp only [KF] at g31
 refine Av0 (r := .int .i64 ((p.map (fun s => [AV.str s])).length : Nat)) (v := .int .i64 p.length) 2 72 [(71, pth p)] (by rw [List.length_map]) (Mn1 (decide ((p.length : Int) = 1)) (Ki /\ ·) ⟨rfl, (by rw [hg31]; rfl)⟩)
 have hg31 := g31
 try simp only [KF] at g31
 refine Mn0 false (by rw [hg31]; rfl)
 refine Cc (((t.names.getD k default) == (p.getD 0 default)) && (decide ((p.length : Int) = 1))) (fun hc32 c32 => ?_) fun hc32 c32 => ?_
 try simp only [KF] at c32
 refine Xt (Jx (Bh (Jn (hK9 (Kp [1, 3, 4, 6, 8, 9, 10, 11] (Rn (Av1 2 27 [(26, .int .i64 k)] (congrArg (AV.int .i64) (wn1 k (by omega))) (Ki /\ ·) ⟨rfl, Gn0 [(11, .int .i64 ((k + 1 : Nat) : Int))] (nk_n ?_)⟩)))))))
 have e := hAs k (by omega); simp only [sstp, hc8, hc16, hc32, Bool.true_and, Bool.false_and, cond_true, cond_false, hn1, hn2, List.nil_append] at e
 refine Lr (k + 1, none) [(0, 0), (4, 4), (8, 8), (12, 12)] 16 [(1, pth p), (3, .bool gn), (4, .ptr 0 0), (6, .ptr 4 0), (8, .ptr 8 0), (9, .ptr 12 0), (10, .bool ((A k).2.2)), (11, .int .i64 ((k + 1 : Nat) : Int))] [(12, [.bool t.dir, .int .i64 t.mode, .str t.data, .nils, .nils]), (8, zt), (4, tcs x), (0, tcs t)] [true, true, true, true] ?_ ?_ (by (try ((try dsimp only); rw [e])); try kernel_rfl) (by (try ((try dsimp only); rw [e])); try kernel_rfl)
 (try dsimp only); omega
 refine ⟨?_, rfl⟩; (try dsimp only); exact ⟨by omega, by rw [e]; exact hn1, by rw [e]; exact hn2⟩
 try simp only [KF] at c32
 refine Sk (Jn (hK29 (Kp [1, 3, 4, 6, 8, 9, 10, 11, 12] (Rr (Av1 4 78 [(77, .int .i64 k), (76, .sl 5 (t.kids.map trc)), (75, .ptr 0 4)] (congrArg AV.pat (mg_trc t.kids k (by omega))) (((1 : Nat) ≠ 0) /\ (4 + 1 <= 5 /\ 4 < 5) /\ (5 = 5 /\ (0 : Int) <= (k : Int) /\ (k : Int) < ((t.kids.map trc).length : Int)) /\ ·) ⟨(by decide), (by decide), ⟨rfl, by omega, by rw [List.length_map]; omega⟩, Fn3 [1, 3, 4, 6, 8, 9, 10, 11, 12] [(13, .ptr 16 0)] [(16, tcs (t.kids.getD k default)), (12, [.bool t.dir, .int .i64 t.mode, .str t.data, .nils, .nils]), (8, zt), (4, tcs x), (0, tcs t)] 20 ((5 <= 5 /\ 0 < 5) /\ (true = true /\ 5 = 5 /\ 0 + 5 <= 5) /\ ·) ⟨(by decide), (by decide), Sj (fun (z : Tr) => match z with | kk => ([(1, pth p), (3, .bool gn), (4, .ptr 0 0), (6, .ptr 4 0), (8, .ptr 8 0), (9, .ptr 12 0), (10, .bool ((A k).2.2)), (11, .int .i64 k), (12, .str (t.names.getD k default)), (13, .ptr 16 0)] : Fr)) (fun (z : Tr) => match z with | kk => ([(16, tcs kk), (12, [.bool t.dir, .int .i64 t.mode, .str t.data, .nils, .nils]), (8, zt), (4, tcs x), (0, tcs t)] : Hp)) (fun (z : Tr) => match z with | kk => A (k + 1) = ([t.names.getD k default], [kk], (A k).2.2)) 20 ?_ fun J34 K35 hK35 => ?_⟩⟩)))))
 rintro kk hi
 dsimp only at hi ⊢
 have hj := hi
 refine Rr (An3 5 [(95, .osl 24 1 0 1), (94, .osl 20 1 0 1), (93, .str (t.names.getD k default)), (92, .nils), (91, .ptr 12 3)] [(24, [.str (t.names.getD k default)]), (20, [.str (t.names.getD k default)]), (16, tcs kk), (12, [.bool t.dir, .int .i64 t.mode, .str t.data, .nils, .nils]), (8, zt), (4, tcs x), (0, tcs t)] 28 (((1 : Nat) ≠ 0) /\ (3 + 1 <= 5 /\ 3 < 5) /\ (1 * 1 <= 16777216) /\ (0 + 1 * 1 <= 1) /\ (0 < 1 /\ 0 < 16 /\ 1 * 16 <= 140737488355328) /\ ·) ⟨(by decide), (by decide), (by decide), (by decide), (by decide), run_v (v' := .osl 24 1 0 ([t.names.getD k default].length)) rfl (run_h (cs' := fl sc [t.names.getD k default]) (s1_str (t.names.getD k default)) (Fn3 [1, 3, 4, 6, 8, 9, 10, 11, 13] [] [(24, fl sc [t.names.getD k default]), (20, [.str (t.names.getD k default)]), (16, tcs kk), (12, [.bool t.dir, .int .i64 t.mode, .str t.data, .osl 24 1 0 ([t.names.getD k default].length), .nils]), (8, zt), (4, tcs x), (0, tcs t)] 28 (((1 : Nat) ≠ 0) /\ (true = true /\ 1 = 1 /\ 3 + 1 <= 5) /\ ·) ⟨(by decide), (by decide), ?_⟩))⟩)
 refine Rb (fun h => Bn (Jn (hK9 h))) (An3 5 [(101, .osl 32 5 0 1), (100, .osl 28 5 0 1), (99, .agg (tcs kk)), (98, .nils), (97, .ptr 12 4)] [(32, tcs kk), (28, tcs kk), (24, fl sc [t.names.getD k default]), (20, [.str (t.names.getD k default)]), (16, tcs kk), (12, [.bool t.dir, .int .i64 t.mode, .str t.data, .osl 24 1 0 ([t.names.getD k default].length), .nils]), (8, zt), (4, tcs x), (0, tcs t)] 36 (((1 : Nat) ≠ 0) /\ (4 + 1 <= 5 /\ 4 < 5) /\ (0 + 5 <= 5 /\ 0 < 5) /\ (1 * 5 <= 16777216) /\ (0 + 1 * 5 <= 5) /\ (0 < 1 /\ 0 < 80 /\ 1 * 80 <= 140737488355328) /\ ·) ⟨(by decide), (by decide), (by decide), (by decide), (by decide), (by decide), run_v (v' := .osl 32 5 0 ([kk].length)) rfl (run_h (cs' := fl trc [kk]) (s1_trc kk) (Fn3 [1, 3, 4, 6, 8, 9, 10, 11] [] [(32, fl trc [kk]), (28, tcs kk), (24, fl sc [t.names.getD k default]), (20, [.str (t.names.getD k default)]), (16, tcs kk), (12, [.bool t.dir, .int .i64 t.mode, .str t.data, .osl 24 1 0 ([t.names.getD k default].length), .osl 32 5 0 ([kk].length)]), (8, zt), (4, tcs x), (0, tcs t)] 36 (((1 : Nat) ≠ 0) /\ (true = true /\ 1 = 1 /\ 4 + 1 <= 5) /\ ·) ⟨(by decide), (by decide), ?_⟩))⟩)
 refine Rn (Av1 2 27 [(26, .int .i64 k)] (congrArg (AV.int .i64) (wn1 k (by omega))) (Ki /\ ·) ⟨rfl, Gn0 [(11, .int .i64 ((k + 1 : Nat) : Int))] (nk_n ?_)⟩)
 have e := hj
 refine Lr (k + 1, some ()) [(0, 0), (4, 4), (8, 8), (12, 12), (24, 16), (32, 20)] 24 [(1, pth p), (3, .bool gn), (4, .ptr 0 0), (6, .ptr 4 0), (8, .ptr 8 0), (9, .ptr 12 0), (10, .bool ((A k).2.2)), (11, .int .i64 ((k + 1 : Nat) : Int))] [(32, fl trc [kk]), (24, fl sc [t.names.getD k default]), (12, [.bool t.dir, .int .i64 t.mode, .str t.data, .osl 24 1 0 ([t.names.getD k default].length), .osl 32 5 0 ([kk].length)]), (8, zt), (4, tcs x), (0, tcs t)] [false, false, true, true, true, true] ?_ ?_ (by (try ((try dsimp only); rw [e])); try kernel_rfl) (by (try ((try dsimp only); rw [e])); try kernel_rfl)
 (try dsimp only); omega
 refine ⟨?_, rfl⟩; (try dsimp only); first | omega | exact ⟨by omega, by rw [e]⟩
 refine Rr (Av1 3 82 [(81, pth p), (80, .str (t.names.getD k default))] (congrArg AV.pat (mg_str p 0 (by omega))) ((1 = 1 /\ (0 : Int) <= 0 /\ 0 < ((p.map (fun s => [AV.str s])).length : Int)) /\ ·) ⟨⟨rfl, by omega, by rw [List.length_map]; omega⟩, Cn1 ((t.names.getD k default) == (p.getD 0 default)) [1, 3, 4, 6, 8, 9, 10, 11, 12, 13] [] ((1 <= 1 /\ 0 < 1) /\ ·) ⟨(by decide), fun hc38 c38 => ?_, fun hc38 c38 => ?_⟩⟩)
 try simp only [KF] at c38
 refine Qb [0, 0, 2, 0, 0, 31, 63] [(0, []), (1, []), (2, []), (3, []), (4, []), (5, []), (6, [])] (fun h => Jn (hK35 h)) (qAv1 (r := .sl 1 (((p.map (fun s => [AV.str s])).take ((p.map (fun s => [AV.str s])).length)).drop 1)) (v := pth (p.drop 1)) 3 87 [(86, pth p), (85, .agg (tcs (t.kids.getD k default)))] (congrArg (AV.sl 1) (slm_all _ _ _)) ((0 + 5 <= 5 /\ 0 < 5) /\ (1 = 1 /\ 0 <= (1 : Int) /\ (1 : Int) <= ((p.map (fun s => [AV.str s])).length : Int) /\ ((p.map (fun s => [AV.str s])).length : Int) <= ((p.map (fun s => [AV.str s])).length : Int)) /\ ·) ⟨(by decide), ⟨rfl, by omega, by rw [List.length_map]; omega, by omega⟩, qBc1 3 [(89, .bool gn), (88, .agg (tcs x))] [] 53 [.agg (tcs (t.kids.getD k default)), pth (p.drop 1), .agg (tcs x), .bool gn] 90 ((0 + 5 <= 5 /\ 0 < 5) /\ ·) ⟨(by decide), ?_⟩⟩)
 have hW := Ws_get t.kids k (by omega)
 have hp2 : 1 < p.length := by
   rcases Nat.lt_or_ge 1 p.length with h | h
   · exact h
   · exfalso; have h1 : p.length = 1 := by omega
     rw [hc38, h1] at hc32; simp at hc32
 have hdd : decide ((p.length : Int) = (1 : Int)) = false := by rw [decide_eq_false_iff_not]; omega
 refine PE.use (ih _ (by simp only [List.length_drop]; omega) (p.drop 1) (t.kids.getD k default) x gn rfl (by omega) (wf_kid hwf (by omega) _) (by simp only [List.length_drop]; omega) (by simp only [List.length_drop]; omega)) ?_
 refine Kq (p := (True)) trivial ?_
 refine qFn3 [1, 3, 4, 6, 8, 9, 10, 11, 12, 13] [] [(16, tcs (tset (p.drop 1) (t.kids.getD k default) x gn)), (12, [.bool t.dir, .int .i64 t.mode, .str t.data, .nils, .nils]), (8, zt), (4, tcs x), (0, tcs t)] 20 ((true = true /\ 5 = 5 /\ 0 + 5 <= 5) /\ (True) /\ ·) ⟨(by decide), trivial, Tr2 J34 (tset (p.drop 1) (t.kids.getD k default) x gn) [(0, 0), (4, 4), (8, 8), (12, 12), (16, 16)] [(1, pth p), (3, .bool gn), (4, .ptr 0 0), (6, .ptr 4 0), (8, .ptr 8 0), (9, .ptr 12 0), (10, .bool ((A k).2.2)), (11, .int .i64 k), (12, .str (t.names.getD k default)), (13, .ptr 16 0)] [(16, tcs (tset (p.drop 1) (t.kids.getD k default) x gn)), (12, [.bool t.dir, .int .i64 t.mode, .str t.data, .nils, .nils]), (8, zt), (4, tcs x), (0, tcs t)] [true, true, true, true, true] ?_ (by kernel_rfl) (by kernel_rfl)⟩
 (try dsimp only)
 have e := hAs k (by omega); simp only [sstp, hc8, hc16, hc32, hc38, hdd, Bool.true_and, Bool.false_and, cond_true, cond_false, hn1, hn2, List.nil_append] at e
 exact e
 try simp only [KF] at c38
 refine Sk (Jn (hK35 (Kp [1, 3, 4, 6, 8, 9, 10, 11, 12, 13] (Tr2 J34 (t.kids.getD k default) [(0, 0), (4, 4), (8, 8), (12, 12), (16, 16)] [(1, pth p), (3, .bool gn), (4, .ptr 0 0), (6, .ptr 4 0), (8, .ptr 8 0), (9, .ptr 12 0), (10, .bool ((A k).2.2)), (11, .int .i64 k), (12, .str (t.names.getD k default)), (13, .ptr 16 0)] [(16, tcs (t.kids.getD k default)), (12, [.bool t.dir, .int .i64 t.mode, .str t.data, .nils, .nils]), (8, zt), (4, tcs x), (0, tcs t)] [true, true, true, true, true] ?_ (by kernel_rfl) (by kernel_rfl)))))
 (try dsimp only)
 have e := hAs k (by omega); simp only [sstp, hc8, hc16, hc32, hc38, Bool.true_and, Bool.false_and, cond_true, cond_false, hn1, hn2, List.nil_append] at e
 exact e
 try simp only [KF] at c8
 refine Xt (Jx (Lx (Bh (Jn (hK4 (Kp [1, 3, 6, 8, 9, 10] (Sq fun K39 hK39 => ?_)))))))
 refine Rm 113 ((decide ((p.length : Int) = 1)) && ((!((A k).2.2)) && (!gn))) [1, 6, 8, 9] ?_ ?_
 refine Av0 (r := .int .i64 ((p.map (fun s => [AV.str s])).length : Nat)) (v := .int .i64 p.length) 2 104 [(103, pth p)] (by rw [List.length_map]) (An1 2 [(106, .bool (decide ((p.length : Int) = 1))), (105, .bool (decide ((p.length : Int) = 1)))] (Ki /\ ·) ⟨rfl, run_b (fun g41 => ?_) (fun g41 => ?_)⟩)
 have hg41 := g41
 try simp only [KF] at g41
 refine An0 4 [(110, .bool (!((A k).2.2))), (109, .bool (!((A k).2.2))), (108, .bool (!((A k).2.2))), (107, .bool ((A k).2.2))] (run_b (fun g42 => ?_) (fun g42 => ?_))
 have hg42 := g42
 try simp only [KF] at g42
 refine Mn0 (!gn) (by rw [hg41, hg42]; rfl)
 have hg42 := g42
 try simp only [KF] at g42
 refine Mn0 false (by rw [hg41, hg42]; rfl)
 have hg41 := g41
 try simp only [KF] at g41
 refine Mn0 false (by rw [hg41]; rfl)
 refine Cc ((decide ((p.length : Int) = 1)) && ((!((A k).2.2)) && (!gn))) (fun hc43 c43 => ?_) fun hc43 c43 => ?_
 try simp only [KF] at c43
 refine Qr [0, 1, 0, 4, 12, 28, 63, 127, 255] [(0, []), (1, []), (2, []), (3, []), (4, []), (5, [1]), (6, []), (7, []), (8, [])] (qAv1 4 117 [(116, pth p), (115, .nils), (114, .ptr 12 3)] (congrArg AV.pat (mg_str p 0 (by omega))) (((1 : Nat) ≠ 0) /\ (3 + 1 <= 5 /\ 3 < 5) /\ (1 = 1 /\ (0 : Int) <= 0 /\ 0 < ((p.map (fun s => [AV.str s])).length : Int)) /\ ·) ⟨(by decide), (by decide), ⟨rfl, by omega, by rw [List.length_map]; omega⟩, qAn3 3 [(120, .osl 20 1 0 1), (119, .osl 16 1 0 1), (118, .str (p.getD 0 default))] [(20, [.str (p.getD 0 default)]), (16, [.str (p.getD 0 default)]), (12, [.bool t.dir, .int .i64 t.mode, .str t.data, .nils, .nils]), (8, zt), (4, tcs x), (0, tcs t)] 24 ((1 <= 1 /\ 0 < 1) /\ (1 * 1 <= 16777216) /\ (((3 + 1 <= 5 /\ 3 < 5) /\ (AV.nils = (.nils : AV))) /\ True) /\ (0 + 1 * 1 <= 1) /\ (0 < 1 /\ 0 < 16 /\ 1 * 16 <= 140737488355328) /\ (True) /\ ·) ⟨(by decide), (by decide), ⟨⟨(by decide), rfl⟩, trivial⟩, (by decide), (by decide), trivial, runq_v (v' := .osl 20 1 0 ([p.getD 0 default].length)) rfl (runq_h (cs' := fl sc [p.getD 0 default]) (s1_str (p.getD 0 default)) ?_)⟩⟩)
 refine qFn3 [6, 8, 9] [] [(20, fl sc [p.getD 0 default]), (16, [.str (p.getD 0 default)]), (12, [.bool t.dir, .int .i64 t.mode, .str t.data, .osl 20 1 0 ([p.getD 0 default].length), .nils]), (8, zt), (4, tcs x), (0, tcs t)] 24 (((1 : Nat) ≠ 0) /\ (true = true /\ 1 = 1 /\ 3 + 1 <= 5) /\ (True) /\ ·) ⟨(by decide), (by decide), trivial, Rb (fun h => Jn (hK39 h)) (An3 5 [(126, .osl 28 5 0 1), (125, .osl 24 5 0 1), (124, .agg (tcs x)), (123, .nils), (122, .ptr 12 4)] [(28, tcs x), (24, tcs x), (20, fl sc [p.getD 0 default]), (16, [.str (p.getD 0 default)]), (12, [.bool t.dir, .int .i64 t.mode, .str t.data, .osl 20 1 0 ([p.getD 0 default].length), .nils]), (8, zt), (4, tcs x), (0, tcs t)] 32 (((1 : Nat) ≠ 0) /\ (4 + 1 <= 5 /\ 4 < 5) /\ (0 + 5 <= 5 /\ 0 < 5) /\ (1 * 5 <= 16777216) /\ (0 + 1 * 5 <= 5) /\ (0 < 1 /\ 0 < 80 /\ 1 * 80 <= 140737488355328) /\ ·) ⟨(by decide), (by decide), (by decide), (by decide), (by decide), (by decide), run_v (v' := .osl 28 5 0 ([x].length)) rfl (run_h (cs' := fl trc [x]) (s1_trc x) ?_)⟩)⟩
 refine Fn3 [8, 9] [] [(28, fl trc [x]), (24, tcs x), (20, fl sc [p.getD 0 default]), (16, [.str (p.getD 0 default)]), (12, [.bool t.dir, .int .i64 t.mode, .str t.data, .osl 20 1 0 ([p.getD 0 default].length), .osl 28 5 0 ([x].length)]), (8, zt), (4, tcs x), (0, tcs t)] 32 (((1 : Nat) ≠ 0) /\ (true = true /\ 1 = 1 /\ 4 + 1 <= 5) /\ ·) ⟨(by decide), (by decide), Rr (Fn3 [8] [] [(28, fl trc [x]), (24, tcs x), (20, fl sc [p.getD 0 default]), (16, [.str (p.getD 0 default)]), (12, [.bool t.dir, .int .i64 t.mode, .str t.data, .osl 20 1 0 ([p.getD 0 default].length), .osl 28 5 0 ([x].length)]), (8, [.bool t.dir, .int .i64 t.mode, .str t.data, .osl 20 1 0 ([p.getD 0 default].length), .osl 28 5 0 ([x].length)]), (4, tcs x), (0, tcs t)] 32 ((0 + 5 <= 5 /\ 0 < 5) /\ (true = true /\ 5 = 5 /\ 0 + 5 <= 5) /\ ·) ⟨(by decide), (by decide), FzT 28 [x] [(8, .ptr 8 0)] [(20, fl sc [p.getD 0 default]), (8, [.bool t.dir, .int .i64 t.mode, .str t.data, .osl 20 1 0 ([p.getD 0 default].length), .osl 28 5 0 ([x].length)])] [false, true] (FzS 20 [p.getD 0 default] [(8, .ptr 8 0)] [(8, [.bool t.dir, .int .i64 t.mode, .str t.data, .osl 20 1 0 ([p.getD 0 default].length), .sl 5 ([x].map trc)])] [true] ?_)⟩)⟩
 refine Rt1 ((0 + 5 <= 5 /\ 0 < 5) /\ ·) (.agg [.bool t.dir, .int .i64 t.mode, .str t.data, pth [p.getD 0 default], .sl 5 ([x].map trc)]) ⟨(by decide), fin_lea ?_⟩
 obtain rfl : k = t.names.length := by omega
 simp only [sE, hc8, hc43, Bool.true_and, Bool.false_and, cond_true, cond_false] at hAe
 rw [hAe]
 first
   | exact lea_refl _
   | (simp only [tcs, Tr.dir_mk, Tr.mode_mk, Tr.data_mk, Tr.names_mk, Tr.kids_mk, hn1, hn2, List.nil_append]; first | exact lea_refl _ | (simp [lea, leas, pth]))
 try simp only [KF] at c43
 refine Sk (Jn (hK39 (Kp [8, 9] (Rr (Fn3 [8] [] [(12, [.bool t.dir, .int .i64 t.mode, .str t.data, .nils, .nils]), (8, [.bool t.dir, .int .i64 t.mode, .str t.data, .nils, .nils]), (4, tcs x), (0, tcs t)] 16 ((0 + 5 <= 5 /\ 0 < 5) /\ (true = true /\ 5 = 5 /\ 0 + 5 <= 5) /\ ·) ⟨(by decide), (by decide), Rt1 ((0 + 5 <= 5 /\ 0 < 5) /\ ·) (.agg [.bool t.dir, .int .i64 t.mode, .str t.data, .nils, .nils]) ⟨(by decide), fin_lea ?_⟩⟩)))))
 obtain rfl : k = t.names.length := by omega
 simp only [sE, hc8, hc43, Bool.true_and, Bool.false_and, cond_true, cond_false] at hAe
 rw [hAe]
 first
   | exact lea_refl _
   | (simp only [tcs, Tr.dir_mk, Tr.mode_mk, Tr.data_mk, Tr.names_mk, Tr.kids_mk, hn1, hn2, List.nil_append]; first | exact lea_refl _ | (simp [lea, leas, pth]))
 (try dsimp only at hI)
 obtain ⟨hk, rfl⟩ := hI
 dsimp only
 have hal := hAl k hk
 refine Sq fun K47 hK47 => ?_
 refine Rr (Av1 (r := .int .i64 ((t.names.map (fun s => [AV.str s])).length : Nat)) (v := .int .i64 t.names.length) 4 24 [(23, pth t.names), (22, .ptr 0 3), (21, .int .i64 k)] (by rw [List.length_map]) (((1 : Nat) ≠ 0) /\ (3 + 1 <= 5 /\ 3 < 5) /\ ·) ⟨(by decide), (by decide), Cn1 (decide ((k : Int) < (t.names.length : Int))) [1, 3, 4, 6, 8, 9, 10, 11] [] (Ki /\ ·) ⟨rfl, fun hc49 c49 => ?_, fun hc49 c49 => ?_⟩⟩)
 try simp only [KF] at c49
 refine Sk (Jn (hK47 (Kp [1, 3, 4, 6, 8, 9, 10, 11] (Sq fun K50 hK50 => ?_))))
 refine Bl (Rr (Av1 4 31 [(30, .int .i64 k), (29, pth t.names), (28, .ptr 0 3)] (congrArg AV.pat (mg_str t.names k (by omega))) (((1 : Nat) ≠ 0) /\ (3 + 1 <= 5 /\ 3 < 5) /\ (1 = 1 /\ (0 : Int) <= (k : Int) /\ (k : Int) < ((t.names.map (fun s => [AV.str s])).length : Int)) /\ ·) ⟨(by decide), (by decide), ⟨rfl, by omega, by rw [List.length_map]; omega⟩, Fn1 [1, 3, 4, 6, 8, 9, 10, 11] [(12, .str (t.names.getD k default))] ((1 <= 1 /\ 0 < 1) /\ ·) ⟨(by decide), Sq fun K52 hK52 => ?_⟩⟩))
 refine Rm 50 ((decide ((p.length : Int) = 1)) && ((!((A k).2.2)) && ((!gn) && (!blt (t.names.getD k default) (p.getD 0 default))))) [1, 3, 4, 6, 8, 9, 10, 11, 12] ?_ ?_
 refine Av0 (r := .int .i64 ((p.map (fun s => [AV.str s])).length : Nat)) (v := .int .i64 p.length) 2 34 [(33, pth p)] (by rw [List.length_map]) (An1 2 [(36, .bool (decide ((p.length : Int) = 1))), (35, .bool (decide ((p.length : Int) = 1)))] (Ki /\ ·) ⟨rfl, run_b (fun g54 => ?_) (fun g54 => ?_)⟩)
 have hg54 := g54
 try simp only [KF] at g54
 refine An0 4 [(40, .bool (!((A k).2.2))), (39, .bool (!((A k).2.2))), (38, .bool (!((A k).2.2))), (37, .bool ((A k).2.2))] (run_b (fun g55 => ?_) (fun g55 => ?_))
 have hg55 := g55
 try simp only [KF] at g55
 refine An0 4 [(44, .bool (!gn)), (43, .bool (!gn)), (42, .bool (!gn)), (41, .bool gn)] (run_b (fun g56 => ?_) (fun g56 => ?_))
 have hg56 := g56
 try simp only [KF] at g56
 refine Av1 3 47 [(46, pth p), (45, .str (t.names.getD k default))] (congrArg AV.pat (mg_str p 0 (by omega))) ((1 = 1 /\ (0 : Int) <= 0 /\ 0 < ((p.map (fun s => [AV.str s])).length : Int)) /\ ·) ⟨⟨rfl, by omega, by rw [List.length_map]; omega⟩, Mn1 (!blt (t.names.getD k default) (p.getD 0 default)) ((1 <= 1 /\ 0 < 1) /\ ·) ⟨(by decide), (by rw [hg54, hg55, hg56]; rfl)⟩⟩
 have hg56 := g56
 try simp only [KF] at g56
 refine Mn0 false (by rw [hg54, hg55, hg56]; rfl)
 have hg55 := g55
 try simp only [KF] at g55
 refine Mn0 false (by rw [hg54, hg55]; rfl)
 have hg54 := g54
 try simp only [KF] at g54
 refine Mn0 false (by rw [hg54]; rfl)
 refine Cc ((decide ((p.length : Int) = 1)) && ((!((A k).2.2)) && ((!gn) && (!blt (t.names.getD k default) (p.getD 0 default))))) (fun hc57 c57 => ?_) fun hc57 c57 => ?_
 try simp only [KF] at c57
 refine Qr [0, 1, 0, 4, 12, 28, 63, 127, 255] [(0, []), (1, []), (2, []), (3, []), (4, []), (5, [1]), (6, []), (7, []), (8, [])] (qAv1 4 54 [(53, pth p), (52, .osl 16 1 0 ((A k).1.length)), (51, .ptr 12 3)] (congrArg AV.pat (mg_str p 0 (by omega))) (((1 : Nat) ≠ 0) /\ (3 + 1 <= 5 /\ 3 < 5) /\ (1 = 1 /\ (0 : Int) <= 0 /\ 0 < ((p.map (fun s => [AV.str s])).length : Int)) /\ ·) ⟨(by decide), (by decide), ⟨rfl, by omega, by rw [List.length_map]; omega⟩, qAn3 3 [(57, .osl 28 1 0 ((A k).1.length + 1)), (56, .osl 24 1 0 1), (55, .str (p.getD 0 default))] [(28, apd (fl sc ((A k).1)) ((A k).1.length * 1) [.str (p.getD 0 default)]), (24, [.str (p.getD 0 default)]), (20, fl trc ((A k).2.1)), (12, [.bool t.dir, .int .i64 t.mode, .str t.data, .osl 16 1 0 ((A k).1.length), .osl 20 5 0 ((A k).2.1.length)]), (8, zt), (4, tcs x), (0, tcs t)] 32 (fun Z => (1 <= 1 /\ 0 < 1) /\ (1 * 1 <= 16777216) /\ (((3 + 1 <= 5 /\ 3 < 5) /\ (AV.osl 16 1 0 ((A k).1.length) = (.osl 16 1 0 ((A k).1.length) : AV))) /\ True) /\ (0 + 1 * 1 <= 1) /\ (1 = 1 /\ (A k).1.length * 1 <= (fl sc ((A k).1)).length /\ 0 < 16 /\ ((A k).1.length + 1) * 16 <= 140737488355328) /\ (True) /\ Z) ⟨(by decide), (by decide), ⟨⟨(by decide), rfl⟩, trivial⟩, (by decide), ⟨rfl, by (first | omega | (simp only [LL]; omega)), by decide, by (first | omega | (simp only [LL]; omega))⟩, trivial, runq_v (v' := .osl 28 1 0 (((A k).1 ++ [p.getD 0 default]).length)) (push_len _ _ _ _) (runq_h (cs' := fl sc ((A k).1 ++ [p.getD 0 default])) (push_str ((A k).1) (p.getD 0 default)) ?_)⟩⟩)
 refine qFn3 [1, 3, 4, 6, 8, 9, 11, 12] [] [(28, fl sc ((A k).1 ++ [p.getD 0 default])), (24, [.str (p.getD 0 default)]), (20, fl trc ((A k).2.1)), (12, [.bool t.dir, .int .i64 t.mode, .str t.data, .osl 28 1 0 (((A k).1 ++ [p.getD 0 default]).length), .osl 20 5 0 ((A k).2.1.length)]), (8, zt), (4, tcs x), (0, tcs t)] 32 (((1 : Nat) ≠ 0) /\ (true = true /\ 1 = 1 /\ 3 + 1 <= 5) /\ (True) /\ ·) ⟨(by decide), (by decide), trivial, Rr (An3 5 [(63, .osl 36 5 0 ((A k).2.1.length + 1)), (62, .osl 32 5 0 1), (61, .agg (tcs x)), (60, .osl 20 5 0 ((A k).2.1.length)), (59, .ptr 12 4)] [(36, apd (fl trc ((A k).2.1)) ((A k).2.1.length * 5) (tcs x)), (32, tcs x), (28, fl sc ((A k).1 ++ [p.getD 0 default])), (24, [.str (p.getD 0 default)]), (12, [.bool t.dir, .int .i64 t.mode, .str t.data, .osl 28 1 0 (((A k).1 ++ [p.getD 0 default]).length), .osl 20 5 0 ((A k).2.1.length)]), (8, zt), (4, tcs x), (0, tcs t)] 40 (((1 : Nat) ≠ 0) /\ (4 + 1 <= 5 /\ 4 < 5) /\ (0 + 5 <= 5 /\ 0 < 5) /\ (1 * 5 <= 16777216) /\ (0 + 1 * 5 <= 5) /\ (5 = 5 /\ (A k).2.1.length * 5 <= (fl trc ((A k).2.1)).length /\ 0 < 80 /\ ((A k).2.1.length + 1) * 80 <= 140737488355328) /\ ·) ⟨(by decide), (by decide), (by decide), (by decide), (by decide), ⟨rfl, by (first | omega | (simp only [LL]; omega)), by decide, by (first | omega | (simp only [LL]; omega))⟩, run_v (v' := .osl 36 5 0 (((A k).2.1 ++ [x]).length)) (push_len _ _ _ _) (run_h (cs' := fl trc ((A k).2.1 ++ [x])) (push_trc ((A k).2.1) x) ?_)⟩)⟩
 refine Fn3 [1, 3, 4, 6, 8, 9, 11, 12] [] [(36, fl trc ((A k).2.1 ++ [x])), (32, tcs x), (28, fl sc ((A k).1 ++ [p.getD 0 default])), (24, [.str (p.getD 0 default)]), (12, [.bool t.dir, .int .i64 t.mode, .str t.data, .osl 28 1 0 (((A k).1 ++ [p.getD 0 default]).length), .osl 36 5 0 (((A k).2.1 ++ [x]).length)]), (8, zt), (4, tcs x), (0, tcs t)] 40 (((1 : Nat) ≠ 0) /\ (true = true /\ 1 = 1 /\ 4 + 1 <= 5) /\ ·) ⟨(by decide), (by decide), Rb (fun h => Jn (hK52 h)) (Fn0 [1, 3, 4, 6, 8, 9, 11, 12] [(10, .bool true)] (Sq fun K60 hK60 => ?_))⟩
 refine Rm 74 (((t.names.getD k default) == (p.getD 0 default)) && (decide ((p.length : Int) = 1))) [1, 3, 4, 6, 8, 9, 10, 11, 12] ?_ ?_
 refine Av1 3 67 [(66, pth p), (65, .str (t.names.getD k default))] (congrArg AV.pat (mg_str p 0 (by omega))) ((1 = 1 /\ (0 : Int) <= 0 /\ 0 < ((p.map (fun s => [AV.str s])).length : Int)) /\ ·) ⟨⟨rfl, by omega, by rw [List.length_map]; omega⟩, An1 3 [(70, .bool ((t.names.getD k default) == (p.getD 0 default))), (69, .bool ((t.names.getD k default) == (p.getD 0 default))), (68, .str (p.getD 0 default))] ((1 <= 1 /\ 0 < 1) /\ ·) ⟨(by decide), run_b (fun g62 => ?_) (fun g62 => ?_)⟩⟩
 have hg62 := g62
 try simp only [KF] at g62
 refine Av0 (r := .int .i64 ((p.map (fun s => [AV.str s])).length : Nat)) (v := .int .i64 p.length) 2 72 [(71, pth p)] (by rw [List.length_map]) (Mn1 (decide ((p.length : Int) = 1)) (Ki /\ ·) ⟨rfl, (by rw [hg62]; rfl)⟩)
 have hg62 := g62
 try simp only [KF] at g62
 refine Mn0 false (by rw [hg62]; rfl)
 refine Cc (((t.names.getD k default) == (p.getD 0 default)) && (decide ((p.length : Int) = 1))) (fun hc63 c63 => ?_) fun hc63 c63 => ?_
 try simp only [KF] at c63
 refine Xt (Jx (Bh (Jn (hK50 (Kp [1, 3, 4, 6, 8, 9, 10, 11] (Rn (Av1 2 27 [(26, .int .i64 k)] (congrArg (AV.int .i64) (wn1 k (by omega))) (Ki /\ ·) ⟨rfl, Gn0 [(11, .int .i64 ((k + 1 : Nat) : Int))] (nk_n ?_)⟩)))))))
 have e := hAs k (by omega); simp only [sstp, hc49, hc57, hc63, Bool.true_and, Bool.false_and, cond_true, cond_false] at e
 refine Lr (k + 1, some ()) [(0, 0), (4, 4), (8, 8), (12, 12), (28, 16), (36, 20)] 24 [(1, pth p), (3, .bool gn), (4, .ptr 0 0), (6, .ptr 4 0), (8, .ptr 8 0), (9, .ptr 12 0), (10, .bool true), (11, .int .i64 ((k + 1 : Nat) : Int))] [(36, fl trc ((A k).2.1 ++ [x])), (28, fl sc ((A k).1 ++ [p.getD 0 default])), (12, [.bool t.dir, .int .i64 t.mode, .str t.data, .osl 28 1 0 (((A k).1 ++ [p.getD 0 default]).length), .osl 36 5 0 (((A k).2.1 ++ [x]).length)]), (8, zt), (4, tcs x), (0, tcs t)] [false, false, true, true, true, true] ?_ ?_ (by (try ((try dsimp only); rw [e])); try kernel_rfl) (by (try ((try dsimp only); rw [e])); try kernel_rfl)
 (try dsimp only); omega
 refine ⟨?_, rfl⟩; (try dsimp only); first | omega | exact ⟨by omega, by rw [e]⟩
 try simp only [KF] at c63
 refine Sk (Jn (hK60 (Kp [1, 3, 4, 6, 8, 9, 10, 11, 12] (Rr (Av1 4 78 [(77, .int .i64 k), (76, .sl 5 (t.kids.map trc)), (75, .ptr 0 4)] (congrArg AV.pat (mg_trc t.kids k (by omega))) (((1 : Nat) ≠ 0) /\ (4 + 1 <= 5 /\ 4 < 5) /\ (5 = 5 /\ (0 : Int) <= (k : Int) /\ (k : Int) < ((t.kids.map trc).length : Int)) /\ ·) ⟨(by decide), (by decide), ⟨rfl, by omega, by rw [List.length_map]; omega⟩, Fn3 [1, 3, 4, 6, 8, 9, 10, 11, 12] [(13, .ptr 40 0)] [(40, tcs (t.kids.getD k default)), (36, fl trc ((A k).2.1 ++ [x])), (32, tcs x), (28, fl sc ((A k).1 ++ [p.getD 0 default])), (24, [.str (p.getD 0 default)]), (12, [.bool t.dir, .int .i64 t.mode, .str t.data, .osl 28 1 0 (((A k).1 ++ [p.getD 0 default]).length), .osl 36 5 0 (((A k).2.1 ++ [x]).length)]), (8, zt), (4, tcs x), (0, tcs t)] 44 ((5 <= 5 /\ 0 < 5) /\ (true = true /\ 5 = 5 /\ 0 + 5 <= 5) /\ ·) ⟨(by decide), (by decide), Sj (fun (z : Tr) => match z with | kk => ([(1, pth p), (3, .bool gn), (4, .ptr 0 0), (6, .ptr 4 0), (8, .ptr 8 0), (9, .ptr 12 0), (10, .bool true), (11, .int .i64 k), (12, .str (t.names.getD k default)), (13, .ptr 40 0)] : Fr)) (fun (z : Tr) => match z with | kk => ([(40, tcs kk), (36, fl trc ((A k).2.1 ++ [x])), (32, tcs x), (28, fl sc ((A k).1 ++ [p.getD 0 default])), (24, [.str (p.getD 0 default)]), (12, [.bool t.dir, .int .i64 t.mode, .str t.data, .osl 28 1 0 (((A k).1 ++ [p.getD 0 default]).length), .osl 36 5 0 (((A k).2.1 ++ [x]).length)]), (8, zt), (4, tcs x), (0, tcs t)] : Hp)) (fun (z : Tr) => match z with | kk => A (k + 1) = ((A k).1 ++ [p.getD 0 default] ++ [t.names.getD k default], (A k).2.1 ++ [x] ++ [kk], true)) 44 ?_ fun J65 K66 hK66 => ?_⟩⟩)))))
 rintro kk hi
 dsimp only at hi ⊢
 have hj := hi
 refine Rr (An3 5 [(95, .osl 48 1 0 (((A k).1 ++ [p.getD 0 default]).length + 1)), (94, .osl 44 1 0 1), (93, .str (t.names.getD k default)), (92, .osl 28 1 0 (((A k).1 ++ [p.getD 0 default]).length)), (91, .ptr 12 3)] [(48, apd (fl sc ((A k).1 ++ [p.getD 0 default])) (((A k).1 ++ [p.getD 0 default]).length * 1) [.str (t.names.getD k default)]), (44, [.str (t.names.getD k default)]), (40, tcs kk), (36, fl trc ((A k).2.1 ++ [x])), (32, tcs x), (24, [.str (p.getD 0 default)]), (12, [.bool t.dir, .int .i64 t.mode, .str t.data, .osl 28 1 0 (((A k).1 ++ [p.getD 0 default]).length), .osl 36 5 0 (((A k).2.1 ++ [x]).length)]), (8, zt), (4, tcs x), (0, tcs t)] 52 (((1 : Nat) ≠ 0) /\ (3 + 1 <= 5 /\ 3 < 5) /\ (1 * 1 <= 16777216) /\ (0 + 1 * 1 <= 1) /\ (1 = 1 /\ ((A k).1 ++ [p.getD 0 default]).length * 1 <= (fl sc ((A k).1 ++ [p.getD 0 default])).length /\ 0 < 16 /\ (((A k).1 ++ [p.getD 0 default]).length + 1) * 16 <= 140737488355328) /\ ·) ⟨(by decide), (by decide), (by decide), (by decide), ⟨rfl, by (first | omega | (simp only [LL]; omega)), by decide, by (first | omega | (simp only [LL]; omega))⟩, run_v (v' := .osl 48 1 0 (((A k).1 ++ [p.getD 0 default] ++ [t.names.getD k default]).length)) (push_len _ _ _ _) (run_h (cs' := fl sc ((A k).1 ++ [p.getD 0 default] ++ [t.names.getD k default])) (push_str ((A k).1 ++ [p.getD 0 default]) (t.names.getD k default)) (Fn3 [1, 3, 4, 6, 8, 9, 10, 11, 13] [] [(48, fl sc ((A k).1 ++ [p.getD 0 default] ++ [t.names.getD k default])), (44, [.str (t.names.getD k default)]), (40, tcs kk), (36, fl trc ((A k).2.1 ++ [x])), (32, tcs x), (24, [.str (p.getD 0 default)]), (12, [.bool t.dir, .int .i64 t.mode, .str t.data, .osl 48 1 0 (((A k).1 ++ [p.getD 0 default] ++ [t.names.getD k default]).length), .osl 36 5 0 (((A k).2.1 ++ [x]).length)]), (8, zt), (4, tcs x), (0, tcs t)] 52 (((1 : Nat) ≠ 0) /\ (true = true /\ 1 = 1 /\ 3 + 1 <= 5) /\ ·) ⟨(by decide), (by decide), ?_⟩))⟩)
 refine Rb (fun h => Bn (Jn (hK50 h))) (An3 5 [(101, .osl 56 5 0 (((A k).2.1 ++ [x]).length + 1)), (100, .osl 52 5 0 1), (99, .agg (tcs kk)), (98, .osl 36 5 0 (((A k).2.1 ++ [x]).length)), (97, .ptr 12 4)] [(56, apd (fl trc ((A k).2.1 ++ [x])) (((A k).2.1 ++ [x]).length * 5) (tcs kk)), (52, tcs kk), (48, fl sc ((A k).1 ++ [p.getD 0 default] ++ [t.names.getD k default])), (44, [.str (t.names.getD k default)]), (40, tcs kk), (32, tcs x), (24, [.str (p.getD 0 default)]), (12, [.bool t.dir, .int .i64 t.mode, .str t.data, .osl 48 1 0 (((A k).1 ++ [p.getD 0 default] ++ [t.names.getD k default]).length), .osl 36 5 0 (((A k).2.1 ++ [x]).length)]), (8, zt), (4, tcs x), (0, tcs t)] 60 (((1 : Nat) ≠ 0) /\ (4 + 1 <= 5 /\ 4 < 5) /\ (0 + 5 <= 5 /\ 0 < 5) /\ (1 * 5 <= 16777216) /\ (0 + 1 * 5 <= 5) /\ (5 = 5 /\ ((A k).2.1 ++ [x]).length * 5 <= (fl trc ((A k).2.1 ++ [x])).length /\ 0 < 80 /\ (((A k).2.1 ++ [x]).length + 1) * 80 <= 140737488355328) /\ ·) ⟨(by decide), (by decide), (by decide), (by decide), (by decide), ⟨rfl, by (first | omega | (simp only [LL]; omega)), by decide, by (first | omega | (simp only [LL]; omega))⟩, run_v (v' := .osl 56 5 0 (((A k).2.1 ++ [x] ++ [kk]).length)) (push_len _ _ _ _) (run_h (cs' := fl trc ((A k).2.1 ++ [x] ++ [kk])) (push_trc ((A k).2.1 ++ [x]) kk) (Fn3 [1, 3, 4, 6, 8, 9, 10, 11] [] [(56, fl trc ((A k).2.1 ++ [x] ++ [kk])), (52, tcs kk), (48, fl sc ((A k).1 ++ [p.getD 0 default] ++ [t.names.getD k default])), (44, [.str (t.names.getD k default)]), (40, tcs kk), (32, tcs x), (24, [.str (p.getD 0 default)]), (12, [.bool t.dir, .int .i64 t.mode, .str t.data, .osl 48 1 0 (((A k).1 ++ [p.getD 0 default] ++ [t.names.getD k default]).length), .osl 56 5 0 (((A k).2.1 ++ [x] ++ [kk]).length)]), (8, zt), (4, tcs x), (0, tcs t)] 60 (((1 : Nat) ≠ 0) /\ (true = true /\ 1 = 1 /\ 4 + 1 <= 5) /\ ·) ⟨(by decide), (by decide), ?_⟩))⟩)
 refine Rn (Av1 2 27 [(26, .int .i64 k)] (congrArg (AV.int .i64) (wn1 k (by omega))) (Ki /\ ·) ⟨rfl, Gn0 [(11, .int .i64 ((k + 1 : Nat) : Int))] (nk_n ?_)⟩)
 have e := hj
 refine Lr (k + 1, some ()) [(0, 0), (4, 4), (8, 8), (12, 12), (48, 16), (56, 20)] 24 [(1, pth p), (3, .bool gn), (4, .ptr 0 0), (6, .ptr 4 0), (8, .ptr 8 0), (9, .ptr 12 0), (10, .bool true), (11, .int .i64 ((k + 1 : Nat) : Int))] [(56, fl trc ((A k).2.1 ++ [x] ++ [kk])), (48, fl sc ((A k).1 ++ [p.getD 0 default] ++ [t.names.getD k default])), (12, [.bool t.dir, .int .i64 t.mode, .str t.data, .osl 48 1 0 (((A k).1 ++ [p.getD 0 default] ++ [t.names.getD k default]).length), .osl 56 5 0 (((A k).2.1 ++ [x] ++ [kk]).length)]), (8, zt), (4, tcs x), (0, tcs t)] [false, false, true, true, true, true] ?_ ?_ (by (try ((try dsimp only); rw [e])); try kernel_rfl) (by (try ((try dsimp only); rw [e])); try kernel_rfl)
 (try dsimp only); omega
 refine ⟨?_, rfl⟩; (try dsimp only); first | omega | exact ⟨by omega, by rw [e]⟩
 refine Rr (Av1 3 82 [(81, pth p), (80, .str (t.names.getD k default))] (congrArg AV.pat (mg_str p 0 (by omega))) ((1 = 1 /\ (0 : Int) <= 0 /\ 0 < ((p.map (fun s => [AV.str s])).length : Int)) /\ ·) ⟨⟨rfl, by omega, by rw [List.length_map]; omega⟩, Cn1 ((t.names.getD k default) == (p.getD 0 default)) [1, 3, 4, 6, 8, 9, 10, 11, 12, 13] [] ((1 <= 1 /\ 0 < 1) /\ ·) ⟨(by decide), fun hc69 c69 => ?_, fun hc69 c69 => ?_⟩⟩)
 try simp only [KF] at c69
 exfalso; rw [hc69, Bool.true_and] at hc63; simp only [decide_eq_false_iff_not] at hc63; omega
 try simp only [KF] at c69
 refine Sk (Jn (hK66 (Kp [1, 3, 4, 6, 8, 9, 10, 11, 12, 13] (Tr2 J65 (t.kids.getD k default) [(0, 0), (4, 4), (8, 8), (12, 12), (24, 24), (28, 28), (32, 32), (36, 36), (40, 40)] [(1, pth p), (3, .bool gn), (4, .ptr 0 0), (6, .ptr 4 0), (8, .ptr 8 0), (9, .ptr 12 0), (10, .bool true), (11, .int .i64 k), (12, .str (t.names.getD k default)), (13, .ptr 40 0)] [(40, tcs (t.kids.getD k default)), (36, fl trc ((A k).2.1 ++ [x])), (32, tcs x), (28, fl sc ((A k).1 ++ [p.getD 0 default])), (24, [.str (p.getD 0 default)]), (12, [.bool t.dir, .int .i64 t.mode, .str t.data, .osl 28 1 0 (((A k).1 ++ [p.getD 0 default]).length), .osl 36 5 0 (((A k).2.1 ++ [x]).length)]), (8, zt), (4, tcs x), (0, tcs t)] [true, false, true, false, true, true, true, true, true] ?_ (by kernel_rfl) (by kernel_rfl)))))
 (try dsimp only)
 have e := hAs k (by omega); simp only [sstp, hc49, hc57, hc63, hc69, Bool.true_and, Bool.false_and, cond_true, cond_false] at e
 exact e
 try simp only [KF] at c57
 refine Sk (Jn (hK52 (Kp [1, 3, 4, 6, 8, 9, 10, 11, 12] (Sq fun K70 hK70 => ?_))))
 refine Rm 74 (((t.names.getD k default) == (p.getD 0 default)) && (decide ((p.length : Int) = 1))) [1, 3, 4, 6, 8, 9, 10, 11, 12] ?_ ?_
 refine Av1 3 67 [(66, pth p), (65, .str (t.names.getD k default))] (congrArg AV.pat (mg_str p 0 (by omega))) ((1 = 1 /\ (0 : Int) <= 0 /\ 0 < ((p.map (fun s => [AV.str s])).length : Int)) /\ ·) ⟨⟨rfl, by omega, by rw [List.length_map]; omega⟩, An1 3 [(70, .bool ((t.names.getD k default) == (p.getD 0 default))), (69, .bool ((t.names.getD k default) == (p.getD 0 default))), (68, .str (p.getD 0 default))] ((1 <= 1 /\ 0 < 1) /\ ·) ⟨(by decide), run_b (fun g72 => ?_) (fun g72 => ?_)⟩⟩
 have hg72 := g72
 try simp only [KF] at g72
 refine Av0 (r := .int .i64 ((p.map (fun s => [AV.str s])).length : Nat)) (v := .int .i64 p.length) 2 72 [(71, pth p)] (by rw [List.length_map]) (Mn1 (decide ((p.length : Int) = 1)) (Ki /\ ·) ⟨rfl, (by rw [hg72]; rfl)⟩)
 have hg72 := g72
 try simp only [KF] at g72
 refine Mn0 false (by rw [hg72]; rfl)
 refine Cc (((t.names.getD k default) == (p.getD 0 default)) && (decide ((p.length : Int) = 1))) (fun hc73 c73 => ?_) fun hc73 c73 => ?_
 try simp only [KF] at c73
 refine Xt (Jx (Bh (Jn (hK50 (Kp [1, 3, 4, 6, 8, 9, 10, 11] (Rn (Av1 2 27 [(26, .int .i64 k)] (congrArg (AV.int .i64) (wn1 k (by omega))) (Ki /\ ·) ⟨rfl, Gn0 [(11, .int .i64 ((k + 1 : Nat) : Int))] (nk_n ?_)⟩)))))))
 have e := hAs k (by omega); simp only [sstp, hc49, hc57, hc73, Bool.true_and, Bool.false_and, cond_true, cond_false] at e
 refine Lr (k + 1, some ()) [(0, 0), (4, 4), (8, 8), (12, 12), (16, 16), (20, 20)] 24 [(1, pth p), (3, .bool gn), (4, .ptr 0 0), (6, .ptr 4 0), (8, .ptr 8 0), (9, .ptr 12 0), (10, .bool ((A k).2.2)), (11, .int .i64 ((k + 1 : Nat) : Int))] [(20, fl trc ((A k).2.1)), (16, fl sc ((A k).1)), (12, [.bool t.dir, .int .i64 t.mode, .str t.data, .osl 16 1 0 ((A k).1.length), .osl 20 5 0 ((A k).2.1.length)]), (8, zt), (4, tcs x), (0, tcs t)] [false, false, true, true, true, true] ?_ ?_ (by (try ((try dsimp only); rw [e])); try kernel_rfl) (by (try ((try dsimp only); rw [e])); try kernel_rfl)
 (try dsimp only); omega
 refine ⟨?_, rfl⟩; (try dsimp only); first | omega | exact ⟨by omega, by rw [e]⟩
 try simp only [KF] at c73
 refine Sk (Jn (hK70 (Kp [1, 3, 4, 6, 8, 9, 10, 11, 12] (Rr (Av1 4 78 [(77, .int .i64 k), (76, .sl 5 (t.kids.map trc)), (75, .ptr 0 4)] (congrArg AV.pat (mg_trc t.kids k (by omega))) (((1 : Nat) ≠ 0) /\ (4 + 1 <= 5 /\ 4 < 5) /\ (5 = 5 /\ (0 : Int) <= (k : Int) /\ (k : Int) < ((t.kids.map trc).length : Int)) /\ ·) ⟨(by decide), (by decide), ⟨rfl, by omega, by rw [List.length_map]; omega⟩, Fn3 [1, 3, 4, 6, 8, 9, 10, 11, 12] [(13, .ptr 24 0)] [(24, tcs (t.kids.getD k default)), (20, fl trc ((A k).2.1)), (16, fl sc ((A k).1)), (12, [.bool t.dir, .int .i64 t.mode, .str t.data, .osl 16 1 0 ((A k).1.length), .osl 20 5 0 ((A k).2.1.length)]), (8, zt), (4, tcs x), (0, tcs t)] 28 ((5 <= 5 /\ 0 < 5) /\ (true = true /\ 5 = 5 /\ 0 + 5 <= 5) /\ ·) ⟨(by decide), (by decide), Sj (fun (z : Tr) => match z with | kk => ([(1, pth p), (3, .bool gn), (4, .ptr 0 0), (6, .ptr 4 0), (8, .ptr 8 0), (9, .ptr 12 0), (10, .bool ((A k).2.2)), (11, .int .i64 k), (12, .str (t.names.getD k default)), (13, .ptr 24 0)] : Fr)) (fun (z : Tr) => match z with | kk => ([(24, tcs kk), (20, fl trc ((A k).2.1)), (16, fl sc ((A k).1)), (12, [.bool t.dir, .int .i64 t.mode, .str t.data, .osl 16 1 0 ((A k).1.length), .osl 20 5 0 ((A k).2.1.length)]), (8, zt), (4, tcs x), (0, tcs t)] : Hp)) (fun (z : Tr) => match z with | kk => A (k + 1) = ((A k).1 ++ [t.names.getD k default], (A k).2.1 ++ [kk], (A k).2.2)) 28 ?_ fun J75 K76 hK76 => ?_⟩⟩)))))
 rintro kk hi
 dsimp only at hi ⊢
 have hj := hi
 refine Rr (An3 5 [(95, .osl 32 1 0 ((A k).1.length + 1)), (94, .osl 28 1 0 1), (93, .str (t.names.getD k default)), (92, .osl 16 1 0 ((A k).1.length)), (91, .ptr 12 3)] [(32, apd (fl sc ((A k).1)) ((A k).1.length * 1) [.str (t.names.getD k default)]), (28, [.str (t.names.getD k default)]), (24, tcs kk), (20, fl trc ((A k).2.1)), (12, [.bool t.dir, .int .i64 t.mode, .str t.data, .osl 16 1 0 ((A k).1.length), .osl 20 5 0 ((A k).2.1.length)]), (8, zt), (4, tcs x), (0, tcs t)] 36 (((1 : Nat) ≠ 0) /\ (3 + 1 <= 5 /\ 3 < 5) /\ (1 * 1 <= 16777216) /\ (0 + 1 * 1 <= 1) /\ (1 = 1 /\ (A k).1.length * 1 <= (fl sc ((A k).1)).length /\ 0 < 16 /\ ((A k).1.length + 1) * 16 <= 140737488355328) /\ ·) ⟨(by decide), (by decide), (by decide), (by decide), ⟨rfl, by (first | omega | (simp only [LL]; omega)), by decide, by (first | omega | (simp only [LL]; omega))⟩, run_v (v' := .osl 32 1 0 (((A k).1 ++ [t.names.getD k default]).length)) (push_len _ _ _ _) (run_h (cs' := fl sc ((A k).1 ++ [t.names.getD k default])) (push_str ((A k).1) (t.names.getD k default)) (Fn3 [1, 3, 4, 6, 8, 9, 10, 11, 13] [] [(32, fl sc ((A k).1 ++ [t.names.getD k default])), (28, [.str (t.names.getD k default)]), (24, tcs kk), (20, fl trc ((A k).2.1)), (12, [.bool t.dir, .int .i64 t.mode, .str t.data, .osl 32 1 0 (((A k).1 ++ [t.names.getD k default]).length), .osl 20 5 0 ((A k).2.1.length)]), (8, zt), (4, tcs x), (0, tcs t)] 36 (((1 : Nat) ≠ 0) /\ (true = true /\ 1 = 1 /\ 3 + 1 <= 5) /\ ·) ⟨(by decide), (by decide), ?_⟩))⟩)
 refine Rb (fun h => Bn (Jn (hK50 h))) (An3 5 [(101, .osl 40 5 0 ((A k).2.1.length + 1)), (100, .osl 36 5 0 1), (99, .agg (tcs kk)), (98, .osl 20 5 0 ((A k).2.1.length)), (97, .ptr 12 4)] [(40, apd (fl trc ((A k).2.1)) ((A k).2.1.length * 5) (tcs kk)), (36, tcs kk), (32, fl sc ((A k).1 ++ [t.names.getD k default])), (28, [.str (t.names.getD k default)]), (24, tcs kk), (12, [.bool t.dir, .int .i64 t.mode, .str t.data, .osl 32 1 0 (((A k).1 ++ [t.names.getD k default]).length), .osl 20 5 0 ((A k).2.1.length)]), (8, zt), (4, tcs x), (0, tcs t)] 44 (((1 : Nat) ≠ 0) /\ (4 + 1 <= 5 /\ 4 < 5) /\ (0 + 5 <= 5 /\ 0 < 5) /\ (1 * 5 <= 16777216) /\ (0 + 1 * 5 <= 5) /\ (5 = 5 /\ (A k).2.1.length * 5 <= (fl trc ((A k).2.1)).length /\ 0 < 80 /\ ((A k).2.1.length + 1) * 80 <= 140737488355328) /\ ·) ⟨(by decide), (by decide), (by decide), (by decide), (by decide), ⟨rfl, by (first | omega | (simp only [LL]; omega)), by decide, by (first | omega | (simp only [LL]; omega))⟩, run_v (v' := .osl 40 5 0 (((A k).2.1 ++ [kk]).length)) (push_len _ _ _ _) (run_h (cs' := fl trc ((A k).2.1 ++ [kk])) (push_trc ((A k).2.1) kk) (Fn3 [1, 3, 4, 6, 8, 9, 10, 11] [] [(40, fl trc ((A k).2.1 ++ [kk])), (36, tcs kk), (32, fl sc ((A k).1 ++ [t.names.getD k default])), (28, [.str (t.names.getD k default)]), (24, tcs kk), (12, [.bool t.dir, .int .i64 t.mode, .str t.data, .osl 32 1 0 (((A k).1 ++ [t.names.getD k default]).length), .osl 40 5 0 (((A k).2.1 ++ [kk]).length)]), (8, zt), (4, tcs x), (0, tcs t)] 44 (((1 : Nat) ≠ 0) /\ (true = true /\ 1 = 1 /\ 4 + 1 <= 5) /\ ·) ⟨(by decide), (by decide), ?_⟩))⟩)
 refine Rn (Av1 2 27 [(26, .int .i64 k)] (congrArg (AV.int .i64) (wn1 k (by omega))) (Ki /\ ·) ⟨rfl, Gn0 [(11, .int .i64 ((k + 1 : Nat) : Int))] (nk_n ?_)⟩)
 have e := hj
 refine Lr (k + 1, some ()) [(0, 0), (4, 4), (8, 8), (12, 12), (32, 16), (40, 20)] 24 [(1, pth p), (3, .bool gn), (4, .ptr 0 0), (6, .ptr 4 0), (8, .ptr 8 0), (9, .ptr 12 0), (10, .bool ((A k).2.2)), (11, .int .i64 ((k + 1 : Nat) : Int))] [(40, fl trc ((A k).2.1 ++ [kk])), (32, fl sc ((A k).1 ++ [t.names.getD k default])), (12, [.bool t.dir, .int .i64 t.mode, .str t.data, .osl 32 1 0 (((A k).1 ++ [t.names.getD k default]).length), .osl 40 5 0 (((A k).2.1 ++ [kk]).length)]), (8, zt), (4, tcs x), (0, tcs t)] [false, false, true, true, true, true] ?_ ?_ (by (try ((try dsimp only); rw [e])); try kernel_rfl) (by (try ((try dsimp only); rw [e])); try kernel_rfl)
 (try dsimp only); omega
 refine ⟨?_, rfl⟩; (try dsimp only); first | omega | exact ⟨by omega, by rw [e]⟩
 refine Rr (Av1 3 82 [(81, pth p), (80, .str (t.names.getD k default))] (congrArg AV.pat (mg_str p 0 (by omega))) ((1 = 1 /\ (0 : Int) <= 0 /\ 0 < ((p.map (fun s => [AV.str s])).length : Int)) /\ ·) ⟨⟨rfl, by omega, by rw [List.length_map]; omega⟩, Cn1 ((t.names.getD k default) == (p.getD 0 default)) [1, 3, 4, 6, 8, 9, 10, 11, 12, 13] [] ((1 <= 1 /\ 0 < 1) /\ ·) ⟨(by decide), fun hc79 c79 => ?_, fun hc79 c79 => ?_⟩⟩)
 try simp only [KF] at c79
 refine Qb [0, 0, 2, 0, 0, 31, 63] [(0, []), (1, []), (2, []), (3, []), (4, []), (5, []), (6, [])] (fun h => Jn (hK76 h)) (qAv1 (r := .sl 1 (((p.map (fun s => [AV.str s])).take ((p.map (fun s => [AV.str s])).length)).drop 1)) (v := pth (p.drop 1)) 3 87 [(86, pth p), (85, .agg (tcs (t.kids.getD k default)))] (congrArg (AV.sl 1) (slm_all _ _ _)) ((0 + 5 <= 5 /\ 0 < 5) /\ (1 = 1 /\ 0 <= (1 : Int) /\ (1 : Int) <= ((p.map (fun s => [AV.str s])).length : Int) /\ ((p.map (fun s => [AV.str s])).length : Int) <= ((p.map (fun s => [AV.str s])).length : Int)) /\ ·) ⟨(by decide), ⟨rfl, by omega, by rw [List.length_map]; omega, by omega⟩, qBc1 3 [(89, .bool gn), (88, .agg (tcs x))] [] 53 [.agg (tcs (t.kids.getD k default)), pth (p.drop 1), .agg (tcs x), .bool gn] 90 ((0 + 5 <= 5 /\ 0 < 5) /\ ·) ⟨(by decide), ?_⟩⟩)
 have hW := Ws_get t.kids k (by omega)
 have hp2 : 1 < p.length := by
   rcases Nat.lt_or_ge 1 p.length with h | h
   · exact h
   · exfalso; have h1 : p.length = 1 := by omega
     rw [hc79, h1] at hc73; simp at hc73
 have hdd : decide ((p.length : Int) = (1 : Int)) = false := by rw [decide_eq_false_iff_not]; omega
 refine PE.use (ih _ (by simp only [List.length_drop]; omega) (p.drop 1) (t.kids.getD k default) x gn rfl (by omega) (wf_kid hwf (by omega) _) (by simp only [List.length_drop]; omega) (by simp only [List.length_drop]; omega)) ?_
 refine Kq (p := (True)) trivial ?_
 refine qFn3 [1, 3, 4, 6, 8, 9, 10, 11, 12, 13] [] [(24, tcs (tset (p.drop 1) (t.kids.getD k default) x gn)), (20, fl trc ((A k).2.1)), (16, fl sc ((A k).1)), (12, [.bool t.dir, .int .i64 t.mode, .str t.data, .osl 16 1 0 ((A k).1.length), .osl 20 5 0 ((A k).2.1.length)]), (8, zt), (4, tcs x), (0, tcs t)] 28 ((true = true /\ 5 = 5 /\ 0 + 5 <= 5) /\ (True) /\ ·) ⟨(by decide), trivial, Tr2 J75 (tset (p.drop 1) (t.kids.getD k default) x gn) [(0, 0), (4, 4), (8, 8), (12, 12), (16, 16), (20, 20), (24, 24)] [(1, pth p), (3, .bool gn), (4, .ptr 0 0), (6, .ptr 4 0), (8, .ptr 8 0), (9, .ptr 12 0), (10, .bool ((A k).2.2)), (11, .int .i64 k), (12, .str (t.names.getD k default)), (13, .ptr 24 0)] [(24, tcs (tset (p.drop 1) (t.kids.getD k default) x gn)), (20, fl trc ((A k).2.1)), (16, fl sc ((A k).1)), (12, [.bool t.dir, .int .i64 t.mode, .str t.data, .osl 16 1 0 ((A k).1.length), .osl 20 5 0 ((A k).2.1.length)]), (8, zt), (4, tcs x), (0, tcs t)] [true, false, false, true, true, true, true] ?_ (by kernel_rfl) (by kernel_rfl)⟩
 (try dsimp only)
 have e := hAs k (by omega); simp only [sstp, hc49, hc57, hc73, hc79, hdd, Bool.true_and, Bool.false_and, cond_true, cond_false] at e
 exact e
 try simp only [KF] at c79
 refine Sk (Jn (hK76 (Kp [1, 3, 4, 6, 8, 9, 10, 11, 12, 13] (Tr2 J75 (t.kids.getD k default) [(0, 0), (4, 4), (8, 8), (12, 12), (16, 16), (20, 20), (24, 24)] [(1, pth p), (3, .bool gn), (4, .ptr 0 0), (6, .ptr 4 0), (8, .ptr 8 0), (9, .ptr 12 0), (10, .bool ((A k).2.2)), (11, .int .i64 k), (12, .str (t.names.getD k default)), (13, .ptr 24 0)] [(24, tcs (t.kids.getD k default)), (20, fl trc ((A k).2.1)), (16, fl sc ((A k).1)), (12, [.bool t.dir, .int .i64 t.mode, .str t.data, .osl 16 1 0 ((A k).1.length), .osl 20 5 0 ((A k).2.1.length)]), (8, zt), (4, tcs x), (0, tcs t)] [true, false, false, true, true, true, true] ?_ (by kernel_rfl) (by kernel_rfl)))))
 (try dsimp only)
 have e := hAs k (by omega); simp only [sstp, hc49, hc57, hc73, hc79, Bool.true_and, Bool.false_and, cond_true, cond_false] at e
 exact e
 try simp only [KF] at c49
 refine Xt (Jx (Lx (Bh (Jn (hK4 (Kp [1, 3, 6, 8, 9, 10] (Sq fun K80 hK80 => ?_)))))))
 refine Rm 113 ((decide ((p.length : Int) = 1)) && ((!((A k).2.2)) && (!gn))) [1, 6, 8, 9] ?_ ?_
 refine Av0 (r := .int .i64 ((p.map (fun s => [AV.str s])).length : Nat)) (v := .int .i64 p.length) 2 104 [(103, pth p)] (by rw [List.length_map]) (An1 2 [(106, .bool (decide ((p.length : Int) = 1))), (105, .bool (decide ((p.length : Int) = 1)))] (Ki /\ ·) ⟨rfl, run_b (fun g82 => ?_) (fun g82 => ?_)⟩)
 have hg82 := g82
 try simp only [KF] at g82
 refine An0 4 [(110, .bool (!((A k).2.2))), (109, .bool (!((A k).2.2))), (108, .bool (!((A k).2.2))), (107, .bool ((A k).2.2))] (run_b (fun g83 => ?_) (fun g83 => ?_))
 have hg83 := g83
 try simp only [KF] at g83
 refine Mn0 (!gn) (by rw [hg82, hg83]; rfl)
 have hg83 := g83
 try simp only [KF] at g83
 refine Mn0 false (by rw [hg82, hg83]; rfl)
 have hg82 := g82
 try simp only [KF] at g82
 refine Mn0 false (by rw [hg82]; rfl)
 refine Cc ((decide ((p.length : Int) = 1)) && ((!((A k).2.2)) && (!gn))) (fun hc84 c84 => ?_) fun hc84 c84 => ?_
 try simp only [KF] at c84
 refine Qr [0, 1, 0, 4, 12, 28, 63, 127, 255] [(0, []), (1, []), (2, []), (3, []), (4, []), (5, [1]), (6, []), (7, []), (8, [])] (qAv1 4 117 [(116, pth p), (115, .osl 16 1 0 ((A k).1.length)), (114, .ptr 12 3)] (congrArg AV.pat (mg_str p 0 (by omega))) (((1 : Nat) ≠ 0) /\ (3 + 1 <= 5 /\ 3 < 5) /\ (1 = 1 /\ (0 : Int) <= 0 /\ 0 < ((p.map (fun s => [AV.str s])).length : Int)) /\ ·) ⟨(by decide), (by decide), ⟨rfl, by omega, by rw [List.length_map]; omega⟩, qAn3 3 [(120, .osl 28 1 0 ((A k).1.length + 1)), (119, .osl 24 1 0 1), (118, .str (p.getD 0 default))] [(28, apd (fl sc ((A k).1)) ((A k).1.length * 1) [.str (p.getD 0 default)]), (24, [.str (p.getD 0 default)]), (20, fl trc ((A k).2.1)), (12, [.bool t.dir, .int .i64 t.mode, .str t.data, .osl 16 1 0 ((A k).1.length), .osl 20 5 0 ((A k).2.1.length)]), (8, zt), (4, tcs x), (0, tcs t)] 32 (fun Z => (1 <= 1 /\ 0 < 1) /\ (1 * 1 <= 16777216) /\ (((3 + 1 <= 5 /\ 3 < 5) /\ (AV.osl 16 1 0 ((A k).1.length) = (.osl 16 1 0 ((A k).1.length) : AV))) /\ True) /\ (0 + 1 * 1 <= 1) /\ (1 = 1 /\ (A k).1.length * 1 <= (fl sc ((A k).1)).length /\ 0 < 16 /\ ((A k).1.length + 1) * 16 <= 140737488355328) /\ (True) /\ Z) ⟨(by decide), (by decide), ⟨⟨(by decide), rfl⟩, trivial⟩, (by decide), ⟨rfl, by (first | omega | (simp only [LL]; omega)), by decide, by (first | omega | (simp only [LL]; omega))⟩, trivial, runq_v (v' := .osl 28 1 0 (((A k).1 ++ [p.getD 0 default]).length)) (push_len _ _ _ _) (runq_h (cs' := fl sc ((A k).1 ++ [p.getD 0 default])) (push_str ((A k).1) (p.getD 0 default)) ?_)⟩⟩)
 refine qFn3 [6, 8, 9] [] [(28, fl sc ((A k).1 ++ [p.getD 0 default])), (24, [.str (p.getD 0 default)]), (20, fl trc ((A k).2.1)), (12, [.bool t.dir, .int .i64 t.mode, .str t.data, .osl 28 1 0 (((A k).1 ++ [p.getD 0 default]).length), .osl 20 5 0 ((A k).2.1.length)]), (8, zt), (4, tcs x), (0, tcs t)] 32 (((1 : Nat) ≠ 0) /\ (true = true /\ 1 = 1 /\ 3 + 1 <= 5) /\ (True) /\ ·) ⟨(by decide), (by decide), trivial, Rb (fun h => Jn (hK80 h)) (An3 5 [(126, .osl 36 5 0 ((A k).2.1.length + 1)), (125, .osl 32 5 0 1), (124, .agg (tcs x)), (123, .osl 20 5 0 ((A k).2.1.length)), (122, .ptr 12 4)] [(36, apd (fl trc ((A k).2.1)) ((A k).2.1.length * 5) (tcs x)), (32, tcs x), (28, fl sc ((A k).1 ++ [p.getD 0 default])), (24, [.str (p.getD 0 default)]), (12, [.bool t.dir, .int .i64 t.mode, .str t.data, .osl 28 1 0 (((A k).1 ++ [p.getD 0 default]).length), .osl 20 5 0 ((A k).2.1.length)]), (8, zt), (4, tcs x), (0, tcs t)] 40 (((1 : Nat) ≠ 0) /\ (4 + 1 <= 5 /\ 4 < 5) /\ (0 + 5 <= 5 /\ 0 < 5) /\ (1 * 5 <= 16777216) /\ (0 + 1 * 5 <= 5) /\ (5 = 5 /\ (A k).2.1.length * 5 <= (fl trc ((A k).2.1)).length /\ 0 < 80 /\ ((A k).2.1.length + 1) * 80 <= 140737488355328) /\ ·) ⟨(by decide), (by decide), (by decide), (by decide), (by decide), ⟨rfl, by (first | omega | (simp only [LL]; omega)), by decide, by (first | omega | (simp only [LL]; omega))⟩, run_v (v' := .osl 36 5 0 (((A k).2.1 ++ [x]).length)) (push_len _ _ _ _) (run_h (cs' := fl trc ((A k).2.1 ++ [x])) (push_trc ((A k).2.1) x) ?_)⟩)⟩
 refine Fn3 [8, 9] [] [(36, fl trc ((A k).2.1 ++ [x])), (32, tcs x), (28, fl sc ((A k).1 ++ [p.getD 0 default])), (24, [.str (p.getD 0 default)]), (12, [.bool t.dir, .int .i64 t.mode, .str t.data, .osl 28 1 0 (((A k).1 ++ [p.getD 0 default]).length), .osl 36 5 0 (((A k).2.1 ++ [x]).length)]), (8, zt), (4, tcs x), (0, tcs t)] 40 (((1 : Nat) ≠ 0) /\ (true = true /\ 1 = 1 /\ 4 + 1 <= 5) /\ ·) ⟨(by decide), (by decide), Rr (Fn3 [8] [] [(36, fl trc ((A k).2.1 ++ [x])), (32, tcs x), (28, fl sc ((A k).1 ++ [p.getD 0 default])), (24, [.str (p.getD 0 default)]), (12, [.bool t.dir, .int .i64 t.mode, .str t.data, .osl 28 1 0 (((A k).1 ++ [p.getD 0 default]).length), .osl 36 5 0 (((A k).2.1 ++ [x]).length)]), (8, [.bool t.dir, .int .i64 t.mode, .str t.data, .osl 28 1 0 (((A k).1 ++ [p.getD 0 default]).length), .osl 36 5 0 (((A k).2.1 ++ [x]).length)]), (4, tcs x), (0, tcs t)] 40 ((0 + 5 <= 5 /\ 0 < 5) /\ (true = true /\ 5 = 5 /\ 0 + 5 <= 5) /\ ·) ⟨(by decide), (by decide), FzT 36 ((A k).2.1 ++ [x]) [(8, .ptr 8 0)] [(28, fl sc ((A k).1 ++ [p.getD 0 default])), (8, [.bool t.dir, .int .i64 t.mode, .str t.data, .osl 28 1 0 (((A k).1 ++ [p.getD 0 default]).length), .osl 36 5 0 (((A k).2.1 ++ [x]).length)])] [false, true] (FzS 28 ((A k).1 ++ [p.getD 0 default]) [(8, .ptr 8 0)] [(8, [.bool t.dir, .int .i64 t.mode, .str t.data, .osl 28 1 0 (((A k).1 ++ [p.getD 0 default]).length), .sl 5 (((A k).2.1 ++ [x]).map trc)])] [true] ?_)⟩)⟩
 refine Rt1 ((0 + 5 <= 5 /\ 0 < 5) /\ ·) (.agg [.bool t.dir, .int .i64 t.mode, .str t.data, pth ((A k).1 ++ [p.getD 0 default]), .sl 5 (((A k).2.1 ++ [x]).map trc)]) ⟨(by decide), fin_lea ?_⟩
 obtain rfl : k = t.names.length := by omega
 simp only [sE, hc49, hc84, Bool.true_and, Bool.false_and, cond_true, cond_false] at hAe
 rw [hAe]
 first
   | exact lea_refl _
   | (simp only [tcs, Tr.dir_mk, Tr.mode_mk, Tr.data_mk, Tr.names_mk, Tr.kids_mk, hn1, hn2, List.nil_append]; first | exact lea_refl _ | (simp [lea, leas, pth]))
 try simp only [KF] at c84
 refine Sk (Jn (hK80 (Kp [8, 9] (Rr (Fn3 [8] [] [(20, fl trc ((A k).2.1)), (16, fl sc ((A k).1)), (12, [.bool t.dir, .int .i64 t.mode, .str t.data, .osl 16 1 0 ((A k).1.length), .osl 20 5 0 ((A k).2.1.length)]), (8, [.bool t.dir, .int .i64 t.mode, .str t.data, .osl 16 1 0 ((A k).1.length), .osl 20 5 0 ((A k).2.1.length)]), (4, tcs x), (0, tcs t)] 24 ((0 + 5 <= 5 /\ 0 < 5) /\ (true = true /\ 5 = 5 /\ 0 + 5 <= 5) /\ ·) ⟨(by decide), (by decide), FzT 20 ((A k).2.1) [(8, .ptr 8 0)] [(16, fl sc ((A k).1)), (8, [.bool t.dir, .int .i64 t.mode, .str t.data, .osl 16 1 0 ((A k).1.length), .osl 20 5 0 ((A k).2.1.length)])] [false, true] (FzS 16 ((A k).1) [(8, .ptr 8 0)] [(8, [.bool t.dir, .int .i64 t.mode, .str t.data, .osl 16 1 0 ((A k).1.length), .sl 5 (((A k).2.1).map trc)])] [true] ?_)⟩)))))
 refine Rt1 ((0 + 5 <= 5 /\ 0 < 5) /\ ·) (.agg [.bool t.dir, .int .i64 t.mode, .str t.data, pth ((A k).1), .sl 5 (((A k).2.1).map trc)]) ⟨(by decide), fin_lea ?_⟩
 obtain rfl : k = t.names.length := by omega
 simp only [sE, hc49, hc84, Bool.true_and, Bool.false_and, cond_true, cond_false] at hAe
 rw [hAe]
 first
   | exact lea_refl _
   | (simp only [tcs, Tr.dir_mk, Tr.mode_mk, Tr.data_mk, Tr.names_mk, Tr.kids_mk, hn1, hn2, List.nil_append]; first | exact lea_refl _ | (simp [lea, leas, pth]))
open Go Go.Proofs
set_option maxRecDepth 100000
theorem ig5 {α : Type} {f : α -> List AV} {s : Nat} (hf : ∀ x, (f x).length = s) (X : List α) (D : List AV) (i : Nat) (hi : i <= X.length) :
    (((fl f X ++ D).drop (0 + i * s)).take ((X.length - i) * s)).take (min (X.length - i) (X.length - i) * s) = fl f (X.drop i) := by
  have h1 : i * s <= X.length * s := Nat.mul_le_mul_right _ hi
  rw [Nat.min_self, List.take_take, Nat.min_self, Nat.zero_add, List.drop_append_of_le_length (by rw [fl_len hf]; exact h1), fl_drop hf, List.take_append_of_le_length (by rw [fl_len hf, List.length_drop]; omega), List.take_of_length_le (by rw [fl_len hf, List.length_drop]; omega)]
theorem ig6 {α : Type} {f : α -> List AV} {s : Nat} (hf : ∀ x, (f x).length = s) (X : List α) (D : List AV) (i m : Nat) (hi : i < X.length) (hm : m = X.length - i) :
    (((fl f X ++ D).drop (0 + i * s)).take ((X.length + 1 - i) * s)).take (min (X.length + 1 - i) m * s) = fl f (X.drop i) := by
  have h1 : i * s <= X.length * s := Nat.mul_le_mul_right _ (by omega)
  have h2 : (X.length - i) * s <= (X.length + 1 - i) * s := Nat.mul_le_mul_right _ (by omega)
  rw [List.take_take, hm, show min (X.length + 1 - i) (X.length - i) = X.length - i by omega, Nat.min_eq_left h2, Nat.zero_add, List.drop_append_of_le_length (by rw [fl_len hf]; exact h1), fl_drop hf, List.take_append_of_le_length (by rw [fl_len hf, List.length_drop]; omega), List.take_of_length_le (by rw [fl_len hf, List.length_drop]; omega)]
theorem insS {α : Type} {fc : α -> List AV} (hf : ∀ x, (fc x).length = 1) (X : List α) (y : α) (i c : Nat) (hi : i <= X.length) (hX : X.length < 2 ^ 36) (hc : X.length <= c) : TCw 0 G 80 [.ocl 0 1 0 X.length c, .int .i64 i, .osl 4 1 0 1] [(0, fl fc X ++ List.replicate ((c - X.length) * 1) AV.dead), (4, fc y)] 8 (fun r H1 _ => ∃ j tl, j % 4 = 0 /\ unc r = .osl j 1 0 (X.take i ++ [y] ++ X.drop i).length /\ hgt H1 j = some (fl fc (X.take i ++ [y] ++ X.drop i) ++ tl)) := by
 have hfl := fun l : List α => fl_len' hf l; have hfy := hf y
 refine TCw_enter (c := bd Tryz.f80) Tryz.func80 (by kernel_rfl) (by kernel_rfl) (tt_eq (F := [(0, .ocl 0 1 0 X.length c), (1, .int .i64 i), (2, .osl 4 1 0 1)]) (by kernel_rfl) ?_)
 refine Rr (Fn0 [0, 1, 2] [] (Rr (Fn1 [0, 1, 2] [] ((1 = 1 /\ 0 <= ((i : Int) : Int) /\ ((i : Int) : Int) <= (X.length : Int) /\ (X.length : Int) <= (c : Int)) /\ ·) ⟨⟨rfl, by omega, by omega, by omega⟩, Rr ?_⟩)))
 refine Fn0 [0, 1, 2] [(7, .int .i64 1)] (Sq fun K4 hK4 => ?_)
 refine Rr (Fn1 [0, 1, 2, 7] [(16, .bool false)] (Ki /\ ·) ⟨rfl, Cf (Sk (Jn (hK4 (Kp [0, 1, 2, 7] (Rr ?_)))))⟩)
 refine Fn0 [0, 1, 2, 7] [(8, .int .i64 X.length)] (Sq fun K7 hK7 => ?_)
 refine Rr (Cn1 (decide ((i : Int) = (X.length : Int))) [0, 1, 2, 7, 8] [] (Ki /\ ·) ⟨rfl, fun hc9 c9 => ?_, fun hc9 c9 => ?_⟩)
 try simp only [KF] at c9
 refine h_unc (F' := [(0, .osl 0 1 0 X.length), (1, .int .i64 i), (2, .osl 4 1 0 1), (7, .int .i64 1), (8, .int .i64 X.length)]) (by kernel_rfl) ?_
 refine Rr (An3 3 [(25, .osl 8 1 0 (X.length + 1)), (24, .osl 4 1 0 1), (23, .osl 0 1 0 X.length)] [(8, apd (fl fc X ++ List.replicate ((c - X.length) * 1) AV.dead) (X.length * 1) (((fc y).drop 0).take (1 * 1))), (4, fc y)] 12 ((0 + 1 * 1 <= (fc y).length) /\ (1 = 1 /\ X.length * 1 <= (fl fc X ++ List.replicate ((c - X.length) * 1) AV.dead).length /\ 0 < 16 /\ (X.length + 1) * 16 <= 140737488355328) /\ ·) ⟨(by (first | omega | (simp only [LL, hfl, hfy, zrs_len']; omega))), ⟨rfl, by (first | omega | (simp only [LL, hfl, hfy, zrs_len']; omega)), by decide, by (first | omega | (simp only [LL, hfl, hfy, zrs_len']; omega))⟩, run_H (H' := [(8, fl fc (X ++ [y])), (4, fc y)]) (by rw [show apd (fl fc X ++ List.replicate ((c - X.length) * 1) AV.dead) (X.length * 1) (((fc y).drop 0).take (1 * 1)) = fl fc (X ++ [y]) from (by unfold apd; rw [ig1 hf X _ X.length (Nat.le_refl _), List.take_length, fl_app, fl_one, List.drop_zero, List.take_of_length_le (by rw [hfy]; omega)])]) (Fn0 [] [(6, .osl 8 1 0 (X.length + 1))] (Rt (.osl 8 1 0 (X.length + 1)) ?_))⟩)
 · refine ⟨_, List.Sublist.refl _, 8, [], rfl, ?_, ?_⟩
   · show AV.osl _ _ _ _ = AV.osl _ _ _ _
     congr 1
     simp only [List.length_append, List.length_take, List.length_drop, List.length_cons, List.length_nil]; omega
   · refine Eq.trans (b := some (fl fc (X ++ [y]))) (by kernel_rfl) ?_
     first
       | rfl
       | (rw [List.append_nil]; done)
       | (rw [List.append_nil, show i = X.length by omega, List.take_length, List.drop_length, List.append_nil, fl_app, fl_one])
 try simp only [KF] at c9
 refine Sk (Jn (hK7 (Kp [0, 1, 2, 7, 8] (Sq fun K11 hK11 => ?_))))
 refine Rr (Av1 3 28 [(27, .int .i64 1), (26, .int .i64 X.length)] (congrArg (AV.int .i64) (wn1 X.length (by omega))) (Ki /\ ·) ⟨rfl, Cn1 (decide ((c : Int) < ((X.length + 1 : Nat) : Int))) [0, 1, 2, 7, 8] [] (Ki /\ ·) ⟨rfl, fun hc13 c13 => ?_, fun hc13 c13 => ?_⟩⟩)
 try simp only [KF] at c13
 refine Rr (Av1 6 37 [(36, .int .i64 1), (35, .int .i64 X.length), (34, .ocl 0 1 0 i c), (33, .int .i64 i), (32, .ocl 0 1 0 X.length c)] (congrArg (AV.int .i64) (wn1 X.length (by omega))) ((1 = 1 /\ 0 <= (0 : Int) /\ (0 : Int) <= (i : Int) /\ (i : Int) <= (c : Int)) /\ Ki /\ ·) ⟨⟨rfl, by omega, by omega, by omega⟩, rfl, Av1 (r := .int .i64 (IntKind.i64.wrap (((X.length + 1 : Nat) : Int) - (i : Int)))) (v := .int .i64 (((X.length + 1 : Nat) : Int) - (i : Int))) 2 39 [(38, .int .i64 i)] (congrArg (AV.int .i64) (wrap64 (by omega) (by omega))) (Ki /\ ·) ⟨rfl, An3 1 [(40, .osl 8 1 0 (i + ((((X.length + 1 : Nat) : Int) - (i : Int)).toNat)))] [(8, (fl fc X ++ List.replicate ((c - X.length) * 1) AV.dead).take (i * 1) ++ zrs ((((X.length + 1 : Nat) : Int) - (i : Int)).toNat) [.str []]), (0, fl fc X ++ List.replicate ((c - X.length) * 1) AV.dead), (4, fc y)] 12 (fun Z => (1 = 1 /\ (0 : Int) <= (((X.length + 1 : Nat) : Int) - (i : Int)) /\ (((X.length + 1 : Nat) : Int) - (i : Int)) <= 1099511627776 /\ c < i + ((((X.length + 1 : Nat) : Int) - (i : Int)).toNat) /\ i * 1 <= (fl fc X ++ List.replicate ((c - X.length) * 1) AV.dead).length /\ 0 < 16 /\ (i + ((((X.length + 1 : Nat) : Int) - (i : Int)).toNat)) * 16 <= 140737488355328) /\ Z) ⟨⟨rfl, by omega, by omega, by (first | omega | (simp only [LL, hfl, hfy, zrs_len']; omega)), by (first | omega | (simp only [LL, hfl, hfy, zrs_len']; omega)), by decide, by omega⟩, run_H (H' := [(8, fl fc (X.take i) ++ zrs (X.length + 1 - i) [.str []]), (0, fl fc X ++ List.replicate ((c - X.length) * 1) AV.dead), (4, fc y)]) (by rw [show (fl fc X ++ List.replicate ((c - X.length) * 1) AV.dead).take (i * 1) ++ zrs ((((X.length + 1 : Nat) : Int) - (i : Int)).toNat) [.str []] = fl fc (X.take i) ++ zrs (X.length + 1 - i) [.str []] from (by rw [ig1 hf X _ i (by omega)]; congr 2; omega)]) ?_⟩⟩⟩)
 refine Fn0 [0, 1, 2, 7] [(9, .osl 8 1 0 (i + ((((X.length + 1 : Nat) : Int) - (i : Int)).toNat)))] (Rr (An3 5 [(45, .int .i64 ((min 1 ((i + ((((X.length + 1 : Nat) : Int) - (i : Int)).toNat)) - i) : Nat) : Int)), (44, .osl 4 1 0 1), (43, .osl 8 1 (0 + i * 1) ((i + ((((X.length + 1 : Nat) : Int) - (i : Int)).toNat)) - i)), (42, .int .i64 i), (41, .osl 8 1 0 (i + ((((X.length + 1 : Nat) : Int) - (i : Int)).toNat)))] [(8, spl (fl fc (X.take i) ++ zrs (X.length + 1 - i) [.str []]) (0 + i * 1) ((((fc y).drop 0).take (1 * 1)).take (min 1 ((i + ((((X.length + 1 : Nat) : Int) - (i : Int)).toNat)) - i) * 1))), (0, fl fc X ++ List.replicate ((c - X.length) * 1) AV.dead), (4, fc y)] 12 (fun Z => (1 = 1 /\ 0 <= ((i : Int) : Int) /\ ((i : Int) : Int) <= ((i + ((((X.length + 1 : Nat) : Int) - (i : Int)).toNat) : Nat) : Int) /\ ((i + ((((X.length + 1 : Nat) : Int) - (i : Int)).toNat) : Nat) : Int) <= ((i + ((((X.length + 1 : Nat) : Int) - (i : Int)).toNat) : Nat) : Int)) /\ (0 + 1 * 1 <= (fc y).length) /\ (1 = 1 /\ 0 + i * 1 + min 1 ((i + ((((X.length + 1 : Nat) : Int) - (i : Int)).toNat)) - i) * 1 <= (fl fc (X.take i) ++ zrs (X.length + 1 - i) [.str []]).length) /\ Z) ⟨⟨rfl, by omega, by omega, by omega⟩, (by (first | omega | (simp only [LL, hfl, hfy, zrs_len']; omega))), ⟨rfl, by (first | omega | (simp only [LL, hfl, hfy, zrs_len']; omega))⟩, run_H (H' := [(8, fl fc (X.take i ++ [y]) ++ zrs (X.length - i) [.str []]), (0, fl fc X ++ List.replicate ((c - X.length) * 1) AV.dead), (4, fc y)]) (by rw [show spl (fl fc (X.take i) ++ zrs (X.length + 1 - i) [.str []]) (0 + i * 1) ((((fc y).drop 0).take (1 * 1)).take (min 1 ((i + ((((X.length + 1 : Nat) : Int) - (i : Int)).toNat)) - i) * 1)) = fl fc (X.take i ++ [y]) ++ zrs (X.length - i) [.str []] from (by have e := ig2 hf X y i (X.length + 1 - i) [.str []] rfl (by omega) (by omega); rw [show X.length + 1 - i - 1 = X.length - i by omega] at e; rw [<- e]; congr 1 <;> first | omega | (rw [List.drop_zero, List.take_take, List.take_of_length_le (by rw [hfy]; omega)]))]) (Fn0 [0, 1, 7, 9] [] ?_)⟩))
 refine Qr [0, 0, 0, 6, 15, 0, 0, 96, 255] [(0, []), (1, []), (2, []), (3, []), (4, []), (5, []), (6, []), (7, []), (8, [])] (qAv1 4 49 [(48, .int .i64 1), (47, .int .i64 i), (46, .osl 8 1 0 (i + ((((X.length + 1 : Nat) : Int) - (i : Int)).toNat)))] (congrArg (AV.int .i64) (wn1 i (by omega))) (Ki /\ ·) ⟨rfl, qAn3 5 [(54, .int .i64 ((min (X.length - i) ((i + ((((X.length + 1 : Nat) : Int) - (i : Int)).toNat)) - (i + 1)) : Nat) : Int)), (53, .ocl 0 1 (0 + i * 1) (X.length - i) (c - i)), (52, .int .i64 i), (51, .ocl 0 1 0 X.length c), (50, .osl 8 1 (0 + (i + 1) * 1) ((i + ((((X.length + 1 : Nat) : Int) - (i : Int)).toNat)) - (i + 1)))] [(8, spl (fl fc (X.take i ++ [y]) ++ zrs (X.length - i) [.str []]) (0 + (i + 1) * 1) ((((fl fc X ++ List.replicate ((c - X.length) * 1) AV.dead).drop (0 + i * 1)).take ((X.length - i) * 1)).take (min (X.length - i) ((i + ((((X.length + 1 : Nat) : Int) - (i : Int)).toNat)) - (i + 1)) * 1))), (0, fl fc X ++ List.replicate ((c - X.length) * 1) AV.dead), (4, fc y)] 12 (fun Z => (1 = 1 /\ 0 <= (((i + 1 : Nat) : Int) : Int) /\ (((i + 1 : Nat) : Int) : Int) <= ((i + ((((X.length + 1 : Nat) : Int) - (i : Int)).toNat) : Nat) : Int) /\ ((i + ((((X.length + 1 : Nat) : Int) - (i : Int)).toNat) : Nat) : Int) <= ((i + ((((X.length + 1 : Nat) : Int) - (i : Int)).toNat) : Nat) : Int)) /\ (1 = 1 /\ 0 <= ((i : Int) : Int) /\ ((i : Int) : Int) <= (X.length : Int) /\ (X.length : Int) <= (c : Int)) /\ (0 + i * 1 + (X.length - i) * 1 <= (fl fc X ++ List.replicate ((c - X.length) * 1) AV.dead).length) /\ (1 = 1 /\ 0 + (i + 1) * 1 + min (X.length - i) ((i + ((((X.length + 1 : Nat) : Int) - (i : Int)).toNat)) - (i + 1)) * 1 <= (fl fc (X.take i ++ [y]) ++ zrs (X.length - i) [.str []]).length) /\ (True) /\ Z) ⟨⟨rfl, by omega, by omega, by omega⟩, ⟨rfl, by omega, by omega, by omega⟩, (by (first | omega | (simp only [LL, hfl, hfy, zrs_len']; omega))), ⟨rfl, by (first | omega | (simp only [LL, hfl, hfy, zrs_len']; omega))⟩, trivial, runq_H (H' := [(8, fl fc (X.take i ++ [y] ++ X.drop i)), (0, fl fc X ++ List.replicate ((c - X.length) * 1) AV.dead), (4, fc y)]) (by rw [show spl (fl fc (X.take i ++ [y]) ++ zrs (X.length - i) [.str []]) (0 + (i + 1) * 1) ((((fl fc X ++ List.replicate ((c - X.length) * 1) AV.dead).drop (0 + i * 1)).take ((X.length - i) * 1)).take (min (X.length - i) ((i + ((((X.length + 1 : Nat) : Int) - (i : Int)).toNat)) - (i + 1)) * 1)) = fl fc (X.take i ++ [y] ++ X.drop i) from (by rw [<- ig3 hf X y i [.str []] rfl (by omega)]; congr 1 <;> first | omega | (rw [<- ig5 hf X _ i (by omega)]; congr 1; omega))]) (qFn0 [9] [] ?_)⟩⟩)
 refine Rr (Fn0 [] [(6, .osl 8 1 0 (i + ((((X.length + 1 : Nat) : Int) - (i : Int)).toNat)))] (Rt (.osl 8 1 0 (i + ((((X.length + 1 : Nat) : Int) - (i : Int)).toNat))) ?_))
 · refine ⟨_, List.Sublist.refl _, 8, [], rfl, ?_, ?_⟩
   · show AV.osl _ _ _ _ = AV.osl _ _ _ _
     congr 1
     simp only [List.length_append, List.length_take, List.length_drop, List.length_cons, List.length_nil]; omega
   · refine Eq.trans (b := some (fl fc (X.take i ++ [y] ++ X.drop i))) (by kernel_rfl) ?_
     first
       | rfl
       | (rw [List.append_nil]; done)
       | (rw [List.append_nil, show i = X.length by omega, List.take_length, List.drop_length, List.append_nil, fl_app, fl_one])
 try simp only [KF] at c13
 refine Sk (Jn (hK11 (Kp [0, 1, 2, 7, 8] (Rr (Av1 4 59 [(58, .int .i64 1), (57, .int .i64 X.length), (56, .ocl 0 1 0 X.length c)] (congrArg (AV.int .i64) (wn1 X.length (by omega))) (Ki /\ ·) ⟨rfl, Fn1 [1, 2, 7, 8] [(0, .ocl 0 1 0 (X.length + 1) c)] ((1 = 1 /\ 0 <= (0 : Int) /\ (0 : Int) <= ((X.length + 1 : Nat) : Int) /\ ((X.length + 1 : Nat) : Int) <= (c : Int)) /\ ·) ⟨⟨rfl, by omega, by omega, by omega⟩, Sq fun K19 hK19 => ?_⟩⟩)))))
 refine Rr (Av1 5 65 [(64, .int .i64 1), (63, .int .i64 i), (62, .ocl 0 1 0 (X.length + 1) c), (61, .osl 4 1 0 1)] (congrArg (AV.int .i64) (wn1 i (by omega))) (Ki /\ ·) ⟨rfl, Bc1 2 [(66, .ocl 0 1 (0 + (i + 1) * 1) ((X.length + 1) - (i + 1)) (c - (i + 1)))] 97 [.osl 4 1 0 1, .ocl 0 1 (0 + (i + 1) * 1) ((X.length + 1) - (i + 1)) (c - (i + 1))] 67 ((1 = 1 /\ 0 <= (((i + 1 : Nat) : Int) : Int) /\ (((i + 1 : Nat) : Int) : Int) <= ((X.length + 1 : Nat) : Int) /\ ((X.length + 1 : Nat) : Int) <= (c : Int)) /\ ·) ⟨⟨rfl, by omega, by omega, by omega⟩, ov_use (t := 23) (e := 9) (tR := 4) (ca := fc y) (cb' := fl fc X ++ List.replicate ((c - X.length) * 1) AV.dead) (Ke ?_) (by kernel_rfl) (by kernel_rfl) (by kernel_rfl) (by kernel_rfl) (by omega) rfl (by decide) t23 rfl t9 Tryz.func97 (by kernel_rfl) (by kernel_rfl) (by kernel_rfl) (by kernel_rfl)⟩⟩)
 refine Fn0 [0, 1, 2, 7, 8] [(68, .bool true)] (Ct (Qr [0, 0, 0, 6, 15, 0, 0, 96, 255] [(0, []), (1, []), (2, []), (3, []), (4, []), (5, []), (6, []), (7, []), (8, [])] (qAv1 4 72 [(71, .int .i64 1), (70, .int .i64 i), (69, .ocl 0 1 0 (X.length + 1) c)] (congrArg (AV.int .i64) (wn1 i (by omega))) (Ki /\ ·) ⟨rfl, qAn3 5 [(77, .int .i64 ((min ((X.length + 1) - i) ((X.length + 1) - (i + 1)) : Nat) : Int)), (76, .ocl 0 1 (0 + i * 1) ((X.length + 1) - i) (c - i)), (75, .int .i64 i), (74, .ocl 0 1 0 (X.length + 1) c), (73, .ocl 0 1 (0 + (i + 1) * 1) ((X.length + 1) - (i + 1)) (c - (i + 1)))] [(0, spl (fl fc X ++ List.replicate ((c - X.length) * 1) AV.dead) (0 + (i + 1) * 1) ((((fl fc X ++ List.replicate ((c - X.length) * 1) AV.dead).drop (0 + i * 1)).take (((X.length + 1) - i) * 1)).take (min ((X.length + 1) - i) ((X.length + 1) - (i + 1)) * 1))), (4, fc y)] 8 ((1 = 1 /\ 0 <= (((i + 1 : Nat) : Int) : Int) /\ (((i + 1 : Nat) : Int) : Int) <= ((X.length + 1 : Nat) : Int) /\ ((X.length + 1 : Nat) : Int) <= (c : Int)) /\ (1 = 1 /\ 0 <= ((i : Int) : Int) /\ ((i : Int) : Int) <= ((X.length + 1 : Nat) : Int) /\ ((X.length + 1 : Nat) : Int) <= (c : Int)) /\ (0 + i * 1 + ((X.length + 1) - i) * 1 <= (fl fc X ++ List.replicate ((c - X.length) * 1) AV.dead).length) /\ (1 = 1 /\ 0 + (i + 1) * 1 + min ((X.length + 1) - i) ((X.length + 1) - (i + 1)) * 1 <= (fl fc X ++ List.replicate ((c - X.length) * 1) AV.dead).length) /\ (True) /\ ·) ⟨⟨rfl, by omega, by omega, by omega⟩, ⟨rfl, by omega, by omega, by omega⟩, (by (first | omega | (simp only [LL, hfl, hfy, zrs_len']; omega))), ⟨rfl, by (first | omega | (simp only [LL, hfl, hfy, zrs_len']; omega))⟩, trivial, ?_⟩⟩)))
 refine runq_H (H' := [(0, fl fc (X.take (i + 1) ++ X.drop i) ++ (List.replicate ((c - X.length) * 1) AV.dead).drop 1), (4, fc y)]) (by rw [show spl (fl fc X ++ List.replicate ((c - X.length) * 1) AV.dead) (0 + (i + 1) * 1) ((((fl fc X ++ List.replicate ((c - X.length) * 1) AV.dead).drop (0 + i * 1)).take (((X.length + 1) - i) * 1)).take (min ((X.length + 1) - i) ((X.length + 1) - (i + 1)) * 1)) = fl fc (X.take (i + 1) ++ X.drop i) ++ (List.replicate ((c - X.length) * 1) AV.dead).drop 1 from (by rw [<- is1 hf X _ i (by omega) (by rw [List.length_replicate]; omega), ig6 hf X _ i (X.length + 1 - (i + 1)) (by omega) (by omega), show 0 + (i + 1) * 1 = (i + 1) * 1 by omega])]) ?_
 refine qFn0 [0, 1, 2] [] (Rr (An3 5 [(82, .int .i64 ((min 1 ((X.length + 1) - i) : Nat) : Int)), (81, .osl 4 1 0 1), (80, .ocl 0 1 (0 + i * 1) ((X.length + 1) - i) (c - i)), (79, .int .i64 i), (78, .ocl 0 1 0 (X.length + 1) c)] [(0, spl (fl fc (X.take (i + 1) ++ X.drop i) ++ (List.replicate ((c - X.length) * 1) AV.dead).drop 1) (0 + i * 1) ((((fc y).drop 0).take (1 * 1)).take (min 1 ((X.length + 1) - i) * 1))), (4, fc y)] 8 ((1 = 1 /\ 0 <= ((i : Int) : Int) /\ ((i : Int) : Int) <= ((X.length + 1 : Nat) : Int) /\ ((X.length + 1 : Nat) : Int) <= (c : Int)) /\ (0 + 1 * 1 <= (fc y).length) /\ (1 = 1 /\ 0 + i * 1 + min 1 ((X.length + 1) - i) * 1 <= (fl fc (X.take (i + 1) ++ X.drop i) ++ (List.replicate ((c - X.length) * 1) AV.dead).drop 1).length) /\ ·) ⟨⟨rfl, by omega, by omega, by omega⟩, (by (first | omega | (simp only [LL, hfl, hfy, zrs_len']; omega))), ⟨rfl, by (first | omega | (simp only [LL, hfl, hfy, zrs_len']; omega))⟩, run_H (H' := [(0, fl fc (X.take i ++ [y] ++ X.drop i) ++ (List.replicate ((c - X.length) * 1) AV.dead).drop 1), (4, fc y)]) (by rw [show spl (fl fc (X.take (i + 1) ++ X.drop i) ++ (List.replicate ((c - X.length) * 1) AV.dead).drop 1) (0 + i * 1) ((((fc y).drop 0).take (1 * 1)).take (min 1 ((X.length + 1) - i) * 1)) = fl fc (X.take i ++ [y] ++ X.drop i) ++ (List.replicate ((c - X.length) * 1) AV.dead).drop 1 from (by rw [<- is2 hf X _ y i (by omega)]; congr 1 <;> first | omega | (rw [List.drop_zero, List.take_take, List.take_of_length_le (by rw [hfy]; omega)]))]) (Fn0 [0] [] ?_)⟩))
 refine Rr (Fn0 [] [(6, .ocl 0 1 0 (X.length + 1) c)] (Rt (.ocl 0 1 0 (X.length + 1) c) ?_))
 · refine ⟨_, List.Sublist.refl _, 0, (List.replicate ((c - X.length) * 1) AV.dead).drop 1, rfl, ?_, ?_⟩
   · show AV.osl _ _ _ _ = AV.osl _ _ _ _
     congr 1
     simp only [List.length_append, List.length_take, List.length_drop, List.length_cons, List.length_nil]; omega
   · refine Eq.trans (b := some (fl fc (X.take i ++ [y] ++ X.drop i) ++ (List.replicate ((c - X.length) * 1) AV.dead).drop 1)) (by kernel_rfl) ?_
     first
       | rfl
       | (rw [List.append_nil]; done)
       | (rw [List.append_nil, show i = X.length by omega, List.take_length, List.drop_length, List.append_nil, fl_app, fl_one])
theorem insT {α : Type} {fc : α -> List AV} (hf : ∀ x, (fc x).length = 5) (X : List α) (y : α) (i c : Nat) (hi : i <= X.length) (hX : X.length < 2 ^ 36) (hc : X.length <= c) : TCw 0 G 81 [.ocl 0 5 0 X.length c, .int .i64 i, .osl 4 5 0 1] [(0, fl fc X ++ List.replicate ((c - X.length) * 5) AV.dead), (4, fc y)] 8 (fun r H1 _ => ∃ j tl, j % 4 = 0 /\ unc r = .osl j 5 0 (X.take i ++ [y] ++ X.drop i).length /\ hgt H1 j = some (fl fc (X.take i ++ [y] ++ X.drop i) ++ tl)) := by
 have hfl := fun l : List α => fl_len' hf l; have hfy := hf y
 refine TCw_enter (c := bd Tryz.f81) Tryz.func81 (by kernel_rfl) (by kernel_rfl) (tt_eq (F := [(0, .ocl 0 5 0 X.length c), (1, .int .i64 i), (2, .osl 4 5 0 1)]) (by kernel_rfl) ?_)
 refine Rr (Fn0 [0, 1, 2] [] (Rr (Fn1 [0, 1, 2] [] ((5 = 5 /\ 0 <= ((i : Int) : Int) /\ ((i : Int) : Int) <= (X.length : Int) /\ (X.length : Int) <= (c : Int)) /\ ·) ⟨⟨rfl, by omega, by omega, by omega⟩, Rr ?_⟩)))
 refine Fn0 [0, 1, 2] [(7, .int .i64 1)] (Sq fun K4 hK4 => ?_)
 refine Rr (Fn1 [0, 1, 2, 7] [(16, .bool false)] (Ki /\ ·) ⟨rfl, Cf (Sk (Jn (hK4 (Kp [0, 1, 2, 7] (Rr ?_)))))⟩)
 refine Fn0 [0, 1, 2, 7] [(8, .int .i64 X.length)] (Sq fun K7 hK7 => ?_)
 refine Rr (Cn1 (decide ((i : Int) = (X.length : Int))) [0, 1, 2, 7, 8] [] (Ki /\ ·) ⟨rfl, fun hc9 c9 => ?_, fun hc9 c9 => ?_⟩)
 try simp only [KF] at c9
 refine h_unc (F' := [(0, .osl 0 5 0 X.length), (1, .int .i64 i), (2, .osl 4 5 0 1), (7, .int .i64 1), (8, .int .i64 X.length)]) (by kernel_rfl) ?_
 refine Rr (An3 3 [(25, .osl 8 5 0 (X.length + 1)), (24, .osl 4 5 0 1), (23, .osl 0 5 0 X.length)] [(8, apd (fl fc X ++ List.replicate ((c - X.length) * 5) AV.dead) (X.length * 5) (((fc y).drop 0).take (1 * 5))), (4, fc y)] 12 ((0 + 1 * 5 <= (fc y).length) /\ (5 = 5 /\ X.length * 5 <= (fl fc X ++ List.replicate ((c - X.length) * 5) AV.dead).length /\ 0 < 80 /\ (X.length + 1) * 80 <= 140737488355328) /\ ·) ⟨(by (first | omega | (simp only [LL, hfl, hfy, zrs_len']; omega))), ⟨rfl, by (first | omega | (simp only [LL, hfl, hfy, zrs_len']; omega)), by decide, by (first | omega | (simp only [LL, hfl, hfy, zrs_len']; omega))⟩, run_H (H' := [(8, fl fc (X ++ [y])), (4, fc y)]) (by rw [show apd (fl fc X ++ List.replicate ((c - X.length) * 5) AV.dead) (X.length * 5) (((fc y).drop 0).take (1 * 5)) = fl fc (X ++ [y]) from (by unfold apd; rw [ig1 hf X _ X.length (Nat.le_refl _), List.take_length, fl_app, fl_one, List.drop_zero, List.take_of_length_le (by rw [hfy]; omega)])]) (Fn0 [] [(6, .osl 8 5 0 (X.length + 1))] (Rt (.osl 8 5 0 (X.length + 1)) ?_))⟩)
 · refine ⟨_, List.Sublist.refl _, 8, [], rfl, ?_, ?_⟩
   · show AV.osl _ _ _ _ = AV.osl _ _ _ _
     congr 1
     simp only [List.length_append, List.length_take, List.length_drop, List.length_cons, List.length_nil]; omega
   · refine Eq.trans (b := some (fl fc (X ++ [y]))) (by kernel_rfl) ?_
     first
       | rfl
       | (rw [List.append_nil]; done)
       | (rw [List.append_nil, show i = X.length by omega, List.take_length, List.drop_length, List.append_nil, fl_app, fl_one])
 try simp only [KF] at c9
 refine Sk (Jn (hK7 (Kp [0, 1, 2, 7, 8] (Sq fun K11 hK11 => ?_))))
 refine Rr (Av1 3 28 [(27, .int .i64 1), (26, .int .i64 X.length)] (congrArg (AV.int .i64) (wn1 X.length (by omega))) (Ki /\ ·) ⟨rfl, Cn1 (decide ((c : Int) < ((X.length + 1 : Nat) : Int))) [0, 1, 2, 7, 8] [] (Ki /\ ·) ⟨rfl, fun hc13 c13 => ?_, fun hc13 c13 => ?_⟩⟩)
 try simp only [KF] at c13
 refine Rr (Av1 6 37 [(36, .int .i64 1), (35, .int .i64 X.length), (34, .ocl 0 5 0 i c), (33, .int .i64 i), (32, .ocl 0 5 0 X.length c)] (congrArg (AV.int .i64) (wn1 X.length (by omega))) ((5 = 5 /\ 0 <= (0 : Int) /\ (0 : Int) <= (i : Int) /\ (i : Int) <= (c : Int)) /\ Ki /\ ·) ⟨⟨rfl, by omega, by omega, by omega⟩, rfl, Av1 (r := .int .i64 (IntKind.i64.wrap (((X.length + 1 : Nat) : Int) - (i : Int)))) (v := .int .i64 (((X.length + 1 : Nat) : Int) - (i : Int))) 2 39 [(38, .int .i64 i)] (congrArg (AV.int .i64) (wrap64 (by omega) (by omega))) (Ki /\ ·) ⟨rfl, An3 1 [(40, .osl 8 5 0 (i + ((((X.length + 1 : Nat) : Int) - (i : Int)).toNat)))] [(8, (fl fc X ++ List.replicate ((c - X.length) * 5) AV.dead).take (i * 5) ++ zrs ((((X.length + 1 : Nat) : Int) - (i : Int)).toNat) zt), (0, fl fc X ++ List.replicate ((c - X.length) * 5) AV.dead), (4, fc y)] 12 (fun Z => (5 = 5 /\ (0 : Int) <= (((X.length + 1 : Nat) : Int) - (i : Int)) /\ (((X.length + 1 : Nat) : Int) - (i : Int)) <= 1099511627776 /\ c < i + ((((X.length + 1 : Nat) : Int) - (i : Int)).toNat) /\ i * 5 <= (fl fc X ++ List.replicate ((c - X.length) * 5) AV.dead).length /\ 0 < 80 /\ (i + ((((X.length + 1 : Nat) : Int) - (i : Int)).toNat)) * 80 <= 140737488355328) /\ Z) ⟨⟨rfl, by omega, by omega, by (first | omega | (simp only [LL, hfl, hfy, zrs_len']; omega)), by (first | omega | (simp only [LL, hfl, hfy, zrs_len']; omega)), by decide, by omega⟩, run_H (H' := [(8, fl fc (X.take i) ++ zrs (X.length + 1 - i) zt), (0, fl fc X ++ List.replicate ((c - X.length) * 5) AV.dead), (4, fc y)]) (by rw [show (fl fc X ++ List.replicate ((c - X.length) * 5) AV.dead).take (i * 5) ++ zrs ((((X.length + 1 : Nat) : Int) - (i : Int)).toNat) zt = fl fc (X.take i) ++ zrs (X.length + 1 - i) zt from (by rw [ig1 hf X _ i (by omega)]; congr 2; omega)]) ?_⟩⟩⟩)
 refine Fn0 [0, 1, 2, 7] [(9, .osl 8 5 0 (i + ((((X.length + 1 : Nat) : Int) - (i : Int)).toNat)))] (Rr (An3 5 [(45, .int .i64 ((min 1 ((i + ((((X.length + 1 : Nat) : Int) - (i : Int)).toNat)) - i) : Nat) : Int)), (44, .osl 4 5 0 1), (43, .osl 8 5 (0 + i * 5) ((i + ((((X.length + 1 : Nat) : Int) - (i : Int)).toNat)) - i)), (42, .int .i64 i), (41, .osl 8 5 0 (i + ((((X.length + 1 : Nat) : Int) - (i : Int)).toNat)))] [(8, spl (fl fc (X.take i) ++ zrs (X.length + 1 - i) zt) (0 + i * 5) ((((fc y).drop 0).take (1 * 5)).take (min 1 ((i + ((((X.length + 1 : Nat) : Int) - (i : Int)).toNat)) - i) * 5))), (0, fl fc X ++ List.replicate ((c - X.length) * 5) AV.dead), (4, fc y)] 12 (fun Z => (5 = 5 /\ 0 <= ((i : Int) : Int) /\ ((i : Int) : Int) <= ((i + ((((X.length + 1 : Nat) : Int) - (i : Int)).toNat) : Nat) : Int) /\ ((i + ((((X.length + 1 : Nat) : Int) - (i : Int)).toNat) : Nat) : Int) <= ((i + ((((X.length + 1 : Nat) : Int) - (i : Int)).toNat) : Nat) : Int)) /\ (0 + 1 * 5 <= (fc y).length) /\ (5 = 5 /\ 0 + i * 5 + min 1 ((i + ((((X.length + 1 : Nat) : Int) - (i : Int)).toNat)) - i) * 5 <= (fl fc (X.take i) ++ zrs (X.length + 1 - i) zt).length) /\ Z) ⟨⟨rfl, by omega, by omega, by omega⟩, (by (first | omega | (simp only [LL, hfl, hfy, zrs_len']; omega))), ⟨rfl, by (first | omega | (simp only [LL, hfl, hfy, zrs_len']; omega))⟩, run_H (H' := [(8, fl fc (X.take i ++ [y]) ++ zrs (X.length - i) zt), (0, fl fc X ++ List.replicate ((c - X.length) * 5) AV.dead), (4, fc y)]) (by rw [show spl (fl fc (X.take i) ++ zrs (X.length + 1 - i) zt) (0 + i * 5) ((((fc y).drop 0).take (1 * 5)).take (min 1 ((i + ((((X.length + 1 : Nat) : Int) - (i : Int)).toNat)) - i) * 5)) = fl fc (X.take i ++ [y]) ++ zrs (X.length - i) zt from (by have e := ig2 hf X y i (X.length + 1 - i) zt rfl (by omega) (by omega); rw [show X.length + 1 - i - 1 = X.length - i by omega] at e; rw [<- e]; congr 1 <;> first | omega | (rw [List.drop_zero, List.take_take, List.take_of_length_le (by rw [hfy]; omega)]))]) (Fn0 [0, 1, 7, 9] [] ?_)⟩))
 refine Qr [0, 0, 0, 6, 15, 0, 0, 96, 255] [(0, []), (1, []), (2, []), (3, []), (4, []), (5, []), (6, []), (7, []), (8, [])] (qAv1 4 49 [(48, .int .i64 1), (47, .int .i64 i), (46, .osl 8 5 0 (i + ((((X.length + 1 : Nat) : Int) - (i : Int)).toNat)))] (congrArg (AV.int .i64) (wn1 i (by omega))) (Ki /\ ·) ⟨rfl, qAn3 5 [(54, .int .i64 ((min (X.length - i) ((i + ((((X.length + 1 : Nat) : Int) - (i : Int)).toNat)) - (i + 1)) : Nat) : Int)), (53, .ocl 0 5 (0 + i * 5) (X.length - i) (c - i)), (52, .int .i64 i), (51, .ocl 0 5 0 X.length c), (50, .osl 8 5 (0 + (i + 1) * 5) ((i + ((((X.length + 1 : Nat) : Int) - (i : Int)).toNat)) - (i + 1)))] [(8, spl (fl fc (X.take i ++ [y]) ++ zrs (X.length - i) zt) (0 + (i + 1) * 5) ((((fl fc X ++ List.replicate ((c - X.length) * 5) AV.dead).drop (0 + i * 5)).take ((X.length - i) * 5)).take (min (X.length - i) ((i + ((((X.length + 1 : Nat) : Int) - (i : Int)).toNat)) - (i + 1)) * 5))), (0, fl fc X ++ List.replicate ((c - X.length) * 5) AV.dead), (4, fc y)] 12 (fun Z => (5 = 5 /\ 0 <= (((i + 1 : Nat) : Int) : Int) /\ (((i + 1 : Nat) : Int) : Int) <= ((i + ((((X.length + 1 : Nat) : Int) - (i : Int)).toNat) : Nat) : Int) /\ ((i + ((((X.length + 1 : Nat) : Int) - (i : Int)).toNat) : Nat) : Int) <= ((i + ((((X.length + 1 : Nat) : Int) - (i : Int)).toNat) : Nat) : Int)) /\ (5 = 5 /\ 0 <= ((i : Int) : Int) /\ ((i : Int) : Int) <= (X.length : Int) /\ (X.length : Int) <= (c : Int)) /\ (0 + i * 5 + (X.length - i) * 5 <= (fl fc X ++ List.replicate ((c - X.length) * 5) AV.dead).length) /\ (5 = 5 /\ 0 + (i + 1) * 5 + min (X.length - i) ((i + ((((X.length + 1 : Nat) : Int) - (i : Int)).toNat)) - (i + 1)) * 5 <= (fl fc (X.take i ++ [y]) ++ zrs (X.length - i) zt).length) /\ (True) /\ Z) ⟨⟨rfl, by omega, by omega, by omega⟩, ⟨rfl, by omega, by omega, by omega⟩, (by (first | omega | (simp only [LL, hfl, hfy, zrs_len']; omega))), ⟨rfl, by (first | omega | (simp only [LL, hfl, hfy, zrs_len']; omega))⟩, trivial, runq_H (H' := [(8, fl fc (X.take i ++ [y] ++ X.drop i)), (0, fl fc X ++ List.replicate ((c - X.length) * 5) AV.dead), (4, fc y)]) (by rw [show spl (fl fc (X.take i ++ [y]) ++ zrs (X.length - i) zt) (0 + (i + 1) * 5) ((((fl fc X ++ List.replicate ((c - X.length) * 5) AV.dead).drop (0 + i * 5)).take ((X.length - i) * 5)).take (min (X.length - i) ((i + ((((X.length + 1 : Nat) : Int) - (i : Int)).toNat)) - (i + 1)) * 5)) = fl fc (X.take i ++ [y] ++ X.drop i) from (by rw [<- ig3 hf X y i zt rfl (by omega)]; congr 1 <;> first | omega | (rw [<- ig5 hf X _ i (by omega)]; congr 1; omega))]) (qFn0 [9] [] ?_)⟩⟩)
 refine Rr (Fn0 [] [(6, .osl 8 5 0 (i + ((((X.length + 1 : Nat) : Int) - (i : Int)).toNat)))] (Rt (.osl 8 5 0 (i + ((((X.length + 1 : Nat) : Int) - (i : Int)).toNat))) ?_))
 · refine ⟨_, List.Sublist.refl _, 8, [], rfl, ?_, ?_⟩
   · show AV.osl _ _ _ _ = AV.osl _ _ _ _
     congr 1
     simp only [List.length_append, List.length_take, List.length_drop, List.length_cons, List.length_nil]; omega
   · refine Eq.trans (b := some (fl fc (X.take i ++ [y] ++ X.drop i))) (by kernel_rfl) ?_
     first
       | rfl
       | (rw [List.append_nil]; done)
       | (rw [List.append_nil, show i = X.length by omega, List.take_length, List.drop_length, List.append_nil, fl_app, fl_one])
 try simp only [KF] at c13
 refine Sk (Jn (hK11 (Kp [0, 1, 2, 7, 8] (Rr (Av1 4 59 [(58, .int .i64 1), (57, .int .i64 X.length), (56, .ocl 0 5 0 X.length c)] (congrArg (AV.int .i64) (wn1 X.length (by omega))) (Ki /\ ·) ⟨rfl, Fn1 [1, 2, 7, 8] [(0, .ocl 0 5 0 (X.length + 1) c)] ((5 = 5 /\ 0 <= (0 : Int) /\ (0 : Int) <= ((X.length + 1 : Nat) : Int) /\ ((X.length + 1 : Nat) : Int) <= (c : Int)) /\ ·) ⟨⟨rfl, by omega, by omega, by omega⟩, Sq fun K19 hK19 => ?_⟩⟩)))))
 refine Rr (Av1 5 65 [(64, .int .i64 1), (63, .int .i64 i), (62, .ocl 0 5 0 (X.length + 1) c), (61, .osl 4 5 0 1)] (congrArg (AV.int .i64) (wn1 i (by omega))) (Ki /\ ·) ⟨rfl, Bc1 2 [(66, .ocl 0 5 (0 + (i + 1) * 5) ((X.length + 1) - (i + 1)) (c - (i + 1)))] 99 [.osl 4 5 0 1, .ocl 0 5 (0 + (i + 1) * 5) ((X.length + 1) - (i + 1)) (c - (i + 1))] 67 ((5 = 5 /\ 0 <= (((i + 1 : Nat) : Int) : Int) /\ (((i + 1 : Nat) : Int) : Int) <= ((X.length + 1 : Nat) : Int) /\ ((X.length + 1 : Nat) : Int) <= (c : Int)) /\ ·) ⟨⟨rfl, by omega, by omega, by omega⟩, ov_use (t := 24) (e := 26) (tR := 4) (ca := fc y) (cb' := fl fc X ++ List.replicate ((c - X.length) * 5) AV.dead) (Ke ?_) (by kernel_rfl) (by kernel_rfl) (by kernel_rfl) (by kernel_rfl) (by omega) rfl (by decide) t24 rfl t26 Tryz.func99 (by kernel_rfl) (by kernel_rfl) (by kernel_rfl) (by kernel_rfl)⟩⟩)
 refine Fn0 [0, 1, 2, 7, 8] [(68, .bool true)] (Ct (Qr [0, 0, 0, 6, 15, 0, 0, 96, 255] [(0, []), (1, []), (2, []), (3, []), (4, []), (5, []), (6, []), (7, []), (8, [])] (qAv1 4 72 [(71, .int .i64 1), (70, .int .i64 i), (69, .ocl 0 5 0 (X.length + 1) c)] (congrArg (AV.int .i64) (wn1 i (by omega))) (Ki /\ ·) ⟨rfl, qAn3 5 [(77, .int .i64 ((min ((X.length + 1) - i) ((X.length + 1) - (i + 1)) : Nat) : Int)), (76, .ocl 0 5 (0 + i * 5) ((X.length + 1) - i) (c - i)), (75, .int .i64 i), (74, .ocl 0 5 0 (X.length + 1) c), (73, .ocl 0 5 (0 + (i + 1) * 5) ((X.length + 1) - (i + 1)) (c - (i + 1)))] [(0, spl (fl fc X ++ List.replicate ((c - X.length) * 5) AV.dead) (0 + (i + 1) * 5) ((((fl fc X ++ List.replicate ((c - X.length) * 5) AV.dead).drop (0 + i * 5)).take (((X.length + 1) - i) * 5)).take (min ((X.length + 1) - i) ((X.length + 1) - (i + 1)) * 5))), (4, fc y)] 8 ((5 = 5 /\ 0 <= (((i + 1 : Nat) : Int) : Int) /\ (((i + 1 : Nat) : Int) : Int) <= ((X.length + 1 : Nat) : Int) /\ ((X.length + 1 : Nat) : Int) <= (c : Int)) /\ (5 = 5 /\ 0 <= ((i : Int) : Int) /\ ((i : Int) : Int) <= ((X.length + 1 : Nat) : Int) /\ ((X.length + 1 : Nat) : Int) <= (c : Int)) /\ (0 + i * 5 + ((X.length + 1) - i) * 5 <= (fl fc X ++ List.replicate ((c - X.length) * 5) AV.dead).length) /\ (5 = 5 /\ 0 + (i + 1) * 5 + min ((X.length + 1) - i) ((X.length + 1) - (i + 1)) * 5 <= (fl fc X ++ List.replicate ((c - X.length) * 5) AV.dead).length) /\ (True) /\ ·) ⟨⟨rfl, by omega, by omega, by omega⟩, ⟨rfl, by omega, by omega, by omega⟩, (by (first | omega | (simp only [LL, hfl, hfy, zrs_len']; omega))), ⟨rfl, by (first | omega | (simp only [LL, hfl, hfy, zrs_len']; omega))⟩, trivial, ?_⟩⟩)))
 refine runq_H (H' := [(0, fl fc (X.take (i + 1) ++ X.drop i) ++ (List.replicate ((c - X.length) * 5) AV.dead).drop 5), (4, fc y)]) (by rw [show spl (fl fc X ++ List.replicate ((c - X.length) * 5) AV.dead) (0 + (i + 1) * 5) ((((fl fc X ++ List.replicate ((c - X.length) * 5) AV.dead).drop (0 + i * 5)).take (((X.length + 1) - i) * 5)).take (min ((X.length + 1) - i) ((X.length + 1) - (i + 1)) * 5)) = fl fc (X.take (i + 1) ++ X.drop i) ++ (List.replicate ((c - X.length) * 5) AV.dead).drop 5 from (by rw [<- is1 hf X _ i (by omega) (by rw [List.length_replicate]; omega), ig6 hf X _ i (X.length + 1 - (i + 1)) (by omega) (by omega), show 0 + (i + 1) * 5 = (i + 1) * 5 by omega])]) ?_
 refine qFn0 [0, 1, 2] [] (Rr (An3 5 [(82, .int .i64 ((min 1 ((X.length + 1) - i) : Nat) : Int)), (81, .osl 4 5 0 1), (80, .ocl 0 5 (0 + i * 5) ((X.length + 1) - i) (c - i)), (79, .int .i64 i), (78, .ocl 0 5 0 (X.length + 1) c)] [(0, spl (fl fc (X.take (i + 1) ++ X.drop i) ++ (List.replicate ((c - X.length) * 5) AV.dead).drop 5) (0 + i * 5) ((((fc y).drop 0).take (1 * 5)).take (min 1 ((X.length + 1) - i) * 5))), (4, fc y)] 8 ((5 = 5 /\ 0 <= ((i : Int) : Int) /\ ((i : Int) : Int) <= ((X.length + 1 : Nat) : Int) /\ ((X.length + 1 : Nat) : Int) <= (c : Int)) /\ (0 + 1 * 5 <= (fc y).length) /\ (5 = 5 /\ 0 + i * 5 + min 1 ((X.length + 1) - i) * 5 <= (fl fc (X.take (i + 1) ++ X.drop i) ++ (List.replicate ((c - X.length) * 5) AV.dead).drop 5).length) /\ ·) ⟨⟨rfl, by omega, by omega, by omega⟩, (by (first | omega | (simp only [LL, hfl, hfy, zrs_len']; omega))), ⟨rfl, by (first | omega | (simp only [LL, hfl, hfy, zrs_len']; omega))⟩, run_H (H' := [(0, fl fc (X.take i ++ [y] ++ X.drop i) ++ (List.replicate ((c - X.length) * 5) AV.dead).drop 5), (4, fc y)]) (by rw [show spl (fl fc (X.take (i + 1) ++ X.drop i) ++ (List.replicate ((c - X.length) * 5) AV.dead).drop 5) (0 + i * 5) ((((fc y).drop 0).take (1 * 5)).take (min 1 ((X.length + 1) - i) * 5)) = fl fc (X.take i ++ [y] ++ X.drop i) ++ (List.replicate ((c - X.length) * 5) AV.dead).drop 5 from (by rw [<- is2 hf X _ y i (by omega)]; congr 1 <;> first | omega | (rw [List.drop_zero, List.take_take, List.take_of_length_le (by rw [hfy]; omega)]))]) (Fn0 [0] [] ?_)⟩))
 refine Rr (Fn0 [] [(6, .ocl 0 5 0 (X.length + 1) c)] (Rt (.ocl 0 5 0 (X.length + 1) c) ?_))
 · refine ⟨_, List.Sublist.refl _, 0, (List.replicate ((c - X.length) * 5) AV.dead).drop 5, rfl, ?_, ?_⟩
   · show AV.osl _ _ _ _ = AV.osl _ _ _ _
     congr 1
     simp only [List.length_append, List.length_take, List.length_drop, List.length_cons, List.length_nil]; omega
   · refine Eq.trans (b := some (fl fc (X.take i ++ [y] ++ X.drop i) ++ (List.replicate ((c - X.length) * 5) AV.dead).drop 5)) (by kernel_rfl) ?_
     first
       | rfl
       | (rw [List.append_nil]; done)
       | (rw [List.append_nil, show i = X.length by omega, List.take_length, List.drop_length, List.append_nil, fl_app, fl_one])
open Go Go.Proofs
set_option maxRecDepth 100000
theorem delS {α : Type} {fc : α -> List AV} (hf : ∀ x, (fc x).length = 1) (X : List α) (i c : Nat) (hi : i < X.length) (hX : X.length < 2 ^ 36) (hc : X.length <= c) : TCw 1 G 82 [.ocl 0 1 0 X.length c, .int .i64 i, .int .i64 ((i + 1 : Nat) : Int)] [(0, fl fc X)] 4 (fun r H1 _ => ∃ tl, unc r = .osl 0 1 0 (X.take i ++ X.drop (i + 1)).length /\ hgt H1 0 = some (fl fc (X.take i ++ X.drop (i + 1)) ++ tl)) := by
 have hfl := fun l : List α => fl_len' hf l
 refine TCw_enter (c := bd Tryz.f82) Tryz.func82 (by kernel_rfl) (by kernel_rfl) (tt_eq (F := [(0, .ocl 0 1 0 X.length c), (1, .int .i64 i), (2, .int .i64 ((i + 1 : Nat) : Int))]) (by kernel_rfl) ?_)
 refine Rr (Fn0 [0, 1, 2] [] (Rr (Fn1 [0, 1, 2] [] ((1 = 1 /\ (0 : Int) <= (i : Int) /\ (i : Int) <= ((i + 1 : Nat) : Int) /\ ((i + 1 : Nat) : Int) <= (X.length : Int) /\ (X.length : Int) <= (c : Int)) /\ ·) ⟨⟨rfl, by omega, by omega, by omega, by omega⟩, Sq fun K3 hK3 => ?_⟩)))
 refine Rr (Cn1 (decide ((i : Int) = ((i + 1 : Nat) : Int))) [0, 1, 2] [] (Ki /\ ·) ⟨rfl, fun hc5 c5 => ?_, fun hc5 c5 => ?_⟩)
 try simp only [KF] at c5
 exfalso; omega
 try simp only [KF] at c5
 refine Sk (Jn (hK3 (Kp [0, 1, 2] (Rr (Fn0 [0, 1, 2] [(7, .int .i64 X.length)] (Sl [0, 0, 3, 0, 0, 24, 63] [(0, []), (1, []), (2, []), (3, []), (4, []), (5, []), (6, [])] fun K7 hK7 => ?_))))))
 refine qAn3 7 [(26, .ocl 0 1 0 (i + (X.length - (i + 1))) c), (25, .ocl 0 1 (0 + (i + 1) * 1) (X.length - (i + 1)) (c - (i + 1))), (24, .int .i64 ((i + 1 : Nat) : Int)), (23, .ocl 0 1 0 X.length c), (22, .ocl 0 1 0 i c), (21, .int .i64 i), (20, .ocl 0 1 0 X.length c)] [(0, spl (fl fc X) (i * 1) (((fl fc X).drop (0 + (i + 1) * 1)).take ((X.length - (i + 1)) * 1)))] 4 ((1 = 1 /\ 0 <= (0 : Int) /\ (0 : Int) <= (i : Int) /\ (i : Int) <= (c : Int)) /\ (1 = 1 /\ 0 <= (((i + 1 : Nat) : Int) : Int) /\ (((i + 1 : Nat) : Int) : Int) <= (X.length : Int) /\ (X.length : Int) <= (c : Int)) /\ (0 + (i + 1) * 1 + (X.length - (i + 1)) * 1 <= (fl fc X).length) /\ (1 = 1 /\ i + (X.length - (i + 1)) <= c /\ (i + (X.length - (i + 1))) * 1 <= (fl fc X).length) /\ (True) /\ ·) ⟨⟨rfl, by omega, by omega, by omega⟩, ⟨rfl, by omega, by omega, by omega⟩, (by (first | omega | (simp only [LL, hfl, zrs_len']; omega))), ⟨rfl, by (first | omega | (simp only [LL, hfl, zrs_len']; omega)), by (first | omega | (simp only [LL, hfl, zrs_len']; omega))⟩, trivial, runq_H (H' := [(0, fl fc (X.take i ++ X.drop (i + 1)) ++ fl fc (X.drop (X.length - 1)))]) (by rw [show spl (fl fc X) (i * 1) (((fl fc X).drop (0 + (i + 1) * 1)).take ((X.length - (i + 1)) * 1)) = fl fc (X.take i ++ X.drop (i + 1)) ++ fl fc (X.drop (X.length - 1)) from (by rw [<- id1 hf X i (by omega), Nat.zero_add, fl_drop hf, List.take_of_length_le (by rw [hfl, List.length_drop]; omega)])]) (qGn0 [] (Lo 0 (.ocl 0 1 0 (i + (X.length - (i + 1))) c) (fun Z => Z) (hK7 _ _ _ ?_)))⟩
 refine Kp [0, 7] (Rr (An3 6 [(31, .ocl 0 1 (0 + (i + (X.length - (i + 1))) * 1) (X.length - (i + (X.length - (i + 1)))) (c - (i + (X.length - (i + 1))))), (30, .int .i64 X.length), (29, .int .i64 ((i + (X.length - (i + 1)) : Nat) : Int)), (28, .ocl 0 1 0 (i + (X.length - (i + 1))) c), (27, .ocl 0 1 0 (i + (X.length - (i + 1))) c)] [(0, spl (fl fc (X.take i ++ X.drop (i + 1)) ++ fl fc (X.drop (X.length - 1))) (0 + (i + (X.length - (i + 1))) * 1) (zrs (X.length - (i + (X.length - (i + 1)))) [.str []]))] 4 (fun Z => (1 = 1 /\ 0 <= (((i + (X.length - (i + 1)) : Nat) : Int) : Int) /\ (((i + (X.length - (i + 1)) : Nat) : Int) : Int) <= (X.length : Int) /\ (X.length : Int) <= (c : Int)) /\ (1 = 1 /\ 0 + (i + (X.length - (i + 1))) * 1 + (X.length - (i + (X.length - (i + 1)))) * 1 <= (fl fc (X.take i ++ X.drop (i + 1)) ++ fl fc (X.drop (X.length - 1))).length) /\ Z) ⟨⟨rfl, by omega, by omega, by omega⟩, ⟨rfl, by (first | omega | (simp only [LL, hfl, zrs_len']; omega))⟩, run_H (H' := [(0, fl fc (X.take i ++ X.drop (i + 1)) ++ zrs 1 [.str []])]) (by rw [show spl (fl fc (X.take i ++ X.drop (i + 1)) ++ fl fc (X.drop (X.length - 1))) (0 + (i + (X.length - (i + 1))) * 1) (zrs (X.length - (i + (X.length - (i + 1)))) [.str []]) = fl fc (X.take i ++ X.drop (i + 1)) ++ zrs 1 [.str []] from (by rw [<- id2 hf X i [.str []] rfl (by omega)]; congr 1 <;> first | omega | (congr 1; omega))]) (Fn0 [0] [] ?_)⟩))
 refine Rr (Fn0 [] [(6, .ocl 0 1 0 (i + (X.length - (i + 1))) c)] (Rt (.ocl 0 1 0 (i + (X.length - (i + 1))) c) (⟨_, List.Sublist.refl _, zrs 1 [.str []], ?_, ?_⟩)))
 · show AV.osl _ _ _ _ = AV.osl _ _ _ _
   congr 1
   simp only [List.length_append, List.length_take, List.length_drop]; omega
 · kernel_rfl
theorem delT {α : Type} {fc : α -> List AV} (hf : ∀ x, (fc x).length = 5) (X : List α) (i c : Nat) (hi : i < X.length) (hX : X.length < 2 ^ 36) (hc : X.length <= c) : TCw 1 G 83 [.ocl 0 5 0 X.length c, .int .i64 i, .int .i64 ((i + 1 : Nat) : Int)] [(0, fl fc X)] 4 (fun r H1 _ => ∃ tl, unc r = .osl 0 5 0 (X.take i ++ X.drop (i + 1)).length /\ hgt H1 0 = some (fl fc (X.take i ++ X.drop (i + 1)) ++ tl)) := by
 have hfl := fun l : List α => fl_len' hf l
 refine TCw_enter (c := bd Tryz.f83) Tryz.func83 (by kernel_rfl) (by kernel_rfl) (tt_eq (F := [(0, .ocl 0 5 0 X.length c), (1, .int .i64 i), (2, .int .i64 ((i + 1 : Nat) : Int))]) (by kernel_rfl) ?_)
 refine Rr (Fn0 [0, 1, 2] [] (Rr (Fn1 [0, 1, 2] [] ((5 = 5 /\ (0 : Int) <= (i : Int) /\ (i : Int) <= ((i + 1 : Nat) : Int) /\ ((i + 1 : Nat) : Int) <= (X.length : Int) /\ (X.length : Int) <= (c : Int)) /\ ·) ⟨⟨rfl, by omega, by omega, by omega, by omega⟩, Sq fun K3 hK3 => ?_⟩)))
 refine Rr (Cn1 (decide ((i : Int) = ((i + 1 : Nat) : Int))) [0, 1, 2] [] (Ki /\ ·) ⟨rfl, fun hc5 c5 => ?_, fun hc5 c5 => ?_⟩)
 try simp only [KF] at c5
 exfalso; omega
 try simp only [KF] at c5
 refine Sk (Jn (hK3 (Kp [0, 1, 2] (Rr (Fn0 [0, 1, 2] [(7, .int .i64 X.length)] (Sl [0, 0, 3, 0, 0, 24, 63] [(0, []), (1, []), (2, []), (3, []), (4, []), (5, []), (6, [])] fun K7 hK7 => ?_))))))
 refine qAn3 7 [(26, .ocl 0 5 0 (i + (X.length - (i + 1))) c), (25, .ocl 0 5 (0 + (i + 1) * 5) (X.length - (i + 1)) (c - (i + 1))), (24, .int .i64 ((i + 1 : Nat) : Int)), (23, .ocl 0 5 0 X.length c), (22, .ocl 0 5 0 i c), (21, .int .i64 i), (20, .ocl 0 5 0 X.length c)] [(0, spl (fl fc X) (i * 5) (((fl fc X).drop (0 + (i + 1) * 5)).take ((X.length - (i + 1)) * 5)))] 4 ((5 = 5 /\ 0 <= (0 : Int) /\ (0 : Int) <= (i : Int) /\ (i : Int) <= (c : Int)) /\ (5 = 5 /\ 0 <= (((i + 1 : Nat) : Int) : Int) /\ (((i + 1 : Nat) : Int) : Int) <= (X.length : Int) /\ (X.length : Int) <= (c : Int)) /\ (0 + (i + 1) * 5 + (X.length - (i + 1)) * 5 <= (fl fc X).length) /\ (5 = 5 /\ i + (X.length - (i + 1)) <= c /\ (i + (X.length - (i + 1))) * 5 <= (fl fc X).length) /\ (True) /\ ·) ⟨⟨rfl, by omega, by omega, by omega⟩, ⟨rfl, by omega, by omega, by omega⟩, (by (first | omega | (simp only [LL, hfl, zrs_len']; omega))), ⟨rfl, by (first | omega | (simp only [LL, hfl, zrs_len']; omega)), by (first | omega | (simp only [LL, hfl, zrs_len']; omega))⟩, trivial, runq_H (H' := [(0, fl fc (X.take i ++ X.drop (i + 1)) ++ fl fc (X.drop (X.length - 1)))]) (by rw [show spl (fl fc X) (i * 5) (((fl fc X).drop (0 + (i + 1) * 5)).take ((X.length - (i + 1)) * 5)) = fl fc (X.take i ++ X.drop (i + 1)) ++ fl fc (X.drop (X.length - 1)) from (by rw [<- id1 hf X i (by omega), Nat.zero_add, fl_drop hf, List.take_of_length_le (by rw [hfl, List.length_drop]; omega)])]) (qGn0 [] (Lo 0 (.ocl 0 5 0 (i + (X.length - (i + 1))) c) (fun Z => Z) (hK7 _ _ _ ?_)))⟩
 refine Kp [0, 7] (Rr (An3 6 [(31, .ocl 0 5 (0 + (i + (X.length - (i + 1))) * 5) (X.length - (i + (X.length - (i + 1)))) (c - (i + (X.length - (i + 1))))), (30, .int .i64 X.length), (29, .int .i64 ((i + (X.length - (i + 1)) : Nat) : Int)), (28, .ocl 0 5 0 (i + (X.length - (i + 1))) c), (27, .ocl 0 5 0 (i + (X.length - (i + 1))) c)] [(0, spl (fl fc (X.take i ++ X.drop (i + 1)) ++ fl fc (X.drop (X.length - 1))) (0 + (i + (X.length - (i + 1))) * 5) (zrs (X.length - (i + (X.length - (i + 1)))) zt))] 4 (fun Z => (5 = 5 /\ 0 <= (((i + (X.length - (i + 1)) : Nat) : Int) : Int) /\ (((i + (X.length - (i + 1)) : Nat) : Int) : Int) <= (X.length : Int) /\ (X.length : Int) <= (c : Int)) /\ (5 = 5 /\ 0 + (i + (X.length - (i + 1))) * 5 + (X.length - (i + (X.length - (i + 1)))) * 5 <= (fl fc (X.take i ++ X.drop (i + 1)) ++ fl fc (X.drop (X.length - 1))).length) /\ Z) ⟨⟨rfl, by omega, by omega, by omega⟩, ⟨rfl, by (first | omega | (simp only [LL, hfl, zrs_len']; omega))⟩, run_H (H' := [(0, fl fc (X.take i ++ X.drop (i + 1)) ++ zrs 1 zt)]) (by rw [show spl (fl fc (X.take i ++ X.drop (i + 1)) ++ fl fc (X.drop (X.length - 1))) (0 + (i + (X.length - (i + 1))) * 5) (zrs (X.length - (i + (X.length - (i + 1)))) zt) = fl fc (X.take i ++ X.drop (i + 1)) ++ zrs 1 zt from (by rw [<- id2 hf X i zt rfl (by omega)]; congr 1 <;> first | omega | (congr 1; omega))]) (Fn0 [0] [] ?_)⟩))
 refine Rr (Fn0 [] [(6, .ocl 0 5 0 (i + (X.length - (i + 1))) c)] (Rt (.ocl 0 5 0 (i + (X.length - (i + 1))) c) (⟨_, List.Sublist.refl _, zrs 1 zt, ?_, ?_⟩)))
 · show AV.osl _ _ _ _ = AV.osl _ _ _ _
   congr 1
   simp only [List.length_append, List.length_take, List.length_drop]; omega
 · kernel_rfl
theorem isNaN1_ok (s : Str) : PE G 77 [.str s] (.bool false) := by
 refine Pe Tryz.func77 ?_
 refine Rr (Fn0 [0] [] (Rr (Fn0 [] [(2, .bool (!(s == s)))] (Rt (.bool (!(s == s))) ?_))))
 refine fin_lea (by rw [beq_self_eq_true]; exact lea_refl _)
theorem isNaN2_ok (s : Str) : PE G 96 [.str s] (.bool false) := by
 refine Pe Tryz.func96 ?_
 refine Rr (Fn0 [0] [] (Rr (Fn0 [] [(2, .bool (!(s == s)))] (Rt (.bool (!(s == s))) ?_))))
 refine fin_lea (by rw [beq_self_eq_true]; exact lea_refl _)
theorem less_ok (a b : Str) : PE G 95 [.str a, .str b] (.bool (blt a b)) := by
 refine Pe Tryz.func95 ?_
 refine Rr (Fn0 [0, 1] [] (Rr (Pc0 2 [(5, .str a)] 6 (isNaN1_ok a) (Fn0 [] [(4, .bool (blt a b))] ?_))))
 refine Rt (.bool (blt a b)) ?_
 exact fin_lea (lea_refl _)
theorem idx_no {a b : Str} (h : (a == b) = false) : (b == a) = false := by
  cases hx : (b == a)
  · rfl
  · rw [(eq_of_beq hx).symm, beq_self_eq_true] at h; cases h
theorem index_ok (X : List Str) (nm : Str) (hX : X.length < 2 ^ 40) : PE G 78 [pth X, .str nm] (.int .i64 (fndI nm X)) := by
 refine Pe Tryz.func78 ?_
 refine Rr (Fn0 [0, 1] [] (Sq fun K2 hK2 => ?_))
 refine Rr (Av0 (r := .int .i64 ((X.map (fun s => [AV.str s])).length : Nat)) (v := .int .i64 X.length) 2 7 [(6, pth X)] (by rw [List.length_map]) (Fn0 [0, 1, 7] [(8, .int .i64 0)] (Bl (h_l (fun (k : Nat) => ([(0, pth X), (1, .str nm), (7, .int .i64 X.length), (8, .int .i64 k)] : Fr)) (fun (k : Nat) => ([] : Hp)) (fun (k : Nat) cn => (k <= X.length /\ fnd nm (X.take k) = none) /\ cn = 0) (fun (k : Nat) => X.length - k) 0 (by kernel_rfl) ?_ ?_ ?_ ?_))))
 refine ⟨?_, rfl⟩; exact ⟨Nat.zero_le _, by simp [fnd]⟩
 exact ⟨by kernel_rfl, by kernel_rfl, by kernel_rfl, by kernel_rfl, trivial⟩
 exact (List.nil_sublist _)
 rintro k n1 hI
 (try dsimp only at hI)
 obtain ⟨⟨hk, hk2⟩, rfl⟩ := hI
 refine Rr (Fn1 [0, 1, 7, 8] [(9, .bool (decide ((k : Int) < (X.length : Int))))] (Ki /\ ·) ⟨rfl, Sq fun K5 hK5 => ?_⟩)
 refine Cc (decide ((k : Int) < (X.length : Int))) (fun hc6 c6 => ?_) fun hc6 c6 => ?_
 try simp only [KF] at c6
 refine Sk (Jn (hK5 (Kp [0, 1, 7, 8] (Sq fun K7 hK7 => ?_))))
 refine Bl (Rr (Fn0 [0, 1, 7, 8] [(5, .int .i64 k)] (Rr (Av1 4 14 [(13, .int .i64 k), (12, pth X), (11, .str nm)] (congrArg AV.pat (mg_str X k (by omega))) ((1 = 1 /\ (0 : Int) <= (k : Int) /\ (k : Int) < ((X.map (fun s => [AV.str s])).length : Int)) /\ ·) ⟨⟨rfl, by omega, by rw [List.length_map]; omega⟩, ?_⟩))))
 refine Cn1 (nm == (X.getD k default)) [0, 1, 5, 7, 8] [] ((1 <= 1 /\ 0 < 1) /\ ·) ⟨(by decide), fun hc10 c10 => ?_, fun hc10 c10 => ?_⟩
 try simp only [KF] at c10
 refine Rr (Fn0 [] [(4, .int .i64 k)] (Rt (.int .i64 k) (fin_lea ?_)))
 unfold fndI
 first
   | (rw [fnd_found nm X k (by omega) hk2 (by rw [beq_iff_eq]; exact (eq_of_beq hc10).symm)]; exact lea_refl _)
   | (rw [fnd_full nm X k (by omega) hk2]; exact lea_refl _)
 try simp only [KF] at c10
 refine Sk (Bn (Jn (hK7 (Kp [0, 1, 7, 8] (Rn (Av1 1 18 [] (congrArg (AV.int .i64) (wn1 k (by omega))) (Ki /\ ·) ⟨rfl, Gn0 [(8, .int .i64 ((k + 1 : Nat) : Int))] (nk_n ?_)⟩))))))
 refine Lr (k + 1) [] 0 [(0, pth X), (1, .str nm), (7, .int .i64 X.length), (8, .int .i64 ((k + 1 : Nat) : Int))] [] [] ?_ ?_ (by kernel_rfl) (by kernel_rfl)
 (try dsimp only); omega
 refine ⟨?_, rfl⟩; exact ⟨by omega, fnd_step nm X k (by omega) hk2 (idx_no hc10)⟩
 try simp only [KF] at c6
 refine Xt (Jx (Lx (Bh (Jn (hK2 (Kp [] (Rr (Fn0 [] [(4, .int .i64 (-1))] (Rt (.int .i64 (-1)) (fin_lea ?_))))))))))
 unfold fndI
 first
   | (rw [fnd_found nm X k (by omega) hk2 (by rw [beq_iff_eq]; exact (eq_of_beq hc6).symm)]; exact lea_refl _)
   | (rw [fnd_full nm X k (by omega) hk2]; exact lea_refl _)
theorem blt_trans : ∀ {a b c : Str}, blt a b = true -> blt b c = true -> blt a c = true
  | _, [], _, h, _ => by simp [blt, Op.bytesLess] at h
  | _, _ :: _, [], _, h => by simp [blt, Op.bytesLess] at h
  | [], _ :: _, _ :: _, _, _ => by simp [blt, Op.bytesLess]
  | x :: a, y :: b, z :: c, h, k => by
    simp only [blt, Op.bytesLess, Bool.or_eq_true, Bool.and_eq_true, decide_eq_true_eq, beq_iff_eq] at h k ⊢
    rcases h with h | ⟨rfl, h⟩ <;> rcases k with k | ⟨rfl, k⟩
    · exact .inl (UInt8.lt_trans h k)
    · exact .inl h
    · exact .inl k
    · exact .inr ⟨rfl, blt_trans (a := a) (b := b) (c := c) h k⟩
theorem asc_lt {X : List Str} {i j : Nat} (h : asc X = true) (hij : i < j) (hj : j < X.length) : blt (X.getD i default) (X.getD j default) = true := by
  induction j with
  | zero => omega
  | succ j ih =>
    have e := asc_pre X (j + 1 + 1) h
    rw [asc_take X (j + 1) hj] at e
    simp only [Bool.and_eq_true, Bool.or_eq_true, decide_eq_true_eq, Nat.add_sub_cancel] at e
    have e2 := e.2.resolve_left (by omega)
    rcases Nat.lt_or_ge i j with h1 | h1
    · exact blt_trans (ih h1 (by omega)) e2
    · obtain rfl : i = j := by omega
      exact e2
theorem bs_up {X : List Str} {nm : Str} {m : Nat} (ha : asc X = true) (hm : m < X.length) (h : blt (X.getD m default) nm = true) : ∀ j, j < m + 1 -> blt (X.getD j default) nm = true := by
  intro j hj
  rcases Nat.lt_or_ge j m with h1 | h1
  · exact blt_trans (asc_lt ha h1 hm) h
  · obtain rfl : j = m := by omega
    exact h
theorem bs_dn {X : List Str} {nm : Str} {m : Nat} (ha : asc X = true) (h : blt (X.getD m default) nm = false) : ∀ j, m <= j -> j < X.length -> blt (X.getD j default) nm = false := by
  intro j h1 h2
  rcases Nat.lt_or_ge m j with h3 | h3
  · cases hb : blt (X.getD j default) nm
    · rfl
    · rw [blt_trans (asc_lt ha h3 h2) hb] at h; cases h
  · obtain rfl : j = m := by omega
    exact h
theorem bsearch_ok (X : List Str) (nm : Str) (hX : X.length < 2 ^ 40) (ha : asc X = true) : PC G 79 [pth X, .str nm] (fun r => ∃ k : Nat, k <= X.length /\ (∀ j, j < k -> blt (X.getD j default) nm = true) /\ (∀ j, k <= j -> j < X.length -> blt (X.getD j default) nm = false) /\ r = .tup [.int .i64 k, .bool (decide (k < X.length) && X.getD k default == nm)]) := by
 refine h_pc (F := [(0, pth X), (1, .str nm)]) (by simp only [go_sem]) Tryz.func79 (by kernel_rfl) (by kernel_rfl) ?_ (by kernel_rfl)
 refine Rr (Fn0 [0, 1] [] (Rr (Av0 (r := .int .i64 ((X.map (fun s => [AV.str s])).length : Nat)) (v := .int .i64 X.length) 2 11 [(10, pth X)] (by rw [List.length_map]) (Fn0 [0, 1] [(6, .int .i64 X.length)] ?_))))
 refine Rr (Fn0 [0, 1, 6] [(8, .int .i64 X.length), (7, .int .i64 0)] (Sq fun K4 hK4 => ?_))
 refine Bl (h_l (fun (z : Nat × Nat) => (match z with | (lo, hi) => ([(0, pth X), (1, .str nm), (6, .int .i64 X.length), (7, .int .i64 lo), (8, .int .i64 hi)] : Fr))) (fun (z : Nat × Nat) => (match z with | (lo, hi) => ([] : Hp))) (fun (z : Nat × Nat) cn => (match z with | (lo, hi) => (lo <= hi /\ hi <= X.length /\ (∀ j, j < lo -> blt (X.getD j default) nm = true) /\ (∀ j, hi <= j -> j < X.length -> blt (X.getD j default) nm = false)) /\ cn = 0)) (fun (z : Nat × Nat) => z.2 - z.1) (0, X.length) (by kernel_rfl) ?_ ?_ ?_ ?_)
 refine ⟨?_, rfl⟩; exact ⟨Nat.zero_le _, Nat.le_refl _, fun j hj => by omega, fun j h1 h2 => by omega⟩
 exact ⟨by kernel_rfl, by kernel_rfl, by kernel_rfl, by kernel_rfl, by kernel_rfl, trivial⟩
 exact (List.nil_sublist _)
 rintro ⟨lo, hi⟩ n1 hI
 (try dsimp only at hI)
 obtain ⟨⟨hlo, hhi, hL, hR⟩, rfl⟩ := hI
 refine Sq fun K5 hK5 => ?_
 refine Rr (Cn1 (decide ((lo : Int) < (hi : Int))) [0, 1, 6, 7, 8] [] (Ki /\ ·) ⟨rfl, fun hc7 c7 => ?_, fun hc7 c7 => ?_⟩)
 try simp only [KF] at c7
 refine Sk (Jn (hK5 (Kp [0, 1, 6, 7, 8] (Bl (Rr (Av1 3 18 [(17, .int .i64 hi), (16, .int .i64 lo)] (congrArg (AV.int .i64) (wnn lo hi (by omega))) (Ki /\ ·) ⟨rfl, Av0 (r := .int .u64 (IntKind.u64.wrap ((lo + hi : Nat) : Int))) (v := .int .u64 ((lo + hi : Nat) : Int)) 1 19 [] (congrArg (AV.int .u64) (wrapu64 (by omega) (by omega))) ?_⟩))))))
 refine Av1 (r := .int .u64 (((lo + hi : Nat) : Int).fdiv (2 ^ min (1 : Int).toNat IntKind.u64.bits))) (v := .int .u64 (((lo + hi) / 2 : Nat) : Int)) 1 20 [] (congrArg (AV.int .u64) (nshr (lo + hi))) (((0 : Int) <= 1) /\ ·) ⟨(by decide), Av0 (r := .int .i64 (IntKind.i64.wrap (((lo + hi) / 2 : Nat) : Int))) (v := .int .i64 (((lo + hi) / 2 : Nat) : Int)) 1 21 [] (congrArg (AV.int .i64) (wrap64 (by omega) (by omega))) (Fn0 [0, 1, 6, 7, 8] [(9, .int .i64 (((lo + hi) / 2 : Nat) : Int))] (Rr (Av1 3 24 [(23, .int .i64 (((lo + hi) / 2 : Nat) : Int)), (22, pth X)] (congrArg AV.pat (mg_str X ((lo + hi) / 2) (by omega))) ((1 = 1 /\ (0 : Int) <= (((lo + hi) / 2 : Nat) : Int) /\ (((lo + hi) / 2 : Nat) : Int) < ((X.map (fun s => [AV.str s])).length : Int)) /\ ·) ⟨⟨rfl, by omega, by rw [List.length_map]; omega⟩, ?_⟩)))⟩
 refine Pc1 3 [(26, .str nm), (25, .str (X.getD ((lo + hi) / 2) default))] 27 (1 <= 1 /\ 0 < 1) (by decide) (less_ok (X.getD ((lo + hi) / 2) default) nm) (Cn0 (blt (X.getD ((lo + hi) / 2) default) nm) [0, 1, 6, 7, 8, 9] [] ⟨fun hc10 c10 => ?_, fun hc10 c10 => ?_⟩)
 try simp only [KF] at c10
 refine Rn (Av1 2 29 [(28, .int .i64 (((lo + hi) / 2 : Nat) : Int))] (congrArg (AV.int .i64) (wn1 ((lo + hi) / 2) (by omega))) (Ki /\ ·) ⟨rfl, Gn0 [(7, .int .i64 ((((lo + hi) / 2) + 1 : Nat) : Int))] (nk_n (Bn ?_))⟩)
 refine Lr ((lo + hi) / 2 + 1, hi) [] 0 [(0, pth X), (1, .str nm), (6, .int .i64 X.length), (7, .int .i64 ((((lo + hi) / 2) + 1 : Nat) : Int)), (8, .int .i64 hi)] [] [] ?_ ?_ (by kernel_rfl) (by kernel_rfl)
 (try dsimp only); omega
 refine ⟨?_, rfl⟩; exact ⟨by omega, hhi, bs_up ha (by omega) hc10, hR⟩
 try simp only [KF] at c10
 refine Rn (Gn0 [(8, .int .i64 (((lo + hi) / 2 : Nat) : Int)), (30, .int .i64 (((lo + hi) / 2 : Nat) : Int))] (nk_n (Bn (Lr (lo, (lo + hi) / 2) [] 0 [(0, pth X), (1, .str nm), (6, .int .i64 X.length), (7, .int .i64 lo), (8, .int .i64 (((lo + hi) / 2 : Nat) : Int))] [] [] ?_ ?_ (by kernel_rfl) (by kernel_rfl)))))
 (try dsimp only); omega
 refine ⟨?_, rfl⟩; exact ⟨by omega, by omega, hL, bs_dn ha hc10⟩
 try simp only [KF] at c7
 refine Xt (Jx (Lx (Bh (Jn (hK4 (Kp [0, 1, 6, 7] (Rj [(4, .int .i64 lo), (5, .bool ((decide ((lo : Int) < (X.length : Int))) && ((X.getD lo default) == nm)))] [] 0 (fun K11 hK11 => ?_) ?_)))))))
 refine An1 5 [(35, .bool (decide ((lo : Int) < (X.length : Int)))), (34, .bool (decide ((lo : Int) < (X.length : Int)))), (33, .int .i64 X.length), (32, .int .i64 lo), (31, .int .i64 lo)] (Ki /\ ·) ⟨rfl, run_b (fun g12 => ?_) (fun g12 => ?_)⟩
 have hg12 := g12
 try simp only [KF] at g12
 refine Av1 3 38 [(37, .int .i64 lo), (36, pth X)] (congrArg AV.pat (mg_str X lo (by omega))) ((1 = 1 /\ (0 : Int) <= (lo : Int) /\ (lo : Int) < ((X.map (fun s => [AV.str s])).length : Int)) /\ ·) ⟨⟨rfl, by omega, by rw [List.length_map]; omega⟩, An1 4 [(42, .bool ((X.getD lo default) == nm)), (41, .bool ((X.getD lo default) == nm)), (40, .str nm), (39, .str (X.getD lo default))] ((1 <= 1 /\ 0 < 1) /\ ·) ⟨(by decide), run_b (fun g13 => ?_) (fun g13 => ?_)⟩⟩
 have hg13 := g13
 try simp only [KF] at g13
 refine Gn0 [(5, .bool true), (4, .int .i64 lo), (53, .bool true), (52, .bool true), (51, .tup []), (50, .tup []), (49, .tup []), (48, .tup []), (47, .tup []), (46, .tup []), (45, .tup []), (44, .tup []), (43, .tup [])] (hK11 _ _ _ ⟨rfl, (by show AV.bool true = AV.bool ((decide ((lo : Int) < (X.length : Int))) && ((X.getD lo default) == nm)); rw [hg12, hg13]; rfl), trivial⟩ rfl rfl)
 have hg13 := g13
 try simp only [KF] at g13
 refine Av1 3 45 [(44, .int .i64 lo), (43, pth X)] (congrArg AV.pat (mg_str X lo (by omega))) ((1 = 1 /\ (0 : Int) <= (lo : Int) /\ (lo : Int) < ((X.map (fun s => [AV.str s])).length : Int)) /\ ·) ⟨⟨rfl, by omega, by rw [List.length_map]; omega⟩, Pc1 2 [(46, .str (X.getD lo default))] 47 (1 <= 1 /\ 0 < 1) (by decide) (isNaN2_ok (X.getD lo default)) (Gn0 [(5, .bool false), (4, .int .i64 lo), (53, .bool false), (52, .bool false), (51, .bool false), (50, .tup []), (49, .tup []), (48, .bool false)] (hK11 _ _ _ ⟨rfl, (by show AV.bool false = AV.bool ((decide ((lo : Int) < (X.length : Int))) && ((X.getD lo default) == nm)); rw [hg12, hg13]; rfl), trivial⟩ rfl rfl))⟩
 have hg12 := g12
 try simp only [KF] at g12
 refine Gn0 [(5, .bool false), (4, .int .i64 lo), (53, .bool false), (52, .tup []), (51, .tup []), (50, .tup []), (49, .tup []), (48, .tup []), (47, .tup []), (46, .tup []), (45, .tup []), (44, .tup []), (43, .tup []), (42, .tup []), (41, .tup []), (40, .tup []), (39, .tup []), (38, .tup []), (37, .tup []), (36, .tup [])] (hK11 _ _ _ ⟨rfl, (by show AV.bool false = AV.bool ((decide ((lo : Int) < (X.length : Int))) && ((X.getD lo default) == nm)); rw [hg12]; rfl), trivial⟩ rfl rfl)
 refine Rt (.tup [.int .i64 lo, .bool ((decide ((lo : Int) < (X.length : Int))) && ((X.getD lo default) == nm))]) ?_
 · refine ⟨[], List.nil_sublist _, _, lea_refl _, ⟨lo, by omega, hL, fun j h1 h2 => hR j (by omega) h2, ?_⟩, rfl⟩
   show AV.tup [_, AV.bool _] = AV.tup [_, AV.bool _]
   congr 3
   congr 1
   first
     | (rw [show decide (lo < X.length) = false from decide_eq_false (by omega)]; simp_all; done)
     | (rw [show decide (lo < X.length) = true from decide_eq_true (by omega)]; simp_all; done)
     | (simp_all; done)
end Go.Proofs.YtoekdppgejhikaaGreatT
