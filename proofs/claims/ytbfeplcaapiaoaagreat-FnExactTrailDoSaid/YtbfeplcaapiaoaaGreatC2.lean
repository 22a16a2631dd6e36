/- A part of the proof that FnExactTrailDo, on every tree, list of marks and call, returns true (no conditions): rules of the walk, and what the functions compute. -/
import Derived.Test.YtbfeplcaapiaoaaGreatC1
set_option linter.unusedVariables false
set_option linter.unusedSimpArgs false
namespace Go.Proofs.YtbfeplcaapiaoaaGreatT
open Go Go.Proofs
set_option maxRecDepth 100000
theorem within_ok (n lo hi:Int):PE G 114 [.i n,.i lo,.i hi] (.bool (inb n lo hi)):=by
 refine Pe Tryz.func114 ?_
 refine Rr (Fn0 [0,1,2] [] (Rm 6 ((decide ((lo:Int)<=(n:Int)))&&(decide ((n:Int)<=(hi:Int)))) [] ?_ ?_))
 refine An1 4 [(10,.bool (decide ((lo:Int)<=(n:Int)))),(9,.bool (decide ((lo:Int)<=(n:Int)))),(8,.i lo),(7,.i n)] (Ki/\·) ⟨rfl,Rg (fun hg3 g3=>?_) (fun hg3 g3=>?_)⟩
 refine Mn1 (decide ((n:Int)<=(hi:Int))) (Ki/\·) ⟨rfl,(by rw[hg3];rfl)⟩
 refine Mn0 false (by rw[hg3];rfl)
 refine Rt (.bool ((decide ((lo:Int)<=(n:Int)))&&(decide ((n:Int)<=(hi:Int))))) ?_
 exact fin_lea (lea_refl _)
theorem l1In_ok (n lo hi:Int):PE G 105 [.i n,.i lo,.i hi] (.bool (inb n lo hi)):=by
 refine Pe Tryz.func105 ?_
 refine Rr (Fn0 [0,1,2] [] (Rm 6 ((decide ((lo:Int)<=(n:Int)))&&(decide ((n:Int)<=(hi:Int)))) [] ?_ ?_))
 refine An1 4 [(10,.bool (decide ((lo:Int)<=(n:Int)))),(9,.bool (decide ((lo:Int)<=(n:Int)))),(8,.i lo),(7,.i n)] (Ki/\·) ⟨rfl,Rg (fun hg3 g3=>?_) (fun hg3 g3=>?_)⟩
 refine Mn1 (decide ((n:Int)<=(hi:Int))) (Ki/\·) ⟨rfl,(by rw[hg3];rfl)⟩
 refine Mn0 false (by rw[hg3];rfl)
 refine Rt (.bool ((decide ((lo:Int)<=(n:Int)))&&(decide ((n:Int)<=(hi:Int))))) ?_
 exact fin_lea (lea_refl _)
theorem nameOk_ok (s:List UInt8) (hs:s.length<2^62):PE G 131 [.str s] (.bool (nmOk s)):=by
 refine Pe Tryz.func131 ?_
 refine Rr (Fn0 [0] [] (Sq fun K2 hK2=>?_))
 refine Rr (Fn0 [0] [(6,.i 0),(5,.i s.length)] (Bl (h_l (fun(k:Nat)=>([(0,.str s),(5,.i s.length),(6,.i k)]:Fr)) (fun(k:Nat)=>([]:Hp)) (fun(k:Nat) cn=>(k<=s.length/\(s.take k).all chOk=true)/\cn=0) (fun(k:Nat)=>s.length-k) 0 kr ?_ ?_ ?_ ?_)))
 refine⟨?_,rfl⟩;exact⟨Nat.zero_le _,rfl⟩
 exact⟨kr,kr,kr,trivial⟩
 exact(List.nil_sublist _)
 rintro k n1 hI
 (try dsimp only at hI)
 obtain⟨⟨hi1,hi2⟩,rfl⟩:=hI
 refine Rr (Fn1 [0,5,6] [(7,.bool (decide ((k:Int)<(s.length:Int))))] (Ki/\·) ⟨rfl,Sq fun K5 hK5=>?_⟩)
 refine Cc (decide ((k:Int)<(s.length:Int))) (fun hc6 c6=>?_) fun hc6 c6=>?_
 refine Sk (Jn (hK5 (Kp [0,5,6] (Sq fun K7 hK7=>?_))))
 refine Bl (Rr (Fn0 [0,5,6] [(3,.i k)] (Rm 30 (!chOk (s.getD k 0)) [0,5,6] ?_ ?_)))
 refine An1 5 [(13,.bool (decide (((s.getD k 0).toNat:Int)<97))),(12,.bool (decide (((s.getD k 0).toNat:Int)<97))),(11,.int .u8 ((s.getD k 0).toNat:Int)),(10,.i k),(9,.str s)] (((0:Int)<=(k:Int)/\(k:Int)<(s.length:Int))/\(IntKind.u8=IntKind.u8)/\·) ⟨⟨om,om⟩,rfl,Rg (fun hg10 g10=>?_) (fun hg10 g10=>?_)⟩
 refine An1 11 [(24,.bool (decide (((s.getD k 0).toNat:Int)<48))),(23,.bool (decide (((s.getD k 0).toNat:Int)<48))),(22,.int .u8 ((s.getD k 0).toNat:Int)),(21,.i k),(20,.str s),(19,.bool true),(18,.bool true),(17,.tup []),(16,.tup []),(15,.tup []),(14,.tup [])] (((0:Int)<=(k:Int)/\(k:Int)<(s.length:Int))/\(IntKind.u8=IntKind.u8)/\·) ⟨⟨om,om⟩,rfl,Rg (fun hg11 g11=>?_) (fun hg11 g11=>?_)⟩
 refine Mn0 true (by rw[Bool.eq_iff_iff];simp[chOk,-List.getD_eq_getElem?_getD];omega)
 refine Mn1 (decide ((57:Int)<(((s.getD k 0).toNat:Int):Int))) (((0:Int)<=(k:Int)/\(k:Int)<(s.length:Int))/\(IntKind.u8=IntKind.u8)/\·) ⟨⟨om,om⟩,rfl,(by rw[Bool.eq_iff_iff];simp[chOk,-List.getD_eq_getElem?_getD];omega)⟩
 refine An1 6 [(19,.bool (decide ((122:Int)<(((s.getD k 0).toNat:Int):Int)))),(18,.bool (decide ((122:Int)<(((s.getD k 0).toNat:Int):Int)))),(17,.bool (decide ((122:Int)<(((s.getD k 0).toNat:Int):Int)))),(16,.int .u8 ((s.getD k 0).toNat:Int)),(15,.i k),(14,.str s)] (((0:Int)<=(k:Int)/\(k:Int)<(s.length:Int))/\(IntKind.u8=IntKind.u8)/\·) ⟨⟨om,om⟩,rfl,Rg (fun hg12 g12=>?_) (fun hg12 g12=>?_)⟩
 refine An1 5 [(24,.bool (decide (((s.getD k 0).toNat:Int)<48))),(23,.bool (decide (((s.getD k 0).toNat:Int)<48))),(22,.int .u8 ((s.getD k 0).toNat:Int)),(21,.i k),(20,.str s)] (((0:Int)<=(k:Int)/\(k:Int)<(s.length:Int))/\(IntKind.u8=IntKind.u8)/\·) ⟨⟨om,om⟩,rfl,Rg (fun hg13 g13=>?_) (fun hg13 g13=>?_)⟩
 refine Mn0 true (by rw[Bool.eq_iff_iff];simp[chOk,-List.getD_eq_getElem?_getD];omega)
 refine Mn1 (decide ((57:Int)<(((s.getD k 0).toNat:Int):Int))) (((0:Int)<=(k:Int)/\(k:Int)<(s.length:Int))/\(IntKind.u8=IntKind.u8)/\·) ⟨⟨om,om⟩,rfl,(by rw[Bool.eq_iff_iff];simp[chOk,-List.getD_eq_getElem?_getD];omega)⟩
 refine Mn0 false (by rw[Bool.eq_iff_iff];simp[chOk,-List.getD_eq_getElem?_getD];omega)
 refine Cc (!chOk (s.getD k 0)) (fun hc14 c14=>?_) fun hc14 c14=>?_
 refine Rr (Fn0 [] [(2,.bool false)] (Rt (.bool false) (fin_lea ?_)))
 rw[show nmOk s=false by simp[-List.getD_eq_getElem?_getD,nmOk,all_false_at chOk s k 0 om c14]];exact lea_refl _
 refine Sk (Bn (Jn (hK7 (Kp [0,5,6] (Rn (Av1 1 31 [] (cI (wn1 k om)) (Ki/\·) ⟨rfl,Gn0 [(6,.i ((k+1:Nat):Int))] (nk_n ?_)⟩))))))
 refine Lr (k+1) [] 0 [(0,.str s),(5,.i s.length),(6,.i ((k+1:Nat):Int))] [] [] ?_ ?_ kr kr
 (try dsimp only);omega
 refine⟨?_,rfl⟩;(try dsimp only);exact⟨om,by rw[all_take_snoc chOk s k 0 om,hi2,c14];rfl⟩
 refine Xt (Jx (Lx (Bh (Jn (hK2 (Kp [0] (Rr (Pc0 3 [(33,.i s.length),(32,.str s)] 34 (within_ok (s.length:Int) 1 5) (Fn0 [] [(2,.bool (inb (s.length:Int) 1 5))] (Rt (.bool (inb (s.length:Int) 1 5)) ?_))))))))))
 refine fin_lea ?_
 rw[show nmOk s=inb (s.length:Int) 1 5 by simp[nmOk,all_take_full chOk s k om hi2]];exact lea_refl _
theorem l1NameOk_ok (s:List UInt8) (hs:s.length<2^62):PE G 136 [.str s] (.bool (nmOk s)):=by
 refine Pe Tryz.func136 ?_
 refine Rr (Fn0 [0] [] (Sq fun K2 hK2=>?_))
 refine Rr (Fn0 [0] [(3,.i 0)] (Bl (h_l (fun(k:Nat)=>([(0,.str s),(3,.i k)]:Fr)) (fun(k:Nat)=>([]:Hp)) (fun(k:Nat) cn=>(k<=s.length/\(s.take k).all chOk=true)/\cn=0) (fun(k:Nat)=>s.length-k) 0 kr ?_ ?_ ?_ ?_)))
 refine⟨?_,rfl⟩;exact⟨Nat.zero_le _,rfl⟩
 exact⟨kr,kr,trivial⟩
 exact(List.nil_sublist _)
 rintro k n1 hI
 (try dsimp only at hI)
 obtain⟨⟨hi1,hi2⟩,rfl⟩:=hI
 refine Sq fun K4 hK4=>?_
 refine Rr (Cn1 (decide ((k:Int)<(s.length:Int))) [0,3] [] (Ki/\·) ⟨rfl,fun hc6 c6=>?_,fun hc6 c6=>?_⟩)
 refine Sk (Jn (hK4 (Kp [0,3] (Sq fun K7 hK7=>?_))))
 refine Bl (Rm 32 (!chOk (s.getD k 0)) [0,3] ?_ ?_)
 refine An1 5 [(14,.bool (decide ((97:Int)<=(((s.getD k 0).toNat:Int):Int)))),(13,.bool (decide ((97:Int)<=(((s.getD k 0).toNat:Int):Int)))),(12,.int .u8 ((s.getD k 0).toNat:Int)),(11,.i k),(10,.str s)] (((0:Int)<=(k:Int)/\(k:Int)<(s.length:Int))/\(IntKind.u8=IntKind.u8)/\·) ⟨⟨om,om⟩,rfl,Rg (fun hg9 g9=>?_) (fun hg9 g9=>?_)⟩
 refine An1 6 [(20,.bool (decide (((s.getD k 0).toNat:Int)<=122))),(19,.bool (decide (((s.getD k 0).toNat:Int)<=122))),(18,.bool (decide (((s.getD k 0).toNat:Int)<=122))),(17,.int .u8 ((s.getD k 0).toNat:Int)),(16,.i k),(15,.str s)] (((0:Int)<=(k:Int)/\(k:Int)<(s.length:Int))/\(IntKind.u8=IntKind.u8)/\·) ⟨⟨om,om⟩,rfl,Rg (fun hg10 g10=>?_) (fun hg10 g10=>?_)⟩
 refine Mn0 false (by rw[Bool.eq_iff_iff];simp[chOk,-List.getD_eq_getElem?_getD];omega)
 refine An1 5 [(25,.bool (decide ((48:Int)<=(((s.getD k 0).toNat:Int):Int)))),(24,.bool (decide ((48:Int)<=(((s.getD k 0).toNat:Int):Int)))),(23,.int .u8 ((s.getD k 0).toNat:Int)),(22,.i k),(21,.str s)] (((0:Int)<=(k:Int)/\(k:Int)<(s.length:Int))/\(IntKind.u8=IntKind.u8)/\·) ⟨⟨om,om⟩,rfl,Rg (fun hg11 g11=>?_) (fun hg11 g11=>?_)⟩
 refine Mn1 (!(decide (((s.getD k 0).toNat:Int)<=57))) (((0:Int)<=(k:Int)/\(k:Int)<(s.length:Int))/\(IntKind.u8=IntKind.u8)/\·) ⟨⟨om,om⟩,rfl,(by rw[Bool.eq_iff_iff];simp[chOk,-List.getD_eq_getElem?_getD];omega)⟩
 refine Mn0 true (by rw[Bool.eq_iff_iff];simp[chOk,-List.getD_eq_getElem?_getD];omega)
 refine An1 11 [(25,.bool (decide ((48:Int)<=(((s.getD k 0).toNat:Int):Int)))),(24,.bool (decide ((48:Int)<=(((s.getD k 0).toNat:Int):Int)))),(23,.int .u8 ((s.getD k 0).toNat:Int)),(22,.i k),(21,.str s),(20,.bool false),(19,.bool false),(18,.tup []),(17,.tup []),(16,.tup []),(15,.tup [])] (((0:Int)<=(k:Int)/\(k:Int)<(s.length:Int))/\(IntKind.u8=IntKind.u8)/\·) ⟨⟨om,om⟩,rfl,Rg (fun hg12 g12=>?_) (fun hg12 g12=>?_)⟩
 refine Mn1 (!(decide (((s.getD k 0).toNat:Int)<=57))) (((0:Int)<=(k:Int)/\(k:Int)<(s.length:Int))/\(IntKind.u8=IntKind.u8)/\·) ⟨⟨om,om⟩,rfl,(by rw[Bool.eq_iff_iff];simp[chOk,-List.getD_eq_getElem?_getD];omega)⟩
 refine Mn0 true (by rw[Bool.eq_iff_iff];simp[chOk,-List.getD_eq_getElem?_getD];omega)
 refine Cc (!chOk (s.getD k 0)) (fun hc13 c13=>?_) fun hc13 c13=>?_
 refine Rr (Fn0 [] [(2,.bool false)] (Rt (.bool false) (fin_lea ?_)))
 rw[show nmOk s=false by simp[-List.getD_eq_getElem?_getD,nmOk,all_false_at chOk s k 0 om c13]];exact lea_refl _
 refine Sk (Bn (Jn (hK7 (Kp [0,3] (Rn (Av1 2 9 [(8,.i k)] (cI (wn1 k om)) (Ki/\·) ⟨rfl,Gn0 [(3,.i ((k+1:Nat):Int))] (nk_n ?_)⟩))))))
 refine Lr (k+1) [] 0 [(0,.str s),(3,.i ((k+1:Nat):Int))] [] [] ?_ ?_ kr kr
 (try dsimp only);omega
 refine⟨?_,rfl⟩;(try dsimp only);exact⟨om,by rw[all_take_snoc chOk s k 0 om,hi2,c13];rfl⟩
 refine Xt (Jx (Lx (Bh (Jn (hK2 (Kp [0] (Rr (Pc0 3 [(34,.i s.length),(33,.str s)] 35 (l1In_ok (s.length:Int) 1 5) (Fn0 [] [(2,.bool (inb (s.length:Int) 1 5))] (Rt (.bool (inb (s.length:Int) 1 5)) ?_))))))))))
 refine fin_lea ?_
 rw[show nmOk s=inb (s.length:Int) 1 5 by simp[nmOk,all_take_full chOk s k om hi2]];exact lea_refl _
theorem namesOk_ok (p:List Str) (lo:Int) (hp:p.length<2^62) (hs:∀s∈p,s.length<2^62):PE G 113 [pth p,.i lo] (.bool (pthOk p lo)):=by
 refine Pe Tryz.func113 ?_
 refine Rr (Fn0 [0,1] [] (Sq fun K2 hK2=>?_))
 refine Rr (Av0 2 8 [(7,pth p)] (lnm p sc) (Fn0 [0,1,7,8] [(9,.i 0)] (Bl (h_l (fun(k:Nat)=>([(0,pth p),(1,.i lo),(7,pth p),(8,.i p.length),(9,.i k)]:Fr)) (fun(k:Nat)=>([]:Hp)) (fun(k:Nat) cn=>(k<=p.length/\(p.take k).all nmOk=true)/\cn=0) (fun(k:Nat)=>p.length-k) 0 kr ?_ ?_ ?_ ?_))))
 refine⟨?_,rfl⟩;exact⟨Nat.zero_le _,rfl⟩
 exact⟨kr,kr,kr,kr,kr,trivial⟩
 exact(List.nil_sublist _)
 rintro k n1 hI
 (try dsimp only at hI)
 obtain⟨⟨hi1,hi2⟩,rfl⟩:=hI
 refine Rr (Fn1 [0,1,7,8,9] [(10,.bool (decide ((k:Int)<(p.length:Int))))] (Ki/\·) ⟨rfl,Sq fun K5 hK5=>?_⟩)
 refine Cc (decide ((k:Int)<(p.length:Int))) (fun hc6 c6=>?_) fun hc6 c6=>?_
 refine Sk (Jn (hK5 (Kp [0,1,7,8,9] (Sq fun K7 hK7=>?_))))
 refine Bl (Rr (Av1 1 11 [] (congrArg AV.pat (mg_str p k om)) ((1=1/\(0:Int)<=(k:Int)/\(k:Int)<((p.map (fun s=>[AV.str s])).length:Int))/\·) ⟨⟨rfl,om,lmo⟩,Fn1 [0,1,7,8,9] [(6,.str (p.getD k default))] ((1<=1/\0<1)/\·) ⟨dc,Rr ?_⟩⟩))
 refine Pc0 2 [(13,.str (p.getD k default))] 14 (nameOk_ok (p.getD k default) (hs _ (getD_mem p k default om))) (Cn0 (!(nmOk (p.getD k default))) [0,1,7,8,9] [] ⟨fun hc10 c10=>?_,fun hc10 c10=>?_⟩)
 refine Rr (Fn0 [] [(4,.bool false)] (Rt (.bool false) (fin_lea ?_)))
 rw[show pthOk p lo=false by simp[-List.getD_eq_getElem?_getD,pthOk,all_false_at nmOk p k default om c10]];exact lea_refl _
 refine Sk (Bn (Jn (hK7 (Kp [0,1,7,8,9] (Rn (Av1 1 16 [] (cI (wn1 k om)) (Ki/\·) ⟨rfl,Gn0 [(9,.i ((k+1:Nat):Int))] (nk_n ?_)⟩))))))
 refine Lr (k+1) [] 0 [(0,pth p),(1,.i lo),(7,pth p),(8,.i p.length),(9,.i ((k+1:Nat):Int))] [] [] ?_ ?_ kr kr
 (try dsimp only);omega
 refine⟨?_,rfl⟩;(try dsimp only);exact⟨om,by rw[all_take_snoc nmOk p k default om,hi2,c10];rfl⟩
 refine Xt (Jx (Lx (Bh (Jn (hK2 (Kp [0,1] (Rr (Av0 2 18 [(17,pth p)] (lnm p sc) (Pc0 2 [(19,.i lo)] 20 (within_ok (p.length:Int) lo 4) (Fn0 [] [(4,.bool (inb (p.length:Int) lo 4))] ?_))))))))))
 refine Rt (.bool (inb (p.length:Int) lo 4)) (fin_lea ?_)
 rw[show pthOk p lo=inb (p.length:Int) lo 4 by simp[pthOk,all_take_full nmOk p k om hi2]];exact lea_refl _
theorem l2PathOk_ok (p:List Str) (hp:p.length<2^62) (hs:∀s∈p,s.length<2^62):PE G 106 [pth p] (.bool (pthOk p 1)):=by
 refine Pe Tryz.func106 ?_
 refine Rr (Fn0 [0] [] (Sq fun K2 hK2=>?_))
 refine Rr (Fn0 [0] [(3,.i 0)] (Bl (h_l (fun(k:Nat)=>([(0,pth p),(3,.i k)]:Fr)) (fun(k:Nat)=>([]:Hp)) (fun(k:Nat) cn=>(k<=p.length/\(p.take k).all nmOk=true)/\cn=0) (fun(k:Nat)=>p.length-k) 0 kr ?_ ?_ ?_ ?_)))
 refine⟨?_,rfl⟩;exact⟨Nat.zero_le _,rfl⟩
 exact⟨kr,kr,trivial⟩
 exact(List.nil_sublist _)
 rintro k n1 hI
 (try dsimp only at hI)
 obtain⟨⟨hi1,hi2⟩,rfl⟩:=hI
 refine Sq fun K4 hK4=>?_
 refine Rr (Av0 3 6 [(5,pth p),(4,.i k)] (lnm p sc) (Cn1 (decide ((k:Int)<(p.length:Int))) [0,3] [] (Ki/\·) ⟨rfl,fun hc6 c6=>?_,fun hc6 c6=>?_⟩))
 refine Sk (Jn (hK4 (Kp [0,3] (Sq fun K7 hK7=>?_))))
 refine Bl (Rr (Av1 3 12 [(11,.i k),(10,pth p)] (congrArg AV.pat (mg_str p k om)) ((1=1/\(0:Int)<=(k:Int)/\(k:Int)<((p.map (fun s=>[AV.str s])).length:Int))/\·) ⟨⟨rfl,om,lmo⟩,Pc1 2 [(13,.str (p.getD k default))] 14 (1<=1/\0<1) dc (l1NameOk_ok (p.getD k default) (hs _ (getD_mem p k default om))) (Cn0 (!(nmOk (p.getD k default))) [0,3] [] ⟨fun hc9 c9=>?_,fun hc9 c9=>?_⟩)⟩))
 refine Rr (Fn0 [] [(2,.bool false)] (Rt (.bool false) (fin_lea ?_)))
 rw[show pthOk p 1=false by simp[-List.getD_eq_getElem?_getD,pthOk,all_false_at nmOk p k default om c9]];exact lea_refl _
 refine Sk (Bn (Jn (hK7 (Kp [0,3] (Rn (Av1 2 9 [(8,.i k)] (cI (wn1 k om)) (Ki/\·) ⟨rfl,Gn0 [(3,.i ((k+1:Nat):Int))] (nk_n ?_)⟩))))))
 refine Lr (k+1) [] 0 [(0,pth p),(3,.i ((k+1:Nat):Int))] [] [] ?_ ?_ kr kr
 (try dsimp only);omega
 refine⟨?_,rfl⟩;(try dsimp only);exact⟨om,by rw[all_take_snoc nmOk p k default om,hi2,c9];rfl⟩
 refine Xt (Jx (Lx (Bh (Jn (hK2 (Kp [0] (Rr (Av0 2 17 [(16,pth p)] (lnm p sc) (Pc0 1 [] 18 (l1In_ok (p.length:Int) 1 4) (Fn0 [] [(2,.bool (inb (p.length:Int) 1 4))] ?_))))))))))
 refine Rt (.bool (inb (p.length:Int) 1 4)) (fin_lea ?_)
 rw[show pthOk p 1=inb (p.length:Int) 1 4 by simp[pthOk,all_take_full nmOk p k om hi2]];exact lea_refl _
theorem l2Within_ok (p q:List Str) (hp:p.length<2^62) (hq:q.length<2^62):PE G 73 [pth p,pth q] (.bool (q.isPrefixOf p)):=by
 refine Pe Tryz.func73 ?_
 refine Rr (Fn0 [0,1] [] (Sq fun K2 hK2=>?_))
 refine Rr (Av0 2 7 [(6,pth p)] (lnm p sc) (Av0 2 9 [(8,pth q)] (lnm q sc) (Cn1 (decide ((p.length:Int)<(q.length:Int))) [0,1] [] (Ki/\·) ⟨rfl,fun hc4 c4=>?_,fun hc4 c4=>?_⟩)))
 refine Rr (Fn0 [] [(4,.bool false)] (Rt (.bool false) (fin_lea ?_)))
 rw[pre_no om];exact lea_refl _
 refine Sk (Jn (hK2 (Kp [0,1] (Sq fun K6 hK6=>?_))))
 refine Rr (Fn0 [0,1] [(5,.i 0)] (Bl (h_l (fun(k:Nat)=>([(0,pth p),(1,pth q),(5,.i k)]:Fr)) (fun(k:Nat)=>([]:Hp)) (fun(k:Nat) cn=>(k<=q.length/\q.take k=p.take k)/\cn=0) (fun(k:Nat)=>q.length-k) 0 kr ?_ ?_ ?_ ?_)))
 refine⟨?_,rfl⟩;exact⟨Nat.zero_le _,rfl⟩
 exact⟨kr,kr,kr,trivial⟩
 exact(List.nil_sublist _)
 rintro k n1 hI
 (try dsimp only at hI)
 obtain⟨⟨hi1,hi2⟩,rfl⟩:=hI
 refine Sq fun K8 hK8=>?_
 refine Rr (Av0 3 13 [(12,pth q),(11,.i k)] (lnm q sc) (Cn1 (decide ((k:Int)<(q.length:Int))) [0,1,5] [] (Ki/\·) ⟨rfl,fun hc10 c10=>?_,fun hc10 c10=>?_⟩))
 refine Sk (Jn (hK8 (Kp [0,1,5] (Sq fun K11 hK11=>?_))))
 refine Bl (Qr [0,0,3,7,0,0,48,112,255] [(0,[]),(1,[]),(2,[]),(3,[]),(4,[]),(5,[]),(6,[]),(7,[]),(8,[])] (qAv1 3 19 [(18,.i k),(17,pth p)] (congrArg AV.pat (mg_str p k om)) ((1=1/\(0:Int)<=(k:Int)/\(k:Int)<((p.map (fun s=>[AV.str s])).length:Int))/\·) ⟨⟨rfl,om,lmo⟩,qAv1 4 23 [(22,.i k),(21,pth q),(20,.str (p.getD k default))] (congrArg AV.pat (mg_str q k om)) ((1<=1/\0<1)/\(1=1/\(0:Int)<=(k:Int)/\(k:Int)<((q.map (fun s=>[AV.str s])).length:Int))/\·) ⟨dc,⟨rfl,om,lmo⟩,qCn1 (!((p.getD k default)==(q.getD k default))) [0,1,5] [] ((1<=1/\0<1)/\·) ⟨dc,fun hc13 c13=>?_,fun hc13 c13=>?_⟩⟩⟩))
 refine Rr (Fn0 [] [(4,.bool false)] (Rt (.bool false) (fin_lea ?_)))
 rw[pre_ne (k:=k) om c13];exact lea_refl _
 refine Sk (Bn (Jn (hK11 (Kp [0,1,5] (Rn (Av1 2 16 [(15,.i k)] (cI (wn1 k om)) (Ki/\·) ⟨rfl,Gn0 [(5,.i ((k+1:Nat):Int))] (nk_n ?_)⟩))))))
 refine Lr (k+1) [] 0 [(0,pth p),(1,pth q),(5,.i ((k+1:Nat):Int))] [] [] ?_ ?_ kr kr
 (try dsimp only);omega
 refine⟨?_,rfl⟩;(try dsimp only);exact⟨om,by rw[take_snoc q k default om,take_snoc p k default om,hi2,eq_of_beq c13]⟩
 refine Xt (Jx (Lx (Bh (Jn (hK6 (Kp [] (Rr (Fn0 [] [(4,.bool true)] (Rt (.bool true) (fin_lea ?_))))))))))
 rw[pre_yes (k:=k) om hi2];exact lea_refl _
theorem l1Find_c (t:Tr) (s:Str) (hw:t.W<2^60):PE G 128 [.agg (tcs t),.str s] (.i (fndI s t.names)):=by
 rw[W_eq]at hw;have hns:=wS_len t.names
 refine Pe Tryz.func128 ?_
 refine Rr (Fn2 [1] [(2,.ptr 0 0)] ([(0,tcs t)]++·) 4 (Sq fun K2 hK2=>?_))
 refine Rr (Fn0 [1,2] [(5,.i 0)] (Bl (h_l (fun(k:Nat)=>([(1,.str s),(2,.ptr 0 0),(5,.i k)]:Fr)) (fun(k:Nat)=>([(0,tcs t)]:Hp)) (fun(k:Nat) cn=>(k<=t.names.length/\fnd s (t.names.take k)=none)/\cn=4) (fun(k:Nat)=>t.names.length-k) 0 kr ?_ ?_ ?_ ?_)))
 refine⟨?_,rfl⟩;exact⟨Nat.zero_le _,rfl⟩
 exact⟨kr,kr,kr,trivial⟩
 exact(sub_c kr (List.nil_sublist _))
 rintro k n1 hI
 (try dsimp only at hI)
 obtain⟨⟨hi1,hi2⟩,rfl⟩:=hI
 refine Sq fun K4 hK4=>?_
 refine Rr (Av1 4 9 [(8,pth t.names),(7,.ptr 0 3),(6,.i k)] (lnm t.names sc) (((1:Nat)≠0)/\(3+1<=5/\3<5)/\·) ⟨dc,dc,Cn1 (decide ((k:Int)<(t.names.length:Int))) [1,2,5] [] (Ki/\·) ⟨rfl,fun hc6 c6=>?_,fun hc6 c6=>?_⟩⟩)
 refine Sk (Jn (hK4 (Kp [1,2,5] (Sq fun K7 hK7=>?_))))
 refine Bl (Rr (Av1 4 16 [(15,.i k),(14,pth t.names),(13,.ptr 0 3)] (congrArg AV.pat (mg_str t.names k om)) (((1:Nat)≠0)/\(3+1<=5/\3<5)/\(1=1/\(0:Int)<=(k:Int)/\(k:Int)<((t.names.map (fun s=>[AV.str s])).length:Int))/\·) ⟨dc,dc,⟨rfl,om,lmo⟩,Cn1 ((t.names.getD k default)==s) [1,2,5] [] ((1<=1/\0<1)/\·) ⟨dc,fun hc9 c9=>?_,fun hc9 c9=>?_⟩⟩))
 refine Rr (Fn0 [] [(4,.i k)] (Rt (.i k) (fin_lea ?_)))
 simp only[fndI];rw[fnd_found s _ k om hi2 (by simpa using c9)];exact lea_refl _
 refine Sk (Bn (Jn (hK7 (Kp [1,2,5] (Rn (Av1 2 12 [(11,.i k)] (cI (wn1 k om)) (Ki/\·) ⟨rfl,Gn0 [(5,.i ((k+1:Nat):Int))] (nk_n ?_)⟩))))))
 refine Lr (k+1) [(0,0)] 4 [(1,.str s),(2,.ptr 0 0),(5,.i ((k+1:Nat):Int))] [(0,tcs t)] [true] ?_ ?_ kr kr
 (try dsimp only);omega
 refine⟨?_,rfl⟩;(try dsimp only);exact⟨om,fnd_step s _ k om hi2 (by simpa using c9)⟩
 refine Xt (Jx (Lx (Bh (Jn (hK2 (Kp [] (Rr (Fn0 [] [(4,.i (-1))] (Rt (.i (-1)) (fin_lea ?_))))))))))
 simp only[fndI];rw[fnd_full s _ k om hi2];exact lea_refl _
theorem l1Plain_ok (t:Tr) (hw:t.W<2^60):PE G 135 [.agg (tcs t)] (.bool (plainOk t)):=by
 rw[W_eq]at hw;have hns:=wS_len t.names;have hks:=Ws_len t.kids
 refine Pe Tryz.func135 ?_
 refine Rr (Fn2 [] [(1,.ptr 0 0)] ([(0,tcs t)]++·) 4 (Sq fun K2 hK2=>?_))
 refine Rm 16 ((!(inb t.mode 0 7))||(!decide ((t.names.length:Int)=(t.kids.length:Int)))) [1] ?_ ?_
 refine Bc1 3 [(5,.i t.mode),(4,.ptr 0 1)] 105 [.i t.mode,.i 0,.i 7] 6 (((1:Nat)≠0)/\(1+1<=5/\1<5)/\·) ⟨dc,dc,?_⟩
 refine PE.use (l1In_ok t.mode 0 7) ?_
 refine Ke (An0 2 [(8,.bool (!(inb t.mode 0 7))),(7,.bool (!(inb t.mode 0 7)))] (Rg (fun hg4 g4=>?_) (fun hg4 g4=>?_)))
 refine Mn0 true (by rw[hg4];rfl)
 refine Av1 3 11 [(10,pth t.names),(9,.ptr 0 3)] (lnm t.names sc) (((1:Nat)≠0)/\(3+1<=5/\3<5)/\·) ⟨dc,dc,Av1 3 14 [(13,.sl 5 (t.kids.map trc)),(12,.ptr 0 4)] (lnm t.kids trc) (((1:Nat)≠0)/\(4+1<=5/\4<5)/\·) ⟨dc,dc,Mn1 (!decide ((t.names.length:Int)=(t.kids.length:Int))) (Ki/\·) ⟨rfl,(by rw[hg4];rfl)⟩⟩⟩
 refine Cc ((!(inb t.mode 0 7))||(!decide ((t.names.length:Int)=(t.kids.length:Int)))) (fun hc5 c5=>?_) fun hc5 c5=>?_
 refine Rr (Fn0 [] [(2,.bool false)] (Rt (.bool false) (fin_lea ?_)))
 rw [show plainOk t=(false) by
   rcases c5 with h|h
   · simp[plainOk,h]
   · simp[plainOk,show t.names.length≠t.kids.length by omega]
   ];exact lea_refl _
 refine Sk (Jn (hK2 (Kp [1] (Sq fun K7 hK7=>?_))))
 refine Rr (Cn1 (!t.dir) [1] [] (((1:Nat)≠0)/\(0+1<=5/\0<5)/\·) ⟨dc,dc,fun hc9 c9=>?_,fun hc9 c9=>?_⟩)
 refine Rm 2 ((decide ((t.data.length:Int)<=24))&&(decide ((t.names.length:Int)=0))) [] ?_ ?_
 refine An1 5 [(24,.bool (decide ((t.data.length:Int)<=24))),(23,.bool (decide ((t.data.length:Int)<=24))),(22,.i t.data.length),(21,.str t.data),(20,.ptr 0 2)] (((1:Nat)≠0)/\(2+1<=5/\2<5)/\Ki/\·) ⟨dc,dc,rfl,Rg (fun hg11 g11=>?_) (fun hg11 g11=>?_)⟩
 refine Av1 3 27 [(26,pth t.names),(25,.ptr 0 3)] (lnm t.names sc) (((1:Nat)≠0)/\(3+1<=5/\3<5)/\·) ⟨dc,dc,Mn1 (decide ((t.names.length:Int)=0)) (Ki/\·) ⟨rfl,(by rw[hg11];rfl)⟩⟩
 refine Mn0 false (by rw[hg11];rfl)
 refine Rt (.bool ((decide ((t.data.length:Int)<=24))&&(decide ((t.names.length:Int)=0)))) (fin_lea ?_)
 rw [show plainOk t=((decide ((t.data.length:Int)<=24))&&(decide ((t.names.length:Int)=0))) by
   have e1:=c5.1;have e2:t.names.length=t.kids.length:=(by have:=c5.2;omega)
   have hd:t.dir=false:=c9
   simp[plainOk,e1,e2,hd];rw[Bool.eq_iff_iff];simp;omega
   ];exact lea_refl _
 refine Sk (Jn (hK7 (Kp [1] (Sq fun K12 hK12=>?_))))
 refine Rr (Fn0 [1] [(3,.i 0)] (Bl (h_l (fun(k:Nat)=>([(1,.ptr 0 0),(3,.i k)]:Fr)) (fun(k:Nat)=>([(0,tcs t)]:Hp)) (fun(k:Nat) cn=>(k<=t.names.length/\(t.names.take k).all nmOk=true/\asc (t.names.take k)=true)/\cn=4) (fun(k:Nat)=>t.names.length-k) 0 kr ?_ ?_ ?_ ?_)))
 refine⟨?_,rfl⟩;exact⟨Nat.zero_le _,rfl,rfl⟩
 exact⟨kr,kr,trivial⟩
 exact(sub_c kr (List.nil_sublist _))
 rintro k n1 hI
 (try dsimp only at hI)
 obtain⟨⟨hi1,hi2,hi3⟩,rfl⟩:=hI
 refine Sq fun K14 hK14=>?_
 refine Rr (Av1 4 33 [(32,pth t.names),(31,.ptr 0 3),(30,.i k)] (lnm t.names sc) (((1:Nat)≠0)/\(3+1<=5/\3<5)/\·) ⟨dc,dc,Cn1 (decide ((k:Int)<(t.names.length:Int))) [1,3] [] (Ki/\·) ⟨rfl,fun hc16 c16=>?_,fun hc16 c16=>?_⟩⟩)
 refine Sk (Jn (hK14 (Kp [1,3] (Sq fun K17 hK17=>?_))))
 refine Bl (Qm [0,1,0,7,15,31,63,127,255,511,1023,2047,4095,2047,10239,32767,65535,2047,133119,2047,919551,1968127,4194303,8388607,16777215] [(0,[]),(1,[]),(2,[]),(3,[]),(4,[]),(5,[]),(6,[]),(7,[]),(8,[]),(9,[]),(10,[]),(11,[]),(12,[]),(13,[]),(14,[]),(15,[]),(16,[]),(17,[]),(18,[]),(19,[]),(20,[]),(21,[]),(22,[]),(23,[]),(24,[])] 61 (!nmOk (t.names.getD k default)||(decide (0<k)&& !blt (t.names.getD (k-1) default) (t.names.getD k default))) [1,3] ?_ ?_)
 refine qAv1 4 40 [(39,.i k),(38,pth t.names),(37,.ptr 0 3)] (congrArg AV.pat (mg_str t.names k om)) (((1:Nat)≠0)/\(3+1<=5/\3<5)/\(1=1/\(0:Int)<=(k:Int)/\(k:Int)<((t.names.map (fun s=>[AV.str s])).length:Int))/\·) ⟨dc,dc,⟨rfl,om,lmo⟩,qBc1 2 [(41,.str (t.names.getD k default))] [] 136 [.str (t.names.getD k default)] 42 ((1<=1/\0<1)/\·) ⟨dc,PE.use (l1NameOk_ok (t.names.getD k default) (Nat.lt_trans (wS_get t.names k om) om)) (Kq (p:=(True)) trivial (qAn0 2 [(44,.bool (!(nmOk (t.names.getD k default)))),(43,.bool (!(nmOk (t.names.getD k default))))] ?_))⟩⟩
 refine Qg (fun hg19 g19=>?_) (fun hg19 g19=>?_)
 refine qMn0 true (by(try rw[show((k:Int)-1).toNat=k-1 by omega]);first|(simp_all;done)|(rw[Bool.eq_iff_iff];simp_all;done)|(rw[Bool.eq_iff_iff];simp_all;omega)|(simp_all;omega))
 refine qAn1 3 [(47,.bool (decide ((0:Int)<((k:Int):Int)))),(46,.bool (decide ((0:Int)<((k:Int):Int)))),(45,.i k)] (Ki/\·) ⟨rfl,Qg (fun hg20 g20=>?_) (fun hg20 g20=>?_)⟩
 refine qAv1 (r:=.i (IntKind.i64.wrap ((k:Int)-1))) (v:=.i ((k:Int)-1)) 4 51 [(50,.i k),(49,pth t.names),(48,.ptr 0 3)] (cI (wrap64 om om)) (((1:Nat)≠0)/\(3+1<=5/\3<5)/\Ki/\·) ⟨dc,dc,rfl,qAv1 1 52 [] (congrArg AV.pat (mg_str t.names (((k:Int)-1).toNat) om)) ((1=1/\(0:Int)<=((k:Int)-1)/\((k:Int)-1)<((t.names.map (fun s=>[AV.str s])).length:Int))/\·) ⟨⟨rfl,om,lmo⟩,qAv1 5 57 [(56,.i k),(55,pth t.names),(54,.ptr 0 3),(53,.str (t.names.getD (((k:Int)-1).toNat) default))] (congrArg AV.pat (mg_str t.names k om)) ((1<=1/\0<1)/\((1:Nat)≠0)/\(3+1<=5/\3<5)/\(1=1/\(0:Int)<=(k:Int)/\(k:Int)<((t.names.map (fun s=>[AV.str s])).length:Int))/\·) ⟨dc,dc,dc,⟨rfl,om,lmo⟩,qMn1 (!blt (t.names.getD (((k:Int)-1).toNat) default) (t.names.getD k default)) ((1<=1/\0<1)/\·) ⟨dc,(by(try rw[show((k:Int)-1).toNat=k-1 by omega]);first|(simp_all;done)|(rw[Bool.eq_iff_iff];simp_all;done)|(rw[Bool.eq_iff_iff];simp_all;omega)|(simp_all;omega))⟩⟩⟩⟩
 refine qMn0 false (by(try rw[show((k:Int)-1).toNat=k-1 by omega]);first|(simp_all;done)|(rw[Bool.eq_iff_iff];simp_all;done)|(rw[Bool.eq_iff_iff];simp_all;omega)|(simp_all;omega))
 refine Cc (!nmOk (t.names.getD k default)||(decide (0<k)&& !blt (t.names.getD (k-1) default) (t.names.getD k default))) (fun hc21 c21=>?_) fun hc21 c21=>?_
 refine Rr (Fn0 [] [(2,.bool false)] (Rt (.bool false) ?_))
 (try rw[show((k:Int)-1).toNat=k-1 by omega]at c21)
 refine fin_lea ?_
 rw [show plainOk t=(false) by
   have e1:=c5.1;have e2:t.names.length=t.kids.length:=(by have:=c5.2;omega)
   have hd:t.dir=true:=c9
   rcases c21 with h|⟨h1,h2⟩
   · simp[-List.getD_eq_getElem?_getD,plainOk,hd,all_false_at nmOk t.names k default om h]
   · simp[-List.getD_eq_getElem?_getD,plainOk,hd,asc_no om om h2]
   ];exact lea_refl _
 refine Sk (Bn (Jn (hK17 (Kp [1,3] (Rn (Av1 2 36 [(35,.i k)] (cI (wn1 k om)) (Ki/\·) ⟨rfl,Gn0 [(3,.i ((k+1:Nat):Int))] (nk_n ?_)⟩))))))
 (try rw[show((k:Int)-1).toNat=k-1 by omega]at c21)
 refine Lr (k+1) [(0,0)] 4 [(1,.ptr 0 0),(3,.i ((k+1:Nat):Int))] [(0,tcs t)] [true] ?_ ?_ kr kr
 (try dsimp only);omega
 refine⟨?_,rfl⟩;(try dsimp only);exact⟨om,by rw[all_take_snoc nmOk _ k default om,hi2,c21.1];rfl,by rw[asc_take _ k om,hi3];rcases c21.2 with h|h<;>simp[-List.getD_eq_getElem?_getD,h];omega⟩
 refine Xt (Jx (Lx (Bh (Jn (hK12 (Kp [1] (Rr (Fn1 [] [(2,.bool (t.data==[]))] (((1:Nat)≠0)/\(2+1<=5/\2<5)/\·) ⟨dc,dc,Rt (.bool (t.data==[])) (fin_lea ?_)⟩))))))))
 rw [show plainOk t=(t.data==[]) by
   have e1:=c5.1;have e2:t.names.length=t.kids.length:=(by have:=c5.2;omega)
   have hd:t.dir=true:=c9
   simp[plainOk,hd,e1,e2,all_take_full nmOk t.names k om hi2,asc_full om hi3]
   ];exact lea_refl _
theorem l1Count_ok:∀(N:Nat) (t:Tr),t.W=N->t.W<2^60->PE G 104 [.agg (tcs t)] (.i (cnt t)):=by
 intro N;refine Nat.strongRecOn N fun N ih=>?_;intro t hN hw;rw[W_eq]at hN hw;have hks:=Ws_len t.kids;have hcn:=cnts_W t.kids
 refine Pe Tryz.func104 ?_
 refine Rr (Fn2 [] [(1,.ptr 0 0)] ([(0,tcs t)]++·) 4 (Rr (Av1 3 7 [(6,.sl 5 (t.kids.map trc)),(5,.ptr 0 4)] (lnm t.kids trc) (((1:Nat)≠0)/\(4+1<=5/\4<5)/\·) ⟨dc,dc,Fn0 [1] [(3,.i t.kids.length)] ?_⟩)))
 refine Sq fun K3 hK3=>?_
 refine Rr (Fn0 [1,3] [(4,.i 0)] (Bl (h_l (fun(k:Nat)=>([(1,.ptr 0 0),(3,.i ((t.kids.length:Int)+((cnts (t.kids.take k):Nat):Int)-(k:Int))),(4,.i k)]:Fr)) (fun(k:Nat)=>([(0,tcs t)]:Hp)) (fun(k:Nat) cn=>(k<=t.kids.length)/\cn=4) (fun(k:Nat)=>t.kids.length-k) 0 kr ?_ ?_ ?_ ?_)))
 refine⟨?_,rfl⟩;exact Nat.zero_le _
 exact⟨kr,by show AV.int .i64 _=AV.int .i64 _;simp[cnts],kr,trivial⟩
 exact(sub_c kr (List.nil_sublist _))
 rintro k n1 hI
 (try dsimp only at hI)
 obtain⟨hk,rfl⟩:=hI
 refine Sq fun K5 hK5=>?_
 refine Rr (Av1 4 11 [(10,.sl 5 (t.kids.map trc)),(9,.ptr 0 4),(8,.i k)] (lnm t.kids trc) (((1:Nat)≠0)/\(4+1<=5/\4<5)/\·) ⟨dc,dc,Cn1 (decide ((k:Int)<(t.kids.length:Int))) [1,3,4] [] (Ki/\·) ⟨rfl,fun hc7 c7=>?_,fun hc7 c7=>?_⟩⟩)
 refine Sk (Jn (hK5 (Kp [1,3,4] (Sq fun K8 hK8=>?_))))
 refine Bl ?_
 have hct:=cnts_take t.kids k om;have hcl:=cnts_take_le t.kids (k+1);have hW:=Ws_get t.kids k om
 refine Rb (fun h=>Bn (Jn (hK8 h))) (Av1 5 19 [(18,.i k),(17,.sl 5 (t.kids.map trc)),(16,.ptr 0 4),(15,.i ((t.kids.length:Int)+((cnts (t.kids.take k):Nat):Int)-(k:Int)))] (congrArg AV.pat (mg_trc t.kids k om)) (((1:Nat)≠0)/\(4+1<=5/\4<5)/\(5=5/\(0:Int)<=(k:Int)/\(k:Int)<((t.kids.map trc).length:Int))/\·) ⟨dc,dc,⟨rfl,om,lmo⟩,Pc1 2 [(20,.agg (tcs (t.kids.getD k default)))] 21 (5<=5/\0<5) dc (ih _ om (t.kids.getD k default) rfl om) (Av1 (r:=.i (IntKind.i64.wrap (((t.kids.length:Int)+((cnts (t.kids.take k):Nat):Int)-(k:Int))+((cnt (t.kids.getD k default):Nat):Int)))) (v:=.i (((t.kids.length:Int)+((cnts (t.kids.take k):Nat):Int)-(k:Int))+((cnt (t.kids.getD k default):Nat):Int))) 1 22 [] (cI (wrap64 om om)) (Ki/\·) ⟨rfl,Fn0 [1,4] [(3,.i (((t.kids.length:Int)+((cnts (t.kids.take k):Nat):Int)-(k:Int))+((cnt (t.kids.getD k default):Nat):Int)))] ?_⟩)⟩)
 refine Rn (Av1 2 14 [(13,.i k)] (cI (wn1 k om)) (Ki/\·) ⟨rfl,Gn0 [(4,.i ((k+1:Nat):Int))] (nk_n (Lr (k+1) [(0,0)] 4 [(1,.ptr 0 0),(3,.i (((t.kids.length:Int)+((cnts (t.kids.take k):Nat):Int)-(k:Int))+((cnt (t.kids.getD k default):Nat):Int))),(4,.i ((k+1:Nat):Int))] [(0,tcs t)] [true] ?_ ?_ kr (by(try rw[show((t.kids.length:Int)+((cnts (t.kids.take (k+1)):Nat):Int)-((k+1:Nat):Int))=(((t.kids.length:Int)+((cnts (t.kids.take k):Nat):Int)-(k:Int))+((cnt (t.kids.getD k default):Nat):Int)) by omega]);try kernel_rfl)))⟩)
 (try dsimp only);omega
 refine⟨?_,rfl⟩;(try dsimp only);omega
 refine Xt (Jx (Lx (Bh (Jn (hK3 (Kp [3] (Rr (Fn0 [] [(2,.i ((t.kids.length:Int)+((cnts (t.kids.take k):Nat):Int)-(k:Int)))] (Rt (.i ((t.kids.length:Int)+((cnts (t.kids.take k):Nat):Int)-(k:Int))) (fin_lea ?_))))))))))
 rw[show((t.kids.length:Int)+((cnts (t.kids.take k):Nat):Int)-(k:Int))=((cnt t:Nat):Int) by rw[cnt_eq,List.take_of_length_le om];omega];exact lea_refl _
theorem l1Parts_ok:∀(N:Nat) (t:Tr) (n:Int),t.W=N->t.W<2^60-> -1000<=n->n<1000000->PE G 103 [.agg (tcs t),.i n] (.bool (partsOk t n)):=by
 intro N;refine Nat.strongRecOn N fun N ih=>?_;intro t n hN hw hn1 hn2;have hw0:=hw;rw[W_eq]at hN hw;have hks:=Ws_len t.kids
 refine Pe Tryz.func103 ?_
 refine Rr (Fn2 [1] [(2,.ptr 0 0)] ([(0,tcs t)]++·) 4 (Sq fun K2 hK2=>?_))
 refine Rm 12 ((!(plainOk t))||(decide ((4:Int)<(n:Int)))) [1,2] ?_ ?_
 refine Pc1 2 [(6,.agg (tcs t))] 7 (0+5<=5/\0<5) dc (l1Plain_ok t hw0) (An0 2 [(9,.bool (!(plainOk t))),(8,.bool (!(plainOk t)))] (Rg (fun hg4 g4=>?_) (fun hg4 g4=>?_)))
 refine Mn0 true (by rw[hg4];rfl)
 refine Mn1 (decide ((4:Int)<(n:Int))) (Ki/\·) ⟨rfl,(by rw[hg4];rfl)⟩
 refine Cc ((!(plainOk t))||(decide ((4:Int)<(n:Int)))) (fun hc5 c5=>?_) fun hc5 c5=>?_
 refine Rr (Fn0 [] [(4,.bool false)] (Rt (.bool false) (fin_lea ?_)))
 rw[partsOk_eq]
 rcases c5 with h|h
 · rw[h];exact lea_refl _
 · rw[show decide (n<=4)=false by simpa using h,Bool.false_and,Bool.and_false];exact lea_refl _
 refine Sk (Jn (hK2 (Kp [1,2] (Sq fun K7 hK7=>?_))))
 refine Rr (Fn0 [1,2] [(5,.i 0)] (Bl (h_l (fun(k:Nat)=>([(1,.i n),(2,.ptr 0 0),(5,.i k)]:Fr)) (fun(k:Nat)=>([(0,tcs t)]:Hp)) (fun(k:Nat) cn=>(k<=t.kids.length/\(t.kids.take k).all (partsOk · (n+1))=true)/\cn=4) (fun(k:Nat)=>t.kids.length-k) 0 kr ?_ ?_ ?_ ?_)))
 refine⟨?_,rfl⟩;exact⟨Nat.zero_le _,rfl⟩
 exact⟨kr,kr,kr,trivial⟩
 exact(sub_c kr (List.nil_sublist _))
 rintro k n1 hI
 (try dsimp only at hI)
 obtain⟨⟨hi1,hi2⟩,rfl⟩:=hI
 refine Sq fun K9 hK9=>?_
 refine Rr (Av1 4 16 [(15,.sl 5 (t.kids.map trc)),(14,.ptr 0 4),(13,.i k)] (lnm t.kids trc) (((1:Nat)≠0)/\(4+1<=5/\4<5)/\·) ⟨dc,dc,Cn1 (decide ((k:Int)<(t.kids.length:Int))) [1,2,5] [] (Ki/\·) ⟨rfl,fun hc11 c11=>?_,fun hc11 c11=>?_⟩⟩)
 refine Sk (Jn (hK9 (Kp [1,2,5] (Sq fun K12 hK12=>?_))))
 refine Bl ?_
 have hW:=Ws_get t.kids k om;have h4:=c5.2
 refine Rr (Av1 4 23 [(22,.i k),(21,.sl 5 (t.kids.map trc)),(20,.ptr 0 4)] (congrArg AV.pat (mg_trc t.kids k om)) (((1:Nat)≠0)/\(4+1<=5/\4<5)/\(5=5/\(0:Int)<=(k:Int)/\(k:Int)<((t.kids.map trc).length:Int))/\·) ⟨dc,dc,⟨rfl,om,lmo⟩,Av1 (r:=.i (IntKind.i64.wrap (n+1))) (v:=.i (n+1)) 3 26 [(25,.i n),(24,.agg (tcs (t.kids.getD k default)))] (cI (wrap64 om om)) ((5<=5/\0<5)/\Ki/\·) ⟨dc,rfl,Pc0 1 [] 27 (ih _ om (t.kids.getD k default) (n+1) rfl om om om) (Cn0 (!(partsOk (t.kids.getD k default) (n+1))) [1,2,5] [] ⟨fun hc14 c14=>?_,fun hc14 c14=>?_⟩)⟩⟩)
 refine Rr (Fn0 [] [(4,.bool false)] (Rt (.bool false) (fin_lea ?_)))
 rw[partsOk_eq,all_false_at (partsOk · (n+1)) t.kids k default om c14,Bool.and_false,Bool.and_false];exact lea_refl _
 refine Sk (Bn (Jn (hK12 (Kp [1,2,5] (Rn (Av1 2 19 [(18,.i k)] (cI (wn1 k om)) (Ki/\·) ⟨rfl,Gn0 [(5,.i ((k+1:Nat):Int))] (nk_n ?_)⟩))))))
 refine Lr (k+1) [(0,0)] 4 [(1,.i n),(2,.ptr 0 0),(5,.i ((k+1:Nat):Int))] [(0,tcs t)] [true] ?_ ?_ kr kr
 (try dsimp only);omega
 refine⟨?_,rfl⟩;(try dsimp only);exact⟨om,by rw[all_take_snoc (partsOk · (n+1)) _ k default om,hi2,c14];rfl⟩
 refine Xt (Jx (Lx (Bh (Jn (hK7 (Kp [] (Rr (Fn0 [] [(4,.bool true)] (Rt (.bool true) (fin_lea ?_))))))))))
 rw[partsOk_eq,all_take_full (partsOk · (n+1)) t.kids k om hi2,c5.1,show decide (n<=4)=true by have:=c5.2;simpa using this];exact lea_refl _
theorem sTreeOk_c (t:Tr) (hw:t.W<2^60):PE G 67 [.agg (tcs t)] (.bool (treeOk t)):=by
 refine Pe Tryz.func67 ?_
 refine Rr (Fn2 [] [(1,.ptr 0 0)] ([(0,tcs t)]++·) 4 (Rm 2 (t.dir&&((partsOk t 0)&&(decide (((cnt t:Nat):Int)<=30)))) [] ?_ ?_))
 refine An1 3 [(5,.bool t.dir),(4,.bool t.dir),(3,.ptr 0 0)] (((1:Nat)≠0)/\(0+1<=5/\0<5)/\·) ⟨dc,dc,Rg (fun hg3 g3=>?_) (fun hg3 g3=>?_)⟩
 refine Pc1 2 [(6,.agg (tcs t))] 7 (0+5<=5/\0<5) dc (l1Parts_ok _ t 0 rfl hw om om) (An0 2 [(9,.bool (partsOk t 0)),(8,.bool (partsOk t 0))] (Rg (fun hg4 g4=>?_) (fun hg4 g4=>?_)))
 refine Pc1 2 [(10,.agg (tcs t))] 11 (0+5<=5/\0<5) dc (l1Count_ok _ t rfl hw) (Mn1 (decide (((cnt t:Nat):Int)<=30)) (Ki/\·) ⟨rfl,(by rw[hg3,hg4];rfl)⟩)
 refine Mn0 false (by rw[hg3,hg4];rfl)
 refine Mn0 false (by rw[hg3];rfl)
 refine Rt (.bool (t.dir&&((partsOk t 0)&&(decide (((cnt t:Nat):Int)<=30))))) (fin_lea ?_)
 have hr:treeOk t=(t.dir&&((partsOk t 0)&&(decide (((cnt t:Nat):Int)<=30)))):=by
   unfold treeOk;rw[show decide (cnt t<=30)=decide (((cnt t:Nat):Int)<=(30:Int))from decide_eq_decide.2 ⟨fun h=>by omega,fun h=>by omega⟩];try rw[Bool.and_assoc]
 rw[hr];exact lea_refl _
theorem l1At_r:∀(N:Nat) (p:List Str) (t:Tr),p.length=N->t.W<2^60->t.wf=true->p.length<2^60->PE G 91 [.agg (tcs t),pth p] (.tup [.agg (tcs ((tat t p).getD .none)),.bool (tat t p).isSome]):=by
 intro N;refine Nat.strongRecOn N fun N ih=>?_;intro p t hN hw hwf hp;have hw0:=hw;rw[W_eq]at hw;have hks:=Ws_len t.kids;have hwl:=wf_len hwf
 refine Pe Tryz.func91 ?_
 refine Rr (Fn2 [1] [(4,.ptr 4 0),(2,.ptr 0 0)] ([(4,zt),(0,tcs t)]++·) 8 (Sq fun K2 hK2=>?_))
 refine Rr (Av0 2 8 [(7,pth p)] (lnm p sc) (Cn1 (decide ((p.length:Int)=0)) [1,2,4] [] (Ki/\·) ⟨rfl,fun hc4 c4=>?_,fun hc4 c4=>?_⟩))
 refine Rr (Fn3 [4] [(5,.bool true)] (Hw [(4,tcs t)] [] ·) 8 ((0+5<=5/\0<5)/\(true=true/\5=5/\0+5<=5)/\·) ⟨dc,dc,Rt1 ((0+5<=5/\0<5)/\·) (.tup [.agg (tcs t),.bool true]) ⟨dc,fin_lea ?_⟩⟩)
 rw[tat_zero t om];exact lea_refl _
 refine Sk (Jn (hK2 (Kp [1,2,4] (Qr [0,0,2,6,15,31] [(0,[]),(1,[]),(2,[]),(3,[]),(4,[]),(5,[])] (qAv1 3 13 [(12,pth p),(11,.agg (tcs t))] (congrArg AV.pat (mg_str p 0 om)) ((0+5<=5/\0<5)/\(1=1/\(0:Int)<=0/\0<((p.map (fun s=>[AV.str s])).length:Int))/\·) ⟨dc,⟨rfl,om,lmo⟩,qBc1 2 [(14,.str (p.getD 0 default))] [] 128 [.agg (tcs t),.str (p.getD 0 default)] 15 ((1<=1/\0<1)/\·) ⟨dc,PE.use (l1Find_c t (p.getD 0 default) hw0) ?_⟩⟩)))))
 refine Kq (p:=(True)) trivial ?_
 refine qFn0 [1,2,4] [(6,.i (fndI (p.getD 0 default) t.names))] (Sq fun K7 hK7=>?_)
 refine Rr (Cn1 (decide ((fndI (p.getD 0 default) t.names:Int)<(0:Int))) [1,2,4,6] [] (Ki/\·) ⟨rfl,fun hc9 c9=>?_,fun hc9 c9=>?_⟩)
 refine Rr (Fn1 [4] [(5,.bool false)] ((true=true/\5=5/\0+5<=5)/\·) ⟨dc,Rt1 ((0+5<=5/\0<5)/\·) (.tup [.agg zt,.bool false]) ⟨dc,fin_lea ?_⟩⟩)
 rw[tat_step t om,fndI_no c9];simp[lea,leas,tcs,Tr.none,pth]
 refine Sk (Jn (hK7 (Kp [1,2,4,6] (h_k [1,2,4,6] (F':=[(1,pth p),(2,.ptr 0 0),(4,.ptr 4 0),(6,.i (fndI (p.getD 0 default) t.names))]) kr ?_))))
 obtain⟨k,hk1,hk2,hk3⟩:=fndI_lt c9
 have hW:=Ws_get t.kids k om
 refine h_st (F':=[(1,pth p),(2,.ptr 0 0),(4,.ptr 4 0),(6,.i k)]) (H':=[(4,zt),(0,tcs t)]) (by rw[hk2]) rfl ?_
 refine Qr [0,1,0,7,15,0,32,127,255,255,1023,2047] [(0,[]),(1,[]),(2,[]),(3,[]),(4,[]),(5,[]),(6,[]),(7,[]),(8,[]),(9,[]),(10,[]),(11,[])] (qAv1 4 22 [(21,.i k),(20,.sl 5 (t.kids.map trc)),(19,.ptr 0 4)] (congrArg AV.pat (mg_trc t.kids k om)) (((1:Nat)≠0)/\(4+1<=5/\4<5)/\(5=5/\(0:Int)<=(k:Int)/\(k:Int)<((t.kids.map trc).length:Int))/\·) ⟨dc,dc,⟨rfl,om,lmo⟩,qAv1 (r:=.sl 1 (((p.map (fun s=>[AV.str s])).take ((p.map (fun s=>[AV.str s])).length)).drop 1)) (v:=pth (p.drop 1)) 3 25 [(24,pth p),(23,.agg (tcs (t.kids.getD k default)))] (congrArg (AV.sl 1) (slm_all _ _ _)) ((5<=5/\0<5)/\(1=1/\0<=(1:Int)/\(1:Int)<=((p.map (fun s=>[AV.str s])).length:Int)/\((p.map (fun s=>[AV.str s])).length:Int)<=((p.map (fun s=>[AV.str s])).length:Int))/\·) ⟨dc,⟨rfl,om,lmo,om⟩,qBc0 1 [] [] 91 [.agg (tcs (t.kids.getD k default)),pth (p.drop 1)] 26 (PE.use (ih _ (by simp;omega) (p.drop 1) (t.kids.getD k default) rfl om (wf_kid hwf om _) (by simp;omega)) ?_)⟩⟩)
 refine Kq (p:=(True)) trivial ?_
 refine qFn3 [4] [(5,.bool ((tat (t.kids.getD k default) (p.drop 1)).isSome))] (Hw [(4,tcs ((tat (t.kids.getD k default) (p.drop 1)).getD .none))] [] ·) 8 ((0<2)/\(1<2)/\(true=true/\5=5/\0+5<=5)/\(True)/\·) ⟨dc,dc,dc,trivial,Rt1 ((0+5<=5/\0<5)/\·) (.tup [.agg (tcs ((tat (t.kids.getD k default) (p.drop 1)).getD .none)),.bool ((tat (t.kids.getD k default) (p.drop 1)).isSome)]) ⟨dc,fin_lea ?_⟩⟩
 rw[tat_step t om,hk1];exact lea_refl _
theorem l1At_c (p:List Str) (t:Tr) (hw:t.W<2^60) (hf:t.wf=true) (hp:p.length<2^60):PE G 91 [.agg (tcs t),pth p] (.tup [.agg (tcs ((tat t p).getD .none)),.bool (tat t p).isSome]):=l1At_r _ p t rfl hw hf hp
theorem l2Fits_c (x t:Tr) (hw:x.W<2^60):PE G 109 [.agg (tcs x),.agg (tcs t)] (.tup [.agg (tcs (if treeOk x then x else t)),.i (if treeOk x then 0 else 6)]):=by
 refine Pe Tryz.func109 ?_
 refine Rr (Fn2 [] [(4,.ptr 8 0),(3,.ptr 4 0),(2,.ptr 0 0)] ([(8,zt),(4,tcs t),(0,tcs x)]++·) 12 (Sq fun K2 hK2=>?_))
 refine Rr (Pc1 2 [(6,.agg (tcs x))] 7 (0+5<=5/\0<5) dc (sTreeOk_c x hw) (Cn0 (!(treeOk x)) [2,3,4] [] ⟨fun hc4 c4=>?_,fun hc4 c4=>?_⟩))
 refine Rr (Fn3 [4] [(5,.i 6)] (Hw [(8,tcs t)] [] ·) 12 ((0+5<=5/\0<5)/\(true=true/\5=5/\0+5<=5)/\·) ⟨dc,dc,Rt1 ((0+5<=5/\0<5)/\·) (.tup [.agg (tcs t),.i 6]) ⟨dc,fin_lea ?_⟩⟩)
 rw[show treeOk x=false by simpa using c4];exact lea_refl _
 refine Sk (Jn (hK2 (Kp [2,4] (Rr (Fn3 [4] [(5,.i 0)] (Hw [(8,tcs x)] [] ·) 12 ((0+5<=5/\0<5)/\(true=true/\5=5/\0+5<=5)/\·) ⟨dc,dc,Rt1 ((0+5<=5/\0<5)/\·) (.tup [.agg (tcs x),.i 0]) ⟨dc,fin_lea ?_⟩⟩)))))
 rw[show treeOk x=true by simpa using c4];exact lea_refl _
theorem l2Parent_c (t:Tr) (p:List Str) (hw:t.W<2^60) (hwf:t.wf=true) (hp:p.length<2^60) (h0:0<p.length):PE G 108 [.agg (tcs t),pth p] (.i (parC t p)):=by
 refine Pe Tryz.func108 ?_
 refine Rr (Fn2 [1] [(2,.ptr 0 0)] ([(0,tcs t)]++·) 4 (Qr [0,0,0,4,12,30,63,127,255,255,0,1535,4095] [(0,[]),(1,[]),(2,[]),(3,[]),(4,[]),(5,[]),(6,[]),(7,[]),(8,[]),(9,[]),(10,[0]),(11,[]),(12,[])] (qAv1 4 11 [(10,pth p),(9,pth p),(8,.agg (tcs t))] (lnm p sc) ((0+5<=5/\0<5)/\·) ⟨dc,qAv1 (r:=.i (IntKind.i64.wrap ((p.length:Int)-1))) (v:=.i ((p.length:Int)-1)) 1 12 [] (cI (wrap64 om om)) (Ki/\·) ⟨rfl,?_⟩⟩)))
 refine qAv1 (r:=.sl 1 (((p.map (fun s=>[AV.str s])).take (((p.length:Int)-1).toNat)).drop 0)) (v:=pth (p.take (((p.length:Int)-1).toNat))) 1 13 [] (congrArg (AV.sl 1) (slm_0 _ _ _)) ((1=1/\0<=(0:Int)/\(0:Int)<=((p.length:Int)-1)/\((p.length:Int)-1)<=((p.map (fun s=>[AV.str s])).length:Int))/\·) ⟨⟨rfl,om,by(try rw[List.length_map]);omega,lmo⟩,qBc0 1 [] [] 91 [.agg (tcs t),pth (p.take (((p.length:Int)-1).toNat))] 14 (PE.use (l1At_c (p.take (((p.length:Int)-1).toNat)) t hw hwf (by rw[List.length_take];omega)) (Kq (p:=(True)) trivial (qFn3 [] [(6,.bool ((tat t (p.take (((p.length:Int)-1).toNat))).isSome)),(5,.ptr 4 0)] ([(4,tcs ((tat t (p.take (((p.length:Int)-1).toNat))).getD .none))]++·) 8 ((0<2)/\(1<2)/\(((0+5<=5/\0<5)/\(AV.agg (tcs t)=(.agg (tcs t):AV)))/\True)/\(true=true/\5=5/\0+5<=5)/\(True)/\·) ⟨dc,dc,⟨⟨dc,rfl⟩,trivial⟩,dc,trivial,?_⟩)))⟩
 refine Sq fun K3 hK3=>?_
 refine Bl (Rr (Cn0 (!((tat t (p.take (((p.length:Int)-1).toNat))).isSome)) [5] [] ⟨fun hc5 c5=>?_,fun hc5 c5=>?_⟩))
 refine Rr (Fn0 [] [(4,.i 3)] (Rt (.i 3) (fin_lea ?_)))
 have hr:parC t p=3:=by
   unfold parC
   rw[show((p.length:Int)-1).toNat=p.length-1 by omega]at*
   cases hx:tat t (p.take (p.length-1))<;>simp_all
 rw[hr];exact lea_refl _
 refine Rr (Cn1 (!(((tat t (p.take (((p.length:Int)-1).toNat))).getD .none).dir)) [] [] (((1:Nat)≠0)/\(0+1<=5/\0<5)/\·) ⟨dc,dc,fun hc8 c8=>?_,fun hc8 c8=>?_⟩)
 refine Rr (Fn0 [] [(4,.i 4)] (Rt (.i 4) (fin_lea ?_)))
 have hr:parC t p=4:=by
   unfold parC
   rw[show((p.length:Int)-1).toNat=p.length-1 by omega]at*
   cases hx:tat t (p.take (p.length-1))<;>simp_all
 rw[hr];exact lea_refl _
 refine Sk (Bn (Jn (hK3 (Kp [] (Rr (Fn0 [] [(4,.i 0)] (Rt (.i 0) (fin_lea ?_))))))))
 have hr:parC t p=0:=by
   unfold parC
   rw[show((p.length:Int)-1).toNat=p.length-1 by omega]at*
   cases hx:tat t (p.take (p.length-1))<;>simp_all
 rw[hr];exact lea_refl _
theorem l2CallOk_ok (c:Cl) (h1:c.path.length<2^62) (h2:∀s∈c.path,s.length<2^62) (h3:c.to.length<2^62) (h4:∀s∈c.to,s.length<2^62):PE G 70 [.agg (clc c)] (.bool (callOk c)):=by
 refine Pe Tryz.func70 ?_
 refine Rr (Fn2 [] [(1,.ptr 0 0)] ([(0,clc c)]++·) 4 (Sq fun K2 hK2=>?_))
 refine Rr (Fn1 [1] [(4,.i c.kind)] (((1:Nat)≠0)/\(0+1<=5/\0<5)/\·) ⟨dc,dc,Bl (Sq fun K4 hK4=>?_)⟩)
 refine Rr (Cn1 (decide ((c.kind:Int)=(1:Int))) [1,4] [(5,.bool (decide ((c.kind:Int)=(1:Int))))] (Ki/\·) ⟨rfl,fun hc6 c6=>?_,fun hc6 c6=>?_⟩)
 refine Sk (Jn (hK4 (Kp [1,4,5] (C1 (t:=decide ((c.kind:Int)=(1:Int))) hc6 (Rm 2 ((pthOk c.path 1)&&(inb c.at_ 0 7)) [] ?_ ?_)))))
 refine Bc1 3 [(9,pth c.path),(8,.ptr 0 1)] 106 [pth c.path] 10 (((1:Nat)≠0)/\(1+1<=5/\1<5)/\·) ⟨dc,dc,?_⟩
 refine PE.use (l2PathOk_ok c.path h1 h2) ?_
 refine Ke (An0 1 [(11,.bool (pthOk c.path 1))] (Rg (fun hg8 g8=>?_) (fun hg8 g8=>?_)))
 refine Bc1 3 [(13,.i c.at_),(12,.ptr 0 3)] 105 [.i c.at_,.i 0,.i 7] 14 (((1:Nat)≠0)/\(3+1<=5/\3<5)/\·) ⟨dc,dc,?_⟩
 refine PE.use (l1In_ok c.at_ 0 7) ?_
 refine Ke (Mn0 (inb c.at_ 0 7) (by rw[hg8];rfl))
 refine Mn0 false (by rw[hg8];rfl)
 refine Rt (.bool ((pthOk c.path 1)&&(inb c.at_ 0 7))) (fin_lea ?_)
 have hr:callOk c=((pthOk c.path 1)&&(inb c.at_ 0 7)):=by
   unfold callOk
   (repeat' split)<;>first|omega|rfl
 rw[hr];exact lea_refl _
 refine Rb (fun h=>Jn (hK4 h)) (Fn1 [1,4] [(5,.bool (decide ((c.kind:Int)=(6:Int))))] (Ki/\·) ⟨rfl,Cc (decide ((c.kind:Int)=(6:Int))) (fun hc9 c9=>?_) fun hc9 c9=>?_⟩)
 refine Rm 2 ((pthOk c.path 1)&&(inb c.at_ 0 7)) [] ?_ ?_
 refine Bc1 3 [(9,pth c.path),(8,.ptr 0 1)] 106 [pth c.path] 10 (((1:Nat)≠0)/\(1+1<=5/\1<5)/\·) ⟨dc,dc,?_⟩
 refine PE.use (l2PathOk_ok c.path h1 h2) ?_
 refine Ke (An0 1 [(11,.bool (pthOk c.path 1))] (Rg (fun hg11 g11=>?_) (fun hg11 g11=>?_)))
 refine Bc1 3 [(13,.i c.at_),(12,.ptr 0 3)] 105 [.i c.at_,.i 0,.i 7] 14 (((1:Nat)≠0)/\(3+1<=5/\3<5)/\·) ⟨dc,dc,?_⟩
 refine PE.use (l1In_ok c.at_ 0 7) ?_
 refine Ke (Mn0 (inb c.at_ 0 7) (by rw[hg11];rfl))
 refine Mn0 false (by rw[hg11];rfl)
 refine Rt (.bool ((pthOk c.path 1)&&(inb c.at_ 0 7))) (fin_lea ?_)
 have hr:callOk c=((pthOk c.path 1)&&(inb c.at_ 0 7)):=by
   unfold callOk
   (repeat' split)<;>first|omega|rfl
 rw[hr];exact lea_refl _
 refine Sq fun K12 hK12=>?_
 refine Rr (Cn1 (decide ((c.kind:Int)=(2:Int))) [1,4] [(16,.bool (decide ((c.kind:Int)=(2:Int))))] (Ki/\·) ⟨rfl,fun hc14 c14=>?_,fun hc14 c14=>?_⟩)
 refine Sk (Jn (hK12 (Kp [1,4,16] (C1 (t:=decide ((c.kind:Int)=(2:Int))) hc14 (Rm 2 ((pthOk c.path 1)&&(inb c.at_ 0 24)) [] ?_ ?_)))))
 refine Bc1 3 [(20,pth c.path),(19,.ptr 0 1)] 106 [pth c.path] 21 (((1:Nat)≠0)/\(1+1<=5/\1<5)/\·) ⟨dc,dc,?_⟩
 refine PE.use (l2PathOk_ok c.path h1 h2) ?_
 refine Ke (An0 1 [(22,.bool (pthOk c.path 1))] (Rg (fun hg16 g16=>?_) (fun hg16 g16=>?_)))
 refine Bc1 3 [(24,.i c.at_),(23,.ptr 0 3)] 105 [.i c.at_,.i 0,.i 24] 25 (((1:Nat)≠0)/\(3+1<=5/\3<5)/\·) ⟨dc,dc,?_⟩
 refine PE.use (l1In_ok c.at_ 0 24) ?_
 refine Ke (Mn0 (inb c.at_ 0 24) (by rw[hg16];rfl))
 refine Mn0 false (by rw[hg16];rfl)
 refine Rt (.bool ((pthOk c.path 1)&&(inb c.at_ 0 24))) (fin_lea ?_)
 have hr:callOk c=((pthOk c.path 1)&&(inb c.at_ 0 24)):=by
   unfold callOk
   (repeat' split)<;>first|omega|rfl
 rw[hr];exact lea_refl _
 refine Rb (fun h=>Jn (hK12 h)) (Fn1 [1,4] [(16,.bool (decide ((c.kind:Int)=(3:Int))))] (Ki/\·) ⟨rfl,Cc (decide ((c.kind:Int)=(3:Int))) (fun hc17 c17=>?_) fun hc17 c17=>?_⟩)
 refine Rm 2 ((pthOk c.path 1)&&(inb c.at_ 0 24)) [] ?_ ?_
 refine Bc1 3 [(20,pth c.path),(19,.ptr 0 1)] 106 [pth c.path] 21 (((1:Nat)≠0)/\(1+1<=5/\1<5)/\·) ⟨dc,dc,?_⟩
 refine PE.use (l2PathOk_ok c.path h1 h2) ?_
 refine Ke (An0 1 [(22,.bool (pthOk c.path 1))] (Rg (fun hg19 g19=>?_) (fun hg19 g19=>?_)))
 refine Bc1 3 [(24,.i c.at_),(23,.ptr 0 3)] 105 [.i c.at_,.i 0,.i 24] 25 (((1:Nat)≠0)/\(3+1<=5/\3<5)/\·) ⟨dc,dc,?_⟩
 refine PE.use (l1In_ok c.at_ 0 24) ?_
 refine Ke (Mn0 (inb c.at_ 0 24) (by rw[hg19];rfl))
 refine Mn0 false (by rw[hg19];rfl)
 refine Rt (.bool ((pthOk c.path 1)&&(inb c.at_ 0 24))) (fin_lea ?_)
 have hr:callOk c=((pthOk c.path 1)&&(inb c.at_ 0 24)):=by
   unfold callOk
   (repeat' split)<;>first|omega|rfl
 rw[hr];exact lea_refl _
 refine Rr (Cn1 (decide ((c.kind:Int)=(4:Int))) [1,4] [] (Ki/\·) ⟨rfl,fun hc21 c21=>?_,fun hc21 c21=>?_⟩)
 refine Rr (Bc1 3 [(30,pth c.path),(29,.ptr 0 1)] 106 [pth c.path] 31 (((1:Nat)≠0)/\(1+1<=5/\1<5)/\·) ⟨dc,dc,PE.use (l2PathOk_ok c.path h1 h2) (Ke (Fn0 [] [(2,.bool (pthOk c.path 1))] ?_))⟩)
 refine Rt (.bool (pthOk c.path 1)) (fin_lea ?_)
 have hr:callOk c=(pthOk c.path 1):=by
   unfold callOk
   (repeat' split)<;>first|omega|rfl
 rw[hr];exact lea_refl _
 refine Rr (Cn1 (decide ((c.kind:Int)=(5:Int))) [1] [] (Ki/\·) ⟨rfl,fun hc24 c24=>?_,fun hc24 c24=>?_⟩)
 refine Rm 2 ((pthOk c.path 1)&&(pthOk c.to 1)) [] ?_ ?_
 refine Bc1 3 [(35,pth c.path),(34,.ptr 0 1)] 106 [pth c.path] 36 (((1:Nat)≠0)/\(1+1<=5/\1<5)/\·) ⟨dc,dc,?_⟩
 refine PE.use (l2PathOk_ok c.path h1 h2) ?_
 refine Ke (An0 1 [(37,.bool (pthOk c.path 1))] (Rg (fun hg26 g26=>?_) (fun hg26 g26=>?_)))
 refine Bc1 3 [(39,pth c.to),(38,.ptr 0 2)] 106 [pth c.to] 40 (((1:Nat)≠0)/\(2+1<=5/\2<5)/\·) ⟨dc,dc,?_⟩
 refine PE.use (l2PathOk_ok c.to h3 h4) ?_
 refine Ke (Mn0 (pthOk c.to 1) (by rw[hg26];rfl))
 refine Mn0 false (by rw[hg26];rfl)
 refine Rt (.bool ((pthOk c.path 1)&&(pthOk c.to 1))) (fin_lea ?_)
 have hr:callOk c=((pthOk c.path 1)&&(pthOk c.to 1)):=by
   unfold callOk
   (repeat' split)<;>first|omega|rfl
 rw[hr];exact lea_refl _
 refine Sk (Bn (Jn (hK2 (Kp [] (Rr (Fn0 [] [(2,.bool false)] (Rt (.bool false) (fin_lea ?_))))))))
 have hr:callOk c=(false):=by
   unfold callOk
   (repeat' split)<;>first|omega|rfl
 rw[hr];exact lea_refl _
open Go Go.Proofs
set_option maxRecDepth 100000
theorem l1Copy_ok:∀(N:Nat) (t:Tr),t.W=N->t.W<2^40->PE G 71 [.agg (tcs t)] (.agg (tcs t)):=by
 intro N;refine Nat.strongRecOn N fun N ih=>?_;intro t hN hw;rw[W_eq]at hN hw;have hks:=Ws_len t.kids;have hns:=wS_len t.names
 refine Pe Tryz.func71 ?_
 refine Rr (Fn2 [] [(2,.ptr 4 0),(1,.ptr 0 0)] ([(4,zt),(0,tcs t)]++·) 8 (Qr [0,1,0,4,0,16,0,0,128,448,1023,0,4095] [(0,[]),(1,[]),(2,[]),(3,[]),(4,[]),(5,[]),(7,[]),(8,[]),(6,[1,3,5,8]),(9,[1,3,5]),(10,[]),(11,[1,3,5,8]),(12,[])] (qAn3 10 [(14,.osl 12 1 0 (0+(t.names.map (fun s=>[AV.str s])).length)),(11,.osl 8 1 0 0),(13,pth t.names),(12,.ptr 0 3),(10,.str t.data),(9,.ptr 0 2),(8,.i t.mode),(7,.ptr 0 1),(6,.bool t.dir),(5,.ptr 0 0)] ([(12,apd [] (0*1) ((t.names.map (fun s=>[AV.str s])).flatten))]++·) 16 (((1:Nat)≠0)/\(0+1<=5/\0<5)/\((1:Nat)≠0)/\(1+1<=5/\1<5)/\((1:Nat)≠0)/\(2+1<=5/\2<5)/\((1:Nat)≠0)/\(3+1<=5/\3<5)/\(0*1<=16777216)/\(((0+1<=5/\0<5)/\(AV.bool t.dir=(.bool t.dir:AV)))/\((1+1<=5/\1<5)/\(AV.int .i64 t.mode=(.i t.mode:AV)))/\((2+1<=5/\2<5)/\(AV.str t.data=(.str t.data:AV)))/\((3+1<=5/\3<5)/\(pth t.names=pth t.names))/\True)/\True/\(1=1/\0*1<=0/\0<16/\(0+(t.names.map (fun s=>[AV.str s])).length)*16<=140737488355328)/\(((0+1<=5/\0<5)/\(AV.bool t.dir=(.bool t.dir:AV)))/\((1+1<=5/\1<5)/\(AV.int .i64 t.mode=(.i t.mode:AV)))/\((2+1<=5/\2<5)/\(AV.str t.data=(.str t.data:AV)))/\True)/\·) ⟨dc,dc,dc,dc,dc,dc,dc,dc,dc,⟨⟨dc,rfl⟩,⟨dc,rfl⟩,⟨dc,rfl⟩,⟨dc,rfl⟩,trivial⟩,trivial,⟨rfl,gl,dc,gl⟩,⟨⟨dc,rfl⟩,⟨dc,rfl⟩,⟨dc,rfl⟩,trivial⟩,runq_v (v':=.osl 12 1 0 t.names.length) (by rw[Nat.zero_add,List.length_map]) ?_⟩)))
 refine runq_h (cs':=fl sc t.names) (app0_str _) ?_
 refine qFn3 [1,2] [(3,.ptr 16 0)] ([(16,(tr5 t (.osl 12 1 0 t.names.length)  .nils))]++·) 20 ((((0+1<=5/\0<5)/\(AV.bool t.dir=(.bool t.dir:AV)))/\((1+1<=5/\1<5)/\(AV.int .i64 t.mode=(.i t.mode:AV)))/\((2+1<=5/\2<5)/\(AV.str t.data=(.str t.data:AV)))/\((3+1<=5/\3<5)/\(pth t.names=pth t.names))/\True)/\(true=true/\5=5/\0+5<=5)/\(True)/\·) ⟨⟨⟨dc,rfl⟩,⟨dc,rfl⟩,⟨dc,rfl⟩,⟨dc,rfl⟩,trivial⟩,dc,trivial,Sq fun K3 hK3=>?_⟩
 refine Rr (Fn0 [1,2,3] [(4,.i 0)] (Bl (h_l (fun(x:Nat×Option Unit)=>(match x with|(_,none)=>([(1,.ptr 0 0),(2,.ptr 4 0),(3,.ptr 16 0),(4,.i 0)]:Fr)|(k,some ())=>([(1,.ptr 0 0),(2,.ptr 4 0),(3,.ptr 16 0),(4,.i k)]:Fr))) (fun(x:Nat×Option Unit)=>(match x with|(_,none)=>([(16,(tr5 t (.osl 12 1 0 t.names.length)  .nils)),(12,fl sc t.names),(4,zt),(0,tcs t)]:Hp)|(k,some ())=>([(20,fl trc (t.kids.take k)),(16,(tr5 t (.osl 12 1 0 t.names.length) (.osl 20 5 0 ((t.kids.take k).length)))),(12,fl sc t.names),(4,zt),(0,tcs t)]:Hp))) (fun(x:Nat×Option Unit) cn=>(match x with|(_,none)=>(x.1=0)/\cn=20|(k,some ())=>(0<k/\k<=t.kids.length)/\cn=24)) (fun(x:Nat×Option Unit)=>t.kids.length-x.1) (0,none) kr ?_ ?_ ?_ ?_)))
 refine⟨?_,rfl⟩;rfl
 exact⟨kr,kr,kr,kr,trivial⟩
 exact(sub_c kr (sub_c kr (sub_c kr (sub_c kr (List.nil_sublist _)))))
 rintro⟨k,_|⟨⟩⟩ n1 hI
 (try dsimp only at hI)
 obtain⟨rfl,rfl⟩:=hI
 dsimp only
 refine Sq fun K5 hK5=>?_
 refine Rr (Av1 4 19 [(18,.sl 5 (t.kids.map trc)),(17,.ptr 0 4),(16,.i 0)] (lnm t.kids trc) (((1:Nat)≠0)/\(4+1<=5/\4<5)/\·) ⟨dc,dc,Cn1 (decide ((0:Int)<((t.kids.length:Int):Int))) [1,2,3,4] [] (Ki/\·) ⟨rfl,fun hc7 c7=>?_,fun hc7 c7=>?_⟩⟩)
 refine Sk (Jn (hK5 (Kp [1,2,3,4] (Sq fun K8 hK8=>?_))))
 refine Bl (Qb [0,1,0,4,0,28,60,124,252,511,1023,2047] [(0,[]),(1,[]),(2,[]),(3,[]),(4,[]),(5,[]),(6,[]),(7,[1]),(8,[1]),(9,[]),(10,[]),(11,[])] (fun h=>Bn (Jn (hK8 h))) (qAv1 6 28 [(27,.i 0),(26,.sl 5 (t.kids.map trc)),(25,.ptr 0 4),(24,.nils),(23,.ptr 16 4)] (congrArg AV.pat (mg_trc t.kids 0 om)) (((1:Nat)≠0)/\(4+1<=5/\4<5)/\((1:Nat)≠0)/\(4+1<=5/\4<5)/\(5=5/\(0:Int)<=0/\0<((t.kids.map trc).length:Int))/\·) ⟨dc,dc,dc,dc,⟨rfl,om,lmo⟩,qBc1 2 [(29,.agg (tcs (t.kids.getD 0 default)))] [1] 71 [.agg (tcs (t.kids.getD 0 default))] 30 ((5<=5/\0<5)/\·) ⟨dc,?_⟩⟩))
 have hW:=Ws_get t.kids 0 om
 refine PE.use (ih _ om (t.kids.getD 0 default) rfl om) ?_
 refine Kq (p:=(((4+1<=5/\4<5)/\(AV.nils=(.nils:AV)))/\True)) ⟨⟨dc,rfl⟩,trivial⟩ ?_
 refine qAn3 2 [(32,.osl 24 5 0 1),(31,.osl 20 5 0 1)] ([(24,tcs (t.kids.getD 0 default)),(20,tcs (t.kids.getD 0 default))]++·) 28 ((1*5<=16777216)/\(((4+1<=5/\4<5)/\(AV.nils=(.nils:AV)))/\True)/\(0+1*5<=5)/\(0<1/\0<80/\1*80<=140737488355328)/\(True)/\·) ⟨dc,⟨⟨dc,rfl⟩,trivial⟩,dc,dc,trivial,runq_v (v':=.osl 24 5 0 ([(t.kids.getD 0 default)].length)) rfl (runq_h (cs':=fl trc [(t.kids.getD 0 default)]) (s1_trc (t.kids.getD 0 default)) (qFn3 [1,2,3,4] [] (Hw [(16,(tr5 t (.osl 12 1 0 t.names.length) (.osl 24 5 0 ([(t.kids.getD 0 default)].length))))] [] ·) 28 (((1:Nat)≠0)/\(true=true/\1=1/\4+1<=5)/\(True)/\·) ⟨dc,dc,trivial,Rn ?_⟩))⟩
 refine Gn1 [(4,.i 1),(22,.i 1),(21,.i 0)] (Ki/\·) ⟨rfl,nk_n (Lr (1,some ()) [(0,0),(4,4),(12,12),(16,16),(24,20)] 24 [(1,.ptr 0 0),(2,.ptr 4 0),(3,.ptr 16 0),(4,.i 1)] [(24,fl trc [(t.kids.getD 0 default)]),(16,(tr5 t (.osl 12 1 0 t.names.length) (.osl 24 5 0 ([(t.kids.getD 0 default)].length)))),(12,fl sc t.names),(4,zt),(0,tcs t)] [false,true,false,true,true] ?_ ?_ (by(try rw[one_take default om]);try kernel_rfl) kr)⟩
 (try dsimp only);omega
 refine⟨?_,rfl⟩;(try dsimp only);omega
 refine Xt (Jx (Lx (Bh (Jn (hK3 (Kp [2,3] (Rr (Fn3 [2] [] (Hw [(4,(tr5 t (.osl 12 1 0 t.names.length)  .nils))] [] ·) 20 ((0+5<=5/\0<5)/\(true=true/\5=5/\0+5<=5)/\·) ⟨dc,dc,FzS 12 t.names [(2,.ptr 4 0)] [(4,(tr5 t (.osl 12 1 0 t.names.length)  .nils))] [true] (Rt1 ((0+5<=5/\0<5)/\·) (.agg (tr5 t (pth t.names)  .nils)) ⟨dc,?_⟩)⟩))))))))
 refine fin_lea ?_
 first
   |(rw[List.take_of_length_le om];exact lea_refl _)
   | (have:t.kids=[]:=List.eq_nil_of_length_eq_zero om
      simp only[tcs,this];simp[lea,leas])
 (try dsimp only at hI)
 obtain⟨⟨hk0,hk⟩,rfl⟩:=hI
 dsimp only
 have hkl:(t.kids.take k).length=k:=tkl hk
 refine Sq fun K10 hK10=>?_
 refine Rr (Av1 4 19 [(18,.sl 5 (t.kids.map trc)),(17,.ptr 0 4),(16,.i k)] (lnm t.kids trc) (((1:Nat)≠0)/\(4+1<=5/\4<5)/\·) ⟨dc,dc,Cn1 (decide ((k:Int)<(t.kids.length:Int))) [1,2,3,4] [] (Ki/\·) ⟨rfl,fun hc12 c12=>?_,fun hc12 c12=>?_⟩⟩)
 refine Sk (Jn (hK10 (Kp [1,2,3,4] (Sq fun K13 hK13=>?_))))
 refine Bl (Qb [0,1,0,4,0,28,60,124,252,511,1023,2047] [(0,[]),(1,[]),(2,[]),(3,[]),(4,[]),(5,[]),(6,[]),(7,[1]),(8,[1]),(9,[]),(10,[]),(11,[])] (fun h=>Bn (Jn (hK13 h))) (qAv1 6 28 [(27,.i k),(26,.sl 5 (t.kids.map trc)),(25,.ptr 0 4),(24,.osl 20 5 0 ((t.kids.take k).length)),(23,.ptr 16 4)] (congrArg AV.pat (mg_trc t.kids k om)) (((1:Nat)≠0)/\(4+1<=5/\4<5)/\((1:Nat)≠0)/\(4+1<=5/\4<5)/\(5=5/\(0:Int)<=(k:Int)/\(k:Int)<((t.kids.map trc).length:Int))/\·) ⟨dc,dc,dc,dc,⟨rfl,om,lmo⟩,qBc1 2 [(29,.agg (tcs (t.kids.getD k default)))] [1] 71 [.agg (tcs (t.kids.getD k default))] 30 ((5<=5/\0<5)/\·) ⟨dc,?_⟩⟩))
 have hW:=Ws_get t.kids k om
 refine PE.use (ih _ om (t.kids.getD k default) rfl om) ?_
 refine Kq (p:=(((4+1<=5/\4<5)/\(AV.osl 20 5 0 ((t.kids.take k).length)=(.osl 20 5 0 ((t.kids.take k).length):AV)))/\True)) ⟨⟨dc,rfl⟩,trivial⟩ ?_
 refine qAn3 2 [(32,.osl 28 5 0 ((t.kids.take k).length+1)),(31,.osl 24 5 0 1)] ([(28,apd (fl trc (t.kids.take k)) ((t.kids.take k).length*5) (tcs (t.kids.getD k default))),(24,tcs (t.kids.getD k default))]++Hw [] [20] ·) 32 (fun Z=>(1*5<=16777216)/\(((4+1<=5/\4<5)/\(AV.osl 20 5 0 ((t.kids.take k).length)=(.osl 20 5 0 ((t.kids.take k).length):AV)))/\True)/\(0+1*5<=5)/\(5=5/\(t.kids.take k).length*5<=(fl trc (t.kids.take k)).length/\0<80/\((t.kids.take k).length+1)*80<=140737488355328)/\(True)/\Z) ⟨dc,⟨⟨dc,rfl⟩,trivial⟩,dc,⟨rfl,gl,dc,gl⟩,trivial,runq_v (v':=.osl 28 5 0 ((t.kids.take k++[(t.kids.getD k default)]).length)) (push_len _ _ _ _) (runq_h (cs':=fl trc (t.kids.take k++[(t.kids.getD k default)])) (push_trc (t.kids.take k) (t.kids.getD k default)) (qFn3 [1,2,3,4] [] (Hw [(16,(tr5 t (.osl 12 1 0 t.names.length) (.osl 28 5 0 ((t.kids.take k++[(t.kids.getD k default)]).length))))] [] ·) 32 (((1:Nat)≠0)/\(true=true/\1=1/\4+1<=5)/\(True)/\·) ⟨dc,dc,trivial,Rn ?_⟩))⟩
 refine Av1 2 22 [(21,.i k)] (cI (wn1 k om)) (Ki/\·) ⟨rfl,Gn0 [(4,.i ((k+1:Nat):Int))] (nk_n (Lr (k+1,some ()) [(0,0),(4,4),(12,12),(16,16),(28,20)] 24 [(1,.ptr 0 0),(2,.ptr 4 0),(3,.ptr 16 0),(4,.i ((k+1:Nat):Int))] [(28,fl trc (t.kids.take k++[(t.kids.getD k default)])),(16,(tr5 t (.osl 12 1 0 t.names.length) (.osl 28 5 0 ((t.kids.take k++[(t.kids.getD k default)]).length)))),(12,fl sc t.names),(4,zt),(0,tcs t)] [false,true,false,true,true] ?_ ?_ (by(try rw[<-take_snoc t.kids k default om]);try kernel_rfl) kr))⟩
 (try dsimp only);omega
 refine⟨?_,rfl⟩;(try dsimp only);omega
 refine Xt (Jx (Lx (Bh (Jn (hK3 (Kp [2,3] (Rr (Fn3 [2] [] (Hw [(4,(tr5 t (.osl 12 1 0 t.names.length) (.osl 20 5 0 ((t.kids.take k).length))))] [] ·) 24 ((0+5<=5/\0<5)/\(true=true/\5=5/\0+5<=5)/\·) ⟨dc,dc,FzS 12 t.names [(2,.ptr 4 0)] [(20,fl trc (t.kids.take k)),(4,(tr5 t (.osl 12 1 0 t.names.length) (.osl 20 5 0 ((t.kids.take k).length))))] [false,true] (FzT 20 (t.kids.take k) [(2,.ptr 4 0)] [(4,(tr5 t (pth t.names) (.osl 20 5 0 ((t.kids.take k).length))))] [true] ?_)⟩))))))))
 refine Rt1 ((0+5<=5/\0<5)/\·) (.agg (tr5 t (pth t.names) (.sl 5 ((t.kids.take k).map trc)))) ⟨dc,fin_lea ?_⟩
 first
   |(rw[List.take_of_length_le om];exact lea_refl _)
   | (have:t.kids=[]:=List.eq_nil_of_length_eq_zero om
      simp only[tcs,this];simp[lea,leas])
open Go Go.Proofs
set_option maxRecDepth 100000
theorem l2Set_ok:∀(N:Nat) (p:List Str) (t x:Tr) (gn:Bool),p.length=N->t.W<2^40->t.wf=true->0<p.length->p.length<2^40->PE G 110 [.agg (tcs t),pth p,.agg (tcs x),.bool gn] (.agg (tcs (tset p t x gn))):=by
 intro N;refine Nat.strongRecOn N fun N ih=>?_;intro p t x gn hN hw hwf hp0 hp;rw[W_eq]at hw;have hks:=Ws_len t.kids;have hns:=wS_len t.names;have hwl:=wf_len hwf
 obtain⟨A,hA0,hAs,hAl,hAe⟩:∃A:Nat->List Str×List Tr×Bool,A 0=([],[],false)/\(∀k,k<t.names.length->A (k+1)=sstp (p.getD 0 default) (decide ((p.length:Int)=(1:Int))) gn x (fun k=>tset (p.drop 1) k x gn) (A k) (t.names.getD k default,t.kids.getD k default))/\(∀k,k<=t.names.length->(A k).1.length=(A k).2.1.length/\(A k).1.length<=2*k)/\tset p t x gn=sE (p.getD 0 default) (decide ((p.length:Int)=(1:Int))) gn x t (A t.names.length):=⟨sA (p.getD 0 default) (decide ((p.length:Int)=(1:Int))) gn x (fun k=>tset (p.drop 1) k x gn) t,rfl,fun k hk=>sA_succ hk hwl,fun k hk=>sA_len hwl k hk,tset_eq hp0 t x gn⟩
 refine Pe Tryz.func110 ?_
 refine Rr (Fn2 [1,3] [(8,.ptr 8 0),(6,.ptr 4 0),(4,.ptr 0 0)] ([(8,zt),(4,tcs x),(0,tcs t)]++·) 12 (Rr (Fn3 [1,3,4,6,8] [(9,.ptr 12 0)] ([(12,(tr5 t .nils  .nils))]++·) 16 (((1:Nat)≠0)/\(0+1<=5/\0<5)/\((1:Nat)≠0)/\(1+1<=5/\1<5)/\((1:Nat)≠0)/\(2+1<=5/\2<5)/\(true=true/\5=5/\0+5<=5)/\·) ⟨dc,dc,dc,dc,dc,dc,dc,Rr ?_⟩)))
 refine Fn0 [1,3,4,6,8,9] [(10,.bool false)] (Sq fun K4 hK4=>?_)
 refine Rr (Fn0 [1,3,4,6,8,9,10] [(11,.i 0)] (Bl (h_l (fun(z:Nat×Option Unit)=>(match z with|(k,none)=>([(1,pth p),(3,.bool gn),(4,.ptr 0 0),(6,.ptr 4 0),(8,.ptr 8 0),(9,.ptr 12 0),(10,.bool ((A k).2.2)),(11,.i k)]:Fr)|(k,some ())=>([(1,pth p),(3,.bool gn),(4,.ptr 0 0),(6,.ptr 4 0),(8,.ptr 8 0),(9,.ptr 12 0),(10,.bool ((A k).2.2)),(11,.i k)]:Fr))) (fun(z:Nat×Option Unit)=>(match z with|(k,none)=>([(12,(tr5 t .nils  .nils)),(8,zt),(4,tcs x),(0,tcs t)]:Hp)|(k,some ())=>([(20,fl trc ((A k).2.1)),(16,fl sc ((A k).1)),(12,(tr5 t (.osl 16 1 0 ((A k).1.length)) (.osl 20 5 0 ((A k).2.1.length)))),(8,zt),(4,tcs x),(0,tcs t)]:Hp))) (fun(z:Nat×Option Unit) cn=>(match z with|(k,none)=>(k<=t.names.length/\(A k).1=[]/\(A k).2.1=[])/\cn=16|(k,some ())=>(k<=t.names.length)/\cn=24)) (fun(z:Nat×Option Unit)=>t.names.length-z.1) (0,none) kr ?_ ?_ ?_ ?_)))
 refine⟨?_,rfl⟩;simp[hA0]
 exact⟨kr,kr,kr,kr,kr,kr,(by show AV.bool false=AV.bool (A 0).2.2;rw[hA0]),kr,trivial⟩
 exact(sub_c kr (sub_c kr (sub_c kr (sub_c kr (List.nil_sublist _)))))
 rintro⟨k,_|⟨⟩⟩ n1 hI
 (try dsimp only at hI)
 obtain⟨⟨hk,hn1,hn2⟩,rfl⟩:=hI
 dsimp only
 have hal:=hAl k hk
 refine Sq fun K6 hK6=>?_
 refine Rr (Av1 4 24 [(23,pth t.names),(22,.ptr 0 3),(21,.i k)] (lnm t.names sc) (((1:Nat)≠0)/\(3+1<=5/\3<5)/\·) ⟨dc,dc,Cn1 (decide ((k:Int)<(t.names.length:Int))) [1,3,4,6,8,9,10,11] [] (Ki/\·) ⟨rfl,fun hc8 c8=>?_,fun hc8 c8=>?_⟩⟩)
 refine Sk (Jn (hK6 (Kp [1,3,4,6,8,9,10,11] (Sq fun K9 hK9=>?_))))
 refine Bl (Rr (Av1 4 31 [(30,.i k),(29,pth t.names),(28,.ptr 0 3)] (congrArg AV.pat (mg_str t.names k om)) (((1:Nat)≠0)/\(3+1<=5/\3<5)/\(1=1/\(0:Int)<=(k:Int)/\(k:Int)<((t.names.map (fun s=>[AV.str s])).length:Int))/\·) ⟨dc,dc,⟨rfl,om,lmo⟩,Fn1 [1,3,4,6,8,9,10,11] [(12,.str (t.names.getD k default))] ((1<=1/\0<1)/\·) ⟨dc,Sq fun K11 hK11=>?_⟩⟩))
 refine Rm 50 ((decide ((p.length:Int)=1))&&((!((A k).2.2))&&((!gn)&&(!blt (t.names.getD k default) (p.getD 0 default))))) [1,3,4,6,8,9,10,11,12] ?_ ?_
 refine Av0 2 34 [(33,pth p)] (lnm p sc) (An1 2 [(36,.bool (decide ((p.length:Int)=1))),(35,.bool (decide ((p.length:Int)=1)))] (Ki/\·) ⟨rfl,Rg (fun hg13 g13=>?_) (fun hg13 g13=>?_)⟩)
 refine An0 4 [(40,.bool (!((A k).2.2))),(39,.bool (!((A k).2.2))),(38,.bool (!((A k).2.2))),(37,.bool ((A k).2.2))] (Rg (fun hg14 g14=>?_) (fun hg14 g14=>?_))
 refine An0 4 [(44,.bool (!gn)),(43,.bool (!gn)),(42,.bool (!gn)),(41,.bool gn)] (Rg (fun hg15 g15=>?_) (fun hg15 g15=>?_))
 refine Av1 3 47 [(46,pth p),(45,.str (t.names.getD k default))] (congrArg AV.pat (mg_str p 0 om)) ((1=1/\(0:Int)<=0/\0<((p.map (fun s=>[AV.str s])).length:Int))/\·) ⟨⟨rfl,om,lmo⟩,Mn1 (!blt (t.names.getD k default) (p.getD 0 default)) ((1<=1/\0<1)/\·) ⟨dc,(by rw[hg13,hg14,hg15];rfl)⟩⟩
 refine Mn0 false (by rw[hg13,hg14,hg15];rfl)
 refine Mn0 false (by rw[hg13,hg14];rfl)
 refine Mn0 false (by rw[hg13];rfl)
 refine Cc ((decide ((p.length:Int)=1))&&((!((A k).2.2))&&((!gn)&&(!blt (t.names.getD k default) (p.getD 0 default))))) (fun hc16 c16=>?_) fun hc16 c16=>?_
 refine Qr [0,1,0,4,12,28,63,127,255] [(0,[]),(1,[]),(2,[]),(3,[]),(4,[]),(5,[1]),(6,[]),(7,[]),(8,[])] (qAv1 4 54 [(53,pth p),(52,.nils),(51,.ptr 12 3)] (congrArg AV.pat (mg_str p 0 om)) (((1:Nat)≠0)/\(3+1<=5/\3<5)/\(1=1/\(0:Int)<=0/\0<((p.map (fun s=>[AV.str s])).length:Int))/\·) ⟨dc,dc,⟨rfl,om,lmo⟩,qAn3 3 [(57,.osl 20 1 0 1),(56,.osl 16 1 0 1),(55,.str (p.getD 0 default))] ([(20,[.str (p.getD 0 default)]),(16,[.str (p.getD 0 default)])]++·) 24 ((1<=1/\0<1)/\(1*1<=16777216)/\(((3+1<=5/\3<5)/\(AV.nils=(.nils:AV)))/\True)/\(0+1*1<=1)/\(0<1/\0<16/\1*16<=140737488355328)/\(True)/\·) ⟨dc,dc,⟨⟨dc,rfl⟩,trivial⟩,dc,dc,trivial,runq_v (v':=.osl 20 1 0 ([p.getD 0 default].length)) rfl (runq_h (cs':=fl sc [p.getD 0 default]) (s1_str (p.getD 0 default)) ?_)⟩⟩)
 refine qFn3 [1,3,4,6,8,9,11,12] [] (Hw [(12,(tr5 t (.osl 20 1 0 ([p.getD 0 default].length))  .nils))] [] ·) 24 (((1:Nat)≠0)/\(true=true/\1=1/\3+1<=5)/\(True)/\·) ⟨dc,dc,trivial,Rr (An3 5 [(63,.osl 28 5 0 1),(62,.osl 24 5 0 1),(61,.agg (tcs x)),(60,.nils),(59,.ptr 12 4)] ([(28,tcs x),(24,tcs x)]++·) 32 (((1:Nat)≠0)/\(4+1<=5/\4<5)/\(0+5<=5/\0<5)/\(1*5<=16777216)/\(0+1*5<=5)/\(0<1/\0<80/\1*80<=140737488355328)/\·) ⟨dc,dc,dc,dc,dc,dc,run_v (v':=.osl 28 5 0 ([x].length)) rfl (run_h (cs':=fl trc [x]) (s1_trc x) ?_)⟩)⟩
 refine Fn3 [1,3,4,6,8,9,11,12] [] (Hw [(12,(tr5 t (.osl 20 1 0 ([p.getD 0 default].length)) (.osl 28 5 0 ([x].length))))] [] ·) 32 (((1:Nat)≠0)/\(true=true/\1=1/\4+1<=5)/\·) ⟨dc,dc,Rb (fun h=>Jn (hK11 h)) (Fn0 [1,3,4,6,8,9,11,12] [(10,.bool true)] (Sq fun K19 hK19=>?_))⟩
 refine Rm 74 (((t.names.getD k default)==(p.getD 0 default))&&(decide ((p.length:Int)=1))) [1,3,4,6,8,9,10,11,12] ?_ ?_
 refine Av1 3 67 [(66,pth p),(65,.str (t.names.getD k default))] (congrArg AV.pat (mg_str p 0 om)) ((1=1/\(0:Int)<=0/\0<((p.map (fun s=>[AV.str s])).length:Int))/\·) ⟨⟨rfl,om,lmo⟩,An1 3 [(70,.bool ((t.names.getD k default)==(p.getD 0 default))),(69,.bool ((t.names.getD k default)==(p.getD 0 default))),(68,.str (p.getD 0 default))] ((1<=1/\0<1)/\·) ⟨dc,Rg (fun hg21 g21=>?_) (fun hg21 g21=>?_)⟩⟩
 refine Av0 2 72 [(71,pth p)] (lnm p sc) (Mn1 (decide ((p.length:Int)=1)) (Ki/\·) ⟨rfl,(by rw[hg21];rfl)⟩)
 refine Mn0 false (by rw[hg21];rfl)
 refine Cc (((t.names.getD k default)==(p.getD 0 default))&&(decide ((p.length:Int)=1))) (fun hc22 c22=>?_) fun hc22 c22=>?_
 refine Xt (Jx (Bh (Jn (hK9 (Kp [1,3,4,6,8,9,10,11] (Rn (Av1 2 27 [(26,.i k)] (cI (wn1 k om)) (Ki/\·) ⟨rfl,Gn0 [(11,.i ((k+1:Nat):Int))] (nk_n ?_)⟩)))))))
 have e:=hAs k om;simp only[sstp,hc8,hc16,hc22,Bool.true_and,Bool.false_and,cond_true,cond_false,hn1,hn2,List.nil_append]at e
 refine Lr (k+1,some ()) [(0,0),(4,4),(8,8),(12,12),(20,16),(28,20)] 24 [(1,pth p),(3,.bool gn),(4,.ptr 0 0),(6,.ptr 4 0),(8,.ptr 8 0),(9,.ptr 12 0),(10,.bool true),(11,.i ((k+1:Nat):Int))] [(28,fl trc [x]),(20,fl sc [p.getD 0 default]),(12,(tr5 t (.osl 20 1 0 ([p.getD 0 default].length)) (.osl 28 5 0 ([x].length)))),(8,zt),(4,tcs x),(0,tcs t)] [false,false,true,true,true,true] ?_ ?_ (by(try ((try dsimp only);rw[e]));try kernel_rfl) (by(try ((try dsimp only);rw[e]));try kernel_rfl)
 (try dsimp only);omega
 refine⟨?_,rfl⟩;(try dsimp only);first|omega|exact⟨om,by rw[e]⟩
 refine Sk (Jn (hK19 (Kp [1,3,4,6,8,9,10,11,12] (Rr (Av1 4 78 [(77,.i k),(76,.sl 5 (t.kids.map trc)),(75,.ptr 0 4)] (congrArg AV.pat (mg_trc t.kids k om)) (((1:Nat)≠0)/\(4+1<=5/\4<5)/\(5=5/\(0:Int)<=(k:Int)/\(k:Int)<((t.kids.map trc).length:Int))/\·) ⟨dc,dc,⟨rfl,om,lmo⟩,Fn3 [1,3,4,6,8,9,10,11,12] [(13,.ptr 32 0)] ([(32,tcs (t.kids.getD k default))]++·) 36 ((5<=5/\0<5)/\(true=true/\5=5/\0+5<=5)/\·) ⟨dc,dc,Sj (fun(z:Tr)=>match z with|kk=>([(1,pth p),(3,.bool gn),(4,.ptr 0 0),(6,.ptr 4 0),(8,.ptr 8 0),(9,.ptr 12 0),(10,.bool true),(11,.i k),(12,.str (t.names.getD k default)),(13,.ptr 32 0)]:Fr)) (fun(z:Tr)=>match z with|kk=>([(32,tcs kk),(28,fl trc [x]),(24,tcs x),(20,fl sc [p.getD 0 default]),(16,[.str (p.getD 0 default)]),(12,(tr5 t (.osl 20 1 0 ([p.getD 0 default].length)) (.osl 28 5 0 ([x].length)))),(8,zt),(4,tcs x),(0,tcs t)]:Hp)) (fun(z:Tr)=>match z with|kk=>A (k+1)=([p.getD 0 default]++[t.names.getD k default],[x]++[kk],true)) 36 ?_ fun J24 K25 hK25=>?_⟩⟩)))))
 rintro kk hi
 dsimp only at hi⊢
 have hj:=hi
 refine Rr (An3 5 [(95,.osl 40 1 0 ([p.getD 0 default].length+1)),(94,.osl 36 1 0 1),(93,.str (t.names.getD k default)),(92,.osl 20 1 0 ([p.getD 0 default].length)),(91,.ptr 12 3)] ([(40,apd (fl sc [p.getD 0 default]) ([p.getD 0 default].length*1) [.str (t.names.getD k default)]),(36,[.str (t.names.getD k default)])]++Hw [] [20] ·) 44 (((1:Nat)≠0)/\(3+1<=5/\3<5)/\(1*1<=16777216)/\(0+1*1<=1)/\(1=1/\[p.getD 0 default].length*1<=(fl sc [p.getD 0 default]).length/\0<16/\([p.getD 0 default].length+1)*16<=140737488355328)/\·) ⟨dc,dc,dc,dc,⟨rfl,gl,dc,gl⟩,run_v (v':=.osl 40 1 0 (([p.getD 0 default]++[t.names.getD k default]).length)) (push_len _ _ _ _) (run_h (cs':=fl sc ([p.getD 0 default]++[t.names.getD k default])) (push_str [p.getD 0 default] (t.names.getD k default)) (Fn3 [1,3,4,6,8,9,10,11,13] [] (Hw [(12,(tr5 t (.osl 40 1 0 (([p.getD 0 default]++[t.names.getD k default]).length)) (.osl 28 5 0 ([x].length))))] [] ·) 44 (((1:Nat)≠0)/\(true=true/\1=1/\3+1<=5)/\·) ⟨dc,dc,?_⟩))⟩)
 refine Rb (fun h=>Bn (Jn (hK9 h))) (An3 5 [(101,.osl 48 5 0 ([x].length+1)),(100,.osl 44 5 0 1),(99,.agg (tcs kk)),(98,.osl 28 5 0 ([x].length)),(97,.ptr 12 4)] ([(48,apd (fl trc [x]) ([x].length*5) (tcs kk)),(44,tcs kk)]++Hw [] [28] ·) 52 (((1:Nat)≠0)/\(4+1<=5/\4<5)/\(0+5<=5/\0<5)/\(1*5<=16777216)/\(0+1*5<=5)/\(5=5/\[x].length*5<=(fl trc [x]).length/\0<80/\([x].length+1)*80<=140737488355328)/\·) ⟨dc,dc,dc,dc,dc,⟨rfl,gl,dc,gl⟩,run_v (v':=.osl 48 5 0 (([x]++[kk]).length)) (push_len _ _ _ _) (run_h (cs':=fl trc ([x]++[kk])) (push_trc [x] kk) (Fn3 [1,3,4,6,8,9,10,11] [] (Hw [(12,(tr5 t (.osl 40 1 0 (([p.getD 0 default]++[t.names.getD k default]).length)) (.osl 48 5 0 (([x]++[kk]).length))))] [] ·) 52 (((1:Nat)≠0)/\(true=true/\1=1/\4+1<=5)/\·) ⟨dc,dc,?_⟩))⟩)
 refine Rn (Av1 2 27 [(26,.i k)] (cI (wn1 k om)) (Ki/\·) ⟨rfl,Gn0 [(11,.i ((k+1:Nat):Int))] (nk_n ?_)⟩)
 have e:=hj
 refine Lr (k+1,some ()) [(0,0),(4,4),(8,8),(12,12),(40,16),(48,20)] 24 [(1,pth p),(3,.bool gn),(4,.ptr 0 0),(6,.ptr 4 0),(8,.ptr 8 0),(9,.ptr 12 0),(10,.bool true),(11,.i ((k+1:Nat):Int))] [(48,fl trc ([x]++[kk])),(40,fl sc ([p.getD 0 default]++[t.names.getD k default])),(12,(tr5 t (.osl 40 1 0 (([p.getD 0 default]++[t.names.getD k default]).length)) (.osl 48 5 0 (([x]++[kk]).length)))),(8,zt),(4,tcs x),(0,tcs t)] [false,false,true,true,true,true] ?_ ?_ (by(try ((try dsimp only);rw[e]));try kernel_rfl) (by(try ((try dsimp only);rw[e]));try kernel_rfl)
 (try dsimp only);omega
 refine⟨?_,rfl⟩;(try dsimp only);first|omega|exact⟨om,by rw[e]⟩
 refine Rr (Av1 3 82 [(81,pth p),(80,.str (t.names.getD k default))] (congrArg AV.pat (mg_str p 0 om)) ((1=1/\(0:Int)<=0/\0<((p.map (fun s=>[AV.str s])).length:Int))/\·) ⟨⟨rfl,om,lmo⟩,Cn1 ((t.names.getD k default)==(p.getD 0 default)) [1,3,4,6,8,9,10,11,12,13] [] ((1<=1/\0<1)/\·) ⟨dc,fun hc28 c28=>?_,fun hc28 c28=>?_⟩⟩)
 exfalso;rw[hc28,Bool.true_and]at hc22;simp only[decide_eq_false_iff_not]at hc22;omega
 refine Sk (Jn (hK25 (Kp [1,3,4,6,8,9,10,11,12,13] (Tr2 J24 (t.kids.getD k default) [(0,0),(4,4),(8,8),(12,12),(16,16),(20,20),(24,24),(28,28),(32,32)] [(1,pth p),(3,.bool gn),(4,.ptr 0 0),(6,.ptr 4 0),(8,.ptr 8 0),(9,.ptr 12 0),(10,.bool true),(11,.i k),(12,.str (t.names.getD k default)),(13,.ptr 32 0)] [(32,tcs (t.kids.getD k default)),(28,fl trc [x]),(24,tcs x),(20,fl sc [p.getD 0 default]),(16,[.str (p.getD 0 default)]),(12,(tr5 t (.osl 20 1 0 ([p.getD 0 default].length)) (.osl 28 5 0 ([x].length)))),(8,zt),(4,tcs x),(0,tcs t)] [true,false,true,false,true,true,true,true,true] ?_ kr kr))))
 (try dsimp only)
 have e:=hAs k om;simp only[sstp,hc8,hc16,hc22,hc28,Bool.true_and,Bool.false_and,cond_true,cond_false,hn1,hn2,List.nil_append]at e
 exact e
 refine Sk (Jn (hK11 (Kp [1,3,4,6,8,9,10,11,12] (Sq fun K29 hK29=>?_))))
 refine Rm 74 (((t.names.getD k default)==(p.getD 0 default))&&(decide ((p.length:Int)=1))) [1,3,4,6,8,9,10,11,12] ?_ ?_
 refine Av1 3 67 [(66,pth p),(65,.str (t.names.getD k default))] (congrArg AV.pat (mg_str p 0 om)) ((1=1/\(0:Int)<=0/\0<((p.map (fun s=>[AV.str s])).length:Int))/\·) ⟨⟨rfl,om,lmo⟩,An1 3 [(70,.bool ((t.names.getD k default)==(p.getD 0 default))),(69,.bool ((t.names.getD k default)==(p.getD 0 default))),(68,.str (p.getD 0 default))] ((1<=1/\0<1)/\·) ⟨dc,Rg (fun hg31 g31=>?_) (fun hg31 g31=>?_)⟩⟩
 refine Av0 2 72 [(71,pth p)] (lnm p sc) (Mn1 (decide ((p.length:Int)=1)) (Ki/\·) ⟨rfl,(by rw[hg31];rfl)⟩)
 refine Mn0 false (by rw[hg31];rfl)
 refine Cc (((t.names.getD k default)==(p.getD 0 default))&&(decide ((p.length:Int)=1))) (fun hc32 c32=>?_) fun hc32 c32=>?_
 refine Xt (Jx (Bh (Jn (hK9 (Kp [1,3,4,6,8,9,10,11] (Rn (Av1 2 27 [(26,.i k)] (cI (wn1 k om)) (Ki/\·) ⟨rfl,Gn0 [(11,.i ((k+1:Nat):Int))] (nk_n ?_)⟩)))))))
 have e:=hAs k om;simp only[sstp,hc8,hc16,hc32,Bool.true_and,Bool.false_and,cond_true,cond_false,hn1,hn2,List.nil_append]at e
 refine Lr (k+1,none) [(0,0),(4,4),(8,8),(12,12)] 16 [(1,pth p),(3,.bool gn),(4,.ptr 0 0),(6,.ptr 4 0),(8,.ptr 8 0),(9,.ptr 12 0),(10,.bool ((A k).2.2)),(11,.i ((k+1:Nat):Int))] [(12,(tr5 t .nils  .nils)),(8,zt),(4,tcs x),(0,tcs t)] [true,true,true,true] ?_ ?_ (by(try ((try dsimp only);rw[e]));try kernel_rfl) (by(try ((try dsimp only);rw[e]));try kernel_rfl)
 (try dsimp only);omega
 refine⟨?_,rfl⟩;(try dsimp only);exact⟨om,by rw[e];exact hn1,by rw[e];exact hn2⟩
 refine Sk (Jn (hK29 (Kp [1,3,4,6,8,9,10,11,12] (Rr (Av1 4 78 [(77,.i k),(76,.sl 5 (t.kids.map trc)),(75,.ptr 0 4)] (congrArg AV.pat (mg_trc t.kids k om)) (((1:Nat)≠0)/\(4+1<=5/\4<5)/\(5=5/\(0:Int)<=(k:Int)/\(k:Int)<((t.kids.map trc).length:Int))/\·) ⟨dc,dc,⟨rfl,om,lmo⟩,Fn3 [1,3,4,6,8,9,10,11,12] [(13,.ptr 16 0)] ([(16,tcs (t.kids.getD k default))]++·) 20 ((5<=5/\0<5)/\(true=true/\5=5/\0+5<=5)/\·) ⟨dc,dc,Sj (fun(z:Tr)=>match z with|kk=>([(1,pth p),(3,.bool gn),(4,.ptr 0 0),(6,.ptr 4 0),(8,.ptr 8 0),(9,.ptr 12 0),(10,.bool ((A k).2.2)),(11,.i k),(12,.str (t.names.getD k default)),(13,.ptr 16 0)]:Fr)) (fun(z:Tr)=>match z with|kk=>([(16,tcs kk),(12,(tr5 t .nils  .nils)),(8,zt),(4,tcs x),(0,tcs t)]:Hp)) (fun(z:Tr)=>match z with|kk=>A (k+1)=([t.names.getD k default],[kk],(A k).2.2)) 20 ?_ fun J34 K35 hK35=>?_⟩⟩)))))
 rintro kk hi
 dsimp only at hi⊢
 have hj:=hi
 refine Rr (An3 5 [(95,.osl 24 1 0 1),(94,.osl 20 1 0 1),(93,.str (t.names.getD k default)),(92,.nils),(91,.ptr 12 3)] ([(24,[.str (t.names.getD k default)]),(20,[.str (t.names.getD k default)])]++·) 28 (((1:Nat)≠0)/\(3+1<=5/\3<5)/\(1*1<=16777216)/\(0+1*1<=1)/\(0<1/\0<16/\1*16<=140737488355328)/\·) ⟨dc,dc,dc,dc,dc,run_v (v':=.osl 24 1 0 ([t.names.getD k default].length)) rfl (run_h (cs':=fl sc [t.names.getD k default]) (s1_str (t.names.getD k default)) (Fn3 [1,3,4,6,8,9,10,11,13] [] (Hw [(12,(tr5 t (.osl 24 1 0 ([t.names.getD k default].length))  .nils))] [] ·) 28 (((1:Nat)≠0)/\(true=true/\1=1/\3+1<=5)/\·) ⟨dc,dc,?_⟩))⟩)
 refine Rb (fun h=>Bn (Jn (hK9 h))) (An3 5 [(101,.osl 32 5 0 1),(100,.osl 28 5 0 1),(99,.agg (tcs kk)),(98,.nils),(97,.ptr 12 4)] ([(32,tcs kk),(28,tcs kk)]++·) 36 (((1:Nat)≠0)/\(4+1<=5/\4<5)/\(0+5<=5/\0<5)/\(1*5<=16777216)/\(0+1*5<=5)/\(0<1/\0<80/\1*80<=140737488355328)/\·) ⟨dc,dc,dc,dc,dc,dc,run_v (v':=.osl 32 5 0 ([kk].length)) rfl (run_h (cs':=fl trc [kk]) (s1_trc kk) (Fn3 [1,3,4,6,8,9,10,11] [] (Hw [(12,(tr5 t (.osl 24 1 0 ([t.names.getD k default].length)) (.osl 32 5 0 ([kk].length))))] [] ·) 36 (((1:Nat)≠0)/\(true=true/\1=1/\4+1<=5)/\·) ⟨dc,dc,?_⟩))⟩)
 refine Rn (Av1 2 27 [(26,.i k)] (cI (wn1 k om)) (Ki/\·) ⟨rfl,Gn0 [(11,.i ((k+1:Nat):Int))] (nk_n ?_)⟩)
 have e:=hj
 refine Lr (k+1,some ()) [(0,0),(4,4),(8,8),(12,12),(24,16),(32,20)] 24 [(1,pth p),(3,.bool gn),(4,.ptr 0 0),(6,.ptr 4 0),(8,.ptr 8 0),(9,.ptr 12 0),(10,.bool ((A k).2.2)),(11,.i ((k+1:Nat):Int))] [(32,fl trc [kk]),(24,fl sc [t.names.getD k default]),(12,(tr5 t (.osl 24 1 0 ([t.names.getD k default].length)) (.osl 32 5 0 ([kk].length)))),(8,zt),(4,tcs x),(0,tcs t)] [false,false,true,true,true,true] ?_ ?_ (by(try ((try dsimp only);rw[e]));try kernel_rfl) (by(try ((try dsimp only);rw[e]));try kernel_rfl)
 (try dsimp only);omega
 refine⟨?_,rfl⟩;(try dsimp only);first|omega|exact⟨om,by rw[e]⟩
 refine Rr (Av1 3 82 [(81,pth p),(80,.str (t.names.getD k default))] (congrArg AV.pat (mg_str p 0 om)) ((1=1/\(0:Int)<=0/\0<((p.map (fun s=>[AV.str s])).length:Int))/\·) ⟨⟨rfl,om,lmo⟩,Cn1 ((t.names.getD k default)==(p.getD 0 default)) [1,3,4,6,8,9,10,11,12,13] [] ((1<=1/\0<1)/\·) ⟨dc,fun hc38 c38=>?_,fun hc38 c38=>?_⟩⟩)
 refine Qb [0,0,2,0,0,31,63] [(0,[]),(1,[]),(2,[]),(3,[]),(4,[]),(5,[]),(6,[])] (fun h=>Jn (hK35 h)) (qAv1 (r:=.sl 1 (((p.map (fun s=>[AV.str s])).take ((p.map (fun s=>[AV.str s])).length)).drop 1)) (v:=pth (p.drop 1)) 3 87 [(86,pth p),(85,.agg (tcs (t.kids.getD k default)))] (congrArg (AV.sl 1) (slm_all _ _ _)) ((0+5<=5/\0<5)/\(1=1/\0<=(1:Int)/\(1:Int)<=((p.map (fun s=>[AV.str s])).length:Int)/\((p.map (fun s=>[AV.str s])).length:Int)<=((p.map (fun s=>[AV.str s])).length:Int))/\·) ⟨dc,⟨rfl,om,lmo,om⟩,qBc1 3 [(89,.bool gn),(88,.agg (tcs x))] [] 110 [.agg (tcs (t.kids.getD k default)),pth (p.drop 1),.agg (tcs x),.bool gn] 90 ((0+5<=5/\0<5)/\·) ⟨dc,?_⟩⟩)
 have hW:=Ws_get t.kids k om
 have hp2:1<p.length:=by
   rcases Nat.lt_or_ge 1 p.length with h|h
   · exact h
   · exfalso;have h1:p.length=1:=by omega
     rw[hc38,h1]at hc32;simp at hc32
 have hdd:decide ((p.length:Int)=(1:Int))=false:=by rw[decide_eq_false_iff_not];omega
 refine PE.use (ih _ (by simp only[List.length_drop];omega) (p.drop 1) (t.kids.getD k default) x gn rfl om (wf_kid hwf om _) (by simp only[List.length_drop];omega) (by simp only[List.length_drop];omega)) ?_
 refine Kq (p:=(True)) trivial ?_
 refine qFn3 [1,3,4,6,8,9,10,11,12,13] [] (Hw [(16,tcs (tset (p.drop 1) (t.kids.getD k default) x gn))] [] ·) 20 ((true=true/\5=5/\0+5<=5)/\(True)/\·) ⟨dc,trivial,Tr2 J34 (tset (p.drop 1) (t.kids.getD k default) x gn) [(0,0),(4,4),(8,8),(12,12),(16,16)] [(1,pth p),(3,.bool gn),(4,.ptr 0 0),(6,.ptr 4 0),(8,.ptr 8 0),(9,.ptr 12 0),(10,.bool ((A k).2.2)),(11,.i k),(12,.str (t.names.getD k default)),(13,.ptr 16 0)] [(16,tcs (tset (p.drop 1) (t.kids.getD k default) x gn)),(12,(tr5 t .nils  .nils)),(8,zt),(4,tcs x),(0,tcs t)] [true,true,true,true,true] ?_ kr kr⟩
 (try dsimp only)
 have e:=hAs k om;simp only[sstp,hc8,hc16,hc32,hc38,hdd,Bool.true_and,Bool.false_and,cond_true,cond_false,hn1,hn2,List.nil_append]at e
 exact e
 refine Sk (Jn (hK35 (Kp [1,3,4,6,8,9,10,11,12,13] (Tr2 J34 (t.kids.getD k default) [(0,0),(4,4),(8,8),(12,12),(16,16)] [(1,pth p),(3,.bool gn),(4,.ptr 0 0),(6,.ptr 4 0),(8,.ptr 8 0),(9,.ptr 12 0),(10,.bool ((A k).2.2)),(11,.i k),(12,.str (t.names.getD k default)),(13,.ptr 16 0)] [(16,tcs (t.kids.getD k default)),(12,(tr5 t .nils  .nils)),(8,zt),(4,tcs x),(0,tcs t)] [true,true,true,true,true] ?_ kr kr))))
 (try dsimp only)
 have e:=hAs k om;simp only[sstp,hc8,hc16,hc32,hc38,Bool.true_and,Bool.false_and,cond_true,cond_false,hn1,hn2,List.nil_append]at e
 exact e
 refine Xt (Jx (Lx (Bh (Jn (hK4 (Kp [1,3,6,8,9,10] (Sq fun K39 hK39=>?_)))))))
 refine Rm 113 ((decide ((p.length:Int)=1))&&((!((A k).2.2))&&(!gn))) [1,6,8,9] ?_ ?_
 refine Av0 2 104 [(103,pth p)] (lnm p sc) (An1 2 [(106,.bool (decide ((p.length:Int)=1))),(105,.bool (decide ((p.length:Int)=1)))] (Ki/\·) ⟨rfl,Rg (fun hg41 g41=>?_) (fun hg41 g41=>?_)⟩)
 refine An0 4 [(110,.bool (!((A k).2.2))),(109,.bool (!((A k).2.2))),(108,.bool (!((A k).2.2))),(107,.bool ((A k).2.2))] (Rg (fun hg42 g42=>?_) (fun hg42 g42=>?_))
 refine Mn0 (!gn) (by rw[hg41,hg42];rfl)
 refine Mn0 false (by rw[hg41,hg42];rfl)
 refine Mn0 false (by rw[hg41];rfl)
 refine Cc ((decide ((p.length:Int)=1))&&((!((A k).2.2))&&(!gn))) (fun hc43 c43=>?_) fun hc43 c43=>?_
 refine Qr [0,1,0,4,12,28,63,127,255] [(0,[]),(1,[]),(2,[]),(3,[]),(4,[]),(5,[1]),(6,[]),(7,[]),(8,[])] (qAv1 4 117 [(116,pth p),(115,.nils),(114,.ptr 12 3)] (congrArg AV.pat (mg_str p 0 om)) (((1:Nat)≠0)/\(3+1<=5/\3<5)/\(1=1/\(0:Int)<=0/\0<((p.map (fun s=>[AV.str s])).length:Int))/\·) ⟨dc,dc,⟨rfl,om,lmo⟩,qAn3 3 [(120,.osl 20 1 0 1),(119,.osl 16 1 0 1),(118,.str (p.getD 0 default))] ([(20,[.str (p.getD 0 default)]),(16,[.str (p.getD 0 default)])]++·) 24 ((1<=1/\0<1)/\(1*1<=16777216)/\(((3+1<=5/\3<5)/\(AV.nils=(.nils:AV)))/\True)/\(0+1*1<=1)/\(0<1/\0<16/\1*16<=140737488355328)/\(True)/\·) ⟨dc,dc,⟨⟨dc,rfl⟩,trivial⟩,dc,dc,trivial,runq_v (v':=.osl 20 1 0 ([p.getD 0 default].length)) rfl (runq_h (cs':=fl sc [p.getD 0 default]) (s1_str (p.getD 0 default)) ?_)⟩⟩)
 refine qFn3 [6,8,9] [] (Hw [(12,(tr5 t (.osl 20 1 0 ([p.getD 0 default].length))  .nils))] [] ·) 24 (((1:Nat)≠0)/\(true=true/\1=1/\3+1<=5)/\(True)/\·) ⟨dc,dc,trivial,Rb (fun h=>Jn (hK39 h)) (An3 5 [(126,.osl 28 5 0 1),(125,.osl 24 5 0 1),(124,.agg (tcs x)),(123,.nils),(122,.ptr 12 4)] ([(28,tcs x),(24,tcs x)]++·) 32 (((1:Nat)≠0)/\(4+1<=5/\4<5)/\(0+5<=5/\0<5)/\(1*5<=16777216)/\(0+1*5<=5)/\(0<1/\0<80/\1*80<=140737488355328)/\·) ⟨dc,dc,dc,dc,dc,dc,run_v (v':=.osl 28 5 0 ([x].length)) rfl (run_h (cs':=fl trc [x]) (s1_trc x) ?_)⟩)⟩
 refine Fn3 [8,9] [] (Hw [(12,(tr5 t (.osl 20 1 0 ([p.getD 0 default].length)) (.osl 28 5 0 ([x].length))))] [] ·) 32 (((1:Nat)≠0)/\(true=true/\1=1/\4+1<=5)/\·) ⟨dc,dc,Rr (Fn3 [8] [] (Hw [(8,(tr5 t (.osl 20 1 0 ([p.getD 0 default].length)) (.osl 28 5 0 ([x].length))))] [] ·) 32 ((0+5<=5/\0<5)/\(true=true/\5=5/\0+5<=5)/\·) ⟨dc,dc,FzT 28 [x] [(8,.ptr 8 0)] [(20,fl sc [p.getD 0 default]),(8,(tr5 t (.osl 20 1 0 ([p.getD 0 default].length)) (.osl 28 5 0 ([x].length))))] [false,true] (FzS 20 [p.getD 0 default] [(8,.ptr 8 0)] [(8,(tr5 t (.osl 20 1 0 ([p.getD 0 default].length)) (.sl 5 ([x].map trc))))] [true] ?_)⟩)⟩
 refine Rt1 ((0+5<=5/\0<5)/\·) (.agg (tr5 t (pth [p.getD 0 default]) (.sl 5 ([x].map trc)))) ⟨dc,fin_lea ?_⟩
 obtain rfl:k=t.names.length:=by omega
 simp only[sE,hc8,hc43,Bool.true_and,Bool.false_and,cond_true,cond_false]at hAe
 rw[hAe]
 first
   |exact lea_refl _
   |(simp only[tcs,Tr.dir_mk,Tr.mode_mk,Tr.data_mk,Tr.names_mk,Tr.kids_mk,hn1,hn2,List.nil_append];first|exact lea_refl _|(simp[lea,leas,pth]))
 refine Sk (Jn (hK39 (Kp [8,9] (Rr (Fn3 [8] [] (Hw [(8,(tr5 t .nils  .nils))] [] ·) 16 ((0+5<=5/\0<5)/\(true=true/\5=5/\0+5<=5)/\·) ⟨dc,dc,Rt1 ((0+5<=5/\0<5)/\·) (.agg (tr5 t .nils  .nils)) ⟨dc,fin_lea ?_⟩⟩)))))
 obtain rfl:k=t.names.length:=by omega
 simp only[sE,hc8,hc43,Bool.true_and,Bool.false_and,cond_true,cond_false]at hAe
 rw[hAe]
 first
   |exact lea_refl _
   |(simp only[tcs,Tr.dir_mk,Tr.mode_mk,Tr.data_mk,Tr.names_mk,Tr.kids_mk,hn1,hn2,List.nil_append];first|exact lea_refl _|(simp[lea,leas,pth]))
 (try dsimp only at hI)
 obtain⟨hk,rfl⟩:=hI
 dsimp only
 have hal:=hAl k hk
 refine Sq fun K47 hK47=>?_
 refine Rr (Av1 4 24 [(23,pth t.names),(22,.ptr 0 3),(21,.i k)] (lnm t.names sc) (((1:Nat)≠0)/\(3+1<=5/\3<5)/\·) ⟨dc,dc,Cn1 (decide ((k:Int)<(t.names.length:Int))) [1,3,4,6,8,9,10,11] [] (Ki/\·) ⟨rfl,fun hc49 c49=>?_,fun hc49 c49=>?_⟩⟩)
 refine Sk (Jn (hK47 (Kp [1,3,4,6,8,9,10,11] (Sq fun K50 hK50=>?_))))
 refine Bl (Rr (Av1 4 31 [(30,.i k),(29,pth t.names),(28,.ptr 0 3)] (congrArg AV.pat (mg_str t.names k om)) (((1:Nat)≠0)/\(3+1<=5/\3<5)/\(1=1/\(0:Int)<=(k:Int)/\(k:Int)<((t.names.map (fun s=>[AV.str s])).length:Int))/\·) ⟨dc,dc,⟨rfl,om,lmo⟩,Fn1 [1,3,4,6,8,9,10,11] [(12,.str (t.names.getD k default))] ((1<=1/\0<1)/\·) ⟨dc,Sq fun K52 hK52=>?_⟩⟩))
 refine Rm 50 ((decide ((p.length:Int)=1))&&((!((A k).2.2))&&((!gn)&&(!blt (t.names.getD k default) (p.getD 0 default))))) [1,3,4,6,8,9,10,11,12] ?_ ?_
 refine Av0 2 34 [(33,pth p)] (lnm p sc) (An1 2 [(36,.bool (decide ((p.length:Int)=1))),(35,.bool (decide ((p.length:Int)=1)))] (Ki/\·) ⟨rfl,Rg (fun hg54 g54=>?_) (fun hg54 g54=>?_)⟩)
 refine An0 4 [(40,.bool (!((A k).2.2))),(39,.bool (!((A k).2.2))),(38,.bool (!((A k).2.2))),(37,.bool ((A k).2.2))] (Rg (fun hg55 g55=>?_) (fun hg55 g55=>?_))
 refine An0 4 [(44,.bool (!gn)),(43,.bool (!gn)),(42,.bool (!gn)),(41,.bool gn)] (Rg (fun hg56 g56=>?_) (fun hg56 g56=>?_))
 refine Av1 3 47 [(46,pth p),(45,.str (t.names.getD k default))] (congrArg AV.pat (mg_str p 0 om)) ((1=1/\(0:Int)<=0/\0<((p.map (fun s=>[AV.str s])).length:Int))/\·) ⟨⟨rfl,om,lmo⟩,Mn1 (!blt (t.names.getD k default) (p.getD 0 default)) ((1<=1/\0<1)/\·) ⟨dc,(by rw[hg54,hg55,hg56];rfl)⟩⟩
 refine Mn0 false (by rw[hg54,hg55,hg56];rfl)
 refine Mn0 false (by rw[hg54,hg55];rfl)
 refine Mn0 false (by rw[hg54];rfl)
 refine Cc ((decide ((p.length:Int)=1))&&((!((A k).2.2))&&((!gn)&&(!blt (t.names.getD k default) (p.getD 0 default))))) (fun hc57 c57=>?_) fun hc57 c57=>?_
 refine Qr [0,1,0,4,12,28,63,127,255] [(0,[]),(1,[]),(2,[]),(3,[]),(4,[]),(5,[1]),(6,[]),(7,[]),(8,[])] (qAv1 4 54 [(53,pth p),(52,.osl 16 1 0 ((A k).1.length)),(51,.ptr 12 3)] (congrArg AV.pat (mg_str p 0 om)) (((1:Nat)≠0)/\(3+1<=5/\3<5)/\(1=1/\(0:Int)<=0/\0<((p.map (fun s=>[AV.str s])).length:Int))/\·) ⟨dc,dc,⟨rfl,om,lmo⟩,qAn3 3 [(57,.osl 28 1 0 ((A k).1.length+1)),(56,.osl 24 1 0 1),(55,.str (p.getD 0 default))] ([(28,apd (fl sc ((A k).1)) ((A k).1.length*1) [.str (p.getD 0 default)]),(24,[.str (p.getD 0 default)])]++Hw [] [16] ·) 32 (fun Z=>(1<=1/\0<1)/\(1*1<=16777216)/\(((3+1<=5/\3<5)/\(AV.osl 16 1 0 ((A k).1.length)=(.osl 16 1 0 ((A k).1.length):AV)))/\True)/\(0+1*1<=1)/\(1=1/\(A k).1.length*1<=(fl sc ((A k).1)).length/\0<16/\((A k).1.length+1)*16<=140737488355328)/\(True)/\Z) ⟨dc,dc,⟨⟨dc,rfl⟩,trivial⟩,dc,⟨rfl,gl,dc,gl⟩,trivial,runq_v (v':=.osl 28 1 0 (((A k).1++[p.getD 0 default]).length)) (push_len _ _ _ _) (runq_h (cs':=fl sc ((A k).1++[p.getD 0 default])) (push_str ((A k).1) (p.getD 0 default)) ?_)⟩⟩)
 refine qFn3 [1,3,4,6,8,9,11,12] [] (Hw [(12,(tr5 t (.osl 28 1 0 (((A k).1++[p.getD 0 default]).length)) (.osl 20 5 0 ((A k).2.1.length))))] [] ·) 32 (((1:Nat)≠0)/\(true=true/\1=1/\3+1<=5)/\(True)/\·) ⟨dc,dc,trivial,Rr (An3 5 [(63,.osl 36 5 0 ((A k).2.1.length+1)),(62,.osl 32 5 0 1),(61,.agg (tcs x)),(60,.osl 20 5 0 ((A k).2.1.length)),(59,.ptr 12 4)] ([(36,apd (fl trc ((A k).2.1)) ((A k).2.1.length*5) (tcs x)),(32,tcs x)]++Hw [] [20] ·) 40 (((1:Nat)≠0)/\(4+1<=5/\4<5)/\(0+5<=5/\0<5)/\(1*5<=16777216)/\(0+1*5<=5)/\(5=5/\(A k).2.1.length*5<=(fl trc ((A k).2.1)).length/\0<80/\((A k).2.1.length+1)*80<=140737488355328)/\·) ⟨dc,dc,dc,dc,dc,⟨rfl,gl,dc,gl⟩,run_v (v':=.osl 36 5 0 (((A k).2.1++[x]).length)) (push_len _ _ _ _) (run_h (cs':=fl trc ((A k).2.1++[x])) (push_trc ((A k).2.1) x) ?_)⟩)⟩
 refine Fn3 [1,3,4,6,8,9,11,12] [] (Hw [(12,(tr5 t (.osl 28 1 0 (((A k).1++[p.getD 0 default]).length)) (.osl 36 5 0 (((A k).2.1++[x]).length))))] [] ·) 40 (((1:Nat)≠0)/\(true=true/\1=1/\4+1<=5)/\·) ⟨dc,dc,Rb (fun h=>Jn (hK52 h)) (Fn0 [1,3,4,6,8,9,11,12] [(10,.bool true)] (Sq fun K60 hK60=>?_))⟩
 refine Rm 74 (((t.names.getD k default)==(p.getD 0 default))&&(decide ((p.length:Int)=1))) [1,3,4,6,8,9,10,11,12] ?_ ?_
 refine Av1 3 67 [(66,pth p),(65,.str (t.names.getD k default))] (congrArg AV.pat (mg_str p 0 om)) ((1=1/\(0:Int)<=0/\0<((p.map (fun s=>[AV.str s])).length:Int))/\·) ⟨⟨rfl,om,lmo⟩,An1 3 [(70,.bool ((t.names.getD k default)==(p.getD 0 default))),(69,.bool ((t.names.getD k default)==(p.getD 0 default))),(68,.str (p.getD 0 default))] ((1<=1/\0<1)/\·) ⟨dc,Rg (fun hg62 g62=>?_) (fun hg62 g62=>?_)⟩⟩
 refine Av0 2 72 [(71,pth p)] (lnm p sc) (Mn1 (decide ((p.length:Int)=1)) (Ki/\·) ⟨rfl,(by rw[hg62];rfl)⟩)
 refine Mn0 false (by rw[hg62];rfl)
 refine Cc (((t.names.getD k default)==(p.getD 0 default))&&(decide ((p.length:Int)=1))) (fun hc63 c63=>?_) fun hc63 c63=>?_
 refine Xt (Jx (Bh (Jn (hK50 (Kp [1,3,4,6,8,9,10,11] (Rn (Av1 2 27 [(26,.i k)] (cI (wn1 k om)) (Ki/\·) ⟨rfl,Gn0 [(11,.i ((k+1:Nat):Int))] (nk_n ?_)⟩)))))))
 have e:=hAs k om;simp only[sstp,hc49,hc57,hc63,Bool.true_and,Bool.false_and,cond_true,cond_false]at e
 refine Lr (k+1,some ()) [(0,0),(4,4),(8,8),(12,12),(28,16),(36,20)] 24 [(1,pth p),(3,.bool gn),(4,.ptr 0 0),(6,.ptr 4 0),(8,.ptr 8 0),(9,.ptr 12 0),(10,.bool true),(11,.i ((k+1:Nat):Int))] [(36,fl trc ((A k).2.1++[x])),(28,fl sc ((A k).1++[p.getD 0 default])),(12,(tr5 t (.osl 28 1 0 (((A k).1++[p.getD 0 default]).length)) (.osl 36 5 0 (((A k).2.1++[x]).length)))),(8,zt),(4,tcs x),(0,tcs t)] [false,false,true,true,true,true] ?_ ?_ (by(try ((try dsimp only);rw[e]));try kernel_rfl) (by(try ((try dsimp only);rw[e]));try kernel_rfl)
 (try dsimp only);omega
 refine⟨?_,rfl⟩;(try dsimp only);first|omega|exact⟨om,by rw[e]⟩
 refine Sk (Jn (hK60 (Kp [1,3,4,6,8,9,10,11,12] (Rr (Av1 4 78 [(77,.i k),(76,.sl 5 (t.kids.map trc)),(75,.ptr 0 4)] (congrArg AV.pat (mg_trc t.kids k om)) (((1:Nat)≠0)/\(4+1<=5/\4<5)/\(5=5/\(0:Int)<=(k:Int)/\(k:Int)<((t.kids.map trc).length:Int))/\·) ⟨dc,dc,⟨rfl,om,lmo⟩,Fn3 [1,3,4,6,8,9,10,11,12] [(13,.ptr 40 0)] ([(40,tcs (t.kids.getD k default))]++·) 44 ((5<=5/\0<5)/\(true=true/\5=5/\0+5<=5)/\·) ⟨dc,dc,Sj (fun(z:Tr)=>match z with|kk=>([(1,pth p),(3,.bool gn),(4,.ptr 0 0),(6,.ptr 4 0),(8,.ptr 8 0),(9,.ptr 12 0),(10,.bool true),(11,.i k),(12,.str (t.names.getD k default)),(13,.ptr 40 0)]:Fr)) (fun(z:Tr)=>match z with|kk=>([(40,tcs kk),(36,fl trc ((A k).2.1++[x])),(32,tcs x),(28,fl sc ((A k).1++[p.getD 0 default])),(24,[.str (p.getD 0 default)]),(12,(tr5 t (.osl 28 1 0 (((A k).1++[p.getD 0 default]).length)) (.osl 36 5 0 (((A k).2.1++[x]).length)))),(8,zt),(4,tcs x),(0,tcs t)]:Hp)) (fun(z:Tr)=>match z with|kk=>A (k+1)=((A k).1++[p.getD 0 default]++[t.names.getD k default],(A k).2.1++[x]++[kk],true)) 44 ?_ fun J65 K66 hK66=>?_⟩⟩)))))
 rintro kk hi
 dsimp only at hi⊢
 have hj:=hi
 refine Rr (An3 5 [(95,.osl 48 1 0 (((A k).1++[p.getD 0 default]).length+1)),(94,.osl 44 1 0 1),(93,.str (t.names.getD k default)),(92,.osl 28 1 0 (((A k).1++[p.getD 0 default]).length)),(91,.ptr 12 3)] ([(48,apd (fl sc ((A k).1++[p.getD 0 default])) (((A k).1++[p.getD 0 default]).length*1) [.str (t.names.getD k default)]),(44,[.str (t.names.getD k default)])]++Hw [] [28] ·) 52 (((1:Nat)≠0)/\(3+1<=5/\3<5)/\(1*1<=16777216)/\(0+1*1<=1)/\(1=1/\((A k).1++[p.getD 0 default]).length*1<=(fl sc ((A k).1++[p.getD 0 default])).length/\0<16/\(((A k).1++[p.getD 0 default]).length+1)*16<=140737488355328)/\·) ⟨dc,dc,dc,dc,⟨rfl,gl,dc,gl⟩,run_v (v':=.osl 48 1 0 (((A k).1++[p.getD 0 default]++[t.names.getD k default]).length)) (push_len _ _ _ _) (run_h (cs':=fl sc ((A k).1++[p.getD 0 default]++[t.names.getD k default])) (push_str ((A k).1++[p.getD 0 default]) (t.names.getD k default)) (Fn3 [1,3,4,6,8,9,10,11,13] [] (Hw [(12,(tr5 t (.osl 48 1 0 (((A k).1++[p.getD 0 default]++[t.names.getD k default]).length)) (.osl 36 5 0 (((A k).2.1++[x]).length))))] [] ·) 52 (((1:Nat)≠0)/\(true=true/\1=1/\3+1<=5)/\·) ⟨dc,dc,?_⟩))⟩)
 refine Rb (fun h=>Bn (Jn (hK50 h))) (An3 5 [(101,.osl 56 5 0 (((A k).2.1++[x]).length+1)),(100,.osl 52 5 0 1),(99,.agg (tcs kk)),(98,.osl 36 5 0 (((A k).2.1++[x]).length)),(97,.ptr 12 4)] ([(56,apd (fl trc ((A k).2.1++[x])) (((A k).2.1++[x]).length*5) (tcs kk)),(52,tcs kk)]++Hw [] [36] ·) 60 (((1:Nat)≠0)/\(4+1<=5/\4<5)/\(0+5<=5/\0<5)/\(1*5<=16777216)/\(0+1*5<=5)/\(5=5/\((A k).2.1++[x]).length*5<=(fl trc ((A k).2.1++[x])).length/\0<80/\(((A k).2.1++[x]).length+1)*80<=140737488355328)/\·) ⟨dc,dc,dc,dc,dc,⟨rfl,gl,dc,gl⟩,run_v (v':=.osl 56 5 0 (((A k).2.1++[x]++[kk]).length)) (push_len _ _ _ _) (run_h (cs':=fl trc ((A k).2.1++[x]++[kk])) (push_trc ((A k).2.1++[x]) kk) (Fn3 [1,3,4,6,8,9,10,11] [] (Hw [(12,(tr5 t (.osl 48 1 0 (((A k).1++[p.getD 0 default]++[t.names.getD k default]).length)) (.osl 56 5 0 (((A k).2.1++[x]++[kk]).length))))] [] ·) 60 (((1:Nat)≠0)/\(true=true/\1=1/\4+1<=5)/\·) ⟨dc,dc,?_⟩))⟩)
 refine Rn (Av1 2 27 [(26,.i k)] (cI (wn1 k om)) (Ki/\·) ⟨rfl,Gn0 [(11,.i ((k+1:Nat):Int))] (nk_n ?_)⟩)
 have e:=hj
 refine Lr (k+1,some ()) [(0,0),(4,4),(8,8),(12,12),(48,16),(56,20)] 24 [(1,pth p),(3,.bool gn),(4,.ptr 0 0),(6,.ptr 4 0),(8,.ptr 8 0),(9,.ptr 12 0),(10,.bool true),(11,.i ((k+1:Nat):Int))] [(56,fl trc ((A k).2.1++[x]++[kk])),(48,fl sc ((A k).1++[p.getD 0 default]++[t.names.getD k default])),(12,(tr5 t (.osl 48 1 0 (((A k).1++[p.getD 0 default]++[t.names.getD k default]).length)) (.osl 56 5 0 (((A k).2.1++[x]++[kk]).length)))),(8,zt),(4,tcs x),(0,tcs t)] [false,false,true,true,true,true] ?_ ?_ (by(try ((try dsimp only);rw[e]));try kernel_rfl) (by(try ((try dsimp only);rw[e]));try kernel_rfl)
 (try dsimp only);omega
 refine⟨?_,rfl⟩;(try dsimp only);first|omega|exact⟨om,by rw[e]⟩
 refine Rr (Av1 3 82 [(81,pth p),(80,.str (t.names.getD k default))] (congrArg AV.pat (mg_str p 0 om)) ((1=1/\(0:Int)<=0/\0<((p.map (fun s=>[AV.str s])).length:Int))/\·) ⟨⟨rfl,om,lmo⟩,Cn1 ((t.names.getD k default)==(p.getD 0 default)) [1,3,4,6,8,9,10,11,12,13] [] ((1<=1/\0<1)/\·) ⟨dc,fun hc69 c69=>?_,fun hc69 c69=>?_⟩⟩)
 exfalso;rw[hc69,Bool.true_and]at hc63;simp only[decide_eq_false_iff_not]at hc63;omega
 refine Sk (Jn (hK66 (Kp [1,3,4,6,8,9,10,11,12,13] (Tr2 J65 (t.kids.getD k default) [(0,0),(4,4),(8,8),(12,12),(24,24),(28,28),(32,32),(36,36),(40,40)] [(1,pth p),(3,.bool gn),(4,.ptr 0 0),(6,.ptr 4 0),(8,.ptr 8 0),(9,.ptr 12 0),(10,.bool true),(11,.i k),(12,.str (t.names.getD k default)),(13,.ptr 40 0)] [(40,tcs (t.kids.getD k default)),(36,fl trc ((A k).2.1++[x])),(32,tcs x),(28,fl sc ((A k).1++[p.getD 0 default])),(24,[.str (p.getD 0 default)]),(12,(tr5 t (.osl 28 1 0 (((A k).1++[p.getD 0 default]).length)) (.osl 36 5 0 (((A k).2.1++[x]).length)))),(8,zt),(4,tcs x),(0,tcs t)] [true,false,true,false,true,true,true,true,true] ?_ kr kr))))
 (try dsimp only)
 have e:=hAs k om;simp only[sstp,hc49,hc57,hc63,hc69,Bool.true_and,Bool.false_and,cond_true,cond_false]at e
 exact e
 refine Sk (Jn (hK52 (Kp [1,3,4,6,8,9,10,11,12] (Sq fun K70 hK70=>?_))))
 refine Rm 74 (((t.names.getD k default)==(p.getD 0 default))&&(decide ((p.length:Int)=1))) [1,3,4,6,8,9,10,11,12] ?_ ?_
 refine Av1 3 67 [(66,pth p),(65,.str (t.names.getD k default))] (congrArg AV.pat (mg_str p 0 om)) ((1=1/\(0:Int)<=0/\0<((p.map (fun s=>[AV.str s])).length:Int))/\·) ⟨⟨rfl,om,lmo⟩,An1 3 [(70,.bool ((t.names.getD k default)==(p.getD 0 default))),(69,.bool ((t.names.getD k default)==(p.getD 0 default))),(68,.str (p.getD 0 default))] ((1<=1/\0<1)/\·) ⟨dc,Rg (fun hg72 g72=>?_) (fun hg72 g72=>?_)⟩⟩
 refine Av0 2 72 [(71,pth p)] (lnm p sc) (Mn1 (decide ((p.length:Int)=1)) (Ki/\·) ⟨rfl,(by rw[hg72];rfl)⟩)
 refine Mn0 false (by rw[hg72];rfl)
 refine Cc (((t.names.getD k default)==(p.getD 0 default))&&(decide ((p.length:Int)=1))) (fun hc73 c73=>?_) fun hc73 c73=>?_
 refine Xt (Jx (Bh (Jn (hK50 (Kp [1,3,4,6,8,9,10,11] (Rn (Av1 2 27 [(26,.i k)] (cI (wn1 k om)) (Ki/\·) ⟨rfl,Gn0 [(11,.i ((k+1:Nat):Int))] (nk_n ?_)⟩)))))))
 have e:=hAs k om;simp only[sstp,hc49,hc57,hc73,Bool.true_and,Bool.false_and,cond_true,cond_false]at e
 refine Lr (k+1,some ()) [(0,0),(4,4),(8,8),(12,12),(16,16),(20,20)] 24 [(1,pth p),(3,.bool gn),(4,.ptr 0 0),(6,.ptr 4 0),(8,.ptr 8 0),(9,.ptr 12 0),(10,.bool ((A k).2.2)),(11,.i ((k+1:Nat):Int))] [(20,fl trc ((A k).2.1)),(16,fl sc ((A k).1)),(12,(tr5 t (.osl 16 1 0 ((A k).1.length)) (.osl 20 5 0 ((A k).2.1.length)))),(8,zt),(4,tcs x),(0,tcs t)] [false,false,true,true,true,true] ?_ ?_ (by(try ((try dsimp only);rw[e]));try kernel_rfl) (by(try ((try dsimp only);rw[e]));try kernel_rfl)
 (try dsimp only);omega
 refine⟨?_,rfl⟩;(try dsimp only);first|omega|exact⟨om,by rw[e]⟩
 refine Sk (Jn (hK70 (Kp [1,3,4,6,8,9,10,11,12] (Rr (Av1 4 78 [(77,.i k),(76,.sl 5 (t.kids.map trc)),(75,.ptr 0 4)] (congrArg AV.pat (mg_trc t.kids k om)) (((1:Nat)≠0)/\(4+1<=5/\4<5)/\(5=5/\(0:Int)<=(k:Int)/\(k:Int)<((t.kids.map trc).length:Int))/\·) ⟨dc,dc,⟨rfl,om,lmo⟩,Fn3 [1,3,4,6,8,9,10,11,12] [(13,.ptr 24 0)] ([(24,tcs (t.kids.getD k default))]++·) 28 ((5<=5/\0<5)/\(true=true/\5=5/\0+5<=5)/\·) ⟨dc,dc,Sj (fun(z:Tr)=>match z with|kk=>([(1,pth p),(3,.bool gn),(4,.ptr 0 0),(6,.ptr 4 0),(8,.ptr 8 0),(9,.ptr 12 0),(10,.bool ((A k).2.2)),(11,.i k),(12,.str (t.names.getD k default)),(13,.ptr 24 0)]:Fr)) (fun(z:Tr)=>match z with|kk=>([(24,tcs kk),(20,fl trc ((A k).2.1)),(16,fl sc ((A k).1)),(12,(tr5 t (.osl 16 1 0 ((A k).1.length)) (.osl 20 5 0 ((A k).2.1.length)))),(8,zt),(4,tcs x),(0,tcs t)]:Hp)) (fun(z:Tr)=>match z with|kk=>A (k+1)=((A k).1++[t.names.getD k default],(A k).2.1++[kk],(A k).2.2)) 28 ?_ fun J75 K76 hK76=>?_⟩⟩)))))
 rintro kk hi
 dsimp only at hi⊢
 have hj:=hi
 refine Rr (An3 5 [(95,.osl 32 1 0 ((A k).1.length+1)),(94,.osl 28 1 0 1),(93,.str (t.names.getD k default)),(92,.osl 16 1 0 ((A k).1.length)),(91,.ptr 12 3)] ([(32,apd (fl sc ((A k).1)) ((A k).1.length*1) [.str (t.names.getD k default)]),(28,[.str (t.names.getD k default)])]++Hw [] [16] ·) 36 (((1:Nat)≠0)/\(3+1<=5/\3<5)/\(1*1<=16777216)/\(0+1*1<=1)/\(1=1/\(A k).1.length*1<=(fl sc ((A k).1)).length/\0<16/\((A k).1.length+1)*16<=140737488355328)/\·) ⟨dc,dc,dc,dc,⟨rfl,gl,dc,gl⟩,run_v (v':=.osl 32 1 0 (((A k).1++[t.names.getD k default]).length)) (push_len _ _ _ _) (run_h (cs':=fl sc ((A k).1++[t.names.getD k default])) (push_str ((A k).1) (t.names.getD k default)) (Fn3 [1,3,4,6,8,9,10,11,13] [] (Hw [(12,(tr5 t (.osl 32 1 0 (((A k).1++[t.names.getD k default]).length)) (.osl 20 5 0 ((A k).2.1.length))))] [] ·) 36 (((1:Nat)≠0)/\(true=true/\1=1/\3+1<=5)/\·) ⟨dc,dc,?_⟩))⟩)
 refine Rb (fun h=>Bn (Jn (hK50 h))) (An3 5 [(101,.osl 40 5 0 ((A k).2.1.length+1)),(100,.osl 36 5 0 1),(99,.agg (tcs kk)),(98,.osl 20 5 0 ((A k).2.1.length)),(97,.ptr 12 4)] ([(40,apd (fl trc ((A k).2.1)) ((A k).2.1.length*5) (tcs kk)),(36,tcs kk)]++Hw [] [20] ·) 44 (((1:Nat)≠0)/\(4+1<=5/\4<5)/\(0+5<=5/\0<5)/\(1*5<=16777216)/\(0+1*5<=5)/\(5=5/\(A k).2.1.length*5<=(fl trc ((A k).2.1)).length/\0<80/\((A k).2.1.length+1)*80<=140737488355328)/\·) ⟨dc,dc,dc,dc,dc,⟨rfl,gl,dc,gl⟩,run_v (v':=.osl 40 5 0 (((A k).2.1++[kk]).length)) (push_len _ _ _ _) (run_h (cs':=fl trc ((A k).2.1++[kk])) (push_trc ((A k).2.1) kk) (Fn3 [1,3,4,6,8,9,10,11] [] (Hw [(12,(tr5 t (.osl 32 1 0 (((A k).1++[t.names.getD k default]).length)) (.osl 40 5 0 (((A k).2.1++[kk]).length))))] [] ·) 44 (((1:Nat)≠0)/\(true=true/\1=1/\4+1<=5)/\·) ⟨dc,dc,?_⟩))⟩)
 refine Rn (Av1 2 27 [(26,.i k)] (cI (wn1 k om)) (Ki/\·) ⟨rfl,Gn0 [(11,.i ((k+1:Nat):Int))] (nk_n ?_)⟩)
 have e:=hj
 refine Lr (k+1,some ()) [(0,0),(4,4),(8,8),(12,12),(32,16),(40,20)] 24 [(1,pth p),(3,.bool gn),(4,.ptr 0 0),(6,.ptr 4 0),(8,.ptr 8 0),(9,.ptr 12 0),(10,.bool ((A k).2.2)),(11,.i ((k+1:Nat):Int))] [(40,fl trc ((A k).2.1++[kk])),(32,fl sc ((A k).1++[t.names.getD k default])),(12,(tr5 t (.osl 32 1 0 (((A k).1++[t.names.getD k default]).length)) (.osl 40 5 0 (((A k).2.1++[kk]).length)))),(8,zt),(4,tcs x),(0,tcs t)] [false,false,true,true,true,true] ?_ ?_ (by(try ((try dsimp only);rw[e]));try kernel_rfl) (by(try ((try dsimp only);rw[e]));try kernel_rfl)
 (try dsimp only);omega
 refine⟨?_,rfl⟩;(try dsimp only);first|omega|exact⟨om,by rw[e]⟩
 refine Rr (Av1 3 82 [(81,pth p),(80,.str (t.names.getD k default))] (congrArg AV.pat (mg_str p 0 om)) ((1=1/\(0:Int)<=0/\0<((p.map (fun s=>[AV.str s])).length:Int))/\·) ⟨⟨rfl,om,lmo⟩,Cn1 ((t.names.getD k default)==(p.getD 0 default)) [1,3,4,6,8,9,10,11,12,13] [] ((1<=1/\0<1)/\·) ⟨dc,fun hc79 c79=>?_,fun hc79 c79=>?_⟩⟩)
 refine Qb [0,0,2,0,0,31,63] [(0,[]),(1,[]),(2,[]),(3,[]),(4,[]),(5,[]),(6,[])] (fun h=>Jn (hK76 h)) (qAv1 (r:=.sl 1 (((p.map (fun s=>[AV.str s])).take ((p.map (fun s=>[AV.str s])).length)).drop 1)) (v:=pth (p.drop 1)) 3 87 [(86,pth p),(85,.agg (tcs (t.kids.getD k default)))] (congrArg (AV.sl 1) (slm_all _ _ _)) ((0+5<=5/\0<5)/\(1=1/\0<=(1:Int)/\(1:Int)<=((p.map (fun s=>[AV.str s])).length:Int)/\((p.map (fun s=>[AV.str s])).length:Int)<=((p.map (fun s=>[AV.str s])).length:Int))/\·) ⟨dc,⟨rfl,om,lmo,om⟩,qBc1 3 [(89,.bool gn),(88,.agg (tcs x))] [] 110 [.agg (tcs (t.kids.getD k default)),pth (p.drop 1),.agg (tcs x),.bool gn] 90 ((0+5<=5/\0<5)/\·) ⟨dc,?_⟩⟩)
 have hW:=Ws_get t.kids k om
 have hp2:1<p.length:=by
   rcases Nat.lt_or_ge 1 p.length with h|h
   · exact h
   · exfalso;have h1:p.length=1:=by omega
     rw[hc79,h1]at hc73;simp at hc73
 have hdd:decide ((p.length:Int)=(1:Int))=false:=by rw[decide_eq_false_iff_not];omega
 refine PE.use (ih _ (by simp only[List.length_drop];omega) (p.drop 1) (t.kids.getD k default) x gn rfl om (wf_kid hwf om _) (by simp only[List.length_drop];omega) (by simp only[List.length_drop];omega)) ?_
 refine Kq (p:=(True)) trivial ?_
 refine qFn3 [1,3,4,6,8,9,10,11,12,13] [] (Hw [(24,tcs (tset (p.drop 1) (t.kids.getD k default) x gn))] [] ·) 28 ((true=true/\5=5/\0+5<=5)/\(True)/\·) ⟨dc,trivial,Tr2 J75 (tset (p.drop 1) (t.kids.getD k default) x gn) [(0,0),(4,4),(8,8),(12,12),(16,16),(20,20),(24,24)] [(1,pth p),(3,.bool gn),(4,.ptr 0 0),(6,.ptr 4 0),(8,.ptr 8 0),(9,.ptr 12 0),(10,.bool ((A k).2.2)),(11,.i k),(12,.str (t.names.getD k default)),(13,.ptr 24 0)] [(24,tcs (tset (p.drop 1) (t.kids.getD k default) x gn)),(20,fl trc ((A k).2.1)),(16,fl sc ((A k).1)),(12,(tr5 t (.osl 16 1 0 ((A k).1.length)) (.osl 20 5 0 ((A k).2.1.length)))),(8,zt),(4,tcs x),(0,tcs t)] [true,false,false,true,true,true,true] ?_ kr kr⟩
 (try dsimp only)
 have e:=hAs k om;simp only[sstp,hc49,hc57,hc73,hc79,hdd,Bool.true_and,Bool.false_and,cond_true,cond_false]at e
 exact e
 refine Sk (Jn (hK76 (Kp [1,3,4,6,8,9,10,11,12,13] (Tr2 J75 (t.kids.getD k default) [(0,0),(4,4),(8,8),(12,12),(16,16),(20,20),(24,24)] [(1,pth p),(3,.bool gn),(4,.ptr 0 0),(6,.ptr 4 0),(8,.ptr 8 0),(9,.ptr 12 0),(10,.bool ((A k).2.2)),(11,.i k),(12,.str (t.names.getD k default)),(13,.ptr 24 0)] [(24,tcs (t.kids.getD k default)),(20,fl trc ((A k).2.1)),(16,fl sc ((A k).1)),(12,(tr5 t (.osl 16 1 0 ((A k).1.length)) (.osl 20 5 0 ((A k).2.1.length)))),(8,zt),(4,tcs x),(0,tcs t)] [true,false,false,true,true,true,true] ?_ kr kr))))
 (try dsimp only)
 have e:=hAs k om;simp only[sstp,hc49,hc57,hc73,hc79,Bool.true_and,Bool.false_and,cond_true,cond_false]at e
 exact e
 refine Xt (Jx (Lx (Bh (Jn (hK4 (Kp [1,3,6,8,9,10] (Sq fun K80 hK80=>?_)))))))
 refine Rm 113 ((decide ((p.length:Int)=1))&&((!((A k).2.2))&&(!gn))) [1,6,8,9] ?_ ?_
 refine Av0 2 104 [(103,pth p)] (lnm p sc) (An1 2 [(106,.bool (decide ((p.length:Int)=1))),(105,.bool (decide ((p.length:Int)=1)))] (Ki/\·) ⟨rfl,Rg (fun hg82 g82=>?_) (fun hg82 g82=>?_)⟩)
 refine An0 4 [(110,.bool (!((A k).2.2))),(109,.bool (!((A k).2.2))),(108,.bool (!((A k).2.2))),(107,.bool ((A k).2.2))] (Rg (fun hg83 g83=>?_) (fun hg83 g83=>?_))
 refine Mn0 (!gn) (by rw[hg82,hg83];rfl)
 refine Mn0 false (by rw[hg82,hg83];rfl)
 refine Mn0 false (by rw[hg82];rfl)
 refine Cc ((decide ((p.length:Int)=1))&&((!((A k).2.2))&&(!gn))) (fun hc84 c84=>?_) fun hc84 c84=>?_
 refine Qr [0,1,0,4,12,28,63,127,255] [(0,[]),(1,[]),(2,[]),(3,[]),(4,[]),(5,[1]),(6,[]),(7,[]),(8,[])] (qAv1 4 117 [(116,pth p),(115,.osl 16 1 0 ((A k).1.length)),(114,.ptr 12 3)] (congrArg AV.pat (mg_str p 0 om)) (((1:Nat)≠0)/\(3+1<=5/\3<5)/\(1=1/\(0:Int)<=0/\0<((p.map (fun s=>[AV.str s])).length:Int))/\·) ⟨dc,dc,⟨rfl,om,lmo⟩,qAn3 3 [(120,.osl 28 1 0 ((A k).1.length+1)),(119,.osl 24 1 0 1),(118,.str (p.getD 0 default))] ([(28,apd (fl sc ((A k).1)) ((A k).1.length*1) [.str (p.getD 0 default)]),(24,[.str (p.getD 0 default)])]++Hw [] [16] ·) 32 (fun Z=>(1<=1/\0<1)/\(1*1<=16777216)/\(((3+1<=5/\3<5)/\(AV.osl 16 1 0 ((A k).1.length)=(.osl 16 1 0 ((A k).1.length):AV)))/\True)/\(0+1*1<=1)/\(1=1/\(A k).1.length*1<=(fl sc ((A k).1)).length/\0<16/\((A k).1.length+1)*16<=140737488355328)/\(True)/\Z) ⟨dc,dc,⟨⟨dc,rfl⟩,trivial⟩,dc,⟨rfl,gl,dc,gl⟩,trivial,runq_v (v':=.osl 28 1 0 (((A k).1++[p.getD 0 default]).length)) (push_len _ _ _ _) (runq_h (cs':=fl sc ((A k).1++[p.getD 0 default])) (push_str ((A k).1) (p.getD 0 default)) ?_)⟩⟩)
 refine qFn3 [6,8,9] [] (Hw [(12,(tr5 t (.osl 28 1 0 (((A k).1++[p.getD 0 default]).length)) (.osl 20 5 0 ((A k).2.1.length))))] [] ·) 32 (((1:Nat)≠0)/\(true=true/\1=1/\3+1<=5)/\(True)/\·) ⟨dc,dc,trivial,Rb (fun h=>Jn (hK80 h)) (An3 5 [(126,.osl 36 5 0 ((A k).2.1.length+1)),(125,.osl 32 5 0 1),(124,.agg (tcs x)),(123,.osl 20 5 0 ((A k).2.1.length)),(122,.ptr 12 4)] ([(36,apd (fl trc ((A k).2.1)) ((A k).2.1.length*5) (tcs x)),(32,tcs x)]++Hw [] [20] ·) 40 (((1:Nat)≠0)/\(4+1<=5/\4<5)/\(0+5<=5/\0<5)/\(1*5<=16777216)/\(0+1*5<=5)/\(5=5/\(A k).2.1.length*5<=(fl trc ((A k).2.1)).length/\0<80/\((A k).2.1.length+1)*80<=140737488355328)/\·) ⟨dc,dc,dc,dc,dc,⟨rfl,gl,dc,gl⟩,run_v (v':=.osl 36 5 0 (((A k).2.1++[x]).length)) (push_len _ _ _ _) (run_h (cs':=fl trc ((A k).2.1++[x])) (push_trc ((A k).2.1) x) ?_)⟩)⟩
 refine Fn3 [8,9] [] (Hw [(12,(tr5 t (.osl 28 1 0 (((A k).1++[p.getD 0 default]).length)) (.osl 36 5 0 (((A k).2.1++[x]).length))))] [] ·) 40 (((1:Nat)≠0)/\(true=true/\1=1/\4+1<=5)/\·) ⟨dc,dc,Rr (Fn3 [8] [] (Hw [(8,(tr5 t (.osl 28 1 0 (((A k).1++[p.getD 0 default]).length)) (.osl 36 5 0 (((A k).2.1++[x]).length))))] [] ·) 40 ((0+5<=5/\0<5)/\(true=true/\5=5/\0+5<=5)/\·) ⟨dc,dc,FzT 36 ((A k).2.1++[x]) [(8,.ptr 8 0)] [(28,fl sc ((A k).1++[p.getD 0 default])),(8,(tr5 t (.osl 28 1 0 (((A k).1++[p.getD 0 default]).length)) (.osl 36 5 0 (((A k).2.1++[x]).length))))] [false,true] (FzS 28 ((A k).1++[p.getD 0 default]) [(8,.ptr 8 0)] [(8,(tr5 t (.osl 28 1 0 (((A k).1++[p.getD 0 default]).length)) (.sl 5 (((A k).2.1++[x]).map trc))))] [true] ?_)⟩)⟩
 refine Rt1 ((0+5<=5/\0<5)/\·) (.agg (tr5 t (pth ((A k).1++[p.getD 0 default])) (.sl 5 (((A k).2.1++[x]).map trc)))) ⟨dc,fin_lea ?_⟩
 obtain rfl:k=t.names.length:=by omega
 simp only[sE,hc49,hc84,Bool.true_and,Bool.false_and,cond_true,cond_false]at hAe
 rw[hAe]
 first
   |exact lea_refl _
   |(simp only[tcs,Tr.dir_mk,Tr.mode_mk,Tr.data_mk,Tr.names_mk,Tr.kids_mk,hn1,hn2,List.nil_append];first|exact lea_refl _|(simp[lea,leas,pth]))
 refine Sk (Jn (hK80 (Kp [8,9] (Rr (Fn3 [8] [] (Hw [(8,(tr5 t (.osl 16 1 0 ((A k).1.length)) (.osl 20 5 0 ((A k).2.1.length))))] [] ·) 24 ((0+5<=5/\0<5)/\(true=true/\5=5/\0+5<=5)/\·) ⟨dc,dc,FzT 20 ((A k).2.1) [(8,.ptr 8 0)] [(16,fl sc ((A k).1)),(8,(tr5 t (.osl 16 1 0 ((A k).1.length)) (.osl 20 5 0 ((A k).2.1.length))))] [false,true] (FzS 16 ((A k).1) [(8,.ptr 8 0)] [(8,(tr5 t (.osl 16 1 0 ((A k).1.length)) (.sl 5 (((A k).2.1).map trc))))] [true] ?_)⟩)))))
 refine Rt1 ((0+5<=5/\0<5)/\·) (.agg (tr5 t (pth ((A k).1)) (.sl 5 (((A k).2.1).map trc)))) ⟨dc,fin_lea ?_⟩
 obtain rfl:k=t.names.length:=by omega
 simp only[sE,hc49,hc84,Bool.true_and,Bool.false_and,cond_true,cond_false]at hAe
 rw[hAe]
 first
   |exact lea_refl _
   |(simp only[tcs,Tr.dir_mk,Tr.mode_mk,Tr.data_mk,Tr.names_mk,Tr.kids_mk,hn1,hn2,List.nil_append];first|exact lea_refl _|(simp[lea,leas,pth]))
open Go Go.Proofs
set_option maxRecDepth 100000
theorem l2Write_ok (s:Str) (a:Nat) (d:Str) (hs:s.length<2^40) (ha:a<2^40) (hd:d.length<2^40):PE G 137 [.str s,.i a,.str d] (.str (l2w s a d)):=by
 refine Pe Tryz.func137 ?_
 refine Rr (Fn0 [0,1,2] [] (Rr (Fn2 [1,2] [(7,.osl 2 1 0 s.length)] ([(2,ints s)]++·) 4 (Sq fun K3 hK3=>?_))))
 refine Bl (h_l (fun(j:Nat)=>([(1,.i a),(2,.str d),(7,.osl 2 1 0 ((s++List.replicate j 0).length))]:Fr)) (fun(j:Nat)=>([(2,ints (s++List.replicate j 0))]:Hp)) (fun(j:Nat) cn=>(s.length+j<=max s.length (a+d.length))/\cn=4) (fun(j:Nat)=>a+d.length-(s.length+j)) 0 kr ?_ ?_ ?_ ?_)
 refine⟨?_,rfl⟩;omega
 exact⟨kr,kr,(by show AV.osl 2 1 0 s.length=AV.osl 2 1 0 (s++List.replicate 0 0).length;simp),trivial⟩
 exact(sub_c (by simp) (List.nil_sublist _))
 rintro j n1 hI
 (try dsimp only at hI)
 obtain⟨hj,rfl⟩:=hI
 have he:(s++List.replicate j 0).length=s.length+j:=by simp
 refine Sq fun K4 hK4=>?_
 refine Rr (Av1 6 16 [(15,.i d.length),(14,.str d),(13,.i a),(12,.i ((s++List.replicate j 0).length:Int)),(11,.osl 2 1 0 ((s++List.replicate j 0).length))] (cI (wnn a d.length om)) (Ki/\·) ⟨rfl,Cn1 (decide (((s++List.replicate j 0).length:Int)<((a+d.length:Nat):Int))) [1,2,7] [] (Ki/\·) ⟨rfl,fun hc6 c6=>?_,fun hc6 c6=>?_⟩⟩)
 refine Sk (Jn (hK4 (Kp [1,2,7] (Bl (Rn (An3 3 [(20,.osl 10 1 0 ((s++List.replicate j 0).length+1)),(19,.osl 4 1 0 1),(18,.osl 2 1 0 ((s++List.replicate j 0).length))] (fun _=>[(10,apd (ints (s++List.replicate j 0)) ((s++List.replicate j 0).length*1) [.int .u8 0]),(4,[.int .u8 0])]) 12 ((1*1<=16777216)/\(0+1*1<=1)/\(1=1/\(s++List.replicate j 0).length*1<=(ints (s++List.replicate j 0)).length/\0<1/\((s++List.replicate j 0).length+1)*1<=140737488355328)/\·) ⟨dc,dc,⟨rfl,gl,dc,gl⟩,run_v (v':=.osl 10 1 0 ((s++List.replicate j 0++[(0:UInt8)]).length)) (push_len _ _ _ _) ?_⟩))))))
 refine run_h (cs':=ints (s++List.replicate j 0++[(0:UInt8)])) (push_u8 (s++List.replicate j 0) (0:UInt8)) ?_
 refine Gn0 [(7,.osl 10 1 0 ((s++List.replicate j 0++[(0:UInt8)]).length))] (nk_n (Bn (Lr (j+1) [(10,2)] 4 [(1,.i a),(2,.str d),(7,.osl 10 1 0 ((s++List.replicate j 0++[(0:UInt8)]).length))] [(10,ints (s++List.replicate j 0++[(0:UInt8)]))] [false] ?_ ?_ (by(try rw[List.append_assoc,<-List.replicate_succ']);try kernel_rfl) (by(try rw[List.append_assoc,<-List.replicate_succ']);try kernel_rfl))))
 (try dsimp only);omega
 refine⟨?_,rfl⟩;(try dsimp only);omega
 refine Xt (Jx (Lx (Bh (Jn (hK3 (Kp [1,2,7] (Sq fun K7 hK7=>?_)))))))
 have hol:a+d.length<=(s++List.replicate j 0).length:=by omega
 refine Rr (Fn0 [1,2,7] [(8,.i 0)] (Bl (h_l (fun(i:Nat)=>([(1,.i a),(2,.str d),(7,.osl 2 1 0 ((s++List.replicate j 0).length)),(8,.i i)]:Fr)) (fun(i:Nat)=>([(2,ints ((s++List.replicate j 0).take a++d.take i++(s++List.replicate j 0).drop (a+i)))]:Hp)) (fun(i:Nat) cn=>(i<=d.length/\((s++List.replicate j 0).take a++d.take i++(s++List.replicate j 0).drop (a+i)).length=(s++List.replicate j 0).length)/\cn=4) (fun(i:Nat)=>d.length-i) 0 kr ?_ ?_ ?_ ?_)))
 refine⟨?_,rfl⟩;exact⟨Nat.zero_le _,by simp⟩
 exact⟨kr,kr,kr,kr,trivial⟩
 exact(sub_c (by simp) (List.nil_sublist _))
 rintro i n1 hI
 (try dsimp only at hI)
 obtain⟨⟨hi,hil⟩,rfl⟩:=hI
 refine Sq fun K9 hK9=>?_
 refine Rr (Cn1 (decide ((i:Int)<(d.length:Int))) [1,2,7,8] [] (Ki/\·) ⟨rfl,fun hc11 c11=>?_,fun hc11 c11=>?_⟩)
 refine Sk (Jn (hK9 (Kp [1,2,7,8] (Sq fun K12 hK12=>?_))))
 refine Bl (Rb (fun h=>Bn (Jn (hK12 h))) (Av1 4 30 [(29,.i i),(28,.i a),(27,.osl 2 1 0 ((s++List.replicate j 0).length))] (cI (wnn a i om)) (Ki/\·) ⟨rfl,An3 5 [(34,.ptr 2 (0+(a+i)*1)),(33,.int .u8 ((d.getD i 0).toNat:Int)),(32,.i i),(31,.str d)] (fun _=>[(2,(ints ((s++List.replicate j 0).take a++d.take i++(s++List.replicate j 0).drop (a+i))).take (0+(a+i)*1)++[.int .u8 ((d.getD i 0).toNat:Int)]++(ints ((s++List.replicate j 0).take a++d.take i++(s++List.replicate j 0).drop (a+i))).drop (0+(a+i)*1+1))]) 4 (((0:Int)<=(i:Int)/\(i:Int)<(d.length:Int))/\(1=1/\(0:Int)<=((a+i:Nat):Int)/\((a+i:Nat):Int)<((s++List.replicate j 0).length:Int))/\(true=true/\1=1/\0+(a+i)*1+1<=(ints ((s++List.replicate j 0).take a++d.take i++(s++List.replicate j 0).drop (a+i))).length)/\·) ⟨⟨om,om⟩,⟨rfl,om,om⟩,⟨rfl,rfl,(by(try simp only[flTl,flSl,ints_len,List.length_set]);omega)⟩,run_H (H':=[(2,ints (((s++List.replicate j 0).take a++d.take i++(s++List.replicate j 0).drop (a+i)).set (a+i) (d.getD i 0)))]) (by rw[set_ints _ _ _ om]) ?_⟩⟩))
 refine Fn0 [1,2,7,8] [] (Rn (Av1 2 26 [(25,.i i)] (cI (wn1 i om)) (Ki/\·) ⟨rfl,Gn0 [(8,.i ((i+1:Nat):Int))] (nk_n ?_)⟩))
 refine Lr (i+1) [(2,2)] 4 [(1,.i a),(2,.str d),(7,.osl 2 1 0 ((s++List.replicate j 0).length)),(8,.i ((i+1:Nat):Int))] [(2,ints (((s++List.replicate j 0).take a++d.take i++(s++List.replicate j 0).drop (a+i)).set (a+i) (d.getD i 0)))] [false] ?_ ?_ (by(try rw[l2w_step om om]);try kernel_rfl) kr
 (try dsimp only);omega
 refine⟨?_,rfl⟩;(try dsimp only);exact⟨om,by rw[<-hil,<-l2w_step om om,List.length_set]⟩
 refine Xt (Jx (Lx (Bh (Jn (hK7 (Kp [7] (h_k [7] (F':=[(7,.osl 2 1 0 ((s++List.replicate j 0).length))]) kr (h_st (F':=[(7,.osl 2 1 0 (((s++List.replicate j 0).take a++d.take i++(s++List.replicate j 0).drop (a+i)).length))]) (H':=[(2,ints ((s++List.replicate j 0).take a++d.take i++(s++List.replicate j 0).drop (a+i)))]) (by rw[hil]) rfl (Rr (Av1 (r:=.str ((((ints ((s++List.replicate j 0).take a++d.take i++(s++List.replicate j 0).drop (a+i))).drop 0).take ((s++List.replicate j 0).take a++d.take i++(s++List.replicate j 0).drop (a+i)).length).map unu)) (v:=.str ((s++List.replicate j 0).take a++d.take i++(s++List.replicate j 0).drop (a+i))) 2 36 [(35,.osl 2 1 0 (((s++List.replicate j 0).take a++d.take i++(s++List.replicate j 0).drop (a+i)).length))] (congrArg AV.str (unu_ints _)) (fun Z=>(1=1/\0+((s++List.replicate j 0).take a++d.take i++(s++List.replicate j 0).drop (a+i)).length<=(ints ((s++List.replicate j 0).take a++d.take i++(s++List.replicate j 0).drop (a+i))).length/\allu (((ints ((s++List.replicate j 0).take a++d.take i++(s++List.replicate j 0).drop (a+i))).drop 0).take ((s++List.replicate j 0).take a++d.take i++(s++List.replicate j 0).drop (a+i)).length))/\Z) ⟨⟨rfl,by rw[ints_len];omega,allu_ints _⟩,?_⟩))))))))))
 refine Fn0 [] [(6,.str ((s++List.replicate j 0).take a++d.take i++(s++List.replicate j 0).drop (a+i)))] (Rt (.str ((s++List.replicate j 0).take a++d.take i++(s++List.replicate j 0).drop (a+i))) (fin_lea ?_))
 obtain rfl:i=d.length:=by omega
 obtain rfl:j=a+d.length-s.length:=by omega
 rw[List.take_length];exact lea_refl _
theorem l2Write_i (s:Str) (a:Int) (d:Str) (h0:0<=a) (ha:a<2^40) (hs:s.length<2^40) (hd:d.length<2^40):PE G 137 [.str s,.i a,.str d] (.str (l2w s a.toNat d)):=by
  obtain⟨k,rfl⟩:=Int.eq_ofNat_of_zero_le h0
  exact l2Write_ok s k d hs om hd
open Go Go.Proofs
set_option maxRecDepth 100000
theorem l2File_ok (t:Tr) (c:Cl) (hw:t.W<2^12) (hwf:t.wf=true) (h1:wS c.path<2^10) (h2:wS c.to<2^40) (h3:c.data.length<2^21) (h4:0<c.path.length) (h5:0<=c.at_) (h6:c.at_<=24):PE G 111 [.agg (tcs t),.agg (clc c)] (.tup [.agg (tcs (sFile t c).1),.i (sFile t c).2]):=by
 have hl1:=wS_len c.path;have hl2:=wS_len c.to;have hxw:=W_xat t c.path;have hxd:=data_W (xat t c.path);have hxf:=xat_wf hwf c.path
 refine Pe Tryz.func111 ?_
 refine Rr (Fn2 [] [(4,.ptr 8 0),(3,.ptr 4 0),(2,.ptr 0 0)] ([(8,zt),(4,clc c),(0,tcs t)]++·) 12 (Rr (Bc1 4 [(12,pth c.path),(11,.ptr 4 1),(10,.agg (tcs t))] 91 [.agg (tcs t),pth c.path] 13 ((0+5<=5/\0<5)/\((1:Nat)≠0)/\(1+1<=5/\1<5)/\·) ⟨dc,dc,dc,PE.use (l1At_c c.path t om (by assumption) om) ?_⟩)))
 refine Ke (Fn3 [2,3,4] [(7,.bool ((tat t c.path).isSome)),(6,.ptr 12 0)] ([(12,tcs (xat t c.path))]++·) 16 ((0<2)/\(1<2)/\(true=true/\5=5/\0+5<=5)/\·) ⟨dc,dc,dc,Sq fun K3 hK3=>?_⟩)
 refine Bl (Rm 16 (((tat t c.path).isSome)&&((xat t c.path).dir)) [2,3,4,6,7] ?_ ?_)
 refine An0 2 [(18,.bool ((tat t c.path).isSome)),(17,.bool ((tat t c.path).isSome))] (Rg (fun hg5 g5=>?_) (fun hg5 g5=>?_))
 refine Mn1 ((xat t c.path).dir) (((1:Nat)≠0)/\(0+1<=5/\0<5)/\·) ⟨dc,dc,(by rw[hg5];rfl)⟩
 refine Mn0 false (by rw[hg5];rfl)
 refine Cc (((tat t c.path).isSome)&&((xat t c.path).dir)) (fun hc6 c6=>?_) fun hc6 c6=>?_
 refine Rr (Fn3 [4] [(5,.i 4)] (Hw [(8,tcs t)] [] ·) 16 ((0+5<=5/\0<5)/\(true=true/\5=5/\0+5<=5)/\·) ⟨dc,dc,Rt1 ((0+5<=5/\0<5)/\·) (.tup [.agg (tcs t),.i 4]) ⟨dc,?_⟩⟩)
 · have e:sFile t c=(t,4):=by
     unfold sFile;(try rw[hc6]);(try simp only[cond_true,cond_false])
     try first|rfl|(simp only[sFile,wData,fits];done)|(simp only[sFile,wData,fits];rfl)
   refine fin_lea ?_
   rw[e];exact lea_refl _
 refine Rm 23 ((!((tat t c.path).isSome))&&(decide ((c.kind:Int)=(3:Int)))) [2,3,4,6] ?_ ?_
 refine An0 3 [(26,.bool (!((tat t c.path).isSome))),(25,.bool (!((tat t c.path).isSome))),(24,.bool ((tat t c.path).isSome))] (Rg (fun hg9 g9=>?_) (fun hg9 g9=>?_))
 refine Mn1 (decide ((c.kind:Int)=(3:Int))) (((1:Nat)≠0)/\(0+1<=5/\0<5)/\Ki/\·) ⟨dc,dc,rfl,(by rw[hg9];rfl)⟩
 refine Mn0 false (by rw[hg9];rfl)
 refine Cc ((!((tat t c.path).isSome))&&(decide ((c.kind:Int)=(3:Int)))) (fun hc10 c10=>?_) fun hc10 c10=>?_
 refine Rr (Fn3 [4] [(5,.i 3)] (Hw [(8,tcs t)] [] ·) 16 ((0+5<=5/\0<5)/\(true=true/\5=5/\0+5<=5)/\·) ⟨dc,dc,Rt1 ((0+5<=5/\0<5)/\·) (.tup [.agg (tcs t),.i 3]) ⟨dc,?_⟩⟩)
 · have e:sFile t c=(t,3):=by
     unfold sFile;(try rw[hc6]);(try simp only[cond_true,cond_false]);(try rw[hc10]);(try simp only[cond_true,cond_false])
     try first|rfl|(simp only[sFile,wData,fits];done)|(simp only[sFile,wData,fits];rfl)
   refine fin_lea ?_
   rw[e];exact lea_refl _
 refine Sk (Bn (Jn (hK3 (Kp [2,3,4,6] (Sq fun K12 hK12=>?_)))))
 refine Rr (Cn1 (decide ((c.kind:Int)=(3:Int))) [2,3,4,6] [] (((1:Nat)≠0)/\(0+1<=5/\0<5)/\Ki/\·) ⟨dc,dc,rfl,fun hc14 c14=>?_,fun hc14 c14=>?_⟩)
 refine Rr (Fn1 [2,3,4,6] [(8,.str ((xat t c.path).data))] (((1:Nat)≠0)/\(2+1<=5/\2<5)/\·) ⟨dc,dc,Sq fun K16 hK16=>?_⟩)
 refine Rr (Cn1 (decide ((c.at_:Int)<((((xat t c.path).data).length:Int):Int))) [2,3,4,6,8] [] (((1:Nat)≠0)/\(3+1<=5/\3<5)/\Ki/\·) ⟨dc,dc,rfl,fun hc18 c18=>?_,fun hc18 c18=>?_⟩)
 refine Rb (fun h=>Jn (hK16 h)) (Fn1 [2,3,4,6] [(8,.str (((xat t c.path).data).take c.at_.toNat))] (((1:Nat)≠0)/\(3+1<=5/\3<5)/\(0<=(0:Int)/\(0:Int)<=c.at_/\c.at_<=(((xat t c.path).data).length:Int))/\·) ⟨dc,dc,⟨om,om,om⟩,Rb (fun h=>Jn (hK12 h)) (Bc1 4 [(48,.i c.at_),(47,.ptr 4 3),(46,.str (((xat t c.path).data).take c.at_.toNat))] 137 [.str (((xat t c.path).data).take c.at_.toNat),.i c.at_,.str []] 49 (((1:Nat)≠0)/\(3+1<=5/\3<5)/\·) ⟨dc,dc,PE.use (l2Write_i (((xat t c.path).data).take c.at_.toNat) c.at_ [] om om (by first|omega|(simp;omega)) (by first|omega|simp)) ?_⟩)⟩)
 refine Ke (Fn3 [2,3,4,6] [] (Hw [(12,[.bool ((xat t c.path).dir),.i ((xat t c.path).mode),.str (l2w (((xat t c.path).data).take c.at_.toNat) c.at_.toNat []),pth ((xat t c.path).names),.sl 5 (((xat t c.path).kids).map trc)])] [] ·) 16 (((1:Nat)≠0)/\(true=true/\1=1/\2+1<=5)/\·) ⟨dc,dc,Qr [0,0,2,0,15,0,63,127,127,511,1023] [(0,[]),(1,[]),(2,[]),(3,[]),(5,[]),(4,[5]),(6,[]),(7,[]),(8,[]),(9,[]),(10,[])] (qBc1 6 [(72,.agg (tcs t)),(70,.agg [.bool ((xat t c.path).dir),.i ((xat t c.path).mode),.str (l2w (((xat t c.path).data).take c.at_.toNat) c.at_.toNat []),pth ((xat t c.path).names),.sl 5 (((xat t c.path).kids).map trc)]),(69,pth c.path),(68,.ptr 4 1),(67,.agg (tcs t))] [5] 110 [.agg (tcs t),pth c.path,.agg [.bool ((xat t c.path).dir),.i ((xat t c.path).mode),.str (l2w (((xat t c.path).data).take c.at_.toNat) c.at_.toNat []),pth ((xat t c.path).names),.sl 5 (((xat t c.path).kids).map trc)],.bool false] 71 ((0+5<=5/\0<5)/\((1:Nat)≠0)/\(1+1<=5/\1<5)/\(0+5<=5/\0<5)/\(0+5<=5/\0<5)/\·) ⟨dc,dc,dc,dc,dc,?_⟩)⟩)
 have hX:((Tr.mk ((xat t c.path).dir) ((xat t c.path).mode) (l2w (((xat t c.path).data).take c.at_.toNat) c.at_.toNat []) ((xat t c.path).names) ((xat t c.path).kids))).W<2^30:=by rw[W_eq];simp only[Tr.data_mk,Tr.names_mk,Tr.kids_mk,l2w_len,List.length_take,List.length_nil];rw[W_eq (xat t c.path)]at hxw hxd;omega
 have hB:=W_tset_lt (g:=false) hw hX h1
 refine TCall_le [.agg (tcs t),pth c.path,.agg (tcs (Tr.mk ((xat t c.path).dir) ((xat t c.path).mode) (l2w (((xat t c.path).data).take c.at_.toNat) c.at_.toNat []) ((xat t c.path).names) ((xat t c.path).kids))),.bool false] (by simp[lea,leas,pth,Tr.none,tcs,clc]) ?_
 refine PE.use (l2Set_ok _ c.path t (Tr.mk ((xat t c.path).dir) ((xat t c.path).mode) (l2w (((xat t c.path).data).take c.at_.toNat) c.at_.toNat []) ((xat t c.path).names) ((xat t c.path).kids)) false rfl om (by assumption) om om) ?_
 refine Kq (p:=(((0+5<=5/\0<5)/\(AV.agg (tcs t)=(.agg (tcs t):AV)))/\True)) ⟨⟨dc,rfl⟩,trivial⟩ ?_
 refine qBc0 1 [] [] 109 [.agg (tcs (tset c.path t (Tr.mk ((xat t c.path).dir) ((xat t c.path).mode) (l2w (((xat t c.path).data).take c.at_.toNat) c.at_.toNat []) ((xat t c.path).names) ((xat t c.path).kids)) false)),.agg (tcs t)] 73 ?_
 refine PE.use (l2Fits_c (tset c.path t (Tr.mk ((xat t c.path).dir) ((xat t c.path).mode) (l2w (((xat t c.path).data).take c.at_.toNat) c.at_.toNat []) ((xat t c.path).names) ((xat t c.path).kids)) false) t om) ?_
 refine Kq (p:=(True)) trivial ?_
 refine qFn3 [4] [(5,.i (if treeOk (tset c.path t (Tr.mk ((xat t c.path).dir) ((xat t c.path).mode) (l2w (((xat t c.path).data).take c.at_.toNat) c.at_.toNat []) ((xat t c.path).names) ((xat t c.path).kids)) false)then 0 else 6))] (Hw [(8,tcs (if treeOk (tset c.path t (Tr.mk ((xat t c.path).dir) ((xat t c.path).mode) (l2w (((xat t c.path).data).take c.at_.toNat) c.at_.toNat []) ((xat t c.path).names) ((xat t c.path).kids)) false)then(tset c.path t (Tr.mk ((xat t c.path).dir) ((xat t c.path).mode) (l2w (((xat t c.path).data).take c.at_.toNat) c.at_.toNat []) ((xat t c.path).names) ((xat t c.path).kids)) false)else t))] [] ·) 16 ((0<2)/\(1<2)/\(true=true/\5=5/\0+5<=5)/\(True)/\·) ⟨dc,dc,dc,trivial,Rt1 ((0+5<=5/\0<5)/\·) (.tup [.agg (tcs (if treeOk (tset c.path t (Tr.mk ((xat t c.path).dir) ((xat t c.path).mode) (l2w (((xat t c.path).data).take c.at_.toNat) c.at_.toNat []) ((xat t c.path).names) ((xat t c.path).kids)) false)then(tset c.path t (Tr.mk ((xat t c.path).dir) ((xat t c.path).mode) (l2w (((xat t c.path).data).take c.at_.toNat) c.at_.toNat []) ((xat t c.path).names) ((xat t c.path).kids)) false)else t)),.i (if treeOk (tset c.path t (Tr.mk ((xat t c.path).dir) ((xat t c.path).mode) (l2w (((xat t c.path).data).take c.at_.toNat) c.at_.toNat []) ((xat t c.path).names) ((xat t c.path).kids)) false)then 0 else 6)]) ⟨dc,?_⟩⟩
 · have e:sFile t c=((if treeOk (tset c.path t (Tr.mk ((xat t c.path).dir) ((xat t c.path).mode) (l2w (((xat t c.path).data).take c.at_.toNat) c.at_.toNat []) ((xat t c.path).names) ((xat t c.path).kids)) false)then(tset c.path t (Tr.mk ((xat t c.path).dir) ((xat t c.path).mode) (l2w (((xat t c.path).data).take c.at_.toNat) c.at_.toNat []) ((xat t c.path).names) ((xat t c.path).kids)) false)else t),(if treeOk (tset c.path t (Tr.mk ((xat t c.path).dir) ((xat t c.path).mode) (l2w (((xat t c.path).data).take c.at_.toNat) c.at_.toNat []) ((xat t c.path).names) ((xat t c.path).kids)) false)then 0 else 6)):=by
     unfold sFile;(try rw[hc6]);(try simp only[cond_true,cond_false]);(try rw[hc10]);(try simp only[cond_true,cond_false]);(try rw[hc14]);(try simp only[cond_true,cond_false]);(try rw[hc18]);(try simp only[cond_true,cond_false])
     try first|rfl|(simp only[sFile,wData,fits];done)|(simp only[sFile,wData,fits];rfl)
   refine fin_lea ?_
   rw[e];exact lea_refl _
 refine Sk (Jn (hK16 (Kp [2,3,4,6,8] (Rb (fun h=>Jn (hK12 h)) (Bc1 4 [(48,.i c.at_),(47,.ptr 4 3),(46,.str ((xat t c.path).data))] 137 [.str ((xat t c.path).data),.i c.at_,.str []] 49 (((1:Nat)≠0)/\(3+1<=5/\3<5)/\·) ⟨dc,dc,PE.use (l2Write_i ((xat t c.path).data) c.at_ [] om om (by first|omega|(simp;omega)) (by first|omega|simp)) (Ke ?_)⟩)))))
 refine Fn3 [2,3,4,6] [] (Hw [(12,[.bool ((xat t c.path).dir),.i ((xat t c.path).mode),.str (l2w ((xat t c.path).data) c.at_.toNat []),pth ((xat t c.path).names),.sl 5 (((xat t c.path).kids).map trc)])] [] ·) 16 (((1:Nat)≠0)/\(true=true/\1=1/\2+1<=5)/\·) ⟨dc,dc,Qr [0,0,2,0,15,0,63,127,127,511,1023] [(0,[]),(1,[]),(2,[]),(3,[]),(5,[]),(4,[5]),(6,[]),(7,[]),(8,[]),(9,[]),(10,[])] (qBc1 6 [(72,.agg (tcs t)),(70,.agg [.bool ((xat t c.path).dir),.i ((xat t c.path).mode),.str (l2w ((xat t c.path).data) c.at_.toNat []),pth ((xat t c.path).names),.sl 5 (((xat t c.path).kids).map trc)]),(69,pth c.path),(68,.ptr 4 1),(67,.agg (tcs t))] [5] 110 [.agg (tcs t),pth c.path,.agg [.bool ((xat t c.path).dir),.i ((xat t c.path).mode),.str (l2w ((xat t c.path).data) c.at_.toNat []),pth ((xat t c.path).names),.sl 5 (((xat t c.path).kids).map trc)],.bool false] 71 ((0+5<=5/\0<5)/\((1:Nat)≠0)/\(1+1<=5/\1<5)/\(0+5<=5/\0<5)/\(0+5<=5/\0<5)/\·) ⟨dc,dc,dc,dc,dc,?_⟩)⟩
 have hX:((Tr.mk ((xat t c.path).dir) ((xat t c.path).mode) (l2w ((xat t c.path).data) c.at_.toNat []) ((xat t c.path).names) ((xat t c.path).kids))).W<2^30:=by rw[W_eq];simp only[Tr.data_mk,Tr.names_mk,Tr.kids_mk,l2w_len,List.length_take,List.length_nil];rw[W_eq (xat t c.path)]at hxw hxd;omega
 have hB:=W_tset_lt (g:=false) hw hX h1
 refine TCall_le [.agg (tcs t),pth c.path,.agg (tcs (Tr.mk ((xat t c.path).dir) ((xat t c.path).mode) (l2w ((xat t c.path).data) c.at_.toNat []) ((xat t c.path).names) ((xat t c.path).kids))),.bool false] (by simp[lea,leas,pth,Tr.none,tcs,clc]) ?_
 refine PE.use (l2Set_ok _ c.path t (Tr.mk ((xat t c.path).dir) ((xat t c.path).mode) (l2w ((xat t c.path).data) c.at_.toNat []) ((xat t c.path).names) ((xat t c.path).kids)) false rfl om (by assumption) om om) ?_
 refine Kq (p:=(((0+5<=5/\0<5)/\(AV.agg (tcs t)=(.agg (tcs t):AV)))/\True)) ⟨⟨dc,rfl⟩,trivial⟩ ?_
 refine qBc0 1 [] [] 109 [.agg (tcs (tset c.path t (Tr.mk ((xat t c.path).dir) ((xat t c.path).mode) (l2w ((xat t c.path).data) c.at_.toNat []) ((xat t c.path).names) ((xat t c.path).kids)) false)),.agg (tcs t)] 73 ?_
 refine PE.use (l2Fits_c (tset c.path t (Tr.mk ((xat t c.path).dir) ((xat t c.path).mode) (l2w ((xat t c.path).data) c.at_.toNat []) ((xat t c.path).names) ((xat t c.path).kids)) false) t om) ?_
 refine Kq (p:=(True)) trivial ?_
 refine qFn3 [4] [(5,.i (if treeOk (tset c.path t (Tr.mk ((xat t c.path).dir) ((xat t c.path).mode) (l2w ((xat t c.path).data) c.at_.toNat []) ((xat t c.path).names) ((xat t c.path).kids)) false)then 0 else 6))] (Hw [(8,tcs (if treeOk (tset c.path t (Tr.mk ((xat t c.path).dir) ((xat t c.path).mode) (l2w ((xat t c.path).data) c.at_.toNat []) ((xat t c.path).names) ((xat t c.path).kids)) false)then(tset c.path t (Tr.mk ((xat t c.path).dir) ((xat t c.path).mode) (l2w ((xat t c.path).data) c.at_.toNat []) ((xat t c.path).names) ((xat t c.path).kids)) false)else t))] [] ·) 16 ((0<2)/\(1<2)/\(true=true/\5=5/\0+5<=5)/\(True)/\·) ⟨dc,dc,dc,trivial,Rt1 ((0+5<=5/\0<5)/\·) (.tup [.agg (tcs (if treeOk (tset c.path t (Tr.mk ((xat t c.path).dir) ((xat t c.path).mode) (l2w ((xat t c.path).data) c.at_.toNat []) ((xat t c.path).names) ((xat t c.path).kids)) false)then(tset c.path t (Tr.mk ((xat t c.path).dir) ((xat t c.path).mode) (l2w ((xat t c.path).data) c.at_.toNat []) ((xat t c.path).names) ((xat t c.path).kids)) false)else t)),.i (if treeOk (tset c.path t (Tr.mk ((xat t c.path).dir) ((xat t c.path).mode) (l2w ((xat t c.path).data) c.at_.toNat []) ((xat t c.path).names) ((xat t c.path).kids)) false)then 0 else 6)]) ⟨dc,?_⟩⟩
 · have e:sFile t c=((if treeOk (tset c.path t (Tr.mk ((xat t c.path).dir) ((xat t c.path).mode) (l2w ((xat t c.path).data) c.at_.toNat []) ((xat t c.path).names) ((xat t c.path).kids)) false)then(tset c.path t (Tr.mk ((xat t c.path).dir) ((xat t c.path).mode) (l2w ((xat t c.path).data) c.at_.toNat []) ((xat t c.path).names) ((xat t c.path).kids)) false)else t),(if treeOk (tset c.path t (Tr.mk ((xat t c.path).dir) ((xat t c.path).mode) (l2w ((xat t c.path).data) c.at_.toNat []) ((xat t c.path).names) ((xat t c.path).kids)) false)then 0 else 6)):=by
     unfold sFile;(try rw[hc6]);(try simp only[cond_true,cond_false]);(try rw[hc10]);(try simp only[cond_true,cond_false]);(try rw[hc14]);(try simp only[cond_true,cond_false]);(try rw[hc18]);(try simp only[cond_true,cond_false])
     try first|rfl|(simp only[sFile,wData,fits];done)|(simp only[sFile,wData,fits];rfl)
   refine fin_lea ?_
   rw[e];exact lea_refl _
 refine Rr (Av1 (r:=.i (IntKind.i64.wrap ((c.data.length:Int)+c.at_))) (v:=.i ((c.data.length:Int)+c.at_)) 6 56 [(55,.i c.at_),(54,.ptr 4 3),(53,.i c.data.length),(52,.str c.data),(51,.ptr 4 4)] (cI (wrap64 om om)) (((1:Nat)≠0)/\(4+1<=5/\4<5)/\((1:Nat)≠0)/\(3+1<=5/\3<5)/\Ki/\·) ⟨dc,dc,dc,dc,rfl,Cn1 (decide ((24:Int)<(((c.data.length:Int)+c.at_):Int))) [2,3,4,6] [] (Ki/\·) ⟨rfl,fun hc22 c22=>?_,fun hc22 c22=>?_⟩⟩)
 refine Rr (Fn3 [4] [(5,.i 6)] (Hw [(8,tcs t)] [] ·) 16 ((0+5<=5/\0<5)/\(true=true/\5=5/\0+5<=5)/\·) ⟨dc,dc,Rt1 ((0+5<=5/\0<5)/\·) (.tup [.agg (tcs t),.i 6]) ⟨dc,?_⟩⟩)
 · have e:sFile t c=(t,6):=by
     unfold sFile;(try rw[hc6]);(try simp only[cond_true,cond_false]);(try rw[hc10]);(try simp only[cond_true,cond_false]);(try rw[hc14]);(try simp only[cond_true,cond_false]);(try rw[hc22]);(try simp only[cond_true,cond_false])
     try first|rfl|(simp only[sFile,wData,fits];done)|(simp only[sFile,wData,fits];rfl)
   refine fin_lea ?_
   rw[e];exact lea_refl _
 refine Rb (fun h=>Jn (hK12 h)) (Bc1 7 [(64,.str c.data),(63,.ptr 4 4),(62,.i c.at_),(61,.ptr 4 3),(60,.str ((xat t c.path).data)),(59,.ptr 12 2)] 137 [.str ((xat t c.path).data),.i c.at_,.str c.data] 65 (((1:Nat)≠0)/\(2+1<=5/\2<5)/\((1:Nat)≠0)/\(3+1<=5/\3<5)/\((1:Nat)≠0)/\(4+1<=5/\4<5)/\·) ⟨dc,dc,dc,dc,dc,dc,PE.use (l2Write_i ((xat t c.path).data) c.at_ c.data om om (by first|omega|(simp;omega)) (by first|omega|simp)) (Ke (Fn3 [2,3,4,6] [] (Hw [(12,[.bool ((xat t c.path).dir),.i ((xat t c.path).mode),.str (l2w ((xat t c.path).data) c.at_.toNat c.data),pth ((xat t c.path).names),.sl 5 (((xat t c.path).kids).map trc)])] [] ·) 16 (((1:Nat)≠0)/\(true=true/\1=1/\2+1<=5)/\·) ⟨dc,dc,?_⟩))⟩)
 refine Qr [0,0,2,0,15,0,63,127,127,511,1023] [(0,[]),(1,[]),(2,[]),(3,[]),(5,[]),(4,[5]),(6,[]),(7,[]),(8,[]),(9,[]),(10,[])] (qBc1 6 [(72,.agg (tcs t)),(70,.agg [.bool ((xat t c.path).dir),.i ((xat t c.path).mode),.str (l2w ((xat t c.path).data) c.at_.toNat c.data),pth ((xat t c.path).names),.sl 5 (((xat t c.path).kids).map trc)]),(69,pth c.path),(68,.ptr 4 1),(67,.agg (tcs t))] [5] 110 [.agg (tcs t),pth c.path,.agg [.bool ((xat t c.path).dir),.i ((xat t c.path).mode),.str (l2w ((xat t c.path).data) c.at_.toNat c.data),pth ((xat t c.path).names),.sl 5 (((xat t c.path).kids).map trc)],.bool false] 71 ((0+5<=5/\0<5)/\((1:Nat)≠0)/\(1+1<=5/\1<5)/\(0+5<=5/\0<5)/\(0+5<=5/\0<5)/\·) ⟨dc,dc,dc,dc,dc,?_⟩)
 have hX:((Tr.mk ((xat t c.path).dir) ((xat t c.path).mode) (l2w ((xat t c.path).data) c.at_.toNat c.data) ((xat t c.path).names) ((xat t c.path).kids))).W<2^30:=by rw[W_eq];simp only[Tr.data_mk,Tr.names_mk,Tr.kids_mk,l2w_len,List.length_take,List.length_nil];rw[W_eq (xat t c.path)]at hxw hxd;omega
 have hB:=W_tset_lt (g:=false) hw hX h1
 refine TCall_le [.agg (tcs t),pth c.path,.agg (tcs (Tr.mk ((xat t c.path).dir) ((xat t c.path).mode) (l2w ((xat t c.path).data) c.at_.toNat c.data) ((xat t c.path).names) ((xat t c.path).kids))),.bool false] (by simp[lea,leas,pth,Tr.none,tcs,clc]) ?_
 refine PE.use (l2Set_ok _ c.path t (Tr.mk ((xat t c.path).dir) ((xat t c.path).mode) (l2w ((xat t c.path).data) c.at_.toNat c.data) ((xat t c.path).names) ((xat t c.path).kids)) false rfl om (by assumption) om om) ?_
 refine Kq (p:=(((0+5<=5/\0<5)/\(AV.agg (tcs t)=(.agg (tcs t):AV)))/\True)) ⟨⟨dc,rfl⟩,trivial⟩ ?_
 refine qBc0 1 [] [] 109 [.agg (tcs (tset c.path t (Tr.mk ((xat t c.path).dir) ((xat t c.path).mode) (l2w ((xat t c.path).data) c.at_.toNat c.data) ((xat t c.path).names) ((xat t c.path).kids)) false)),.agg (tcs t)] 73 ?_
 refine PE.use (l2Fits_c (tset c.path t (Tr.mk ((xat t c.path).dir) ((xat t c.path).mode) (l2w ((xat t c.path).data) c.at_.toNat c.data) ((xat t c.path).names) ((xat t c.path).kids)) false) t om) ?_
 refine Kq (p:=(True)) trivial ?_
 refine qFn3 [4] [(5,.i (if treeOk (tset c.path t (Tr.mk ((xat t c.path).dir) ((xat t c.path).mode) (l2w ((xat t c.path).data) c.at_.toNat c.data) ((xat t c.path).names) ((xat t c.path).kids)) false)then 0 else 6))] (Hw [(8,tcs (if treeOk (tset c.path t (Tr.mk ((xat t c.path).dir) ((xat t c.path).mode) (l2w ((xat t c.path).data) c.at_.toNat c.data) ((xat t c.path).names) ((xat t c.path).kids)) false)then(tset c.path t (Tr.mk ((xat t c.path).dir) ((xat t c.path).mode) (l2w ((xat t c.path).data) c.at_.toNat c.data) ((xat t c.path).names) ((xat t c.path).kids)) false)else t))] [] ·) 16 ((0<2)/\(1<2)/\(true=true/\5=5/\0+5<=5)/\(True)/\·) ⟨dc,dc,dc,trivial,Rt1 ((0+5<=5/\0<5)/\·) (.tup [.agg (tcs (if treeOk (tset c.path t (Tr.mk ((xat t c.path).dir) ((xat t c.path).mode) (l2w ((xat t c.path).data) c.at_.toNat c.data) ((xat t c.path).names) ((xat t c.path).kids)) false)then(tset c.path t (Tr.mk ((xat t c.path).dir) ((xat t c.path).mode) (l2w ((xat t c.path).data) c.at_.toNat c.data) ((xat t c.path).names) ((xat t c.path).kids)) false)else t)),.i (if treeOk (tset c.path t (Tr.mk ((xat t c.path).dir) ((xat t c.path).mode) (l2w ((xat t c.path).data) c.at_.toNat c.data) ((xat t c.path).names) ((xat t c.path).kids)) false)then 0 else 6)]) ⟨dc,?_⟩⟩
 · have e:sFile t c=((if treeOk (tset c.path t (Tr.mk ((xat t c.path).dir) ((xat t c.path).mode) (l2w ((xat t c.path).data) c.at_.toNat c.data) ((xat t c.path).names) ((xat t c.path).kids)) false)then(tset c.path t (Tr.mk ((xat t c.path).dir) ((xat t c.path).mode) (l2w ((xat t c.path).data) c.at_.toNat c.data) ((xat t c.path).names) ((xat t c.path).kids)) false)else t),(if treeOk (tset c.path t (Tr.mk ((xat t c.path).dir) ((xat t c.path).mode) (l2w ((xat t c.path).data) c.at_.toNat c.data) ((xat t c.path).names) ((xat t c.path).kids)) false)then 0 else 6)):=by
     unfold sFile;(try rw[hc6]);(try simp only[cond_true,cond_false]);(try rw[hc10]);(try simp only[cond_true,cond_false]);(try rw[hc14]);(try simp only[cond_true,cond_false]);(try rw[hc22]);(try simp only[cond_true,cond_false])
     try first|rfl|(simp only[sFile,wData,fits];done)|(simp only[sFile,wData,fits];rfl)
   refine fin_lea ?_
   rw[e];exact lea_refl _
theorem l2Rename_ok (t:Tr) (c:Cl) (hw:t.W<2^12) (hwf:t.wf=true) (h1:wS c.path<2^10) (h2:wS c.to<2^40) (h3:c.data.length<2^21) (h4:0<c.path.length) (h5:0<c.to.length) (h7:wS c.to<2^10):PE G 112 [.agg (tcs t),.agg (clc c)] (.tup [.agg (tcs (sRename t c).1),.i (sRename t c).2]):=by
 have hl1:=wS_len c.path;have hl2:=wS_len c.to;have hxw:=W_xat t c.path;have hxd:=data_W (xat t c.path);have hxf:=xat_wf hwf c.path
 refine Pe Tryz.func112 ?_
 refine Rr (Fn2 [] [(4,.ptr 8 0),(3,.ptr 4 0),(2,.ptr 0 0)] ([(8,zt),(4,clc c),(0,tcs t)]++·) 12 (Rr (Bc1 4 [(14,pth c.path),(13,.ptr 4 1),(12,.agg (tcs t))] 91 [.agg (tcs t),pth c.path] 15 ((0+5<=5/\0<5)/\((1:Nat)≠0)/\(1+1<=5/\1<5)/\·) ⟨dc,dc,dc,PE.use (l1At_c c.path t om (by assumption) om) ?_⟩)))
 refine Ke (Fn3 [2,3,4] [(7,.bool ((tat t c.path).isSome)),(6,.ptr 12 0)] ([(12,tcs (xat t c.path))]++·) 16 ((0<2)/\(1<2)/\(true=true/\5=5/\0+5<=5)/\·) ⟨dc,dc,dc,Sq fun K3 hK3=>?_⟩)
 refine Rr (Cn0 (!((tat t c.path).isSome)) [2,3,4,6] [] ⟨fun hc5 c5=>?_,fun hc5 c5=>?_⟩)
 refine Rr (Fn3 [4] [(5,.i 3)] (Hw [(8,tcs t)] [] ·) 16 ((0+5<=5/\0<5)/\(true=true/\5=5/\0+5<=5)/\·) ⟨dc,dc,Rt1 ((0+5<=5/\0<5)/\·) (.tup [.agg (tcs t),.i 3]) ⟨dc,?_⟩⟩)
 · have e:sRename t c=(t,3):=by
     unfold sRename;(try rw[hc5]);(try simp only[cond_true,cond_false])
     try first|rfl|(simp only[sRename,Tr.none,fits];done)|(simp only[sRename,Tr.none,fits];rfl)
   refine fin_lea ?_
   rw[e];exact lea_refl _
 refine Sk (Jn (hK3 (Kp [2,3,4,6] (Sq fun K7 hK7=>?_))))
 refine Rr (Bc1 5 [(24,pth c.path),(23,.ptr 4 1),(22,pth c.to),(21,.ptr 4 2)] 73 [pth c.to,pth c.path] 25 (((1:Nat)≠0)/\(2+1<=5/\2<5)/\((1:Nat)≠0)/\(1+1<=5/\1<5)/\·) ⟨dc,dc,dc,dc,PE.use (l2Within_ok c.to c.path om om) (Ke (Cn0 (c.path.isPrefixOf c.to) [2,3,4,6] [] ⟨fun hc9 c9=>?_,fun hc9 c9=>?_⟩))⟩)
 refine Rr (Fn3 [4] [(5,.i 7)] (Hw [(8,tcs t)] [] ·) 16 ((0+5<=5/\0<5)/\(true=true/\5=5/\0+5<=5)/\·) ⟨dc,dc,Rt1 ((0+5<=5/\0<5)/\·) (.tup [.agg (tcs t),.i 7]) ⟨dc,?_⟩⟩)
 · have e:sRename t c=(t,7):=by
     unfold sRename;(try rw[hc5]);(try simp only[cond_true,cond_false]);(try rw[hc9]);(try simp only[cond_true,cond_false])
     try first|rfl|(simp only[sRename,Tr.none,fits];done)|(simp only[sRename,Tr.none,fits];rfl)
   refine fin_lea ?_
   rw[e];exact lea_refl _
 refine Sk (Jn (hK7 (Kp [2,3,4,6] (Rr (Bc1 4 [(29,pth c.to),(28,.ptr 4 2),(27,.agg (tcs t))] 108 [.agg (tcs t),pth c.to] 30 ((0+5<=5/\0<5)/\((1:Nat)≠0)/\(2+1<=5/\2<5)/\·) ⟨dc,dc,dc,PE.use (l2Parent_c t c.to om (by assumption) om om) (Ke ?_)⟩)))))
 refine Fn0 [2,3,4,6] [(8,.i (parC t c.to))] (Sq fun K12 hK12=>?_)
 refine Rr (Cn1 (!decide ((parC t c.to:Int)=(0:Int))) [2,3,4,6,8] [] (Ki/\·) ⟨rfl,fun hc14 c14=>?_,fun hc14 c14=>?_⟩)
 refine Rr (Fn3 [4] [(5,.i (parC t c.to))] (Hw [(8,tcs t)] [] ·) 16 ((0+5<=5/\0<5)/\(true=true/\5=5/\0+5<=5)/\·) ⟨dc,dc,Rt1 ((0+5<=5/\0<5)/\·) (.tup [.agg (tcs t),.i (parC t c.to)]) ⟨dc,?_⟩⟩)
 · have e:sRename t c=(t,parC t c.to):=by
     unfold sRename;(try rw[hc5]);(try simp only[cond_true,cond_false]);(try rw[hc9]);(try simp only[cond_true,cond_false]);(try rw[hc14]);(try simp only[cond_true,cond_false])
     try first|rfl|(simp only[sRename,Tr.none,fits];done)|(simp only[sRename,Tr.none,fits];rfl)
   refine fin_lea ?_
   rw[e];exact lea_refl _
 refine Sk (Jn (hK12 (Kp [2,3,4,6] (Rr (Bc1 4 [(38,pth c.to),(37,.ptr 4 2),(36,.agg (tcs t))] 91 [.agg (tcs t),pth c.to] 39 ((0+5<=5/\0<5)/\((1:Nat)≠0)/\(2+1<=5/\2<5)/\·) ⟨dc,dc,dc,PE.use (l1At_c c.to t om (by assumption) om) (Ke ?_)⟩)))))
 refine Fn3 [2,3,4,6] [(10,.bool ((tat t c.to).isSome))] ([(16,tcs (xat t c.to))]++·) 20 ((0<2)/\(1<2)/\(true=true/\5=5/\0+5<=5)/\·) ⟨dc,dc,dc,Sq fun K17 hK17=>?_⟩
 refine Rr (Cn0 ((tat t c.to).isSome) [2,3,4,6] [] ⟨fun hc19 c19=>?_,fun hc19 c19=>?_⟩)
 refine Rr (Fn3 [4] [(5,.i 5)] (Hw [(8,tcs t)] [] ·) 20 ((0+5<=5/\0<5)/\(true=true/\5=5/\0+5<=5)/\·) ⟨dc,dc,Rt1 ((0+5<=5/\0<5)/\·) (.tup [.agg (tcs t),.i 5]) ⟨dc,?_⟩⟩)
 · have e:sRename t c=(t,5):=by
     unfold sRename;(try rw[hc5]);(try simp only[cond_true,cond_false]);(try rw[hc9]);(try simp only[cond_true,cond_false]);(try rw[hc14]);(try simp only[cond_true,cond_false]);(try rw[hc19]);(try simp only[cond_true,cond_false])
     try first|rfl|(simp only[sRename,Tr.none,fits];done)|(simp only[sRename,Tr.none,fits];rfl)
   refine fin_lea ?_
   rw[e];exact lea_refl _
 refine Sk (Jn (hK17 (Kp [2,3,4,6] (Qr [0,0,2,0,15,0,32,0,255,0,1023,2047,2047,8191,16383] [(0,[]),(1,[]),(2,[]),(3,[]),(5,[]),(6,[]),(7,[]),(9,[]),(4,[6,7,9]),(8,[9]),(10,[]),(11,[]),(12,[]),(13,[]),(14,[])] (qBc1 9 [(53,.agg (tcs t)),(51,.agg (tcs (xat t c.path))),(50,pth c.to),(49,.ptr 4 2),(47,.agg zt),(46,pth c.path),(45,.ptr 4 1),(44,.agg (tcs t))] [6,7,9] 110 [.agg (tcs t),pth c.path,.agg zt,.bool true] 48 ((0+5<=5/\0<5)/\((1:Nat)≠0)/\(1+1<=5/\1<5)/\((1:Nat)≠0)/\(2+1<=5/\2<5)/\(0+5<=5/\0<5)/\(0+5<=5/\0<5)/\·) ⟨dc,dc,dc,dc,dc,dc,dc,?_⟩)))))
 have hn:(Tr.mk false 0 [] [] []).W<2^12:=by simp[Tr.W,wS,Tr.Ws]
 have hB:=W_tset_lt2 (p:=c.path) (g:=true) hw hn h1
 have hBf:(tset c.path t (Tr.mk false 0 [] [] []) true).wf=true:=wf_tset _ _ _ _ hwf rfl
 refine TCall_le [.agg (tcs t),pth c.path,.agg (tcs (Tr.mk false 0 [] [] [])),.bool true] (by simp[lea,leas,pth,Tr.none,tcs,clc]) ?_
 refine PE.use (l2Set_ok _ c.path t (Tr.mk false 0 [] [] []) true rfl om (by assumption) om om) ?_
 refine Kq (p:=(((2+1<=5/\2<5)/\(pth c.to=pth c.to))/\((0+5<=5/\0<5)/\(AV.agg (tcs (xat t c.path))=(.agg (tcs (xat t c.path)):AV)))/\((0+5<=5/\0<5)/\(AV.agg (tcs t)=(.agg (tcs t):AV)))/\True)) ⟨⟨dc,rfl⟩,⟨dc,rfl⟩,⟨dc,rfl⟩,trivial⟩ ?_
 refine qBc0 1 [] [9] 110 [.agg (tcs (tset c.path t (Tr.mk false 0 [] [] []) true)),pth c.to,.agg (tcs (xat t c.path)),.bool false] 52 ?_
 have hB2:=W_tset_lt3 (p:=c.to) (x:=xat t c.path) (g:=false) hB om h7
 refine TCall_le [.agg (tcs (tset c.path t (Tr.mk false 0 [] [] []) true)),pth c.to,.agg (tcs (xat t c.path)),.bool false] (by simp[lea,leas,pth,Tr.none,tcs,clc]) ?_
 refine PE.use (l2Set_ok _ c.to (tset c.path t (Tr.mk false 0 [] [] []) true) (xat t c.path) false rfl om (by assumption) om om) ?_
 refine Kq (p:=(((0+5<=5/\0<5)/\(AV.agg (tcs t)=(.agg (tcs t):AV)))/\True)) ⟨⟨dc,rfl⟩,trivial⟩ ?_
 refine qBc0 1 [] [] 109 [.agg (tcs (tset c.to (tset c.path t (Tr.mk false 0 [] [] []) true) (xat t c.path) false)),.agg (tcs t)] 54 ?_
 refine PE.use (l2Fits_c (tset c.to (tset c.path t (Tr.mk false 0 [] [] []) true) (xat t c.path) false) t om) ?_
 refine Kq (p:=(True)) trivial ?_
 refine qFn3 [4] [(5,.i (if treeOk (tset c.to (tset c.path t (Tr.mk false 0 [] [] []) true) (xat t c.path) false)then 0 else 6))] (Hw [(8,tcs (if treeOk (tset c.to (tset c.path t (Tr.mk false 0 [] [] []) true) (xat t c.path) false)then(tset c.to (tset c.path t (Tr.mk false 0 [] [] []) true) (xat t c.path) false)else t))] [] ·) 20 ((0<2)/\(1<2)/\(true=true/\5=5/\0+5<=5)/\(True)/\·) ⟨dc,dc,dc,trivial,Rt1 ((0+5<=5/\0<5)/\·) (.tup [.agg (tcs (if treeOk (tset c.to (tset c.path t (Tr.mk false 0 [] [] []) true) (xat t c.path) false)then(tset c.to (tset c.path t (Tr.mk false 0 [] [] []) true) (xat t c.path) false)else t)),.i (if treeOk (tset c.to (tset c.path t (Tr.mk false 0 [] [] []) true) (xat t c.path) false)then 0 else 6)]) ⟨dc,?_⟩⟩
 · have e:sRename t c=((if treeOk (tset c.to (tset c.path t (Tr.mk false 0 [] [] []) true) (xat t c.path) false)then(tset c.to (tset c.path t (Tr.mk false 0 [] [] []) true) (xat t c.path) false)else t),(if treeOk (tset c.to (tset c.path t (Tr.mk false 0 [] [] []) true) (xat t c.path) false)then 0 else 6)):=by
     unfold sRename;(try rw[hc5]);(try simp only[cond_true,cond_false]);(try rw[hc9]);(try simp only[cond_true,cond_false]);(try rw[hc14]);(try simp only[cond_true,cond_false]);(try rw[hc19]);(try simp only[cond_true,cond_false])
     try first|rfl|(simp only[sRename,Tr.none,fits];done)|(simp only[sRename,Tr.none,fits];rfl)
   refine fin_lea ?_
   rw[e];exact lea_refl _
theorem l2Do_ok (t:Tr) (c:Cl) (hw:t.W<2^12) (hwf:t.wf=true) (h1:wS c.path<2^10) (h2:wS c.to<2^40) (h3:c.data.length<2^21) (h4:0<c.path.length) (h9:c.kind=2\/c.kind=3->0<=c.at_/\c.at_<=24) (h10:c.kind=5->0<c.to.length/\wS c.to<2^10):PE G 72 [.agg (tcs t),.agg (clc c)] (.tup [.agg (tcs (sDo t c).1),.i (sDo t c).2]):=by
 have hl1:=wS_len c.path;have hl2:=wS_len c.to;have hxw:=W_xat t c.path;have hxd:=data_W (xat t c.path);have hxf:=xat_wf hwf c.path
 refine Pe Tryz.func72 ?_
 refine Rr (Fn2 [] [(4,.ptr 8 0),(3,.ptr 4 0),(2,.ptr 0 0)] ([(8,zt),(4,clc c),(0,tcs t)]++·) 12 (Rr (Bc1 4 [(11,pth c.path),(10,.ptr 4 1),(9,.agg (tcs t))] 108 [.agg (tcs t),pth c.path] 12 ((0+5<=5/\0<5)/\((1:Nat)≠0)/\(1+1<=5/\1<5)/\·) ⟨dc,dc,dc,PE.use (l2Parent_c t c.path om (by assumption) om om) ?_⟩)))
 refine Ke (Fn0 [2,3,4] [(6,.i (parC t c.path))] (Sq fun K3 hK3=>?_))
 refine Rr (Cn1 (!decide ((parC t c.path:Int)=(0:Int))) [2,3,4,6] [] (Ki/\·) ⟨rfl,fun hc5 c5=>?_,fun hc5 c5=>?_⟩)
 refine Rr (Fn3 [4] [(5,.i (parC t c.path))] (Hw [(8,tcs t)] [] ·) 12 ((0+5<=5/\0<5)/\(true=true/\5=5/\0+5<=5)/\·) ⟨dc,dc,Rt1 ((0+5<=5/\0<5)/\·) (.tup [.agg (tcs t),.i (parC t c.path)]) ⟨dc,?_⟩⟩)
 · have e:sDo t c=(t,parC t c.path):=by
     unfold sDo;(try rw[hc5]);(try simp only[cond_true,cond_false])
     try first|rfl|(simp only[sDo,newDir,wMode,Tr.none,fits];done)|(simp only[sDo,newDir,wMode,Tr.none,fits];rfl)
   refine fin_lea ?_
   rw[e];exact lea_refl _
 refine Sk (Jn (hK3 (Kp [2,3,4] (Rr (Bc1 4 [(20,pth c.path),(19,.ptr 4 1),(18,.agg (tcs t))] 91 [.agg (tcs t),pth c.path] 21 ((0+5<=5/\0<5)/\((1:Nat)≠0)/\(1+1<=5/\1<5)/\·) ⟨dc,dc,dc,PE.use (l1At_c c.path t om (by assumption) om) (Ke ?_)⟩)))))
 refine Fn3 [2,3,4] [(8,.bool ((tat t c.path).isSome)),(7,.ptr 12 0)] ([(12,tcs (xat t c.path))]++·) 16 ((0<2)/\(1<2)/\(true=true/\5=5/\0+5<=5)/\·) ⟨dc,dc,dc,Sq fun K8 hK8=>?_⟩
 refine Rr (Fn1 [2,3,4,7,8] [(25,.i c.kind)] (((1:Nat)≠0)/\(0+1<=5/\0<5)/\·) ⟨dc,dc,Bl (Rr (Cn1 (decide ((c.kind:Int)=(1:Int))) [2,3,4,7,8,25] [] (Ki/\·) ⟨rfl,fun hc11 c11=>?_,fun hc11 c11=>?_⟩))⟩)
 refine Sq fun K12 hK12=>?_
 refine Rr (Cn0 ((tat t c.path).isSome) [2,3,4] [] ⟨fun hc14 c14=>?_,fun hc14 c14=>?_⟩)
 refine Rr (Fn3 [4] [(5,.i 5)] (Hw [(8,tcs t)] [] ·) 16 ((0+5<=5/\0<5)/\(true=true/\5=5/\0+5<=5)/\·) ⟨dc,dc,Rt1 ((0+5<=5/\0<5)/\·) (.tup [.agg (tcs t),.i 5]) ⟨dc,?_⟩⟩)
 · have e:sDo t c=(t,5):=by
     unfold sDo;(try rw[hc5]);(try simp only[cond_true,cond_false]);(try rw[hc11]);(try simp only[cond_true,cond_false]);(try rw[hc14]);(try simp only[cond_true,cond_false])
     try first|rfl|(simp only[sDo,newDir,wMode,Tr.none,fits];done)|(simp only[sDo,newDir,wMode,Tr.none,fits];rfl)
   refine fin_lea ?_
   rw[e];exact lea_refl _
 refine Sk (Jn (hK12 (Kp [2,3,4] (Qr [0,0,2,0,8,24,63,0,255,511,511,2047,4095] [(0,[]),(1,[]),(2,[]),(3,[]),(4,[]),(5,[]),(7,[]),(6,[7]),(8,[]),(9,[]),(10,[]),(11,[]),(12,[])] (qBc1 8 [(37,.agg (tcs t)),(35,.agg [.bool true,.i c.at_,.str [],.nils,.nils]),(34,.i c.at_),(33,.ptr 4 3),(32,pth c.path),(31,.ptr 4 1),(30,.agg (tcs t))] [7] 110 [.agg (tcs t),pth c.path,.agg [.bool true,.i c.at_,.str [],.nils,.nils],.bool false] 36 ((0+5<=5/\0<5)/\((1:Nat)≠0)/\(1+1<=5/\1<5)/\((1:Nat)≠0)/\(3+1<=5/\3<5)/\(0+5<=5/\0<5)/\·) ⟨dc,dc,dc,dc,dc,dc,?_⟩)))))
 have hX:((Tr.mk true c.at_ [] [] [])).W<2^12:=by simp only[W_eq (Tr.mk _ _ _ _ _),Tr.data_mk,Tr.names_mk,Tr.kids_mk,wS,Tr.Ws,List.length_nil];rw[W_eq (xat t c.path)]at hxw;omega
 have hB:=W_tset_lt2 (g:=false) hw hX h1
 refine TCall_le [.agg (tcs t),pth c.path,.agg (tcs (Tr.mk true c.at_ [] [] [])),.bool false] (by simp[lea,leas,pth,Tr.none,tcs,clc]) ?_
 refine PE.use (l2Set_ok _ c.path t (Tr.mk true c.at_ [] [] []) false rfl om (by assumption) om om) ?_
 refine Kq (p:=(((0+5<=5/\0<5)/\(AV.agg (tcs t)=(.agg (tcs t):AV)))/\True)) ⟨⟨dc,rfl⟩,trivial⟩ ?_
 refine qBc0 1 [] [] 109 [.agg (tcs (tset c.path t (Tr.mk true c.at_ [] [] []) false)),.agg (tcs t)] 38 ?_
 refine PE.use (l2Fits_c (tset c.path t (Tr.mk true c.at_ [] [] []) false) t om) ?_
 refine Kq (p:=(True)) trivial ?_
 refine qFn3 [4] [(5,.i (if treeOk (tset c.path t (Tr.mk true c.at_ [] [] []) false)then 0 else 6))] (Hw [(8,tcs (if treeOk (tset c.path t (Tr.mk true c.at_ [] [] []) false)then(tset c.path t (Tr.mk true c.at_ [] [] []) false)else t))] [] ·) 16 ((0<2)/\(1<2)/\(true=true/\5=5/\0+5<=5)/\(True)/\·) ⟨dc,dc,dc,trivial,Rt1 ((0+5<=5/\0<5)/\·) (.tup [.agg (tcs (if treeOk (tset c.path t (Tr.mk true c.at_ [] [] []) false)then(tset c.path t (Tr.mk true c.at_ [] [] []) false)else t)),.i (if treeOk (tset c.path t (Tr.mk true c.at_ [] [] []) false)then 0 else 6)]) ⟨dc,?_⟩⟩
 · have e:sDo t c=((if treeOk (tset c.path t (Tr.mk true c.at_ [] [] []) false)then(tset c.path t (Tr.mk true c.at_ [] [] []) false)else t),(if treeOk (tset c.path t (Tr.mk true c.at_ [] [] []) false)then 0 else 6)):=by
     unfold sDo;(try rw[hc5]);(try simp only[cond_true,cond_false]);(try rw[hc11]);(try simp only[cond_true,cond_false]);(try rw[hc14]);(try simp only[cond_true,cond_false])
     try first|rfl|(simp only[sDo,newDir,wMode,Tr.none,fits];done)|(simp only[sDo,newDir,wMode,Tr.none,fits];rfl)
   refine fin_lea ?_
   rw[e];exact lea_refl _
 refine Sq fun K17 hK17=>?_
 refine Rr (Cn1 (decide ((c.kind:Int)=(2:Int))) [2,3,4,7,8,25] [(41,.bool (decide ((c.kind:Int)=(2:Int))))] (Ki/\·) ⟨rfl,fun hc19 c19=>?_,fun hc19 c19=>?_⟩)
 refine Sk (Jn (hK17 (Kp [2,3,4,7,8,25,41] (C1 (t:=decide ((c.kind:Int)=(2:Int))) hc19 (Rr (Bc1 3 [(45,.agg (clc c)),(44,.agg (tcs t))] 111 [.agg (tcs t),.agg (clc c)] 46 ((0+5<=5/\0<5)/\(0+5<=5/\0<5)/\·) ⟨dc,dc,PE.use (l2File_ok t c om (by assumption) om om om om (by have:=h9 (by first|(left;simpa using hc19)|(right;simpa using hc19));omega) (by have:=h9 (by first|(left;simpa using hc19)|(right;simpa using hc19));omega)) ?_⟩))))))
 refine Ke (Fn3 [4] [(5,.i ((sFile t c).2))] (Hw [(8,tcs ((sFile t c).1))] [] ·) 16 ((0<2)/\(1<2)/\(true=true/\5=5/\0+5<=5)/\·) ⟨dc,dc,dc,Rt1 ((0+5<=5/\0<5)/\·) (.tup [.agg (tcs ((sFile t c).1)),.i ((sFile t c).2)]) ⟨dc,?_⟩⟩)
 · have e:sDo t c=(((sFile t c).1),(sFile t c).2):=by
     unfold sDo;(try rw[hc5]);(try simp only[cond_true,cond_false]);(try rw[hc11]);(try simp only[cond_true,cond_false]);(try rw[hc19]);(try simp only[cond_true,cond_false])
     try first|rfl|(simp only[sDo,newDir,wMode,Tr.none,fits];done)|(simp only[sDo,newDir,wMode,Tr.none,fits];rfl)
   refine fin_lea ?_
   rw[e];exact lea_refl _
 refine Rb (fun h=>Jn (hK17 h)) (Fn1 [2,3,4,7,8,25] [(41,.bool (decide ((c.kind:Int)=(3:Int))))] (Ki/\·) ⟨rfl,Cc (decide ((c.kind:Int)=(3:Int))) (fun hc21 c21=>?_) fun hc21 c21=>?_⟩)
 refine Rr (Bc1 3 [(45,.agg (clc c)),(44,.agg (tcs t))] 111 [.agg (tcs t),.agg (clc c)] 46 ((0+5<=5/\0<5)/\(0+5<=5/\0<5)/\·) ⟨dc,dc,PE.use (l2File_ok t c om (by assumption) om om om om (by have:=h9 (by first|(left;simpa using hc21)|(right;simpa using hc21));omega) (by have:=h9 (by first|(left;simpa using hc21)|(right;simpa using hc21));omega)) (Ke (Fn3 [4] [(5,.i ((sFile t c).2))] (Hw [(8,tcs ((sFile t c).1))] [] ·) 16 ((0<2)/\(1<2)/\(true=true/\5=5/\0+5<=5)/\·) ⟨dc,dc,dc,?_⟩))⟩)
 refine Rt1 ((0+5<=5/\0<5)/\·) (.tup [.agg (tcs ((sFile t c).1)),.i ((sFile t c).2)]) ⟨dc,?_⟩
 · have e:sDo t c=(((sFile t c).1),(sFile t c).2):=by
     unfold sDo;(try rw[hc5]);(try simp only[cond_true,cond_false]);(try rw[hc11]);(try simp only[cond_true,cond_false]);(try rw[hc19]);(try simp only[cond_true,cond_false]);(try rw[hc21]);(try simp only[cond_true,cond_false])
     try first|rfl|(simp only[sDo,newDir,wMode,Tr.none,fits];done)|(simp only[sDo,newDir,wMode,Tr.none,fits];rfl)
   refine fin_lea ?_
   rw[e];exact lea_refl _
 refine Rr (Cn1 (decide ((c.kind:Int)=(5:Int))) [2,3,4,7,8] [] (Ki/\·) ⟨rfl,fun hc24 c24=>?_,fun hc24 c24=>?_⟩)
 refine Rr (Bc1 3 [(52,.agg (clc c)),(51,.agg (tcs t))] 112 [.agg (tcs t),.agg (clc c)] 53 ((0+5<=5/\0<5)/\(0+5<=5/\0<5)/\·) ⟨dc,dc,PE.use (l2Rename_ok t c om (by assumption) om om om om (h10 (by simpa using hc24)).1 (h10 (by simpa using hc24)).2) (Ke (Fn3 [4] [(5,.i ((sRename t c).2))] (Hw [(8,tcs ((sRename t c).1))] [] ·) 16 ((0<2)/\(1<2)/\(true=true/\5=5/\0+5<=5)/\·) ⟨dc,dc,dc,?_⟩))⟩)
 refine Rt1 ((0+5<=5/\0<5)/\·) (.tup [.agg (tcs ((sRename t c).1)),.i ((sRename t c).2)]) ⟨dc,?_⟩
 · have e:sDo t c=(((sRename t c).1),(sRename t c).2):=by
     unfold sDo;(try rw[hc5]);(try simp only[cond_true,cond_false]);(try rw[hc11]);(try simp only[cond_true,cond_false]);(try rw[hc19]);(try simp only[cond_true,cond_false]);(try rw[hc21]);(try simp only[cond_true,cond_false]);(try rw[hc24]);(try simp only[cond_true,cond_false])
     try first|rfl|(simp only[sDo,newDir,wMode,Tr.none,fits];done)|(simp only[sDo,newDir,wMode,Tr.none,fits];rfl)
   refine fin_lea ?_
   rw[e];exact lea_refl _
 refine Sk (Bn (Jn (hK8 (Kp [2,3,4,7,8] (Sq fun K26 hK26=>?_)))))
 refine Rr (Cn0 (!((tat t c.path).isSome)) [2,3,4,7] [] ⟨fun hc28 c28=>?_,fun hc28 c28=>?_⟩)
 refine Rr (Fn3 [4] [(5,.i 3)] (Hw [(8,tcs t)] [] ·) 16 ((0+5<=5/\0<5)/\(true=true/\5=5/\0+5<=5)/\·) ⟨dc,dc,Rt1 ((0+5<=5/\0<5)/\·) (.tup [.agg (tcs t),.i 3]) ⟨dc,?_⟩⟩)
 · have e:sDo t c=(t,3):=by
     unfold sDo;(try rw[hc5]);(try simp only[cond_true,cond_false]);(try rw[hc11]);(try simp only[cond_true,cond_false]);(try rw[hc19]);(try simp only[cond_true,cond_false]);(try rw[hc21]);(try simp only[cond_true,cond_false]);(try rw[hc24]);(try simp only[cond_true,cond_false]);(try rw[hc28]);(try simp only[cond_true,cond_false])
     try first|rfl|(simp only[sDo,newDir,wMode,Tr.none,fits];done)|(simp only[sDo,newDir,wMode,Tr.none,fits];rfl)
   refine fin_lea ?_
   rw[e];exact lea_refl _
 refine Sk (Jn (hK26 (Kp [2,3,4,7] (Sq fun K30 hK30=>?_))))
 refine Rr (Cn1 (decide ((c.kind:Int)=(4:Int))) [2,3,4,7] [] (((1:Nat)≠0)/\(0+1<=5/\0<5)/\Ki/\·) ⟨dc,dc,rfl,fun hc32 c32=>?_,fun hc32 c32=>?_⟩)
 refine Sq fun K33 hK33=>?_
 refine Rr (Av1 3 64 [(63,pth ((xat t c.path).names)),(62,.ptr 12 3)] (lnm ((xat t c.path).names) sc) (((1:Nat)≠0)/\(3+1<=5/\3<5)/\·) ⟨dc,dc,Cn1 (decide ((0:Int)<((((xat t c.path).names).length:Int):Int))) [2,3,4] [] (Ki/\·) ⟨rfl,fun hc35 c35=>?_,fun hc35 c35=>?_⟩⟩)
 refine Rr (Fn3 [4] [(5,.i 5)] (Hw [(8,tcs t)] [] ·) 16 ((0+5<=5/\0<5)/\(true=true/\5=5/\0+5<=5)/\·) ⟨dc,dc,Rt1 ((0+5<=5/\0<5)/\·) (.tup [.agg (tcs t),.i 5]) ⟨dc,?_⟩⟩)
 · have e:sDo t c=(t,5):=by
     unfold sDo;(try rw[hc5]);(try simp only[cond_true,cond_false]);(try rw[hc11]);(try simp only[cond_true,cond_false]);(try rw[hc19]);(try simp only[cond_true,cond_false]);(try rw[hc21]);(try simp only[cond_true,cond_false]);(try rw[hc24]);(try simp only[cond_true,cond_false]);(try rw[hc28]);(try simp only[cond_true,cond_false]);(try rw[hc32]);(try simp only[cond_true,cond_false]);(try rw[hc35]);(try simp only[cond_true,cond_false])
     try first|rfl|(simp only[sDo,newDir,wMode,Tr.none,fits];done)|(simp only[sDo,newDir,wMode,Tr.none,fits];rfl)
   refine fin_lea ?_
   rw[e];exact lea_refl _
 refine Sk (Jn (hK33 (Kp [2,3,4] (Rr (Bc1 5 [(70,.agg zt),(69,pth c.path),(68,.ptr 4 1),(67,.agg (tcs t))] 110 [.agg (tcs t),pth c.path,.agg zt,.bool true] 71 ((0+5<=5/\0<5)/\((1:Nat)≠0)/\(1+1<=5/\1<5)/\·) ⟨dc,dc,dc,?_⟩)))))
 have hX:((Tr.mk false 0 [] [] [])).W<2^12:=by simp only[W_eq (Tr.mk _ _ _ _ _),Tr.data_mk,Tr.names_mk,Tr.kids_mk,wS,Tr.Ws,List.length_nil];rw[W_eq (xat t c.path)]at hxw;omega
 have hB:=W_tset_lt2 (g:=true) hw hX h1
 refine TCall_le [.agg (tcs t),pth c.path,.agg (tcs (Tr.mk false 0 [] [] [])),.bool true] (by simp[lea,leas,pth,Tr.none,tcs,clc]) ?_
 refine PE.use (l2Set_ok _ c.path t (Tr.mk false 0 [] [] []) true rfl om (by assumption) om om) ?_
 refine Ke (Fn3 [4] [(5,.i 0)] (Hw [(8,tcs (tset c.path t (Tr.mk false 0 [] [] []) true))] [] ·) 16 ((true=true/\5=5/\0+5<=5)/\·) ⟨dc,Rt1 ((0+5<=5/\0<5)/\·) (.tup [.agg (tcs (tset c.path t (Tr.mk false 0 [] [] []) true)),.i 0]) ⟨dc,?_⟩⟩)
 · have e:sDo t c=((tset c.path t (Tr.mk false 0 [] [] []) true),0):=by
     unfold sDo;(try rw[hc5]);(try simp only[cond_true,cond_false]);(try rw[hc11]);(try simp only[cond_true,cond_false]);(try rw[hc19]);(try simp only[cond_true,cond_false]);(try rw[hc21]);(try simp only[cond_true,cond_false]);(try rw[hc24]);(try simp only[cond_true,cond_false]);(try rw[hc28]);(try simp only[cond_true,cond_false]);(try rw[hc32]);(try simp only[cond_true,cond_false]);(try rw[hc35]);(try simp only[cond_true,cond_false])
     try first|rfl|(simp only[sDo,newDir,wMode,Tr.none,fits];done)|(simp only[sDo,newDir,wMode,Tr.none,fits];rfl)
   refine fin_lea ?_
   rw[e];exact lea_refl _
 refine Sk (Jn (hK30 (Kp [2,3,4,7] (Rr (Fn3 [2,3,4,7] [] (Hw [(12,[.bool ((xat t c.path).dir),.i c.at_,.str ((xat t c.path).data),pth ((xat t c.path).names),.sl 5 (((xat t c.path).kids).map trc)])] [] ·) 16 (((1:Nat)≠0)/\(3+1<=5/\3<5)/\((1:Nat)≠0)/\(true=true/\1=1/\1+1<=5)/\·) ⟨dc,dc,dc,dc,Rr (Bc1 5 [(78,.agg [.bool ((xat t c.path).dir),.i c.at_,.str ((xat t c.path).data),pth ((xat t c.path).names),.sl 5 (((xat t c.path).kids).map trc)]),(77,pth c.path),(76,.ptr 4 1),(75,.agg (tcs t))] 110 [.agg (tcs t),pth c.path,.agg [.bool ((xat t c.path).dir),.i c.at_,.str ((xat t c.path).data),pth ((xat t c.path).names),.sl 5 (((xat t c.path).kids).map trc)],.bool false] 79 ((0+5<=5/\0<5)/\((1:Nat)≠0)/\(1+1<=5/\1<5)/\(0+5<=5/\0<5)/\·) ⟨dc,dc,dc,dc,?_⟩)⟩)))))
 have hX:((Tr.mk ((xat t c.path).dir) c.at_ ((xat t c.path).data) ((xat t c.path).names) ((xat t c.path).kids))).W<2^12:=by simp only[W_eq (Tr.mk _ _ _ _ _),Tr.data_mk,Tr.names_mk,Tr.kids_mk,wS,Tr.Ws,List.length_nil];rw[W_eq (xat t c.path)]at hxw;omega
 have hB:=W_tset_lt2 (g:=false) hw hX h1
 refine TCall_le [.agg (tcs t),pth c.path,.agg (tcs (Tr.mk ((xat t c.path).dir) c.at_ ((xat t c.path).data) ((xat t c.path).names) ((xat t c.path).kids))),.bool false] (by simp[lea,leas,pth,Tr.none,tcs,clc]) ?_
 refine PE.use (l2Set_ok _ c.path t (Tr.mk ((xat t c.path).dir) c.at_ ((xat t c.path).data) ((xat t c.path).names) ((xat t c.path).kids)) false rfl om (by assumption) om om) ?_
 refine Ke (Fn3 [4] [(5,.i 0)] (Hw [(8,tcs (tset c.path t (Tr.mk ((xat t c.path).dir) c.at_ ((xat t c.path).data) ((xat t c.path).names) ((xat t c.path).kids)) false))] [] ·) 16 ((true=true/\5=5/\0+5<=5)/\·) ⟨dc,Rt1 ((0+5<=5/\0<5)/\·) (.tup [.agg (tcs (tset c.path t (Tr.mk ((xat t c.path).dir) c.at_ ((xat t c.path).data) ((xat t c.path).names) ((xat t c.path).kids)) false)),.i 0]) ⟨dc,?_⟩⟩)
 · have e:sDo t c=((tset c.path t (Tr.mk ((xat t c.path).dir) c.at_ ((xat t c.path).data) ((xat t c.path).names) ((xat t c.path).kids)) false),0):=by
     unfold sDo;(try rw[hc5]);(try simp only[cond_true,cond_false]);(try rw[hc11]);(try simp only[cond_true,cond_false]);(try rw[hc19]);(try simp only[cond_true,cond_false]);(try rw[hc21]);(try simp only[cond_true,cond_false]);(try rw[hc24]);(try simp only[cond_true,cond_false]);(try rw[hc28]);(try simp only[cond_true,cond_false]);(try rw[hc32]);(try simp only[cond_true,cond_false])
     try first|rfl|(simp only[sDo,newDir,wMode,Tr.none,fits];done)|(simp only[sDo,newDir,wMode,Tr.none,fits];rfl)
   refine fin_lea ?_
   rw[e];exact lea_refl _
theorem sTreeDo_ok (t:Tr) (c:Cl) (hw0:t.W<2^40) (h1:wS c.path<2^40) (h2:wS c.to<2^40) (h3:c.data.length<2^21):PE G 32 [.agg (tcs t),.agg (clc c)] (.tup [.agg (tcs (sTreeDo t c).1),.i (sTreeDo t c).2]):=by
 have hl1:=wS_len c.path;have hl2:=wS_len c.to
 refine Pe Tryz.func32 ?_
 refine Rr (Fn2 [] [(4,.ptr 8 0),(3,.ptr 4 0),(2,.ptr 0 0)] ([(8,zt),(4,clc c),(0,tcs t)]++·) 12 (Sq fun K2 hK2=>?_))
 refine Rr (Pc1 2 [(8,.agg (tcs t))] 9 (0+5<=5/\0<5) dc (sTreeOk_c t om) (Cn0 (!(treeOk t)) [2,3,4] [] ⟨fun hc4 c4=>?_,fun hc4 c4=>?_⟩))
 refine Rr (Fn1 [4] [(5,.i 1)] ((true=true/\5=5/\0+5<=5)/\·) ⟨dc,Rt1 ((0+5<=5/\0<5)/\·) (.tup [.agg zt,.i 1]) ⟨dc,fin_lea ?_⟩⟩)
 unfold sTreeDo;(try rw[hc4]);(try simp only[cond_true,cond_false])
 try first|exact lea_refl _|(simp[lea,leas,Tr.none,pth])
 refine Sk (Jn (hK2 (Kp [2,3,4] (Sq fun K6 hK6=>?_))))
 refine Rr (Pc1 2 [(12,.agg (clc c))] 13 (0+5<=5/\0<5) dc (l2CallOk_ok c om (fun s hs=>Nat.lt_trans (wS_mem hs) om) om (fun s hs=>Nat.lt_trans (wS_mem hs) om)) (Cn0 (!(callOk c)) [2,3,4] [] ⟨fun hc8 c8=>?_,fun hc8 c8=>?_⟩))
 refine Rr (Pc1 2 [(15,.agg (tcs t))] 16 (0+5<=5/\0<5) dc (l1Copy_ok _ t rfl om) (Fn3 [4] [(5,.i 2)] (Hw [(8,tcs t)] [] ·) 12 ((true=true/\5=5/\0+5<=5)/\·) ⟨dc,Rt1 ((0+5<=5/\0<5)/\·) (.tup [.agg (tcs t),.i 2]) ⟨dc,fin_lea ?_⟩⟩))
 unfold sTreeDo;(try rw[hc4]);(try simp only[cond_true,cond_false]);(try rw[hc8]);(try simp only[cond_true,cond_false])
 try first|exact lea_refl _|(simp[lea,leas,Tr.none,pth])
 refine Sk (Jn (hK6 (Kp [2,3,4] ?_)))
 have hto:treeOk t=true:=by simpa using hc4
 have hco:callOk c=true:=by simpa using hc8
 have hw:=W_ok hto;have hwf:=wf_ok hto
 obtain⟨f1,f2,f3,f4⟩:=callOk_facts hco
 have hWd:=W_sDo (c:=c) hw f2
 refine Rr (Bc1 3 [(19,.agg (clc c)),(18,.agg (tcs t))] 72 [.agg (tcs t),.agg (clc c)] 20 ((0+5<=5/\0<5)/\(0+5<=5/\0<5)/\·) ⟨dc,dc,PE.use (l2Do_ok t c om hwf f2 h2 h3 f1 f3 f4) (Ke (Fn3 [4] [(7,.i ((sDo t c).2)),(6,.ptr 12 0)] ([(12,tcs ((sDo t c).1))]++·) 16 ((0<2)/\(1<2)/\(true=true/\5=5/\0+5<=5)/\·) ⟨dc,dc,dc,?_⟩))⟩)
 refine Rr (Pc1 2 [(23,.agg (tcs ((sDo t c).1)))] 24 (0+5<=5/\0<5) dc (l1Copy_ok _ ((sDo t c).1) rfl om) (Fn3 [4] [(5,.i ((sDo t c).2))] (Hw [(8,tcs ((sDo t c).1))] [] ·) 16 ((true=true/\5=5/\0+5<=5)/\·) ⟨dc,Rt1 ((0+5<=5/\0<5)/\·) (.tup [.agg (tcs ((sDo t c).1)),.i ((sDo t c).2)]) ⟨dc,fin_lea ?_⟩⟩))
 unfold sTreeDo;(try rw[hc4]);(try simp only[cond_true,cond_false]);(try rw[hc8]);(try simp only[cond_true,cond_false])
 try first|exact lea_refl _|(simp[lea,leas,Tr.none,pth])
open Go Go.Proofs
set_option maxRecDepth 100000
theorem ig5 {α:Type} {f:α->List AV} {s:Nat} (hf:∀x,(f x).length=s) (X:List α) (D:List AV) (i:Nat) (hi:i<=X.length):
    (((fl f X++D).drop (0+i*s)).take ((X.length-i)*s)).take (min (X.length-i) (X.length-i)*s)=fl f (X.drop i):=by
  have h1:i*s<=X.length*s:=Nat.mul_le_mul_right _ hi
  rw[Nat.min_self,List.take_take,Nat.min_self,Nat.zero_add,List.drop_append_of_le_length (by rw[fl_len hf];exact h1),fl_drop hf,List.take_append_of_le_length (by rw[fl_len hf,List.length_drop];omega),List.take_of_length_le (by rw[fl_len hf,List.length_drop];omega)]
theorem ig6 {α:Type} {f:α->List AV} {s:Nat} (hf:∀x,(f x).length=s) (X:List α) (D:List AV) (i m:Nat) (hi:i<X.length) (hm:m=X.length-i):
    (((fl f X++D).drop (0+i*s)).take ((X.length+1-i)*s)).take (min (X.length+1-i) m*s)=fl f (X.drop i):=by
  have h1:i*s<=X.length*s:=Nat.mul_le_mul_right _ om
  have h2:(X.length-i)*s<=(X.length+1-i)*s:=Nat.mul_le_mul_right _ om
  rw[List.take_take,hm,show min (X.length+1-i) (X.length-i)=X.length-i by omega,Nat.min_eq_left h2,Nat.zero_add,List.drop_append_of_le_length (by rw[fl_len hf];exact h1),fl_drop hf,List.take_append_of_le_length (by rw[fl_len hf,List.length_drop];omega),List.take_of_length_le (by rw[fl_len hf,List.length_drop];omega)]
set_option maxHeartbeats 4000000 in
theorem insS {α:Type} {fc:α->List AV} (hf:∀x,(fc x).length=1) (X:List α) (y:α) (i c:Nat) (hi:i<=X.length) (hX:X.length<2^36) (hc:X.length<=c):TCw 0 G 141 [.ocl 0 1 0 X.length c,.i i,.osl 4 1 0 1] [(0,fl fc X++List.replicate ((c-X.length)*1) AV.dead),(4,fc y)] 8 (fun r H1 _=>∃j tl,j%4=0/\unc r=.osl j 1 0 (X.take i++[y]++X.drop i).length/\hgt H1 j=some (fl fc (X.take i++[y]++X.drop i)++tl)):=by
 have hfl:=fun l:List α=>fl_len' hf l;have hfy:=hf y
 refine TCw_enter (c:=bd Tryz.f141) Tryz.func141 kr kr (tt_eq (F:=[(0,.ocl 0 1 0 X.length c),(1,.i i),(2,.osl 4 1 0 1)]) kr ?_)
 refine Rr (Fn0 [0,1,2] [] (Rr (Fn1 [0,1,2] [] ((1=1/\0<=((i:Int):Int)/\((i:Int):Int)<=(X.length:Int)/\(X.length:Int)<=(c:Int))/\·) ⟨⟨rfl,om,om,om⟩,Rr ?_⟩)))
 refine Fn0 [0,1,2] [(7,.i 1)] (Sq fun K4 hK4=>?_)
 refine Rr (Fn1 [0,1,2,7] [(16,.bool false)] (Ki/\·) ⟨rfl,Cf (Sk (Jn (hK4 (Kp [0,1,2,7] (Rr ?_)))))⟩)
 refine Fn0 [0,1,2,7] [(8,.i X.length)] (Sq fun K7 hK7=>?_)
 refine Rr (Cn1 (decide ((i:Int)=(X.length:Int))) [0,1,2,7,8] [] (Ki/\·) ⟨rfl,fun hc9 c9=>?_,fun hc9 c9=>?_⟩)
 refine h_unc (F':=[(0,.osl 0 1 0 X.length),(1,.i i),(2,.osl 4 1 0 1),(7,.i 1),(8,.i X.length)]) kr ?_
 refine Rr (An3 3 [(25,.osl 8 1 0 (X.length+1)),(24,.osl 4 1 0 1),(23,.osl 0 1 0 X.length)] (fun _=>[(8,apd (fl fc X++List.replicate ((c-X.length)*1) AV.dead) (X.length*1) (((fc y).drop 0).take (1*1))),(4,fc y)]) 12 ((0+1*1<=(fc y).length)/\(1=1/\X.length*1<=(fl fc X++List.replicate ((c-X.length)*1) AV.dead).length/\0<16/\(X.length+1)*16<=140737488355328)/\·) ⟨(by(first|omega|(simp only[LL,hfl,hfy,zrs_len'];omega))),⟨rfl,by(first|omega|(simp only[LL,hfl,hfy,zrs_len'];omega)),dc,by(first|omega|(simp only[LL,hfl,hfy,zrs_len'];omega))⟩,run_H (H':=[(8,fl fc (X++[y])),(4,fc y)]) (by rw[show apd (fl fc X++List.replicate ((c-X.length)*1) AV.dead) (X.length*1) (((fc y).drop 0).take (1*1))=fl fc (X++[y])from(by unfold apd;rw[ig1 hf X _ X.length (Nat.le_refl _),List.take_length,fl_app,fl_one,List.drop_zero,List.take_of_length_le (by rw[hfy];omega)])]) (Fn0 [] [(6,.osl 8 1 0 (X.length+1))] (Rt (.osl 8 1 0 (X.length+1)) ?_))⟩)
 · refine⟨_,List.Sublist.refl _,8,[],rfl,?_,?_⟩
   · show AV.osl _ _ _ _=AV.osl _ _ _ _
     congr 1
     simp only[List.length_append,List.length_take,List.length_drop,List.length_cons,List.length_nil];omega
   · refine Eq.trans (b:=some (fl fc (X++[y]))) kr ?_
     first
       |rfl
       |(rw[List.append_nil];done)
       |(rw[List.append_nil,show i=X.length by omega,List.take_length,List.drop_length,List.append_nil,fl_app,fl_one])
 refine Sk (Jn (hK7 (Kp [0,1,2,7,8] (Sq fun K11 hK11=>?_))))
 refine Rr (Av1 3 28 [(27,.i 1),(26,.i X.length)] (cI (wn1 X.length om)) (Ki/\·) ⟨rfl,Cn1 (decide ((c:Int)<((X.length+1:Nat):Int))) [0,1,2,7,8] [] (Ki/\·) ⟨rfl,fun hc13 c13=>?_,fun hc13 c13=>?_⟩⟩)
 refine Rr (Av1 6 37 [(36,.i 1),(35,.i X.length),(34,.ocl 0 1 0 i c),(33,.i i),(32,.ocl 0 1 0 X.length c)] (cI (wn1 X.length om)) ((1=1/\0<=(0:Int)/\(0:Int)<=(i:Int)/\(i:Int)<=(c:Int))/\Ki/\·) ⟨⟨rfl,om,om,om⟩,rfl,Av1 (r:=.i (IntKind.i64.wrap (((X.length+1:Nat):Int)-(i:Int)))) (v:=.i (((X.length+1:Nat):Int)-(i:Int))) 2 39 [(38,.i i)] (cI (wrap64 om om)) (Ki/\·) ⟨rfl,An3 1 [(40,.osl 8 1 0 (i+((((X.length+1:Nat):Int)-(i:Int)).toNat)))] (fun _=>[(8,(fl fc X++List.replicate ((c-X.length)*1) AV.dead).take (i*1)++zrs ((((X.length+1:Nat):Int)-(i:Int)).toNat) [.str []]),(0,fl fc X++List.replicate ((c-X.length)*1) AV.dead),(4,fc y)]) 12 (fun Z=>(1=1/\(0:Int)<=(((X.length+1:Nat):Int)-(i:Int))/\(((X.length+1:Nat):Int)-(i:Int))<=1099511627776/\c<i+((((X.length+1:Nat):Int)-(i:Int)).toNat)/\i*1<=(fl fc X++List.replicate ((c-X.length)*1) AV.dead).length/\0<16/\(i+((((X.length+1:Nat):Int)-(i:Int)).toNat))*16<=140737488355328)/\Z) ⟨⟨rfl,om,om,by(first|omega|(simp only[LL,hfl,hfy,zrs_len'];omega)),by(first|omega|(simp only[LL,hfl,hfy,zrs_len'];omega)),dc,om⟩,run_H (H':=[(8,fl fc (X.take i)++zrs (X.length+1-i) [.str []]),(0,fl fc X++List.replicate ((c-X.length)*1) AV.dead),(4,fc y)]) (by rw[show(fl fc X++List.replicate ((c-X.length)*1) AV.dead).take (i*1)++zrs ((((X.length+1:Nat):Int)-(i:Int)).toNat) [.str []]=fl fc (X.take i)++zrs (X.length+1-i) [.str []]from(by rw[ig1 hf X _ i om];congr 2;omega)]) ?_⟩⟩⟩)
 refine Fn0 [0,1,2,7] [(9,.osl 8 1 0 (i+((((X.length+1:Nat):Int)-(i:Int)).toNat)))] (Rr (An3 5 [(45,.i ((min 1 ((i+((((X.length+1:Nat):Int)-(i:Int)).toNat))-i):Nat):Int)),(44,.osl 4 1 0 1),(43,.osl 8 1 (0+i*1) ((i+((((X.length+1:Nat):Int)-(i:Int)).toNat))-i)),(42,.i i),(41,.osl 8 1 0 (i+((((X.length+1:Nat):Int)-(i:Int)).toNat)))] (fun _=>[(8,spl (fl fc (X.take i)++zrs (X.length+1-i) [.str []]) (0+i*1) ((((fc y).drop 0).take (1*1)).take (min 1 ((i+((((X.length+1:Nat):Int)-(i:Int)).toNat))-i)*1))),(0,fl fc X++List.replicate ((c-X.length)*1) AV.dead),(4,fc y)]) 12 (fun Z=>(1=1/\0<=((i:Int):Int)/\((i:Int):Int)<=((i+((((X.length+1:Nat):Int)-(i:Int)).toNat):Nat):Int)/\((i+((((X.length+1:Nat):Int)-(i:Int)).toNat):Nat):Int)<=((i+((((X.length+1:Nat):Int)-(i:Int)).toNat):Nat):Int))/\(0+1*1<=(fc y).length)/\(1=1/\0+i*1+min 1 ((i+((((X.length+1:Nat):Int)-(i:Int)).toNat))-i)*1<=(fl fc (X.take i)++zrs (X.length+1-i) [.str []]).length)/\Z) ⟨⟨rfl,om,om,om⟩,(by(first|omega|(simp only[LL,hfl,hfy,zrs_len'];omega))),⟨rfl,by(first|omega|(simp only[LL,hfl,hfy,zrs_len'];omega))⟩,run_H (H':=[(8,fl fc (X.take i++[y])++zrs (X.length-i) [.str []]),(0,fl fc X++List.replicate ((c-X.length)*1) AV.dead),(4,fc y)]) (by rw[show spl (fl fc (X.take i)++zrs (X.length+1-i) [.str []]) (0+i*1) ((((fc y).drop 0).take (1*1)).take (min 1 ((i+((((X.length+1:Nat):Int)-(i:Int)).toNat))-i)*1))=fl fc (X.take i++[y])++zrs (X.length-i) [.str []]from(by have e:=ig2 hf X y i (X.length+1-i) [.str []] rfl om om;rw[show X.length+1-i-1=X.length-i by omega]at e;rw[<-e];congr 1<;>first|omega|(rw[List.drop_zero,List.take_take,List.take_of_length_le (by rw[hfy];omega)]))]) (Fn0 [0,1,7,9] [] ?_)⟩))
 refine Qr [0,0,0,6,15,0,0,96,255] [(0,[]),(1,[]),(2,[]),(3,[]),(4,[]),(5,[]),(6,[]),(7,[]),(8,[])] (qAv1 4 49 [(48,.i 1),(47,.i i),(46,.osl 8 1 0 (i+((((X.length+1:Nat):Int)-(i:Int)).toNat)))] (cI (wn1 i om)) (Ki/\·) ⟨rfl,qAn3 5 [(54,.i ((min (X.length-i) ((i+((((X.length+1:Nat):Int)-(i:Int)).toNat))-(i+1)):Nat):Int)),(53,.ocl 0 1 (0+i*1) (X.length-i) (c-i)),(52,.i i),(51,.ocl 0 1 0 X.length c),(50,.osl 8 1 (0+(i+1)*1) ((i+((((X.length+1:Nat):Int)-(i:Int)).toNat))-(i+1)))] (fun _=>[(8,spl (fl fc (X.take i++[y])++zrs (X.length-i) [.str []]) (0+(i+1)*1) ((((fl fc X++List.replicate ((c-X.length)*1) AV.dead).drop (0+i*1)).take ((X.length-i)*1)).take (min (X.length-i) ((i+((((X.length+1:Nat):Int)-(i:Int)).toNat))-(i+1))*1))),(0,fl fc X++List.replicate ((c-X.length)*1) AV.dead),(4,fc y)]) 12 (fun Z=>(1=1/\0<=(((i+1:Nat):Int):Int)/\(((i+1:Nat):Int):Int)<=((i+((((X.length+1:Nat):Int)-(i:Int)).toNat):Nat):Int)/\((i+((((X.length+1:Nat):Int)-(i:Int)).toNat):Nat):Int)<=((i+((((X.length+1:Nat):Int)-(i:Int)).toNat):Nat):Int))/\(1=1/\0<=((i:Int):Int)/\((i:Int):Int)<=(X.length:Int)/\(X.length:Int)<=(c:Int))/\(0+i*1+(X.length-i)*1<=(fl fc X++List.replicate ((c-X.length)*1) AV.dead).length)/\(1=1/\0+(i+1)*1+min (X.length-i) ((i+((((X.length+1:Nat):Int)-(i:Int)).toNat))-(i+1))*1<=(fl fc (X.take i++[y])++zrs (X.length-i) [.str []]).length)/\(True)/\Z) ⟨⟨rfl,om,om,om⟩,⟨rfl,om,om,om⟩,(by(first|omega|(simp only[LL,hfl,hfy,zrs_len'];omega))),⟨rfl,by(first|omega|(simp only[LL,hfl,hfy,zrs_len'];omega))⟩,trivial,runq_H (H':=[(8,fl fc (X.take i++[y]++X.drop i)),(0,fl fc X++List.replicate ((c-X.length)*1) AV.dead),(4,fc y)]) (by rw[show spl (fl fc (X.take i++[y])++zrs (X.length-i) [.str []]) (0+(i+1)*1) ((((fl fc X++List.replicate ((c-X.length)*1) AV.dead).drop (0+i*1)).take ((X.length-i)*1)).take (min (X.length-i) ((i+((((X.length+1:Nat):Int)-(i:Int)).toNat))-(i+1))*1))=fl fc (X.take i++[y]++X.drop i)from(by rw[<-ig3 hf X y i [.str []] rfl om];congr 1<;>first|omega|(rw[<-ig5 hf X _ i om];congr 1;omega))]) (qFn0 [9] [] ?_)⟩⟩)
 refine Rr (Fn0 [] [(6,.osl 8 1 0 (i+((((X.length+1:Nat):Int)-(i:Int)).toNat)))] (Rt (.osl 8 1 0 (i+((((X.length+1:Nat):Int)-(i:Int)).toNat))) ?_))
 · refine⟨_,List.Sublist.refl _,8,[],rfl,?_,?_⟩
   · show AV.osl _ _ _ _=AV.osl _ _ _ _
     congr 1
     simp only[List.length_append,List.length_take,List.length_drop,List.length_cons,List.length_nil];omega
   · refine Eq.trans (b:=some (fl fc (X.take i++[y]++X.drop i))) kr ?_
     first
       |rfl
       |(rw[List.append_nil];done)
       |(rw[List.append_nil,show i=X.length by omega,List.take_length,List.drop_length,List.append_nil,fl_app,fl_one])
 refine Sk (Jn (hK11 (Kp [0,1,2,7,8] (Rr (Av1 4 59 [(58,.i 1),(57,.i X.length),(56,.ocl 0 1 0 X.length c)] (cI (wn1 X.length om)) (Ki/\·) ⟨rfl,Fn1 [1,2,7,8] [(0,.ocl 0 1 0 (X.length+1) c)] ((1=1/\0<=(0:Int)/\(0:Int)<=((X.length+1:Nat):Int)/\((X.length+1:Nat):Int)<=(c:Int))/\·) ⟨⟨rfl,om,om,om⟩,Sq fun K19 hK19=>?_⟩⟩)))))
 refine Rr (Av1 5 65 [(64,.i 1),(63,.i i),(62,.ocl 0 1 0 (X.length+1) c),(61,.osl 4 1 0 1)] (cI (wn1 i om)) (Ki/\·) ⟨rfl,Bc1 2 [(66,.ocl 0 1 (0+(i+1)*1) ((X.length+1)-(i+1)) (c-(i+1)))] 167 [.osl 4 1 0 1,.ocl 0 1 (0+(i+1)*1) ((X.length+1)-(i+1)) (c-(i+1))] 67 ((1=1/\0<=(((i+1:Nat):Int):Int)/\(((i+1:Nat):Int):Int)<=((X.length+1:Nat):Int)/\((X.length+1:Nat):Int)<=(c:Int))/\·) ⟨⟨rfl,om,om,om⟩,ov_use (t:=25) (e:=9) (tR:=4) (ca:=fc y) (cb':=fl fc X++List.replicate ((c-X.length)*1) AV.dead) (Ke ?_) kr kr kr kr om rfl dc t25 rfl t9 Tryz.func167 kr kr kr kr⟩⟩)
 refine Fn0 [0,1,2,7,8] [(68,.bool true)] (Ct (Qr [0,0,0,6,15,0,0,96,255] [(0,[]),(1,[]),(2,[]),(3,[]),(4,[]),(5,[]),(6,[]),(7,[]),(8,[])] (qAv1 4 72 [(71,.i 1),(70,.i i),(69,.ocl 0 1 0 (X.length+1) c)] (cI (wn1 i om)) (Ki/\·) ⟨rfl,qAn3 5 [(77,.i ((min ((X.length+1)-i) ((X.length+1)-(i+1)):Nat):Int)),(76,.ocl 0 1 (0+i*1) ((X.length+1)-i) (c-i)),(75,.i i),(74,.ocl 0 1 0 (X.length+1) c),(73,.ocl 0 1 (0+(i+1)*1) ((X.length+1)-(i+1)) (c-(i+1)))] (fun _=>[(0,spl (fl fc X++List.replicate ((c-X.length)*1) AV.dead) (0+(i+1)*1) ((((fl fc X++List.replicate ((c-X.length)*1) AV.dead).drop (0+i*1)).take (((X.length+1)-i)*1)).take (min ((X.length+1)-i) ((X.length+1)-(i+1))*1))),(4,fc y)]) 8 ((1=1/\0<=(((i+1:Nat):Int):Int)/\(((i+1:Nat):Int):Int)<=((X.length+1:Nat):Int)/\((X.length+1:Nat):Int)<=(c:Int))/\(1=1/\0<=((i:Int):Int)/\((i:Int):Int)<=((X.length+1:Nat):Int)/\((X.length+1:Nat):Int)<=(c:Int))/\(0+i*1+((X.length+1)-i)*1<=(fl fc X++List.replicate ((c-X.length)*1) AV.dead).length)/\(1=1/\0+(i+1)*1+min ((X.length+1)-i) ((X.length+1)-(i+1))*1<=(fl fc X++List.replicate ((c-X.length)*1) AV.dead).length)/\(True)/\·) ⟨⟨rfl,om,om,om⟩,⟨rfl,om,om,om⟩,(by(first|omega|(simp only[LL,hfl,hfy,zrs_len'];omega))),⟨rfl,by(first|omega|(simp only[LL,hfl,hfy,zrs_len'];omega))⟩,trivial,?_⟩⟩)))
 refine runq_H (H':=[(0,fl fc (X.take (i+1)++X.drop i)++(List.replicate ((c-X.length)*1) AV.dead).drop 1),(4,fc y)]) (by rw[show spl (fl fc X++List.replicate ((c-X.length)*1) AV.dead) (0+(i+1)*1) ((((fl fc X++List.replicate ((c-X.length)*1) AV.dead).drop (0+i*1)).take (((X.length+1)-i)*1)).take (min ((X.length+1)-i) ((X.length+1)-(i+1))*1))=fl fc (X.take (i+1)++X.drop i)++(List.replicate ((c-X.length)*1) AV.dead).drop 1 from(by rw[<-is1 hf X _ i om (by rw[List.length_replicate];omega),ig6 hf X _ i (X.length+1-(i+1)) om om,show 0+(i+1)*1=(i+1)*1 by omega])]) ?_
 refine qFn0 [0,1,2] [] (Rr (An3 5 [(82,.i ((min 1 ((X.length+1)-i):Nat):Int)),(81,.osl 4 1 0 1),(80,.ocl 0 1 (0+i*1) ((X.length+1)-i) (c-i)),(79,.i i),(78,.ocl 0 1 0 (X.length+1) c)] (fun _=>[(0,spl (fl fc (X.take (i+1)++X.drop i)++(List.replicate ((c-X.length)*1) AV.dead).drop 1) (0+i*1) ((((fc y).drop 0).take (1*1)).take (min 1 ((X.length+1)-i)*1))),(4,fc y)]) 8 ((1=1/\0<=((i:Int):Int)/\((i:Int):Int)<=((X.length+1:Nat):Int)/\((X.length+1:Nat):Int)<=(c:Int))/\(0+1*1<=(fc y).length)/\(1=1/\0+i*1+min 1 ((X.length+1)-i)*1<=(fl fc (X.take (i+1)++X.drop i)++(List.replicate ((c-X.length)*1) AV.dead).drop 1).length)/\·) ⟨⟨rfl,om,om,om⟩,(by(first|omega|(simp only[LL,hfl,hfy,zrs_len'];omega))),⟨rfl,by(first|omega|(simp only[LL,hfl,hfy,zrs_len'];omega))⟩,run_H (H':=[(0,fl fc (X.take i++[y]++X.drop i)++(List.replicate ((c-X.length)*1) AV.dead).drop 1),(4,fc y)]) (by rw[show spl (fl fc (X.take (i+1)++X.drop i)++(List.replicate ((c-X.length)*1) AV.dead).drop 1) (0+i*1) ((((fc y).drop 0).take (1*1)).take (min 1 ((X.length+1)-i)*1))=fl fc (X.take i++[y]++X.drop i)++(List.replicate ((c-X.length)*1) AV.dead).drop 1 from(by rw[<-is2 hf X _ y i om];congr 1<;>first|omega|(rw[List.drop_zero,List.take_take,List.take_of_length_le (by rw[hfy];omega)]))]) (Fn0 [0] [] ?_)⟩))
 refine Rr (Fn0 [] [(6,.ocl 0 1 0 (X.length+1) c)] (Rt (.ocl 0 1 0 (X.length+1) c) ?_))
 · refine⟨_,List.Sublist.refl _,0,(List.replicate ((c-X.length)*1) AV.dead).drop 1,rfl,?_,?_⟩
   · show AV.osl _ _ _ _=AV.osl _ _ _ _
     congr 1
     simp only[List.length_append,List.length_take,List.length_drop,List.length_cons,List.length_nil];omega
   · refine Eq.trans (b:=some (fl fc (X.take i++[y]++X.drop i)++(List.replicate ((c-X.length)*1) AV.dead).drop 1)) kr ?_
     first
       |rfl
       |(rw[List.append_nil];done)
       |(rw[List.append_nil,show i=X.length by omega,List.take_length,List.drop_length,List.append_nil,fl_app,fl_one])
set_option maxHeartbeats 4000000 in
theorem insT {α:Type} {fc:α->List AV} (hf:∀x,(fc x).length=5) (X:List α) (y:α) (i c:Nat) (hi:i<=X.length) (hX:X.length<2^36) (hc:X.length<=c):TCw 0 G 142 [.ocl 0 5 0 X.length c,.i i,.osl 4 5 0 1] [(0,fl fc X++List.replicate ((c-X.length)*5) AV.dead),(4,fc y)] 8 (fun r H1 _=>∃j tl,j%4=0/\unc r=.osl j 5 0 (X.take i++[y]++X.drop i).length/\hgt H1 j=some (fl fc (X.take i++[y]++X.drop i)++tl)):=by
 have hfl:=fun l:List α=>fl_len' hf l;have hfy:=hf y
 refine TCw_enter (c:=bd Tryz.f142) Tryz.func142 kr kr (tt_eq (F:=[(0,.ocl 0 5 0 X.length c),(1,.i i),(2,.osl 4 5 0 1)]) kr ?_)
 refine Rr (Fn0 [0,1,2] [] (Rr (Fn1 [0,1,2] [] ((5=5/\0<=((i:Int):Int)/\((i:Int):Int)<=(X.length:Int)/\(X.length:Int)<=(c:Int))/\·) ⟨⟨rfl,om,om,om⟩,Rr ?_⟩)))
 refine Fn0 [0,1,2] [(7,.i 1)] (Sq fun K4 hK4=>?_)
 refine Rr (Fn1 [0,1,2,7] [(16,.bool false)] (Ki/\·) ⟨rfl,Cf (Sk (Jn (hK4 (Kp [0,1,2,7] (Rr ?_)))))⟩)
 refine Fn0 [0,1,2,7] [(8,.i X.length)] (Sq fun K7 hK7=>?_)
 refine Rr (Cn1 (decide ((i:Int)=(X.length:Int))) [0,1,2,7,8] [] (Ki/\·) ⟨rfl,fun hc9 c9=>?_,fun hc9 c9=>?_⟩)
 refine h_unc (F':=[(0,.osl 0 5 0 X.length),(1,.i i),(2,.osl 4 5 0 1),(7,.i 1),(8,.i X.length)]) kr ?_
 refine Rr (An3 3 [(25,.osl 8 5 0 (X.length+1)),(24,.osl 4 5 0 1),(23,.osl 0 5 0 X.length)] (fun _=>[(8,apd (fl fc X++List.replicate ((c-X.length)*5) AV.dead) (X.length*5) (((fc y).drop 0).take (1*5))),(4,fc y)]) 12 ((0+1*5<=(fc y).length)/\(5=5/\X.length*5<=(fl fc X++List.replicate ((c-X.length)*5) AV.dead).length/\0<80/\(X.length+1)*80<=140737488355328)/\·) ⟨(by(first|omega|(simp only[LL,hfl,hfy,zrs_len'];omega))),⟨rfl,by(first|omega|(simp only[LL,hfl,hfy,zrs_len'];omega)),dc,by(first|omega|(simp only[LL,hfl,hfy,zrs_len'];omega))⟩,run_H (H':=[(8,fl fc (X++[y])),(4,fc y)]) (by rw[show apd (fl fc X++List.replicate ((c-X.length)*5) AV.dead) (X.length*5) (((fc y).drop 0).take (1*5))=fl fc (X++[y])from(by unfold apd;rw[ig1 hf X _ X.length (Nat.le_refl _),List.take_length,fl_app,fl_one,List.drop_zero,List.take_of_length_le (by rw[hfy];omega)])]) (Fn0 [] [(6,.osl 8 5 0 (X.length+1))] (Rt (.osl 8 5 0 (X.length+1)) ?_))⟩)
 · refine⟨_,List.Sublist.refl _,8,[],rfl,?_,?_⟩
   · show AV.osl _ _ _ _=AV.osl _ _ _ _
     congr 1
     simp only[List.length_append,List.length_take,List.length_drop,List.length_cons,List.length_nil];omega
   · refine Eq.trans (b:=some (fl fc (X++[y]))) kr ?_
     first
       |rfl
       |(rw[List.append_nil];done)
       |(rw[List.append_nil,show i=X.length by omega,List.take_length,List.drop_length,List.append_nil,fl_app,fl_one])
 refine Sk (Jn (hK7 (Kp [0,1,2,7,8] (Sq fun K11 hK11=>?_))))
 refine Rr (Av1 3 28 [(27,.i 1),(26,.i X.length)] (cI (wn1 X.length om)) (Ki/\·) ⟨rfl,Cn1 (decide ((c:Int)<((X.length+1:Nat):Int))) [0,1,2,7,8] [] (Ki/\·) ⟨rfl,fun hc13 c13=>?_,fun hc13 c13=>?_⟩⟩)
 refine Rr (Av1 6 37 [(36,.i 1),(35,.i X.length),(34,.ocl 0 5 0 i c),(33,.i i),(32,.ocl 0 5 0 X.length c)] (cI (wn1 X.length om)) ((5=5/\0<=(0:Int)/\(0:Int)<=(i:Int)/\(i:Int)<=(c:Int))/\Ki/\·) ⟨⟨rfl,om,om,om⟩,rfl,Av1 (r:=.i (IntKind.i64.wrap (((X.length+1:Nat):Int)-(i:Int)))) (v:=.i (((X.length+1:Nat):Int)-(i:Int))) 2 39 [(38,.i i)] (cI (wrap64 om om)) (Ki/\·) ⟨rfl,An3 1 [(40,.osl 8 5 0 (i+((((X.length+1:Nat):Int)-(i:Int)).toNat)))] (fun _=>[(8,(fl fc X++List.replicate ((c-X.length)*5) AV.dead).take (i*5)++zrs ((((X.length+1:Nat):Int)-(i:Int)).toNat) zt),(0,fl fc X++List.replicate ((c-X.length)*5) AV.dead),(4,fc y)]) 12 (fun Z=>(5=5/\(0:Int)<=(((X.length+1:Nat):Int)-(i:Int))/\(((X.length+1:Nat):Int)-(i:Int))<=1099511627776/\c<i+((((X.length+1:Nat):Int)-(i:Int)).toNat)/\i*5<=(fl fc X++List.replicate ((c-X.length)*5) AV.dead).length/\0<80/\(i+((((X.length+1:Nat):Int)-(i:Int)).toNat))*80<=140737488355328)/\Z) ⟨⟨rfl,om,om,by(first|omega|(simp only[LL,hfl,hfy,zrs_len'];omega)),by(first|omega|(simp only[LL,hfl,hfy,zrs_len'];omega)),dc,om⟩,run_H (H':=[(8,fl fc (X.take i)++zrs (X.length+1-i) zt),(0,fl fc X++List.replicate ((c-X.length)*5) AV.dead),(4,fc y)]) (by rw[show(fl fc X++List.replicate ((c-X.length)*5) AV.dead).take (i*5)++zrs ((((X.length+1:Nat):Int)-(i:Int)).toNat) zt=fl fc (X.take i)++zrs (X.length+1-i) zt from(by rw[ig1 hf X _ i om];congr 2;omega)]) ?_⟩⟩⟩)
 refine Fn0 [0,1,2,7] [(9,.osl 8 5 0 (i+((((X.length+1:Nat):Int)-(i:Int)).toNat)))] (Rr (An3 5 [(45,.i ((min 1 ((i+((((X.length+1:Nat):Int)-(i:Int)).toNat))-i):Nat):Int)),(44,.osl 4 5 0 1),(43,.osl 8 5 (0+i*5) ((i+((((X.length+1:Nat):Int)-(i:Int)).toNat))-i)),(42,.i i),(41,.osl 8 5 0 (i+((((X.length+1:Nat):Int)-(i:Int)).toNat)))] (fun _=>[(8,spl (fl fc (X.take i)++zrs (X.length+1-i) zt) (0+i*5) ((((fc y).drop 0).take (1*5)).take (min 1 ((i+((((X.length+1:Nat):Int)-(i:Int)).toNat))-i)*5))),(0,fl fc X++List.replicate ((c-X.length)*5) AV.dead),(4,fc y)]) 12 (fun Z=>(5=5/\0<=((i:Int):Int)/\((i:Int):Int)<=((i+((((X.length+1:Nat):Int)-(i:Int)).toNat):Nat):Int)/\((i+((((X.length+1:Nat):Int)-(i:Int)).toNat):Nat):Int)<=((i+((((X.length+1:Nat):Int)-(i:Int)).toNat):Nat):Int))/\(0+1*5<=(fc y).length)/\(5=5/\0+i*5+min 1 ((i+((((X.length+1:Nat):Int)-(i:Int)).toNat))-i)*5<=(fl fc (X.take i)++zrs (X.length+1-i) zt).length)/\Z) ⟨⟨rfl,om,om,om⟩,(by(first|omega|(simp only[LL,hfl,hfy,zrs_len'];omega))),⟨rfl,by(first|omega|(simp only[LL,hfl,hfy,zrs_len'];omega))⟩,run_H (H':=[(8,fl fc (X.take i++[y])++zrs (X.length-i) zt),(0,fl fc X++List.replicate ((c-X.length)*5) AV.dead),(4,fc y)]) (by rw[show spl (fl fc (X.take i)++zrs (X.length+1-i) zt) (0+i*5) ((((fc y).drop 0).take (1*5)).take (min 1 ((i+((((X.length+1:Nat):Int)-(i:Int)).toNat))-i)*5))=fl fc (X.take i++[y])++zrs (X.length-i) zt from(by have e:=ig2 hf X y i (X.length+1-i) zt rfl om om;rw[show X.length+1-i-1=X.length-i by omega]at e;rw[<-e];congr 1<;>first|omega|(rw[List.drop_zero,List.take_take,List.take_of_length_le (by rw[hfy];omega)]))]) (Fn0 [0,1,7,9] [] ?_)⟩))
 refine Qr [0,0,0,6,15,0,0,96,255] [(0,[]),(1,[]),(2,[]),(3,[]),(4,[]),(5,[]),(6,[]),(7,[]),(8,[])] (qAv1 4 49 [(48,.i 1),(47,.i i),(46,.osl 8 5 0 (i+((((X.length+1:Nat):Int)-(i:Int)).toNat)))] (cI (wn1 i om)) (Ki/\·) ⟨rfl,qAn3 5 [(54,.i ((min (X.length-i) ((i+((((X.length+1:Nat):Int)-(i:Int)).toNat))-(i+1)):Nat):Int)),(53,.ocl 0 5 (0+i*5) (X.length-i) (c-i)),(52,.i i),(51,.ocl 0 5 0 X.length c),(50,.osl 8 5 (0+(i+1)*5) ((i+((((X.length+1:Nat):Int)-(i:Int)).toNat))-(i+1)))] (fun _=>[(8,spl (fl fc (X.take i++[y])++zrs (X.length-i) zt) (0+(i+1)*5) ((((fl fc X++List.replicate ((c-X.length)*5) AV.dead).drop (0+i*5)).take ((X.length-i)*5)).take (min (X.length-i) ((i+((((X.length+1:Nat):Int)-(i:Int)).toNat))-(i+1))*5))),(0,fl fc X++List.replicate ((c-X.length)*5) AV.dead),(4,fc y)]) 12 (fun Z=>(5=5/\0<=(((i+1:Nat):Int):Int)/\(((i+1:Nat):Int):Int)<=((i+((((X.length+1:Nat):Int)-(i:Int)).toNat):Nat):Int)/\((i+((((X.length+1:Nat):Int)-(i:Int)).toNat):Nat):Int)<=((i+((((X.length+1:Nat):Int)-(i:Int)).toNat):Nat):Int))/\(5=5/\0<=((i:Int):Int)/\((i:Int):Int)<=(X.length:Int)/\(X.length:Int)<=(c:Int))/\(0+i*5+(X.length-i)*5<=(fl fc X++List.replicate ((c-X.length)*5) AV.dead).length)/\(5=5/\0+(i+1)*5+min (X.length-i) ((i+((((X.length+1:Nat):Int)-(i:Int)).toNat))-(i+1))*5<=(fl fc (X.take i++[y])++zrs (X.length-i) zt).length)/\(True)/\Z) ⟨⟨rfl,om,om,om⟩,⟨rfl,om,om,om⟩,(by(first|omega|(simp only[LL,hfl,hfy,zrs_len'];omega))),⟨rfl,by(first|omega|(simp only[LL,hfl,hfy,zrs_len'];omega))⟩,trivial,runq_H (H':=[(8,fl fc (X.take i++[y]++X.drop i)),(0,fl fc X++List.replicate ((c-X.length)*5) AV.dead),(4,fc y)]) (by rw[show spl (fl fc (X.take i++[y])++zrs (X.length-i) zt) (0+(i+1)*5) ((((fl fc X++List.replicate ((c-X.length)*5) AV.dead).drop (0+i*5)).take ((X.length-i)*5)).take (min (X.length-i) ((i+((((X.length+1:Nat):Int)-(i:Int)).toNat))-(i+1))*5))=fl fc (X.take i++[y]++X.drop i)from(by rw[<-ig3 hf X y i zt rfl om];congr 1<;>first|omega|(rw[<-ig5 hf X _ i om];congr 1;omega))]) (qFn0 [9] [] ?_)⟩⟩)
 refine Rr (Fn0 [] [(6,.osl 8 5 0 (i+((((X.length+1:Nat):Int)-(i:Int)).toNat)))] (Rt (.osl 8 5 0 (i+((((X.length+1:Nat):Int)-(i:Int)).toNat))) ?_))
 · refine⟨_,List.Sublist.refl _,8,[],rfl,?_,?_⟩
   · show AV.osl _ _ _ _=AV.osl _ _ _ _
     congr 1
     simp only[List.length_append,List.length_take,List.length_drop,List.length_cons,List.length_nil];omega
   · refine Eq.trans (b:=some (fl fc (X.take i++[y]++X.drop i))) kr ?_
     first
       |rfl
       |(rw[List.append_nil];done)
       |(rw[List.append_nil,show i=X.length by omega,List.take_length,List.drop_length,List.append_nil,fl_app,fl_one])
 refine Sk (Jn (hK11 (Kp [0,1,2,7,8] (Rr (Av1 4 59 [(58,.i 1),(57,.i X.length),(56,.ocl 0 5 0 X.length c)] (cI (wn1 X.length om)) (Ki/\·) ⟨rfl,Fn1 [1,2,7,8] [(0,.ocl 0 5 0 (X.length+1) c)] ((5=5/\0<=(0:Int)/\(0:Int)<=((X.length+1:Nat):Int)/\((X.length+1:Nat):Int)<=(c:Int))/\·) ⟨⟨rfl,om,om,om⟩,Sq fun K19 hK19=>?_⟩⟩)))))
 refine Rr (Av1 5 65 [(64,.i 1),(63,.i i),(62,.ocl 0 5 0 (X.length+1) c),(61,.osl 4 5 0 1)] (cI (wn1 i om)) (Ki/\·) ⟨rfl,Bc1 2 [(66,.ocl 0 5 (0+(i+1)*5) ((X.length+1)-(i+1)) (c-(i+1)))] 169 [.osl 4 5 0 1,.ocl 0 5 (0+(i+1)*5) ((X.length+1)-(i+1)) (c-(i+1))] 67 ((5=5/\0<=(((i+1:Nat):Int):Int)/\(((i+1:Nat):Int):Int)<=((X.length+1:Nat):Int)/\((X.length+1:Nat):Int)<=(c:Int))/\·) ⟨⟨rfl,om,om,om⟩,ov_use (t:=40) (e:=42) (tR:=4) (ca:=fc y) (cb':=fl fc X++List.replicate ((c-X.length)*5) AV.dead) (Ke ?_) kr kr kr kr om rfl dc t40 rfl t42 Tryz.func169 kr kr kr kr⟩⟩)
 refine Fn0 [0,1,2,7,8] [(68,.bool true)] (Ct (Qr [0,0,0,6,15,0,0,96,255] [(0,[]),(1,[]),(2,[]),(3,[]),(4,[]),(5,[]),(6,[]),(7,[]),(8,[])] (qAv1 4 72 [(71,.i 1),(70,.i i),(69,.ocl 0 5 0 (X.length+1) c)] (cI (wn1 i om)) (Ki/\·) ⟨rfl,qAn3 5 [(77,.i ((min ((X.length+1)-i) ((X.length+1)-(i+1)):Nat):Int)),(76,.ocl 0 5 (0+i*5) ((X.length+1)-i) (c-i)),(75,.i i),(74,.ocl 0 5 0 (X.length+1) c),(73,.ocl 0 5 (0+(i+1)*5) ((X.length+1)-(i+1)) (c-(i+1)))] (fun _=>[(0,spl (fl fc X++List.replicate ((c-X.length)*5) AV.dead) (0+(i+1)*5) ((((fl fc X++List.replicate ((c-X.length)*5) AV.dead).drop (0+i*5)).take (((X.length+1)-i)*5)).take (min ((X.length+1)-i) ((X.length+1)-(i+1))*5))),(4,fc y)]) 8 ((5=5/\0<=(((i+1:Nat):Int):Int)/\(((i+1:Nat):Int):Int)<=((X.length+1:Nat):Int)/\((X.length+1:Nat):Int)<=(c:Int))/\(5=5/\0<=((i:Int):Int)/\((i:Int):Int)<=((X.length+1:Nat):Int)/\((X.length+1:Nat):Int)<=(c:Int))/\(0+i*5+((X.length+1)-i)*5<=(fl fc X++List.replicate ((c-X.length)*5) AV.dead).length)/\(5=5/\0+(i+1)*5+min ((X.length+1)-i) ((X.length+1)-(i+1))*5<=(fl fc X++List.replicate ((c-X.length)*5) AV.dead).length)/\(True)/\·) ⟨⟨rfl,om,om,om⟩,⟨rfl,om,om,om⟩,(by(first|omega|(simp only[LL,hfl,hfy,zrs_len'];omega))),⟨rfl,by(first|omega|(simp only[LL,hfl,hfy,zrs_len'];omega))⟩,trivial,?_⟩⟩)))
 refine runq_H (H':=[(0,fl fc (X.take (i+1)++X.drop i)++(List.replicate ((c-X.length)*5) AV.dead).drop 5),(4,fc y)]) (by rw[show spl (fl fc X++List.replicate ((c-X.length)*5) AV.dead) (0+(i+1)*5) ((((fl fc X++List.replicate ((c-X.length)*5) AV.dead).drop (0+i*5)).take (((X.length+1)-i)*5)).take (min ((X.length+1)-i) ((X.length+1)-(i+1))*5))=fl fc (X.take (i+1)++X.drop i)++(List.replicate ((c-X.length)*5) AV.dead).drop 5 from(by rw[<-is1 hf X _ i om (by rw[List.length_replicate];omega),ig6 hf X _ i (X.length+1-(i+1)) om om,show 0+(i+1)*5=(i+1)*5 by omega])]) ?_
 refine qFn0 [0,1,2] [] (Rr (An3 5 [(82,.i ((min 1 ((X.length+1)-i):Nat):Int)),(81,.osl 4 5 0 1),(80,.ocl 0 5 (0+i*5) ((X.length+1)-i) (c-i)),(79,.i i),(78,.ocl 0 5 0 (X.length+1) c)] (fun _=>[(0,spl (fl fc (X.take (i+1)++X.drop i)++(List.replicate ((c-X.length)*5) AV.dead).drop 5) (0+i*5) ((((fc y).drop 0).take (1*5)).take (min 1 ((X.length+1)-i)*5))),(4,fc y)]) 8 ((5=5/\0<=((i:Int):Int)/\((i:Int):Int)<=((X.length+1:Nat):Int)/\((X.length+1:Nat):Int)<=(c:Int))/\(0+1*5<=(fc y).length)/\(5=5/\0+i*5+min 1 ((X.length+1)-i)*5<=(fl fc (X.take (i+1)++X.drop i)++(List.replicate ((c-X.length)*5) AV.dead).drop 5).length)/\·) ⟨⟨rfl,om,om,om⟩,(by(first|omega|(simp only[LL,hfl,hfy,zrs_len'];omega))),⟨rfl,by(first|omega|(simp only[LL,hfl,hfy,zrs_len'];omega))⟩,run_H (H':=[(0,fl fc (X.take i++[y]++X.drop i)++(List.replicate ((c-X.length)*5) AV.dead).drop 5),(4,fc y)]) (by rw[show spl (fl fc (X.take (i+1)++X.drop i)++(List.replicate ((c-X.length)*5) AV.dead).drop 5) (0+i*5) ((((fc y).drop 0).take (1*5)).take (min 1 ((X.length+1)-i)*5))=fl fc (X.take i++[y]++X.drop i)++(List.replicate ((c-X.length)*5) AV.dead).drop 5 from(by rw[<-is2 hf X _ y i om];congr 1<;>first|omega|(rw[List.drop_zero,List.take_take,List.take_of_length_le (by rw[hfy];omega)]))]) (Fn0 [0] [] ?_)⟩))
 refine Rr (Fn0 [] [(6,.ocl 0 5 0 (X.length+1) c)] (Rt (.ocl 0 5 0 (X.length+1) c) ?_))
 · refine⟨_,List.Sublist.refl _,0,(List.replicate ((c-X.length)*5) AV.dead).drop 5,rfl,?_,?_⟩
   · show AV.osl _ _ _ _=AV.osl _ _ _ _
     congr 1
     simp only[List.length_append,List.length_take,List.length_drop,List.length_cons,List.length_nil];omega
   · refine Eq.trans (b:=some (fl fc (X.take i++[y]++X.drop i)++(List.replicate ((c-X.length)*5) AV.dead).drop 5)) kr ?_
     first
       |rfl
       |(rw[List.append_nil];done)
       |(rw[List.append_nil,show i=X.length by omega,List.take_length,List.drop_length,List.append_nil,fl_app,fl_one])
open Go Go.Proofs
set_option maxRecDepth 100000
theorem delS {α:Type} {fc:α->List AV} (hf:∀x,(fc x).length=1) (X:List α) (i c:Nat) (hi:i<X.length) (hX:X.length<2^36) (hc:X.length<=c):TCw 1 G 143 [.ocl 0 1 0 X.length c,.i i,.i ((i+1:Nat):Int)] [(0,fl fc X)] 4 (fun r H1 _=>∃tl,unc r=.osl 0 1 0 (X.take i++X.drop (i+1)).length/\hgt H1 0=some (fl fc (X.take i++X.drop (i+1))++tl)):=by
 have hfl:=fun l:List α=>fl_len' hf l
 refine TCw_enter (c:=bd Tryz.f143) Tryz.func143 kr kr (tt_eq (F:=[(0,.ocl 0 1 0 X.length c),(1,.i i),(2,.i ((i+1:Nat):Int))]) kr ?_)
 refine Rr (Fn0 [0,1,2] [] (Rr (Fn1 [0,1,2] [] ((1=1/\(0:Int)<=(i:Int)/\(i:Int)<=((i+1:Nat):Int)/\((i+1:Nat):Int)<=(X.length:Int)/\(X.length:Int)<=(c:Int))/\·) ⟨⟨rfl,om,om,om,om⟩,Sq fun K3 hK3=>?_⟩)))
 refine Rr (Cn1 (decide ((i:Int)=((i+1:Nat):Int))) [0,1,2] [] (Ki/\·) ⟨rfl,fun hc5 c5=>?_,fun hc5 c5=>?_⟩)
 exfalso;omega
 refine Sk (Jn (hK3 (Kp [0,1,2] (Rr (Fn0 [0,1,2] [(7,.i X.length)] (Sl [0,0,3,0,0,24,63] [(0,[]),(1,[]),(2,[]),(3,[]),(4,[]),(5,[]),(6,[])] fun K7 hK7=>?_))))))
 refine qAn3 7 [(26,.ocl 0 1 0 (i+(X.length-(i+1))) c),(25,.ocl 0 1 (0+(i+1)*1) (X.length-(i+1)) (c-(i+1))),(24,.i ((i+1:Nat):Int)),(23,.ocl 0 1 0 X.length c),(22,.ocl 0 1 0 i c),(21,.i i),(20,.ocl 0 1 0 X.length c)] (fun _=>[(0,spl (fl fc X) (i*1) (((fl fc X).drop (0+(i+1)*1)).take ((X.length-(i+1))*1)))]) 4 ((1=1/\0<=(0:Int)/\(0:Int)<=(i:Int)/\(i:Int)<=(c:Int))/\(1=1/\0<=(((i+1:Nat):Int):Int)/\(((i+1:Nat):Int):Int)<=(X.length:Int)/\(X.length:Int)<=(c:Int))/\(0+(i+1)*1+(X.length-(i+1))*1<=(fl fc X).length)/\(1=1/\i+(X.length-(i+1))<=c/\(i+(X.length-(i+1)))*1<=(fl fc X).length)/\(True)/\·) ⟨⟨rfl,om,om,om⟩,⟨rfl,om,om,om⟩,(by(first|omega|(simp only[LL,hfl,zrs_len'];omega))),⟨rfl,by(first|omega|(simp only[LL,hfl,zrs_len'];omega)),by(first|omega|(simp only[LL,hfl,zrs_len'];omega))⟩,trivial,runq_H (H':=[(0,fl fc (X.take i++X.drop (i+1))++fl fc (X.drop (X.length-1)))]) (by rw[show spl (fl fc X) (i*1) (((fl fc X).drop (0+(i+1)*1)).take ((X.length-(i+1))*1))=fl fc (X.take i++X.drop (i+1))++fl fc (X.drop (X.length-1))from(by rw[<-id1 hf X i om,Nat.zero_add,fl_drop hf,List.take_of_length_le (by rw[hfl,List.length_drop];omega)])]) (qGn0 [] (Lo 0 (.ocl 0 1 0 (i+(X.length-(i+1))) c) (fun Z=>Z) (hK7 _ _ _ ?_)))⟩
 refine Kp [0,7] (Rr (An3 6 [(31,.ocl 0 1 (0+(i+(X.length-(i+1)))*1) (X.length-(i+(X.length-(i+1)))) (c-(i+(X.length-(i+1))))),(30,.i X.length),(29,.i ((i+(X.length-(i+1)):Nat):Int)),(28,.ocl 0 1 0 (i+(X.length-(i+1))) c),(27,.ocl 0 1 0 (i+(X.length-(i+1))) c)] (fun _=>[(0,spl (fl fc (X.take i++X.drop (i+1))++fl fc (X.drop (X.length-1))) (0+(i+(X.length-(i+1)))*1) (zrs (X.length-(i+(X.length-(i+1)))) [.str []]))]) 4 (fun Z=>(1=1/\0<=(((i+(X.length-(i+1)):Nat):Int):Int)/\(((i+(X.length-(i+1)):Nat):Int):Int)<=(X.length:Int)/\(X.length:Int)<=(c:Int))/\(1=1/\0+(i+(X.length-(i+1)))*1+(X.length-(i+(X.length-(i+1))))*1<=(fl fc (X.take i++X.drop (i+1))++fl fc (X.drop (X.length-1))).length)/\Z) ⟨⟨rfl,om,om,om⟩,⟨rfl,by(first|omega|(simp only[LL,hfl,zrs_len'];omega))⟩,run_H (H':=[(0,fl fc (X.take i++X.drop (i+1))++zrs 1 [.str []])]) (by rw[show spl (fl fc (X.take i++X.drop (i+1))++fl fc (X.drop (X.length-1))) (0+(i+(X.length-(i+1)))*1) (zrs (X.length-(i+(X.length-(i+1)))) [.str []])=fl fc (X.take i++X.drop (i+1))++zrs 1 [.str []]from(by rw[<-id2 hf X i [.str []] rfl om];congr 1<;>first|omega|(congr 1;omega))]) (Fn0 [0] [] ?_)⟩))
 refine Rr (Fn0 [] [(6,.ocl 0 1 0 (i+(X.length-(i+1))) c)] (Rt (.ocl 0 1 0 (i+(X.length-(i+1))) c) (⟨_,List.Sublist.refl _,zrs 1 [.str []],?_,?_⟩)))
 · show AV.osl _ _ _ _=AV.osl _ _ _ _
   congr 1
   simp only[List.length_append,List.length_take,List.length_drop];omega
 · kernel_rfl
theorem delT {α:Type} {fc:α->List AV} (hf:∀x,(fc x).length=5) (X:List α) (i c:Nat) (hi:i<X.length) (hX:X.length<2^36) (hc:X.length<=c):TCw 1 G 144 [.ocl 0 5 0 X.length c,.i i,.i ((i+1:Nat):Int)] [(0,fl fc X)] 4 (fun r H1 _=>∃tl,unc r=.osl 0 5 0 (X.take i++X.drop (i+1)).length/\hgt H1 0=some (fl fc (X.take i++X.drop (i+1))++tl)):=by
 have hfl:=fun l:List α=>fl_len' hf l
 refine TCw_enter (c:=bd Tryz.f144) Tryz.func144 kr kr (tt_eq (F:=[(0,.ocl 0 5 0 X.length c),(1,.i i),(2,.i ((i+1:Nat):Int))]) kr ?_)
 refine Rr (Fn0 [0,1,2] [] (Rr (Fn1 [0,1,2] [] ((5=5/\(0:Int)<=(i:Int)/\(i:Int)<=((i+1:Nat):Int)/\((i+1:Nat):Int)<=(X.length:Int)/\(X.length:Int)<=(c:Int))/\·) ⟨⟨rfl,om,om,om,om⟩,Sq fun K3 hK3=>?_⟩)))
 refine Rr (Cn1 (decide ((i:Int)=((i+1:Nat):Int))) [0,1,2] [] (Ki/\·) ⟨rfl,fun hc5 c5=>?_,fun hc5 c5=>?_⟩)
 exfalso;omega
 refine Sk (Jn (hK3 (Kp [0,1,2] (Rr (Fn0 [0,1,2] [(7,.i X.length)] (Sl [0,0,3,0,0,24,63] [(0,[]),(1,[]),(2,[]),(3,[]),(4,[]),(5,[]),(6,[])] fun K7 hK7=>?_))))))
 refine qAn3 7 [(26,.ocl 0 5 0 (i+(X.length-(i+1))) c),(25,.ocl 0 5 (0+(i+1)*5) (X.length-(i+1)) (c-(i+1))),(24,.i ((i+1:Nat):Int)),(23,.ocl 0 5 0 X.length c),(22,.ocl 0 5 0 i c),(21,.i i),(20,.ocl 0 5 0 X.length c)] (fun _=>[(0,spl (fl fc X) (i*5) (((fl fc X).drop (0+(i+1)*5)).take ((X.length-(i+1))*5)))]) 4 ((5=5/\0<=(0:Int)/\(0:Int)<=(i:Int)/\(i:Int)<=(c:Int))/\(5=5/\0<=(((i+1:Nat):Int):Int)/\(((i+1:Nat):Int):Int)<=(X.length:Int)/\(X.length:Int)<=(c:Int))/\(0+(i+1)*5+(X.length-(i+1))*5<=(fl fc X).length)/\(5=5/\i+(X.length-(i+1))<=c/\(i+(X.length-(i+1)))*5<=(fl fc X).length)/\(True)/\·) ⟨⟨rfl,om,om,om⟩,⟨rfl,om,om,om⟩,(by(first|omega|(simp only[LL,hfl,zrs_len'];omega))),⟨rfl,by(first|omega|(simp only[LL,hfl,zrs_len'];omega)),by(first|omega|(simp only[LL,hfl,zrs_len'];omega))⟩,trivial,runq_H (H':=[(0,fl fc (X.take i++X.drop (i+1))++fl fc (X.drop (X.length-1)))]) (by rw[show spl (fl fc X) (i*5) (((fl fc X).drop (0+(i+1)*5)).take ((X.length-(i+1))*5))=fl fc (X.take i++X.drop (i+1))++fl fc (X.drop (X.length-1))from(by rw[<-id1 hf X i om,Nat.zero_add,fl_drop hf,List.take_of_length_le (by rw[hfl,List.length_drop];omega)])]) (qGn0 [] (Lo 0 (.ocl 0 5 0 (i+(X.length-(i+1))) c) (fun Z=>Z) (hK7 _ _ _ ?_)))⟩
 refine Kp [0,7] (Rr (An3 6 [(31,.ocl 0 5 (0+(i+(X.length-(i+1)))*5) (X.length-(i+(X.length-(i+1)))) (c-(i+(X.length-(i+1))))),(30,.i X.length),(29,.i ((i+(X.length-(i+1)):Nat):Int)),(28,.ocl 0 5 0 (i+(X.length-(i+1))) c),(27,.ocl 0 5 0 (i+(X.length-(i+1))) c)] (fun _=>[(0,spl (fl fc (X.take i++X.drop (i+1))++fl fc (X.drop (X.length-1))) (0+(i+(X.length-(i+1)))*5) (zrs (X.length-(i+(X.length-(i+1)))) zt))]) 4 (fun Z=>(5=5/\0<=(((i+(X.length-(i+1)):Nat):Int):Int)/\(((i+(X.length-(i+1)):Nat):Int):Int)<=(X.length:Int)/\(X.length:Int)<=(c:Int))/\(5=5/\0+(i+(X.length-(i+1)))*5+(X.length-(i+(X.length-(i+1))))*5<=(fl fc (X.take i++X.drop (i+1))++fl fc (X.drop (X.length-1))).length)/\Z) ⟨⟨rfl,om,om,om⟩,⟨rfl,by(first|omega|(simp only[LL,hfl,zrs_len'];omega))⟩,run_H (H':=[(0,fl fc (X.take i++X.drop (i+1))++zrs 1 zt)]) (by rw[show spl (fl fc (X.take i++X.drop (i+1))++fl fc (X.drop (X.length-1))) (0+(i+(X.length-(i+1)))*5) (zrs (X.length-(i+(X.length-(i+1)))) zt)=fl fc (X.take i++X.drop (i+1))++zrs 1 zt from(by rw[<-id2 hf X i zt rfl om];congr 1<;>first|omega|(congr 1;omega))]) (Fn0 [0] [] ?_)⟩))
 refine Rr (Fn0 [] [(6,.ocl 0 5 0 (i+(X.length-(i+1))) c)] (Rt (.ocl 0 5 0 (i+(X.length-(i+1))) c) (⟨_,List.Sublist.refl _,zrs 1 zt,?_,?_⟩)))
 · show AV.osl _ _ _ _=AV.osl _ _ _ _
   congr 1
   simp only[List.length_append,List.length_take,List.length_drop];omega
 · kernel_rfl
theorem isNaN1_ok (s:Str):PE G 155 [.str s] (.bool false):=by
 refine Pe Tryz.func155 ?_
 refine Rr (Fn0 [0] [] (Rr (Fn0 [] [(2,.bool (!(s==s)))] (Rt (.bool (!(s==s))) ?_))))
 refine fin_lea (by rw[beq_self_eq_true];exact lea_refl _)
theorem isNaN2_ok (s:Str):PE G 166 [.str s] (.bool false):=by
 refine Pe Tryz.func166 ?_
 refine Rr (Fn0 [0] [] (Rr (Fn0 [] [(2,.bool (!(s==s)))] (Rt (.bool (!(s==s))) ?_))))
 refine fin_lea (by rw[beq_self_eq_true];exact lea_refl _)
theorem less_ok (a b:Str):PE G 165 [.str a,.str b] (.bool (blt a b)):=by
 refine Pe Tryz.func165 ?_
 refine Rr (Fn0 [0,1] [] (Rr (Pc0 2 [(5,.str a)] 6 (isNaN1_ok a) (Fn0 [] [(4,.bool (blt a b))] ?_))))
 refine Rt (.bool (blt a b)) ?_
 exact fin_lea (lea_refl _)
theorem idx_no {a b:Str} (h:(a==b)=false):(b==a)=false:=by
  cases hx:(b==a)
  · rfl
  · rw[(eq_of_beq hx).symm,beq_self_eq_true]at h;cases h
theorem index_ok (X:List Str) (nm:Str) (hX:X.length<2^40):PE G 139 [pth X,.str nm] (.i (fndI nm X)):=by
 refine Pe Tryz.func139 ?_
 refine Rr (Fn0 [0,1] [] (Sq fun K2 hK2=>?_))
 refine Rr (Av0 2 7 [(6,pth X)] (lnm X sc) (Fn0 [0,1,7] [(8,.i 0)] (Bl (h_l (fun(k:Nat)=>([(0,pth X),(1,.str nm),(7,.i X.length),(8,.i k)]:Fr)) (fun(k:Nat)=>([]:Hp)) (fun(k:Nat) cn=>(k<=X.length/\fnd nm (X.take k)=none)/\cn=0) (fun(k:Nat)=>X.length-k) 0 kr ?_ ?_ ?_ ?_))))
 refine⟨?_,rfl⟩;exact⟨Nat.zero_le _,by simp[fnd]⟩
 exact⟨kr,kr,kr,kr,trivial⟩
 exact(List.nil_sublist _)
 rintro k n1 hI
 (try dsimp only at hI)
 obtain⟨⟨hk,hk2⟩,rfl⟩:=hI
 refine Rr (Fn1 [0,1,7,8] [(9,.bool (decide ((k:Int)<(X.length:Int))))] (Ki/\·) ⟨rfl,Sq fun K5 hK5=>?_⟩)
 refine Cc (decide ((k:Int)<(X.length:Int))) (fun hc6 c6=>?_) fun hc6 c6=>?_
 refine Sk (Jn (hK5 (Kp [0,1,7,8] (Sq fun K7 hK7=>?_))))
 refine Bl (Rr (Fn0 [0,1,7,8] [(5,.i k)] (Rr (Av1 4 14 [(13,.i k),(12,pth X),(11,.str nm)] (congrArg AV.pat (mg_str X k om)) ((1=1/\(0:Int)<=(k:Int)/\(k:Int)<((X.map (fun s=>[AV.str s])).length:Int))/\·) ⟨⟨rfl,om,lmo⟩,?_⟩))))
 refine Cn1 (nm==(X.getD k default)) [0,1,5,7,8] [] ((1<=1/\0<1)/\·) ⟨dc,fun hc10 c10=>?_,fun hc10 c10=>?_⟩
 refine Rr (Fn0 [] [(4,.i k)] (Rt (.i k) (fin_lea ?_)))
 unfold fndI
 first
   |(rw[fnd_found nm X k om hk2 (by rw[beq_iff_eq];exact(eq_of_beq hc10).symm)];exact lea_refl _)
   |(rw[fnd_full nm X k om hk2];exact lea_refl _)
 refine Sk (Bn (Jn (hK7 (Kp [0,1,7,8] (Rn (Av1 1 18 [] (cI (wn1 k om)) (Ki/\·) ⟨rfl,Gn0 [(8,.i ((k+1:Nat):Int))] (nk_n ?_)⟩))))))
 refine Lr (k+1) [] 0 [(0,pth X),(1,.str nm),(7,.i X.length),(8,.i ((k+1:Nat):Int))] [] [] ?_ ?_ kr kr
 (try dsimp only);omega
 refine⟨?_,rfl⟩;exact⟨om,fnd_step nm X k om hk2 (idx_no hc10)⟩
 refine Xt (Jx (Lx (Bh (Jn (hK2 (Kp [] (Rr (Fn0 [] [(4,.i (-1))] (Rt (.i (-1)) (fin_lea ?_))))))))))
 unfold fndI
 first
   |(rw[fnd_found nm X k om hk2 (by rw[beq_iff_eq];exact(eq_of_beq hc6).symm)];exact lea_refl _)
   |(rw[fnd_full nm X k om hk2];exact lea_refl _)
theorem blt_trans:∀{a b c:Str},blt a b=true->blt b c=true->blt a c=true
  |_,[],_,h,_=>by simp[blt,Op.bytesLess]at h
  |_,_::_,[],_,h=>by simp[blt,Op.bytesLess]at h
  |[],_::_,_::_,_,_=>by simp[blt,Op.bytesLess]
  |x::a,y::b,z::c,h,k=>by
    simp only[blt,Op.bytesLess,Bool.or_eq_true,Bool.and_eq_true,decide_eq_true_eq,beq_iff_eq]at h k⊢
    rcases h with h|⟨rfl,h⟩<;>rcases k with k|⟨rfl,k⟩
    · exact .inl (UInt8.lt_trans h k)
    · exact .inl h
    · exact .inl k
    · exact .inr ⟨rfl,blt_trans (a:=a) (b:=b) (c:=c) h k⟩
theorem asc_lt {X:List Str} {i j:Nat} (h:asc X=true) (hij:i<j) (hj:j<X.length):blt (X.getD i default) (X.getD j default)=true:=by
  induction j with
  |zero=>omega
  |succ j ih=>
    have e:=asc_pre X (j+1+1) h
    rw[asc_take X (j+1) hj]at e
    simp only[Bool.and_eq_true,Bool.or_eq_true,decide_eq_true_eq,Nat.add_sub_cancel]at e
    have e2:=e.2.resolve_left om
    rcases Nat.lt_or_ge i j with h1|h1
    · exact blt_trans (ih h1 om) e2
    · obtain rfl:i=j:=by omega
      exact e2
theorem bs_up {X:List Str} {nm:Str} {m:Nat} (ha:asc X=true) (hm:m<X.length) (h:blt (X.getD m default) nm=true):∀j,j<m+1->blt (X.getD j default) nm=true:=by
  intro j hj
  rcases Nat.lt_or_ge j m with h1|h1
  · exact blt_trans (asc_lt ha h1 hm) h
  · obtain rfl:j=m:=by omega
    exact h
theorem bs_dn {X:List Str} {nm:Str} {m:Nat} (ha:asc X=true) (h:blt (X.getD m default) nm=false):∀j,m<=j->j<X.length->blt (X.getD j default) nm=false:=by
  intro j h1 h2
  rcases Nat.lt_or_ge m j with h3|h3
  · cases hb:blt (X.getD j default) nm
    · rfl
    · rw[blt_trans (asc_lt ha h3 h2) hb]at h;cases h
  · obtain rfl:j=m:=by omega
    exact h
theorem bsearch_ok (X:List Str) (nm:Str) (hX:X.length<2^40) (ha:asc X=true):PC G 140 [pth X,.str nm] (fun r=>∃k:Nat,k<=X.length/\(∀j,j<k->blt (X.getD j default) nm=true)/\(∀j,k<=j->j<X.length->blt (X.getD j default) nm=false)/\r=.tup [.i k,.bool (decide (k<X.length)&&X.getD k default==nm)]):=by
 refine h_pc (F:=[(0,pth X),(1,.str nm)]) (by simp only[go_sem]) Tryz.func140 kr kr ?_ kr
 refine Rr (Fn0 [0,1] [] (Rr (Av0 2 11 [(10,pth X)] (lnm X sc) (Fn0 [0,1] [(6,.i X.length)] ?_))))
 refine Rr (Fn0 [0,1,6] [(8,.i X.length),(7,.i 0)] (Sq fun K4 hK4=>?_))
 refine Bl (h_l (fun(z:Nat×Nat)=>(match z with|(lo,hi)=>([(0,pth X),(1,.str nm),(6,.i X.length),(7,.i lo),(8,.i hi)]:Fr))) (fun(z:Nat×Nat)=>(match z with|(lo,hi)=>([]:Hp))) (fun(z:Nat×Nat) cn=>(match z with|(lo,hi)=>(lo<=hi/\hi<=X.length/\(∀j,j<lo->blt (X.getD j default) nm=true)/\(∀j,hi<=j->j<X.length->blt (X.getD j default) nm=false))/\cn=0)) (fun(z:Nat×Nat)=>z.2-z.1) (0,X.length) kr ?_ ?_ ?_ ?_)
 refine⟨?_,rfl⟩;exact⟨Nat.zero_le _,Nat.le_refl _,fun j hj=>by omega,fun j h1 h2=>by omega⟩
 exact⟨kr,kr,kr,kr,kr,trivial⟩
 exact(List.nil_sublist _)
 rintro⟨lo,hi⟩ n1 hI
 (try dsimp only at hI)
 obtain⟨⟨hlo,hhi,hL,hR⟩,rfl⟩:=hI
 refine Sq fun K5 hK5=>?_
 refine Rr (Cn1 (decide ((lo:Int)<(hi:Int))) [0,1,6,7,8] [] (Ki/\·) ⟨rfl,fun hc7 c7=>?_,fun hc7 c7=>?_⟩)
 refine Sk (Jn (hK5 (Kp [0,1,6,7,8] (Bl (Rr (Av1 3 18 [(17,.i hi),(16,.i lo)] (cI (wnn lo hi om)) (Ki/\·) ⟨rfl,Av0 (r:=.int .u64 (IntKind.u64.wrap ((lo+hi:Nat):Int))) (v:=.int .u64 ((lo+hi:Nat):Int)) 1 19 [] (congrArg (AV.int .u64) (wrapu64 om om)) ?_⟩))))))
 refine Av1 (r:=.int .u64 (((lo+hi:Nat):Int).fdiv (2^min (1:Int).toNat IntKind.u64.bits))) (v:=.int .u64 (((lo+hi)/2:Nat):Int)) 1 20 [] (congrArg (AV.int .u64) (nshr (lo+hi))) (((0:Int)<=1)/\·) ⟨dc,Av0 (r:=.i (IntKind.i64.wrap (((lo+hi)/2:Nat):Int))) (v:=.i (((lo+hi)/2:Nat):Int)) 1 21 [] (cI (wrap64 om om)) (Fn0 [0,1,6,7,8] [(9,.i (((lo+hi)/2:Nat):Int))] (Rr (Av1 3 24 [(23,.i (((lo+hi)/2:Nat):Int)),(22,pth X)] (congrArg AV.pat (mg_str X ((lo+hi)/2) om)) ((1=1/\(0:Int)<=(((lo+hi)/2:Nat):Int)/\(((lo+hi)/2:Nat):Int)<((X.map (fun s=>[AV.str s])).length:Int))/\·) ⟨⟨rfl,om,lmo⟩,?_⟩)))⟩
 refine Pc1 3 [(26,.str nm),(25,.str (X.getD ((lo+hi)/2) default))] 27 (1<=1/\0<1) dc (less_ok (X.getD ((lo+hi)/2) default) nm) (Cn0 (blt (X.getD ((lo+hi)/2) default) nm) [0,1,6,7,8,9] [] ⟨fun hc10 c10=>?_,fun hc10 c10=>?_⟩)
 refine Rn (Av1 2 29 [(28,.i (((lo+hi)/2:Nat):Int))] (cI (wn1 ((lo+hi)/2) om)) (Ki/\·) ⟨rfl,Gn0 [(7,.i ((((lo+hi)/2)+1:Nat):Int))] (nk_n (Bn ?_))⟩)
 refine Lr ((lo+hi)/2+1,hi) [] 0 [(0,pth X),(1,.str nm),(6,.i X.length),(7,.i ((((lo+hi)/2)+1:Nat):Int)),(8,.i hi)] [] [] ?_ ?_ kr kr
 (try dsimp only);omega
 refine⟨?_,rfl⟩;exact⟨om,hhi,bs_up ha om hc10,hR⟩
 refine Rn (Gn0 [(8,.i (((lo+hi)/2:Nat):Int)),(30,.i (((lo+hi)/2:Nat):Int))] (nk_n (Bn (Lr (lo,(lo+hi)/2) [] 0 [(0,pth X),(1,.str nm),(6,.i X.length),(7,.i lo),(8,.i (((lo+hi)/2:Nat):Int))] [] [] ?_ ?_ kr kr))))
 (try dsimp only);omega
 refine⟨?_,rfl⟩;exact⟨om,om,hL,bs_dn ha hc10⟩
 refine Xt (Jx (Lx (Bh (Jn (hK4 (Kp [0,1,6,7] (Rj [(4,.i lo),(5,.bool ((decide ((lo:Int)<(X.length:Int)))&&((X.getD lo default)==nm)))] [] 0 (fun K11 hK11=>?_) ?_)))))))
 refine An1 5 [(35,.bool (decide ((lo:Int)<(X.length:Int)))),(34,.bool (decide ((lo:Int)<(X.length:Int)))),(33,.i X.length),(32,.i lo),(31,.i lo)] (Ki/\·) ⟨rfl,Rg (fun hg12 g12=>?_) (fun hg12 g12=>?_)⟩
 refine Av1 3 38 [(37,.i lo),(36,pth X)] (congrArg AV.pat (mg_str X lo om)) ((1=1/\(0:Int)<=(lo:Int)/\(lo:Int)<((X.map (fun s=>[AV.str s])).length:Int))/\·) ⟨⟨rfl,om,lmo⟩,An1 4 [(42,.bool ((X.getD lo default)==nm)),(41,.bool ((X.getD lo default)==nm)),(40,.str nm),(39,.str (X.getD lo default))] ((1<=1/\0<1)/\·) ⟨dc,Rg (fun hg13 g13=>?_) (fun hg13 g13=>?_)⟩⟩
 refine Gn0 [(5,.bool true),(4,.i lo),(53,.bool true),(52,.bool true),(51,.tup []),(50,.tup []),(49,.tup []),(48,.tup []),(47,.tup []),(46,.tup []),(45,.tup []),(44,.tup []),(43,.tup [])] (hK11 _ _ _ ⟨rfl,(by show AV.bool true=AV.bool ((decide ((lo:Int)<(X.length:Int)))&&((X.getD lo default)==nm));rw[hg12,hg13];rfl),trivial⟩ rfl rfl)
 refine Av1 3 45 [(44,.i lo),(43,pth X)] (congrArg AV.pat (mg_str X lo om)) ((1=1/\(0:Int)<=(lo:Int)/\(lo:Int)<((X.map (fun s=>[AV.str s])).length:Int))/\·) ⟨⟨rfl,om,lmo⟩,Pc1 2 [(46,.str (X.getD lo default))] 47 (1<=1/\0<1) dc (isNaN2_ok (X.getD lo default)) (Gn0 [(5,.bool false),(4,.i lo),(53,.bool false),(52,.bool false),(51,.bool false),(50,.tup []),(49,.tup []),(48,.bool false)] (hK11 _ _ _ ⟨rfl,(by show AV.bool false=AV.bool ((decide ((lo:Int)<(X.length:Int)))&&((X.getD lo default)==nm));rw[hg12,hg13];rfl),trivial⟩ rfl rfl))⟩
 refine Gn0 [(5,.bool false),(4,.i lo),(53,.bool false),(52,.tup []),(51,.tup []),(50,.tup []),(49,.tup []),(48,.tup []),(47,.tup []),(46,.tup []),(45,.tup []),(44,.tup []),(43,.tup []),(42,.tup []),(41,.tup []),(40,.tup []),(39,.tup []),(38,.tup []),(37,.tup []),(36,.tup [])] (hK11 _ _ _ ⟨rfl,(by show AV.bool false=AV.bool ((decide ((lo:Int)<(X.length:Int)))&&((X.getD lo default)==nm));rw[hg12];rfl),trivial⟩ rfl rfl)
 refine Rt (.tup [.i lo,.bool ((decide ((lo:Int)<(X.length:Int)))&&((X.getD lo default)==nm))]) ?_
 · refine⟨[],List.nil_sublist _,_,lea_refl _,⟨lo,om,hL,fun j h1 h2=>hR j om h2,?_⟩,rfl⟩
   show AV.tup [_,AV.bool _]=AV.tup [_,AV.bool _]
   congr 3
   congr 1
   first
     |(rw[show decide (lo<X.length)=false from decide_eq_false om];simp_all;done)
     |(rw[show decide (lo<X.length)=true from decide_eq_true om];simp_all;done)
     |(simp_all;done)
open Go Go.Proofs
set_option maxRecDepth 100000
theorem kid_s {Z W:Hp} {i:Nat} {A B:List AV} {t:OT} (nm:Str) (a b:Nat) (hids:t.ids=some (a,b)) (hz:odH Z) (hi:i%2=1) (hp:Z.Perm ((i,A++otc t++B)::(own t++W))) (hnl:t.names.length=t.kids.length) (hns:t.names.length<2^40):DC G 119 [.ptr i A.length,.str nm] Z (fun r Z'=>Z'=Z/\r=okid t nm):=by
 refine DC_nd fun hnd=>?_
 have hgi:hgt Z i=some (A++otc t++B):=hgt_perm hnd hp (by simp)
 have hgn:hgt Z (2*a+1)=some (fl sc t.names):=hgt_perm hnd hp (by simp[own,hids])
 refine h_dc (F:=[(0,.ptr i A.length),(1,.str nm)]) ⟨hi,trivial,trivial⟩ hz Tryz.func119 kr kr ?_ kr
 refine Rr (Fn0 [0,1] [] (Rr (An1 3 [(8,.ptr i (A.length+3)),(7,.ptr i A.length),(6,.ptr i A.length)] (((1:Nat)≠0)/\·) ⟨dc,geln (t:=t) 9 25 i 3 (.osl (2*a+1) 1 0 t.names.length) (fun J=>by kernel_rfl) hgi kr (by rw[otc,hids];rfl) ?_⟩)))
 refine Bc0 2 [(10,.str nm)] 139 [.osl (2*a+1) 1 0 t.names.length,.str nm] 11 ?_
 refine PE.useB (vw_n nm hgn) (index_ok t.names nm om) rfl ?_
 refine Ke (Fn0 [0] [(5,.i (fndI nm t.names))] (Sq fun K3 hK3=>?_))
 refine Rm 22 ((decide ((fndI nm t.names:Int)<(0:Int)))||(decide ((t.kids.length:Int)<=fndI nm t.names))) [0,5] ?_ ?_
 refine An1 3 [(14,.bool (decide ((fndI nm t.names:Int)<(0:Int)))),(13,.bool (decide ((fndI nm t.names:Int)<(0:Int)))),(12,.i (fndI nm t.names))] (Ki/\·) ⟨rfl,Rg (fun hg5 g5=>?_) (fun hg5 g5=>?_)⟩
 refine Mn0 true (by rw[hg5];rfl)
 refine An1 4 [(18,.ptr i (A.length+4)),(17,.ptr i A.length),(16,.ptr i A.length),(15,.i (fndI nm t.names))] (((1:Nat)≠0)/\·) ⟨dc,geln (t:=t) 19 40 i 4 (.osl (2*b+1) 5 0 t.kids.length) (fun J=>by kernel_rfl) hgi kr (by rw[otc,hids];rfl) (Mn1 (decide ((t.kids.length:Int)<=fndI nm t.names)) (Ki/\·) ⟨rfl,(by rw[hg5];rfl)⟩)⟩
 refine Cc ((decide ((fndI nm t.names:Int)<(0:Int)))||(decide ((t.kids.length:Int)<=fndI nm t.names))) (fun hc6 c6=>?_) fun hc6 c6=>?_
 refine Rr (Fn0 [] [(4,.nilp)] (Rt (.nilp) (fin_dc .nilp Z (List.Sublist.refl _) (lea_refl _) trivial hz ⟨rfl,?_⟩)));rw[okid_no om]
 refine Sk (Jn (hK3 (Kp [0,5] (Rr (An1 3 [(25,.ptr i (A.length+4)),(24,.ptr i A.length),(23,.ptr i A.length)] (((1:Nat)≠0)/\·) ⟨dc,geln (t:=t) 26 40 i 4 (.osl (2*b+1) 5 0 t.kids.length) (fun J=>by kernel_rfl) hgi kr (by rw[otc,hids];rfl) (Fn1 [] [(4,.ptr (2*b+1) (0+((fndI nm t.names).toNat)*5))] ((5=5/\(0:Int)<=fndI nm t.names/\fndI nm t.names<(t.kids.length:Int))/\·) ⟨⟨rfl,om,om⟩,?_⟩)⟩)))))
 refine Rt (.ptr (2*b+1) (0+((fndI nm t.names).toNat)*5)) ?_
 obtain⟨k,e1,e2,e3⟩:=fndI_lt (n:=nm) (l:=t.names) om
 have e4:okid t nm=.ptr (2*b+1) (k*5):=by simp only[okid,hids,e1]
 refine fin_dc (okid t nm) Z (List.Sublist.refl _) ?_ (by rw[e4];simp only[od];omega) hz ⟨rfl,rfl⟩
 rw[e4,e2,Int.toNat_natCast,Nat.zero_add];exact lea_refl _
theorem kid_n {Z W:Hp} {i:Nat} {A B:List AV} {t:OT} (nm:Str) (hids:t.ids=none) (hz:odH Z) (hi:i%2=1) (hp:Z.Perm ((i,A++otc t++B)::(own t++W))) (hnl:t.names.length=t.kids.length) (hns:t.names.length<2^40):DC G 119 [.ptr i A.length,.str nm] Z (fun r Z'=>Z'=Z/\r=okid t nm):=by
 refine DC_nd fun hnd=>?_
 have hgi:hgt Z i=some (A++otc t++B):=hgt_perm hnd hp (by simp)
 
 refine h_dc (F:=[(0,.ptr i A.length),(1,.str nm)]) ⟨hi,trivial,trivial⟩ hz Tryz.func119 kr kr ?_ kr
 refine Rr (Fn0 [0,1] [] (Rr (An1 3 [(8,.ptr i (A.length+3)),(7,.ptr i A.length),(6,.ptr i A.length)] (((1:Nat)≠0)/\·) ⟨dc,geln (t:=t) 9 25 i 3 .nils (fun J=>by kernel_rfl) hgi kr (by rw[otc,hids];rfl) ?_⟩)))
 refine Bc0 2 [(10,.str nm)] 139 [.nils,.str nm] 11 ?_
 refine TCall_le [pth [],.str nm] (by simp[lea,leas,pth]) ?_;refine PE.use (index_ok [] nm (by simp)) ?_
 refine Ke (Fn0 [0] [(5,.i (fndI nm []))] (Sq fun K3 hK3=>?_))
 refine Rr (An1 3 [(14,.bool (decide ((fndI nm []:Int)<(0:Int)))),(13,.bool (decide ((fndI nm []:Int)<(0:Int)))),(12,.i (fndI nm []))] (Ki/\·) ⟨rfl,Rg (fun hg5 g5=>?_) (fun hg5 g5=>?_)⟩)
 refine Fn0 [0,5] [(22,.bool true)] (Ct (Rr (Fn0 [] [(4,.nilp)] (Rt (.nilp) ?_))))
 refine fin_dc .nilp Z (List.Sublist.refl _) (lea_refl _) trivial hz ⟨rfl,?_⟩;rw[okid_none hids]
 exfalso;have:fndI nm []= -1:=rfl;omega
theorem kid_ok {Z W:Hp} {i:Nat} {A B:List AV} {t:OT} (nm:Str) (hz:odH Z) (hi:i%2=1) (hp:Z.Perm ((i,A++otc t++B)::(own t++W))) (hnl:t.names.length=t.kids.length) (hns:t.names.length<2^40):DC G 119 [.ptr i A.length,.str nm] Z (fun r Z'=>Z'=Z/\r=okid t nm):=by
  rcases hids:t.ids with _|⟨a,b⟩
  · exact kid_n nm hids hz hi hp hnl hns
  · exact kid_s nm a b hids hz hi hp hnl hns
open Go Go.Proofs
set_option maxRecDepth 100000
theorem at_ok {Z W:Hp} {r:Nat} {A0 B0:List AV} {T:OT} (p:List Str) (hL:Lies Z r A0 B0 T W) (hp:p.length<2^40):DC G 98 [.ptr r A0.length,pth p] Z (fun r' Z'=>Z'=Z/\r'=oad (opos T r A0.length p)):=by
 refine DC_nd fun hnd=>?_
 refine h_dc (F:=[(0,.ptr r A0.length),(1,pth p)]) ⟨hL.r1,purs_pth p,trivial⟩ hL.odd Tryz.func98 kr kr ?_ kr
 refine Rr (Fn0 [0,1] [] (Sq fun K2 hK2=>?_))
 refine Rr (Av0 2 8 [(7,pth p)] (lnm p sc) (Fn0 [0,7,8] [(9,.i 0)] (Bl (h_lp (fun(z:Nat×Nat×Nat×OT)=>(match z with|(k,i,o,t)=>([(0,.ptr i o),(7,pth p),(8,.i p.length),(9,.i k)]:Fr))) (fun(z:Nat×Nat×Nat×OT)=>(match z with|(k,i,o,t)=>(Z:Hp))) (fun(z:Nat×Nat×Nat×OT) cn=>(match z with|(k,i,o,t)=>(opos T r A0.length (p.take k)=some (i,o)/\oat T (p.take k)=some t/\k<=p.length/\i%2=1)/\cn=0)) (fun(z:Nat×Nat×Nat×OT)=>p.length-z.1) (0,r,A0.length,T) kr ?_ ?_ ?_ ?_))))
 refine⟨?_,rfl⟩;exact⟨rfl,rfl,Nat.zero_le _,hL.r1⟩
 exact⟨kr,kr,kr,kr,trivial⟩
 exact(List.Sublist.refl _)
 rintro⟨k,i,o,t⟩ n1 hI
 (try dsimp only at hI)
 obtain⟨⟨h1,h2,hk,hi2⟩,rfl⟩:=hI
 refine Rr (Fn1 [0,7,8,9] [(10,.bool (decide ((k:Int)<(p.length:Int))))] (Ki/\·) ⟨rfl,Sq fun K5 hK5=>?_⟩)
 refine Cc (decide ((k:Int)<(p.length:Int))) (fun hc6 c6=>?_) fun hc6 c6=>?_
 refine Sk (Jn (hK5 (Kp [0,7,8,9] (Sq fun K7 hK7=>?_))))
 refine Bl (Rr (Av1 1 11 [] (congrArg AV.pat (mg_str p k om)) ((1=1/\(0:Int)<=(k:Int)/\(k:Int)<((p.map (fun s=>[AV.str s])).length:Int))/\·) ⟨⟨rfl,om,lmo⟩,Fn1 [0,7,8,9] [(6,.str (p.getD k default))] ((1<=1/\0<1)/\·) ⟨dc,Rr ?_⟩⟩))
 refine Bc0 3 [(14,.str (p.getD k default)),(13,.ptr i o)] 119 [.ptr i o,.str (p.getD k default)] 15 ?_
 obtain⟨i',A,B,Wo,q1,q2,q3,q4,q5,q6⟩:=hL.foc h2
 rw[h1]at q1;cases q1
 refine DC.use (kid_ok (t:=t) (p.getD k default) hL.odd q2 q3 q4 om) [] rfl trivial ?_
 rintro _ _ ⟨e1,rfl⟩
 rw[e1];clear e1
 have hop:opos T r A0.length (p.take (k+1))=opos t i A.length [p.getD k default]:=by
   rw[take_snoc p k default om,opos_snoc,h1,h2]
 have hot:oat T (p.take (k+1))=oat t [p.getD k default]:=by
   rw[take_snoc p k default om,oat_snoc,h2]
 rw[okid_oad t (p.getD k default) i A.length,<-hop]
 have hio:=opos_oat (r:=r) (o:=A0.length) (p:=p.take (k+1)) hL.wf hL.shp
 rcases hx:opos T r A0.length (p.take (k+1))with _|⟨j,o'⟩
 skip
 refine Ke (Fn0 [7,8,9] [(0,.nilp)] (Rr (Fn1 [0,7,8,9] [(17,.bool true)] ((∃e,TK.ptr 42=TK.ptr e)/\·) ⟨⟨_,rfl⟩,Ct ?_⟩)))
 refine Rr (Fn0 [] [(4,.nilp)] (Rt (.nilp) (fin_dc .nilp Z (List.Sublist.refl _) (lea_refl _) trivial hL.odd ⟨rfl,?_⟩)))
 rw[opos_cut (k+1) hx];rfl
 obtain⟨t',ht'⟩:∃t',oat T (p.take (k+1))=some t':=by rw[hx]at hio;exact Option.isSome_iff_exists.1 hio.symm
 refine Ke (Fn0 [7,8,9] [(0,.ptr j o')] (Rr (Fn1 [0,7,8,9] [(17,.bool false)] ((∃e,TK.ptr 42=TK.ptr e)/\·) ⟨⟨_,rfl⟩,Cf ?_⟩)))
 refine Sk (Bn (Jn (hK7 (Kp [0,7,8,9] (Rn (Av1 1 18 [] (cI (wn1 k om)) (Ki/\·) ⟨rfl,Gn0 [(9,.i ((k+1:Nat):Int))] (nk_n ?_)⟩))))))
 refine lk_mk (k+1,j,o',t') ?_ ⟨?_,rfl⟩ ⟨kr,kr,kr,kr,trivial⟩ (List.Sublist.refl _)
 (try dsimp only);omega
 exact⟨hx,ht',om,by obtain⟨_,_,_,_,e1,e2,_⟩:=hL.foc ht';rw[hx]at e1;cases e1;exact e2⟩
 refine Xt (Jx (Lkx (Bh (Jn (hK2 (Kp [0] (Rr (Fn0 [] [(4,.ptr i o)] (Rt (.ptr i o) (fin_dc (oad (opos T r A0.length p)) Z (List.Sublist.refl _) ?_ ?_ hL.odd ⟨rfl,rfl⟩))))))))))
 · rw[show opos T r A0.length p=some (i,o) by rw[<-h1,List.take_of_length_le om]];exact lea_refl _
 · rw[show opos T r A0.length p=some (i,o) by rw[<-h1,List.take_of_length_le om]];exact hi2
theorem parent_ok {Z W:Hp} {r:Nat} {A0 B0:List AV} {T:OT} (p:List Str) (hL:Lies Z r A0 B0 T W) (hp0:0<p.length) (hp:p.length<2^40):DC G 118 [.ptr r A0.length,pth p] Z (fun r' Z'=>Z'=Z/\r'=(match oat T (p.take (p.length-1))with|none=>AV.tup [.nilp,.i 3]|some u=>bif u.dir then .tup [oad (opos T r A0.length (p.take (p.length-1))),.i 0]else .tup [.nilp,.i 4])):=by
 refine DC_nd fun hnd=>?_
 have hq:p.take (((p.length:Int)-1).toNat)=p.take (p.length-1):=by congr 1;omega
 refine h_dc (F:=[(0,.ptr r A0.length),(1,pth p)]) ⟨hL.r1,purs_pth p,trivial⟩ hL.odd Tryz.func118 kr kr ?_ kr
 refine Rr (Fn0 [0,1] [] (Rr (Av0 4 10 [(9,pth p),(8,pth p),(7,.ptr r A0.length)] (lnm p sc) (Av1 (r:=.i (IntKind.i64.wrap ((p.length:Int)-1))) (v:=.i ((p.length:Int)-1)) 1 11 [] (cI (wrap64 om om)) (Ki/\·) ⟨rfl,?_⟩))))
 refine Av1 (r:=.sl 1 (((p.map (fun s=>[AV.str s])).take (((p.length:Int)-1).toNat)).drop 0)) (v:=pth (p.take (((p.length:Int)-1).toNat))) 1 12 [] (congrArg (AV.sl 1) (slm_0 _ _ _)) ((1=1/\0<=(0:Int)/\(0:Int)<=((p.length:Int)-1)/\((p.length:Int)-1)<=((p.map (fun s=>[AV.str s])).length:Int))/\·) ⟨⟨rfl,om,by(try rw[List.length_map]);omega,lmo⟩,Bc0 1 [] 98 [.ptr r A0.length,pth (p.take (((p.length:Int)-1).toNat))] 13 (DC.use (at_ok (p.take (((p.length:Int)-1).toNat)) hL (by first|omega|(simp only[List.length_take];omega))) [] rfl trivial ?_)⟩
 rintro _ _ ⟨e1,rfl⟩
 rw[e1];clear e1
 have hioai3:=opos_oat (r:=r) (o:=A0.length) (p:=(p.take (((p.length:Int)-1).toNat))) hL.wf hL.shp
 rcases huai3:oat T (p.take (((p.length:Int)-1).toNat))with _|uai3
 rw[huai3]at hioai3
 rw[show opos T r A0.length (p.take (((p.length:Int)-1).toNat))=none from Option.isNone_iff_eq_none.1 (by rw[<-Option.not_isSome,hioai3];rfl),show oad none=.nilp from rfl]
 refine Ke (Fn0 [] [(6,.nilp)] (Sq fun K4 hK4=>?_))
 refine Bl (Rr (Fn1 [6] [(14,.bool true)] ((∃e,TK.ptr 42=TK.ptr e)/\·) ⟨⟨_,rfl⟩,Ct (Rr ?_)⟩))
 refine Fn0 [] [(5,.i 3),(4,.nilp)] (Rt (.tup [.nilp,.i 3]) (fin_dc (.tup [.nilp,.i 3]) Z (List.Sublist.refl _) (lea_refl _) ⟨trivial,trivial,trivial⟩ hL.odd ⟨rfl,?_⟩))
 rw[hq]at*;simp_all
 obtain⟨ai3,Aai3,Bai3,Wai3,hoai3,hiai3,hpai3,hnai3,hsai3,hrai3⟩:=hL.foc huai3
 have hgai3:hgt Z ai3=some (Aai3++otc uai3++Bai3):=hgt_perm hnd hpai3 (by simp)
 rw[hoai3,show oad (some (ai3,Aai3.length))=.ptr ai3 Aai3.length from rfl]
 refine Ke (Fn0 [] [(6,.ptr ai3 Aai3.length)] (Sq fun K7 hK7=>?_))
 refine Bl (Rr (Fn1 [6] [(14,.bool false)] ((∃e,TK.ptr 42=TK.ptr e)/\·) ⟨⟨_,rfl⟩,Cf (Rr ?_)⟩))
 refine An1 3 [(20,.ptr ai3 Aai3.length),(19,.ptr ai3 Aai3.length),(18,.ptr ai3 Aai3.length)] (((1:Nat)≠0)/\·) ⟨dc,geln (t:=uai3) 21 4 ai3 0 (.bool uai3.dir) (fun J=>by kernel_rfl) hgai3 kr rfl (Cn0 (!uai3.dir) [6] [] ⟨fun hc10 c10=>?_,fun hc10 c10=>?_⟩)⟩
 refine Rr (Fn0 [] [(5,.i 4),(4,.nilp)] (Rt (.tup [.nilp,.i 4]) (fin_dc (.tup [.nilp,.i 4]) Z (List.Sublist.refl _) (lea_refl _) ⟨trivial,trivial,trivial⟩ hL.odd ⟨rfl,?_⟩)))
 rw[hq]at*;simp_all
 refine Sk (Bn (Jn (hK7 (Kp [6] (Rr (Fn0 [] [(5,.i 0),(4,.ptr ai3 Aai3.length)] (Rt (.tup [.ptr ai3 Aai3.length,.i 0]) (fin_dc (.tup [.ptr ai3 Aai3.length,.i 0]) Z (List.Sublist.refl _) (lea_refl _) ⟨by assumption,trivial,trivial⟩ hL.odd ⟨rfl,?_⟩))))))))
 rw[hq]at*;simp_all[oad]
open Go Go.Proofs
set_option maxRecDepth 100000
set_option maxHeartbeats 1000000 in
theorem put_ok {Z W:Hp} {i:Nat} {A B:List AV} {t:OT} (nm:Str) (x:OT) (a b:Nat) (hids:t.ids=some (a,b)) (hz:odH Z) (hi:i%2=1) (hp:Z.Perm ((i,A++otc t++B)::(own t++W))) (hnl:t.names.length=t.kids.length) (hns:t.names.length<2^36) (hasc:asc t.names=true):DC G 120 [.ptr i A.length,.str nm,.agg (otc x)] Z (fun _ Z'=>∃t':OT,Z'.Perm ((i,A++otc t'++B)::(own t'++W))/\odH Z'/\((∃j,j<t.names.length/\t.names.getD j default=nm/\t'=.mk t.dir t.mode t.data t.ids t.names (t.kids.set j x))\/∃j k k',j<=t.names.length/\(∀l,l<j->blt (t.names.getD l default) nm=true)/\(∀l,j<=l->l<t.names.length->blt (t.names.getD l default) nm=false)/\(j<t.names.length->t.names.getD j default≠nm)/\t'=(.mk t.dir t.mode t.data (some (k,k')) (t.names.take j++[nm]++t.names.drop j) (t.kids.take j++[x]++t.kids.drop j)))):=by
 refine DC_nd fun hnd=>?_
 have hgi:hgt Z i=some (A++otc t++B):=hgt_perm hnd hp (by simp)
 have hgn:hgt Z (2*a+1)=some (fl sc t.names):=hgt_perm hnd hp (by simp[own,hids])
 have hgk:hgt Z (2*b+1)=some (fl otc t.kids):=hgt_perm hnd hp (by simp[own,hids])
 have hsb:own t=[(2*a+1,fl sc t.names),(2*b+1,fl otc t.kids)]:=by simp only[own,hids]
 rw[hsb]at hp
 refine h_dc (F:=[(0,.ptr i A.length),(1,.str nm),(2,.agg (otc x))]) ⟨hi,trivial,ods_otc x,trivial⟩ hz Tryz.func120 kr kr ?_ kr
 refine Rr (Fn2 [0,1] [(5,.ptr 0 0)] ([(0,otc x)]++·) 4 (Rr (An1 3 [(11,.ptr i (A.length+3)),(10,.ptr i A.length),(9,.ptr i A.length)] (((1:Nat)≠0)/\·) ⟨dc,geln (t:=t) 12 25 i 3 (.osl (2*a+1) 1 0 t.names.length) (fun J=>by kernel_rfl) ((hgt_ev (E:=[(0,otc x)]) ⟨rfl,trivial⟩ hi).trans hgi) kr (by rw[otc,hids];rfl) ?_⟩)))
 refine Bc0 2 [(13,.str nm)] 140 [.osl (2*a+1) 1 0 t.names.length,.str nm] 14 ?_
 refine PC.useB (vw_n nm hgn) (bsearch_ok t.names nm om hasc) ?_
 rintro _ ⟨j,hj1,hj2,hj3,rfl⟩
 refine⟨rfl,?_⟩
 refine Ke (Fn1 [0,1,5] [(7,.bool (decide (j<t.names.length)&&t.names.getD j default==nm)),(6,.i j)] ((0<2)/\(1<2)/\·) ⟨dc,dc,Sq fun K3 hK3=>?_⟩)
 refine Rr (Cn0 (decide (j<t.names.length)&&t.names.getD j default==nm) [0,1,5,6] [] ⟨fun hc5 c5=>?_,fun hc5 c5=>?_⟩)
 have hj:j<t.names.length/\t.names.getD j default=nm:=by simpa using hc5
 refine Qr [0,1,3,7,0,0,63,127] [(0,[]),(1,[]),(2,[]),(3,[]),(4,[]),(5,[]),(6,[]),(7,[])] (qAn1 3 [(20,.ptr i (A.length+4)),(19,.ptr i A.length),(18,.ptr i A.length)] (((1:Nat)≠0)/\·) ⟨dc,gqln (t:=t) 21 40 i 4 (.osl (2*b+1) 5 0 t.kids.length) (fun J=>by kernel_rfl) ((hgt_ev (E:=[(0,otc x)]) ⟨rfl,trivial⟩ hi).trans hgi) kr (by rw[otc,hids];rfl) (qAn1 3 [(24,.ptr (2*b+1) (0+j*5)),(23,.agg (otc x)),(22,.i j)] ((0+5<=5/\0<5)/\(5=5/\(0:Int)<=(j:Int)/\(j:Int)<(t.kids.length:Int))/\·) ⟨dc,⟨rfl,om,om⟩,gqsr 42 (2*b+1) t.kids j x ((0,otc x)::(hset Z (2*b+1) (fl otc (t.kids.set j x)))) (fun J=>by kernel_rfl) ((hgt_ev (E:=[(0,otc x)]) ⟨rfl,trivial⟩ (show(2*b+1)%2=1 by omega)).trans hgk) kr om (hset_ev (E:=[(0,otc x)]) ⟨rfl,trivial⟩ (show(2*b+1)%2=1 by omega)) ?_⟩)⟩)
 refine qFn0 [] [] (Rt (.tup []) ?_)
 have hp5:=hset_perm (ds:=fl otc (t.kids.set j x)) hnd (show Z.Perm ((2*b+1,fl otc t.kids)::(i,A++otc t++B)::(2*a+1,fl sc t.names)::W)from hp.trans (by exact(List.Perm.cons _ (List.Perm.swap _ _ _)).trans (List.Perm.swap _ _ _)))
 have hz5:odH (hset Z (2*b+1) (fl otc (t.kids.set j x))):=odH_hset hz (ods_flO _) hnd
 refine fin_dc (.tup []) _ (by first|exact List.Sublist.refl _|exact List.Sublist.cons _ (List.Sublist.refl _)) (by first|exact lea_refl _|simp[lea,leas]) trivial hz5 ⟨.mk t.dir t.mode t.data t.ids t.names (t.kids.set j x),?_,hz5,.inl ⟨j,hj.1,hj.2,rfl⟩⟩
 have e1:otc (.mk t.dir t.mode t.data t.ids t.names (t.kids.set j x))=otc t:=by simp[otc]
 rw[e1]
 refine hp5.trans ?_
 simp only[own,OT.ids_mk,hids,OT.names_mk,OT.kids_mk]
 exact(List.Perm.swap _ _ _).trans (List.Perm.cons _ (List.Perm.swap _ _ _))
 refine Sk (Jn (hK3 (Kp [0,1,5,6] (Rr (An1 4 [(28,.ptr i (A.length+3)),(27,.ptr i A.length),(26,.ptr i A.length),(25,.ptr i A.length)] (((1:Nat)≠0)/\·) ⟨dc,geln (t:=t) 29 25 i 3 (.osl (2*a+1) 1 0 t.names.length) (fun J=>by kernel_rfl) ((hgt_ev (E:=[(0,otc x)]) ⟨rfl,trivial⟩ hi).trans hgi) kr (by rw[otc,hids];rfl) (Bc3 4 [(32,.osl 4 1 0 1),(31,.str nm),(30,.i j)] 141 [.osl (2*a+1) 1 0 t.names.length,.i j,.osl 4 1 0 1] 33 ([(4,[.str nm])]++·) 8 ((1*1<=16777216)/\·) ⟨dc,?_⟩)⟩)))))
 refine TCall.mono (ins_lift (fc:=sc) (X:=t.names) (Y:=t.names.take j++[nm]++t.names.drop j) (y:=nm) (E:=[(4,[.str nm]),(0,otc x)]) (Z:=Z) (a:=2*a+1) (b:=4) ⟨rfl,⟨rfl,trivial⟩⟩ hz hgn kr rfl (ods_flS _) ⟨trivial,trivial⟩ (ods_flS _) (by rw[flSl,Nat.mul_one]) (fun c hc=>insS sc_len t.names nm j c hj1 om hc) _) ?_
 rintro _ H1 _ _ ⟨rfl,k,hk,rfl,hH1⟩
 have hH2:H1=((0,otc x)::(hdel Z (2*a+1)++[(2*k+1,fl sc (t.names.take j++[nm]++t.names.drop j))])):=hH1
 clear hH1
 obtain⟨hp1,hnd1⟩:=put_p1 (Y:=fl sc (t.names.take j++[nm]++t.names.drop j)) hnd hp hk
 have hz1:odH (hdel Z (2*a+1)++[(2*k+1,fl sc (t.names.take j++[nm]++t.names.drop j))]):=odH_put hz (ods_flS _)
 generalize hZ1:hdel Z (2*a+1)++[(2*k+1,fl sc (t.names.take j++[nm]++t.names.drop j))]=Z1 at hH2 hp1 hnd1 hz1
 subst hH2
 clear hZ1
 have hg1:hgt Z1 i=some (A++otc t++B):=hgt_perm hnd1 hp1 (by simp)
 refine Ke (An1 2 [(35,.ptr i (A.length+3)),(34,.ptr i A.length)] (((1:Nat)≠0)/\·) ⟨dc,gesn (t:=t) 25 i 3 (.osl (2*k+1) 1 0 ((t.names.take j++[nm]++t.names.drop j).length)) (.mk t.dir t.mode t.data (some (k,b)) (t.names.take j++[nm]++t.names.drop j) t.kids) ((0,otc x)::(hset Z1 i (A++otc (.mk t.dir t.mode t.data (some (k,b)) (t.names.take j++[nm]++t.names.drop j) t.kids)++B))) (fun J=>by kernel_rfl) ((hgt_ev (E:=[(0,otc x)]) ⟨rfl,trivial⟩ hi).trans hg1) kr rfl (by simp only[otc,hids];rfl) (hset_ev (E:=[(0,otc x)]) ⟨rfl,trivial⟩ hi) ?_⟩)
 have hp2:=hset_perm (ds:=A++otc (.mk t.dir t.mode t.data (some (k,b)) (t.names.take j++[nm]++t.names.drop j) t.kids)++B) hnd1 hp1
 have hnd2:(ids (hset Z1 i (A++otc (.mk t.dir t.mode t.data (some (k,b)) (t.names.take j++[nm]++t.names.drop j) t.kids)++B))).Nodup:=by rw[hset_ids];exact hnd1
 have hz2:odH (hset Z1 i (A++otc (.mk t.dir t.mode t.data (some (k,b)) (t.names.take j++[nm]++t.names.drop j) t.kids)++B)):=odH_hset hz1 (ods_mid hz hp) hnd1
 generalize (hset Z1 i (A++otc (.mk t.dir t.mode t.data (some (k,b)) (t.names.take j++[nm]++t.names.drop j) t.kids)++B))=Z2 at hp2 hnd2 hz2⊢
 have hg2:hgt Z2 i=some (A++otc (.mk t.dir t.mode t.data (some (k,b)) (t.names.take j++[nm]++t.names.drop j) t.kids)++B):=hgt_perm hnd2 hp2 (by simp)
 refine Fn0 [0,5,6] [] (Qn [0,0,2,6,14,0,0,64,254,511,1023,2047] [(0,[]),(1,[]),(2,[]),(3,[]),(4,[]),(5,[]),(6,[]),(7,[4]),(8,[]),(9,[]),(10,[]),(11,[])] (qAn1 4 [(39,.ptr i (A.length+4)),(38,.ptr i A.length),(37,.ptr i A.length),(36,.ptr i A.length)] (((1:Nat)≠0)/\·) ⟨dc,gqln (t:=(.mk t.dir t.mode t.data (some (k,b)) (t.names.take j++[nm]++t.names.drop j) t.kids)) 40 40 i 4 (.osl (2*b+1) 5 0 t.kids.length) (fun J=>by kernel_rfl) ((hgt_ev (E:=[(0,otc x)]) ⟨rfl,trivial⟩ hi).trans hg2) kr rfl (qBc3 4 [(43,.osl 8 5 0 1),(42,.agg (otc x)),(41,.i j)] [] 142 [.osl (2*b+1) 5 0 t.kids.length,.i j,.osl 8 5 0 1] 44 ([(8,otc x)]++·) 12 ((0+5<=5/\0<5)/\(1*5<=16777216)/\((rR2 (ldr (tiq G 40) (.ptr i (A.length+4)) ((8,otc x)::(0,otc x)::Z2) 12) (fun x=>x=(.osl (2*b+1) 5 0 t.kids.length:AV)))/\True)/\·) ⟨dc,dc,⟨(rldn (t:=(.mk t.dir t.mode t.data (some (k,b)) (t.names.take j++[nm]++t.names.drop j) t.kids)) ((hgt_ev (E:=[(8,otc x),(0,otc x)]) ⟨rfl,⟨rfl,trivial⟩⟩ hi).trans hg2) kr rfl),trivial⟩,?_⟩)⟩))
 refine TCall.mono (ins_lift (fc:=otc) (X:=t.kids) (Y:=t.kids.take j++[x]++t.kids.drop j) (y:=x) (E:=[(8,otc x),(0,otc x)]) (Z:=Z2) (a:=2*b+1) (b:=8) ⟨rfl,⟨rfl,trivial⟩⟩ hz2 (hgt_perm hnd2 hp2 (by simp)) kr rfl (ods_flO _) (ods_otc _) (ods_flO _) (fl_len otc_len _) (fun c hc=>insT otc_len t.kids x j c om om hc) _) ?_
 rintro _ H1 _ _ ⟨rfl,k',hk',rfl,hH1⟩
 have hH2:H1=((0,otc x)::(hdel Z2 (2*b+1)++[(2*k'+1,fl otc (t.kids.take j++[x]++t.kids.drop j))])):=hH1
 clear hH1
 obtain⟨hp3,hnd3⟩:=put_p2 (Y:=fl otc (t.kids.take j++[x]++t.kids.drop j)) hnd2 hp2 hk'
 have hz3:odH (hdel Z2 (2*b+1)++[(2*k'+1,fl otc (t.kids.take j++[x]++t.kids.drop j))]):=odH_put hz2 (ods_flO _)
 generalize hZ3:hdel Z2 (2*b+1)++[(2*k'+1,fl otc (t.kids.take j++[x]++t.kids.drop j))]=Z3 at hH2 hp3 hnd3 hz3
 subst hH2
 clear hZ3
 have hg3:hgt Z3 i=some (A++otc (.mk t.dir t.mode t.data (some (k,b)) (t.names.take j++[nm]++t.names.drop j) t.kids)++B):=hgt_perm hnd3 hp3 (by simp)
 refine Kq (p:=(True)) trivial ?_
 refine qAn1 2 [(46,.ptr i (A.length+4)),(45,.ptr i A.length)] (((1:Nat)≠0)/\·) ⟨dc,gqsn (t:=(.mk t.dir t.mode t.data (some (k,b)) (t.names.take j++[nm]++t.names.drop j) t.kids)) 40 i 4 (.osl (2*k'+1) 5 0 ((t.kids.take j++[x]++t.kids.drop j).length)) (.mk t.dir t.mode t.data (some (k,k')) (t.names.take j++[nm]++t.names.drop j) (t.kids.take j++[x]++t.kids.drop j)) ((0,otc x)::(hset Z3 i (A++otc (.mk t.dir t.mode t.data (some (k,k')) (t.names.take j++[nm]++t.names.drop j) (t.kids.take j++[x]++t.kids.drop j))++B))) (fun J=>by kernel_rfl) ((hgt_ev (E:=[(0,otc x)]) ⟨rfl,trivial⟩ hi).trans hg3) kr rfl rfl (hset_ev (E:=[(0,otc x)]) ⟨rfl,trivial⟩ hi) ?_⟩
 have hp4:=hset_perm (ds:=A++otc (.mk t.dir t.mode t.data (some (k,k')) (t.names.take j++[nm]++t.names.drop j) (t.kids.take j++[x]++t.kids.drop j))++B) hnd3 hp3
 have hz4:odH (hset Z3 i (A++otc (.mk t.dir t.mode t.data (some (k,k')) (t.names.take j++[nm]++t.names.drop j) (t.kids.take j++[x]++t.kids.drop j))++B)):=odH_hset hz3 (ods_mid hz hp) hnd3
 generalize (hset Z3 i (A++otc (.mk t.dir t.mode t.data (some (k,k')) (t.names.take j++[nm]++t.names.drop j) (t.kids.take j++[x]++t.kids.drop j))++B))=Z4 at hp4 hz4⊢
 refine qGn0 [] (nk_n (Rtn (fun Z=>Z) (.tup []) (fin_dc (.tup []) Z4 (by first|exact List.Sublist.refl _|exact List.Sublist.cons _ (List.Sublist.refl _)) (by first|exact lea_refl _|simp[lea,leas]) trivial hz4 ⟨(.mk t.dir t.mode t.data (some (k,k')) (t.names.take j++[nm]++t.names.drop j) (t.kids.take j++[x]++t.kids.drop j)),hp4,hz4,.inr ⟨j,k,k',hj1,hj2,hj3,fun hl he=>?_,rfl⟩⟩)))
 rw[decide_eq_true hl,he,beq_self_eq_true]at hc5;cases hc5
open Go Go.Proofs
set_option maxRecDepth 100000
set_option maxHeartbeats 1000000 in
theorem drop_ok {Z W:Hp} {i:Nat} {A B:List AV} {t:OT} (nm:Str) (a b:Nat) (hids:t.ids=some (a,b)) (hz:odH Z) (hi:i%2=1) (hp:Z.Perm ((i,A++otc t++B)::(own t++W))) (hnl:t.names.length=t.kids.length) (hns:t.names.length<2^36):DC G 123 [.ptr i A.length,.str nm] Z (fun _ Z'=>Z'.Perm ((i,A++otc (match fnd nm t.names with|none=>t|some k=>(.mk t.dir t.mode t.data t.ids (t.names.take k++t.names.drop (k+1)) (t.kids.take k++t.kids.drop (k+1))))++B)::(own (match fnd nm t.names with|none=>t|some k=>(.mk t.dir t.mode t.data t.ids (t.names.take k++t.names.drop (k+1)) (t.kids.take k++t.kids.drop (k+1))))++W))/\odH Z'):=by
 refine DC_nd fun hnd=>?_
 have hgi:hgt Z i=some (A++otc t++B):=hgt_perm hnd hp (by simp)
 have hgn:hgt Z (2*a+1)=some (fl sc t.names):=hgt_perm hnd hp (by simp[own,hids])
 have hsb:own t=[(2*a+1,fl sc t.names),(2*b+1,fl otc t.kids)]:=by simp only[own,hids]
 rw[hsb]at hp
 refine h_dc (F:=[(0,.ptr i A.length),(1,.str nm)]) ⟨hi,trivial,trivial⟩ hz Tryz.func123 kr kr ?_ kr
 refine Rr (An1 3 [(7,.ptr i (A.length+3)),(6,.ptr i A.length),(5,.ptr i A.length)] (((1:Nat)≠0)/\·) ⟨dc,geln (t:=t) 8 25 i 3 (.osl (2*a+1) 1 0 t.names.length) (fun J=>by kernel_rfl) hgi kr (by rw[otc,hids];rfl) (Bc0 2 [(9,.str nm)] 139 [.osl (2*a+1) 1 0 t.names.length,.str nm] 10 (PE.useB (vw_n nm hgn) (index_ok t.names nm om) rfl ?_))⟩)
 refine Ke (Fn0 [0] [(4,.i (fndI nm t.names))] (Rr (Cn1 (decide ((0:Int)<=(fndI nm t.names:Int))) [0,4] [] (Ki/\·) ⟨rfl,fun hc3 c3=>?_,fun hc3 c3=>?_⟩)))
 obtain⟨k,e1,e2,e3⟩:=fndI_lt (n:=nm) (l:=t.names) om
 refine h_k [0,4] (F':=[(0,.ptr i A.length),(4,.i (fndI nm t.names))]) kr ?_
 refine h_st (F':=[(0,.ptr i A.length),(4,.i k)]) (H':=Z) (by rw[e2]) rfl ?_
 refine Rr (An1 4 [(16,.ptr i (A.length+3)),(15,.ptr i A.length),(14,.ptr i A.length),(13,.ptr i A.length)] (((1:Nat)≠0)/\·) ⟨dc,geln (t:=t) 17 25 i 3 (.osl (2*a+1) 1 0 t.names.length) (fun J=>by kernel_rfl) hgi kr (by rw[otc,hids];rfl) (Av1 3 20 [(19,.i k),(18,.i k)] (cI (wn1 k om)) (Ki/\·) ⟨rfl,Bc0 1 [] 143 [.osl (2*a+1) 1 0 t.names.length,.i k,.i ((k+1:Nat):Int)] 21 ?_⟩)⟩)
 refine TCall.mono (del_lift (fc:=sc) (X:=t.names) (Y:=t.names.take k++t.names.drop (k+1)) (E:=[]) (Z:=Z) (a:=2*a+1) trivial hz hgn rfl (ods_flS _) (ods_flS _) (fun c hc=>delS (fc:=sc) sc_len t.names k c om om hc) _) ?_
 rintro _ H1 _ _ ⟨rfl,rfl,hH1⟩
 have hH2:H1=hdel Z (2*a+1)++[(2*a+1,fl sc (t.names.take k++t.names.drop (k+1)))]:=hH1
 clear hH1
 obtain⟨hp1,hnd1⟩:=del_p1 (Y:=fl sc (t.names.take k++t.names.drop (k+1))) hnd hp
 have hz1:odH (hdel Z (2*a+1)++[(2*a+1,fl sc (t.names.take k++t.names.drop (k+1)))]):=odH_put (k:=a) hz (ods_flS _)
 generalize hZ1:hdel Z (2*a+1)++[(2*a+1,fl sc (t.names.take k++t.names.drop (k+1)))]=Z1 at hH2 hp1 hnd1 hz1
 rw[hH2];clear hH2
 clear hZ1
 have hg1:hgt Z1 i=some (A++otc t++B):=hgt_perm hnd1 hp1 (by simp)
 refine Ke (An1 2 [(23,.ptr i (A.length+3)),(22,.ptr i A.length)] (((1:Nat)≠0)/\·) ⟨dc,gesn (t:=t) 25 i 3 (.osl (2*a+1) 1 0 ((t.names.take k++t.names.drop (k+1)).length)) (.mk t.dir t.mode t.data (some (a,b)) (t.names.take k++t.names.drop (k+1)) t.kids) (hset Z1 i (A++otc (.mk t.dir t.mode t.data (some (a,b)) (t.names.take k++t.names.drop (k+1)) t.kids)++B)) (fun J=>by kernel_rfl) hg1 kr rfl (by simp only[otc,hids];rfl) rfl ?_⟩)
 have hp2:=hset_perm (ds:=A++otc (.mk t.dir t.mode t.data (some (a,b)) (t.names.take k++t.names.drop (k+1)) t.kids)++B) hnd1 hp1
 have hnd2:(ids (hset Z1 i (A++otc (.mk t.dir t.mode t.data (some (a,b)) (t.names.take k++t.names.drop (k+1)) t.kids)++B))).Nodup:=by rw[hset_ids];exact hnd1
 have hz2:odH (hset Z1 i (A++otc (.mk t.dir t.mode t.data (some (a,b)) (t.names.take k++t.names.drop (k+1)) t.kids)++B)):=odH_hset hz1 (ods_mid hz hp) hnd1
 generalize (hset Z1 i (A++otc (.mk t.dir t.mode t.data (some (a,b)) (t.names.take k++t.names.drop (k+1)) t.kids)++B))=Z2 at hp2 hnd2 hz2⊢
 have hg2:hgt Z2 i=some (A++otc (.mk t.dir t.mode t.data (some (a,b)) (t.names.take k++t.names.drop (k+1)) t.kids)++B):=hgt_perm hnd2 hp2 (by simp)
 refine Fn0 [0,4] [] (Rn (An1 4 [(27,.ptr i (A.length+4)),(26,.ptr i A.length),(25,.ptr i A.length),(24,.ptr i A.length)] (((1:Nat)≠0)/\·) ⟨dc,geln (t:=(.mk t.dir t.mode t.data (some (a,b)) (t.names.take k++t.names.drop (k+1)) t.kids)) 28 40 i 4 (.osl (2*b+1) 5 0 t.kids.length) (fun J=>by kernel_rfl) hg2 kr rfl (Av1 3 31 [(30,.i k),(29,.i k)] (cI (wn1 k om)) (Ki/\·) ⟨rfl,?_⟩)⟩))
 refine Bc0 1 [] 144 [.osl (2*b+1) 5 0 t.kids.length,.i k,.i ((k+1:Nat):Int)] 32 ?_
 refine TCall.mono (del_lift (fc:=otc) (X:=t.kids) (Y:=t.kids.take k++t.kids.drop (k+1)) (E:=[]) (Z:=Z2) (a:=2*b+1) trivial hz2 (hgt_perm hnd2 hp2 (by simp)) rfl (ods_flO _) (ods_flO _) (fun c hc=>delT (fc:=otc) otc_len t.kids k c om om hc) _) ?_
 rintro _ H1 _ _ ⟨rfl,rfl,hH1⟩
 have hH2:H1=hdel Z2 (2*b+1)++[(2*b+1,fl otc (t.kids.take k++t.kids.drop (k+1)))]:=hH1
 clear hH1
 obtain⟨hp3,hnd3⟩:=del_p2 (Y:=fl otc (t.kids.take k++t.kids.drop (k+1))) hnd2 hp2
 have hz3:odH (hdel Z2 (2*b+1)++[(2*b+1,fl otc (t.kids.take k++t.kids.drop (k+1)))]):=odH_put (k:=b) hz2 (ods_flO _)
 generalize hZ1:hdel Z2 (2*b+1)++[(2*b+1,fl otc (t.kids.take k++t.kids.drop (k+1)))]=Z3 at hH2 hp3 hnd3 hz3
 rw[hH2];clear hH2
 clear hZ1
 have hg3:hgt Z3 i=some (A++otc (.mk t.dir t.mode t.data (some (a,b)) (t.names.take k++t.names.drop (k+1)) t.kids)++B):=hgt_perm hnd3 hp3 (by simp)
 refine Ke (An1 2 [(34,.ptr i (A.length+4)),(33,.ptr i A.length)] (((1:Nat)≠0)/\·) ⟨dc,gesn (t:=(.mk t.dir t.mode t.data (some (a,b)) (t.names.take k++t.names.drop (k+1)) t.kids)) 40 i 4 (.osl (2*b+1) 5 0 ((t.kids.take k++t.kids.drop (k+1)).length)) (.mk t.dir t.mode t.data (some (a,b)) (t.names.take k++t.names.drop (k+1)) (t.kids.take k++t.kids.drop (k+1))) (hset Z3 i (A++otc (.mk t.dir t.mode t.data (some (a,b)) (t.names.take k++t.names.drop (k+1)) (t.kids.take k++t.kids.drop (k+1)))++B)) (fun J=>by kernel_rfl) hg3 kr rfl rfl rfl ?_⟩)
 have hp4:=hset_perm (ds:=A++otc (.mk t.dir t.mode t.data (some (a,b)) (t.names.take k++t.names.drop (k+1)) (t.kids.take k++t.kids.drop (k+1)))++B) hnd3 hp3
 have hz4:odH (hset Z3 i (A++otc (.mk t.dir t.mode t.data (some (a,b)) (t.names.take k++t.names.drop (k+1)) (t.kids.take k++t.kids.drop (k+1)))++B)):=odH_hset hz3 (ods_mid hz hp) hnd3
 generalize (hset Z3 i (A++otc (.mk t.dir t.mode t.data (some (a,b)) (t.names.take k++t.names.drop (k+1)) (t.kids.take k++t.kids.drop (k+1)))++B))=Z4 at hp4 hz4⊢
 refine Gn0 [] (nk_n (Rtn (fun Z=>Z) (.tup []) (fin_dc (.tup []) Z4 (List.Sublist.refl _) (by first|exact lea_refl _|simp[lea,leas]) trivial hz4 ⟨?_,hz4⟩)))
 rw[e1];simp only[hids];exact hp4
 refine Sk (Rtn (fun Z=>Z) (.tup []) (fin_dc (.tup []) Z (List.Sublist.refl _) (by first|exact lea_refl _|simp[lea,leas]) trivial hz ⟨?_,hz⟩))
 rw[fndI_no om];simp only[hsb];exact hp
open Go Go.Proofs
set_option maxRecDepth 100000
theorem clone_ok:∀(N:Nat) (t:Tr),t.W=N->t.W<2^40->DC G 82 [.agg (tcs t)] [] (ClR t):=by
 intro N;refine Nat.strongRecOn N fun N ih=>?_;intro t hN hw;rw[W_eq]at hN hw;have hks:=Ws_len t.kids;have hns:=wS_len t.names
 refine DC_nd fun hnd=>?_
 refine h_dc (F:=[(0,.agg (tcs t))]) (ods_tcs t) trivial Tryz.func82 kr kr ?_ kr
 refine Rr (Fn2 [] [(2,.ptr 4 0),(1,.ptr 0 0)] ([(4,zt),(0,tcs t)]++·) 8 (Rr (Fn3 [1,2] [(3,.osl 8 5 0 0)] ([(8,[])]++·) 12 ((0*5<=16777216)/\·) ⟨dc,Sq fun K3 hK3=>?_⟩)))
 refine Rr (Av1 3 9 [(8,.sl 5 (t.kids.map trc)),(7,.ptr 0 4)] (lnm t.kids trc) (((1:Nat)≠0)/\(4+1<=5/\4<5)/\·) ⟨dc,dc,Fn0 [1,2,3,8,9] [(10,.i 0)] (Bl (h_ls (fun(x:Nat×List OT)=>(match x with|(k,Ts)=>([(1,.ptr 0 0),(2,.ptr 4 0),(3,.osl 8 5 0 Ts.length),(8,.sl 5 (t.kids.map trc)),(9,.i t.kids.length),(10,.i k)]:Fr))) (fun(x:Nat×List OT)=>(match x with|(k,Ts)=>(((8,fl otc Ts)::(4,zt)::(0,tcs t)::(objss Ts)):Hp))) (fun(x:Nat×List OT) cn=>(match x with|(k,Ts)=>(Ts.map er=t.kids.take k/\shps Ts/\asms Ts/\k<=t.kids.length)/\cn=12)) (fun(x:Nat×List OT)=>t.kids.length-x.1) (0,[]) kr ?_ ?_ ?_ ?_))⟩)
 refine⟨?_,rfl⟩;exact⟨rfl,trivial,trivial,Nat.zero_le _⟩
 exact⟨kr,kr,kr,kr,kr,kr,trivial⟩
 exact(sub_c kr (sub_c kr (sub_c kr (List.Sublist.refl _))))
 rintro⟨k,Ts⟩ n1 hI
 (try dsimp only at hI)
 obtain⟨⟨h1,h2,h3,hk⟩,rfl⟩:=hI
 have hkl:Ts.length=k:=by have:=congrArg List.length h1;rw[List.length_map,tkl hk]at this;exact this
 refine Rr (Fn1 [1,2,3,8,9,10] [(11,.bool (decide ((k:Int)<(t.kids.length:Int))))] (Ki/\·) ⟨rfl,Sq fun K6 hK6=>?_⟩)
 refine Cc (decide ((k:Int)<(t.kids.length:Int))) (fun hc7 c7=>?_) fun hc7 c7=>?_
 refine Sk (Jn (hK6 (Kp [1,2,3,8,9,10] (Sq fun K8 hK8=>?_))))
 refine Bl (Rr (Av1 1 12 [] (congrArg AV.pat (mg_trc t.kids k om)) ((5=5/\(0:Int)<=(k:Int)/\(k:Int)<((t.kids.map trc).length:Int))/\·) ⟨⟨rfl,om,lmo⟩,Fn3 [1,2,3,8,9,10] [(5,.ptr 12 0)] ([(12,tcs (t.kids.getD k default))]++·) 16 ((5<=5/\0<5)/\(true=true/\5=5/\0+5<=5)/\·) ⟨dc,dc,Rb (fun h=>Bn (Jn (hK8 h))) ?_⟩⟩))
 refine Bc1 3 [(15,.agg (tcs (t.kids.getD k default))),(14,.osl 8 5 0 Ts.length)] 82 [.agg (tcs (t.kids.getD k default))] 16 ((0+5<=5/\0<5)/\·) ⟨dc,?_⟩
 have hW:=Ws_get t.kids k om
 refine TCall.mono (cl_use (View.refl _ _) (ih _ om (t.kids.getD k default) rfl om)) ?_
 rintro _ H1 _ _ ⟨rfl,T,hH1,he,hs,ha,rfl⟩
 have hH2:H1=((12,tcs (t.kids.getD k default))::(8,fl otc Ts)::(4,zt)::(0,tcs t)::objss (Ts++[T])):=by rw[hH1];simp only[objss_app,objss,List.append_nil,List.nil_append,List.cons_append]
 clear hH1;subst hH2
 refine Ke (An3 2 [(18,.osl 20 5 0 (Ts.length+1)),(17,.osl 16 5 0 1)] (fun _=>((20,apd (fl otc Ts) (Ts.length*5) (otc T))::(16,otc T)::(12,tcs (t.kids.getD k default))::(4,zt)::(0,tcs t)::(objss (Ts++[T])))) 24 ((1*5<=16777216)/\(0+1*5<=5)/\(5=5/\Ts.length*5<=(fl otc Ts).length/\0<80/\(Ts.length+1)*80<=140737488355328)/\·) ⟨dc,dc,⟨rfl,by(first|omega|(simp only[LL,fl_len otc_len];omega)),dc,by(first|omega|(simp only[LL,fl_len otc_len];omega))⟩,run_v (v':=.osl 20 5 0 ((Ts++[T]).length)) (push_len _ _ _ _) (run_h (cs':=fl otc (Ts++[T])) (push_ot Ts T) (Fn0 [1,2,8,9,10] [(3,.osl 20 5 0 ((Ts++[T]).length))] ?_))⟩)
 refine Rn (Av1 1 19 [] (cI (wn1 k om)) (Ki/\·) ⟨rfl,Gn0 [(10,.i ((k+1:Nat):Int))] (nk_n (lsz_mk (k+1,Ts++[T]) [(0,0),(4,4),(20,8)] 12 [(1,.ptr 0 0),(2,.ptr 4 0),(3,.osl 20 5 0 ((Ts++[T]).length)),(8,.sl 5 (t.kids.map trc)),(9,.i t.kids.length),(10,.i ((k+1:Nat):Int))] [(20,fl otc (Ts++[T])),(4,zt),(0,tcs t)] [(8,fl otc (Ts++[T])),(4,zt),(0,tcs t)] (objss (Ts++[T])) ?_ ?_ ⟨kr,kr⟩ ⟨kr,kr,kr,kr,kr,kr,trivial⟩ ⟨_,List.Perm.refl _,(List.Sublist.cons_cons _ (List.Sublist.cons _ (List.Sublist.cons _ (List.Sublist.cons_cons _ (List.Sublist.cons_cons _ (List.Sublist.refl _))))))⟩ ⟨?_,?_⟩ ⟨rfl,.inr ⟨ods_flO _,kr⟩,rfl,.inl (.inr ⟨by simp only[slps,slp,go_sem,and_self],kr⟩),rfl,.inl (.inr ⟨by simp only[tcs,slps,slp,go_sem,and_self],kr⟩),trivial⟩ kr (odH_objss _)))⟩)
 (try dsimp only);omega
 refine⟨?_,rfl⟩;exact⟨by rw[List.map_append,h1,List.map_cons,List.map_nil,he,take_snoc t.kids k default om],shps_app.2 ⟨h2,hs,trivial⟩,asms_app.2 ⟨h3,ha,trivial⟩,om⟩
 simp only[slF,slp,slps,go_sem,and_self]
 kernel_rfl
 refine Xt (Jx (Lsx (Bh (Jn (hK3 (Kp [1,2,3] (Rr (An3 4 [(23,.osl 16 1 0 (0+(t.names.map (fun s=>[AV.str s])).length)),(22,pth t.names),(21,.ptr 0 3),(20,.osl 12 1 0 0)] ([(16,apd [] (0*1) ((t.names.map (fun s=>[AV.str s])).flatten))]++·) 20 ((0*1<=16777216)/\((1:Nat)≠0)/\(3+1<=5/\3<5)/\True/\(1=1/\0*1<=0/\0<16/\(0+(t.names.map (fun s=>[AV.str s])).length)*16<=140737488355328)/\·) ⟨dc,dc,dc,trivial,⟨rfl,gl,dc,gl⟩,run_v (v':=.osl 16 1 0 t.names.length) (by rw[Nat.zero_add,List.length_map]) (run_h (cs':=fl sc t.names) (app0_str _) ?_)⟩))))))))
 refine Fn3 [1,2,3] [] (fun _=>((16,fl sc t.names)::(8,fl otc Ts)::(4,zt)::(0,(tr5 t (.osl 16 1 0 t.names.length) (.sl 5 (t.kids.map trc))))::(objss Ts))) 20 (((1:Nat)≠0)/\(true=true/\1=1/\3+1<=5)/\·) ⟨dc,dc,Rr (Fn3 [1,2] [] (fun _=>((16,fl sc t.names)::(8,fl otc Ts)::(4,zt)::(0,(tr5 t (.osl 16 1 0 t.names.length) (.osl 8 5 0 Ts.length)))::(objss Ts))) 20 (((1:Nat)≠0)/\(true=true/\1=1/\4+1<=5)/\·) ⟨dc,dc,h_pm (H':=((4,zt)::(0,(tr5 t (.osl 16 1 0 t.names.length) (.osl 8 5 0 Ts.length)))::(16,fl sc t.names)::(8,fl otc Ts)::(objss Ts))) (List.Perm.trans (List.Perm.cons _ (List.Perm.swap _ _ _)) (List.Perm.trans (List.Perm.cons _ (List.Perm.cons _ (List.Perm.swap _ _ _))) (List.Perm.trans (List.Perm.swap _ _ _) (List.Perm.cons _ (List.Perm.swap _ _ _))))) (h_k [1,2] (F':=[(1,.ptr 0 0),(2,.ptr 4 0)]) kr ?_)⟩)⟩
 refine Hn ((4,zt)::(0,(tr5 t (.osl 16 1 0 t.names.length) (.osl 8 5 0 Ts.length)))::(16,fl sc t.names)::(8,fl otc Ts)::(objss Ts)) (h_odd (H:=[(4,zt),(0,(tr5 t (.osl 16 1 0 t.names.length) (.osl 8 5 0 Ts.length))),(16,fl sc t.names),(8,fl otc Ts)]) 8 (fun jk=>[(1,.ptr 0 0),(2,.ptr 4 0)]) (fun jk=>[(4,zt),(0,(tr5 t (.osl 16 1 0 t.names.length) (.osl (2*jk+1) 5 0 Ts.length))),(16,fl sc t.names),((2*jk+1),fl otc Ts)]) kr (odH_objss Ts) (fun jk=>⟨by simp only[slF,slp,slps,go_sem,and_self],kr⟩) (fun jk=>⟨rfl,.inr ⟨by simp only[tcs,slps,slp,go_sem,and_self],kr⟩,rfl,.inr ⟨by simp only[tcs,slps,slp,go_sem,and_self],kr⟩,rfl,.inl ⟨ods_flS _,rfl⟩,rfl,.inl ⟨ods_flO _,rfl⟩,trivial⟩) (fun jk=>(h_k [1,2] (F':=[(1,.ptr 0 0),(2,.ptr 4 0)]) kr (Hn ((4,zt)::(0,(tr5 t (.osl 16 1 0 t.names.length) (.osl (2*jk+1) 5 0 Ts.length)))::(16,fl sc t.names)::(((2*jk+1),fl otc Ts)::(objss Ts))) (h_odd (H:=[(4,zt),(0,(tr5 t (.osl 16 1 0 t.names.length) (.osl (2*jk+1) 5 0 Ts.length))),(16,fl sc t.names)]) 16 (fun jn=>[(1,.ptr 0 0),(2,.ptr 4 0)]) (fun jn=>[(4,zt),(0,(tr5 t (.osl (2*jn+1) 1 0 t.names.length) (.osl (2*jk+1) 5 0 Ts.length))),((2*jn+1),fl sc t.names)]) kr ⟨om,ods_flO _,odH_objss Ts⟩ (fun jn=>⟨by simp only[slF,slp,slps,go_sem,and_self],kr⟩) (fun jn=>⟨rfl,.inr ⟨by simp only[tcs,slps,slp,go_sem,and_self],kr⟩,rfl,.inr ⟨by simp only[tcs,slps,slp,go_sem,and_self],by simp only[r1s,r1];rw[nbq (show 2*jk+1≠16 by omega)];rfl⟩,rfl,.inl ⟨ods_flS _,rfl⟩,trivial⟩) (fun jn=>?_))))))
 refine Rr (Fn3 [2] [] (fun _=>((4,(tr5 t (.osl (2*jn+1) 1 0 t.names.length) (.osl (2*jk+1) 5 0 Ts.length)))::(0,(tr5 t (.osl (2*jn+1) 1 0 t.names.length) (.osl (2*jk+1) 5 0 Ts.length)))::(((2*jn+1),fl sc t.names)::(((2*jk+1),fl otc Ts)::(objss Ts))))) 20 ((0+5<=5/\0<5)/\(true=true/\5=5/\0+5<=5)/\·) ⟨dc,dc,Rt1 ((0+5<=5/\0<5)/\·) (.agg (tr5 t (.osl (2*jn+1) 1 0 t.names.length) (.osl (2*jk+1) 5 0 Ts.length))) ⟨dc,fin_dc (.agg (otc (.mk t.dir t.mode t.data (some (jn,jk)) t.names Ts))) (objs (.mk t.dir t.mode t.data (some (jn,jk)) t.names Ts)) ?_ ?_ (ods_otc _) (odH_objs _) ⟨_,?_,?_,?_,rfl,rfl⟩⟩⟩)
 · simp only[objs,own,OT.ids_mk,OT.names_mk,OT.kids_mk]
   exact List.Sublist.cons _ (List.Sublist.cons _ (List.Sublist.refl _))
 · exact lea_refl _
 · rw[er_eq];simp only[OT.dir_mk,OT.mode_mk,OT.data_mk,OT.names_mk,OT.kids_mk];rw[h1,List.take_of_length_le om];cases t;rfl
 · exact(shp_eq _).2 ⟨fun h=>by simp at h,h2⟩
 · exact(asm_eq _).2 ⟨rfl,h3⟩
set_option maxRecDepth 100000
theorem blt_irr:∀a:Str,blt a a=false
 |[]=>by simp[blt,Op.bytesLess]
 |c::a=>by
  have:=blt_irr a
  simp only[blt,Op.bytesLess]at this⊢
  simp[this]
theorem zip_take_mem {ns:List Str} {ks:List Tr} {m:Nat} {e:Str×Tr} (h:e∈(ns.zip ks).take m):∃l,l<m/\l<ns.length/\e.1=ns.getD l default:=by
 obtain⟨l,hl,he⟩:=List.mem_iff_getElem.1 h
 simp only[List.length_take,List.length_zip]at hl
 refine⟨l,by omega,by omega,?_⟩
 rw[<-he,List.getElem_take,List.getElem_zip]
 simp[List.getD,show l<ns.length by omega]
theorem zip_drop_mem {ns:List Str} {ks:List Tr} {m:Nat} {e:Str×Tr} (h:e∈(ns.zip ks).drop m):∃l,m<=l/\l<ns.length/\e.1=ns.getD l default:=by
 obtain⟨l,hl,he⟩:=List.mem_iff_getElem.1 h
 simp only[List.length_drop,List.length_zip]at hl
 refine⟨m+l,by omega,by omega,?_⟩
 rw[<-he,List.getElem_drop,List.getElem_zip]
 simp[List.getD,show m+l<ns.length by omega]
section
variable {nm:Str} {g:Bool} {x:Tr} {r:Tr->Tr}
theorem fA1:∀(l:List (Str×Tr)) (a:List Str) (b:List Tr),(∀e∈l,blt e.1 nm=true)->l.foldl (sstp nm true false x r) (a,b,false)=(a++l.map (·.1),b++l.map (·.2),false)
 |[],a,b,_=>by simp
 |e::l,a,b,h=>by
  have h1:=h e (by simp)
  have h2:(e.1==nm)=false:=by
   cases hx:e.1==nm
   ·rfl
   ·rw[eq_of_beq hx,blt_irr]at h1;cases h1
  have e1:sstp nm true false x r (a,b,false) e=(a++[e.1],b++[e.2],false):=by simp[sstp,h1,h2]
  rw[List.foldl_cons,e1,fA1 l _ _ fun e' he=>h e' (by simp[he])]
  simp
theorem fA2:∀(l:List (Str×Tr)) (a:List Str) (b:List Tr),(∀e∈l,e.1≠nm)->l.foldl (sstp nm true g x r) (a,b,true)=(a++l.map (·.1),b++l.map (·.2),true)
 |[],a,b,_=>by simp
 |e::l,a,b,h=>by
  have h2:(e.1==nm)=false:=by simpa using h e (by simp)
  have e1:sstp nm true g x r (a,b,true) e=(a++[e.1],b++[e.2],true):=by simp[sstp,h2]
  rw[List.foldl_cons,e1,fA2 l _ _ fun e' he=>h e' (by simp[he])]
  simp
theorem fA3:∀(l:List (Str×Tr)) (a:List Str) (b:List Tr),(∀e∈l,e.1≠nm)->l.foldl (sstp nm true true x r) (a,b,false)=(a++l.map (·.1),b++l.map (·.2),false)
 |[],a,b,_=>by simp
 |e::l,a,b,h=>by
  have h2:(e.1==nm)=false:=by simpa using h e (by simp)
  have e1:sstp nm true true x r (a,b,false) e=(a++[e.1],b++[e.2],false):=by simp[sstp,h2]
  rw[List.foldl_cons,e1,fA3 l _ _ fun e' he=>h e' (by simp[he])]
  simp
theorem fA4:∀(l:List (Str×Tr)) (a:List Str) (b:List Tr) (c:Bool),l.foldl (sstp nm false g x r) (a,b,c)=(a++l.map (·.1),b++l.map (fun e=>bif e.1==nm then r e.2 else e.2),c)
 |[],a,b,c=>by simp
 |e::l,a,b,c=>by
  have e1:sstp nm false g x r (a,b,c) e=(a++[e.1],b++[bif e.1==nm then r e.2 else e.2],c):=by simp[sstp]
  rw[List.foldl_cons,e1,fA4 l]
  simp
end
theorem sA_all {p0:Str} {one g:Bool} {x:Tr} {r:Tr->Tr} {t:Tr}:sA p0 one g x r t t.names.length=(t.names.zip t.kids).foldl (sstp p0 one g x r) ([],[],false):=by
 unfold sA
 rw[List.take_of_length_le (by simp;omega)]
theorem zip_split {t:Tr} (hl:t.names.length=t.kids.length) {j:Nat} (hj:j<t.names.length):t.names.zip t.kids=(t.names.zip t.kids).take j++(t.names.getD j default,t.kids.getD j default)::(t.names.zip t.kids).drop (j+1):=by
 have hz:j<(t.names.zip t.kids).length:=by simp;omega
 have h1:(t.names.zip t.kids)[j]=(t.names.getD j default,t.kids.getD j default):=by
  rw[List.getElem_zip]
  simp[List.getD,hj,show j<t.kids.length by omega]
 rw[<-h1,<-List.drop_eq_getElem_cons hz,List.take_append_drop]
theorem zip_f (t:Tr) (hl:t.names.length=t.kids.length):(t.names.zip t.kids).map (·.1)=t.names/\(t.names.zip t.kids).map (·.2)=t.kids:=
 ⟨List.map_fst_zip (by omega),List.map_snd_zip (by omega)⟩
theorem tset_hit {t x:Tr} {nm:Str} {j:Nat} (hl:t.names.length=t.kids.length) (ha:asc t.names=true) (hj:j<t.names.length) (he:t.names.getD j default=nm):
  tset [nm] t x false=.mk t.dir t.mode t.data t.names (t.kids.set j x):=by
 obtain⟨z1,z2⟩:=zip_f t hl
 rw[tset,sA_all]
 rw[zip_split hl hj,List.foldl_append,List.isEmpty_nil]
 rw[fA1 _ _ _ (fun e he'=>by obtain⟨l,h1,h2,h3⟩:=zip_take_mem he';rw[h3,<-he];exact asc_lt ha h1 hj)]
 rw[List.foldl_cons]
 have e1:∀a b,sstp nm true false x (fun k=>tset [] k x false) (a,b,false) (t.names.getD j default,t.kids.getD j default)=(a++[nm],b++[x],true):=fun a b=>by
  simp only[sstp,he,blt_irr,beq_self_eq_true,Bool.and_self,Bool.not_false,cond_true,Bool.and_true]
 rw [e1, fA2 _ _ _ (fun e he'=>by
  obtain⟨l,h1,h2,h3⟩:=zip_drop_mem he'
  intro h4
  have:=asc_lt ha (show j<l by omega) h2
  rw[<-h3,h4,he,blt_irr]at this;cases this)]
 simp only[sE,List.map_take,List.map_drop,z1,z2,Bool.not_true,Bool.false_and,Bool.and_false,cond_false,List.nil_append]
 congr 1
 ·conv=>rhs;rw[get_split t.names j hj default,he]
  simp
 ·rw[set_split _ _ (by omega)];simp
theorem tset_new {t x:Tr} {nm:Str} {j:Nat} (hl:t.names.length=t.kids.length) (ha:asc t.names=true) (hj:j<=t.names.length) (h1:∀l,l<j->blt (t.names.getD l default) nm=true) (h2:∀l,j<=l->l<t.names.length->blt (t.names.getD l default) nm=false)
  (h3:j<t.names.length->t.names.getD j default≠nm):
  tset [nm] t x false=.mk t.dir t.mode t.data (t.names.take j++[nm]++t.names.drop j) (t.kids.take j++[x]++t.kids.drop j):=by
 obtain⟨z1,z2⟩:=zip_f t hl
 rw[tset,sA_all,List.isEmpty_nil]
 rcases Nat.lt_or_ge j t.names.length with hlt|hge
 ·rw[zip_split hl hlt,List.foldl_append]
  rw[fA1 _ _ _ (fun e he'=>by obtain⟨l,q1,q2,q3⟩:=zip_take_mem he';rw[q3];exact h1 l q1)]
  rw[List.foldl_cons]
  have hb:(t.names.getD j default==nm)=false:=by simpa using h3 hlt
  have e1:∀a b,sstp nm true false x (fun k=>tset [] k x false) (a,b,false) (t.names.getD j default,t.kids.getD j default)=(a++[nm]++[t.names.getD j default],b++[x]++[t.kids.getD j default],true):=fun a b=>by
   have:=h2 j (Nat.le_refl _) hlt
   simp only[sstp,hb,this,Bool.not_false,Bool.and_true,Bool.true_and,cond_true,Bool.false_and,cond_false]
  rw [e1, fA2 _ _ _ (fun e he'=>by
   obtain⟨l,q1,q2,q3⟩:=zip_drop_mem he'
   intro h4
   have:=asc_lt ha (show j<l by omega) q2
   rw[<-q3,h4,h2 j (Nat.le_refl _) hlt]at this;cases this)]
  simp only[sE,List.map_take,List.map_drop,z1,z2,Bool.not_true,Bool.false_and,Bool.and_false,cond_false,List.nil_append]
  congr 1
  ·conv=>rhs;rw[show t.names.drop j=t.names.getD j default::t.names.drop (j+1) by rw[List.drop_eq_getElem_cons hlt];simp[List.getD,hlt]]
   simp
  ·have hk:j<t.kids.length:=by omega
   conv=>rhs;rw[show t.kids.drop j=t.kids.getD j default::t.kids.drop (j+1) by rw[List.drop_eq_getElem_cons hk];simp[List.getD,hk]]
   simp
 ·rw [fA1 _ _ _ (fun e he'=>by
   obtain⟨l,q1,q2,q3⟩:=zip_drop_mem (m:=0) (by simpa using he')
   rw[q3];exact h1 l (by omega))]
  simp only[sE,z1,z2,Bool.not_false,Bool.true_and,Bool.and_true,cond_true,List.nil_append]
  congr 1
  ·rw[List.take_of_length_le (by omega),List.drop_eq_nil_of_le (by omega)];simp
  ·rw[List.take_of_length_le (by omega),List.drop_eq_nil_of_le (by omega)];simp
theorem tset_gone {t x:Tr} {nm:Str} {j:Nat} (hl:t.names.length=t.kids.length) (hn:t.names.Nodup) (hj:j<t.names.length) (he:t.names.getD j default=nm):
  tset [nm] t x true=.mk t.dir t.mode t.data (t.names.take j++t.names.drop (j+1)) (t.kids.take j++t.kids.drop (j+1)):=by
 obtain⟨z1,z2⟩:=zip_f t hl
 have hne:∀l,l<t.names.length->l≠j->t.names.getD l default≠nm:=by
  intro l h1 h2 h3
  rw[<-he]at h3
  simp only[List.getD,List.getElem?_eq_getElem h1,List.getElem?_eq_getElem hj,Option.getD_some]at h3
  have hp:=List.pairwise_iff_getElem.1 hn
  rcases Nat.lt_or_gt_of_ne h2 with h|h
  ·exact hp l j h1 hj h h3
  ·exact hp j l hj h1 h h3.symm
 rw[tset,sA_all,List.isEmpty_nil,zip_split hl hj,List.foldl_append]
 rw[fA3 _ _ _ (fun e he'=>by obtain⟨l,q1,q2,q3⟩:=zip_take_mem he';rw[q3];exact hne l q2 (by omega))]
 rw[List.foldl_cons]
 have e1:∀a b,sstp nm true true x (fun k=>tset [] k x true) (a,b,false) (t.names.getD j default,t.kids.getD j default)=(a,b,false):=fun a b=>by
  simp only[sstp,he,beq_self_eq_true,Bool.and_self,Bool.not_true,Bool.false_and,Bool.and_false,Bool.not_false,cond_true,cond_false]
 rw[e1,fA3 _ _ _ (fun e he'=>by obtain⟨l,q1,q2,q3⟩:=zip_drop_mem he';rw[q3];exact hne l q2 (by omega))]
 simp only[sE,List.map_take,List.map_drop,z1,z2,Bool.not_true,Bool.and_false,cond_false,List.nil_append]
theorem fnd_none {n:Str}:∀{l:List Str},fnd n l=none->n∉l
 |[],_=>by simp
 |m::l,h=>by
  rw[fnd]at h
  cases hm:m==n with
  |true=>rw[hm,if_pos rfl]at h;cases h
  |false=>
   rw[hm]at h
   simp only[Bool.false_eq_true,if_false,Option.map_eq_none_iff]at h
   have:=fnd_none h
   have h2:¬n=m:=fun e=>by rw[e,beq_self_eq_true]at hm;cases hm
   simp[h2,this]
theorem fnd_some {n:Str}:∀{l:List Str} {k:Nat},fnd n l=some k->l.getD k default=n
 |[],k,h=>by cases h
 |m::l,k,h=>by
  rw[fnd]at h
  cases hm:m==n with
  |true=>rw[hm,if_pos rfl]at h;cases h;exact eq_of_beq hm
  |false=>
   rw[hm]at h
   simp only[Bool.false_eq_true,if_false,Option.map_eq_some_iff]at h
   obtain⟨j,h1,rfl⟩:=h
   have:=fnd_some (l:=l) h1
   simpa using this
theorem nd_ne {l:List Str} (hn:l.Nodup) {i j:Nat} (hi:i<l.length) (hj:j<l.length) (h:i≠j):l.getD i default≠l.getD j default:=by
 intro h3
 simp only[List.getD,List.getElem?_eq_getElem hi,List.getElem?_eq_getElem hj,Option.getD_some]at h3
 have hp:=List.pairwise_iff_getElem.1 hn
 rcases Nat.lt_or_gt_of_ne h with h|h
 ·exact hp i j hi hj h h3
 ·exact hp j i hj hi h h3.symm
theorem asc_nd {l:List Str} (h:asc l=true):l.Nodup:=by
 refine List.pairwise_iff_getElem.2 fun i j hi hj hij e=>?_
 have:=asc_lt h hij hj
 simp only[List.getD,List.getElem?_eq_getElem hi,List.getElem?_eq_getElem hj,Option.getD_some]at this
 rw[e,blt_irr]at this;cases this
theorem tset_deep {t x:Tr} {n:Str} {p:List Str} {g:Bool} (hl:t.names.length=t.kids.length) (hn:t.names.Nodup) (hp:p≠[]):
  tset (n::p) t x g=match fnd n t.names with|some k=>.mk t.dir t.mode t.data t.names (t.kids.set k (tset p (t.kids.getD k default) x g))|none=>t:=by
 obtain⟨z1,z2⟩:=zip_f t hl
 have hpe:p.isEmpty=false:=by cases p with|nil=>exact absurd rfl hp|cons _ _=>rfl
 rw[tset,sA_all,hpe,fA4,z1]
 simp only[sE,Bool.false_and,cond_false,List.nil_append]
 cases hf:fnd n t.names with
 |none=>
  dsimp only
  have h0:=fnd_none hf
  have:(t.names.zip t.kids).map (fun e=>bif e.1==n then tset p e.2 x g else e.2)=t.kids:=by
   refine Eq.trans (List.map_congr_left fun e he=>?_) z2
   have h1:e.1∈t.names:=(List.of_mem_zip he).1
   have:(e.1==n)=false:=by
    cases hx:e.1==n
    ·rfl
    ·rw[eq_of_beq hx]at h1;exact absurd h1 h0
   rw[this];rfl
  rw[this];cases t;rfl
 |some k=>
  dsimp only
  have hk:=fnd_lt hf
  have hg:=fnd_some hf
  have:(t.names.zip t.kids).map (fun e=>bif e.1==n then tset p e.2 x g else e.2)=t.kids.set k (tset p (t.kids.getD k default) x g):=by
   refine List.ext_getElem (by simp[hl]) fun i h1 h2=>?_
   simp only[List.length_map,List.length_zip]at h1
   rw[List.getElem_map,List.getElem_zip,List.getElem_set]
   rcases Nat.decEq k i with hne|heq
   ·rw[if_neg hne]
    have:=nd_ne hn (show i<t.names.length by omega) hk (by omega)
    rw[hg]at this
    simp only[List.getD,List.getElem?_eq_getElem (show i<t.names.length by omega),Option.getD_some]at this
    rw[show(t.names[i]==n)=false by simpa using this];rfl
   ·subst heq
    rw[if_pos rfl]
    simp only[List.getD,List.getElem?_eq_getElem hk,Option.getD_some]at hg
    rw[hg,beq_self_eq_true]
    simp[List.getD,show k<t.kids.length by omega]
  rw[this]
mutual
def tnd:Tr->Prop|.mk _ _ _ ns ks=>ns.Nodup/\tnds ks
def tnds:List Tr->Prop|[]=>True|t::ts=>tnd t/\tnds ts
end
theorem tnd_eq (t:Tr):tnd t↔t.names.Nodup/\tnds t.kids:=by cases t;simp only[tnd,Tr.names,Tr.kids]
theorem tnds_app:∀{a b:List Tr},tnds (a++b)↔tnds a/\tnds b
 |[],b=>by simp[tnds]
 |x::a,b=>by simp only[List.cons_append,tnds,tnds_app (a:=a),and_assoc]
theorem tnds_get:∀{ks:List Tr},tnds ks->∀{k:Nat},k<ks.length->tnd (ks.getD k default)
 |[],_,k,hk=>by simp at hk
 |t::ts,h,0,_=>h.1
 |t::ts,h,k+1,hk=>tnds_get (ks:=ts) h.2 (by simpa using hk)
theorem tnds_set:∀{ks:List Tr},tnds ks->∀{k:Nat} {y:Tr},tnd y->tnds (ks.set k y)
 |[],_,k,y,_=>by simp[tnds]
 |t::ts,h,0,y,hy=>⟨hy,h.2⟩
 |t::ts,h,k+1,y,hy=>⟨h.1,tnds_set (ks:=ts) h.2 hy⟩
mutual
theorem tnd_parts:∀(t:Tr) (n:Int),partsOk t n=true->tnd t
 |.mk d m s ns ks,n,h=>by
  simp only[partsOk,Bool.and_eq_true]at h
  refine⟨?_,tnds_parts ks (n+1) h.2.2⟩
  have h1:=h.1
  simp only[plainOk,Tr.names_mk,Tr.kids_mk,Tr.dir_mk,Tr.data_mk,Bool.and_eq_true,decide_eq_true_eq]at h1
  have h7:=h1.2.2
  cases d with
  |true=>simp only[if_true,Bool.and_eq_true]at h7;exact asc_nd h7.2.1
  |false=>
   simp only[Bool.false_eq_true,if_false,Bool.and_eq_true]at h7
   have h8:ns=[]:=List.eq_nil_of_length_eq_zero (of_decide_eq_true h7.2)
   subst h8;exact List.nodup_nil
theorem tnds_parts:∀(ks:List Tr) (n:Int),partsOks ks n=true->tnds ks
 |[],_,_=>trivial
 |k::ks,n,h=>by
  simp only[partsOks,Bool.and_eq_true]at h
  exact⟨tnd_parts k n h.1,tnds_parts ks n h.2⟩
end
theorem tnd_ok {t:Tr} (h:treeOk t=true):tnd t:=by
 simp only[treeOk,Bool.and_eq_true]at h
 exact tnd_parts t 0 h.2.1
theorem parts_tat:∀{p:List Str} {t x:Tr} {n:Int},partsOk t n=true->tat t p=some x->∃m,partsOk x m=true
 |[],t,x,n,h,he=>by simp only[tat,Option.some.injEq]at he;exact⟨n,he▸h⟩
 |m::p,t,x,n,h,he=>by
  rw[tat_cons]at he
  rw[partsOk_eq]at h
  simp only[Bool.and_eq_true]at h
  cases hf:fnd m t.names with
  |none=>rw[hf]at he;cases he
  |some k=>
   rw[hf]at he
   have hl:t.names.length=t.kids.length:=by have:=h.1;simp only[plainOk,Bool.and_eq_true,decide_eq_true_eq]at this;exact this.2.1
   have hk:=fnd_lt hf
   exact parts_tat (all_getD _ t.kids k _ (by omega) h.2.2) he
theorem asc_tat {p:List Str} {t x:Tr} (h:treeOk t=true) (he:tat t p=some x):asc x.names=true:=by
 simp only[treeOk,Bool.and_eq_true]at h
 obtain⟨m,hm⟩:=parts_tat h.2.1 he
 rw[partsOk_eq]at hm
 simp only[Bool.and_eq_true]at hm
 have h1:=hm.1
 simp only[plainOk,Bool.and_eq_true,decide_eq_true_eq]at h1
 have h7:=h1.2.2
 cases hd:x.dir with
 |true=>rw[hd]at h7;simp only[if_true,Bool.and_eq_true]at h7;exact h7.2.1
 |false=>
  rw[hd]at h7
  simp only[Bool.false_eq_true,if_false,Bool.and_eq_true]at h7
  have h8:x.names=[]:=List.eq_nil_of_length_eq_zero (of_decide_eq_true h7.2)
  rw[h8];rfl
set_option maxRecDepth 100000
theorem er_mk (d:Bool) (m:Int) (s:Str) (i:Option (Nat×Nat)) (ns:List Str) (ks:List OT):er (.mk d m s i ns ks)=.mk d m s ns (ks.map er):=by simp only[er,ers_map]
theorem er_names (t:OT):(er t).names=t.names:=by rw[er_eq];rfl
theorem er_kids (t:OT):(er t).kids=t.kids.map er:=by rw[er_eq];rfl
theorem er_dir (t:OT):(er t).dir=t.dir:=by rw[er_eq];rfl
theorem er_mode (t:OT):(er t).mode=t.mode:=by rw[er_eq];rfl
theorem er_data (t:OT):(er t).data=t.data:=by rw[er_eq];rfl
theorem getD_er' (ks:List OT) (k:Nat):(ks.map er).getD k default=er (ks.getD k default):=getD_er ks k
theorem orep_tset {x:Tr} {g:Bool} {nm:Str}:∀(q:List Str) (T u u':OT),owf T->tnd (er T)->oat T q=some u->er u'=tset [nm] (er u) x g->er (orep T q u')=tset (q++[nm]) (er T) x g
 |[],T,u,u',_,_,he,hu=>by simp only[oat,Option.some.injEq]at he;subst he;exact hu
 |n::q,T,u,u',hw,hn,he,hu=>by
  rw[oat]at he
  rw[orep,List.cons_append,tset_deep (wf_len hw) ((tnd_eq _).1 hn).1 (by simp),er_names]
  cases hf:fnd n T.names with
  |none=>exact absurd he (by rw[hf];simp)
  |some k=>
   rw[hf]at he
   have hk:k<T.kids.length:=by rw[<-owf_len hw];exact fnd_lt hf
   have hn2:tnd (er (T.kids.getD k default)):=by
    have:=tnds_get ((tnd_eq _).1 hn).2 (k:=k) (by rw[er_kids];simpa using hk)
    rwa[er_kids,getD_er']at this
   dsimp only
   rw[er_mk,List.map_set,orep_tset q _ u u' (owf_kid hw hk) hn2 he hu,er_kids,getD_er',er_dir,er_mode,er_data]
theorem orep_snoc:∀(q:List Str) (T u y:OT) (nm:Str) (k:Nat),oat T q=some u->fnd nm u.names=some k->orep T (q++[nm]) y=orep T q (.mk u.dir u.mode u.data u.ids u.names (u.kids.set k y))
 |[],T,u,y,nm,k,he,hk=>by
  simp only[oat,Option.some.injEq]at he;subst he
  simp only[List.nil_append,orep,hk]
 |n::q,T,u,y,nm,k,he,hk=>by
  rw[oat]at he
  rw[List.cons_append,orep,orep]
  cases hf:fnd n T.names with
  |none=>rfl
  |some j=>
   rw[hf]at he
   dsimp only
   rw[orep_snoc q _ u y nm k he hk]
theorem shps_set:∀{ks:List OT},shps ks->∀{k:Nat} {y:OT},shp y->shps (ks.set k y)
 |[],_,k,y,_=>by simp[shps]
 |t::ts,h,0,y,hy=>⟨hy,h.2⟩
 |t::ts,h,k+1,y,hy=>⟨h.1,shps_set (ks:=ts) h.2 hy⟩
theorem asms_set:∀{ks:List OT},asms ks->∀{k:Nat} {y:OT},asm y->asms (ks.set k y)
 |[],_,k,y,_=>by simp[asms]
 |t::ts,h,0,y,hy=>⟨hy,h.2⟩
 |t::ts,h,k+1,y,hy=>⟨h.1,asms_set (ks:=ts) h.2 hy⟩
theorem orep_shp:∀{q:List Str} {T u u':OT},owf T->shp T->oat T q=some u->shp u'->shp (orep T q u')
 |[],T,u,u',_,_,_,h=>h
 |n::q,T,u,u',hw,hs,he,h=>by
  rw[oat]at he
  rw[orep]
  cases hf:fnd n T.names with
  |none=>exact hs
  |some k=>
   rw[hf]at he
   have hk:k<T.kids.length:=by rw[<-owf_len hw];exact fnd_lt hf
   have h1:=(shp_eq T).1 hs
   refine(shp_eq _).2 ⟨fun hi=>?_,shps_set h1.2 (orep_shp (owf_kid hw hk) (shps_get h1.2 hk) he h)⟩
   have:=(h1.1 hi).2
   rw[this]at hk;simp at hk
theorem orep_asm:∀{q:List Str} {T u u':OT},owf T->asm T->oat T q=some u->asm u'->asm (orep T q u')
 |[],T,u,u',_,_,_,h=>h
 |n::q,T,u,u',hw,hs,he,h=>by
  rw[oat]at he
  rw[orep]
  cases hf:fnd n T.names with
  |none=>exact hs
  |some k=>
   rw[hf]at he
   have hk:k<T.kids.length:=by rw[<-owf_len hw];exact fnd_lt hf
   have h1:=(asm_eq T).1 hs
   exact(asm_eq _).2 ⟨h1.1,asms_set h1.2 (orep_asm (owf_kid hw hk) (asms_get h1.2 hk) he h)⟩
theorem orep_tnd:∀{q:List Str} {T u u':OT},owf T->tnd (er T)->oat T q=some u->tnd (er u')->tnd (er (orep T q u'))
 |[],T,u,u',_,_,_,h=>h
 |n::q,T,u,u',hw,hs,he,h=>by
  rw[oat]at he
  rw[orep]
  cases hf:fnd n T.names with
  |none=>exact hs
  |some k=>
   rw[hf]at he
   have hk:k<T.kids.length:=by rw[<-owf_len hw];exact fnd_lt hf
   have h1:=(tnd_eq _).1 hs
   rw[er_names,er_kids]at h1
   have h2:=tnds_get h1.2 (k:=k) (by simpa using hk)
   rw[getD_er']at h2
   rw[er_mk,List.map_set]
   exact(tnd_eq _).2 ⟨h1.1,tnds_set h1.2 (orep_tnd (owf_kid hw hk) h2 he h)⟩
theorem osm_W:∀{B:Nat} (t:OT),(er t).W<=B->osm B t
 |B,.mk d m s i ns ks,h=>by
  simp only[er,Tr.W]at h
  have:=wS_len ns
  refine⟨by omega,osms_W ks (by omega)⟩
where osms_W:∀{B:Nat} (ks:List OT),Tr.Ws (ers ks)<=B->osms B ks
 |B,[],_=>trivial
 |B,t::ts,h=>by
  simp only[ers,Tr.Ws]at h
  exact⟨osm_W t (by omega),osms_W ts (by omega)⟩
section
variable {Z W:Hp} {r:Nat} {A0 B0:List AV} {T:OT}
def Lies' (Z:Hp) (r:Nat) (A0 B0:List AV) (T:OT) (W:Hp):Prop:=Z.Perm ((r,A0++otc T++B0)::(objs T++W))/\odH Z
theorem kidL {q:List Str} {u:OT} {i o:Nat} (nm:Str) (hL:Lies Z r A0 B0 T W) (hu:oat T q=some u) (ho:opos T r A0.length q=some (i,o)):
  DC G 119 [.ptr i o,.str nm] Z (fun r' Z'=>Z'=Z/\r'=oad (opos T r A0.length (q++[nm]))):=by
 obtain⟨i',A,B,Wo,q1,q2,q3,q4,q5,q6⟩:=hL.foc hu
 rw[ho]at q1;cases q1
 refine(kid_ok (t:=u) nm hL.odd q2 q3 q4 (by omega)).mono ?_
 rintro _ _ ⟨rfl,rfl⟩
 refine⟨rfl,?_⟩
 rw[okid_oad u nm i A.length,opos_snoc,ho,hu]
theorem objss_set {ks:List OT} {k:Nat} {x:OT} (hk:k<ks.length) (hx:objs x=objs (ks.getD k default)):objss (ks.set k x)=objss ks:=by
 conv=>rhs;rw[get_split ks k hk default]
 rw[set_split ks k hk,objss_app,objss_app]
 simp only[objss,hx]
theorem putL_hit {q:List Str} {u x:OT} {i o k a b:Nat} (nm:Str) (hL:Lies Z r A0 B0 T W) (hu:oat T q=some u) (ho:opos T r A0.length q=some (i,o)) (hids:u.ids=some (a,b)) (hasc:asc u.names=true) (hk:fnd nm u.names=some k) (hx:objs x=objs (u.kids.getD k default)):
  DC G 120 [.ptr i o,.str nm,.agg (otc x)] Z (fun _ Z'=>Lies' Z' r A0 B0 (orep T (q++[nm]) x) W):=by
 obtain⟨i',A,B,Wo,q1,q2,q3,q4,q5,q6⟩:=hL.foc hu
 rw[ho]at q1;cases q1
 refine(put_ok (t:=u) nm x a b hids hL.odd q2 q3 q4 q5 hasc).mono ?_
 rintro _ Z' ⟨t',hp,hz,h⟩
 have hkl:=fnd_lt hk
 have hkn:=fnd_some hk
 have ht':t'=.mk u.dir u.mode u.data u.ids u.names (u.kids.set k x):=by
  rcases h with ⟨j,h1,h2,h3⟩|⟨j,_,_,h1,h2,h3,h4,_⟩
  ·have:j=k:=by
    rcases Nat.decEq j k with hne|heq
    ·exact absurd (by rw[h2,hkn]) (nd_ne (asc_nd hasc) h1 hkl hne)
    ·exact heq
   rw[h3,this]
  ·exfalso
   rcases Nat.lt_trichotomy k j with hlt|heq|hgt
   ·have:=h2 k hlt;rw[hkn,blt_irr]at this;cases this
   ·subst heq;exact h4 hkl hkn
   ·have:=asc_lt hasc hgt hkl
    rw[hkn,h3 j (Nat.le_refl _) (by omega)]at this;cases this
 refine⟨?_,hz⟩
 rw[orep_snoc q T u x nm k hu hk]
 rw[ht']at hp
 refine hp.trans ((q6 _).trans ?_).symm
 rw[objs_eq]
 simp only[OT.kids_mk]
 rw[objss_set (by omega) hx,<-List.append_assoc (own _)]
theorem putL_new {q:List Str} {u x:OT} {i o a b:Nat} {W':Hp} (nm:Str) (hL:Lies Z r A0 B0 T W) (hu:oat T q=some u) (ho:opos T r A0.length q=some (i,o)) (hids:u.ids=some (a,b)) (hasc:asc u.names=true) (hk:fnd nm u.names=none) (hW:W.Perm (objs x++W')):
  DC G 120 [.ptr i o, .str nm, .agg (otc x)] Z (fun _ Z'=>∃(j k k':Nat) (u':OT),j<=u.names.length/\u'=.mk u.dir u.mode u.data (some (k,k')) (u.names.take j++[nm]++u.names.drop j) (u.kids.take j++[x]++u.kids.drop j)/\
   er u'=tset [nm] (er u) (er x) false/\Lies' Z' r A0 B0 (orep T q u') W'):=by
 obtain⟨i',A,B,Wo,q1,q2,q3,q4,q5,q6⟩:=hL.foc hu
 rw[ho]at q1;cases q1
 refine(put_ok (t:=u) nm x a b hids hL.odd q2 q3 q4 q5 hasc).mono ?_
 rintro _ Z' ⟨t',hp,hz,h⟩
 rcases h with ⟨j,h1,h2,h3⟩|⟨j,k,k',h1,h2,h3,h4,h5⟩
 ·exact absurd (by rw[<-h2];simp[List.getD,h1]) (fnd_none hk)
 ·refine⟨j,k,k',t',h1,h5,?_,?_,hz⟩
  ·rw[h5,tset_new (by rw[er_names,er_kids,List.length_map];exact q4) (by rw[er_names];exact hasc) (by rw[er_names];exact h1) (by rw[er_names];exact h2) (by rw[er_names];exact h3) (by rw[er_names];exact h4)]
   rw[er_mk,er_names,er_kids,er_dir,er_mode,er_data]
   simp only[List.map_append,List.map_take,List.map_drop,List.map_cons,List.map_nil]
  ·have e1:(objs t').Perm (own t'++(objs x++objss u.kids)):=by
    rw[objs_eq]
    refine List.Perm.append_left _ ?_
    rw[h5];simp only[OT.kids_mk]
    rw[List.append_assoc,objss_app,objss_app]
    conv=>rhs;rw[<-List.take_append_drop j u.kids,objss_app]
    simp only[objss,List.append_nil]
    rw[<-List.append_assoc,<-List.append_assoc]
    exact List.perm_append_comm.append_right _
   have e2:=q6 t'
   refine(List.perm_append_right_iff (objs x)).1 ?_
   have e3:(((r,A0++otc (orep T q t')++B0)::(objs (orep T q t')++W'))++objs x).Perm ((r,A0++otc (orep T q t')++B0)::(objs (orep T q t')++W)):=by
    rw[List.cons_append,List.append_assoc (objs (orep T q t'))]
    refine List.Perm.cons _ (List.Perm.append_left _ ?_)
    exact List.perm_append_comm.trans hW.symm
   refine List.Perm.trans ?_ e3.symm
   refine List.Perm.trans ?_ e2.symm
   refine(hp.append_right (objs x)).trans ?_
   rw[List.cons_append]
   refine List.Perm.cons _ ?_
   refine List.Perm.trans ?_ (e1.append_right Wo).symm
   simp only[List.append_assoc]
   refine List.Perm.append_left _ ?_
   rw[<-List.append_assoc (objss u.kids)]
   exact List.perm_append_comm
theorem dropL {q:List Str} {u:OT} {i o k a b:Nat} (nm:Str) (hL:Lies Z r A0 B0 T W) (hu:oat T q=some u) (ho:opos T r A0.length q=some (i,o)) (hids:u.ids=some (a,b)) (hk:fnd nm u.names=some k):
  DC G 123 [.ptr i o,.str nm] Z (fun _ Z'=>∃W',Lies' Z' r A0 B0 (orep T q (.mk u.dir u.mode u.data u.ids (u.names.take k++u.names.drop (k+1)) (u.kids.take k++u.kids.drop (k+1)))) W'):=by
 obtain⟨i',A,B,Wo,q1,q2,q3,q4,q5,q6⟩:=hL.foc hu
 rw[ho]at q1;cases q1
 refine(drop_ok (t:=u) nm a b hids hL.odd q2 q3 q4 q5).mono ?_
 rintro _ Z' ⟨hp,hz⟩
 rw[hk]at hp
 dsimp only at hp
 have hkl:k<u.kids.length:=by rw[<-q4];exact fnd_lt hk
 refine⟨W++objs (u.kids.getD k default),?_,hz⟩
 generalize hu':OT.mk u.dir u.mode u.data u.ids (u.names.take k++u.names.drop (k+1)) (u.kids.take k++u.kids.drop (k+1))=u' at hp⊢
 have e1:(objss u.kids).Perm (objss u'.kids++objs (u.kids.getD k default)):=by
  conv=>lhs;rw[get_split u.kids k hkl default]
  rw[<-hu',OT.kids_mk,objss_app,objss_app]
  simp only[objss,List.append_assoc]
  exact List.Perm.append_left _ List.perm_append_comm
 have e2:((r,A0++otc (orep T q u')++B0)::(objs (orep T q u')++(W++objs (u.kids.getD k default)))).Perm (((i,A++otc u'++B)::(objs u'++Wo))++objs (u.kids.getD k default)):=by
  have:=(q6 u').append_right (objs (u.kids.getD k default))
  rwa[List.cons_append,List.append_assoc (objs (orep T q u'))]at this
 refine List.Perm.trans ?_ e2.symm
 refine hp.trans ?_
 rw[List.cons_append]
 refine List.Perm.cons _ ?_
 rw[objs_eq u']
 simp only[List.append_assoc]
 refine List.Perm.append_left _ ?_
 refine(e1.append_right Wo).trans ?_
 rw[List.append_assoc]
 exact List.Perm.append_left _ List.perm_append_comm
end
end Go.Proofs.YtbfeplcaapiaoaaGreatT
