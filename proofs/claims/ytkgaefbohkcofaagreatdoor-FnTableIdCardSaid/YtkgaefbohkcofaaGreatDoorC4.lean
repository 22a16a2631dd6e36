/- A part of the proof that the tied card of FnTableId, on every two slices of bytes true, holds (no conditions): rules of the walk, and what the functions compute. -/
import Derived.Test.YtkgaefbohkcofaaGreatDoorC3
set_option linter.unusedVariables false
set_option linter.unusedSimpArgs false
namespace Go.Proofs.YtkgaefbohkcofaaGreatDoorT
open Go Go.Proofs
set_option maxRecDepth 100000
theorem W_sTreeDo (t:Tr) (c:Cl) (ht:t.W<2^12):(sTreeDo t c).1.W<2^12:=by
  unfold sTreeDo
  cases h:treeOk t<;>simp only[Bool.not_true,Bool.not_false,cond_true,cond_false]
  · rw[W_none];omega
  · cases h2:callOk c<;>simp only[Bool.not_true,Bool.not_false,cond_true,cond_false]
    · exact ht
    · rw[<-aDo_sDo h h2]
      unfold aDo
      cases callOk c<;>simp only[Bool.not_true,Bool.not_false,cond_true,cond_false]
      · exact ht
      cases decide ((iDo t c).2=(0:Int))<;>simp only[Bool.not_true,Bool.not_false,cond_true,cond_false]
      · exact ht
      cases h3:treeOk (iDo t c).1<;>simp only[Bool.not_true,Bool.not_false,cond_true,cond_false]
      · exact ht
      · exact Nat.lt_trans (W_ok h3) om
theorem l4Calls_ok (b:Str) (p:Nat) (t:Tr) (n:Nat) (hw:t.W<2^12) (hp:p<2^26) (hn:n<2^20) (hb:b.length<2^30):RC G 60 [.agg (tcs t),.i n] b p (fun r p'=>∃x:Tr,x.W<2^12/\r=.agg (tcs x)/\p'<=p+50*n):=by
 refine h_rc (F:=[(0,.ptr 0 0),(1,.agg (tcs t)),(2,.i n)]) (by simp only[go_sem]) Tryz.func60 kr kr ?_ kr
 refine Rr (Fn2 [0,2] [(6,.ptr 8 0),(4,.ptr 4 0)] ([(8,zt),(4,tcs t)]++·) 12 (Sq fun K2 hK2=>?_))
 refine Bl (h_l (fun(z:Tr×Nat×Nat)=>(match z with|(x,q,k)=>([(0,.ptr 0 0),(2,.i k),(4,.ptr 4 0),(6,.ptr 8 0)]:Fr))) (fun(z:Tr×Nat×Nat)=>(match z with|(x,q,k)=>([(8,zt),(4,tcs x),(0,rdc b q)]:Hp))) (fun(z:Tr×Nat×Nat) cn=>(match z with|(x,q,k)=>(x.W<2^12/\q+50*k<=p+50*n/\k<=n)/\cn=12)) (fun(z:Tr×Nat×Nat)=>z.2.2) (t,p,n) kr ?_ ?_ ?_ ?_)
 refine⟨?_,rfl⟩;exact⟨hw,om,om⟩
 exact⟨kr,kr,kr,kr,trivial⟩
 exact(sub_c kr (sub_c kr (sub_c kr (List.nil_sublist _))))
 rintro⟨x,q,k⟩ n1 hI
 (try dsimp only at hI)
 obtain⟨⟨hi1,hi2,hi3⟩,rfl⟩:=hI
 refine Sq fun K3 hK3=>?_
 refine Rr (Cn1 (decide ((0:Int)<((k:Int):Int))) [0,2,4,6] [] (Ki/\·) ⟨rfl,fun hc5 c5=>?_,fun hc5 c5=>?_⟩)
 refine Sk (Jn (hK3 (Kp [0,2,4,6] (Sq fun K6 hK6=>?_))))
 refine Bl (Qr [0,0,0,6,15,31,63,63,0,383,1023] [(0,[]),(1,[]),(2,[]),(3,[0]),(4,[]),(5,[]),(6,[]),(7,[]),(8,[0,2]),(9,[]),(10,[])] (qBc1 4 [(16,.agg (tcs x)),(15,.ptr 0 0),(14,.agg (tcs x))] [0] 24 [.ptr 0 0,.agg (tcs x)] 17 ((0+5<=5/\0<5)/\(0+5<=5/\0<5)/\·) ⟨dc,dc,RC.use (l4Call_ok b q x om om om) kr fun r q9 hr=>?_⟩));obtain⟨cl8,h0cl8,h1cl8,h2cl8,rfl,h3cl8⟩:=hr
 refine Kq (p:=(((0+5<=5/\0<5)/\(AV.agg (tcs x)=(.agg (tcs x):AV)))/\True)) ⟨⟨dc,rfl⟩,trivial⟩ ?_
 refine qBc0 1 [] [] 59 [.agg (tcs x),.agg (clc cl8)] 18 ?_
 have hB10:=W_sTreeDo x cl8 om
 refine PE.use (sTreeDo_ok x cl8 om (by first|omega|decide|(dsimp only;first|omega|decide)) (by first|omega|decide|(dsimp only;first|omega|decide)) (by first|omega|decide|(dsimp only;first|omega|decide))) ?_
 refine Kq (p:=(True)) trivial ?_
 refine qFn3 [0,2,4,6] [(8,.i ((sTreeDo x cl8).2)),(7,.ptr 12 0)] ([(12,tcs ((sTreeDo x cl8).1))]++·) 16 ((0<2)/\(1<2)/\(((0+5<=5/\0<5)/\(AV.agg (tcs x)=(.agg (tcs x):AV)))/\((0+5<=5/\0<5)/\(AV.agg (tcs x)=(.agg (tcs x):AV)))/\True)/\(true=true/\5=5/\0+5<=5)/\(True)/\·) ⟨dc,dc,⟨⟨dc,rfl⟩,⟨dc,rfl⟩,trivial⟩,dc,trivial,Rr (Cn1 (decide (((sTreeDo x cl8).2:Int)=(0:Int))) [0,2,4,6,7] [] (Ki/\·) ⟨rfl,fun hc12 c12=>?_,fun hc12 c12=>?_⟩)⟩
 refine Rb (fun h=>Bn (Jn (hK6 h))) (Fn3 [0,2,4,6] [] (Hw [(4,tcs ((sTreeDo x cl8).1))] [] ·) 16 ((0+5<=5/\0<5)/\(true=true/\5=5/\0+5<=5)/\·) ⟨dc,dc,Rn (Av1 (r:=.i (IntKind.i64.wrap ((k:Int)-1))) (v:=.i ((k:Int)-1)) 2 12 [(11,.i k)] (cI (wrap64 om om)) (Ki/\·) ⟨rfl,Gn0 [(2,.i ((k:Int)-1))] ?_⟩)⟩)
 refine nk_n (Lr (((sTreeDo x cl8).1),q9,k-1) [(0,0),(4,4),(8,8)] 12 [(0,.ptr 0 0),(2,.i ((k:Int)-1)),(4,.ptr 4 0),(6,.ptr 8 0)] [(8,zt),(4,tcs ((sTreeDo x cl8).1)),(0,rdc b q9)] [true,true,true] ?_ ?_ kr (by(try rw[show((k:Int)-1)=((k-1:Nat):Int) by omega]);try kernel_rfl))
 (try dsimp only);omega
 refine⟨?_,rfl⟩;(try dsimp only);exact⟨om,om,om⟩
 refine Sk (Bn (Jn (hK6 (Kp [0,2,4,6] (Rn (Av1 (r:=.i (IntKind.i64.wrap ((k:Int)-1))) (v:=.i ((k:Int)-1)) 2 12 [(11,.i k)] (cI (wrap64 om om)) (Ki/\·) ⟨rfl,Gn0 [(2,.i ((k:Int)-1))] (nk_n ?_)⟩))))))
 refine Lr (x,q9,k-1) [(0,0),(4,4),(8,8)] 12 [(0,.ptr 0 0),(2,.i ((k:Int)-1)),(4,.ptr 4 0),(6,.ptr 8 0)] [(8,zt),(4,tcs x),(0,rdc b q9)] [true,true,true] ?_ ?_ kr (by(try rw[show((k:Int)-1)=((k-1:Nat):Int) by omega]);try kernel_rfl)
 (try dsimp only);omega
 refine⟨?_,rfl⟩;(try dsimp only);exact⟨om,om,om⟩
 refine Xt (Jx (Lx (Bh (Jn (hK2 (Kp [4,6] (Rr (Fn3 [6] [] (Hw [(8,tcs x)] [] ·) 12 ((0+5<=5/\0<5)/\(true=true/\5=5/\0+5<=5)/\·) ⟨dc,dc,Rt1 ((0+5<=5/\0<5)/\·) (.agg (tcs x)) ⟨dc,?_⟩⟩))))))))
 exact fin_rc q (by first|exact lea_refl _|simp[lea,leas,pth,tcs]) (by simp only[go_sem]) kr ⟨x,om,rfl,om⟩
theorem l4Tree_ok (b:Str) (p:Nat) (hp:p<2^25) (hb:b.length<2^30):RC G 32 [] b p (fun r p'=>∃x:Tr,x.W<2^12/\r=.agg (tcs x)/\p'<=p+1000):=by
 refine h_rc (F:=[(0,.ptr 0 0)]) (by simp only[go_sem]) Tryz.func32 kr kr ?_ kr
 refine Rr (Fn2 [0] [(2,.ptr 4 0)] ([(4,zt)]++·) 8 (Rr (Bc0 2 [(8,.ptr 0 0)] 30 [.ptr 0 0,.i 8] 9 (RC.use (pick_ok b p 8 om om om om) kr fun r p1 hr=>?_))));obtain⟨pk3,hpk3,rfl,rfl⟩:=hr
 refine Ke (Bc0 2 [(10,.ptr 0 0)] 30 [.ptr 0 0,.i 2] 11 (RC.use (pick_ok b (p+1) 2 om om om om) kr fun r p1 hr=>?_));obtain⟨pk4,hpk4,rfl,rfl⟩:=hr
 refine Ke ?_
 have hm5:=Nat.mul_lt_mul'' hpk3 hpk4
 refine Av1 1 12 [] (cI (wnm pk3 pk4 om)) (Ki/\·) ⟨rfl,Fn3 [0,2] [(3,.ptr 8 0)] ([(8,[.bool true,.i ((pk3*pk4:Nat):Int),.str [],.nils,.nils])]++·) 12 ((true=true/\5=5/\0+5<=5)/\·) ⟨dc,Sq fun K6 hK6=>?_⟩⟩
 refine Rr (Bc0 2 [(14,.ptr 0 0)] 30 [.ptr 0 0,.i 12] 15 (RC.use (pick_ok b (p+1+1) 12 om om om om) kr fun r p1 hr=>?_));obtain⟨pk8,hpk8,rfl,rfl⟩:=hr
 refine Ke (Fn0 [0,2,3] [(4,.i pk8)] (Bl (Hn [(8,[.bool true,.i ((pk3*pk4:Nat):Int),.str [],.nils,.nils]),(4,zt),(0,rdc b (p+1+1+1))] (h_lo (H':=[(8,tcs ((Tr.mk true ((pk3*pk4:Nat):Int) [] [] []))),(4,zt),(0,rdc b (p+1+1+1))]) ⟨⟨rfl,(by simp[lea,leas,pth,tcs,clc])⟩,⟨rfl,leas_refl _⟩,⟨rfl,leas_refl _⟩,trivial⟩ ?_))))
 refine h_l (fun(z:Tr×Nat×Nat)=>(match z with|(x,q,k)=>([(0,.ptr 0 0),(2,.ptr 4 0),(3,.ptr 8 0),(4,.i k)]:Fr))) (fun(z:Tr×Nat×Nat)=>(match z with|(x,q,k)=>([(8,tcs x),(4,zt),(0,rdc b q)]:Hp))) (fun(z:Tr×Nat×Nat) cn=>(match z with|(x,q,k)=>(x.W<2^12/\q+20*k<=p+600/\k<=12)/\cn=12)) (fun(z:Tr×Nat×Nat)=>z.2.2) (((Tr.mk true ((pk3*pk4:Nat):Int) [] [] [])),p+1+1+1,pk8) kr ?_ ?_ ?_ ?_
 refine⟨?_,rfl⟩;exact⟨by simp[Tr.W,wS,Tr.Ws],om,om⟩
 exact⟨kr,kr,kr,kr,trivial⟩
 exact(sub_c kr (sub_c kr (sub_c kr (List.nil_sublist _))))
 rintro⟨x,q,k⟩ n1 hI
 (try dsimp only at hI)
 obtain⟨⟨hi1,hi2,hi3⟩,rfl⟩:=hI
 refine Sq fun K9 hK9=>?_
 refine Rr (Cn1 (decide ((0:Int)<((k:Int):Int))) [0,2,3,4] [] (Ki/\·) ⟨rfl,fun hc11 c11=>?_,fun hc11 c11=>?_⟩)
 refine Sk (Jn (hK9 (Kp [0,2,3,4] (Sq fun K12 hK12=>?_))))
 refine Bl (Qr [0,1,3,0,0,27,63,0,255] [(0,[]),(3,[]),(4,[]),(1,[4]),(2,[]),(5,[]),(6,[]),(7,[4]),(8,[])] (qBc1 4 [(24,.agg (tcs x)),(23,.ptr 0 0),(20,.ptr 0 0)] [4] 30 [.ptr 0 0,.i 2] 21 ((0+5<=5/\0<5)/\·) ⟨dc,RC.use (pick_ok b q 2 om om om om) kr fun r p1 hr=>?_⟩));obtain⟨pk14,hpk14,rfl,rfl⟩:=hr
 refine Kq (p:=(((0+5<=5/\0<5)/\(AV.agg (tcs x)=(.agg (tcs x):AV)))/\True)) ⟨⟨dc,rfl⟩,trivial⟩ ?_
 refine qAv1 1 22 [] (cI (wnn 1 pk14 om)) (Ki/\·) ⟨rfl,qBc0 1 [] [] 44 [.ptr 0 0,.agg (tcs x)] 25 (RC.use (l4Path_ok b (q+1) x om om om) kr fun r q16 hr=>?_)⟩;obtain⟨o15,h0o15,h1o15,h2o15,rfl,h3o15⟩:=hr
 refine Kq (p:=(True)) trivial ?_
 refine qFn3 [0,2,3,4] [(5,.ptr 12 0)] ([(12,[.i ((1+pk14:Nat):Int),pth o15,.nils,.i 0,.str []])]++·) 16 ((((0+5<=5/\0<5)/\(AV.agg (tcs x)=(.agg (tcs x):AV)))/\True)/\(true=true/\5=5/\0+5<=5)/\(True)/\·) ⟨⟨⟨dc,rfl⟩,trivial⟩,dc,trivial,Sq fun K17 hK17=>?_⟩
 refine Rr (Cn1 (decide (((1+pk14:Nat):Int)=2)) [0,2,3,4,5] [] (((1:Nat)≠0)/\(0+1<=5/\0<5)/\Ki/\·) ⟨dc,dc,rfl,fun hc19 c19=>?_,fun hc19 c19=>?_⟩)
 refine Rb (fun h=>Jn (hK17 h)) (Bc0 2 [(30,.ptr 0 0)] 45 [.ptr 0 0] 31 (RC.use (l4Data_ok b q16 om om) kr fun r p1 hr=>?_));obtain⟨ds20,hds20,rfl,rfl⟩:=hr
 refine Ke (Fn3 [0,2,3,4,5] [] (Hw [(12,[.i ((1+pk14:Nat):Int),pth o15,.nils,.i 0,.str ds20])] [] ·) 16 (((1:Nat)≠0)/\(true=true/\1=1/\4+1<=5)/\·) ⟨dc,dc,Rr (Bc1 3 [(35,.agg [.i ((1+pk14:Nat):Int),pth o15,.nils,.i 0,.str ds20]),(34,.agg (tcs x))] 59 [.agg (tcs x),.agg [.i ((1+pk14:Nat):Int),pth o15,.nils,.i 0,.str ds20]] 36 ((0+5<=5/\0<5)/\(0+5<=5/\0<5)/\·) ⟨dc,dc,?_⟩)⟩)
 have hB22:=W_sTreeDo x (Cl.mk ((1+pk14:Nat):Int) o15 [] 0 ds20) om
 refine TCall_le [.agg (tcs x),.agg (clc (Cl.mk ((1+pk14:Nat):Int) o15 [] 0 ds20))] (by simp[lea,leas,pth,Tr.none,tcs,clc]) ?_
 refine PE.use (sTreeDo_ok x (Cl.mk ((1+pk14:Nat):Int) o15 [] 0 ds20) om (by first|omega|decide|(dsimp only;first|omega|decide)) (by first|omega|decide|(dsimp only;first|omega|decide)) (by first|omega|decide|(dsimp only;first|omega|decide))) ?_
 refine Ke (Fn3 [0,2,3,4] [(7,.i ((sTreeDo x (Cl.mk ((1+pk14:Nat):Int) o15 [] 0 ds20)).2)),(6,.ptr 16 0)] ([(16,tcs ((sTreeDo x (Cl.mk ((1+pk14:Nat):Int) o15 [] 0 ds20)).1))]++·) 20 ((0<2)/\(1<2)/\(true=true/\5=5/\0+5<=5)/\·) ⟨dc,dc,dc,Rr (Cn1 (decide (((sTreeDo x (Cl.mk ((1+pk14:Nat):Int) o15 [] 0 ds20)).2:Int)=(0:Int))) [0,2,3,4,6] [] (Ki/\·) ⟨rfl,fun hc24 c24=>?_,fun hc24 c24=>?_⟩)⟩)
 refine Rb (fun h=>Bn (Jn (hK12 h))) (Fn3 [0,2,3,4] [] (Hw [(8,tcs ((sTreeDo x (Cl.mk ((1+pk14:Nat):Int) o15 [] 0 ds20)).1))] [] ·) 20 ((0+5<=5/\0<5)/\(true=true/\5=5/\0+5<=5)/\·) ⟨dc,dc,Rn (Av1 (r:=.i (IntKind.i64.wrap ((k:Int)-1))) (v:=.i ((k:Int)-1)) 2 19 [(18,.i k)] (cI (wrap64 om om)) (Ki/\·) ⟨rfl,Gn0 [(4,.i ((k:Int)-1))] ?_⟩)⟩)
 refine nk_n (Lr (((sTreeDo x (Cl.mk ((1+pk14:Nat):Int) o15 [] 0 ds20)).1),q16+1+1,k-1) [(0,0),(4,4),(8,8)] 12 [(0,.ptr 0 0),(2,.ptr 4 0),(3,.ptr 8 0),(4,.i ((k:Int)-1))] [(8,tcs ((sTreeDo x (Cl.mk ((1+pk14:Nat):Int) o15 [] 0 ds20)).1)),(4,zt),(0,rdc b (q16+1+1))] [true,true,true] ?_ ?_ kr (by(try rw[show((k:Int)-1)=((k-1:Nat):Int) by omega]);try kernel_rfl))
 (try dsimp only);omega
 refine⟨?_,rfl⟩;(try dsimp only);exact⟨om,om,om⟩
 refine Sk (Bn (Jn (hK12 (Kp [0,2,3,4] (Rn (Av1 (r:=.i (IntKind.i64.wrap ((k:Int)-1))) (v:=.i ((k:Int)-1)) 2 19 [(18,.i k)] (cI (wrap64 om om)) (Ki/\·) ⟨rfl,Gn0 [(4,.i ((k:Int)-1))] (nk_n ?_)⟩))))))
 refine Lr (x,q16+1+1,k-1) [(0,0),(4,4),(8,8)] 12 [(0,.ptr 0 0),(2,.ptr 4 0),(3,.ptr 8 0),(4,.i ((k:Int)-1))] [(8,tcs x),(4,zt),(0,rdc b (q16+1+1))] [true,true,true] ?_ ?_ kr (by(try rw[show((k:Int)-1)=((k-1:Nat):Int) by omega]);try kernel_rfl)
 (try dsimp only);omega
 refine⟨?_,rfl⟩;(try dsimp only);exact⟨om,om,om⟩
 refine Sk (Jn (hK17 (Kp [0,2,3,4,5] (Rr (Bc1 3 [(35,.agg [.i ((1+pk14:Nat):Int),pth o15,.nils,.i 0,.str []]),(34,.agg (tcs x))] 59 [.agg (tcs x),.agg [.i ((1+pk14:Nat):Int),pth o15,.nils,.i 0,.str []]] 36 ((0+5<=5/\0<5)/\(0+5<=5/\0<5)/\·) ⟨dc,dc,?_⟩)))))
 have hB26:=W_sTreeDo x (Cl.mk ((1+pk14:Nat):Int) o15 [] 0 []) om
 refine TCall_le [.agg (tcs x),.agg (clc (Cl.mk ((1+pk14:Nat):Int) o15 [] 0 []))] (by simp[lea,leas,pth,Tr.none,tcs,clc]) ?_
 refine PE.use (sTreeDo_ok x (Cl.mk ((1+pk14:Nat):Int) o15 [] 0 []) om (by first|omega|decide|(dsimp only;first|omega|decide)) (by first|omega|decide|(dsimp only;first|omega|decide)) (by first|omega|decide|(dsimp only;first|omega|decide))) ?_
 refine Ke (Fn3 [0,2,3,4] [(7,.i ((sTreeDo x (Cl.mk ((1+pk14:Nat):Int) o15 [] 0 [])).2)),(6,.ptr 16 0)] ([(16,tcs ((sTreeDo x (Cl.mk ((1+pk14:Nat):Int) o15 [] 0 [])).1))]++·) 20 ((0<2)/\(1<2)/\(true=true/\5=5/\0+5<=5)/\·) ⟨dc,dc,dc,Rr (Cn1 (decide (((sTreeDo x (Cl.mk ((1+pk14:Nat):Int) o15 [] 0 [])).2:Int)=(0:Int))) [0,2,3,4,6] [] (Ki/\·) ⟨rfl,fun hc28 c28=>?_,fun hc28 c28=>?_⟩)⟩)
 refine Rb (fun h=>Bn (Jn (hK12 h))) (Fn3 [0,2,3,4] [] (Hw [(8,tcs ((sTreeDo x (Cl.mk ((1+pk14:Nat):Int) o15 [] 0 [])).1))] [] ·) 20 ((0+5<=5/\0<5)/\(true=true/\5=5/\0+5<=5)/\·) ⟨dc,dc,Rn (Av1 (r:=.i (IntKind.i64.wrap ((k:Int)-1))) (v:=.i ((k:Int)-1)) 2 19 [(18,.i k)] (cI (wrap64 om om)) (Ki/\·) ⟨rfl,Gn0 [(4,.i ((k:Int)-1))] ?_⟩)⟩)
 refine nk_n (Lr (((sTreeDo x (Cl.mk ((1+pk14:Nat):Int) o15 [] 0 [])).1),q16,k-1) [(0,0),(4,4),(8,8)] 12 [(0,.ptr 0 0),(2,.ptr 4 0),(3,.ptr 8 0),(4,.i ((k:Int)-1))] [(8,tcs ((sTreeDo x (Cl.mk ((1+pk14:Nat):Int) o15 [] 0 [])).1)),(4,zt),(0,rdc b q16)] [true,true,true] ?_ ?_ kr (by(try rw[show((k:Int)-1)=((k-1:Nat):Int) by omega]);try kernel_rfl))
 (try dsimp only);omega
 refine⟨?_,rfl⟩;(try dsimp only);exact⟨om,om,om⟩
 refine Sk (Bn (Jn (hK12 (Kp [0,2,3,4] (Rn (Av1 (r:=.i (IntKind.i64.wrap ((k:Int)-1))) (v:=.i ((k:Int)-1)) 2 19 [(18,.i k)] (cI (wrap64 om om)) (Ki/\·) ⟨rfl,Gn0 [(4,.i ((k:Int)-1))] (nk_n ?_)⟩))))))
 refine Lr (x,q16,k-1) [(0,0),(4,4),(8,8)] 12 [(0,.ptr 0 0),(2,.ptr 4 0),(3,.ptr 8 0),(4,.i ((k:Int)-1))] [(8,tcs x),(4,zt),(0,rdc b q16)] [true,true,true] ?_ ?_ kr (by(try rw[show((k:Int)-1)=((k-1:Nat):Int) by omega]);try kernel_rfl)
 (try dsimp only);omega
 refine⟨?_,rfl⟩;(try dsimp only);exact⟨om,om,om⟩
 refine Xt (Jx (Lx (Bh (Jn (hK6 (Kp [0,2,3] (Qr [0,0,0,4,15,31] [(0,[]),(1,[]),(2,[]),(3,[1]),(4,[]),(5,[])] (qBc1 4 [(44,.ptr 0 0),(43,.agg (tcs x)),(42,.ptr 0 0)] [1] 30 [.ptr 0 0,.i 6] 45 ((0+5<=5/\0<5)/\·) ⟨dc,RC.use (pick_ok b q 6 om om om om) kr fun r p1 hr=>?_⟩))))))));obtain⟨pk30,hpk30,rfl,rfl⟩:=hr
 refine Kq (p:=(((0+5<=5/\0<5)/\(AV.agg (tcs x)=(.agg (tcs x):AV)))/\True)) ⟨⟨dc,rfl⟩,trivial⟩ ?_
 refine qBc0 1 [] [] 60 [.ptr 0 0,.agg (tcs x),.i pk30] 46 ?_
 refine RC.use (l4Calls_ok b (q+1) x pk30 om om om om) kr fun r q32 hr=>?_;obtain⟨x31,h1x31,rfl,h3x31⟩:=hr
 refine Kq (p:=(True)) trivial ?_
 refine qFn3 [2] [] (Hw [(4,tcs x31)] [] ·) 12 ((true=true/\5=5/\0+5<=5)/\(True)/\·) ⟨dc,trivial,Rt1 ((0+5<=5/\0<5)/\·) (.agg (tcs x31)) ⟨dc,?_⟩⟩
 exact fin_rc q32 (by first|exact lea_refl _|simp[lea,leas,pth,tcs]) (by simp only[go_sem]) kr ⟨x31,om,rfl,om⟩
open Go Go.Proofs
set_option maxRecDepth 100000
def decN (n:Nat):Str:=if h:n<10 then[UInt8.ofNat (48+n)]else decN (n/10)++[UInt8.ofNat (48+n%10)]
def dec (i:Int):Str:=if i<0 then 45::decN (-i).toNat else decN i.toNat
theorem w8of (x:Int) (h0:0<=x) (h1:x<256):AV.int .u8 (IntKind.u8.wrap x)=.int .u8 ((UInt8.ofNat x.toNat).toNat:Int):=by
  rw[wrap8 h0 om]
  congr 1
  rw[UInt8.toNat_ofNat']
  omega
theorem decN_len (n:Nat):∀k,n<10^(k+1)->(decN n).length<=k+1:=by
  induction n using Nat.strongRecOn with
  |_ n ih=>
    intro k hk
    rw[decN]
    split
    · simp
    · cases k with
      |zero=>omega
      |succ k=>
        have:=ih (n/10) om k (by rw[Nat.pow_succ]at hk;omega)
        simp only[List.length_append,List.length_cons,List.length_nil]
        omega
theorem dec_len (i:Int) (h1: -9223372036854775808<=i) (h2:i<=9223372036854775807):(dec i).length<=20:=by
  unfold dec
  split
  · have:=decN_len (-i).toNat 18 om
    simp only[List.length_cons];omega
  · have:=decN_len i.toNat 18 om
    omega
theorem dec_neg {i:Int} (h:i<0):dec i=[45]++dec (0-i):=by
  unfold dec
  rw[if_pos h,if_neg om,show(0-i)= -i by omega];rfl
theorem dec_one {i:Int} (h0:¬i<0) (h:i<10):dec i=[UInt8.ofNat (48+i).toNat]:=by
  unfold dec
  rw[if_neg h0,decN,dif_pos om,show(48+i).toNat=48+i.toNat by omega]
theorem dec_more {i:Int} (h0:¬i<0) (h:¬i<10):dec i=dec (i/10)++[UInt8.ofNat (48+i%10).toNat]:=by
  unfold dec
  rw[if_neg h0,if_neg om,decN,dif_neg om,show(48+i%10).toNat=48+i.toNat%10 by omega,show(i/10).toNat=i.toNat/10 by omega]
theorem dec_min:dec (-9223372036854775808)=[45,57,50,50,51,51,55,50,48,51,54,56,53,52,55,55,53,56,48,56]:=by
  unfold dec
  rw[if_pos dc]
  simp[decN]
abbrev QD (i:Int):Post:=RQ G Tryz.f58.results fun r _ _=>lea r (.str (dec i))
noncomputable def k58_0:Code:=bd Tryz.f58
noncomputable def k58_2:Code:=q2 k58_0
noncomputable def k58_10:Code:=q2 k58_2
noncomputable def k58_18:Code:=q2 k58_10
noncomputable def k58_26:Code:=q2 k58_18
set_option maxHeartbeats 4000000 in
theorem l1Dec_ok:∀(N:Nat) (i:Int),(max i (1-i)).toNat=N-> -9223372036854775808<=i->i<=9223372036854775807->PE G 58 [.i i] (.str (dec i)):=by
 intro N;refine Nat.strongRecOn N fun N ih=>?_;intro i hN hi1 hi2
 refine Pe Tryz.func58 ?_
 refine Rr (Fn0 [0] [] (Sq fun K2 hK2=>?_))
 refine Rr (Cn1 (decide ((i:Int)<(-9223372036854775807:Int))) [0] [] (Ki/\·) ⟨rfl,fun hc4 c4=>?_,fun hc4 c4=>?_⟩)
 refine Rr (Fn0 [] [(2,.str [45,57,50,50,51,51,55,50,48,51,54,56,53,52,55,55,53,56,48,56])] (Rt (.str [45,57,50,50,51,51,55,50,48,51,54,56,53,52,55,55,53,56,48,56]) (fin_lea ?_)))
 first
   |(have e:i= -9223372036854775808:=om;subst e;rw[dec_min];exact lea_refl _)
   |(rw[dec_neg (i:=i) om];exact lea_refl _)
   |(rw[dec_one (i:=i) om om];exact lea_refl _)
   |(rw[dec_more (i:=i) om om];exact lea_refl _)
 refine Sk (Jn (hK2 (Kp [0] (Sq fun K6 hK6=>?_))))
 refine Rr (Cn1 (decide ((i:Int)<(0:Int))) [0] [] (Ki/\·) ⟨rfl,fun hc8 c8=>?_,fun hc8 c8=>?_⟩)
 refine Rr (Av0 (r:=.i (IntKind.i64.wrap (0-i))) (v:=.i (0-i)) 2 8 [(7,.i i)] (cI (wrap64 om om)) ?_)
 have hl10:=dec_len (0-i) om om
 refine Pc0 1 [] 9 (ih _ om (0-i) rfl om om) (Fn1 [] [(2,.str ([45]++(dec (0-i))))] (([45].length+(dec (0-i)).length<=9223372036854775807)/\·) ⟨(by simp only[List.length_cons,List.length_nil];omega),Rt (.str ([45]++(dec (0-i)))) (fin_lea ?_)⟩)
 first
   |(have e:i= -9223372036854775808:=om;subst e;rw[dec_min];exact lea_refl _)
   |(rw[dec_neg (i:=i) om];exact lea_refl _)
   |(rw[dec_one (i:=i) om om];exact lea_refl _)
   |(rw[dec_more (i:=i) om om];exact lea_refl _)
 refine Sk (Jn (hK6 (Kp [0] (Sq fun K11 hK11=>?_))))
 refine Rr (Cn1 (decide ((i:Int)<(10:Int))) [0] [] (Ki/\·) ⟨rfl,fun hc13 c13=>?_,fun hc13 c13=>?_⟩)
 refine Rr (Av1 (r:=.i (IntKind.i64.wrap (48+i))) (v:=.i (48+i)) 2 14 [(13,.i i)] (cI (wrap64 om om)) (Ki/\·) ⟨rfl,?_⟩)
 have hu15:=UInt8.toNat_lt (UInt8.ofNat (48+i).toNat)
 refine Av0 (r:=.int .u8 (IntKind.u8.wrap (48+i))) (v:=.int .u8 ((UInt8.ofNat (48+i).toNat).toNat:Int)) 1 15 [] (w8of (48+i) om om) (Av3 (r:=.str ((((ints [(UInt8.ofNat (48+i).toNat)]).drop 0).take [(UInt8.ofNat (48+i).toNat)].length).map unu)) (v:=.str [(UInt8.ofNat (48+i).toNat)]) 2 17 [(16,.osl 0 1 0 1)] (congrArg AV.str (unu_ints _)) ([(0,[.int .u8 ((UInt8.ofNat (48+i).toNat).toNat:Int)])]++·) 4 (fun Z=>(1*1<=16777216)/\(1=1/\0+[(UInt8.ofNat (48+i).toNat)].length<=(ints [(UInt8.ofNat (48+i).toNat)]).length/\allu (((ints [(UInt8.ofNat (48+i).toNat)]).drop 0).take [(UInt8.ofNat (48+i).toNat)].length))/\Z) ⟨dc,⟨rfl,by rw[ints_len];omega,allu_ints _⟩,Fn0 [] [(2,.str [(UInt8.ofNat (48+i).toNat)])] (Rt (.str [(UInt8.ofNat (48+i).toNat)]) (fin_lea ?_))⟩)
 first
   |(have e:i= -9223372036854775808:=om;subst e;rw[dec_min];exact lea_refl _)
   |(rw[dec_neg (i:=i) om];exact lea_refl _)
   |(rw[dec_one (i:=i) om om];exact lea_refl _)
   |(rw[dec_more (i:=i) om om];exact lea_refl _)
 refine Sk (Jn (hK11 (Kp [0] ?_)))
 have hdl:=dec_len (i/10) om om
 refine Sa (Q:=QD i) 11 ?_
 refine Hv (p:=RT 0 G k58_26 (QD i) 0 [0,1,2,3,4,5,6,7,8,9,10] [(0,.i i),(2,.str ((dec (i/10))++[(UInt8.ofNat (48+(i%10)).toNat)])),(18,.i i),(19,.i (i/10)),(20,.str (dec (i/10))),(21,.i i),(22,.i (i%10)),(23,.i (48+(i%10))),(24,.int .u8 (((UInt8.ofNat (48+(i%10)).toNat).toNat:Nat):Int)),(25,.osl 0 1 0 1),(26,.str [(UInt8.ofNat (48+(i%10)).toNat)]),(27,.str ((dec (i/10))++[(UInt8.ofNat (48+(i%10)).toNat)]))] [(0,[.int .u8 (((UInt8.ofNat (48+(i%10)).toNat).toNat:Nat):Int)])] 4) ?_ fun m17=>?_
 refine R0 ?_
 refine Kp [2] (Rt (.str ((dec (i/10))++[(UInt8.ofNat (48+(i%10)).toNat)])) (fin_lea ?_))
 first
   |(have e:i= -9223372036854775808:=om;subst e;rw[dec_min];exact lea_refl _)
   |(rw[dec_neg (i:=i) om];exact lea_refl _)
   |(rw[dec_one (i:=i) om om];exact lea_refl _)
   |(rw[dec_more (i:=i) om om];exact lea_refl _)
 refine Hv (p:=RT 0 G k58_26 (QD i) 1 [0,1,2,3,4,5,6,7,8,9] [(0,.i i),(18,.i i),(19,.i (i/10)),(20,.str (dec (i/10))),(21,.i i),(22,.i (i%10)),(23,.i (48+(i%10))),(24,.int .u8 (((UInt8.ofNat (48+(i%10)).toNat).toNat:Nat):Int)),(25,.osl 0 1 0 1),(26,.str [(UInt8.ofNat (48+(i%10)).toNat)]),(27,.str ((dec (i/10))++[(UInt8.ofNat (48+(i%10)).toNat)]))] [(0,[.int .u8 (((UInt8.ofNat (48+(i%10)).toNat).toNat:Nat):Int)])] 4) ?_ fun m18=>?_
 refine Tc 10 [] ⟨?_,trivial⟩
 refine To0 2 (.str ((dec (i/10))++[(UInt8.ofNat (48+(i%10)).toNat)])) ?_
 exact Tm m17
 refine Hv (p:=RT 0 G k58_26 (QD i) 2 [0,1,2,3,4,5,6,7,8] [(0,.i i),(18,.i i),(19,.i (i/10)),(20,.str (dec (i/10))),(21,.i i),(22,.i (i%10)),(23,.i (48+(i%10))),(24,.int .u8 (((UInt8.ofNat (48+(i%10)).toNat).toNat:Nat):Int)),(25,.osl 0 1 0 1),(26,.str [(UInt8.ofNat (48+(i%10)).toNat)])] [(0,[.int .u8 (((UInt8.ofNat (48+(i%10)).toNat).toNat:Nat):Int)])] 4) ?_ fun m19=>?_
 refine Tc 9 [] ⟨?_,trivial⟩
 refine To1 27 (.str ((dec (i/10))++[(UInt8.ofNat (48+(i%10)).toNat)])) (((dec (i/10)).length+[(UInt8.ofNat (48+(i%10)).toNat)].length<=9223372036854775807)/\·) ⟨(by simp only[List.length_cons,List.length_nil];omega),?_⟩
 exact Tm m18
 refine Hv (p:=RT 0 G k58_26 (QD i) 3 [0,1,2,3,4,5,6,7] [(0,.i i),(18,.i i),(19,.i (i/10)),(20,.str (dec (i/10))),(21,.i i),(22,.i (i%10)),(23,.i (48+(i%10))),(24,.int .u8 (((UInt8.ofNat (48+(i%10)).toNat).toNat:Nat):Int)),(25,.osl 0 1 0 1)] [(0,[.int .u8 (((UInt8.ofNat (48+(i%10)).toNat).toNat:Nat):Int)])] 4) ?_ fun m20=>?_
 refine Tc 8 [] ⟨?_,trivial⟩
 refine To1 26 (.str ((((ints [(UInt8.ofNat (48+(i%10)).toNat)]).drop 0).take [(UInt8.ofNat (48+(i%10)).toNat)].length).map unu)) (fun Z=>(1=1/\0+[(UInt8.ofNat (48+(i%10)).toNat)].length<=(ints [(UInt8.ofNat (48+(i%10)).toNat)]).length/\allu (((ints [(UInt8.ofNat (48+(i%10)).toNat)]).drop 0).take [(UInt8.ofNat (48+(i%10)).toNat)].length))/\Z) ⟨⟨rfl,by rw[ints_len];omega,allu_ints _⟩,?_⟩
 refine Tjv (v':=.str [(UInt8.ofNat (48+(i%10)).toNat)]) (congrArg AV.str (unu_ints _)) ?_
 exact Tm m19
 refine Hv (p:=RT 0 G k58_26 (QD i) 3 [0,1,3,4,5,6,7,8] [(0,.i i),(18,.i i),(19,.i (i/10)),(21,.i i),(22,.i (i%10)),(23,.i (48+(i%10))),(24,.int .u8 (((UInt8.ofNat (48+(i%10)).toNat).toNat:Nat):Int)),(25,.osl 0 1 0 1),(26,.str [(UInt8.ofNat (48+(i%10)).toNat)])] [(0,[.int .u8 (((UInt8.ofNat (48+(i%10)).toNat).toNat:Nat):Int)])] 4) ?_ fun m21=>?_
 refine Tc 2 [] ⟨?_,trivial⟩
 have hl22:=dec_len (i/10) om om
 refine Toc 20 (ih _ om (i/10) rfl om om) ?_
 exact Tm m19
 refine Hv (p:=RT 0 G k58_26 (QD i) 4 [0,1,2,3,4,5,6] [(0,.i i),(18,.i i),(19,.i (i/10)),(20,.str (dec (i/10))),(21,.i i),(22,.i (i%10)),(23,.i (48+(i%10))),(24,.int .u8 (((UInt8.ofNat (48+(i%10)).toNat).toNat:Nat):Int))] [] 0) ?_ fun m23=>?_
 refine Tc 7 [] ⟨?_,trivial⟩
 refine To3 25 (.osl 0 1 0 1) [(0,[.int .u8 (((UInt8.ofNat (48+(i%10)).toNat).toNat:Nat):Int)])] 4 ((1*1<=16777216)/\·) ⟨dc,?_⟩
 exact Tm m20
 refine Hv (p:=RT 0 G k58_26 (QD i) 4 [0,1,3,4,5,6,7] [(0,.i i),(18,.i i),(19,.i (i/10)),(21,.i i),(22,.i (i%10)),(23,.i (48+(i%10))),(24,.int .u8 (((UInt8.ofNat (48+(i%10)).toNat).toNat:Nat):Int)),(25,.osl 0 1 0 1)] [(0,[.int .u8 (((UInt8.ofNat (48+(i%10)).toNat).toNat:Nat):Int)])] 4) ?_ fun m24=>?_
 refine Tc 2 [8] ⟨?_,?_,trivial⟩
 have hl25:=dec_len (i/10) om om
 refine Toc 20 (ih _ om (i/10) rfl om om) ?_
 exact Tm m20
 refine To1 26 (.str ((((ints [(UInt8.ofNat (48+(i%10)).toNat)]).drop 0).take [(UInt8.ofNat (48+(i%10)).toNat)].length).map unu)) (fun Z=>(1=1/\0+[(UInt8.ofNat (48+(i%10)).toNat)].length<=(ints [(UInt8.ofNat (48+(i%10)).toNat)]).length/\allu (((ints [(UInt8.ofNat (48+(i%10)).toNat)]).drop 0).take [(UInt8.ofNat (48+(i%10)).toNat)].length))/\Z) ⟨⟨rfl,by rw[ints_len];omega,allu_ints _⟩,?_⟩
 refine Tjv (v':=.str [(UInt8.ofNat (48+(i%10)).toNat)]) (congrArg AV.str (unu_ints _)) ?_
 exact Tm m21
 refine Hv (p:=RT 0 G k58_26 (QD i) 4 [0,3,4,5,6,7,8] [(0,.i i),(18,.i i),(21,.i i),(22,.i (i%10)),(23,.i (48+(i%10))),(24,.int .u8 (((UInt8.ofNat (48+(i%10)).toNat).toNat:Nat):Int)),(25,.osl 0 1 0 1),(26,.str [(UInt8.ofNat (48+(i%10)).toNat)])] [(0,[.int .u8 (((UInt8.ofNat (48+(i%10)).toNat).toNat:Nat):Int)])] 4) ?_ fun m26=>?_
 refine Tc 1 [] ⟨?_,trivial⟩
 refine To1 19 (.i (IntKind.i64.wrap (i.tdiv 10))) ((IntKind.i64=IntKind.i64/\(10:Int)≠0)/\·) ⟨⟨rfl,om⟩,?_⟩
 refine Tjv (v':=.i (i/10)) (cI (wdiv om om om)) ?_
 exact Tm m21
 refine Hv (p:=RT 0 G k58_26 (QD i) 5 [0,1,2,3,4,5] [(0,.i i),(18,.i i),(19,.i (i/10)),(20,.str (dec (i/10))),(21,.i i),(22,.i (i%10)),(23,.i (48+(i%10)))] [] 0) ?_ fun m27=>?_
 refine Tc 6 [] ⟨?_,trivial⟩
 have hu28:=UInt8.toNat_lt (UInt8.ofNat (48+(i%10)).toNat)
 refine To0 24 (.int .u8 (IntKind.u8.wrap (48+(i%10)))) ?_
 refine Tjv (v':=.int .u8 (((UInt8.ofNat (48+(i%10)).toNat).toNat:Nat):Int)) (w8of (48+(i%10)) om om) ?_
 exact Tm m23
 refine Hv (p:=RT 0 G k58_26 (QD i) 5 [0,1,3,4,5,6] [(0,.i i),(18,.i i),(19,.i (i/10)),(21,.i i),(22,.i (i%10)),(23,.i (48+(i%10))),(24,.int .u8 (((UInt8.ofNat (48+(i%10)).toNat).toNat:Nat):Int))] [] 0) ?_ fun m29=>?_
 refine Tc 2 [7] ⟨?_,?_,trivial⟩
 have hl30:=dec_len (i/10) om om
 refine Toc 20 (ih _ om (i/10) rfl om om) ?_
 exact Tm m23
 refine To3 25 (.osl 0 1 0 1) [(0,[.int .u8 (((UInt8.ofNat (48+(i%10)).toNat).toNat:Nat):Int)])] 4 ((1*1<=16777216)/\·) ⟨dc,?_⟩
 exact Tm m24
 refine Hv (p:=RT 0 G k58_26 (QD i) 5 [0,3,4,5,6,7] [(0,.i i),(18,.i i),(21,.i i),(22,.i (i%10)),(23,.i (48+(i%10))),(24,.int .u8 (((UInt8.ofNat (48+(i%10)).toNat).toNat:Nat):Int)),(25,.osl 0 1 0 1)] [(0,[.int .u8 (((UInt8.ofNat (48+(i%10)).toNat).toNat:Nat):Int)])] 4) ?_ fun m31=>?_
 refine Tc 1 [8] ⟨?_,?_,trivial⟩
 refine To1 19 (.i (IntKind.i64.wrap (i.tdiv 10))) ((IntKind.i64=IntKind.i64/\(10:Int)≠0)/\·) ⟨⟨rfl,om⟩,?_⟩
 refine Tjv (v':=.i (i/10)) (cI (wdiv om om om)) ?_
 exact Tm m24
 refine To1 26 (.str ((((ints [(UInt8.ofNat (48+(i%10)).toNat)]).drop 0).take [(UInt8.ofNat (48+(i%10)).toNat)].length).map unu)) (fun Z=>(1=1/\0+[(UInt8.ofNat (48+(i%10)).toNat)].length<=(ints [(UInt8.ofNat (48+(i%10)).toNat)]).length/\allu (((ints [(UInt8.ofNat (48+(i%10)).toNat)]).drop 0).take [(UInt8.ofNat (48+(i%10)).toNat)].length))/\Z) ⟨⟨rfl,by rw[ints_len];omega,allu_ints _⟩,?_⟩
 refine Tjv (v':=.str [(UInt8.ofNat (48+(i%10)).toNat)]) (congrArg AV.str (unu_ints _)) ?_
 exact Tm m26
 refine Hv (p:=RT 0 G k58_26 (QD i) 5 [3,4,5,6,7,8] [(0,.i i),(21,.i i),(22,.i (i%10)),(23,.i (48+(i%10))),(24,.int .u8 (((UInt8.ofNat (48+(i%10)).toNat).toNat:Nat):Int)),(25,.osl 0 1 0 1),(26,.str [(UInt8.ofNat (48+(i%10)).toNat)])] [(0,[.int .u8 (((UInt8.ofNat (48+(i%10)).toNat).toNat:Nat):Int)])] 4) ?_ fun m32=>?_
 refine Tc 0 [] ⟨?_,trivial⟩
 refine To0 18 (.i i) ?_
 exact Tm m26
 refine Hv (p:=RT 0 G k58_26 (QD i) 6 [0,1,2,3,4] [(0,.i i),(18,.i i),(19,.i (i/10)),(20,.str (dec (i/10))),(21,.i i),(22,.i (i%10))] [] 0) ?_ fun m33=>?_
 refine Tc 5 [] ⟨?_,trivial⟩
 refine To1 23 (.i (IntKind.i64.wrap (48+(i%10)))) (Ki/\·) ⟨rfl,?_⟩
 refine Tjv (v':=.i (48+(i%10))) (cI (wrap64 om om)) ?_
 exact Tm m27
 refine Hv (p:=RT 0 G k58_26 (QD i) 6 [0,1,3,4,5] [(0,.i i),(18,.i i),(19,.i (i/10)),(21,.i i),(22,.i (i%10)),(23,.i (48+(i%10)))] [] 0) ?_ fun m34=>?_
 refine Tc 2 [6] ⟨?_,?_,trivial⟩
 have hl35:=dec_len (i/10) om om
 refine Toc 20 (ih _ om (i/10) rfl om om) ?_
 exact Tm m27
 have hu36:=UInt8.toNat_lt (UInt8.ofNat (48+(i%10)).toNat)
 refine To0 24 (.int .u8 (IntKind.u8.wrap (48+(i%10)))) ?_
 refine Tjv (v':=.int .u8 (((UInt8.ofNat (48+(i%10)).toNat).toNat:Nat):Int)) (w8of (48+(i%10)) om om) ?_
 exact Tm m29
 refine Hv (p:=RT 0 G k58_26 (QD i) 6 [0,3,4,5,6] [(0,.i i),(18,.i i),(21,.i i),(22,.i (i%10)),(23,.i (48+(i%10))),(24,.int .u8 (((UInt8.ofNat (48+(i%10)).toNat).toNat:Nat):Int))] [] 0) ?_ fun m37=>?_
 refine Tc 1 [7] ⟨?_,?_,trivial⟩
 refine To1 19 (.i (IntKind.i64.wrap (i.tdiv 10))) ((IntKind.i64=IntKind.i64/\(10:Int)≠0)/\·) ⟨⟨rfl,om⟩,?_⟩
 refine Tjv (v':=.i (i/10)) (cI (wdiv om om om)) ?_
 exact Tm m29
 refine To3 25 (.osl 0 1 0 1) [(0,[.int .u8 (((UInt8.ofNat (48+(i%10)).toNat).toNat:Nat):Int)])] 4 ((1*1<=16777216)/\·) ⟨dc,?_⟩
 exact Tm m31
 refine Hv (p:=RT 0 G k58_26 (QD i) 6 [3,4,5,6,7] [(0,.i i),(21,.i i),(22,.i (i%10)),(23,.i (48+(i%10))),(24,.int .u8 (((UInt8.ofNat (48+(i%10)).toNat).toNat:Nat):Int)),(25,.osl 0 1 0 1)] [(0,[.int .u8 (((UInt8.ofNat (48+(i%10)).toNat).toNat:Nat):Int)])] 4) ?_ fun m38=>?_
 refine Tc 0 [8] ⟨?_,?_,trivial⟩
 refine To0 18 (.i i) ?_
 exact Tm m31
 refine To1 26 (.str ((((ints [(UInt8.ofNat (48+(i%10)).toNat)]).drop 0).take [(UInt8.ofNat (48+(i%10)).toNat)].length).map unu)) (fun Z=>(1=1/\0+[(UInt8.ofNat (48+(i%10)).toNat)].length<=(ints [(UInt8.ofNat (48+(i%10)).toNat)]).length/\allu (((ints [(UInt8.ofNat (48+(i%10)).toNat)]).drop 0).take [(UInt8.ofNat (48+(i%10)).toNat)].length))/\Z) ⟨⟨rfl,by rw[ints_len];omega,allu_ints _⟩,?_⟩
 refine Tjv (v':=.str [(UInt8.ofNat (48+(i%10)).toNat)]) (congrArg AV.str (unu_ints _)) ?_
 exact Tm m32
 refine Hv (p:=RT 0 G k58_26 (QD i) 7 [0,1,2,3] [(0,.i i),(18,.i i),(19,.i (i/10)),(20,.str (dec (i/10))),(21,.i i)] [] 0) ?_ fun m39=>?_
 refine Tc 4 [] ⟨?_,trivial⟩
 refine To1 22 (.i (i.tmod 10)) ((IntKind.i64=IntKind.i64/\(10:Int)≠0)/\·) ⟨⟨rfl,om⟩,?_⟩
 refine Tjv (v':=.i (i%10)) (cI (tmod_nn om)) ?_
 exact Tm m33
 refine Hv (p:=RT 0 G k58_26 (QD i) 7 [0,1,3,4] [(0,.i i),(18,.i i),(19,.i (i/10)),(21,.i i),(22,.i (i%10))] [] 0) ?_ fun m40=>?_
 refine Tc 2 [5] ⟨?_,?_,trivial⟩
 have hl41:=dec_len (i/10) om om
 refine Toc 20 (ih _ om (i/10) rfl om om) ?_
 exact Tm m33
 refine To1 23 (.i (IntKind.i64.wrap (48+(i%10)))) (Ki/\·) ⟨rfl,?_⟩
 refine Tjv (v':=.i (48+(i%10))) (cI (wrap64 om om)) ?_
 exact Tm m34
 refine Hv (p:=RT 0 G k58_26 (QD i) 7 [0,3,4,5] [(0,.i i),(18,.i i),(21,.i i),(22,.i (i%10)),(23,.i (48+(i%10)))] [] 0) ?_ fun m42=>?_
 refine Tc 1 [6] ⟨?_,?_,trivial⟩
 refine To1 19 (.i (IntKind.i64.wrap (i.tdiv 10))) ((IntKind.i64=IntKind.i64/\(10:Int)≠0)/\·) ⟨⟨rfl,om⟩,?_⟩
 refine Tjv (v':=.i (i/10)) (cI (wdiv om om om)) ?_
 exact Tm m34
 have hu43:=UInt8.toNat_lt (UInt8.ofNat (48+(i%10)).toNat)
 refine To0 24 (.int .u8 (IntKind.u8.wrap (48+(i%10)))) ?_
 refine Tjv (v':=.int .u8 (((UInt8.ofNat (48+(i%10)).toNat).toNat:Nat):Int)) (w8of (48+(i%10)) om om) ?_
 exact Tm m37
 refine Hv (p:=RT 0 G k58_26 (QD i) 7 [3,4,5,6] [(0,.i i),(21,.i i),(22,.i (i%10)),(23,.i (48+(i%10))),(24,.int .u8 (((UInt8.ofNat (48+(i%10)).toNat).toNat:Nat):Int))] [] 0) ?_ fun m44=>?_
 refine Tc 0 [7] ⟨?_,?_,trivial⟩
 refine To0 18 (.i i) ?_
 exact Tm m37
 refine To3 25 (.osl 0 1 0 1) [(0,[.int .u8 (((UInt8.ofNat (48+(i%10)).toNat).toNat:Nat):Int)])] 4 ((1*1<=16777216)/\·) ⟨dc,?_⟩
 exact Tm m38
 refine Hv (p:=RT 0 G k58_26 (QD i) 8 [0,1,2] [(0,.i i),(18,.i i),(19,.i (i/10)),(20,.str (dec (i/10)))] [] 0) ?_ fun m45=>?_
 refine Tc 3 [] ⟨?_,trivial⟩
 refine To0 21 (.i i) ?_
 exact Tm m39
 refine Hv (p:=RT 0 G k58_26 (QD i) 8 [0,1,3] [(0,.i i),(18,.i i),(19,.i (i/10)),(21,.i i)] [] 0) ?_ fun m46=>?_
 refine Tc 2 [4] ⟨?_,?_,trivial⟩
 have hl47:=dec_len (i/10) om om
 refine Toc 20 (ih _ om (i/10) rfl om om) ?_
 exact Tm m39
 refine To1 22 (.i (i.tmod 10)) ((IntKind.i64=IntKind.i64/\(10:Int)≠0)/\·) ⟨⟨rfl,om⟩,?_⟩
 refine Tjv (v':=.i (i%10)) (cI (tmod_nn om)) ?_
 exact Tm m40
 refine Hv (p:=RT 0 G k58_26 (QD i) 8 [0,3,4] [(0,.i i),(18,.i i),(21,.i i),(22,.i (i%10))] [] 0) ?_ fun m48=>?_
 refine Tc 1 [5] ⟨?_,?_,trivial⟩
 refine To1 19 (.i (IntKind.i64.wrap (i.tdiv 10))) ((IntKind.i64=IntKind.i64/\(10:Int)≠0)/\·) ⟨⟨rfl,om⟩,?_⟩
 refine Tjv (v':=.i (i/10)) (cI (wdiv om om om)) ?_
 exact Tm m40
 refine To1 23 (.i (IntKind.i64.wrap (48+(i%10)))) (Ki/\·) ⟨rfl,?_⟩
 refine Tjv (v':=.i (48+(i%10))) (cI (wrap64 om om)) ?_
 exact Tm m42
 refine Hv (p:=RT 0 G k58_26 (QD i) 8 [3,4,5] [(0,.i i),(21,.i i),(22,.i (i%10)),(23,.i (48+(i%10)))] [] 0) ?_ fun m49=>?_
 refine Tc 0 [6] ⟨?_,?_,trivial⟩
 refine To0 18 (.i i) ?_
 exact Tm m42
 have hu50:=UInt8.toNat_lt (UInt8.ofNat (48+(i%10)).toNat)
 refine To0 24 (.int .u8 (IntKind.u8.wrap (48+(i%10)))) ?_
 refine Tjv (v':=.int .u8 (((UInt8.ofNat (48+(i%10)).toNat).toNat:Nat):Int)) (w8of (48+(i%10)) om om) ?_
 exact Tm m44
 refine Hv (p:=RT 0 G k58_26 (QD i) 9 [0,1] [(0,.i i),(18,.i i),(19,.i (i/10))] [] 0) ?_ fun m51=>?_
 refine Tc 2 [3] ⟨?_,?_,trivial⟩
 have hl52:=dec_len (i/10) om om
 refine Toc 20 (ih _ om (i/10) rfl om om) ?_
 exact Tm m45
 refine To0 21 (.i i) ?_
 exact Tm m46
 refine Hv (p:=RT 0 G k58_26 (QD i) 9 [0,3] [(0,.i i),(18,.i i),(21,.i i)] [] 0) ?_ fun m53=>?_
 refine Tc 1 [4] ⟨?_,?_,trivial⟩
 refine To1 19 (.i (IntKind.i64.wrap (i.tdiv 10))) ((IntKind.i64=IntKind.i64/\(10:Int)≠0)/\·) ⟨⟨rfl,om⟩,?_⟩
 refine Tjv (v':=.i (i/10)) (cI (wdiv om om om)) ?_
 exact Tm m46
 refine To1 22 (.i (i.tmod 10)) ((IntKind.i64=IntKind.i64/\(10:Int)≠0)/\·) ⟨⟨rfl,om⟩,?_⟩
 refine Tjv (v':=.i (i%10)) (cI (tmod_nn om)) ?_
 exact Tm m48
 refine Hv (p:=RT 0 G k58_26 (QD i) 9 [3,4] [(0,.i i),(21,.i i),(22,.i (i%10))] [] 0) ?_ fun m54=>?_
 refine Tc 0 [5] ⟨?_,?_,trivial⟩
 refine To0 18 (.i i) ?_
 exact Tm m48
 refine To1 23 (.i (IntKind.i64.wrap (48+(i%10)))) (Ki/\·) ⟨rfl,?_⟩
 refine Tjv (v':=.i (48+(i%10))) (cI (wrap64 om om)) ?_
 exact Tm m49
 refine Hv (p:=RT 0 G k58_26 (QD i) 10 [0] [(0,.i i),(18,.i i)] [] 0) ?_ fun m55=>?_
 refine Tc 1 [3] ⟨?_,?_,trivial⟩
 refine To1 19 (.i (IntKind.i64.wrap (i.tdiv 10))) ((IntKind.i64=IntKind.i64/\(10:Int)≠0)/\·) ⟨⟨rfl,om⟩,?_⟩
 refine Tjv (v':=.i (i/10)) (cI (wdiv om om om)) ?_
 exact Tm m51
 refine To0 21 (.i i) ?_
 exact Tm m53
 refine Hv (p:=RT 0 G k58_26 (QD i) 10 [3] [(0,.i i),(21,.i i)] [] 0) ?_ fun m56=>?_
 refine Tc 0 [4] ⟨?_,?_,trivial⟩
 refine To0 18 (.i i) ?_
 exact Tm m53
 refine To1 22 (.i (i.tmod 10)) ((IntKind.i64=IntKind.i64/\(10:Int)≠0)/\·) ⟨⟨rfl,om⟩,?_⟩
 refine Tjv (v':=.i (i%10)) (cI (tmod_nn om)) ?_
 exact Tm m54
 refine Tc 0 [3] ⟨?_,?_,trivial⟩
 refine To0 18 (.i i) ?_
 exact Tm m55
 refine To0 21 (.i i) ?_
 exact Tm m56
open Go Go.Proofs
set_option maxRecDepth 100000
theorem l4Full_ok (b:Str) (p:Nat) (hp:p<2^25) (hb:b.length<2^30):RC G 33 [] b p (fun r p'=>∃x:Tr,x.W<2^12/\r=.agg (tcs x)/\p'<=p+40):=by
 refine h_rc (F:=[(0,.ptr 0 0)]) (by simp only[go_sem]) Tryz.func33 kr kr ?_ kr
 refine Rr (Fn2 [0] [(2,.ptr 4 0)] ([(4,zt)]++·) 8 (Rr (Fn3 [0,2] [(3,.ptr 8 0)] ([(8,[.bool true,.i 0,.str [],.nils,.nils])]++·) 12 ((true=true/\5=5/\0+5<=5)/\·) ⟨dc,Sq fun K3 hK3=>?_⟩)))
 refine Rr (Fn0 [0,2,3] [(4,.i 0)] (Bl (Hn [(8,[.bool true,.i 0,.str [],.nils,.nils]),(4,zt),(0,rdc b p)] (h_lo (H':=[(8,tcs ((Tr.mk true 0 [] [] []))),(4,zt),(0,rdc b p)]) ⟨⟨rfl,(by simp[lea,leas,pth,tcs,clc])⟩,⟨rfl,leas_refl _⟩,⟨rfl,leas_refl _⟩,trivial⟩ ?_))))
 refine h_l (fun(z:Tr×Nat×Nat)=>(match z with|(x,q,k)=>([(0,.ptr 0 0),(2,.ptr 4 0),(3,.ptr 8 0),(4,.i k)]:Fr))) (fun(z:Tr×Nat×Nat)=>(match z with|(x,q,k)=>([(8,tcs x),(4,zt),(0,rdc b q)]:Hp))) (fun(z:Tr×Nat×Nat) cn=>(match z with|(x,q,k)=>(x.W<2^12/\q<=p+k/\k<=30)/\cn=12)) (fun(z:Tr×Nat×Nat)=>31-z.2.2) (((Tr.mk true 0 [] [] [])),p,0) kr ?_ ?_ ?_ ?_
 refine⟨?_,rfl⟩;exact⟨by simp[Tr.W,wS,Tr.Ws],om,om⟩
 exact⟨kr,kr,kr,kr,trivial⟩
 exact(sub_c kr (sub_c kr (sub_c kr (List.nil_sublist _))))
 rintro⟨x,q,k⟩ n1 hI
 (try dsimp only at hI)
 obtain⟨⟨hi1,hi2,hi3⟩,rfl⟩:=hI
 refine Sq fun K5 hK5=>?_
 refine Rr (Bc0 3 [(7,.ptr 0 0),(6,.i k)] 30 [.ptr 0 0,.i 3] 8 (RC.use (pick_ok b q 3 om om om om) kr fun r p1 hr=>?_));obtain⟨pk7,hpk7,rfl,rfl⟩:=hr
 refine Ke (Av1 (r:=.i (IntKind.i64.wrap (30-(pk7:Int)))) (v:=.i (30-(pk7:Int))) 1 9 [] (cI (wrap64 om om)) (Ki/\·) ⟨rfl,Cn1 (decide ((k:Int)<(30-(pk7:Int)))) [0,2,3,4] [] (Ki/\·) ⟨rfl,fun hc8 c8=>?_,fun hc8 c8=>?_⟩⟩)
 refine Sk (Jn (hK5 (Kp [0,2,3,4] (Sq fun K9 hK9=>?_))))
 refine Bl (Qb [0,0,2,6,14,30,62,127,255,511,511,1023] [(0,[]),(1,[]),(2,[]),(3,[0]),(4,[]),(5,[0]),(6,[]),(7,[]),(8,[]),(9,[]),(10,[]),(11,[])] (fun h=>Bn (Jn (hK9 h))) (qAv1 3 16 [(15,.i k),(14,.agg (tcs x))] (cI (wnn 100 k om)) ((0+5<=5/\0<5)/\Ki/\·) ⟨dc,rfl,qBc0 1 [] [0] 58 [.i ((100+k:Nat):Int)] 17 ?_⟩))
 have hl10:=dec_len ((100+k:Nat):Int) om om
 refine PE.use (l1Dec_ok _ ((100+k:Nat):Int) rfl om om) ?_
 refine Kq (p:=(((0+5<=5/\0<5)/\(AV.agg (tcs x)=(.agg (tcs x):AV)))/\True)) ⟨⟨dc,rfl⟩,trivial⟩ ?_
 refine qBc3 4 [(20,.agg [.i 2,.osl 12 1 0 1,.nils,.i 0,.str []]),(19,.osl 12 1 0 1),(18,.str ([102]++(dec ((100+k:Nat):Int))))] [] 59 [.agg (tcs x),.agg [.i 2,.osl 12 1 0 1,.nils,.i 0,.str []]] 21 ([(12,[.str ([102]++(dec ((100+k:Nat):Int)))])]++·) 16 (([102].length+(dec ((100+k:Nat):Int)).length<=9223372036854775807)/\(1*1<=16777216)/\(((0+5<=5/\0<5)/\(AV.agg (tcs x)=(.agg (tcs x):AV)))/\True)/\·) ⟨(by simp only[List.length_cons,List.length_nil];omega),dc,⟨⟨dc,rfl⟩,trivial⟩,?_⟩
 refine Tz 12 1 1 ([[.str ([102]++(dec ((100+k:Nat):Int)))]]) ([.str ([102]++(dec ((100+k:Nat):Int)))]) [.agg (tcs x),.agg [.i 2,pth [[102]++(dec ((100+k:Nat):Int))],.nils,.i 0,.str []]] [(8,tcs x),(4,zt),(0,rdc b (q+1))] [true,true,true] kr (by first|decide|simp) ?_
 have hB11:=W_sTreeDo x (Cl.mk 2 [[102]++(dec ((100+k:Nat):Int))] [] 0 []) om
 refine TCall_le [.agg (tcs x),.agg (clc (Cl.mk 2 [[102]++(dec ((100+k:Nat):Int))] [] 0 []))] (by simp[lea,leas,pth,Tr.none,tcs,clc]) ?_
 refine PE.use (sTreeDo_ok x (Cl.mk 2 [[102]++(dec ((100+k:Nat):Int))] [] 0 []) om (by first|omega|decide|(dsimp only;first|omega|decide)|(simp only[wS,List.length_append,List.length_cons,List.length_nil];omega)) (by first|omega|decide|(dsimp only;first|omega|decide)|(simp only[wS,List.length_append,List.length_cons,List.length_nil];omega)) (by first|omega|decide|(dsimp only;first|omega|decide)|(simp only[wS,List.length_append,List.length_cons,List.length_nil];omega))) ?_
 refine Kq (p:=(True)) trivial ?_
 refine qFn3 [0,2,3,4] [] (Hw [(8,tcs ((sTreeDo x (Cl.mk 2 [[102]++(dec ((100+k:Nat):Int))] [] 0 [])).1))] [] ·) 16 ((0<2)/\(1<2)/\(true=true/\5=5/\0+5<=5)/\(True)/\·) ⟨dc,dc,dc,trivial,Rn (Av1 2 12 [(11,.i k)] (cI (wn1 k om)) (Ki/\·) ⟨rfl,Gn0 [(4,.i ((k+1:Nat):Int))] (nk_n ?_)⟩)⟩
 refine Lr (((sTreeDo x (Cl.mk 2 [[102]++(dec ((100+k:Nat):Int))] [] 0 [])).1),q+1,k+1) [(0,0),(4,4),(8,8)] 12 [(0,.ptr 0 0),(2,.ptr 4 0),(3,.ptr 8 0),(4,.i ((k+1:Nat):Int))] [(8,tcs ((sTreeDo x (Cl.mk 2 [[102]++(dec ((100+k:Nat):Int))] [] 0 [])).1)),(4,zt),(0,rdc b (q+1))] [true,true,true] ?_ ?_ kr kr
 (try dsimp only);omega
 refine⟨?_,rfl⟩;(try dsimp only);exact⟨om,om,om⟩
 refine Xt (Jx (Lx (Bh (Jn (hK3 (Kp [2,3] (Rr (Fn3 [2] [] (Hw [(4,tcs x)] [] ·) 12 ((0+5<=5/\0<5)/\(true=true/\5=5/\0+5<=5)/\·) ⟨dc,dc,Rt1 ((0+5<=5/\0<5)/\·) (.agg (tcs x)) ⟨dc,?_⟩⟩))))))))
 exact fin_rc (q+1) (by first|exact lea_refl _|simp[lea,leas,pth,tcs]) (by simp only[go_sem]) kr ⟨x,om,rfl,om⟩
open Go Go.Proofs
set_option maxRecDepth 100000
theorem l1CopyO_ok (t:Tr) (hw:t.W<2^40):DC G 57 [.agg (tcs t)] [] (CpR t):=by
 refine DC_nd fun hnd=>?_
 rw[W_eq]at hw;have hks:=Ws_len t.kids;have hns:=wS_len t.names
 refine h_dc (F:=[(0,.agg (tcs t))]) (ods_tcs t) trivial Tryz.func57 kr kr ?_ kr
 refine Rr (Fn2 [] [(2,.ptr 4 0),(1,.ptr 0 0)] ([(4,zt),(0,tcs t)]++·) 8 (Qr [0,1,0,4,0,16,0,0,128,448,1023,0,4095] [(0,[]),(1,[]),(2,[]),(3,[]),(4,[]),(5,[]),(7,[]),(8,[]),(6,[1,3,5,8]),(9,[1,3,5]),(10,[]),(11,[1,3,5,8]),(12,[])] (qAn3 10 [(14,.osl 12 1 0 (0+(t.names.map (fun s=>[AV.str s])).length)),(11,.osl 8 1 0 0),(13,pth t.names),(12,.ptr 0 3),(10,.str t.data),(9,.ptr 0 2),(8,.i t.mode),(7,.ptr 0 1),(6,.bool t.dir),(5,.ptr 0 0)] ([(12,apd [] (0*1) ((t.names.map (fun s=>[AV.str s])).flatten))]++·) 16 (((1:Nat)≠0)/\(0+1<=5/\0<5)/\((1:Nat)≠0)/\(1+1<=5/\1<5)/\((1:Nat)≠0)/\(2+1<=5/\2<5)/\((1:Nat)≠0)/\(3+1<=5/\3<5)/\(0*1<=16777216)/\(((0+1<=5/\0<5)/\(AV.bool t.dir=(.bool t.dir:AV)))/\((1+1<=5/\1<5)/\(AV.int .i64 t.mode=(.i t.mode:AV)))/\((2+1<=5/\2<5)/\(AV.str t.data=(.str t.data:AV)))/\((3+1<=5/\3<5)/\(pth t.names=pth t.names))/\True)/\True/\(1=1/\0*1<=0/\0<16/\(0+(t.names.map (fun s=>[AV.str s])).length)*16<=140737488355328)/\(((0+1<=5/\0<5)/\(AV.bool t.dir=(.bool t.dir:AV)))/\((1+1<=5/\1<5)/\(AV.int .i64 t.mode=(.i t.mode:AV)))/\((2+1<=5/\2<5)/\(AV.str t.data=(.str t.data:AV)))/\True)/\·) ⟨dc,dc,dc,dc,dc,dc,dc,dc,dc,⟨⟨dc,rfl⟩,⟨dc,rfl⟩,⟨dc,rfl⟩,⟨dc,rfl⟩,trivial⟩,trivial,⟨rfl,gl,dc,gl⟩,⟨⟨dc,rfl⟩,⟨dc,rfl⟩,⟨dc,rfl⟩,trivial⟩,runq_v (v':=.osl 12 1 0 t.names.length) (by rw[Nat.zero_add,List.length_map]) ?_⟩)))
 refine runq_h (cs':=fl sc t.names) (app0_str _) ?_
 refine qFn3 [1,2] [(3,.ptr 16 0)] ([(16,(tr5 t (.osl 12 1 0 t.names.length)  .nils))]++·) 20 ((((0+1<=5/\0<5)/\(AV.bool t.dir=(.bool t.dir:AV)))/\((1+1<=5/\1<5)/\(AV.int .i64 t.mode=(.i t.mode:AV)))/\((2+1<=5/\2<5)/\(AV.str t.data=(.str t.data:AV)))/\((3+1<=5/\3<5)/\(pth t.names=pth t.names))/\True)/\(true=true/\5=5/\0+5<=5)/\(True)/\·) ⟨⟨⟨dc,rfl⟩,⟨dc,rfl⟩,⟨dc,rfl⟩,⟨dc,rfl⟩,trivial⟩,dc,trivial,Sq fun K3 hK3=>?_⟩
 refine Rr (Fn0 [1,2,3] [(4,.i 0)] (Bl (h_l (fun(x:Nat×Option Unit)=>(match x with|(_,none)=>([(1,.ptr 0 0),(2,.ptr 4 0),(3,.ptr 16 0),(4,.i 0)]:Fr)|(k,some ())=>([(1,.ptr 0 0),(2,.ptr 4 0),(3,.ptr 16 0),(4,.i k)]:Fr))) (fun(x:Nat×Option Unit)=>(match x with|(_,none)=>([(16,(tr5 t (.osl 12 1 0 t.names.length)  .nils)),(12,fl sc t.names),(4,zt),(0,tcs t)]:Hp)|(k,some ())=>([(20,fl trc (t.kids.take k)),(16,(tr5 t (.osl 12 1 0 t.names.length) (.osl 20 5 0 ((t.kids.take k).length)))),(12,fl sc t.names),(4,zt),(0,tcs t)]:Hp))) (fun(x:Nat×Option Unit) cn=>(match x with|(_,none)=>(x.1=0)/\cn=20|(k,some ())=>(0<k/\k<=t.kids.length)/\cn=24)) (fun(x:Nat×Option Unit)=>t.kids.length-x.1) (0,none) kr ?_ ?_ ?_ ?_)))
 refine⟨?_,rfl⟩;rfl
 exact⟨kr,kr,kr,kr,trivial⟩
 exact(sub_c kr (sub_c kr (sub_c kr (sub_c kr (List.nil_sublist _)))))
 rintro⟨k,_|⟨⟩⟩ n1 hI
 (try dsimp only at hI)
 obtain⟨rfl,rfl⟩:=hI
 dsimp only
 refine Sq fun K5 hK5=>?_
 refine Rr (Av1 4 19 [(18,.sl 5 (t.kids.map trc)),(17,.ptr 0 4),(16,.i 0)] (lnm t.kids trc) (((1:Nat)≠0)/\(4+1<=5/\4<5)/\·) ⟨dc,dc,Cn1 (decide ((0:Int)<((t.kids.length:Int):Int))) [1,2,3,4] [] (Ki/\·) ⟨rfl,fun hc7 c7=>?_,fun hc7 c7=>?_⟩⟩)
 refine Sk (Jn (hK5 (Kp [1,2,3,4] (Sq fun K8 hK8=>?_))))
 refine Bl (Qb [0,1,0,4,0,28,60,124,252,511,1023,2047] [(0,[]),(1,[]),(2,[]),(3,[]),(4,[]),(5,[]),(6,[]),(7,[1]),(8,[1]),(9,[]),(10,[]),(11,[])] (fun h=>Bn (Jn (hK8 h))) (qAv1 6 28 [(27,.i 0),(26,.sl 5 (t.kids.map trc)),(25,.ptr 0 4),(24,.nils),(23,.ptr 16 4)] (congrArg AV.pat (mg_trc t.kids 0 om)) (((1:Nat)≠0)/\(4+1<=5/\4<5)/\((1:Nat)≠0)/\(4+1<=5/\4<5)/\(5=5/\(0:Int)<=0/\0<((t.kids.map trc).length:Int))/\·) ⟨dc,dc,dc,dc,⟨rfl,om,lmo⟩,qBc1 2 [(29,.agg (tcs (t.kids.getD 0 default)))] [1] 57 [.agg (tcs (t.kids.getD 0 default))] 30 ((5<=5/\0<5)/\·) ⟨dc,?_⟩⟩))
 have hW:=Ws_get t.kids 0 om
 refine PE.use (l1Copy_ok _ (t.kids.getD 0 default) rfl om) ?_
 refine Kq (p:=(((4+1<=5/\4<5)/\(AV.nils=(.nils:AV)))/\True)) ⟨⟨dc,rfl⟩,trivial⟩ ?_
 refine qAn3 2 [(32,.osl 24 5 0 1),(31,.osl 20 5 0 1)] ([(24,tcs (t.kids.getD 0 default)),(20,tcs (t.kids.getD 0 default))]++·) 28 ((1*5<=16777216)/\(((4+1<=5/\4<5)/\(AV.nils=(.nils:AV)))/\True)/\(0+1*5<=5)/\(0<1/\0<80/\1*80<=140737488355328)/\(True)/\·) ⟨dc,⟨⟨dc,rfl⟩,trivial⟩,dc,dc,trivial,runq_v (v':=.osl 24 5 0 ([(t.kids.getD 0 default)].length)) rfl (runq_h (cs':=fl trc [(t.kids.getD 0 default)]) (s1_trc (t.kids.getD 0 default)) (qFn3 [1,2,3,4] [] (Hw [(16,(tr5 t (.osl 12 1 0 t.names.length) (.osl 24 5 0 ([(t.kids.getD 0 default)].length))))] [] ·) 28 (((1:Nat)≠0)/\(true=true/\1=1/\4+1<=5)/\(True)/\·) ⟨dc,dc,trivial,Rn ?_⟩))⟩
 refine Gn1 [(4,.i 1),(22,.i 1),(21,.i 0)] (Ki/\·) ⟨rfl,nk_n (Lr (1,some ()) [(0,0),(4,4),(12,12),(16,16),(24,20)] 24 [(1,.ptr 0 0),(2,.ptr 4 0),(3,.ptr 16 0),(4,.i 1)] [(24,fl trc [(t.kids.getD 0 default)]),(16,(tr5 t (.osl 12 1 0 t.names.length) (.osl 24 5 0 ([(t.kids.getD 0 default)].length)))),(12,fl sc t.names),(4,zt),(0,tcs t)] [false,true,false,true,true] ?_ ?_ (by(try rw[one_take default om]);try kernel_rfl) kr)⟩
 (try dsimp only);omega
 refine⟨?_,rfl⟩;(try dsimp only);omega
 refine Xt (Jx (Lx (Bh (Jn (hK3 (Kp [2,3] ?_))))))
 have hk0:t.kids=[]:=List.eq_nil_of_length_eq_zero om
 refine h_pm (H':=((16,(tr5 t (.osl 12 1 0 t.names.length)  .nils))::(4,zt)::(0,tcs t)::(12,fl sc t.names)::[])) (List.Perm.trans (List.Perm.cons _ (List.Perm.cons _ (List.Perm.swap _ _ _))) (List.Perm.cons _ (List.Perm.swap _ _ _))) ?_
 refine h_k [2,3] (F':=[(2,.ptr 4 0),(3,.ptr 16 0)]) kr ?_
 refine Hn ((16,(tr5 t (.osl 12 1 0 t.names.length)  .nils))::(4,zt)::(0,tcs t)::(12,fl sc t.names)::[]) (h_odd (H:=[(16,(tr5 t (.osl 12 1 0 t.names.length)  .nils)),(4,zt),(0,tcs t),(12,fl sc t.names)]) 12 (fun jn=>[(2,.ptr 4 0),(3,.ptr 16 0)]) (fun jn=>[(16,(tr5 t (.osl (2*jn+1) 1 0 t.names.length)  .nils)),(4,zt),(0,tcs t),((2*jn+1),fl sc t.names)]) kr (show odH []from trivial) (fun jn=>⟨by simp only[slF,slp,slps,go_sem,and_self],kr⟩) (fun jn=>⟨rfl,.inr ⟨by simp only[tcs,slps,slp,go_sem,and_self],kr⟩,rfl,.inr ⟨by simp only[tcs,slps,slp,go_sem,and_self],kr⟩,rfl,.inr ⟨by simp only[tcs,slps,slp,go_sem,and_self],kr⟩,rfl,.inl ⟨ods_flS _,rfl⟩,trivial⟩) (fun jn=>(Rr (Fn3 [2] [] (fun _=>((16,(tr5 t (.osl (2*jn+1) 1 0 t.names.length)  .nils))::(4,(tr5 t (.osl (2*jn+1) 1 0 t.names.length)  .nils))::(0,tcs t)::(((2*jn+1),fl sc t.names)::[]))) 20 ((0+5<=5/\0<5)/\(true=true/\5=5/\0+5<=5)/\·) ⟨dc,dc,Rt1 ((0+5<=5/\0<5)/\·) (.agg (tr5 t (.osl (2*jn+1) 1 0 t.names.length)  .nils)) ⟨dc,?_⟩⟩))))
 refine fin_dc (cpA t (.osl (2*jn+1) 1 0 t.names.length) .nils) [(2*jn+1,fl sc t.names)] (List.Sublist.cons _ (List.Sublist.cons _ (List.Sublist.cons _ (List.Sublist.refl _)))) (lea_refl _) ⟨trivial,trivial,trivial,by show(2*jn+1)%2=1;omega,trivial,trivial⟩ ⟨om,ods_flS _,trivial⟩ ⟨jn,.inl ⟨hk0,rfl,rfl⟩⟩
 (try dsimp only at hI)
 obtain⟨⟨hk0,hk⟩,rfl⟩:=hI
 dsimp only
 have hkl:(t.kids.take k).length=k:=tkl hk
 refine Sq fun K10 hK10=>?_
 refine Rr (Av1 4 19 [(18,.sl 5 (t.kids.map trc)),(17,.ptr 0 4),(16,.i k)] (lnm t.kids trc) (((1:Nat)≠0)/\(4+1<=5/\4<5)/\·) ⟨dc,dc,Cn1 (decide ((k:Int)<(t.kids.length:Int))) [1,2,3,4] [] (Ki/\·) ⟨rfl,fun hc12 c12=>?_,fun hc12 c12=>?_⟩⟩)
 refine Sk (Jn (hK10 (Kp [1,2,3,4] (Sq fun K13 hK13=>?_))))
 refine Bl (Qb [0,1,0,4,0,28,60,124,252,511,1023,2047] [(0,[]),(1,[]),(2,[]),(3,[]),(4,[]),(5,[]),(6,[]),(7,[1]),(8,[1]),(9,[]),(10,[]),(11,[])] (fun h=>Bn (Jn (hK13 h))) (qAv1 6 28 [(27,.i k),(26,.sl 5 (t.kids.map trc)),(25,.ptr 0 4),(24,.osl 20 5 0 ((t.kids.take k).length)),(23,.ptr 16 4)] (congrArg AV.pat (mg_trc t.kids k om)) (((1:Nat)≠0)/\(4+1<=5/\4<5)/\((1:Nat)≠0)/\(4+1<=5/\4<5)/\(5=5/\(0:Int)<=(k:Int)/\(k:Int)<((t.kids.map trc).length:Int))/\·) ⟨dc,dc,dc,dc,⟨rfl,om,lmo⟩,qBc1 2 [(29,.agg (tcs (t.kids.getD k default)))] [1] 57 [.agg (tcs (t.kids.getD k default))] 30 ((5<=5/\0<5)/\·) ⟨dc,?_⟩⟩))
 have hW:=Ws_get t.kids k om
 refine PE.use (l1Copy_ok _ (t.kids.getD k default) rfl om) ?_
 refine Kq (p:=(((4+1<=5/\4<5)/\(AV.osl 20 5 0 ((t.kids.take k).length)=(.osl 20 5 0 ((t.kids.take k).length):AV)))/\True)) ⟨⟨dc,rfl⟩,trivial⟩ ?_
 refine qAn3 2 [(32,.osl 28 5 0 ((t.kids.take k).length+1)),(31,.osl 24 5 0 1)] ([(28,apd (fl trc (t.kids.take k)) ((t.kids.take k).length*5) (tcs (t.kids.getD k default))),(24,tcs (t.kids.getD k default))]++Hw [] [20] ·) 32 (fun Z=>(1*5<=16777216)/\(((4+1<=5/\4<5)/\(AV.osl 20 5 0 ((t.kids.take k).length)=(.osl 20 5 0 ((t.kids.take k).length):AV)))/\True)/\(0+1*5<=5)/\(5=5/\(t.kids.take k).length*5<=(fl trc (t.kids.take k)).length/\0<80/\((t.kids.take k).length+1)*80<=140737488355328)/\(True)/\Z) ⟨dc,⟨⟨dc,rfl⟩,trivial⟩,dc,⟨rfl,gl,dc,gl⟩,trivial,runq_v (v':=.osl 28 5 0 ((t.kids.take k++[(t.kids.getD k default)]).length)) (push_len _ _ _ _) (runq_h (cs':=fl trc (t.kids.take k++[(t.kids.getD k default)])) (push_trc (t.kids.take k) (t.kids.getD k default)) (qFn3 [1,2,3,4] [] (Hw [(16,(tr5 t (.osl 12 1 0 t.names.length) (.osl 28 5 0 ((t.kids.take k++[(t.kids.getD k default)]).length))))] [] ·) 32 (((1:Nat)≠0)/\(true=true/\1=1/\4+1<=5)/\(True)/\·) ⟨dc,dc,trivial,Rn ?_⟩))⟩
 refine Av1 2 22 [(21,.i k)] (cI (wn1 k om)) (Ki/\·) ⟨rfl,Gn0 [(4,.i ((k+1:Nat):Int))] (nk_n (Lr (k+1,some ()) [(0,0),(4,4),(12,12),(16,16),(28,20)] 24 [(1,.ptr 0 0),(2,.ptr 4 0),(3,.ptr 16 0),(4,.i ((k+1:Nat):Int))] [(28,fl trc (t.kids.take k++[(t.kids.getD k default)])),(16,(tr5 t (.osl 12 1 0 t.names.length) (.osl 28 5 0 ((t.kids.take k++[(t.kids.getD k default)]).length)))),(12,fl sc t.names),(4,zt),(0,tcs t)] [false,true,false,true,true] ?_ ?_ (by(try rw[<-take_snoc t.kids k default om]);try kernel_rfl) kr))⟩
 (try dsimp only);omega
 refine⟨?_,rfl⟩;(try dsimp only);omega
 refine Xt (Jx (Lx (Bh (Jn (hK3 (Kp [2,3] ?_))))))
 have hkk:t.kids.take k=t.kids:=List.take_of_length_le om
 rw[hkk]
 refine h_pm (H':=((16,(tr5 t (.osl 12 1 0 t.names.length) (.osl 20 5 0 t.kids.length)))::(4,zt)::(0,tcs t)::(12,fl sc t.names)::(20,fl trc t.kids)::[])) (List.Perm.trans (List.Perm.cons _ (List.Perm.cons _ (List.Perm.cons _ (List.Perm.swap _ _ _)))) (List.Perm.trans (List.Perm.cons _ (List.Perm.cons _ (List.Perm.swap _ _ _))) (List.Perm.trans (List.Perm.cons _ (List.Perm.cons _ (List.Perm.cons _ (List.Perm.swap _ _ _)))) (List.Perm.trans (List.Perm.cons _ (List.Perm.swap _ _ _)) (List.Perm.trans (List.Perm.cons _ (List.Perm.cons _ (List.Perm.swap _ _ _))) (List.Perm.swap _ _ _)))))) ?_
 refine h_k [2,3] (F':=[(2,.ptr 4 0),(3,.ptr 16 0)]) kr ?_
 refine Hn ((16,(tr5 t (.osl 12 1 0 t.names.length) (.osl 20 5 0 t.kids.length)))::(4,zt)::(0,tcs t)::(12,fl sc t.names)::(20,fl trc t.kids)::[]) (h_odd (H:=[(16,(tr5 t (.osl 12 1 0 t.names.length) (.osl 20 5 0 t.kids.length))),(4,zt),(0,tcs t),(12,fl sc t.names),(20,fl trc t.kids)]) 20 (fun jk=>[(2,.ptr 4 0),(3,.ptr 16 0)]) (fun jk=>[(16,(tr5 t (.osl 12 1 0 t.names.length) (.osl (2*jk+1) 5 0 t.kids.length))),(4,zt),(0,tcs t),(12,fl sc t.names),((2*jk+1),fl trc t.kids)]) kr (show odH []from trivial) (fun jk=>⟨by simp only[slF,slp,slps,go_sem,and_self],kr⟩) (fun jk=>⟨rfl,.inr ⟨by simp only[tcs,slps,slp,go_sem,and_self],kr⟩,rfl,.inr ⟨by simp only[tcs,slps,slp,go_sem,and_self],kr⟩,rfl,.inr ⟨by simp only[tcs,slps,slp,go_sem,and_self],kr⟩,rfl,.inl ⟨ods_flS _,rfl⟩,rfl,.inl ⟨ods_flT _,rfl⟩,trivial⟩) (fun jk=>(h_k [2,3] (F':=[(2,.ptr 4 0),(3,.ptr 16 0)]) kr (Hn ((16,(tr5 t (.osl 12 1 0 t.names.length) (.osl (2*jk+1) 5 0 t.kids.length)))::(4,zt)::(0,tcs t)::(12,fl sc t.names)::(((2*jk+1),fl trc t.kids)::[])) (h_odd (H:=[(16,(tr5 t (.osl 12 1 0 t.names.length) (.osl (2*jk+1) 5 0 t.kids.length))),(4,zt),(0,tcs t),(12,fl sc t.names)]) 12 (fun jn=>[(2,.ptr 4 0),(3,.ptr 16 0)]) (fun jn=>[(16,(tr5 t (.osl (2*jn+1) 1 0 t.names.length) (.osl (2*jk+1) 5 0 t.kids.length))),(4,zt),(0,tcs t),((2*jn+1),fl sc t.names)]) kr ⟨om,ods_flT _,(show odH []from trivial)⟩ (fun jn=>⟨by simp only[slF,slp,slps,go_sem,and_self],kr⟩) (fun jn=>⟨rfl,.inr ⟨by simp only[tcs,slps,slp,go_sem,and_self],by simp only[r1s,r1];rw[nbq (show 2*jk+1≠12 by omega)];rfl⟩,rfl,.inr ⟨by simp only[tcs,slps,slp,go_sem,and_self],kr⟩,rfl,.inr ⟨by simp only[tcs,slps,slp,go_sem,and_self],kr⟩,rfl,.inl ⟨ods_flS _,rfl⟩,trivial⟩) (fun jn=>?_))))))
 refine Rr (Fn3 [2] [] (fun _=>((16,(tr5 t (.osl (2*jn+1) 1 0 t.names.length) (.osl (2*jk+1) 5 0 t.kids.length)))::(4,(tr5 t (.osl (2*jn+1) 1 0 t.names.length) (.osl (2*jk+1) 5 0 t.kids.length)))::(0,tcs t)::(((2*jn+1),fl sc t.names)::(((2*jk+1),fl trc t.kids)::[])))) 24 ((0+5<=5/\0<5)/\(true=true/\5=5/\0+5<=5)/\·) ⟨dc,dc,Rt1 ((0+5<=5/\0<5)/\·) (.agg (tr5 t (.osl (2*jn+1) 1 0 t.names.length) (.osl (2*jk+1) 5 0 t.kids.length))) ⟨dc,fin_dc (cpA t (.osl (2*jn+1) 1 0 t.names.length) (.osl (2*jk+1) 5 0 t.kids.length)) [(2*jn+1,fl sc t.names),(2*jk+1,fl trc t.kids)] (List.Sublist.cons _ (List.Sublist.cons _ (List.Sublist.cons _ (List.Sublist.refl _)))) (lea_refl _) ⟨trivial,trivial,trivial,by show(2*jn+1)%2=1;omega,by show(2*jk+1)%2=1;omega,trivial⟩ ⟨om,ods_flS _,om,ods_flT _,trivial⟩ ⟨jn,.inr ⟨om,jk,rfl,rfl⟩⟩⟩⟩)
theorem l1Open_ok (X:Str) (hX:X.length<2^40):DC G 15 [.sl 1 (X.map fun c=>[AV.int .u8 (c.toNat:Int)])] [] (OpR X):=by
 refine DC_nd fun hnd=>?_
 refine h_dc (F:=[(0,.sl 1 (X.map fun c=>[AV.int .u8 (c.toNat:Int)]))]) (ods_pur _ (by simp only[go_sem])) trivial Tryz.func15 kr kr ?_ kr
 refine Rr (Fn0 [0] [] (Sq fun K2 hK2=>?_))
 refine Rr (Av0 2 4 [(3,.sl 1 (X.map fun c=>[AV.int .u8 (c.toNat:Int)]))] (lnm X uc) (Cn1 (decide ((2000:Int)<((X.length:Int):Int))) [0] [] (Ki/\·) ⟨rfl,fun hc4 c4=>?_,fun hc4 c4=>?_⟩))
 refine Rb (fun h=>Jn (hK2 h)) (Av1 (r:=.sl 1 (((X.map (fun c=>[AV.int .u8 (c.toNat:Int)])).take 2000).drop 0)) (v:=.sl 1 ((X.take 2000).map fun c=>[AV.int .u8 (c.toNat:Int)])) 2 7 [(6,.sl 1 (X.map fun c=>[AV.int .u8 (c.toNat:Int)]))] (congrArg (AV.sl 1) (slm_0 _ _ _)) (fun Z=>(1=1/\0<=(0:Int)/\(0:Int)<=2000/\2000<=(((X.map (fun c=>[AV.int .u8 (c.toNat:Int)])).length:Nat):Int))/\Z) ⟨⟨rfl,om,by(try rw[List.length_map]);omega,lmo⟩,Fn0 [] [(0,.sl 1 ((X.take 2000).map fun c=>[AV.int .u8 (c.toNat:Int)]))] (Rr (Fn2 [] [(2,.ptr 0 0)] ([(0,[.sl 1 ((X.take 2000).map fun c=>[AV.int .u8 (c.toNat:Int)]),.i 0])]++·) 4 ?_))⟩)
 refine h_pm (H':=((0,[.sl 1 ((X.take 2000).map fun c=>[AV.int .u8 (c.toNat:Int)]),.i 0])::[])) (List.Perm.refl _) ?_
 refine h_k [2] (F':=[(2,.ptr 0 0)]) kr ?_
 refine Hn ((0,[.sl 1 ((X.take 2000).map fun c=>[AV.int .u8 (c.toNat:Int)]),.i 0])::[]) (h_odd (H:=[(0,[.sl 1 ((X.take 2000).map fun c=>[AV.int .u8 (c.toNat:Int)]),.i 0])]) 0 (fun jr=>[(2,.ptr (2*jr+1) 0)]) (fun jr=>[((2*jr+1),[.sl 1 ((X.take 2000).map fun c=>[AV.int .u8 (c.toNat:Int)]),.i 0])]) kr (show odH []from trivial) (fun jr=>⟨by simp only[slF,slp,slps,go_sem,and_self],kr⟩) (fun jr=>⟨rfl,.inr ⟨by simp only[tcs,slps,slp,go_sem,and_self],kr⟩,trivial⟩) (fun jr=>(Rt (.ptr (2*jr+1) 0) (fin_dc (.ptr (2*jr+1) 0) _ (List.Sublist.refl _) (lea_refl _) (by show(2*jr+1)%2=1;omega) ⟨om,ods_pur _ (by simp only[go_sem]),trivial⟩ ⟨jr,_,rfl,rfl,by first|omega|(simp only[List.length_take];omega)⟩))))
 refine Sk (Jn (hK2 (Kp [0] (Rr (Fn2 [] [(2,.ptr 0 0)] ([(0,[.sl 1 (X.map fun c=>[AV.int .u8 (c.toNat:Int)]),.i 0])]++·) 4 (h_pm (H':=((0,[.sl 1 (X.map fun c=>[AV.int .u8 (c.toNat:Int)]),.i 0])::[])) (List.Perm.refl _) (h_k [2] (F':=[(2,.ptr 0 0)]) kr ?_)))))))
 refine Hn ((0,[.sl 1 (X.map fun c=>[AV.int .u8 (c.toNat:Int)]),.i 0])::[]) (h_odd (H:=[(0,[.sl 1 (X.map fun c=>[AV.int .u8 (c.toNat:Int)]),.i 0])]) 0 (fun jr=>[(2,.ptr (2*jr+1) 0)]) (fun jr=>[((2*jr+1),[.sl 1 (X.map fun c=>[AV.int .u8 (c.toNat:Int)]),.i 0])]) kr (show odH []from trivial) (fun jr=>⟨by simp only[slF,slp,slps,go_sem,and_self],kr⟩) (fun jr=>⟨rfl,.inr ⟨by simp only[tcs,slps,slp,go_sem,and_self],kr⟩,trivial⟩) (fun jr=>(Rt (.ptr (2*jr+1) 0) (fin_dc (.ptr (2*jr+1) 0) _ (List.Sublist.refl _) (lea_refl _) (by show(2*jr+1)%2=1;omega) ⟨om,ods_pur _ (by simp only[go_sem]),trivial⟩ ⟨jr,_,rfl,rfl,by first|omega|(simp only[List.length_take];omega)⟩))))
open Go Go.Proofs
set_option maxRecDepth 100000
set_option maxHeartbeats 4000000 in
theorem l4Spoil_ok:∀(N:Nat) (t:Tr) (b:Str) (p:Nat),t.W=N->t.W<2^14->p+2*t.W<2^26->b.length<2^30->RC G 31 [.agg (tcs t)] b p (fun r p'=>∃x:Tr,x.W<=t.W+2000/\r=.agg (tcs x)/\p'<=p+2*t.W+40):=by
 intro N;refine Nat.strongRecOn N fun N ih=>?_;intro t b p hN hw hp hb;have hWe:=W_eq t;have hks:=Ws_len t.kids;have hns:=wS_len t.names
 refine h_rc (F:=[(0,.ptr 0 0),(1,.agg (tcs t))]) (by simp only[go_sem]) Tryz.func31 kr kr ?_ kr
 refine Rr (Fn2 [0] [(4,.ptr 8 0),(3,.ptr 4 0)] ([(8,zt),(4,tcs t)]++·) 12 (Rr (Bc1 2 [(9,.agg (tcs t))] 57 [.agg (tcs t)] 10 ((0+5<=5/\0<5)/\·) ⟨dc,cp_use (l1CopyO_ok t om) (fun hk=>?_) (fun hk=>?_)⟩)))
 show KE _ _ _ (.agg _) _ _
 refine Ke (Fn3 [0,4] [(5,.ptr 16 0)] ([(16,(tr5 t (.osl 12 1 0 t.names.length)  .nils))]++·) 20 ((true=true/\5=5/\0+5<=5)/\·) ⟨dc,Sq fun K3 hK3=>?_⟩)
 refine Rr (Fn1 [0,4,5] [(19,.bool false)] (((1:Nat)≠0)/\(4+1<=5/\4<5)/\Ki/\·) ⟨dc,dc,rfl,Cf (Sk (Jn (hK3 (Kp [0,4,5] (Sq fun K5 hK5=>?_)))))⟩)
 refine Rr (Bc0 2 [(37,.ptr 0 0)] 30 [.ptr 0 0,.i 8] 38 (RC.use (pick_ok b p 8 om om om om) kr fun r p1 hr=>?_));obtain⟨pk7,hpk7,rfl,rfl⟩:=hr
 refine Ke (Fn0 [0,4,5,38] [] (Bl (Rr (Cn1 (decide ((pk7:Int)=0)) [0,4,5,38] [] (Ki/\·) ⟨rfl,fun hc9 c9=>?_,fun hc9 c9=>?_⟩))))
 refine Rb (fun h=>Bn (Jn (hK5 h))) (Bc3 3 [(61,.ptr 0 0),(60,.osl 20 1 0 3)] 30 [.ptr 0 0,.i 3] 62 ([(20,[.i (-1),.i 7,.i 8])]++·) 24 ((3*1<=16777216)/\·) ⟨dc,RC.use (pick_ok b (p+1) 3 om om om om) kr fun r p1 hr=>?_⟩);obtain⟨pk10,hpk10,rfl,rfl⟩:=hr
 refine Ke (Av1 (r:=([.i (-1),.i 7,.i 8].getD (0+pk10*1) .dead:AV)) (v:=.i (([-1,7,8]:List Int).getD pk10 0)) 2 64 [(63,.ptr 20 (0+pk10*1))] (ints_get ([-1,7,8]:List Int) pk10 (by simp only[List.length_cons,List.length_nil];omega)) ((1=1/\(0:Int)<=(pk10:Int)/\(pk10:Int)<(3:Int))/\(0+pk10*1+1<=3/\0+pk10*1<3)/\·) ⟨⟨rfl,om,om⟩,⟨om,om⟩,Fn3 [4,5] [] (Hw [(16,[.bool t.dir,.i (([-1,7,8]:List Int).getD pk10 0),.str t.data,.osl 12 1 0 t.names.length,.nils])] [] ·) 24 (((1:Nat)≠0)/\(true=true/\1=1/\1+1<=5)/\·) ⟨dc,dc,Rr (Fn3 [4] [] (Hw [(8,[.bool t.dir,.i (([-1,7,8]:List Int).getD pk10 0),.str t.data,.osl 12 1 0 t.names.length,.nils])] [] ·) 24 ((0+5<=5/\0<5)/\(true=true/\5=5/\0+5<=5)/\·) ⟨dc,dc,?_⟩)⟩⟩)
 refine FzS 12 t.names [(4,.ptr 8 0)] [(8,[.bool t.dir,.i (([-1,7,8]:List Int).getD pk10 0),.str t.data,.osl 12 1 0 t.names.length,.nils]),(0,rdc b (p+1+1))] [true,true] (Rt1 ((0+5<=5/\0<5)/\·) (.agg [.bool t.dir,.i (([-1,7,8]:List Int).getD pk10 0),.str t.data,pth t.names,.nils]) ⟨dc,?_⟩)
 have hWx:(Tr.mk t.dir (([-1,7,8]:List Int).getD pk10 0) t.data t.names []).W<=t.W+2000:=by
   (try (rw[W_eq (Tr.mk _ _ _ _ _)];simp only[Tr.data_mk,Tr.names_mk,Tr.kids_mk,wS_app,Ws_app,wS,Tr.Ws,List.length_append,List.length_cons,List.length_nil,W_none]))
   omega
 exact fin_rc (p+1+1) (by first|exact lea_refl _|simp[lea,leas,pth,tcs]) (by simp only[go_sem]) kr ⟨(Tr.mk t.dir (([-1,7,8]:List Int).getD pk10 0) t.data t.names []),hWx,rfl,om⟩
 refine Rr (Cn1 (decide ((pk7:Int)=1)) [0,4,5,38] [] (Ki/\·) ⟨rfl,fun hc13 c13=>?_,fun hc13 c13=>?_⟩)
 refine Rb (fun h=>Bn (Jn (hK5 h))) (Fn3 [4,5] [] (Hw [(16,[.bool (!t.dir),.i t.mode,.str t.data,.osl 12 1 0 t.names.length,.nils])] [] ·) 20 (((1:Nat)≠0)/\(0+1<=5/\0<5)/\((1:Nat)≠0)/\(true=true/\1=1/\0+1<=5)/\·) ⟨dc,dc,dc,dc,Rr (Fn3 [4] [] (Hw [(8,[.bool (!t.dir),.i t.mode,.str t.data,.osl 12 1 0 t.names.length,.nils])] [] ·) 20 ((0+5<=5/\0<5)/\(true=true/\5=5/\0+5<=5)/\·) ⟨dc,dc,FzS 12 t.names [(4,.ptr 8 0)] [(8,[.bool (!t.dir),.i t.mode,.str t.data,.osl 12 1 0 t.names.length,.nils]),(0,rdc b (p+1))] [true,true] ?_⟩)⟩)
 refine Rt1 ((0+5<=5/\0<5)/\·) (.agg [.bool (!t.dir),.i t.mode,.str t.data,pth t.names,.nils]) ⟨dc,?_⟩
 have hWx:(Tr.mk (!t.dir) t.mode t.data t.names []).W<=t.W+2000:=by
   (try (rw[W_eq (Tr.mk _ _ _ _ _)];simp only[Tr.data_mk,Tr.names_mk,Tr.kids_mk,wS_app,Ws_app,wS,Tr.Ws,List.length_append,List.length_cons,List.length_nil,W_none]))
   omega
 exact fin_rc (p+1) (by first|exact lea_refl _|simp[lea,leas,pth,tcs]) (by simp only[go_sem]) kr ⟨(Tr.mk (!t.dir) t.mode t.data t.names []),hWx,rfl,om⟩
 refine Rr (Cn1 (decide ((pk7:Int)=2)) [0,4,5,38] [] (Ki/\·) ⟨rfl,fun hc16 c16=>?_,fun hc16 c16=>?_⟩)
 refine Rb (fun h=>Bn (Jn (hK5 h))) (Fn3 [4,5] [] (Hw [(16,[.bool t.dir,.i t.mode,.str (t.data++[120]),.osl 12 1 0 t.names.length,.nils])] [] ·) 20 (((1:Nat)≠0)/\(2+1<=5/\2<5)/\(t.data.length+[120].length<=9223372036854775807)/\((1:Nat)≠0)/\(true=true/\1=1/\2+1<=5)/\·) ⟨dc,dc,(by simp only[List.length_cons,List.length_nil];omega),dc,dc,Rr (Fn3 [4] [] (Hw [(8,[.bool t.dir,.i t.mode,.str (t.data++[120]),.osl 12 1 0 t.names.length,.nils])] [] ·) 20 ((0+5<=5/\0<5)/\(true=true/\5=5/\0+5<=5)/\·) ⟨dc,dc,FzS 12 t.names [(4,.ptr 8 0)] [(8,[.bool t.dir,.i t.mode,.str (t.data++[120]),.osl 12 1 0 t.names.length,.nils]),(0,rdc b (p+1))] [true,true] ?_⟩)⟩)
 refine Rt1 ((0+5<=5/\0<5)/\·) (.agg [.bool t.dir,.i t.mode,.str (t.data++[120]),pth t.names,.nils]) ⟨dc,?_⟩
 have hWx:(Tr.mk t.dir t.mode (t.data++[120]) t.names []).W<=t.W+2000:=by
   (try (rw[W_eq (Tr.mk _ _ _ _ _)];simp only[Tr.data_mk,Tr.names_mk,Tr.kids_mk,wS_app,Ws_app,wS,Tr.Ws,List.length_append,List.length_cons,List.length_nil,W_none]))
   omega
 exact fin_rc (p+1) (by first|exact lea_refl _|simp[lea,leas,pth,tcs]) (by simp only[go_sem]) kr ⟨(Tr.mk t.dir t.mode (t.data++[120]) t.names []),hWx,rfl,om⟩
 refine Rr (Cn1 (decide ((pk7:Int)=3)) [0,4,5,38] [] (Ki/\·) ⟨rfl,fun hc19 c19=>?_,fun hc19 c19=>?_⟩)
 refine Qr [0,1,0,0,12,28,63,127,255] [(0,[]),(1,[]),(2,[]),(3,[1]),(4,[1]),(5,[1]),(6,[]),(7,[]),(8,[])] (qBc3 5 [(83,.osl 20 1 0 5),(82,.ptr 0 0),(81,.osl 12 1 0 t.names.length),(80,.ptr 16 3)] [1] 47 [.ptr 0 0,.osl 20 1 0 5] 84 ([(20,[.str [122,122],.str [],.str [97],.str [90],.str [116,111,111,108,111,110,103]])]++·) 24 (((1:Nat)≠0)/\(3+1<=5/\3<5)/\(5*1<=16777216)/\(((3+1<=5/\3<5)/\(AV.osl 12 1 0 t.names.length=(.osl 12 1 0 t.names.length:AV)))/\True)/\·) ⟨dc,dc,dc,⟨⟨dc,rfl⟩,trivial⟩,Tz 20 1 5 ([[.str [122,122]],[.str []],[.str [97]],[.str [90]],[.str [116,111,111,108,111,110,103]]]) ([.str [122,122],.str [],.str [97],.str [90],.str [116,111,111,108,111,110,103]]) [.ptr 0 0,pth [[122,122],[],[97],[90],[116,111,111,108,111,110,103]]] [(16,(tr5 t (.osl 12 1 0 t.names.length)  .nils)),(12,fl sc t.names),(8,zt),(4,tcs t),(0,rdc b (p+1))] [true,false,true,true,true] kr (by first|decide|simp) (RC.use (of_ok b (p+1) [[122,122],[],[97],[90],[116,111,111,108,111,110,103]] (by first|omega|decide|simp) (by first|omega|decide|simp) om om) kr fun r p1 hr=>?_)⟩);obtain⟨os21,hos21,rfl,rfl⟩:=hr
 have hol:os21.length<=7:=by
   have hq:=hos21
   simp only[List.mem_cons,List.not_mem_nil,or_false]at hq
   rcases hq with h|h|h|h|h<;>rw[h]<;>decide
 refine Kq (p:=(((3+1<=5/\3<5)/\(AV.osl 12 1 0 t.names.length=(.osl 12 1 0 t.names.length:AV)))/\True)) ⟨⟨dc,rfl⟩,trivial⟩ ?_
 refine qAn3 2 [(86,.osl 28 1 0 (t.names.length+1)),(85,.osl 24 1 0 1)] ([(28,apd (fl sc t.names) (t.names.length*1) [.str os21]),(24,[.str os21])]++Hw [] [12] ·) 32 ((1*1<=16777216)/\(((3+1<=5/\3<5)/\(AV.osl 12 1 0 t.names.length=(.osl 12 1 0 t.names.length:AV)))/\True)/\(0+1*1<=1)/\(1=1/\t.names.length*1<=(fl sc t.names).length/\0<16/\(t.names.length+1)*16<=140737488355328)/\(True)/\·) ⟨dc,⟨⟨dc,rfl⟩,trivial⟩,dc,⟨rfl,gl,dc,gl⟩,trivial,runq_v (v':=.osl 28 1 0 ((t.names++[os21]).length)) (push_len _ _ _ _) (runq_h (cs':=fl sc (t.names++[os21])) (push_str t.names os21) (qFn3 [4,5] [] (Hw [(16,(tr5 t (.osl 28 1 0 ((t.names++[os21]).length))  .nils))] [] ·) 32 (((1:Nat)≠0)/\(true=true/\1=1/\3+1<=5)/\(True)/\·) ⟨dc,dc,trivial,Rb (fun h=>Bn (Jn (hK5 h))) ?_⟩))⟩
 refine Fn3 [4,5] [] ([(36,zt),(32,zt)]++Hw [(16,(tr5 t (.osl 28 1 0 ((t.names++[os21]).length)) (.osl 36 5 0 1)))] [] ·) 40 (((1:Nat)≠0)/\(4+1<=5/\4<5)/\(1*5<=16777216)/\(0+1*5<=5)/\(0<1/\0<80/\1*80<=140737488355328)/\((1:Nat)≠0)/\(true=true/\1=1/\4+1<=5)/\·) ⟨dc,dc,dc,dc,dc,dc,dc,Hn [(36,zt),(32,zt),(28,fl sc (t.names++[os21])),(24,[.str os21]),(16,(tr5 t (.osl 28 1 0 ((t.names++[os21]).length)) (.osl 36 5 0 1))),(8,zt),(4,tcs t),(0,rdc b (p+1+1))] (h_lo (H':=[(36,fl trc [Tr.none]),(32,zt),(28,fl sc (t.names++[os21])),(24,[.str os21]),(16,(tr5 t (.osl 28 1 0 ((t.names++[os21]).length)) (.osl 36 5 0 1))),(8,zt),(4,tcs t),(0,rdc b (p+1+1))]) ⟨⟨rfl,(by rw[fl_one,trc_none];simp[leas,lea])⟩,⟨rfl,leas_refl _⟩,⟨rfl,leas_refl _⟩,⟨rfl,leas_refl _⟩,⟨rfl,leas_refl _⟩,⟨rfl,leas_refl _⟩,⟨rfl,leas_refl _⟩,⟨rfl,leas_refl _⟩,trivial⟩ (h_k [4,5] (F':=[(4,.ptr 8 0),(5,.ptr 16 0)]) kr (h_st (F':=[(4,.ptr 8 0),(5,.ptr 16 0)]) (H':=[(36,fl trc [Tr.none]),(32,zt),(28,fl sc (t.names++[os21])),(24,[.str os21]),(16,(tr5 t (.osl 28 1 0 ((t.names++[os21]).length)) (.osl 36 5 0 (([Tr.none]).length)))),(8,zt),(4,tcs t),(0,rdc b (p+1+1))]) rfl (by simp only[List.length_append,List.length_cons,List.length_nil]) ?_)))⟩
 refine Rr (Fn3 [4] [] (Hw [(8,(tr5 t (.osl 28 1 0 ((t.names++[os21]).length)) (.osl 36 5 0 (([Tr.none]).length))))] [] ·) 40 ((0+5<=5/\0<5)/\(true=true/\5=5/\0+5<=5)/\·) ⟨dc,dc,FzT 36 [Tr.none] [(4,.ptr 8 0)] [(28,fl sc (t.names++[os21])),(8,(tr5 t (.osl 28 1 0 ((t.names++[os21]).length)) (.osl 36 5 0 (([Tr.none]).length)))),(0,rdc b (p+1+1))] [false,true,true] (FzS 28 (t.names++[os21]) [(4,.ptr 8 0)] [(8,(tr5 t (.osl 28 1 0 ((t.names++[os21]).length)) (.sl 5 ([Tr.none].map trc)))),(0,rdc b (p+1+1))] [true,true] (Rt1 ((0+5<=5/\0<5)/\·) (.agg (tr5 t (pth (t.names++[os21])) (.sl 5 ([Tr.none].map trc)))) ⟨dc,?_⟩))⟩)
 have hWx:(Tr.mk t.dir t.mode t.data (t.names++[os21]) [Tr.none]).W<=t.W+2000:=by
   (try (rw[W_eq (Tr.mk _ _ _ _ _)];simp only[Tr.data_mk,Tr.names_mk,Tr.kids_mk,wS_app,Ws_app,wS,Tr.Ws,List.length_append,List.length_cons,List.length_nil,W_none]))
   omega
 exact fin_rc (p+1+1) (by first|exact lea_refl _|simp[lea,leas,pth,tcs]) (by simp only[go_sem]) kr ⟨(Tr.mk t.dir t.mode t.data (t.names++[os21]) [Tr.none]),hWx,rfl,om⟩
 refine Rr (Cn1 (decide ((pk7:Int)=4)) [0,4,5,38] [] (Ki/\·) ⟨rfl,fun hc24 c24=>?_,fun hc24 c24=>?_⟩)
 refine Rb (fun h=>Bn (Jn (hK5 h))) (An3 4 [(99,.osl 24 1 0 (t.names.length+1)),(98,.osl 20 1 0 1),(97,.osl 12 1 0 t.names.length),(96,.ptr 16 3)] ([(24,apd (fl sc t.names) (t.names.length*1) [.str [122,122,122]]),(20,[.str [122,122,122]])]++Hw [] [12] ·) 28 (((1:Nat)≠0)/\(3+1<=5/\3<5)/\(1*1<=16777216)/\(0+1*1<=1)/\(1=1/\t.names.length*1<=(fl sc t.names).length/\0<16/\(t.names.length+1)*16<=140737488355328)/\·) ⟨dc,dc,dc,dc,⟨rfl,gl,dc,gl⟩,run_v (v':=.osl 24 1 0 ((t.names++[[122,122,122]]).length)) (push_len _ _ _ _) (run_h (cs':=fl sc (t.names++[[122,122,122]])) (push_str t.names [122,122,122]) (Fn3 [4,5] [] (Hw [(16,(tr5 t (.osl 24 1 0 ((t.names++[[122,122,122]]).length))  .nils))] [] ·) 28 (((1:Nat)≠0)/\(true=true/\1=1/\3+1<=5)/\·) ⟨dc,dc,?_⟩))⟩)
 refine Rr (Fn3 [4] [] (Hw [(8,(tr5 t (.osl 24 1 0 ((t.names++[[122,122,122]]).length))  .nils))] [] ·) 28 ((0+5<=5/\0<5)/\(true=true/\5=5/\0+5<=5)/\·) ⟨dc,dc,FzS 24 (t.names++[[122,122,122]]) [(4,.ptr 8 0)] [(8,(tr5 t (.osl 24 1 0 ((t.names++[[122,122,122]]).length))  .nils)),(0,rdc b (p+1))] [true,true] (Rt1 ((0+5<=5/\0<5)/\·) (.agg (tr5 t (pth (t.names++[[122,122,122]]))  .nils)) ⟨dc,?_⟩)⟩)
 have hWx:(Tr.mk t.dir t.mode t.data (t.names++[[122,122,122]]) []).W<=t.W+2000:=by
   (try (rw[W_eq (Tr.mk _ _ _ _ _)];simp only[Tr.data_mk,Tr.names_mk,Tr.kids_mk,wS_app,Ws_app,wS,Tr.Ws,List.length_append,List.length_cons,List.length_nil,W_none]))
   omega
 exact fin_rc (p+1) (by first|exact lea_refl _|simp[lea,leas,pth,tcs]) (by simp only[go_sem]) kr ⟨(Tr.mk t.dir t.mode t.data (t.names++[[122,122,122]]) []),hWx,rfl,om⟩
 refine Rr (Cn1 (decide ((pk7:Int)=5)) [0,4,5,38] [] (Ki/\·) ⟨rfl,fun hc27 c27=>?_,fun hc27 c27=>?_⟩)
 refine Rb (fun h=>Bn (Jn (hK5 h))) (Bc0 2 [(103,.ptr 0 0)] 30 [.ptr 0 0,.i 2] 104 (RC.use (pick_ok b (p+1) 2 om om om om) kr fun r p1 hr=>?_));obtain⟨pk28,hpk28,rfl,rfl⟩:=hr
 refine Ke (Av1 1 105 [] (cI (wnn 24 pk28 om)) (Ki/\·) ⟨rfl,Bc0 1 [] 48 [.str [100],.i ((24+pk28:Nat):Int)] 106 (PC.use (l1Many_ok [100] (24+pk28) (by first|omega|decide) (by first|omega|(simp only[List.length_cons,List.length_nil];omega)) om) fun r hr=>?_)⟩);obtain⟨mt29,rfl,hmt29⟩:=hr;simp only[List.length_cons,List.length_nil]at hmt29
 refine Ke (Fn3 [4,5] [] (Hw [(16,[.bool t.dir,.i t.mode,.str mt29,.osl 12 1 0 t.names.length,.nils])] [] ·) 20 (((1:Nat)≠0)/\(true=true/\1=1/\2+1<=5)/\·) ⟨dc,dc,Rr (Fn3 [4] [] (Hw [(8,[.bool t.dir,.i t.mode,.str mt29,.osl 12 1 0 t.names.length,.nils])] [] ·) 20 ((0+5<=5/\0<5)/\(true=true/\5=5/\0+5<=5)/\·) ⟨dc,dc,FzS 12 t.names [(4,.ptr 8 0)] [(8,[.bool t.dir,.i t.mode,.str mt29,.osl 12 1 0 t.names.length,.nils]),(0,rdc b (p+1+1))] [true,true] ?_⟩)⟩)
 refine Rt1 ((0+5<=5/\0<5)/\·) (.agg [.bool t.dir,.i t.mode,.str mt29,pth t.names,.nils]) ⟨dc,?_⟩
 have hWx:(Tr.mk t.dir t.mode mt29 t.names []).W<=t.W+2000:=by
   (try (rw[W_eq (Tr.mk _ _ _ _ _)];simp only[Tr.data_mk,Tr.names_mk,Tr.kids_mk,wS_app,Ws_app,wS,Tr.Ws,List.length_append,List.length_cons,List.length_nil,W_none]))
   omega
 exact fin_rc (p+1+1) (by first|exact lea_refl _|simp[lea,leas,pth,tcs]) (by simp only[go_sem]) kr ⟨(Tr.mk t.dir t.mode mt29 t.names []),hWx,rfl,om⟩
 refine Rr (Cn1 (decide ((pk7:Int)=6)) [0,4,5] [] (Ki/\·) ⟨rfl,fun hc32 c32=>?_,fun hc32 c32=>?_⟩)
 refine Rr (Fn0 [0,4,5] [(7,.i 0)] (Bl (FzS 12 t.names [(0,.ptr 0 0),(4,.ptr 8 0),(5,.ptr 16 0),(7,.i 0)] [(16,(tr5 t (.osl 12 1 0 t.names.length)  .nils)),(8,zt),(0,rdc b (p+1))] [true,true,true] (Hn [(16,(tr5 t (pth t.names)  .nils)),(8,zt),(0,rdc b (p+1))] ?_))))
 refine h_lo (H':=[(16,tcs (Tr.mk t.dir t.mode t.data t.names [])),(8,zt),(0,rdc b (p+1))]) ⟨⟨rfl,(by simp[lea,leas,pth,tcs,clc])⟩,⟨rfl,leas_refl _⟩,⟨rfl,leas_refl _⟩,trivial⟩ ?_
 refine h_l (fun(z:Tr×Nat×Nat)=>(match z with|(x,q,i)=>([(0,.ptr 0 0),(4,.ptr 8 0),(5,.ptr 16 0),(7,.i i)]:Fr))) (fun(z:Tr×Nat×Nat)=>(match z with|(x,q,i)=>([(16,tcs x),(8,zt),(0,rdc b q)]:Hp))) (fun(z:Tr×Nat×Nat) cn=>(match z with|(x,q,i)=>(x.W<=t.W+3*i/\q<=p+2*t.W+10+i/\i<=6)/\cn=20)) (fun(z:Tr×Nat×Nat)=>7-z.2.2) ((Tr.mk t.dir t.mode t.data t.names []),p+1,0) kr ?_ ?_ ?_ ?_
 refine⟨?_,rfl⟩;exact⟨by rw[W_eq];simp only[Tr.data_mk,Tr.names_mk,Tr.kids_mk,Tr.Ws];omega,om,om⟩
 exact⟨kr,kr,kr,kr,trivial⟩
 exact(sub_c kr (sub_c kr (sub_c kr (List.nil_sublist _))))
 rintro⟨x,q,i⟩ n1 hI
 (try dsimp only at hI)
 obtain⟨⟨hi1,hi2,hi3⟩,rfl⟩:=hI
 refine Sq fun K34 hK34=>?_
 refine Rr (Bc0 3 [(111,.ptr 0 0),(110,.i i)] 30 [.ptr 0 0,.i 2] 112 (RC.use (pick_ok b q 2 om om om om) kr fun r p1 hr=>?_));obtain⟨pk36,hpk36,rfl,rfl⟩:=hr
 refine Ke (Av1 1 113 [] (cI (wnn 4 pk36 om)) (Ki/\·) ⟨rfl,Cn1 (decide ((i:Int)<((4+pk36:Nat):Int))) [0,4,5,7] [] (Ki/\·) ⟨rfl,fun hc37 c37=>?_,fun hc37 c37=>?_⟩⟩)
 refine Sk (Jn (hK34 (Kp [0,4,5,7] (Sq fun K38 hK38=>?_))))
 refine Bl (Rb (fun h=>Bn (Jn (hK38 h))) (Fn3 [0,4,5,7] [] ([(24,tcs x),(20,[.str [110]])]++Hw [(16,[.bool true,.i 0,.str [],.osl 20 1 0 1,.osl 24 5 0 1])] [] ·) 28 ((1*1<=16777216)/\(0+5<=5/\0<5)/\(1*5<=16777216)/\(true=true/\5=5/\0+5<=5)/\·) ⟨dc,dc,dc,dc,h_k [0,4,5,7] (F':=[(0,.ptr 0 0),(4,.ptr 8 0),(5,.ptr 16 0),(7,.i i)]) kr (h_st (F':=[(0,.ptr 0 0),(4,.ptr 8 0),(5,.ptr 16 0),(7,.i i)]) (H':=[(24,fl trc [x]),(20,[.str [110]]),(16,[.bool true,.i 0,.str [],.osl 20 1 0 1,.osl 24 5 0 ([x].length)]),(8,zt),(0,rdc b (q+1))]) rfl (by rw[fl_one,trc_eq];rfl) ?_)⟩))
 refine FzT 24 [x] [(0,.ptr 0 0),(4,.ptr 8 0),(5,.ptr 16 0),(7,.i i)] [(20,[.str [110]]),(16,[.bool true,.i 0,.str [],.osl 20 1 0 1,.osl 24 5 0 ([x].length)]),(8,zt),(0,rdc b (q+1))] [true,true,true,true] (Fz 20 1 1 ([[.str [110]]]) ([.str [110]]) [(0,.ptr 0 0),(4,.ptr 8 0),(5,.ptr 16 0),(7,.i i)] [(16,[.bool true,.i 0,.str [],.osl 20 1 0 1,.sl 5 ([x].map trc)]),(8,zt),(0,rdc b (q+1))] [true,true,true] kr (by first|decide|simp) (Hn [(16,[.bool true,.i 0,.str [],pth [[110]],.sl 5 ([x].map trc)]),(8,zt),(0,rdc b (q+1))] (h_lo (H':=[(16,tcs (Tr.mk true 0 [] [[110]] [x])),(8,zt),(0,rdc b (q+1))]) ⟨⟨rfl,(by simp[lea,leas,pth,tcs,clc])⟩,⟨rfl,leas_refl _⟩,⟨rfl,leas_refl _⟩,trivial⟩ (Rn ?_))))
 refine Av1 2 116 [(115,.i i)] (cI (wn1 i om)) (Ki/\·) ⟨rfl,Gn0 [(7,.i ((i+1:Nat):Int))] (nk_n (Lr ((Tr.mk true 0 [] [[110]] [x]),q+1,i+1) [(0,0),(8,8),(16,16)] 20 [(0,.ptr 0 0),(4,.ptr 8 0),(5,.ptr 16 0),(7,.i ((i+1:Nat):Int))] [(16,tcs (Tr.mk true 0 [] [[110]] [x])),(8,zt),(0,rdc b (q+1))] [true,true,true] ?_ ?_ kr kr))⟩
 (try dsimp only);omega
 refine⟨?_,rfl⟩;(try dsimp only);exact⟨by rw[W_eq (Tr.mk _ _ _ _ _)];simp only[Tr.data_mk,Tr.names_mk,Tr.kids_mk,Tr.Ws,wS,List.length_cons,List.length_nil];omega,om,om⟩
 refine Xt (Jx (Lx (Bh (Bn (Jn (hK5 (Kp [4,5] (Rr (Fn3 [4] [] (Hw [(8,tcs x)] [] ·) 20 ((0+5<=5/\0<5)/\(true=true/\5=5/\0+5<=5)/\·) ⟨dc,dc,Rt1 ((0+5<=5/\0<5)/\·) (.agg (tcs x)) ⟨dc,?_⟩⟩)))))))))
 have hWx:x.W<=t.W+2000:=by
   (try (rw[W_eq (Tr.mk _ _ _ _ _)];simp only[Tr.data_mk,Tr.names_mk,Tr.kids_mk,wS_app,Ws_app,wS,Tr.Ws,List.length_append,List.length_cons,List.length_nil,W_none]))
   omega
 exact fin_rc (q+1) (by first|exact lea_refl _|simp[lea,leas,pth,tcs]) (by simp only[go_sem]) kr ⟨x,hWx,rfl,om⟩
 refine Rr (Fn0 [4,5] [(8,.i 0)] (Bl (h_l (fun(z:List Str×List Tr×Nat×Option Unit)=>(match z with|(ns,ks,i,none)=>([(4,.ptr 8 0),(5,.ptr 16 0),(8,.i i)]:Fr)|(ns,ks,i,some ())=>([(4,.ptr 8 0),(5,.ptr 16 0),(8,.i i)]:Fr))) (fun(z:List Str×List Tr×Nat×Option Unit)=>(match z with|(ns,ks,i,none)=>([(16,(tr5 t (.osl 12 1 0 ns.length)  .nils)),(12,fl sc ns),(8,zt),(4,tcs t),(0,rdc b (p+1))]:Hp)|(ns,ks,i,some ())=>([(20,fl trc ks),(16,(tr5 t (.osl 12 1 0 ns.length) (.osl 20 5 0 ks.length))),(12,fl sc ns),(8,zt),(4,tcs t),(0,rdc b (p+1))]:Hp))) (fun(z:List Str×List Tr×Nat×Option Unit) cn=>(match z with|(ns,ks,i,none)=>(ns=t.names/\ks=[]/\i=0/\t.kids=[])/\cn=20|(ns,ks,i,some ())=>(wS ns<=wS t.names+30*i/\Tr.Ws ks<=Tr.Ws t.kids+i/\i<=30/\ks.length<=t.kids.length+i/\ns.length<=t.names.length+i)/\cn=24)) (fun(z:List Str×List Tr×Nat×Option Unit)=>31-z.2.2.1) (t.names,[],0,none) kr ?_ ?_ ?_ ?_)))
 refine⟨?_,rfl⟩;first|exact⟨rfl,rfl,rfl,hk⟩|exact⟨om,om,om,om,om⟩
 exact⟨kr,kr,kr,trivial⟩
 exact(sub_c kr (sub_c kr (sub_c kr (sub_c kr (sub_c kr (List.nil_sublist _))))))
 rintro⟨ns,ks,i,_|⟨⟩⟩ n1 hI
 (try dsimp only at hI)
 obtain⟨⟨e1,e2,e3,hk0⟩,rfl⟩:=hI
 dsimp only
 have e1w:wS ns=wS t.names:=by rw[e1]
 have e1l:ns.length=t.names.length:=by rw[e1]
 have e2l:ks.length=0:=by rw[e2];rfl
 have e2w:Tr.Ws ks=0:=by rw[e2];simp[Tr.Ws]
 have e2t:Tr.Ws t.kids=0:=by rw[hk0];simp[Tr.Ws]
 have e3t:t.kids.length=0:=by rw[hk0];rfl
 refine Sq fun K41 hK41=>?_
 refine Rr (Cn1 (decide ((i:Int)<30)) [4,5,8] [] (Ki/\·) ⟨rfl,fun hc43 c43=>?_,fun hc43 c43=>?_⟩)
 refine Sk (Jn (hK41 (Kp [4,5,8] (Sq fun K44 hK44=>?_))))
 refine Bl (Qr [0,1,0,4,12,28,60,127,255,511] [(0,[]),(1,[]),(2,[]),(3,[]),(4,[1]),(5,[]),(6,[1]),(7,[]),(8,[]),(9,[])] (qAv1 4 46 [(45,.i i),(44,.osl 12 1 0 ns.length),(43,.ptr 16 3)] (cI (wnn 100 i om)) (((1:Nat)≠0)/\(3+1<=5/\3<5)/\Ki/\·) ⟨dc,dc,rfl,qBc0 1 [] [1] 58 [.i ((100+i:Nat):Int)] 47 ?_⟩))
 have hl46:=dec_len ((100+i:Nat):Int) om om
 refine PE.use (l1Dec_ok _ ((100+i:Nat):Int) rfl om om) ?_
 refine Kq (p:=(((3+1<=5/\3<5)/\(AV.osl 12 1 0 ns.length=(.osl 12 1 0 ns.length:AV)))/\True)) ⟨⟨dc,rfl⟩,trivial⟩ ?_
 refine qAn3 3 [(50,.osl 24 1 0 (ns.length+1)),(49,.osl 20 1 0 1),(48,.str ([122,122]++(dec ((100+i:Nat):Int))))] ([(24,apd (fl sc ns) (ns.length*1) [.str ([122,122]++(dec ((100+i:Nat):Int)))]),(20,[.str ([122,122]++(dec ((100+i:Nat):Int)))])]++Hw [] [12] ·) 28 (([122,122].length+(dec ((100+i:Nat):Int)).length<=9223372036854775807)/\(1*1<=16777216)/\(((3+1<=5/\3<5)/\(AV.osl 12 1 0 ns.length=(.osl 12 1 0 ns.length:AV)))/\True)/\(0+1*1<=1)/\(1=1/\ns.length*1<=(fl sc ns).length/\0<16/\(ns.length+1)*16<=140737488355328)/\(True)/\·) ⟨(by simp only[List.length_cons,List.length_nil];omega),dc,⟨⟨dc,rfl⟩,trivial⟩,dc,⟨rfl,gl,dc,gl⟩,trivial,runq_v (v':=.osl 24 1 0 ((ns++[[122,122]++(dec ((100+i:Nat):Int))]).length)) (push_len _ _ _ _) (runq_h (cs':=fl sc (ns++[[122,122]++(dec ((100+i:Nat):Int))])) (push_str ns ([122,122]++(dec ((100+i:Nat):Int)))) (qFn3 [4,5,8] [] (Hw [(16,(tr5 t (.osl 24 1 0 ((ns++[[122,122]++(dec ((100+i:Nat):Int))]).length))  .nils))] [] ·) 28 (((1:Nat)≠0)/\(true=true/\1=1/\3+1<=5)/\(True)/\·) ⟨dc,dc,trivial,Rb (fun h=>Bn (Jn (hK44 h))) ?_⟩))⟩
 refine Fn3 [4,5,8] [] ([(32,zt),(28,zt)]++Hw [(16,(tr5 t (.osl 24 1 0 ((ns++[[122,122]++(dec ((100+i:Nat):Int))]).length)) (.osl 32 5 0 1)))] [] ·) 36 (((1:Nat)≠0)/\(4+1<=5/\4<5)/\(1*5<=16777216)/\(0+1*5<=5)/\(0<1/\0<80/\1*80<=140737488355328)/\((1:Nat)≠0)/\(true=true/\1=1/\4+1<=5)/\·) ⟨dc,dc,dc,dc,dc,dc,dc,Hn [(32,zt),(28,zt),(24,fl sc (ns++[[122,122]++(dec ((100+i:Nat):Int))])),(20,[.str ([122,122]++(dec ((100+i:Nat):Int)))]),(16,(tr5 t (.osl 24 1 0 ((ns++[[122,122]++(dec ((100+i:Nat):Int))]).length)) (.osl 32 5 0 1))),(8,zt),(4,tcs t),(0,rdc b (p+1))] (h_lo (H':=[(32,fl trc [Tr.none]),(28,zt),(24,fl sc (ns++[[122,122]++(dec ((100+i:Nat):Int))])),(20,[.str ([122,122]++(dec ((100+i:Nat):Int)))]),(16,(tr5 t (.osl 24 1 0 ((ns++[[122,122]++(dec ((100+i:Nat):Int))]).length)) (.osl 32 5 0 1))),(8,zt),(4,tcs t),(0,rdc b (p+1))]) ⟨⟨rfl,(by rw[fl_one,trc_none];simp[leas,lea])⟩,⟨rfl,leas_refl _⟩,⟨rfl,leas_refl _⟩,⟨rfl,leas_refl _⟩,⟨rfl,leas_refl _⟩,⟨rfl,leas_refl _⟩,⟨rfl,leas_refl _⟩,⟨rfl,leas_refl _⟩,trivial⟩ (h_k [4,5,8] (F':=[(4,.ptr 8 0),(5,.ptr 16 0),(8,.i i)]) kr (h_st (F':=[(4,.ptr 8 0),(5,.ptr 16 0),(8,.i i)]) (H':=[(32,fl trc [Tr.none]),(28,zt),(24,fl sc (ns++[[122,122]++(dec ((100+i:Nat):Int))])),(20,[.str ([122,122]++(dec ((100+i:Nat):Int)))]),(16,(tr5 t (.osl 24 1 0 ((ns++[[122,122]++(dec ((100+i:Nat):Int))]).length)) (.osl 32 5 0 (([Tr.none]).length)))),(8,zt),(4,tcs t),(0,rdc b (p+1))]) rfl (by simp only[List.length_append,List.length_cons,List.length_nil]) ?_)))⟩
 refine Rn (Av1 2 42 [(41,.i i)] (cI (wn1 i om)) (Ki/\·) ⟨rfl,Gn0 [(8,.i ((i+1:Nat):Int))] (nk_n (Lr (ns++[[122,122]++(dec ((100+i:Nat):Int))],[Tr.none],i+1,some ()) [(0,0),(4,4),(8,8),(16,16),(24,12),(32,20)] 24 [(4,.ptr 8 0),(5,.ptr 16 0),(8,.i ((i+1:Nat):Int))] [(32,fl trc [Tr.none]),(16,(tr5 t (.osl 24 1 0 ((ns++[[122,122]++(dec ((100+i:Nat):Int))]).length)) (.osl 32 5 0 (([Tr.none]).length)))),(24,fl sc (ns++[[122,122]++(dec ((100+i:Nat):Int))])),(8,zt),(4,tcs t),(0,rdc b (p+1))] [false,true,false,true,true,true] ?_ ?_ kr kr))⟩)
 (try dsimp only);omega
 refine⟨?_,rfl⟩;(try dsimp only);refine⟨?_,?_,om,?_,?_⟩<;>(try simp only[wS_app,Ws_app,wS,Tr.Ws,W_none,List.length_append,List.length_cons,List.length_nil])<;>(try simp only[List.length_nil])<;>omega
 refine Xt (Jx (Lx (Bh (Bn (Jn (hK5 (Kp [4,5] (Rr (Fn3 [4] [] (Hw [(8,(tr5 t (.osl 12 1 0 ns.length)  .nils))] [] ·) 20 ((0+5<=5/\0<5)/\(true=true/\5=5/\0+5<=5)/\·) ⟨dc,dc,FzS 12 ns [(4,.ptr 8 0)] [(8,(tr5 t (.osl 12 1 0 ns.length)  .nils)),(0,rdc b (p+1))] [true,true] (Rt1 ((0+5<=5/\0<5)/\·) (.agg (tr5 t (pth ns)  .nils)) ⟨dc,?_⟩)⟩)))))))))
 have hWx:(Tr.mk t.dir t.mode t.data ns []).W<=t.W+2000:=by
   (try (rw[W_eq (Tr.mk _ _ _ _ _)];simp only[Tr.data_mk,Tr.names_mk,Tr.kids_mk,wS_app,Ws_app,wS,Tr.Ws,List.length_append,List.length_cons,List.length_nil,W_none]))
   omega
 exact fin_rc (p+1) (by first|exact lea_refl _|simp[lea,leas,pth,tcs]) (by simp only[go_sem]) kr ⟨(Tr.mk t.dir t.mode t.data ns []),hWx,rfl,om⟩
 (try dsimp only at hI)
 obtain⟨⟨hi1,hi2,hi3,hi4,hi5⟩,rfl⟩:=hI
 dsimp only
 refine Sq fun K48 hK48=>?_
 refine Rr (Cn1 (decide ((i:Int)<30)) [4,5,8] [] (Ki/\·) ⟨rfl,fun hc50 c50=>?_,fun hc50 c50=>?_⟩)
 refine Sk (Jn (hK48 (Kp [4,5,8] (Sq fun K51 hK51=>?_))))
 refine Bl (Qr [0,1,0,4,12,28,60,127,255,511] [(0,[]),(1,[]),(2,[]),(3,[]),(4,[1]),(5,[]),(6,[1]),(7,[]),(8,[]),(9,[])] (qAv1 4 46 [(45,.i i),(44,.osl 12 1 0 ns.length),(43,.ptr 16 3)] (cI (wnn 100 i om)) (((1:Nat)≠0)/\(3+1<=5/\3<5)/\Ki/\·) ⟨dc,dc,rfl,qBc0 1 [] [1] 58 [.i ((100+i:Nat):Int)] 47 ?_⟩))
 have hl53:=dec_len ((100+i:Nat):Int) om om
 refine PE.use (l1Dec_ok _ ((100+i:Nat):Int) rfl om om) ?_
 refine Kq (p:=(((3+1<=5/\3<5)/\(AV.osl 12 1 0 ns.length=(.osl 12 1 0 ns.length:AV)))/\True)) ⟨⟨dc,rfl⟩,trivial⟩ ?_
 refine qAn3 3 [(50,.osl 28 1 0 (ns.length+1)),(49,.osl 24 1 0 1),(48,.str ([122,122]++(dec ((100+i:Nat):Int))))] ([(28,apd (fl sc ns) (ns.length*1) [.str ([122,122]++(dec ((100+i:Nat):Int)))]),(24,[.str ([122,122]++(dec ((100+i:Nat):Int)))])]++Hw [] [12] ·) 32 (([122,122].length+(dec ((100+i:Nat):Int)).length<=9223372036854775807)/\(1*1<=16777216)/\(((3+1<=5/\3<5)/\(AV.osl 12 1 0 ns.length=(.osl 12 1 0 ns.length:AV)))/\True)/\(0+1*1<=1)/\(1=1/\ns.length*1<=(fl sc ns).length/\0<16/\(ns.length+1)*16<=140737488355328)/\(True)/\·) ⟨(by simp only[List.length_cons,List.length_nil];omega),dc,⟨⟨dc,rfl⟩,trivial⟩,dc,⟨rfl,gl,dc,gl⟩,trivial,runq_v (v':=.osl 28 1 0 ((ns++[[122,122]++(dec ((100+i:Nat):Int))]).length)) (push_len _ _ _ _) (runq_h (cs':=fl sc (ns++[[122,122]++(dec ((100+i:Nat):Int))])) (push_str ns ([122,122]++(dec ((100+i:Nat):Int)))) (qFn3 [4,5,8] [] (Hw [(16,(tr5 t (.osl 28 1 0 ((ns++[[122,122]++(dec ((100+i:Nat):Int))]).length)) (.osl 20 5 0 ks.length)))] [] ·) 32 (((1:Nat)≠0)/\(true=true/\1=1/\3+1<=5)/\(True)/\·) ⟨dc,dc,trivial,Rb (fun h=>Bn (Jn (hK51 h))) ?_⟩))⟩
 refine An3 5 [(56,.osl 36 5 0 (ks.length+1)),(55,.osl 32 5 0 1),(54,.agg zt),(53,.osl 20 5 0 ks.length),(52,.ptr 16 4)] (fun _=>[(36,apd (fl trc ks) (ks.length*5) (((zt:List AV).drop 0).take (1*5))),(32,zt),(28,fl sc (ns++[[122,122]++(dec ((100+i:Nat):Int))])),(24,[.str ([122,122]++(dec ((100+i:Nat):Int)))]),(16,(tr5 t (.osl 28 1 0 ((ns++[[122,122]++(dec ((100+i:Nat):Int))]).length)) (.osl 20 5 0 ks.length))),(8,zt),(4,tcs t),(0,rdc b (p+1))]) 40 (((1:Nat)≠0)/\(4+1<=5/\4<5)/\(1*5<=16777216)/\(0+1*5<=(zt:List AV).length)/\(5=5/\ks.length*5<=(fl trc ks).length/\0<80/\(ks.length+1)*80<=140737488355328)/\·) ⟨dc,dc,dc,(by first|decide|simp),⟨rfl,by(first|omega|(rw[flTl];omega)|(simp only[flTl];omega)),dc,by(first|omega|(rw[flTl];omega)|(simp only[flTl];omega))⟩,run_H (H':=[(36,fl trc ks++[AV.bool false,AV.int .i64 0,AV.str [],AV.nils,AV.nils]),(32,zt),(28,fl sc (ns++[[122,122]++(dec ((100+i:Nat):Int))])),(24,[.str ([122,122]++(dec ((100+i:Nat):Int)))]),(16,(tr5 t (.osl 28 1 0 ((ns++[[122,122]++(dec ((100+i:Nat):Int))]).length)) (.osl 20 5 0 ks.length))),(8,zt),(4,tcs t),(0,rdc b (p+1))]) (by rw[show apd (fl trc ks) (ks.length*5) (((zt:List AV).drop 0).take (1*5))=fl trc ks++[AV.bool false,AV.int .i64 0,AV.str [],AV.nils,AV.nils]from(by unfold apd;rw[flT0];rfl)]) (Fn3 [4,5,8] [] (Hw [(16,(tr5 t (.osl 28 1 0 ((ns++[[122,122]++(dec ((100+i:Nat):Int))]).length)) (.osl 36 5 0 (ks.length+1))))] [] ·) 40 (((1:Nat)≠0)/\(true=true/\1=1/\4+1<=5)/\·) ⟨dc,dc,Hn [(36,fl trc ks++[AV.bool false,AV.int .i64 0,AV.str [],AV.nils,AV.nils]),(32,zt),(28,fl sc (ns++[[122,122]++(dec ((100+i:Nat):Int))])),(24,[.str ([122,122]++(dec ((100+i:Nat):Int)))]),(16,(tr5 t (.osl 28 1 0 ((ns++[[122,122]++(dec ((100+i:Nat):Int))]).length)) (.osl 36 5 0 (ks.length+1)))),(8,zt),(4,tcs t),(0,rdc b (p+1))] (h_lo (H':=[(36,fl trc (ks++[Tr.none])),(32,zt),(28,fl sc (ns++[[122,122]++(dec ((100+i:Nat):Int))])),(24,[.str ([122,122]++(dec ((100+i:Nat):Int)))]),(16,(tr5 t (.osl 28 1 0 ((ns++[[122,122]++(dec ((100+i:Nat):Int))]).length)) (.osl 36 5 0 (ks.length+1)))),(8,zt),(4,tcs t),(0,rdc b (p+1))]) ⟨⟨rfl,lea_zero ks⟩,⟨rfl,leas_refl _⟩,⟨rfl,leas_refl _⟩,⟨rfl,leas_refl _⟩,⟨rfl,leas_refl _⟩,⟨rfl,leas_refl _⟩,⟨rfl,leas_refl _⟩,⟨rfl,leas_refl _⟩,trivial⟩ ?_)⟩)⟩
 refine h_k [4,5,8] (F':=[(4,.ptr 8 0),(5,.ptr 16 0),(8,.i i)]) kr ?_
 refine h_st (F':=[(4,.ptr 8 0),(5,.ptr 16 0),(8,.i i)]) (H':=[(36,fl trc (ks++[Tr.none])),(32,zt),(28,fl sc (ns++[[122,122]++(dec ((100+i:Nat):Int))])),(24,[.str ([122,122]++(dec ((100+i:Nat):Int)))]),(16,(tr5 t (.osl 28 1 0 ((ns++[[122,122]++(dec ((100+i:Nat):Int))]).length)) (.osl 36 5 0 ((ks++[Tr.none]).length)))),(8,zt),(4,tcs t),(0,rdc b (p+1))]) rfl (by simp only[List.length_append,List.length_cons,List.length_nil]) ?_
 refine Rn (Av1 2 42 [(41,.i i)] (cI (wn1 i om)) (Ki/\·) ⟨rfl,Gn0 [(8,.i ((i+1:Nat):Int))] (nk_n (Lr (ns++[[122,122]++(dec ((100+i:Nat):Int))],ks++[Tr.none],i+1,some ()) [(0,0),(4,4),(8,8),(16,16),(28,12),(36,20)] 24 [(4,.ptr 8 0),(5,.ptr 16 0),(8,.i ((i+1:Nat):Int))] [(36,fl trc (ks++[Tr.none])),(16,(tr5 t (.osl 28 1 0 ((ns++[[122,122]++(dec ((100+i:Nat):Int))]).length)) (.osl 36 5 0 ((ks++[Tr.none]).length)))),(28,fl sc (ns++[[122,122]++(dec ((100+i:Nat):Int))])),(8,zt),(4,tcs t),(0,rdc b (p+1))] [false,true,false,true,true,true] ?_ ?_ kr kr))⟩)
 (try dsimp only);omega
 refine⟨?_,rfl⟩;(try dsimp only);refine⟨?_,?_,om,?_,?_⟩<;>(try simp only[wS_app,Ws_app,wS,Tr.Ws,W_none,List.length_append,List.length_cons,List.length_nil])<;>(try simp only[List.length_nil])<;>omega
 refine Xt (Jx (Lx (Bh (Bn (Jn (hK5 (Kp [4,5] (Rr (Fn3 [4] [] (Hw [(8,(tr5 t (.osl 12 1 0 ns.length) (.osl 20 5 0 ks.length)))] [] ·) 24 ((0+5<=5/\0<5)/\(true=true/\5=5/\0+5<=5)/\·) ⟨dc,dc,FzT 20 ks [(4,.ptr 8 0)] [(12,fl sc ns),(8,(tr5 t (.osl 12 1 0 ns.length) (.osl 20 5 0 ks.length))),(0,rdc b (p+1))] [false,true,true] (FzS 12 ns [(4,.ptr 8 0)] [(8,(tr5 t (.osl 12 1 0 ns.length) (.sl 5 (ks.map trc)))),(0,rdc b (p+1))] [true,true] ?_)⟩)))))))))
 refine Rt1 ((0+5<=5/\0<5)/\·) (.agg (tr5 t (pth ns) (.sl 5 (ks.map trc)))) ⟨dc,?_⟩
 have hWx:(Tr.mk t.dir t.mode t.data ns ks).W<=t.W+2000:=by
   (try (rw[W_eq (Tr.mk _ _ _ _ _)];simp only[Tr.data_mk,Tr.names_mk,Tr.kids_mk,wS_app,Ws_app,wS,Tr.Ws,List.length_append,List.length_cons,List.length_nil,W_none]))
   omega
 exact fin_rc (p+1) (by first|exact lea_refl _|simp[lea,leas,pth,tcs]) (by simp only[go_sem]) kr ⟨(Tr.mk t.dir t.mode t.data ns ks),hWx,rfl,om⟩
 show KE _ _ _ (.agg _) _ _
 refine Ke (Fn3 [0,4] [(5,.ptr 20 0)] ([(20,(tr5 t (.osl 12 1 0 t.names.length) (.osl 16 5 0 t.kids.length)))]++·) 24 ((true=true/\5=5/\0+5<=5)/\·) ⟨dc,Sq fun K55 hK55=>?_⟩)
 refine Rr (An1 5 [(15,.bool (decide ((0:Int)<((t.kids.length:Int):Int)))),(14,.bool (decide ((0:Int)<((t.kids.length:Int):Int)))),(13,.i t.kids.length),(12,.osl 16 5 0 t.kids.length),(11,.ptr 20 4)] (((1:Nat)≠0)/\(4+1<=5/\4<5)/\Ki/\·) ⟨dc,dc,rfl,Rg (fun hg57 g57=>?_) (fun hg57 g57=>?_)⟩)
 refine Bc0 2 [(16,.ptr 0 0)] 30 [.ptr 0 0,.i 2] 17 ?_
 refine RC.use (pick_ok b p 2 om om om om) kr fun r p1 hr=>?_;obtain⟨pk58,hpk58,rfl,rfl⟩:=hr
 refine Ke (Cn1 (decide ((pk58:Int)=0)) [0,4,5] [] (Ki/\·) ⟨rfl,fun hc59 c59=>?_,fun hc59 c59=>?_⟩)
 refine Rr (Bc1 5 [(23,.i t.kids.length),(22,.osl 16 5 0 t.kids.length),(21,.ptr 20 4),(20,.ptr 0 0)] 30 [.ptr 0 0,.i t.kids.length] 24 (((1:Nat)≠0)/\(4+1<=5/\4<5)/\·) ⟨dc,dc,RC.use (pick_ok b (p+1) t.kids.length om om om om) kr fun r p1 hr=>?_⟩);obtain⟨pk61,hpk61,rfl,rfl⟩:=hr
 refine Ke (Fn0 [0,4,5] [(6,.i pk61)] (Qr [0,1,0,0,0,16,0,112,240,504,1023,2047] [(0,[]),(1,[]),(2,[]),(3,[]),(4,[]),(5,[]),(6,[]),(7,[]),(8,[]),(9,[1]),(10,[]),(11,[])] (qAv1 (r:=.agg (((fl trc t.kids).drop (0+pk61*5)).take 5)) (v:=.agg (tcs (t.kids.getD pk61 default))) 9 33 [(32,.ptr 16 (0+pk61*5)),(31,.i pk61),(30,.osl 16 5 0 t.kids.length),(29,.ptr 20 4),(28,.ptr 0 0),(27,.i pk61),(26,.osl 16 5 0 t.kids.length),(25,.ptr 20 4)] (congrArg AV.agg (rowT_get t.kids pk61 om)) (((1:Nat)≠0)/\(4+1<=5/\4<5)/\((1:Nat)≠0)/\(4+1<=5/\4<5)/\(5=5/\(0:Int)<=(pk61:Int)/\(pk61:Int)<(t.kids.length:Int))/\(0+pk61*5+5<=(fl trc t.kids).length/\0+pk61*5<(fl trc t.kids).length)/\·) ⟨dc,dc,dc,dc,⟨rfl,om,om⟩,⟨by rw[flTl];omega,by rw[flTl];omega⟩,qBc0 1 [] [1] 31 [.ptr 0 0,.agg (tcs (t.kids.getD pk61 default))] 34 ?_⟩)))
 have hWk:=Ws_get t.kids pk61 om
 refine RC.use (ih _ om (t.kids.getD pk61 default) b (p+1+1) rfl om om om) kr fun r q1 hr=>?_;obtain⟨x1,hx1,rfl,hq1⟩:=hr;have hWs:=Ws_set t.kids pk61 x1 om
 refine Kq (p:=(((4+1<=5/\4<5)/\(AV.osl 16 5 0 t.kids.length=(.osl 16 5 0 t.kids.length:AV)))/\True)) ⟨⟨dc,rfl⟩,trivial⟩ ?_
 refine qAn3 2 [(35,.ptr 16 (0+pk61*5))] (fun _=>[(20,(tr5 t (.osl 12 1 0 t.names.length) (.osl 16 5 0 t.kids.length))),(16,(fl trc t.kids).take (0+pk61*5)++tcs x1++(fl trc t.kids).drop (0+pk61*5+5)),(12,fl sc t.names),(8,zt),(4,tcs t),(0,rdc b q1)]) 24 ((5=5/\(0:Int)<=(pk61:Int)/\(pk61:Int)<(t.kids.length:Int))/\(true=true/\5=5/\0+pk61*5+5<=(fl trc t.kids).length)/\(True)/\·) ⟨⟨rfl,om,om⟩,⟨rfl,rfl,(by(try simp only[flTl,flSl,ints_len,List.length_set]);omega)⟩,trivial,runq_H (H':=[(20,(tr5 t (.osl 12 1 0 t.names.length) (.osl 16 5 0 t.kids.length))),(16,fl trc (t.kids.set pk61 x1)),(12,fl sc t.names),(8,zt),(4,tcs t),(0,rdc b q1)]) (by rw[rowT_set t.kids pk61 x1 (by first|omega|(rw[List.length_set];omega))]) (qFn0 [4,5] [] (h_k [4,5] (F':=[(4,.ptr 8 0),(5,.ptr 20 0)]) kr (h_st (F':=[(4,.ptr 8 0),(5,.ptr 20 0)]) (H':=[(20,(tr5 t (.osl 12 1 0 t.names.length) (.osl 16 5 0 ((t.kids.set pk61 x1).length)))),(16,fl trc (t.kids.set pk61 x1)),(12,fl sc t.names),(8,zt),(4,tcs t),(0,rdc b q1)]) rfl (by rw[List.length_set]) ?_)))⟩
 refine Rr (Fn3 [4] [] (Hw [(8,(tr5 t (.osl 12 1 0 t.names.length) (.osl 16 5 0 ((t.kids.set pk61 x1).length))))] [] ·) 24 ((0+5<=5/\0<5)/\(true=true/\5=5/\0+5<=5)/\·) ⟨dc,dc,FzT 16 (t.kids.set pk61 x1) [(4,.ptr 8 0)] [(12,fl sc t.names),(8,(tr5 t (.osl 12 1 0 t.names.length) (.osl 16 5 0 ((t.kids.set pk61 x1).length)))),(0,rdc b q1)] [false,true,true] (FzS 12 t.names [(4,.ptr 8 0)] [(8,(tr5 t (.osl 12 1 0 t.names.length) (.sl 5 ((t.kids.set pk61 x1).map trc)))),(0,rdc b q1)] [true,true] (Rt1 ((0+5<=5/\0<5)/\·) (.agg (tr5 t (pth t.names) (.sl 5 ((t.kids.set pk61 x1).map trc)))) ⟨dc,?_⟩))⟩)
 have hWx:(Tr.mk t.dir t.mode t.data t.names (t.kids.set pk61 x1)).W<=t.W+2000:=by
   (try (rw[W_eq (Tr.mk _ _ _ _ _)];simp only[Tr.data_mk,Tr.names_mk,Tr.kids_mk,wS_app,Ws_app,wS,Tr.Ws,List.length_append,List.length_cons,List.length_nil,W_none]))
   omega
 exact fin_rc q1 (by first|exact lea_refl _|simp[lea,leas,pth,tcs]) (by simp only[go_sem]) kr ⟨(Tr.mk t.dir t.mode t.data t.names (t.kids.set pk61 x1)),hWx,rfl,om⟩
 refine Sk (Jn (hK55 (Kp [0,4,5] (Sq fun K64 hK64=>?_))))
 refine Rr (Bc0 2 [(37,.ptr 0 0)] 30 [.ptr 0 0,.i 8] 38 (RC.use (pick_ok b (p+1) 8 om om om om) kr fun r p1 hr=>?_));obtain⟨pk66,hpk66,rfl,rfl⟩:=hr
 refine Ke (Fn0 [0,4,5,38] [] (Bl (Rr (Cn1 (decide ((pk66:Int)=0)) [0,4,5,38] [] (Ki/\·) ⟨rfl,fun hc68 c68=>?_,fun hc68 c68=>?_⟩))))
 refine Rb (fun h=>Bn (Jn (hK64 h))) (Bc3 3 [(61,.ptr 0 0),(60,.osl 24 1 0 3)] 30 [.ptr 0 0,.i 3] 62 ([(24,[.i (-1),.i 7,.i 8])]++·) 28 ((3*1<=16777216)/\·) ⟨dc,RC.use (pick_ok b (p+1+1) 3 om om om om) kr fun r p1 hr=>?_⟩);obtain⟨pk69,hpk69,rfl,rfl⟩:=hr
 refine Ke (Av1 (r:=([.i (-1),.i 7,.i 8].getD (0+pk69*1) .dead:AV)) (v:=.i (([-1,7,8]:List Int).getD pk69 0)) 2 64 [(63,.ptr 24 (0+pk69*1))] (ints_get ([-1,7,8]:List Int) pk69 (by simp only[List.length_cons,List.length_nil];omega)) ((1=1/\(0:Int)<=(pk69:Int)/\(pk69:Int)<(3:Int))/\(0+pk69*1+1<=3/\0+pk69*1<3)/\·) ⟨⟨rfl,om,om⟩,⟨om,om⟩,Fn3 [4,5] [] (Hw [(20,[.bool t.dir,.i (([-1,7,8]:List Int).getD pk69 0),.str t.data,.osl 12 1 0 t.names.length,.osl 16 5 0 t.kids.length])] [] ·) 28 (((1:Nat)≠0)/\(true=true/\1=1/\1+1<=5)/\·) ⟨dc,dc,Rr (Fn3 [4] [] (Hw [(8,[.bool t.dir,.i (([-1,7,8]:List Int).getD pk69 0),.str t.data,.osl 12 1 0 t.names.length,.osl 16 5 0 t.kids.length])] [] ·) 28 ((0+5<=5/\0<5)/\(true=true/\5=5/\0+5<=5)/\·) ⟨dc,dc,?_⟩)⟩⟩)
 refine FzT 16 t.kids [(4,.ptr 8 0)] [(12,fl sc t.names),(8,[.bool t.dir,.i (([-1,7,8]:List Int).getD pk69 0),.str t.data,.osl 12 1 0 t.names.length,.osl 16 5 0 t.kids.length]),(0,rdc b (p+1+1+1))] [false,true,true] (FzS 12 t.names [(4,.ptr 8 0)] [(8,[.bool t.dir,.i (([-1,7,8]:List Int).getD pk69 0),.str t.data,.osl 12 1 0 t.names.length,.sl 5 (t.kids.map trc)]),(0,rdc b (p+1+1+1))] [true,true] (Rt1 ((0+5<=5/\0<5)/\·) (.agg [.bool t.dir,.i (([-1,7,8]:List Int).getD pk69 0),.str t.data,pth t.names,.sl 5 (t.kids.map trc)]) ⟨dc,?_⟩))
 have hWx:(Tr.mk t.dir (([-1,7,8]:List Int).getD pk69 0) t.data t.names t.kids).W<=t.W+2000:=by
   (try (rw[W_eq (Tr.mk _ _ _ _ _)];simp only[Tr.data_mk,Tr.names_mk,Tr.kids_mk,wS_app,Ws_app,wS,Tr.Ws,List.length_append,List.length_cons,List.length_nil,W_none]))
   omega
 exact fin_rc (p+1+1+1) (by first|exact lea_refl _|simp[lea,leas,pth,tcs]) (by simp only[go_sem]) kr ⟨(Tr.mk t.dir (([-1,7,8]:List Int).getD pk69 0) t.data t.names t.kids),hWx,rfl,om⟩
 refine Rr (Cn1 (decide ((pk66:Int)=1)) [0,4,5,38] [] (Ki/\·) ⟨rfl,fun hc72 c72=>?_,fun hc72 c72=>?_⟩)
 refine Rb (fun h=>Bn (Jn (hK64 h))) (Fn3 [4,5] [] (Hw [(20,[.bool (!t.dir),.i t.mode,.str t.data,.osl 12 1 0 t.names.length,.osl 16 5 0 t.kids.length])] [] ·) 24 (((1:Nat)≠0)/\(0+1<=5/\0<5)/\((1:Nat)≠0)/\(true=true/\1=1/\0+1<=5)/\·) ⟨dc,dc,dc,dc,Rr (Fn3 [4] [] (Hw [(8,[.bool (!t.dir),.i t.mode,.str t.data,.osl 12 1 0 t.names.length,.osl 16 5 0 t.kids.length])] [] ·) 24 ((0+5<=5/\0<5)/\(true=true/\5=5/\0+5<=5)/\·) ⟨dc,dc,FzT 16 t.kids [(4,.ptr 8 0)] [(12,fl sc t.names),(8,[.bool (!t.dir),.i t.mode,.str t.data,.osl 12 1 0 t.names.length,.osl 16 5 0 t.kids.length]),(0,rdc b (p+1+1))] [false,true,true] ?_⟩)⟩)
 refine FzS 12 t.names [(4,.ptr 8 0)] [(8,[.bool (!t.dir),.i t.mode,.str t.data,.osl 12 1 0 t.names.length,.sl 5 (t.kids.map trc)]),(0,rdc b (p+1+1))] [true,true] (Rt1 ((0+5<=5/\0<5)/\·) (.agg [.bool (!t.dir),.i t.mode,.str t.data,pth t.names,.sl 5 (t.kids.map trc)]) ⟨dc,?_⟩)
 have hWx:(Tr.mk (!t.dir) t.mode t.data t.names t.kids).W<=t.W+2000:=by
   (try (rw[W_eq (Tr.mk _ _ _ _ _)];simp only[Tr.data_mk,Tr.names_mk,Tr.kids_mk,wS_app,Ws_app,wS,Tr.Ws,List.length_append,List.length_cons,List.length_nil,W_none]))
   omega
 exact fin_rc (p+1+1) (by first|exact lea_refl _|simp[lea,leas,pth,tcs]) (by simp only[go_sem]) kr ⟨(Tr.mk (!t.dir) t.mode t.data t.names t.kids),hWx,rfl,om⟩
 refine Rr (Cn1 (decide ((pk66:Int)=2)) [0,4,5,38] [] (Ki/\·) ⟨rfl,fun hc75 c75=>?_,fun hc75 c75=>?_⟩)
 refine Rb (fun h=>Bn (Jn (hK64 h))) (Fn3 [4,5] [] (Hw [(20,[.bool t.dir,.i t.mode,.str (t.data++[120]),.osl 12 1 0 t.names.length,.osl 16 5 0 t.kids.length])] [] ·) 24 (((1:Nat)≠0)/\(2+1<=5/\2<5)/\(t.data.length+[120].length<=9223372036854775807)/\((1:Nat)≠0)/\(true=true/\1=1/\2+1<=5)/\·) ⟨dc,dc,(by simp only[List.length_cons,List.length_nil];omega),dc,dc,Rr (Fn3 [4] [] (Hw [(8,[.bool t.dir,.i t.mode,.str (t.data++[120]),.osl 12 1 0 t.names.length,.osl 16 5 0 t.kids.length])] [] ·) 24 ((0+5<=5/\0<5)/\(true=true/\5=5/\0+5<=5)/\·) ⟨dc,dc,FzT 16 t.kids [(4,.ptr 8 0)] [(12,fl sc t.names),(8,[.bool t.dir,.i t.mode,.str (t.data++[120]),.osl 12 1 0 t.names.length,.osl 16 5 0 t.kids.length]),(0,rdc b (p+1+1))] [false,true,true] ?_⟩)⟩)
 refine FzS 12 t.names [(4,.ptr 8 0)] [(8,[.bool t.dir,.i t.mode,.str (t.data++[120]),.osl 12 1 0 t.names.length,.sl 5 (t.kids.map trc)]),(0,rdc b (p+1+1))] [true,true] (Rt1 ((0+5<=5/\0<5)/\·) (.agg [.bool t.dir,.i t.mode,.str (t.data++[120]),pth t.names,.sl 5 (t.kids.map trc)]) ⟨dc,?_⟩)
 have hWx:(Tr.mk t.dir t.mode (t.data++[120]) t.names t.kids).W<=t.W+2000:=by
   (try (rw[W_eq (Tr.mk _ _ _ _ _)];simp only[Tr.data_mk,Tr.names_mk,Tr.kids_mk,wS_app,Ws_app,wS,Tr.Ws,List.length_append,List.length_cons,List.length_nil,W_none]))
   omega
 exact fin_rc (p+1+1) (by first|exact lea_refl _|simp[lea,leas,pth,tcs]) (by simp only[go_sem]) kr ⟨(Tr.mk t.dir t.mode (t.data++[120]) t.names t.kids),hWx,rfl,om⟩
 refine Rr (Cn1 (decide ((pk66:Int)=3)) [0,4,5,38] [] (Ki/\·) ⟨rfl,fun hc78 c78=>?_,fun hc78 c78=>?_⟩)
 refine Qr [0,1,0,0,12,28,63,127,255] [(0,[]),(1,[]),(2,[]),(3,[1]),(4,[1]),(5,[1]),(6,[]),(7,[]),(8,[])] (qBc3 5 [(83,.osl 24 1 0 5),(82,.ptr 0 0),(81,.osl 12 1 0 t.names.length),(80,.ptr 20 3)] [1] 47 [.ptr 0 0,.osl 24 1 0 5] 84 ([(24,[.str [122,122],.str [],.str [97],.str [90],.str [116,111,111,108,111,110,103]])]++·) 28 (((1:Nat)≠0)/\(3+1<=5/\3<5)/\(5*1<=16777216)/\(((3+1<=5/\3<5)/\(AV.osl 12 1 0 t.names.length=(.osl 12 1 0 t.names.length:AV)))/\True)/\·) ⟨dc,dc,dc,⟨⟨dc,rfl⟩,trivial⟩,Tz 24 1 5 ([[.str [122,122]],[.str []],[.str [97]],[.str [90]],[.str [116,111,111,108,111,110,103]]]) ([.str [122,122],.str [],.str [97],.str [90],.str [116,111,111,108,111,110,103]]) [.ptr 0 0,pth [[122,122],[],[97],[90],[116,111,111,108,111,110,103]]] [(20,(tr5 t (.osl 12 1 0 t.names.length) (.osl 16 5 0 t.kids.length))),(16,fl trc t.kids),(12,fl sc t.names),(8,zt),(4,tcs t),(0,rdc b (p+1+1))] [true,false,false,true,true,true] kr (by first|decide|simp) (RC.use (of_ok b (p+1+1) [[122,122],[],[97],[90],[116,111,111,108,111,110,103]] (by first|omega|decide|simp) (by first|omega|decide|simp) om om) kr fun r p1 hr=>?_)⟩);obtain⟨os80,hos80,rfl,rfl⟩:=hr
 have hol:os80.length<=7:=by
   have hq:=hos80
   simp only[List.mem_cons,List.not_mem_nil,or_false]at hq
   rcases hq with h|h|h|h|h<;>rw[h]<;>decide
 refine Kq (p:=(((3+1<=5/\3<5)/\(AV.osl 12 1 0 t.names.length=(.osl 12 1 0 t.names.length:AV)))/\True)) ⟨⟨dc,rfl⟩,trivial⟩ ?_
 refine qAn3 2 [(86,.osl 32 1 0 (t.names.length+1)),(85,.osl 28 1 0 1)] ([(32,apd (fl sc t.names) (t.names.length*1) [.str os80]),(28,[.str os80])]++Hw [] [12] ·) 36 ((1*1<=16777216)/\(((3+1<=5/\3<5)/\(AV.osl 12 1 0 t.names.length=(.osl 12 1 0 t.names.length:AV)))/\True)/\(0+1*1<=1)/\(1=1/\t.names.length*1<=(fl sc t.names).length/\0<16/\(t.names.length+1)*16<=140737488355328)/\(True)/\·) ⟨dc,⟨⟨dc,rfl⟩,trivial⟩,dc,⟨rfl,gl,dc,gl⟩,trivial,runq_v (v':=.osl 32 1 0 ((t.names++[os80]).length)) (push_len _ _ _ _) (runq_h (cs':=fl sc (t.names++[os80])) (push_str t.names os80) (qFn3 [4,5] [] (Hw [(20,(tr5 t (.osl 32 1 0 ((t.names++[os80]).length)) (.osl 16 5 0 t.kids.length)))] [] ·) 36 (((1:Nat)≠0)/\(true=true/\1=1/\3+1<=5)/\(True)/\·) ⟨dc,dc,trivial,Rb (fun h=>Bn (Jn (hK64 h))) ?_⟩))⟩
 refine An3 5 [(92,.osl 40 5 0 (t.kids.length+1)),(91,.osl 36 5 0 1),(90,.agg zt),(89,.osl 16 5 0 t.kids.length),(88,.ptr 20 4)] (fun _=>[(40,apd (fl trc t.kids) (t.kids.length*5) (((zt:List AV).drop 0).take (1*5))),(36,zt),(32,fl sc (t.names++[os80])),(28,[.str os80]),(20,(tr5 t (.osl 32 1 0 ((t.names++[os80]).length)) (.osl 16 5 0 t.kids.length))),(8,zt),(4,tcs t),(0,rdc b (p+1+1+1))]) 44 (((1:Nat)≠0)/\(4+1<=5/\4<5)/\(1*5<=16777216)/\(0+1*5<=(zt:List AV).length)/\(5=5/\t.kids.length*5<=(fl trc t.kids).length/\0<80/\(t.kids.length+1)*80<=140737488355328)/\·) ⟨dc,dc,dc,(by first|decide|simp),⟨rfl,by(first|omega|(rw[flTl];omega)|(simp only[flTl];omega)),dc,by(first|omega|(rw[flTl];omega)|(simp only[flTl];omega))⟩,run_H (H':=[(40,fl trc t.kids++[AV.bool false,AV.int .i64 0,AV.str [],AV.nils,AV.nils]),(36,zt),(32,fl sc (t.names++[os80])),(28,[.str os80]),(20,(tr5 t (.osl 32 1 0 ((t.names++[os80]).length)) (.osl 16 5 0 t.kids.length))),(8,zt),(4,tcs t),(0,rdc b (p+1+1+1))]) (by rw[show apd (fl trc t.kids) (t.kids.length*5) (((zt:List AV).drop 0).take (1*5))=fl trc t.kids++[AV.bool false,AV.int .i64 0,AV.str [],AV.nils,AV.nils]from(by unfold apd;rw[flT0];rfl)]) (Fn3 [4,5] [] (Hw [(20,(tr5 t (.osl 32 1 0 ((t.names++[os80]).length)) (.osl 40 5 0 (t.kids.length+1))))] [] ·) 44 (((1:Nat)≠0)/\(true=true/\1=1/\4+1<=5)/\·) ⟨dc,dc,Hn [(40,fl trc t.kids++[AV.bool false,AV.int .i64 0,AV.str [],AV.nils,AV.nils]),(36,zt),(32,fl sc (t.names++[os80])),(28,[.str os80]),(20,(tr5 t (.osl 32 1 0 ((t.names++[os80]).length)) (.osl 40 5 0 (t.kids.length+1)))),(8,zt),(4,tcs t),(0,rdc b (p+1+1+1))] (h_lo (H':=[(40,fl trc (t.kids++[Tr.none])),(36,zt),(32,fl sc (t.names++[os80])),(28,[.str os80]),(20,(tr5 t (.osl 32 1 0 ((t.names++[os80]).length)) (.osl 40 5 0 (t.kids.length+1)))),(8,zt),(4,tcs t),(0,rdc b (p+1+1+1))]) ⟨⟨rfl,lea_zero t.kids⟩,⟨rfl,leas_refl _⟩,⟨rfl,leas_refl _⟩,⟨rfl,leas_refl _⟩,⟨rfl,leas_refl _⟩,⟨rfl,leas_refl _⟩,⟨rfl,leas_refl _⟩,⟨rfl,leas_refl _⟩,trivial⟩ ?_)⟩)⟩
 refine h_k [4,5] (F':=[(4,.ptr 8 0),(5,.ptr 20 0)]) kr ?_
 refine h_st (F':=[(4,.ptr 8 0),(5,.ptr 20 0)]) (H':=[(40,fl trc (t.kids++[Tr.none])),(36,zt),(32,fl sc (t.names++[os80])),(28,[.str os80]),(20,(tr5 t (.osl 32 1 0 ((t.names++[os80]).length)) (.osl 40 5 0 ((t.kids++[Tr.none]).length)))),(8,zt),(4,tcs t),(0,rdc b (p+1+1+1))]) rfl (by simp only[List.length_append,List.length_cons,List.length_nil]) ?_
 refine Rr (Fn3 [4] [] (Hw [(8,(tr5 t (.osl 32 1 0 ((t.names++[os80]).length)) (.osl 40 5 0 ((t.kids++[Tr.none]).length))))] [] ·) 44 ((0+5<=5/\0<5)/\(true=true/\5=5/\0+5<=5)/\·) ⟨dc,dc,FzT 40 (t.kids++[Tr.none]) [(4,.ptr 8 0)] [(32,fl sc (t.names++[os80])),(8,(tr5 t (.osl 32 1 0 ((t.names++[os80]).length)) (.osl 40 5 0 ((t.kids++[Tr.none]).length)))),(0,rdc b (p+1+1+1))] [false,true,true] (FzS 32 (t.names++[os80]) [(4,.ptr 8 0)] [(8,(tr5 t (.osl 32 1 0 ((t.names++[os80]).length)) (.sl 5 ((t.kids++[Tr.none]).map trc)))),(0,rdc b (p+1+1+1))] [true,true] (Rt1 ((0+5<=5/\0<5)/\·) (.agg (tr5 t (pth (t.names++[os80])) (.sl 5 ((t.kids++[Tr.none]).map trc)))) ⟨dc,?_⟩))⟩)
 have hWx:(Tr.mk t.dir t.mode t.data (t.names++[os80]) (t.kids++[Tr.none])).W<=t.W+2000:=by
   (try (rw[W_eq (Tr.mk _ _ _ _ _)];simp only[Tr.data_mk,Tr.names_mk,Tr.kids_mk,wS_app,Ws_app,wS,Tr.Ws,List.length_append,List.length_cons,List.length_nil,W_none]))
   omega
 exact fin_rc (p+1+1+1) (by first|exact lea_refl _|simp[lea,leas,pth,tcs]) (by simp only[go_sem]) kr ⟨(Tr.mk t.dir t.mode t.data (t.names++[os80]) (t.kids++[Tr.none])),hWx,rfl,om⟩
 refine Rr (Cn1 (decide ((pk66:Int)=4)) [0,4,5,38] [] (Ki/\·) ⟨rfl,fun hc83 c83=>?_,fun hc83 c83=>?_⟩)
 refine Rb (fun h=>Bn (Jn (hK64 h))) (An3 4 [(99,.osl 28 1 0 (t.names.length+1)),(98,.osl 24 1 0 1),(97,.osl 12 1 0 t.names.length),(96,.ptr 20 3)] ([(28,apd (fl sc t.names) (t.names.length*1) [.str [122,122,122]]),(24,[.str [122,122,122]])]++Hw [] [12] ·) 32 (((1:Nat)≠0)/\(3+1<=5/\3<5)/\(1*1<=16777216)/\(0+1*1<=1)/\(1=1/\t.names.length*1<=(fl sc t.names).length/\0<16/\(t.names.length+1)*16<=140737488355328)/\·) ⟨dc,dc,dc,dc,⟨rfl,gl,dc,gl⟩,run_v (v':=.osl 28 1 0 ((t.names++[[122,122,122]]).length)) (push_len _ _ _ _) (run_h (cs':=fl sc (t.names++[[122,122,122]])) (push_str t.names [122,122,122]) (Fn3 [4,5] [] (Hw [(20,(tr5 t (.osl 28 1 0 ((t.names++[[122,122,122]]).length)) (.osl 16 5 0 t.kids.length)))] [] ·) 32 (((1:Nat)≠0)/\(true=true/\1=1/\3+1<=5)/\·) ⟨dc,dc,?_⟩))⟩)
 refine Rr (Fn3 [4] [] (Hw [(8,(tr5 t (.osl 28 1 0 ((t.names++[[122,122,122]]).length)) (.osl 16 5 0 t.kids.length)))] [] ·) 32 ((0+5<=5/\0<5)/\(true=true/\5=5/\0+5<=5)/\·) ⟨dc,dc,FzS 28 (t.names++[[122,122,122]]) [(4,.ptr 8 0)] [(16,fl trc t.kids),(8,(tr5 t (.osl 28 1 0 ((t.names++[[122,122,122]]).length)) (.osl 16 5 0 t.kids.length))),(0,rdc b (p+1+1))] [false,true,true] (FzT 16 t.kids [(4,.ptr 8 0)] [(8,(tr5 t (pth (t.names++[[122,122,122]])) (.osl 16 5 0 t.kids.length))),(0,rdc b (p+1+1))] [true,true] (Rt1 ((0+5<=5/\0<5)/\·) (.agg (tr5 t (pth (t.names++[[122,122,122]])) (.sl 5 (t.kids.map trc)))) ⟨dc,?_⟩))⟩)
 have hWx:(Tr.mk t.dir t.mode t.data (t.names++[[122,122,122]]) t.kids).W<=t.W+2000:=by
   (try (rw[W_eq (Tr.mk _ _ _ _ _)];simp only[Tr.data_mk,Tr.names_mk,Tr.kids_mk,wS_app,Ws_app,wS,Tr.Ws,List.length_append,List.length_cons,List.length_nil,W_none]))
   omega
 exact fin_rc (p+1+1) (by first|exact lea_refl _|simp[lea,leas,pth,tcs]) (by simp only[go_sem]) kr ⟨(Tr.mk t.dir t.mode t.data (t.names++[[122,122,122]]) t.kids),hWx,rfl,om⟩
 refine Rr (Cn1 (decide ((pk66:Int)=5)) [0,4,5,38] [] (Ki/\·) ⟨rfl,fun hc86 c86=>?_,fun hc86 c86=>?_⟩)
 refine Rb (fun h=>Bn (Jn (hK64 h))) (Bc0 2 [(103,.ptr 0 0)] 30 [.ptr 0 0,.i 2] 104 (RC.use (pick_ok b (p+1+1) 2 om om om om) kr fun r p1 hr=>?_));obtain⟨pk87,hpk87,rfl,rfl⟩:=hr
 refine Ke (Av1 1 105 [] (cI (wnn 24 pk87 om)) (Ki/\·) ⟨rfl,Bc0 1 [] 48 [.str [100],.i ((24+pk87:Nat):Int)] 106 (PC.use (l1Many_ok [100] (24+pk87) (by first|omega|decide) (by first|omega|(simp only[List.length_cons,List.length_nil];omega)) om) fun r hr=>?_)⟩);obtain⟨mt88,rfl,hmt88⟩:=hr;simp only[List.length_cons,List.length_nil]at hmt88
 refine Ke (Fn3 [4,5] [] (Hw [(20,[.bool t.dir,.i t.mode,.str mt88,.osl 12 1 0 t.names.length,.osl 16 5 0 t.kids.length])] [] ·) 24 (((1:Nat)≠0)/\(true=true/\1=1/\2+1<=5)/\·) ⟨dc,dc,Rr (Fn3 [4] [] (Hw [(8,[.bool t.dir,.i t.mode,.str mt88,.osl 12 1 0 t.names.length,.osl 16 5 0 t.kids.length])] [] ·) 24 ((0+5<=5/\0<5)/\(true=true/\5=5/\0+5<=5)/\·) ⟨dc,dc,FzT 16 t.kids [(4,.ptr 8 0)] [(12,fl sc t.names),(8,[.bool t.dir,.i t.mode,.str mt88,.osl 12 1 0 t.names.length,.osl 16 5 0 t.kids.length]),(0,rdc b (p+1+1+1))] [false,true,true] ?_⟩)⟩)
 refine FzS 12 t.names [(4,.ptr 8 0)] [(8,[.bool t.dir,.i t.mode,.str mt88,.osl 12 1 0 t.names.length,.sl 5 (t.kids.map trc)]),(0,rdc b (p+1+1+1))] [true,true] (Rt1 ((0+5<=5/\0<5)/\·) (.agg [.bool t.dir,.i t.mode,.str mt88,pth t.names,.sl 5 (t.kids.map trc)]) ⟨dc,?_⟩)
 have hWx:(Tr.mk t.dir t.mode mt88 t.names t.kids).W<=t.W+2000:=by
   (try (rw[W_eq (Tr.mk _ _ _ _ _)];simp only[Tr.data_mk,Tr.names_mk,Tr.kids_mk,wS_app,Ws_app,wS,Tr.Ws,List.length_append,List.length_cons,List.length_nil,W_none]))
   omega
 exact fin_rc (p+1+1+1) (by first|exact lea_refl _|simp[lea,leas,pth,tcs]) (by simp only[go_sem]) kr ⟨(Tr.mk t.dir t.mode mt88 t.names t.kids),hWx,rfl,om⟩
 refine Rr (Cn1 (decide ((pk66:Int)=6)) [0,4,5] [] (Ki/\·) ⟨rfl,fun hc91 c91=>?_,fun hc91 c91=>?_⟩)
 refine Rr (Fn0 [0,4,5] [(7,.i 0)] (Bl (FzT 16 t.kids [(0,.ptr 0 0),(4,.ptr 8 0),(5,.ptr 20 0),(7,.i 0)] [(20,(tr5 t (.osl 12 1 0 t.names.length) (.osl 16 5 0 t.kids.length))),(12,fl sc t.names),(8,zt),(0,rdc b (p+1+1))] [true,false,true,true] (FzS 12 t.names [(0,.ptr 0 0),(4,.ptr 8 0),(5,.ptr 20 0),(7,.i 0)] [(20,(tr5 t (.osl 12 1 0 t.names.length) (.sl 5 (t.kids.map trc)))),(8,zt),(0,rdc b (p+1+1))] [true,true,true] ?_))))
 refine Hn [(20,(tr5 t (pth t.names) (.sl 5 (t.kids.map trc)))),(8,zt),(0,rdc b (p+1+1))] (h_lo (H':=[(20,tcs (Tr.mk t.dir t.mode t.data t.names t.kids)),(8,zt),(0,rdc b (p+1+1))]) ⟨⟨rfl,(by simp[lea,leas,pth,tcs,clc])⟩,⟨rfl,leas_refl _⟩,⟨rfl,leas_refl _⟩,trivial⟩ (h_l (fun(z:Tr×Nat×Nat)=>(match z with|(x,q,i)=>([(0,.ptr 0 0),(4,.ptr 8 0),(5,.ptr 20 0),(7,.i i)]:Fr))) (fun(z:Tr×Nat×Nat)=>(match z with|(x,q,i)=>([(20,tcs x),(8,zt),(0,rdc b q)]:Hp))) (fun(z:Tr×Nat×Nat) cn=>(match z with|(x,q,i)=>(x.W<=t.W+3*i/\q<=p+2*t.W+10+i/\i<=6)/\cn=24)) (fun(z:Tr×Nat×Nat)=>7-z.2.2) ((Tr.mk t.dir t.mode t.data t.names t.kids),p+1+1,0) kr ?_ ?_ ?_ ?_))
 refine⟨?_,rfl⟩;exact⟨by rw[W_eq];simp only[Tr.data_mk,Tr.names_mk,Tr.kids_mk,Tr.Ws];omega,om,om⟩
 exact⟨kr,kr,kr,kr,trivial⟩
 exact(sub_c kr (sub_c kr (sub_c kr (List.nil_sublist _))))
 rintro⟨x,q,i⟩ n1 hI
 (try dsimp only at hI)
 obtain⟨⟨hi1,hi2,hi3⟩,rfl⟩:=hI
 refine Sq fun K93 hK93=>?_
 refine Rr (Bc0 3 [(111,.ptr 0 0),(110,.i i)] 30 [.ptr 0 0,.i 2] 112 (RC.use (pick_ok b q 2 om om om om) kr fun r p1 hr=>?_));obtain⟨pk95,hpk95,rfl,rfl⟩:=hr
 refine Ke (Av1 1 113 [] (cI (wnn 4 pk95 om)) (Ki/\·) ⟨rfl,Cn1 (decide ((i:Int)<((4+pk95:Nat):Int))) [0,4,5,7] [] (Ki/\·) ⟨rfl,fun hc96 c96=>?_,fun hc96 c96=>?_⟩⟩)
 refine Sk (Jn (hK93 (Kp [0,4,5,7] (Sq fun K97 hK97=>?_))))
 refine Bl (Rb (fun h=>Bn (Jn (hK97 h))) (Fn3 [0,4,5,7] [] ([(28,tcs x),(24,[.str [110]])]++Hw [(20,[.bool true,.i 0,.str [],.osl 24 1 0 1,.osl 28 5 0 1])] [] ·) 32 ((1*1<=16777216)/\(0+5<=5/\0<5)/\(1*5<=16777216)/\(true=true/\5=5/\0+5<=5)/\·) ⟨dc,dc,dc,dc,h_k [0,4,5,7] (F':=[(0,.ptr 0 0),(4,.ptr 8 0),(5,.ptr 20 0),(7,.i i)]) kr (h_st (F':=[(0,.ptr 0 0),(4,.ptr 8 0),(5,.ptr 20 0),(7,.i i)]) (H':=[(28,fl trc [x]),(24,[.str [110]]),(20,[.bool true,.i 0,.str [],.osl 24 1 0 1,.osl 28 5 0 ([x].length)]),(8,zt),(0,rdc b (q+1))]) rfl (by rw[fl_one,trc_eq];rfl) ?_)⟩))
 refine FzT 28 [x] [(0,.ptr 0 0),(4,.ptr 8 0),(5,.ptr 20 0),(7,.i i)] [(24,[.str [110]]),(20,[.bool true,.i 0,.str [],.osl 24 1 0 1,.osl 28 5 0 ([x].length)]),(8,zt),(0,rdc b (q+1))] [true,true,true,true] (Fz 24 1 1 ([[.str [110]]]) ([.str [110]]) [(0,.ptr 0 0),(4,.ptr 8 0),(5,.ptr 20 0),(7,.i i)] [(20,[.bool true,.i 0,.str [],.osl 24 1 0 1,.sl 5 ([x].map trc)]),(8,zt),(0,rdc b (q+1))] [true,true,true] kr (by first|decide|simp) (Hn [(20,[.bool true,.i 0,.str [],pth [[110]],.sl 5 ([x].map trc)]),(8,zt),(0,rdc b (q+1))] (h_lo (H':=[(20,tcs (Tr.mk true 0 [] [[110]] [x])),(8,zt),(0,rdc b (q+1))]) ⟨⟨rfl,(by simp[lea,leas,pth,tcs,clc])⟩,⟨rfl,leas_refl _⟩,⟨rfl,leas_refl _⟩,trivial⟩ (Rn ?_))))
 refine Av1 2 116 [(115,.i i)] (cI (wn1 i om)) (Ki/\·) ⟨rfl,Gn0 [(7,.i ((i+1:Nat):Int))] (nk_n (Lr ((Tr.mk true 0 [] [[110]] [x]),q+1,i+1) [(0,0),(8,8),(20,20)] 24 [(0,.ptr 0 0),(4,.ptr 8 0),(5,.ptr 20 0),(7,.i ((i+1:Nat):Int))] [(20,tcs (Tr.mk true 0 [] [[110]] [x])),(8,zt),(0,rdc b (q+1))] [true,true,true] ?_ ?_ kr kr))⟩
 (try dsimp only);omega
 refine⟨?_,rfl⟩;(try dsimp only);exact⟨by rw[W_eq (Tr.mk _ _ _ _ _)];simp only[Tr.data_mk,Tr.names_mk,Tr.kids_mk,Tr.Ws,wS,List.length_cons,List.length_nil];omega,om,om⟩
 refine Xt (Jx (Lx (Bh (Bn (Jn (hK64 (Kp [4,5] (Rr (Fn3 [4] [] (Hw [(8,tcs x)] [] ·) 24 ((0+5<=5/\0<5)/\(true=true/\5=5/\0+5<=5)/\·) ⟨dc,dc,Rt1 ((0+5<=5/\0<5)/\·) (.agg (tcs x)) ⟨dc,?_⟩⟩)))))))))
 have hWx:x.W<=t.W+2000:=by
   (try (rw[W_eq (Tr.mk _ _ _ _ _)];simp only[Tr.data_mk,Tr.names_mk,Tr.kids_mk,wS_app,Ws_app,wS,Tr.Ws,List.length_append,List.length_cons,List.length_nil,W_none]))
   omega
 exact fin_rc (q+1) (by first|exact lea_refl _|simp[lea,leas,pth,tcs]) (by simp only[go_sem]) kr ⟨x,hWx,rfl,om⟩
 refine Rr (Fn0 [4,5] [(8,.i 0)] (Bl (h_l (fun(z:List Str×List Tr×Nat×Option Unit)=>(match z with|(ns,ks,i,_)=>([(4,.ptr 8 0),(5,.ptr 20 0),(8,.i i)]:Fr))) (fun(z:List Str×List Tr×Nat×Option Unit)=>(match z with|(ns,ks,i,_)=>([(20,(tr5 t (.osl 12 1 0 ns.length) (.osl 16 5 0 ks.length))),(16,fl trc ks),(12,fl sc ns),(8,zt),(4,tcs t),(0,rdc b (p+1+1))]:Hp))) (fun(z:List Str×List Tr×Nat×Option Unit) cn=>(match z with|(ns,ks,i,_)=>(wS ns<=wS t.names+30*i/\Tr.Ws ks<=Tr.Ws t.kids+i/\i<=30/\ks.length<=t.kids.length+i/\ns.length<=t.names.length+i)/\cn=24)) (fun(z:List Str×List Tr×Nat×Option Unit)=>31-z.2.2.1) (t.names,t.kids,0,some ()) kr ?_ ?_ ?_ ?_)))
 refine⟨?_,rfl⟩;first|exact⟨rfl,rfl,rfl,hk⟩|exact⟨om,om,om,om,om⟩
 exact⟨kr,kr,kr,trivial⟩
 exact(sub_c kr (sub_c kr (sub_c kr (sub_c kr (sub_c kr (sub_c kr (List.nil_sublist _)))))))
 rintro⟨ns,ks,i,o⟩ n1 hI
 (try dsimp only at hI)
 obtain⟨⟨hi1,hi2,hi3,hi4,hi5⟩,rfl⟩:=hI
 refine Sq fun K100 hK100=>?_
 refine Rr (Cn1 (decide ((i:Int)<30)) [4,5,8] [] (Ki/\·) ⟨rfl,fun hc102 c102=>?_,fun hc102 c102=>?_⟩)
 refine Sk (Jn (hK100 (Kp [4,5,8] (Sq fun K103 hK103=>?_))))
 refine Bl (Qr [0,1,0,4,12,28,60,127,255,511] [(0,[]),(1,[]),(2,[]),(3,[]),(4,[1]),(5,[]),(6,[1]),(7,[]),(8,[]),(9,[])] (qAv1 4 46 [(45,.i i),(44,.osl 12 1 0 ns.length),(43,.ptr 20 3)] (cI (wnn 100 i om)) (((1:Nat)≠0)/\(3+1<=5/\3<5)/\Ki/\·) ⟨dc,dc,rfl,qBc0 1 [] [1] 58 [.i ((100+i:Nat):Int)] 47 ?_⟩))
 have hl105:=dec_len ((100+i:Nat):Int) om om
 refine PE.use (l1Dec_ok _ ((100+i:Nat):Int) rfl om om) ?_
 refine Kq (p:=(((3+1<=5/\3<5)/\(AV.osl 12 1 0 ns.length=(.osl 12 1 0 ns.length:AV)))/\True)) ⟨⟨dc,rfl⟩,trivial⟩ ?_
 refine qAn3 3 [(50,.osl 28 1 0 (ns.length+1)),(49,.osl 24 1 0 1),(48,.str ([122,122]++(dec ((100+i:Nat):Int))))] ([(28,apd (fl sc ns) (ns.length*1) [.str ([122,122]++(dec ((100+i:Nat):Int)))]),(24,[.str ([122,122]++(dec ((100+i:Nat):Int)))])]++Hw [] [12] ·) 32 (([122,122].length+(dec ((100+i:Nat):Int)).length<=9223372036854775807)/\(1*1<=16777216)/\(((3+1<=5/\3<5)/\(AV.osl 12 1 0 ns.length=(.osl 12 1 0 ns.length:AV)))/\True)/\(0+1*1<=1)/\(1=1/\ns.length*1<=(fl sc ns).length/\0<16/\(ns.length+1)*16<=140737488355328)/\(True)/\·) ⟨(by simp only[List.length_cons,List.length_nil];omega),dc,⟨⟨dc,rfl⟩,trivial⟩,dc,⟨rfl,gl,dc,gl⟩,trivial,runq_v (v':=.osl 28 1 0 ((ns++[[122,122]++(dec ((100+i:Nat):Int))]).length)) (push_len _ _ _ _) (runq_h (cs':=fl sc (ns++[[122,122]++(dec ((100+i:Nat):Int))])) (push_str ns ([122,122]++(dec ((100+i:Nat):Int)))) (qFn3 [4,5,8] [] (Hw [(20,(tr5 t (.osl 28 1 0 ((ns++[[122,122]++(dec ((100+i:Nat):Int))]).length)) (.osl 16 5 0 ks.length)))] [] ·) 32 (((1:Nat)≠0)/\(true=true/\1=1/\3+1<=5)/\(True)/\·) ⟨dc,dc,trivial,Rb (fun h=>Bn (Jn (hK103 h))) ?_⟩))⟩
 refine An3 5 [(56,.osl 36 5 0 (ks.length+1)),(55,.osl 32 5 0 1),(54,.agg zt),(53,.osl 16 5 0 ks.length),(52,.ptr 20 4)] (fun _=>[(36,apd (fl trc ks) (ks.length*5) (((zt:List AV).drop 0).take (1*5))),(32,zt),(28,fl sc (ns++[[122,122]++(dec ((100+i:Nat):Int))])),(24,[.str ([122,122]++(dec ((100+i:Nat):Int)))]),(20,(tr5 t (.osl 28 1 0 ((ns++[[122,122]++(dec ((100+i:Nat):Int))]).length)) (.osl 16 5 0 ks.length))),(8,zt),(4,tcs t),(0,rdc b (p+1+1))]) 40 (((1:Nat)≠0)/\(4+1<=5/\4<5)/\(1*5<=16777216)/\(0+1*5<=(zt:List AV).length)/\(5=5/\ks.length*5<=(fl trc ks).length/\0<80/\(ks.length+1)*80<=140737488355328)/\·) ⟨dc,dc,dc,(by first|decide|simp),⟨rfl,by(first|omega|(rw[flTl];omega)|(simp only[flTl];omega)),dc,by(first|omega|(rw[flTl];omega)|(simp only[flTl];omega))⟩,run_H (H':=[(36,fl trc ks++[AV.bool false,AV.int .i64 0,AV.str [],AV.nils,AV.nils]),(32,zt),(28,fl sc (ns++[[122,122]++(dec ((100+i:Nat):Int))])),(24,[.str ([122,122]++(dec ((100+i:Nat):Int)))]),(20,(tr5 t (.osl 28 1 0 ((ns++[[122,122]++(dec ((100+i:Nat):Int))]).length)) (.osl 16 5 0 ks.length))),(8,zt),(4,tcs t),(0,rdc b (p+1+1))]) (by rw[show apd (fl trc ks) (ks.length*5) (((zt:List AV).drop 0).take (1*5))=fl trc ks++[AV.bool false,AV.int .i64 0,AV.str [],AV.nils,AV.nils]from(by unfold apd;rw[flT0];rfl)]) (Fn3 [4,5,8] [] (Hw [(20,(tr5 t (.osl 28 1 0 ((ns++[[122,122]++(dec ((100+i:Nat):Int))]).length)) (.osl 36 5 0 (ks.length+1))))] [] ·) 40 (((1:Nat)≠0)/\(true=true/\1=1/\4+1<=5)/\·) ⟨dc,dc,Hn [(36,fl trc ks++[AV.bool false,AV.int .i64 0,AV.str [],AV.nils,AV.nils]),(32,zt),(28,fl sc (ns++[[122,122]++(dec ((100+i:Nat):Int))])),(24,[.str ([122,122]++(dec ((100+i:Nat):Int)))]),(20,(tr5 t (.osl 28 1 0 ((ns++[[122,122]++(dec ((100+i:Nat):Int))]).length)) (.osl 36 5 0 (ks.length+1)))),(8,zt),(4,tcs t),(0,rdc b (p+1+1))] (h_lo (H':=[(36,fl trc (ks++[Tr.none])),(32,zt),(28,fl sc (ns++[[122,122]++(dec ((100+i:Nat):Int))])),(24,[.str ([122,122]++(dec ((100+i:Nat):Int)))]),(20,(tr5 t (.osl 28 1 0 ((ns++[[122,122]++(dec ((100+i:Nat):Int))]).length)) (.osl 36 5 0 (ks.length+1)))),(8,zt),(4,tcs t),(0,rdc b (p+1+1))]) ⟨⟨rfl,lea_zero ks⟩,⟨rfl,leas_refl _⟩,⟨rfl,leas_refl _⟩,⟨rfl,leas_refl _⟩,⟨rfl,leas_refl _⟩,⟨rfl,leas_refl _⟩,⟨rfl,leas_refl _⟩,⟨rfl,leas_refl _⟩,trivial⟩ ?_)⟩)⟩
 refine h_k [4,5,8] (F':=[(4,.ptr 8 0),(5,.ptr 20 0),(8,.i i)]) kr ?_
 refine h_st (F':=[(4,.ptr 8 0),(5,.ptr 20 0),(8,.i i)]) (H':=[(36,fl trc (ks++[Tr.none])),(32,zt),(28,fl sc (ns++[[122,122]++(dec ((100+i:Nat):Int))])),(24,[.str ([122,122]++(dec ((100+i:Nat):Int)))]),(20,(tr5 t (.osl 28 1 0 ((ns++[[122,122]++(dec ((100+i:Nat):Int))]).length)) (.osl 36 5 0 ((ks++[Tr.none]).length)))),(8,zt),(4,tcs t),(0,rdc b (p+1+1))]) rfl (by simp only[List.length_append,List.length_cons,List.length_nil]) ?_
 refine Rn (Av1 2 42 [(41,.i i)] (cI (wn1 i om)) (Ki/\·) ⟨rfl,Gn0 [(8,.i ((i+1:Nat):Int))] (nk_n (Lr (ns++[[122,122]++(dec ((100+i:Nat):Int))],ks++[Tr.none],i+1,some ()) [(0,0),(4,4),(8,8),(20,20),(28,12),(36,16)] 24 [(4,.ptr 8 0),(5,.ptr 20 0),(8,.i ((i+1:Nat):Int))] [(20,(tr5 t (.osl 28 1 0 ((ns++[[122,122]++(dec ((100+i:Nat):Int))]).length)) (.osl 36 5 0 ((ks++[Tr.none]).length)))),(36,fl trc (ks++[Tr.none])),(28,fl sc (ns++[[122,122]++(dec ((100+i:Nat):Int))])),(8,zt),(4,tcs t),(0,rdc b (p+1+1))] [true,false,false,true,true,true] ?_ ?_ kr kr))⟩)
 (try dsimp only);omega
 refine⟨?_,rfl⟩;(try dsimp only);refine⟨?_,?_,om,?_,?_⟩<;>(try simp only[wS_app,Ws_app,wS,Tr.Ws,W_none,List.length_append,List.length_cons,List.length_nil])<;>(try simp only[List.length_nil])<;>omega
 refine Xt (Jx (Lx (Bh (Bn (Jn (hK64 (Kp [4,5] (Rr (Fn3 [4] [] (Hw [(8,(tr5 t (.osl 12 1 0 ns.length) (.osl 16 5 0 ks.length)))] [] ·) 24 ((0+5<=5/\0<5)/\(true=true/\5=5/\0+5<=5)/\·) ⟨dc,dc,FzT 16 ks [(4,.ptr 8 0)] [(12,fl sc ns),(8,(tr5 t (.osl 12 1 0 ns.length) (.osl 16 5 0 ks.length))),(0,rdc b (p+1+1))] [false,true,true] (FzS 12 ns [(4,.ptr 8 0)] [(8,(tr5 t (.osl 12 1 0 ns.length) (.sl 5 (ks.map trc)))),(0,rdc b (p+1+1))] [true,true] ?_)⟩)))))))))
 refine Rt1 ((0+5<=5/\0<5)/\·) (.agg (tr5 t (pth ns) (.sl 5 (ks.map trc)))) ⟨dc,?_⟩
 have hWx:(Tr.mk t.dir t.mode t.data ns ks).W<=t.W+2000:=by
   (try (rw[W_eq (Tr.mk _ _ _ _ _)];simp only[Tr.data_mk,Tr.names_mk,Tr.kids_mk,wS_app,Ws_app,wS,Tr.Ws,List.length_append,List.length_cons,List.length_nil,W_none]))
   omega
 exact fin_rc (p+1+1) (by first|exact lea_refl _|simp[lea,leas,pth,tcs]) (by simp only[go_sem]) kr ⟨(Tr.mk t.dir t.mode t.data ns ks),hWx,rfl,om⟩
 omega
open Go Go.Proofs
set_option maxRecDepth 100000
theorem l4Any_ok (b:Str) (p:Nat) (hp:p<2^20) (hb:b.length<2^30):RC G 14 [] b p (fun r p'=>∃x:Tr,x.W<2^13/\r=.agg (tcs x)/\p'<=p+12000):=by
 refine h_rc (F:=[(0,.ptr 0 0)]) (by simp only[go_sem]) Tryz.func14 kr kr ?_ kr
 refine Rr (Fn2 [0] [(2,.ptr 4 0)] ([(4,zt)]++·) 8 (Sq fun K2 hK2=>?_))
 refine Rr (Bc0 2 [(3,.ptr 0 0)] 30 [.ptr 0 0,.i 24] 4 (RC.use (pick_ok b p 24 om om om om) kr fun r p1 hr=>?_));obtain⟨pk4,hpk4,rfl,rfl⟩:=hr
 refine Ke (Fn0 [0,2,4] [] (Bl (Rr (Cn1 (decide ((pk4:Int)=0)) [0,2,4] [] (Ki/\·) ⟨rfl,fun hc6 c6=>?_,fun hc6 c6=>?_⟩))))
 refine Rr (Bc0 3 [(8,.ptr 0 0),(7,.ptr 0 0)] 32 [.ptr 0 0] 9 (RC.use (l4Tree_ok b (p+1) om om) kr fun r q9 hr=>?_));obtain⟨x8,h1x8,rfl,h3x8⟩:=hr
 refine Ke (Bc0 1 [] 31 [.ptr 0 0,.agg (tcs x8)] 10 (RC.use (l4Spoil_ok _ x8 b q9 rfl om om om) kr fun r q11 hr=>?_));obtain⟨x10,h1x10,rfl,h3x10⟩:=hr
 refine Ke (Fn3 [2] [] (Hw [(4,tcs x10)] [] ·) 8 ((true=true/\5=5/\0+5<=5)/\·) ⟨dc,Rt1 ((0+5<=5/\0<5)/\·) (.agg (tcs x10)) ⟨dc,?_⟩⟩)
 exact fin_rc q11 (lea_refl _) (by simp only[go_sem]) kr ⟨x10,om,rfl,om⟩
 refine Rr (Cn1 (decide ((pk4:Int)=1)) [0,2] [] (Ki/\·) ⟨rfl,fun hc13 c13=>?_,fun hc13 c13=>?_⟩)
 refine Rr (Bc0 2 [(13,.ptr 0 0)] 33 [.ptr 0 0] 14 (RC.use (l4Full_ok b (p+1) om om) kr fun r q16 hr=>?_));obtain⟨x15,h1x15,rfl,h3x15⟩:=hr
 refine Ke (Fn3 [2] [] (Hw [(4,tcs x15)] [] ·) 8 ((true=true/\5=5/\0+5<=5)/\·) ⟨dc,Rt1 ((0+5<=5/\0<5)/\·) (.agg (tcs x15)) ⟨dc,?_⟩⟩)
 exact fin_rc q16 (lea_refl _) (by simp only[go_sem]) kr ⟨x15,om,rfl,om⟩
 refine Sk (Bn (Jn (hK2 (Kp [0,2] (Rr (Bc0 2 [(15,.ptr 0 0)] 32 [.ptr 0 0] 16 (RC.use (l4Tree_ok b (p+1) om om) kr fun r q19 hr=>?_)))))));obtain⟨x18,h1x18,rfl,h3x18⟩:=hr
 refine Ke (Fn3 [2] [] (Hw [(4,tcs x18)] [] ·) 8 ((true=true/\5=5/\0+5<=5)/\·) ⟨dc,Rt1 ((0+5<=5/\0<5)/\·) (.agg (tcs x18)) ⟨dc,?_⟩⟩)
 exact fin_rc q19 (lea_refl _) (by simp only[go_sem]) kr ⟨x18,om,rfl,om⟩
theorem DrawTreeDo_ok (X:Str) (hX:X.length<2^40):PC G 11 [.sl 1 (X.map fun c=>[AV.int .u8 (c.toNat:Int)])] (fun r=>∃(t:Tr) (c:Cl),r=.tup [.agg (tcs t),.agg (clc c)]/\t.W<2^13/\wS c.path<2^40/\wS c.to<2^40/\c.data.length<2^20):=by
 refine h_pc (F:=[(0,.sl 1 (X.map fun c=>[AV.int .u8 (c.toNat:Int)]))]) (by simp only[go_sem]) Tryz.func11 kr kr ?_ kr
 refine Rr (Fn2 [0] [(3,.ptr 4 0),(2,.ptr 0 0)] ([(4,[.i 0,.nils,.nils,.i 0,.str []]),(0,zt)]++·) 8 (Rr (Bc0 2 [(6,.sl 1 (X.map fun c=>[AV.int .u8 (c.toNat:Int)]))] 15 [.sl 1 (X.map fun c=>[AV.int .u8 (c.toNat:Int)])] 7 (op_use (l1Open_ok X om) fun bb hbb=>?_))))
 refine Ke (Fn0 [2,3] [(4,.ptr 8 0)] (Rr (Bc0 2 [(8,.ptr 8 0)] 14 [.ptr 8 0] 9 (RC.use (l4Any_ok bb 0 om om) kr fun r q5 hr=>?_))));obtain⟨x4,h1x4,rfl,h3x4⟩:=hr
 refine Ke (Fn3 [2,3,4] [(5,.ptr 12 0)] ([(12,tcs x4)]++·) 16 ((true=true/\5=5/\0+5<=5)/\·) ⟨dc,Qr [0,0,0,6,15,31] [(0,[]),(1,[]),(2,[]),(3,[0]),(4,[]),(5,[])] (qBc1 4 [(12,.agg (tcs x4)),(11,.ptr 8 0),(10,.agg (tcs x4))] [0] 24 [.ptr 8 0,.agg (tcs x4)] 13 ((0+5<=5/\0<5)/\(0+5<=5/\0<5)/\·) ⟨dc,dc,RC.use (l4Call_ok bb q5 x4 om om om) kr fun r q8 hr=>?_⟩)⟩);obtain⟨cl7,h0cl7,h1cl7,h2cl7,rfl,h3cl7⟩:=hr
 refine Kq (p:=(((0+5<=5/\0<5)/\(AV.agg (tcs x4)=(.agg (tcs x4):AV)))/\True)) ⟨⟨dc,rfl⟩,trivial⟩ ?_
 refine qFn3 [2,3] [] (Hw [(4,clc cl7),(0,tcs x4)] [] ·) 16 ((true=true/\5=5/\0+5<=5)/\(True)/\(true=true/\5=5/\0+5<=5)/\(True)/\·) ⟨dc,trivial,dc,trivial,Rt1 ((0+5<=5/\0<5)/\(0+5<=5/\0<5)/\·) (.tup [.agg (tcs x4),.agg (clc cl7)]) ⟨dc,dc,⟨[],List.nil_sublist _,_,lea_refl _,⟨x4,cl7,rfl,om,om,om,om⟩,by simp only[go_sem]⟩⟩⟩
open Go Go.Proofs
set_option maxRecDepth 100000
theorem ws1_ok (X s:Str) (hl:X.length+s.length<=140737488355328):TCw 1 G 64 [.ptr 0 0,.str s] (hp ([(0,fun g=>[.ptr (g 0) 0,.tsl (g 4) uT (X).length]),(4,fun _=>ints X)]) id) 8 (FQ ([(0,fun g=>[.ptr (g 0) 0,.tsl (g 8) uT (X++s).length]),(8,fun _=>ints (X++s))]) 8 (fun _=>True)):=by
 refine TCw_enter (c:=bd Tryz.f64) Tryz.func64 kr kr (tt_eq (F:=[(0,.ptr 0 0),(1,.str s)]) kr ?_)
 refine Rr (Fn0 [0,1] [] (Rr (Bc0 2 [(6,.ptr 0 0)] 84 [.ptr 0 0] 7 (cku (rest:=[.tsl 4 uT X.length]) kr ?_))))
 refine Ke (Fn0 [0,1] [] (Rr (An3 7 [(14,.tsl 8 uT (X.length+s.length)),(13,.str s),(12,.tsl 4 uT X.length),(11,.ptr 0 1),(10,.ptr 0 0),(9,.ptr 0 0),(8,.ptr 0 0)] ([(8,apd (ints X) (X.length) (ints s))]++Hw [] [4] ·) 12 (((1:Nat)≠0)/\(1+1<=2/\1<2)/\(uT=5/\4%4=0/\bty ⟨1,1,false,[.int .u8 0],.int .u8⟩/\X.length<=(ints X).length/\X.length+s.length<=140737488355328)/\·) ⟨dc,dc,⟨rfl,rfl,⟨rfl,rfl,rfl,rfl⟩,by rw[ints_len];exact Nat.le_refl _,om⟩,run_v (v':=.tsl 8 uT ((X++s).length)) (by rw[List.length_append]) ?_⟩)))
 refine run_h (cs':=ints (X++s)) (app_b _ _) ?_
 refine Fn3 [1] [] (Hw [(0,[.ptr 0 0,.tsl 8 uT ((X++s).length)])] [] ·) 12 (((1:Nat)≠0)/\(true=true/\1=1/\1+1<=2)/\·) ⟨dc,dc,Rr (Fn0 [] [(5,.raw .nilIface),(4,.i s.length)] (Rt (.tup [.i s.length,.raw .nilIface]) ?_))⟩
 exact⟨_,List.Sublist.refl _,fx_end (.tup [.i s.length,.raw .nilIface]) [] [0,8] (HCx.refl _) ⟨lea_refl _,rfl,trivial⟩ kr kr⟩
theorem ws_used (X s:Str) (hl:X.length+s.length<=140737488355328):FX G 64 (fun g=>[.ptr (g 0) 0,.str s]) [(0,fun g=>[.ptr (g 0) 0,.tsl (g 4) uT (X).length]),(4,fun _=>ints X)] [(0,fun g=>[.ptr (g 0) 0,.tsl (g 8) uT (X++s).length]),(8,fun _=>ints (X++s))] 8 12 fun _=>True:=
  FX_mk 1 kr kr kr (ntl_cons ntl_ptr (ntl_pur rfl)) (by intro p hp;simp only[List.mem_cons,List.not_mem_nil,or_false]at hp;rcases hp with rfl|rfl<;>first|exact ntl_pur (purs_ints _)|exact ntl_cons ntl_ptr ntl_tsl) (by intro p hp;simp only[List.mem_cons,List.not_mem_nil,or_false]at hp;rcases hp with rfl|rfl<;>first|exact ntl_pur (purs_ints _)|exact ntl_cons ntl_ptr ntl_tsl) (ws1_ok X s hl)
theorem wf1_ok (s:Str) (h0:0<s.length) (hl:s.length<=140737488355328):TCw 1 G 64 [.tp 0 bT 2,.str s] (hp ([(0,fun _=>[.nilp,.nils])]) id) 4 (FQ ([(0,fun g=>[.ptr (g 0) 0,.tsl (g 4) uT (s).length]),(4,fun _=>ints s)]) 4 (fun _=>True)):=by
 refine TCw_enter (c:=bd Tryz.f64) Tryz.func64 kr kr (tt_eq (F:=[(0,.tp 0 bT 2),(1,.str s)]) kr ?_)
 refine Rr (Fn0 [0,1] [] (Rr (Bc0 2 [(6,.tp 0 bT 2)] 84 [.tp 0 bT 2] 7 (ckf (rest:=[.nils]) kr dc (H'':=[(0,[.ptr 0 0,.nils])]) kr ?_))))
 refine Ke (Fn0 [0,1] [] (h_untp [(0,.ptr 0 0),(1,.str s)] kr (Rr (Fn3 [1] [] (fun _=>[(4,ints s),(0,[.ptr 0 0,.tsl 4 uT s.length])]) 8 (((1:Nat)≠0)/\(1+1<=2/\1<2)/\(bty ⟨1,1,false,[.int .u8 0],.int .u8⟩/\0<s.length/\s.length<=140737488355328)/\((1:Nat)≠0)/\(true=true/\1=1/\1+1<=2)/\·) ⟨dc,dc,⟨⟨rfl,rfl,rfl,rfl⟩,om,om⟩,dc,dc,?_⟩))))
 refine Rr (Fn0 [] [(5,.raw .nilIface),(4,.i s.length)] (Rt (.tup [.i s.length,.raw .nilIface]) ?_))
 exact⟨_,List.Sublist.refl _,fx_end (.tup [.i s.length,.raw .nilIface]) [] [0,4] (HCx.refl _) ⟨lea_refl _,rfl,trivial⟩ kr kr⟩
theorem ws_fresh (s:Str) (h0:0<s.length) (hl:s.length<=140737488355328):FX G 64 (fun g=>[.tp (g 0) bT 2,.str s]) [(0,fun _=>[.nilp,.nils])] [(0,fun g=>[.ptr (g 0) 0,.tsl (g 4) uT (s).length]),(4,fun _=>ints s)] 4 8 fun _=>True:=
  FX_mk 1 kr kr kr (ntl_cons ntl_tp (ntl_pur rfl)) (by intro p hp;simp only[List.mem_cons,List.not_mem_nil,or_false]at hp;subst hp;exact ntl_pur rfl) (by intro p hp;simp only[List.mem_cons,List.not_mem_nil,or_false]at hp;rcases hp with rfl|rfl<;>first|exact ntl_pur (purs_ints _)|exact ntl_cons ntl_ptr ntl_tsl) (wf1_ok s h0 hl)
open Go Go.Proofs
set_option maxRecDepth 100000
def dg36:Str:=[48,49,50,51,52,53,54,55,56,57,97,98,99,100,101,102,103,104,105,106,107,108,109,110,111]++[112,113,114,115,116,117,118,119,120,121,122]
def dg200:Str:=[48,48,48,49,48,50,48,51,48,52,48,53,48,54,48,55,48,56,48,57,49,48,49,49,49]++[50,49,51,49,52,49,53,49,54,49,55,49,56,49,57,50,48,50,49,50,50,50,51,50,52]++[50,53,50,54,50,55,50,56,50,57,51,48,51,49,51,50,51,51,51,52,51,53,51,54,51]++[55,51,56,51,57,52,48,52,49,52,50,52,51,52,52,52,53,52,54,52,55,52,56,52,57]++[53,48,53,49,53,50,53,51,53,52,53,53,53,54,53,55,53,56,53,57,54,48,54,49,54]++[50,54,51,54,52,54,53,54,54,54,55,54,56,54,57,55,48,55,49,55,50,55,51,55,52]++[55,53,55,54,55,55,55,56,55,57,56,48,56,49,56,50,56,51,56,52,56,53,56,54,56]++[55,56,56,56,57,57,48,57,49,57,50,57,51,57,52,57,53,57,54,57,55,57,56,57,57]
theorem wdiv8 {a b:Int} (h1:0<=a) (h2:0<b) (h3:a<=255):IntKind.u8.wrap (a.tdiv b)=a/b:=by
  rw[Int.tdiv_eq_ediv_of_nonneg h1]
  have h4:0<=a/b:=Int.ediv_nonneg h1 om
  have h5:a/b<=a:=Int.ediv_le_self b h1
  exact wrap8 h4 om
def hx16:Str:=[48,49,50,51,52,53,54,55,56,57,97,98,99,100,101,102]
def hexB (c:UInt8):Str:=[hx16.getD (c.toNat/16) 0,hx16.getD (c.toNat%16) 0]
def hexS (s:Str):Str:=(s.map hexB).flatten
def datS (s:Str):Str:=if s=[]then[45]else hexS s
def pthS (p:List Str):Str:=if p=[]then[47]else 47::Lib.join p [47]
def linS (q:Str) (t:Tr):Str:=bif t.dir then[100,105,114,32]++q++[32]++dec t.mode++[10]else[102,105,108,101,32]++q++[32]++dec t.mode++[32]++datS t.data++[10]
theorem hexS_len (s:Str):(hexS s).length=2*s.length:=by
  induction s with
  |nil=>rfl
  |cons c s ih=>simp only[hexS,List.map_cons,List.flatten_cons,List.length_append,List.length_cons]at ih⊢;simp only[hexB,List.length_cons,List.length_nil];omega
theorem hexS_take (s:Str) (k:Nat) (h:k<s.length):hexS (s.take (k+1))=hexS (s.take k)++hexB (s.getD k 0):=by
  unfold hexS;rw[take_snoc s k 0 h,List.map_append,List.flatten_append];simp
theorem hd16 (x:Nat):((x:Int)/16).toNat=x/16:=by omega
theorem hm16 (x:Nat):((x:Int)%16).toNat=x%16:=by omega
theorem hx1:∀n:_root_.Fin 16,((hx16.take ((n.1:Int)+1).toNat).drop (n.1:Int).toNat)=[hx16.getD n.1 0]:=by decide
theorem hexB_eq (c:UInt8):hexB c=(hx16.take (((c.toNat:Int)/16)+1).toNat).drop ((c.toNat:Int)/16).toNat++(hx16.take (((c.toNat:Int)%16)+1).toNat).drop ((c.toNat:Int)%16).toNat:=by
  have hc:=c.toNat_lt
  have h1:=hx1 ⟨c.toNat/16,om⟩
  have h2:=hx1 ⟨c.toNat%16,om⟩
  rw[show(c.toNat:Int)/16=((c.toNat/16:Nat):Int) by omega,show(c.toNat:Int)%16=((c.toNat%16:Nat):Int) by omega,h1,h2];rfl
theorem hexS_nil {s:Str}:hexS s=[]↔s=[]:=by
  constructor
  · intro h
    have:=hexS_len s
    rw[h]at this
    exact List.eq_nil_of_length_eq_zero (by simp at this;omega)
  · rintro rfl;rfl
theorem sm7 {m:Int} (h0:0<=m) (h7:m<=7):(dg36.take (m+1).toNat).drop m.toNat=dec m:=by
  rw[dec_one om om]
  obtain⟨n,rfl⟩:∃n:Nat,m=n:=⟨m.toNat,om⟩
  have:n=0\/n=1\/n=2\/n=3\/n=4\/n=5\/n=6\/n=7:=by omega
  rcases this with rfl|rfl|rfl|rfl|rfl|rfl|rfl|rfl<;>decide
theorem lenA (a b:Str):(a++b).length=a.length+b.length:=List.length_append
theorem app_hex (X:Str) (a b:UInt8):apd (ints X) (X.length*1) [.int .u8 (a.toNat:Int),.int .u8 (b.toNat:Int)]=ints (X++[a,b]):=by
  have:=app_b X [a,b]
  rw[Nat.mul_one];exact this
theorem small_ok (m:Int) (h0:0<=m) (h7:m<=7):PE G 119 [.i m] (.str (dec m)):=by
 have hd1:dg36.length=36:=rfl;have hd2:dg200.length=200:=rfl
 refine Pe Tryz.func119 ?_
 refine Rr (Fn0 [0] [] (Sq fun K2 hK2=>?_))
 refine Rr (Cn1 (decide ((m:Int)<(10:Int))) [0] [] (Ki/\·) ⟨rfl,fun hc4 c4=>?_,fun hc4 c4=>?_⟩)
 refine Rr (Av1 (r:=.i (IntKind.i64.wrap (m+1))) (v:=.i (m+1)) 3 7 [(6,.i m),(5,.i m)] (cI (wrap64 om om)) (Ki/\·) ⟨rfl,Fn1 [] [(2,.str ((dg36.take ((m+1).toNat)).drop m.toNat))] ((0<=(m:Int)/\(m:Int)<=(m+1)/\(m+1)<=(dg36.length:Int))/\·) ⟨⟨om,om,om⟩,Rt (.str ((dg36.take ((m+1).toNat)).drop m.toNat)) (fin_lea ?_)⟩⟩)
 rw[sm7 h0 h7];exact lea_refl _
 refine Sk (Jn (hK2 (Kp [0] (Rr (Av1 (r:=.i (IntKind.i64.wrap (m*2))) (v:=.i (m*2)) 2 10 [(9,.i m)] (cI (wrap64 om om)) (Ki/\·) ⟨rfl,Av1 (r:=.i (IntKind.i64.wrap (m*2))) (v:=.i (m*2)) 2 12 [(11,.i m)] (cI (wrap64 om om)) (Ki/\·) ⟨rfl,Av1 (r:=.i (IntKind.i64.wrap ((m*2)+2))) (v:=.i ((m*2)+2)) 1 13 [] (cI (wrap64 om om)) (Ki/\·) ⟨rfl,?_⟩⟩⟩)))))
 refine Fn1 [] [(2,.str ((dg200.take (((m*2)+2).toNat)).drop ((m*2).toNat)))] ((0<=((m*2):Int)/\((m*2):Int)<=((m*2)+2)/\((m*2)+2)<=(dg200.length:Int))/\·) ⟨⟨om,om,om⟩,Rt (.str ((dg200.take (((m*2)+2).toNat)).drop ((m*2).toNat))) ?_⟩
 exact absurd trivial om
theorem hexOf_ok (s:Str) (h:s.length<2^40):PE G 108 [.str s] (.str (hexS s)):=by
 refine Pe Tryz.func108 ?_
 refine Rr (Fn0 [0] [] (Rr (Fn3 [0] [(3,.osl 0 1 0 0)] ([(0,[])]++·) 4 ((0*1<=16777216)/\·) ⟨dc,Sq fun K3 hK3=>?_⟩)))
 refine Rr (Fn0 [0,3] [(4,.i 0)] (Bl (h_l (fun(k:Nat)=>([(0,.str s),(3,.osl 0 1 0 ((hexS (s.take k)).length)),(4,.i k)]:Fr)) (fun(k:Nat)=>([(0,ints (hexS (s.take k)))]:Hp)) (fun(k:Nat) cn=>(k<=s.length)/\cn=4) (fun(k:Nat)=>s.length-k) 0 kr ?_ ?_ ?_ ?_)))
 refine⟨?_,rfl⟩;exact Nat.zero_le _
 exact⟨kr,kr,kr,trivial⟩
 exact(sub_c kr (List.nil_sublist _))
 rintro k n1 hI
 (try dsimp only at hI)
 obtain⟨hi1,rfl⟩:=hI
 refine Sq fun K5 hK5=>?_
 refine Rr (Cn1 (decide ((k:Int)<(s.length:Int))) [0,3,4] [] (Ki/\·) ⟨rfl,fun hc7 c7=>?_,fun hc7 c7=>?_⟩)
 refine Sk (Jn (hK5 (Kp [0,3,4] (Sq fun K8 hK8=>?_))))
 refine Bl ?_
 have hx6:hx16.length=16:=rfl;have hu:=(s.getD k 0).toNat_lt;have hxl:=hexS_len (s.take k);have hil:=ints_len (hexS (s.take k));have htl:(s.take k).length=k:=by rw[List.length_take];omega
 refine Qlb [0,0,0,6,14,30,0,0,192,448,960,2046,4095] [(0,[]),(1,[]),(2,[]),(3,[]),(4,[]),(5,[]),(6,[]),(7,[]),(8,[]),(9,[]),(10,[]),(11,[]),(12,[])] (fun h=>Bn (Jn (hK8 h))) ?_
 refine qAv1 (r:=.int .u8 (IntKind.u8.wrap (((s.getD k 0).toNat:Int).tdiv 16))) (v:=.int .u8 (((s.getD k 0).toNat:Int)/16)) 5 16 [(15,.int .u8 ((s.getD k 0).toNat:Int)),(14,.i k),(13,.str s),(12,.osl 0 1 0 ((hexS (s.take k)).length))] (congrArg (AV.int .u8) (wdiv8 om om om)) (((0:Int)<=(k:Int)/\(k:Int)<(s.length:Int))/\(IntKind.u8=IntKind.u8/\(16:Int)≠0)/\·) ⟨⟨om,om⟩,⟨rfl,om⟩,qAv1 (r:=.int .u8 (((s.getD k 0).toNat:Int).tmod 16)) (v:=.int .u8 (((s.getD k 0).toNat:Int)%16)) 5 21 [(20,.int .u8 ((s.getD k 0).toNat:Int)),(19,.i k),(18,.str s),(17,.int .u8 (((hx16.getD ((((s.getD k 0).toNat:Int)/16).toNat) 0).toNat:Nat):Int))] (congrArg (AV.int .u8) (tmod_nn om)) (((0:Int)<=(((s.getD k 0).toNat:Int)/16)/\(((s.getD k 0).toNat:Int)/16)<(hx16.length:Int))/\((0:Int)<=(k:Int)/\(k:Int)<(s.length:Int))/\(IntKind.u8=IntKind.u8/\(16:Int)≠0)/\·) ⟨⟨om,om⟩,⟨om,om⟩,⟨rfl,om⟩,qAn3 3 [(24,.osl 8 1 0 ((hexS (s.take k)).length+2)),(23,.osl 4 1 0 2),(22,.int .u8 (((hx16.getD ((((s.getD k 0).toNat:Int)%16).toNat) 0).toNat:Nat):Int))] (fun _=>[(8,apd (ints (hexS (s.take k))) ((hexS (s.take k)).length*1) ((([.int .u8 (((hx16.getD ((((s.getD k 0).toNat:Int)/16).toNat) 0).toNat:Nat):Int),.int .u8 (((hx16.getD ((((s.getD k 0).toNat:Int)%16).toNat) 0).toNat:Nat):Int)]:List AV).drop 0).take (2*1))),(4,[.int .u8 (((hx16.getD ((((s.getD k 0).toNat:Int)/16).toNat) 0).toNat:Nat):Int),.int .u8 (((hx16.getD ((((s.getD k 0).toNat:Int)%16).toNat) 0).toNat:Nat):Int)])]) 12 (fun Z=>((0:Int)<=(((s.getD k 0).toNat:Int)%16)/\(((s.getD k 0).toNat:Int)%16)<(hx16.length:Int))/\(2*1<=16777216)/\(True)/\(0+2*1<=([.int .u8 (((hx16.getD ((((s.getD k 0).toNat:Int)/16).toNat) 0).toNat:Nat):Int),.int .u8 (((hx16.getD ((((s.getD k 0).toNat:Int)%16).toNat) 0).toNat:Nat):Int)]:List AV).length)/\(1=1/\(hexS (s.take k)).length*1<=(ints (hexS (s.take k))).length/\0<1/\((hexS (s.take k)).length+2)*1<=140737488355328)/\(True)/\Z) ⟨⟨om,om⟩,dc,trivial,(by first|decide|simp),⟨rfl,om,dc,om⟩,trivial,runq_H (H':=[(8,ints (hexS (s.take k)++hexB (s.getD k 0))),(4,[.int .u8 (((hx16.getD ((((s.getD k 0).toNat:Int)/16).toNat) 0).toNat:Nat):Int),.int .u8 (((hx16.getD ((((s.getD k 0).toNat:Int)%16).toNat) 0).toNat:Nat):Int)])]) (by rw[show apd (ints (hexS (s.take k))) ((hexS (s.take k)).length*1) ((([.int .u8 (((hx16.getD ((((s.getD k 0).toNat:Int)/16).toNat) 0).toNat:Nat):Int),.int .u8 (((hx16.getD ((((s.getD k 0).toNat:Int)%16).toNat) 0).toNat:Nat):Int)]:List AV).drop 0).take (2*1))=ints (hexS (s.take k)++hexB (s.getD k 0))from(by rw[hd16,hm16];exact app_hex _ _ _)]) (qGn0 [] ?_)⟩⟩⟩
 refine Lo 3 (.osl 8 1 0 ((hexS (s.take k)).length+2)) (fun Z=>Z) ?_
 refine Cfi [0,3,4] ?_
 refine Rn (Av1 2 11 [(10,.i k)] (cI (wn1 k om)) (Ki/\·) ⟨rfl,Gn0 [(4,.i ((k+1:Nat):Int))] (nk_n (Lr (k+1) [(8,0)] 4 [(0,.str s),(3,.osl 8 1 0 ((hexS (s.take k)).length+2)),(4,.i ((k+1:Nat):Int))] [(8,ints (hexS (s.take k)++hexB (s.getD k 0)))] [false] ?_ ?_ (by(try ((try dsimp only);rw[hexS_take s k om]));try kernel_rfl) (by(try ((try dsimp only);rw[hexS_take s k om,List.length_append]));try kernel_rfl)))⟩)
 (try dsimp only);omega
 refine⟨?_,rfl⟩;(try dsimp only);omega
 refine Xt (Jx (Lx (Bh (Jn (hK3 (Kp [3] (Rr (Av1 (r:=.str ((((ints (hexS (s.take k))).drop 0).take (hexS (s.take k)).length).map unu)) (v:=.str (hexS (s.take k))) 2 26 [(25,.osl 0 1 0 ((hexS (s.take k)).length))] (congrArg AV.str (unu_ints _)) (fun Z=>(1=1/\0+(hexS (s.take k)).length<=(ints (hexS (s.take k))).length/\allu (((ints (hexS (s.take k))).drop 0).take (hexS (s.take k)).length))/\Z) ⟨⟨rfl,by rw[ints_len];omega,allu_ints _⟩,Fn0 [] [(2,.str (hexS (s.take k)))] (Rt (.str (hexS (s.take k))) ?_)⟩))))))))
 refine fin_lea ?_
 rw[List.take_of_length_le om];exact lea_refl _
theorem l1Hex_ok (s:Str) (h:s.length<2^40):PE G 68 [.str s] (.str (datS s)):=by
 refine Pe Tryz.func68 ?_
 refine Rr (Fn0 [0] [] (Rr (Fn0 [0] [(3,.str [])] (Sq fun K3 hK3=>?_))))
 refine Rr (Fn0 [0,3] [(4,.i 0)] (Bl (h_l (fun(k:Nat)=>([(0,.str s),(3,.str (hexS (s.take k))),(4,.i k)]:Fr)) (fun(k:Nat)=>([]:Hp)) (fun(k:Nat) cn=>(k<=s.length)/\cn=0) (fun(k:Nat)=>s.length-k) 0 kr ?_ ?_ ?_ ?_)))
 refine⟨?_,rfl⟩;exact Nat.zero_le _
 exact⟨kr,kr,kr,trivial⟩
 exact(List.nil_sublist _)
 rintro k n1 hI
 (try dsimp only at hI)
 obtain⟨hi1,rfl⟩:=hI
 refine Sq fun K5 hK5=>?_
 refine Rr (Cn1 (decide ((k:Int)<(s.length:Int))) [0,3,4] [] (Ki/\·) ⟨rfl,fun hc7 c7=>?_,fun hc7 c7=>?_⟩)
 refine Sk (Jn (hK5 (Kp [0,3,4] (Sq fun K8 hK8=>?_))))
 refine Bl ?_
 have hx6:hx16.length=16:=rfl;have hu:=(s.getD k 0).toNat_lt;have hxl:=hexS_len (s.take k);have hq1:((hx16.take (((((s.getD k 0).toNat:Int)/16)+1).toNat)).drop ((((s.getD k 0).toNat:Int)/16).toNat)).length<=16:=(by rw[List.length_drop,List.length_take];omega);have hq2:((hx16.take (((((s.getD k 0).toNat:Int)%16)+1).toNat)).drop ((((s.getD k 0).toNat:Int)%16).toNat)).length<=16:=(by rw[List.length_drop,List.length_take];omega);have hq3:=lenA (hexS (s.take k)) (((hx16.take (((((s.getD k 0).toNat:Int)/16)+1).toNat)).drop ((((s.getD k 0).toNat:Int)/16).toNat)));have htl:(s.take k).length=k:=by rw[List.length_take];omega
 refine Qlb [0,0,0,6,14,0,0,96,224,480,1022,2047,0,0,12288,28672,0,0,196608,458752,983040,2093056,4194303] [(0,[]),(1,[]),(2,[]),(3,[]),(4,[]),(5,[]),(6,[]),(7,[]),(8,[]),(9,[]),(10,[]),(11,[]),(12,[]),(13,[]),(14,[]),(15,[]),(16,[]),(17,[]),(18,[]),(19,[]),(20,[]),(21,[]),(22,[])] (fun h=>Bn (Jn (hK8 h))) ?_
 refine qAv1 (r:=.int .u8 (IntKind.u8.wrap (((s.getD k 0).toNat:Int).tdiv 16))) (v:=.int .u8 (((s.getD k 0).toNat:Int)/16)) 5 15 [(14,.int .u8 ((s.getD k 0).toNat:Int)),(13,.i k),(12,.str s),(11,.str (hexS (s.take k)))] (congrArg (AV.int .u8) (wdiv8 om om om)) (((0:Int)<=(k:Int)/\(k:Int)<(s.length:Int))/\(IntKind.u8=IntKind.u8/\(16:Int)≠0)/\·) ⟨⟨om,om⟩,⟨rfl,om⟩,qAv1 (r:=.int .u8 (IntKind.u8.wrap (((s.getD k 0).toNat:Int).tdiv 16))) (v:=.int .u8 (((s.getD k 0).toNat:Int)/16)) 4 19 [(18,.int .u8 ((s.getD k 0).toNat:Int)),(17,.i k),(16,.str s)] (congrArg (AV.int .u8) (wdiv8 om om om)) (((0:Int)<=(k:Int)/\(k:Int)<(s.length:Int))/\(IntKind.u8=IntKind.u8/\(16:Int)≠0)/\·) ⟨⟨om,om⟩,⟨rfl,om⟩,qAv1 (r:=.int .u8 (IntKind.u8.wrap ((((s.getD k 0).toNat:Int)/16)+1))) (v:=.int .u8 ((((s.getD k 0).toNat:Int)/16)+1)) 1 20 [] (congrArg (AV.int .u8) (wrap8 om om)) ((IntKind.u8=IntKind.u8)/\·) ⟨rfl,qAv1 (r:=.int .u8 (((s.getD k 0).toNat:Int).tmod 16)) (v:=.int .u8 (((s.getD k 0).toNat:Int)%16)) 6 26 [(25,.int .u8 ((s.getD k 0).toNat:Int)),(24,.i k),(23,.str s),(22,.str ((hexS (s.take k))++((hx16.take (((((s.getD k 0).toNat:Int)/16)+1).toNat)).drop ((((s.getD k 0).toNat:Int)/16).toNat)))),(21,.str ((hx16.take (((((s.getD k 0).toNat:Int)/16)+1).toNat)).drop ((((s.getD k 0).toNat:Int)/16).toNat)))] (congrArg (AV.int .u8) (tmod_nn om)) (fun Z=>(0<=((((s.getD k 0).toNat:Int)/16):Int)/\((((s.getD k 0).toNat:Int)/16):Int)<=((((s.getD k 0).toNat:Int)/16)+1)/\((((s.getD k 0).toNat:Int)/16)+1)<=(hx16.length:Int))/\((hexS (s.take k)).length+((hx16.take (((((s.getD k 0).toNat:Int)/16)+1).toNat)).drop ((((s.getD k 0).toNat:Int)/16).toNat)).length<=9223372036854775807)/\((0:Int)<=(k:Int)/\(k:Int)<(s.length:Int))/\(IntKind.u8=IntKind.u8/\(16:Int)≠0)/\Z) ⟨⟨om,om,om⟩,om,⟨om,om⟩,⟨rfl,om⟩,qAv1 (r:=.int .u8 (((s.getD k 0).toNat:Int).tmod 16)) (v:=.int .u8 (((s.getD k 0).toNat:Int)%16)) 4 30 [(29,.int .u8 ((s.getD k 0).toNat:Int)),(28,.i k),(27,.str s)] (congrArg (AV.int .u8) (tmod_nn om)) (((0:Int)<=(k:Int)/\(k:Int)<(s.length:Int))/\(IntKind.u8=IntKind.u8/\(16:Int)≠0)/\·) ⟨⟨om,om⟩,⟨rfl,om⟩,?_⟩⟩⟩⟩⟩
 refine qAv1 (r:=.int .u8 (IntKind.u8.wrap ((((s.getD k 0).toNat:Int)%16)+1))) (v:=.int .u8 ((((s.getD k 0).toNat:Int)%16)+1)) 1 31 [] (congrArg (AV.int .u8) (wrap8 om om)) ((IntKind.u8=IntKind.u8)/\·) ⟨rfl,qGn1 [(33,.str (((hexS (s.take k))++((hx16.take (((((s.getD k 0).toNat:Int)/16)+1).toNat)).drop ((((s.getD k 0).toNat:Int)/16).toNat)))++((hx16.take (((((s.getD k 0).toNat:Int)%16)+1).toNat)).drop ((((s.getD k 0).toNat:Int)%16).toNat)))),(32,.str ((hx16.take (((((s.getD k 0).toNat:Int)%16)+1).toNat)).drop ((((s.getD k 0).toNat:Int)%16).toNat)))] (fun Z=>(0<=((((s.getD k 0).toNat:Int)%16):Int)/\((((s.getD k 0).toNat:Int)%16):Int)<=((((s.getD k 0).toNat:Int)%16)+1)/\((((s.getD k 0).toNat:Int)%16)+1)<=(hx16.length:Int))/\(((hexS (s.take k))++((hx16.take (((((s.getD k 0).toNat:Int)/16)+1).toNat)).drop ((((s.getD k 0).toNat:Int)/16).toNat))).length+((hx16.take (((((s.getD k 0).toNat:Int)%16)+1).toNat)).drop ((((s.getD k 0).toNat:Int)%16).toNat)).length<=9223372036854775807)/\Z) ⟨⟨om,om,om⟩,(by first|omega|(simp only[List.length_append,List.length_cons,List.length_nil];omega)),Lo 3 (.str (((hexS (s.take k))++((hx16.take (((((s.getD k 0).toNat:Int)/16)+1).toNat)).drop ((((s.getD k 0).toNat:Int)/16).toNat)))++((hx16.take (((((s.getD k 0).toNat:Int)%16)+1).toNat)).drop ((((s.getD k 0).toNat:Int)%16).toNat)))) (fun Z=>Z) (Cfi [0,3,4] (Rn ?_))⟩⟩
 refine Av1 2 10 [(9,.i k)] (cI (wn1 k om)) (Ki/\·) ⟨rfl,Gn0 [(4,.i ((k+1:Nat):Int))] (nk_n (Lr (k+1) [] 0 [(0,.str s),(3,.str (((hexS (s.take k))++((hx16.take (((((s.getD k 0).toNat:Int)/16)+1).toNat)).drop ((((s.getD k 0).toNat:Int)/16).toNat)))++((hx16.take (((((s.getD k 0).toNat:Int)%16)+1).toNat)).drop ((((s.getD k 0).toNat:Int)%16).toNat)))),(4,.i ((k+1:Nat):Int))] [] [] ?_ ?_ kr (by(try ((try dsimp only);rw[hexS_take s k om,hexB_eq,<-List.append_assoc]));try kernel_rfl)))⟩
 (try dsimp only);omega
 refine⟨?_,rfl⟩;(try dsimp only);omega
 refine Xt (Jx (Lx (Bh (Jn (hK3 (Kp [3] (Sq fun K9 hK9=>?_)))))))
 refine Rr (Cn0 ((hexS (s.take k))==[]) [3] [] ⟨fun hc11 c11=>?_,fun hc11 c11=>?_⟩)
 refine Rr (Fn0 [] [(2,.str [45])] (Rt (.str [45]) (fin_lea ?_)))
 have hk:s.take k=s:=List.take_of_length_le om
 rw[show datS s=[45] by unfold datS;rw[if_pos (hexS_nil.1 (by have h:=hc11;rw[hk]at h;simpa using h))]];exact lea_refl _
 refine Sk (Jn (hK9 (Kp [3] (Rr (Fn0 [] [(2,.str (hexS (s.take k)))] (Rt (.str (hexS (s.take k))) (fin_lea ?_)))))))
 have hk:s.take k=s:=List.take_of_length_le om
 rw[show datS s=hexS (s.take k) by unfold datS;rw[if_neg (fun q=>by have h:=hc11;rw[hk,hexS_nil.2 q]at h;simp at h),hk]];exact lea_refl _
open Go Go.Proofs
set_option maxRecDepth 100000
theorem join_len (p:List Str) (sep:Str):(Lib.join p sep).length<=wS p*(sep.length+1):=by
  cases p with
  |nil=>simp[Lib.join,List.intercalate]
  |cons x r=>
    rw[Lib.join_cons,List.length_append]
    have:∀r:List Str,(Lib.joinTail sep r).length<=wS r*(sep.length+1):=by
      intro r
      induction r with
      |nil=>simp[Lib.joinTail]
      |cons y r ih=>
        simp only[Lib.joinTail,List.map_cons,List.flatten_cons,List.length_append]at ih⊢
        have e:(wS (y::r))*(sep.length+1)=(y.length+1)*(sep.length+1)+wS r*(sep.length+1):=by simp only[wS];rw[Nat.add_mul]
        have e2:(y.length+1)*(sep.length+1)=y.length*sep.length+y.length+sep.length+1:=by rw[Nat.add_mul,Nat.mul_add];omega
        rw[e,e2];omega
    have h1:=this r
    have e:(wS (x::r))*(sep.length+1)=(x.length+1)*(sep.length+1)+wS r*(sep.length+1):=by simp only[wS];rw[Nat.add_mul]
    have e2:(x.length+1)*(sep.length+1)=x.length*sep.length+x.length+sep.length+1:=by rw[Nat.add_mul,Nat.mul_add];omega
    rw[e,e2];omega
theorem pthS_len (p:List Str):(pthS p).length<=2*wS p+1:=by
  unfold pthS
  split
  · simp
  · have:=join_len p [47]
    simp only[List.length_cons,List.length_nil]at this⊢;omega
theorem datS_len (s:Str):(datS s).length<=2*s.length+1:=by
  unfold datS
  split
  · simp
  · rw[hexS_len];omega
theorem fmtInt_ok (m:Int) (h0:0<=m) (h7:m<=7):PE G 115 [.i m,.i 10] (.str (dec m)):=by
 refine Pe Tryz.func115 ?_
 refine Rr (Fn0 [0,1] [] (Sq fun K2 hK2=>?_))
 refine Rr (Fn1 [0,1] [(11,.bool true)] (Ki/\·) ⟨rfl,Ct (Sq fun K4 hK4=>?_)⟩)
 refine Rr (An1 3 [(14,.bool (decide ((0:Int)<=(m:Int)))),(13,.bool (decide ((0:Int)<=(m:Int)))),(12,.i m)] (Ki/\·) ⟨rfl,Rg (fun hg6 g6=>?_) (fun hg6 g6=>?_)⟩)
 refine Cn1 (decide ((m:Int)<(100:Int))) [0] [] (Ki/\·) ⟨rfl,fun hc7 c7=>?_,fun hc7 c7=>?_⟩
 refine Rr (Pc0 2 [(18,.i m)] 19 (small_ok m h0 h7) (Fn0 [] [(4,.str (dec m))] (Rt (.str (dec m)) (fin_lea ?_))))
 exact lea_refl _
 exfalso;have h:=hc7;simp at h;omega
 exfalso;have h:=hg6;simp at h;omega
theorem itoa1_ok (m:Int) (h0:0<=m) (h7:m<=7):PE G 107 [.i m] (.str (dec m)):=by
 refine Pe Tryz.func107 ?_
 refine Rr (Fn0 [0] [] (Rr (Pc0 2 [(3,.i m)] 4 (fmtInt_ok m h0 h7) (Fn0 [] [(2,.str (dec m))] ?_))))
 refine Rt (.str (dec m)) (fin_lea ?_)
 exact lea_refl _
theorem itoa_ok (m:Int) (h0:0<=m) (h7:m<=7):PE G 86 [.i m] (.str (dec m)):=by
 refine Pe Tryz.func86 ?_
 refine Rr (Fn0 [0] [] (Rr (Pc0 2 [(3,.i m)] 4 (itoa1_ok m h0 h7) (Fn0 [] [(2,.str (dec m))] ?_))))
 refine Rt (.str (dec m)) (fin_lea ?_)
 exact lea_refl _
theorem datT_ok (s:Str) (h:s.length<2^40):PE G 87 [.str s] (.str (datS s)):=by
 refine Pe Tryz.func87 ?_
 refine Rr (Fn0 [0] [] (Sq fun K2 hK2=>?_))
 refine Rr (Cn0 (s==[]) [0] [] ⟨fun hc4 c4=>?_,fun hc4 c4=>?_⟩)
 refine Rr (Fn0 [] [(2,.str [45])] (Rt (.str [45]) (fin_lea ?_)))
 rw[show datS s=[45] by unfold datS;rw[if_pos (by have h:=hc4;simpa using h)]];exact lea_refl _
 refine Sk (Jn (hK2 (Kp [0] (Rr (Pc0 2 [(5,.str s)] 6 (hexOf_ok s om) (Fn0 [] [(2,.str (hexS s))] (Rt (.str (hexS s)) ?_)))))))
 refine fin_lea ?_
 rw[show datS s=hexS s by unfold datS;rw[if_neg (by have h:=hc4;simpa using h)]];exact lea_refl _
theorem pthT_ok (p:List Str) (h:wS p<2^40):PE G 85 [pth p] (.str (pthS p)):=by
 have hpl:=wS_len p
 refine Pe Tryz.func85 ?_
 refine Rr (Fn0 [0] [] (Sq fun K2 hK2=>?_))
 refine Rr (Av0 2 4 [(3,pth p)] (lnm p sc) (Cn1 (decide ((p.length:Int)=0)) [0] [] (Ki/\·) ⟨rfl,fun hc4 c4=>?_,fun hc4 c4=>?_⟩))
 refine Rr (Fn0 [] [(2,.str [47])] (Rt (.str [47]) (fin_lea ?_)))
 rw[show pthS p=[47] by unfold pthS;rw[if_pos (by have h:=hc4;simpa using h)]];exact lea_refl _
 refine Sk (Jn (hK2 (Kp [0] ?_)))
 have hne:p≠[]:=fun e=>by have h:=hc4;rw[e]at h;simp at h
 refine Rr ?_
 have hjl:(Lib.join p [47]).length<=wS p*2:=join_len _ _
 refine Pc0 2 [(6,pth p)] 7 (join_ok p [47] hne om om) (Fn1 [] [(2,.str ([47]++(Lib.join p [47])))] (([47].length+(Lib.join p [47]).length<=9223372036854775807)/\·) ⟨(by simp only[List.length_cons,List.length_nil];omega),Rt (.str ([47]++(Lib.join p [47]))) (fin_lea ?_)⟩)
 rw[show pthS p=[47]++Lib.join p [47] by unfold pthS;rw[if_neg hne];rfl];exact lea_refl _
theorem line_ok (t:Tr) (q:List Str) (h0:0<=t.mode) (h7:t.mode<=7) (hd:t.data.length<2^39) (hq:wS q<2^38):PE G 65 [.agg (tcs t),pth q] (.str (linS (pthS q) t)):=by
 have hdx:=datS_len t.data;have hmx:=dec_len t.mode om om;have hpy:=pthS_len q
 refine Pe Tryz.func65 ?_
 refine Rr (Fn2 [1] [(2,.ptr 0 0)] ([(0,tcs t)]++·) 4 (Sq fun K2 hK2=>?_))
 refine Rr (Cn1 t.dir [1,2] [] (((1:Nat)≠0)/\(0+1<=5/\0<5)/\·) ⟨dc,dc,fun hc4 c4=>?_,fun hc4 c4=>?_⟩)
 refine Qr [0,1,3,7,0,16,51,127,255,511] [(0,[]),(4,[]),(5,[]),(1,[5]),(2,[]),(3,[]),(6,[]),(7,[]),(8,[]),(9,[])] (qBc1 4 [(12,.i t.mode),(11,.ptr 0 1),(7,pth q)] [5] 85 [pth q] 8 (((1:Nat)≠0)/\(1+1<=5/\1<5)/\·) ⟨dc,dc,?_⟩)
 have hpx:=pthS_len q
 refine PE.use (pthT_ok q om) ?_
 refine Kq (p:=(((1+1<=5/\1<5)/\(AV.int .i64 t.mode=(.i t.mode:AV)))/\True)) ⟨⟨dc,rfl⟩,trivial⟩ ?_
 refine qBc1 3 [(10,.str (([100,105,114,32]++(pthS q))++[32])),(9,.str ([100,105,114,32]++(pthS q)))] [] 86 [.i t.mode] 13 (([100,105,114,32].length+(pthS q).length<=9223372036854775807)/\(([100,105,114,32]++(pthS q)).length+[32].length<=9223372036854775807)/\·) ⟨(by simp only[List.length_cons,List.length_nil];omega),(by first|omega|(simp only[List.length_append,List.length_cons,List.length_nil];omega)),?_⟩
 have hd6:=dec_len t.mode om om
 refine PE.use (itoa_ok t.mode om om) ?_
 refine Kq (p:=(True)) trivial ?_
 refine qFn1 [] [(4,.str (((([100,105,114,32]++(pthS q))++[32])++(dec t.mode))++[10]))] (((([100,105,114,32]++(pthS q))++[32]).length+(dec t.mode).length<=9223372036854775807)/\(((([100,105,114,32]++(pthS q))++[32])++(dec t.mode)).length+[10].length<=9223372036854775807)/\·) ⟨(by first|omega|(simp only[List.length_append,List.length_cons,List.length_nil];omega)),(by first|omega|(simp only[List.length_append,List.length_cons,List.length_nil];omega)),Rt (.str (((([100,105,114,32]++(pthS q))++[32])++(dec t.mode))++[10])) (fin_lea ?_)⟩
 rw[show linS (pthS q) t=(((([100,105,114,32]++(pthS q))++[32])++(dec t.mode))++[10]) by unfold linS;rw[hc4];simp only[cond_true,cond_false,List.append_assoc]];exact lea_refl _
 refine Sk (Jn (hK2 (Kp [1,2] (Qr [0,1,3,7,0,16,51,127,255,0,512,1651,4095,8191,16383] [(0,[]),(4,[]),(5,[]),(9,[]),(10,[]),(1,[5,10]),(2,[]),(3,[]),(6,[10]),(7,[]),(8,[]),(11,[]),(12,[]),(13,[]),(14,[])] (qBc1 6 [(26,.str t.data),(25,.ptr 0 2),(21,.i t.mode),(20,.ptr 0 1),(16,pth q)] [5,10] 85 [pth q] 17 (((1:Nat)≠0)/\(1+1<=5/\1<5)/\((1:Nat)≠0)/\(2+1<=5/\2<5)/\·) ⟨dc,dc,dc,dc,?_⟩)))))
 have hpx:=pthS_len q
 refine PE.use (pthT_ok q om) ?_
 refine Kq (p:=(((1+1<=5/\1<5)/\(AV.int .i64 t.mode=(.i t.mode:AV)))/\((2+1<=5/\2<5)/\(AV.str t.data=(.str t.data:AV)))/\True)) ⟨⟨dc,rfl⟩,⟨dc,rfl⟩,trivial⟩ ?_
 refine qBc1 3 [(19,.str (([102,105,108,101,32]++(pthS q))++[32])),(18,.str ([102,105,108,101,32]++(pthS q)))] [10] 86 [.i t.mode] 22 (([102,105,108,101,32].length+(pthS q).length<=9223372036854775807)/\(([102,105,108,101,32]++(pthS q)).length+[32].length<=9223372036854775807)/\·) ⟨(by simp only[List.length_cons,List.length_nil];omega),(by first|omega|(simp only[List.length_append,List.length_cons,List.length_nil];omega)),?_⟩
 have hd8:=dec_len t.mode om om
 refine PE.use (itoa_ok t.mode om om) ?_
 refine Kq (p:=(((2+1<=5/\2<5)/\(AV.str t.data=(.str t.data:AV)))/\True)) ⟨⟨dc,rfl⟩,trivial⟩ ?_
 refine qBc1 3 [(24,.str (((([102,105,108,101,32]++(pthS q))++[32])++(dec t.mode))++[32])),(23,.str ((([102,105,108,101,32]++(pthS q))++[32])++(dec t.mode)))] [] 87 [.str t.data] 27 (((([102,105,108,101,32]++(pthS q))++[32]).length+(dec t.mode).length<=9223372036854775807)/\(((([102,105,108,101,32]++(pthS q))++[32])++(dec t.mode)).length+[32].length<=9223372036854775807)/\·) ⟨(by first|omega|(simp only[List.length_append,List.length_cons,List.length_nil];omega)),(by first|omega|(simp only[List.length_append,List.length_cons,List.length_nil];omega)),?_⟩
 refine PE.use (datT_ok t.data om) ?_
 refine Kq (p:=(True)) trivial ?_
 refine qFn1 [] [(4,.str (((((([102,105,108,101,32]++(pthS q))++[32])++(dec t.mode))++[32])++(datS t.data))++[10]))] (fun Z=>((((([102,105,108,101,32]++(pthS q))++[32])++(dec t.mode))++[32]).length+(datS t.data).length<=9223372036854775807)/\(((((([102,105,108,101,32]++(pthS q))++[32])++(dec t.mode))++[32])++(datS t.data)).length+[10].length<=9223372036854775807)/\Z) ⟨(by first|omega|(simp only[List.length_append,List.length_cons,List.length_nil];omega)),(by first|omega|(simp only[List.length_append,List.length_cons,List.length_nil];omega)),Rt (.str (((((([102,105,108,101,32]++(pthS q))++[32])++(dec t.mode))++[32])++(datS t.data))++[10])) (fin_lea ?_)⟩
 rw[show linS (pthS q) t=(((((([102,105,108,101,32]++(pthS q))++[32])++(dec t.mode))++[32])++(datS t.data))++[10]) by unfold linS;rw[hc4];simp only[cond_true,cond_false,List.append_assoc]];exact lea_refl _
theorem l1Line_ok (p:Str) (t:Tr) (h0:0<=t.mode) (h7:t.mode<=7) (hd:t.data.length<2^39) (hq:p.length<2^40):PE G 40 [.str p,.agg (tcs t)] (.str (linS p t)):=by
 have hdx:=datS_len t.data;have hmx:=dec_len t.mode om om
 refine Pe Tryz.func40 ?_
 refine Rr (Fn2 [0] [(3,.ptr 0 0)] ([(0,tcs t)]++·) 4 (Sq fun K2 hK2=>?_))
 refine Rr (Cn1 t.dir [0,3] [] (((1:Nat)≠0)/\(0+1<=5/\0<5)/\·) ⟨dc,dc,fun hc4 c4=>?_,fun hc4 c4=>?_⟩)
 refine Rr (Bc1 6 [(11,.i t.mode),(10,.ptr 0 1),(9,.str (([100,105,114,32]++p)++[32])),(8,.str ([100,105,114,32]++p)),(7,.str p)] 58 [.i t.mode] 12 (([100,105,114,32].length+p.length<=9223372036854775807)/\(([100,105,114,32]++p).length+[32].length<=9223372036854775807)/\((1:Nat)≠0)/\(1+1<=5/\1<5)/\·) ⟨(by simp only[List.length_cons,List.length_nil];omega),(by first|omega|(simp only[List.length_append,List.length_cons,List.length_nil];omega)),dc,dc,?_⟩)
 have hd6:=dec_len t.mode om om
 refine PE.use (l1Dec_ok _ t.mode rfl om om) ?_
 refine Ke (Fn1 [] [(4,.str (((([100,105,114,32]++p)++[32])++(dec t.mode))++[10]))] (((([100,105,114,32]++p)++[32]).length+(dec t.mode).length<=9223372036854775807)/\(((([100,105,114,32]++p)++[32])++(dec t.mode)).length+[10].length<=9223372036854775807)/\·) ⟨(by first|omega|(simp only[List.length_append,List.length_cons,List.length_nil];omega)),(by first|omega|(simp only[List.length_append,List.length_cons,List.length_nil];omega)),Rt (.str (((([100,105,114,32]++p)++[32])++(dec t.mode))++[10])) (fin_lea ?_)⟩)
 rw[show linS p t=(((([100,105,114,32]++p)++[32])++(dec t.mode))++[10]) by unfold linS;rw[hc4];simp only[cond_true,cond_false,List.append_assoc]];exact lea_refl _
 refine Sk (Jn (hK2 (Kp [0,3] (Qr [0,1,3,0,8,24,63,127,0,256,824,2047,4095,8191] [(0,[]),(1,[]),(2,[]),(3,[]),(4,[]),(8,[]),(9,[]),(5,[9]),(6,[]),(7,[]),(10,[]),(11,[]),(12,[]),(13,[])] (qBc1 8 [(24,.str t.data),(23,.ptr 0 2),(19,.i t.mode),(18,.ptr 0 1),(17,.str (([102,105,108,101,32]++p)++[32])),(16,.str ([102,105,108,101,32]++p)),(15,.str p)] [9] 58 [.i t.mode] 20 (([102,105,108,101,32].length+p.length<=9223372036854775807)/\(([102,105,108,101,32]++p).length+[32].length<=9223372036854775807)/\((1:Nat)≠0)/\(1+1<=5/\1<5)/\((1:Nat)≠0)/\(2+1<=5/\2<5)/\·) ⟨(by simp only[List.length_cons,List.length_nil];omega),(by first|omega|(simp only[List.length_append,List.length_cons,List.length_nil];omega)),dc,dc,dc,dc,?_⟩)))))
 have hd8:=dec_len t.mode om om
 refine PE.use (l1Dec_ok _ t.mode rfl om om) ?_
 refine Kq (p:=(((2+1<=5/\2<5)/\(AV.str t.data=(.str t.data:AV)))/\True)) ⟨⟨dc,rfl⟩,trivial⟩ ?_
 refine qBc1 3 [(22,.str (((([102,105,108,101,32]++p)++[32])++(dec t.mode))++[32])),(21,.str ((([102,105,108,101,32]++p)++[32])++(dec t.mode)))] [] 68 [.str t.data] 25 (((([102,105,108,101,32]++p)++[32]).length+(dec t.mode).length<=9223372036854775807)/\(((([102,105,108,101,32]++p)++[32])++(dec t.mode)).length+[32].length<=9223372036854775807)/\·) ⟨(by first|omega|(simp only[List.length_append,List.length_cons,List.length_nil];omega)),(by first|omega|(simp only[List.length_append,List.length_cons,List.length_nil];omega)),?_⟩
 refine PE.use (l1Hex_ok t.data om) ?_
 refine Kq (p:=(True)) trivial ?_
 refine qFn1 [] [(4,.str (((((([102,105,108,101,32]++p)++[32])++(dec t.mode))++[32])++(datS t.data))++[10]))] (fun Z=>((((([102,105,108,101,32]++p)++[32])++(dec t.mode))++[32]).length+(datS t.data).length<=9223372036854775807)/\(((((([102,105,108,101,32]++p)++[32])++(dec t.mode))++[32])++(datS t.data)).length+[10].length<=9223372036854775807)/\Z) ⟨(by first|omega|(simp only[List.length_append,List.length_cons,List.length_nil];omega)),(by first|omega|(simp only[List.length_append,List.length_cons,List.length_nil];omega)),Rt (.str (((((([102,105,108,101,32]++p)++[32])++(dec t.mode))++[32])++(datS t.data))++[10])) (fin_lea ?_)⟩
 rw[show linS p t=(((((([102,105,108,101,32]++p)++[32])++(dec t.mode))++[32])++(datS t.data))++[10]) by unfold linS;rw[hc4];simp only[cond_true,cond_false,List.append_assoc]];exact lea_refl _
open Go Go.Proofs
set_option maxRecDepth 100000
theorem linS_len (q:Str) (t:Tr):(linS q t).length<=40+q.length+2*t.data.length\/¬(0<=t.mode/\t.mode<=7):=by
  by_cases hm:0<=t.mode/\t.mode<=7
  · left
    have h1:=dec_len t.mode om om
    have h2:=datS_len t.data
    unfold linS
    cases t.dir<;>simp only[cond_true,cond_false,List.length_append,List.length_cons,List.length_nil]<;>omega
  · exact .inr hm
theorem linS_pos (q:Str) (t:Tr):0<(linS q t).length:=by
  unfold linS
  cases t.dir<;>simp only[cond_true,cond_false,List.length_append,List.length_cons,List.length_nil]<;>omega
theorem sc1_ok (q:List Str) (t:Tr) (X:Str) (h0:0<=t.mode) (h7:t.mode<=7) (hd:t.data.length<2^38) (hq:wS q<2^37) (hX:X.length<2^45):TCw 1 G 63 [pth q,.agg (tcs t),.pat [.tp 0 bT 2]] (hp ([(0,fun g=>[.ptr (g 0) 0,.tsl (g 4) uT (X).length]),(4,fun _=>ints X)]) id) 8 (FQ ([(0,fun g=>[.ptr (g 0) 0,.tsl (g 8) uT (X++linS (pthS q) t).length]),(8,fun _=>ints (X++linS (pthS q) t))]) 8 (fun _=>True)):=by
 have hpq:=wS_len q
 refine TCw_enter (c:=bd Tryz.f63) Tryz.func63 kr kr (tt_eq (F:=[(0,pth q),(1,.agg (tcs t)),(2,.pat [.tp 0 bT 2])]) kr ?_)
 refine Rr (Fn2 [0,2] [(4,.ptr 8 0)] ([(8,tcs t)]++·) 12 (Qn [0,0,0,6,15] [(0,[]),(1,[]),(2,[]),(3,[0]),(4,[])] (qBc1 4 [(7,pth q),(6,.agg (tcs t)),(5,.tp 0 bT 2)] [0] 65 [.agg (tcs t),pth q] 8 ((1<=1/\0<1)/\(0+5<=5/\0<5)/\·) ⟨dc,dc,?_⟩)))
 have hll:=(linS_len (pthS q) t).resolve_right (fun h=>h ⟨h0,h7⟩);have hl0:=linS_pos (pthS q) t;have hlp:=pthS_len q
 refine PE.use (line_ok t q h0 h7 om om) ?_
 refine Kq (p:=(((1<=1/\0<1)/\(AV.tp 0 bT 2=(.tp 0 bT 2:AV)))/\True)) ⟨⟨dc,rfl⟩,trivial⟩ ?_
 refine qBc0 1 [] [] 64 [.tp 0 bT 2,.str (linS (pthS q) t)] 9 ?_
 refine tc_untp (args':=[.ptr 0 0,.str (linS (pthS q) t)]) kr ?_
 refine FX.use [(0,0),(4,4)] [0,4] [(8,tcs t)] [(0,[.ptr 0 0,.tsl 12 uT ((X++(linS (pthS q) t)).length)]),(12,ints (X++(linS (pthS q) t))),(8,tcs t)] 16 (ws_used X (linS (pthS q) t) om) kr kr kr kr kr fun rr2 _=>?_
 refine Kq (p:=(True)) trivial ?_
 refine qGn0 [] (nk_n (Rtn (fun Z=>Z) (.tup []) ?_))
 exact⟨_,List.Sublist.refl _,fx_end (.tup []) [(8,12)] [0,12] (HCx.refl _) ⟨lea_refl _,rfl,trivial⟩ kr kr⟩
theorem sc_used (q:List Str) (t:Tr) (X:Str) (h0:0<=t.mode) (h7:t.mode<=7) (hd:t.data.length<2^38) (hq:wS q<2^37) (hX:X.length<2^45):FX G 63 (fun g=>[pth q,.agg (tcs t),.pat [.tp (g 0) bT 2]]) [(0,fun g=>[.ptr (g 0) 0,.tsl (g 4) uT (X).length]),(4,fun _=>ints X)] [(0,fun g=>[.ptr (g 0) 0,.tsl (g 8) uT (X++linS (pthS q) t).length]),(8,fun _=>ints (X++linS (pthS q) t))] 8 12 fun _=>True:=
  FX_mk 1 kr kr kr (ntl_cons (ntl_pur (by simp only[purs,purs_pth,Bool.and_self])) (ntl_cons (ntl_pur (by simp only[purs,pur,go_sem,Bool.and_self])) ntl_patp)) (by intro p hp;simp only[List.mem_cons,List.not_mem_nil,or_false]at hp;rcases hp with rfl|rfl<;>first|exact ntl_pur (purs_ints _)|exact ntl_cons ntl_ptr ntl_tsl) (by intro p hp;simp only[List.mem_cons,List.not_mem_nil,or_false]at hp;rcases hp with rfl|rfl<;>first|exact ntl_pur (purs_ints _)|exact ntl_cons ntl_ptr ntl_tsl) (sc1_ok q t X h0 h7 hd hq hX)
theorem sf1_ok (q:List Str) (t:Tr) (h0:0<=t.mode) (h7:t.mode<=7) (hd:t.data.length<2^38) (hq:wS q<2^37):TCw 1 G 63 [pth q,.agg (tcs t),.pat [.tp 0 bT 2]] (hp ([(0,fun _=>[.nilp,.nils])]) id) 4 (FQ ([(0,fun g=>[.ptr (g 0) 0,.tsl (g 4) uT (linS (pthS q) t).length]),(4,fun _=>ints (linS (pthS q) t))]) 4 (fun _=>True)):=by
 have hpq:=wS_len q
 refine TCw_enter (c:=bd Tryz.f63) Tryz.func63 kr kr (tt_eq (F:=[(0,pth q),(1,.agg (tcs t)),(2,.pat [.tp 0 bT 2])]) kr ?_)
 refine Rr (Fn2 [0,2] [(4,.ptr 4 0)] ([(4,tcs t)]++·) 8 (Qn [0,0,0,6,15] [(0,[]),(1,[]),(2,[]),(3,[0]),(4,[])] (qBc1 4 [(7,pth q),(6,.agg (tcs t)),(5,.tp 0 bT 2)] [0] 65 [.agg (tcs t),pth q] 8 ((1<=1/\0<1)/\(0+5<=5/\0<5)/\·) ⟨dc,dc,?_⟩)))
 have hll:=(linS_len (pthS q) t).resolve_right (fun h=>h ⟨h0,h7⟩);have hl0:=linS_pos (pthS q) t;have hlp:=pthS_len q
 refine PE.use (line_ok t q h0 h7 om om) ?_
 refine Kq (p:=(((1<=1/\0<1)/\(AV.tp 0 bT 2=(.tp 0 bT 2:AV)))/\True)) ⟨⟨dc,rfl⟩,trivial⟩ ?_
 refine qBc0 1 [] [] 64 [.tp 0 bT 2,.str (linS (pthS q) t)] 9 ?_
 refine FX.use [(0,0)] [0] [(4,tcs t)] [(0,[.ptr 0 0,.tsl 8 uT ((linS (pthS q) t).length)]),(8,ints (linS (pthS q) t)),(4,tcs t)] 12 (ws_fresh (linS (pthS q) t) om om) kr kr kr kr kr fun rr2 _=>?_
 refine Kq (p:=(True)) trivial ?_
 refine qGn0 [] (nk_n (Rtn (fun Z=>Z) (.tup []) ?_))
 exact⟨_,List.Sublist.refl _,fx_end (.tup []) [(4,8)] [0,8] (HCx.refl _) ⟨lea_refl _,rfl,trivial⟩ kr kr⟩
theorem sc_fresh (q:List Str) (t:Tr) (h0:0<=t.mode) (h7:t.mode<=7) (hd:t.data.length<2^38) (hq:wS q<2^37):FX G 63 (fun g=>[pth q,.agg (tcs t),.pat [.tp (g 0) bT 2]]) [(0,fun _=>[.nilp,.nils])] [(0,fun g=>[.ptr (g 0) 0,.tsl (g 4) uT (linS (pthS q) t).length]),(4,fun _=>ints (linS (pthS q) t))] 4 8 fun _=>True:=
  FX_mk 1 kr kr kr (ntl_cons (ntl_pur (by simp only[purs,purs_pth,Bool.and_self])) (ntl_cons (ntl_pur (by simp only[purs,pur,go_sem,Bool.and_self])) ntl_patp)) (by intro p hp;simp only[List.mem_cons,List.not_mem_nil,or_false]at hp;subst hp;exact ntl_pur rfl) (by intro p hp;simp only[List.mem_cons,List.not_mem_nil,or_false]at hp;rcases hp with rfl|rfl<;>first|exact ntl_pur (purs_ints _)|exact ntl_cons ntl_ptr ntl_tsl) (sf1_ok q t h0 h7 hd hq)
open Go Go.Proofs
set_option maxRecDepth 100000
mutual
def shwT:List Str->Tr->Str
  |q,.mk d m s ns ks=>linS (pthS q) (.mk d m s ns ks)++shwK q ns ks
def shwK:List Str->List Str->List Tr->Str
  |q,n::ns,k::ks=>shwT (q++[n]) k++shwK q ns ks
  |_,[],_=>[]
  |_,_,[]=>[]
end
theorem shwT_eq (q:List Str) (t:Tr):shwT q t=linS (pthS q) t++shwK q t.names t.kids:=by cases t;rw[shwT];rfl
theorem shwK_nil (q:List Str):shwK q [] []=[]:=by simp[shwK]
theorem shwK_snoc (p:List Str) (n:Str) (k:Tr):∀(ns:List Str) (ks:List Tr),ns.length=ks.length->shwK p (ns++[n]) (ks++[k])=shwK p ns ks++shwT (p++[n]) k
  |[],[],_=>by simp[shwK]
  |m::ns,l::ks,h=>by
    simp only[List.cons_append,shwK]
    rw[shwK_snoc p n k ns ks (by simpa using h),List.append_assoc]
  |[],_::_,h=>by simp at h
  |_::_,[],h=>by simp at h
theorem shwK_take (p:List Str) (t:Tr) (k:Nat) (h:k<t.names.length) (h2:t.names.length=t.kids.length):shwK p (t.names.take (k+1)) (t.kids.take (k+1))=shwK p (t.names.take k) (t.kids.take k)++shwT (p++[t.names.getD k default]) (t.kids.getD k default):=by
  rw[take_snoc t.names k default h,take_snoc t.kids k default om,shwK_snoc _ _ _ _ _ (by rw[List.length_take,List.length_take,h2])]
def wfT (t:Tr):Prop:=∃n,partsOk t n=true
theorem wfT_plain {t:Tr} (h:wfT t):plainOk t=true/\∀k∈t.kids,wfT k:=by
  obtain⟨n,h⟩:=h
  rw[partsOk_eq]at h
  simp only[Bool.and_eq_true,List.all_eq_true]at h
  exact⟨h.1,fun k hk=>⟨n+1,h.2.2 k hk⟩⟩
theorem wfT_lenS {t:Tr} (h:wfT t):t.names.length=t.kids.length:=by
  have h:=(wfT_plain h).1
  simp only[plainOk,Bool.and_eq_true,decide_eq_true_eq]at h
  exact h.2.1
theorem wfT_mode {t:Tr} (h:wfT t):0<=t.mode/\t.mode<=7:=by
  have h:=(wfT_plain h).1
  simp only[plainOk,inb,Bool.and_eq_true,decide_eq_true_eq]at h
  exact h.1
theorem wfT_kidS {t:Tr} (h:wfT t) {k:Nat} (hk:k<t.kids.length):wfT (t.kids.getD k default):=(wfT_plain h).2 _ (getD_mem t.kids k default hk)
theorem treeOk_wfS {t:Tr} (h:treeOk t=true):wfT t:=by
  unfold treeOk at h;simp only[Bool.and_eq_true]at h;exact⟨0,h.2.1⟩
theorem pwS_snocS (p:List Str) (n:Str):wS (p++[n])=wS p+n.length+1:=by
  induction p with
  |nil=>simp[wS]
  |cons a p ih=>simp only[List.cons_append,wS,ih];omega
theorem wfT_cnt (t:Tr) (k:Nat) (h:k<t.kids.length):cnts (t.kids.take k)+1+cnt (t.kids.getD k default)<=cnt t:=by
  have:=cnts_take_le t.kids (k+1)
  rw[take_snoc t.kids k default h,cnts_snoc]at this
  rw[cnt_eq t];exact this
mutual
theorem shwT_len (M:Nat):∀(q:List Str) (t:Tr),wfT t->wS q+t.W<=M->(shwT q t).length<=(cnt t+1)*(41+2*M)
  |q,.mk d m s ns ks,h,hw=>by
    have hm:=wfT_mode h
    have h1:=(linS_len (pthS q) (.mk d m s ns ks)).resolve_right (fun k=>k hm)
    have h2:=pthS_len q
    have h3:=shwK_lenA M q ns ks (fun k hk=>(wfT_plain h).2 k hk) (by simp only[Tr.W]at hw;omega)
    have h4:=data_W (.mk d m s ns ks)
    rw[shwT,List.length_append,cnt,Nat.add_mul,Nat.one_mul]
    omega
theorem shwK_lenA (M:Nat):∀(q ns:List Str) (ks:List Tr),(∀k∈ks,wfT k)->wS q+wS ns+Tr.Ws ks<=M->(shwK q ns ks).length<=cnts ks*(41+2*M)
  |q,n::ns,k::ks,h,hw=>by
    simp only[wS,Tr.Ws]at hw
    have e:=pwS_snocS q n
    have h1:=shwT_len M (q++[n]) k (h k (by simp)) om
    have h2:=shwK_lenA M q ns ks (fun x hx=>h x (by simp[hx])) om
    rw[shwK,List.length_append,cnts]
    have:(1+cnt k+cnts ks)*(41+2*M)=(cnt k+1)*(41+2*M)+cnts ks*(41+2*M):=by rw[<-Nat.add_mul];congr 1;omega
    omega
  |_,[],_,_,_=>by simp[shwK]
  |_,_::_,[],_,_=>by simp[shwK]
end
theorem Ws_takeS:∀(ks:List Tr) (k:Nat),Tr.Ws (ks.take k)<=Tr.Ws ks
  |[],k=>by simp[Tr.Ws]
  |t::ks,0=>by simp[Tr.Ws]
  |t::ks,k+1=>by have:=Ws_takeS ks k;simp only[List.take_succ_cons,Tr.Ws];omega
theorem shwK_len (M:Nat) (q:List Str) (t:Tr) (k:Nat) (h:wfT t) (hw:wS q+t.W<=M) (hk:k<=t.kids.length):(shwK q (t.names.take k) (t.kids.take k)).length<=cnts (t.kids.take k)*(41+2*M):=by
  refine shwK_lenA M q _ _ (fun x hx=>(wfT_plain h).2 x (List.mem_of_mem_take hx)) ?_
  have h1:=wS_take t.names k
  have h2:=Ws_takeS t.kids k
  have:=W_eq t
  omega
theorem eu_mk (q:List Str) (t:Tr) (X:Str) (h:TCw 1 G 37 [.agg (tcs t),pth q,.fn (.func 63) [.pat [.tp 0 bT 2]]] (hp ([(0,fun g=>[.ptr (g 0) 0,.tsl (g 4) uT (X).length]),(4,fun _=>ints X)]) id) 8 (FQ ([(0,fun g=>[.ptr (g 0) 0,.tsl (g 8) uT (X++shwT q t).length]),(8,fun _=>ints (X++shwT q t))]) 8 (fun _=>True))):FX G 37 (fun g=>[.agg (tcs t),pth q,.fn (.func 63) [.pat [.tp (g 0) bT 2]]]) [(0,fun g=>[.ptr (g 0) 0,.tsl (g 4) uT (X).length]),(4,fun _=>ints X)] [(0,fun g=>[.ptr (g 0) 0,.tsl (g 8) uT (X++shwT q t).length]),(8,fun _=>ints (X++shwT q t))] 8 12 fun _=>True:=
  FX_mk 1 kr kr kr (ntl_cons (ntl_pur (by simp only[purs,pur,go_sem,Bool.and_self])) (ntl_cons (ntl_pur (by simp only[purs,purs_pth,Bool.and_self])) (ntl_fn ntl_patp))) (by intro p hp;simp only[List.mem_cons,List.not_mem_nil,or_false]at hp;rcases hp with rfl|rfl<;>first|exact ntl_pur (purs_ints _)|exact ntl_cons ntl_ptr ntl_tsl) (by intro p hp;simp only[List.mem_cons,List.not_mem_nil,or_false]at hp;rcases hp with rfl|rfl<;>first|exact ntl_pur (purs_ints _)|exact ntl_cons ntl_ptr ntl_tsl) h
theorem below_ok (p:List Str) (n:Str) (hp:p.length<2^41):PE G 67 [pth p,.str n] (pth (p++[n])):=by
 refine Pe Tryz.func67 ?_
 refine Rr (Fn0 [0,1] [] (Rr (An3 3 [(7,.osl 4 1 0 (0+(p.map (fun s=>[AV.str s])).length)),(6,pth p),(5,.osl 0 1 0 0)] ([(4,apd [] (0*1) ((p.map (fun s=>[AV.str s])).flatten))]++·) 8 ((0*1<=16777216)/\True/\(1=1/\0*1<=0/\0<16/\(0+(p.map (fun s=>[AV.str s])).length)*16<=140737488355328)/\·) ⟨dc,trivial,⟨rfl,gl,dc,gl⟩,run_v (v':=.osl 4 1 0 p.length) (by rw[Nat.zero_add,List.length_map]) ?_⟩)))
 refine run_h (cs':=fl sc p) (app0_str _) ?_
 refine An3 3 [(10,.osl 12 1 0 (p.length+1)),(9,.osl 8 1 0 1),(8,.str n)] (fun _=>[(12,apd (fl sc p) (p.length*1) [.str n]),(8,[.str n])]) 16 ((1*1<=16777216)/\(0+1*1<=1)/\(1=1/\p.length*1<=(fl sc p).length/\0<16/\(p.length+1)*16<=140737488355328)/\·) ⟨dc,dc,⟨rfl,gl,dc,gl⟩,run_v (v':=.osl 12 1 0 ((p++[n]).length)) (push_len _ _ _ _) (run_h (cs':=fl sc (p++[n])) (push_str p n) (Fn0 [] [(4,.osl 12 1 0 ((p++[n]).length))] (FzS 12 (p++[n]) [(4,.osl 12 1 0 ((p++[n]).length))] [] [] ?_)))⟩
 refine Rt (pth (p++[n])) ?_
 exact fin_lea (lea_refl _)
theorem eu1_ok (M:Nat) (hM:M<2^36):∀(N:Nat) (q:List Str) (t:Tr) (X:Str),t.W=N->wfT t->wS q+t.W<=M->X.length+(cnt t+1)*(41+2*M)<2^45->TCw 1 G 37 [.agg (tcs t),pth q,.fn (.func 63) [.pat [.tp 0 bT 2]]] (hp ([(0,fun g=>[.ptr (g 0) 0,.tsl (g 4) uT (X).length]),(4,fun _=>ints X)]) id) 8 (FQ ([(0,fun g=>[.ptr (g 0) 0,.tsl (g 8) uT (X++shwT q t).length]),(8,fun _=>ints (X++shwT q t))]) 8 (fun _=>True)):=by
 intro N;refine Nat.strongRecOn N fun N ih=>?_;intro q t X hN hwf hw hR;have hWe:=W_eq t;have hpl:=wS_len q;have hks:=Ws_len t.kids;have hns:=wS_len t.names;have hkn:=wfT_lenS hwf;have hm:=wfT_mode hwf;have hll:=(linS_len (pthS q) t).resolve_right (fun h=>h hm);have hlp:=pthS_len q;have hx1:(cnt t+1)*(41+2*M)=cnt t*(41+2*M)+(41+2*M):=by rw[Nat.add_mul,Nat.one_mul]
 refine TCw_enter (c:=bd Tryz.f37) Tryz.func37 kr kr (tt_eq (F:=[(0,.agg (tcs t)),(1,pth q),(2,.fn (.func 63) [.pat [.tp 0 bT 2]])]) kr ?_)
 refine Rr (Fn2 [1,2] [(3,.ptr 8 0)] ([(8,tcs t)]++·) 12 (Rr (Bc1 4 [(10,.agg (tcs t)),(9,pth q),(8,.fn (.func 63) [.pat [.tp 0 bT 2]])] 63 [pth q,.agg (tcs t),.pat [.tp 0 bT 2]] 11 ((0+5<=5/\0<5)/\·) ⟨dc,FX.use [(0,0),(4,4)] [0,4] [(8,tcs t)] [(0,[.ptr 0 0,.tsl 12 uT ((X++linS (pthS q) t).length)]),(12,ints (X++linS (pthS q) t)),(8,tcs t)] 16 (sc_used q t X hm.1 hm.2 om om om) kr kr kr kr kr fun rr3 _=>?_⟩)))
 refine Ke (Fn0 [1,2,3] [] (Rr (Av1 3 14 [(13,pth t.names),(12,.ptr 8 3)] (lnm t.names sc) (((1:Nat)≠0)/\(3+1<=5/\3<5)/\·) ⟨dc,dc,Fn0 [1,2,3,13,14] [(15,.i 0)] ?_⟩)))
 refine Bl (h_l (fun(k:Nat)=>([(1,pth q),(2,.fn (.func 63) [.pat [.tp 0 bT 2]]),(3,.ptr 8 0),(13,pth t.names),(14,.i t.names.length),(15,.i k)]:Fr)) (fun(k:Nat)=>([(0,[.ptr 0 0,.tsl 12 uT ((X++linS (pthS q) t++shwK q (t.names.take k) (t.kids.take k)).length)]),(12,ints (X++linS (pthS q) t++shwK q (t.names.take k) (t.kids.take k))),(8,tcs t)]:Hp)) (fun(k:Nat) cn=>(k<=t.names.length)/\cn=16) (fun(k:Nat)=>t.names.length-k) 0 kr ?_ ?_ ?_ ?_)
 refine⟨?_,rfl⟩;exact Nat.zero_le _
 exact⟨kr,kr,kr,kr,kr,kr,trivial⟩
 exact(sub_c (by rw[List.take_zero,List.take_zero,shwK_nil,List.append_nil]) (sub_c (by rw[List.take_zero,List.take_zero,shwK_nil,List.append_nil]) (sub_c kr (List.nil_sublist _))))
 rintro k n1 hI
 (try dsimp only at hI)
 obtain⟨hi1,rfl⟩:=hI
 refine Rr (Fn1 [1,2,3,13,14,15] [(16,.bool (decide ((k:Int)<(t.names.length:Int))))] (Ki/\·) ⟨rfl,Sq fun K6 hK6=>?_⟩)
 refine Cc (decide ((k:Int)<(t.names.length:Int))) (fun hc7 c7=>?_) fun hc7 c7=>?_
 refine Sk (Jn (hK6 (Kp [1,2,3,13,14,15] (Sq fun K8 hK8=>?_))))
 refine Bl (Rr (Av1 2 18 [(17,.i k)] (congrArg AV.pat (mg_str t.names k om)) ((1=1/\(0:Int)<=(k:Int)/\(k:Int)<((t.names.map (fun s=>[AV.str s])).length:Int))/\·) ⟨⟨rfl,om,lmo⟩,Fn1 [1,2,3,13,14,15] [(7,.str (t.names.getD k default)),(6,.i k)] ((1<=1/\0<1)/\·) ⟨dc,?_⟩⟩))
 have hc1:=shwK_len M q t k hwf om om
 refine Qb [0,1,0,7,15,0,0,96,0,511] [(0,[]),(1,[]),(2,[]),(3,[]),(4,[]),(5,[]),(6,[]),(8,[]),(7,[1,4]),(9,[])] (fun h=>Bn (Jn (hK8 h))) (qAv1 4 23 [(22,.i k),(21,.sl 5 (t.kids.map trc)),(20,.ptr 8 4)] (congrArg AV.pat (mg_trc t.kids k om)) (((1:Nat)≠0)/\(4+1<=5/\4<5)/\(5=5/\(0:Int)<=(k:Int)/\(k:Int)<((t.kids.map trc).length:Int))/\·) ⟨dc,dc,⟨rfl,om,lmo⟩,qBc1 5 [(28,.fn (.func 63) [.pat [.tp 0 bT 2]]),(26,.str (t.names.getD k default)),(25,pth q),(24,.agg (tcs (t.kids.getD k default)))] [1,4] 67 [pth q,.str (t.names.getD k default)] 27 ((5<=5/\0<5)/\·) ⟨dc,PE.use (below_ok q (t.names.getD k default) om) (Kq (p:=(((4+1<=5/\4<5)/\(AV.sl 5 (t.kids.map trc)=(.sl 5 (t.kids.map trc):AV)))/\((5<=5/\0<5)/\(AV.agg (tcs (t.kids.getD k default))=(.agg (tcs (t.kids.getD k default)):AV)))/\True)) ⟨⟨dc,rfl⟩,⟨dc,rfl⟩,trivial⟩ ?_)⟩⟩)
 refine qBc0 1 [] [] 37 [.agg (tcs (t.kids.getD k default)),pth (q++[t.names.getD k default]),.fn (.func 63) [.pat [.tp 0 bT 2]]] 29 ?_
 have hW:=Ws_get t.kids k om
 have hSn:=wS_get t.names k om
 have hSs:=pwS_snocS q (t.names.getD k default)
 have hc8:=wfT_cnt t k om
 have hc9:=Nat.mul_le_mul_right (41+2*M) hc8
 rw[Nat.add_mul,Nat.add_mul,Nat.one_mul]at hc9
 have hcA:(cnt (t.kids.getD k default)+1)*(41+2*M)=cnt (t.kids.getD k default)*(41+2*M)+(41+2*M):=by rw[Nat.add_mul,Nat.one_mul]
 refine FX.use [(0,0),(4,12)] [0,12] [(8,tcs t)] [(0,[.ptr 0 0,.tsl 16 uT ((X++linS (pthS q) t++shwK q (t.names.take k) (t.kids.take k)++shwT (q++[t.names.getD k default]) (t.kids.getD k default)).length)]),(16,ints (X++linS (pthS q) t++shwK q (t.names.take k) (t.kids.take k)++shwT (q++[t.names.getD k default]) (t.kids.getD k default))),(8,tcs t)] 20 (eu_mk (q++[t.names.getD k default]) (t.kids.getD k default) (X++linS (pthS q) t++shwK q (t.names.take k) (t.kids.take k)) (ih _ om (q++[t.names.getD k default]) (t.kids.getD k default) (X++linS (pthS q) t++shwK q (t.names.take k) (t.kids.take k)) rfl (wfT_kidS hwf om) om (by simp only[List.length_append];omega))) kr kr kr kr kr fun rr10 _=>?_
 refine Kq (p:=(True)) trivial ?_
 refine qFn0 [1,2,3,13,14,15] [] (Rn (Av1 1 30 [] (cI (wn1 k om)) (Ki/\·) ⟨rfl,Gn0 [(15,.i ((k+1:Nat):Int))] (nk_n ?_)⟩))
 refine Lr (k+1) [(0,0),(8,8),(16,12)] 16 [(1,pth q),(2,.fn (.func 63) [.pat [.tp 0 bT 2]]),(3,.ptr 8 0),(13,pth t.names),(14,.i t.names.length),(15,.i ((k+1:Nat):Int))] [(0,[.ptr 0 0,.tsl 16 uT ((X++linS (pthS q) t++shwK q (t.names.take k) (t.kids.take k)++shwT (q++[t.names.getD k default]) (t.kids.getD k default)).length)]),(16,ints (X++linS (pthS q) t++shwK q (t.names.take k) (t.kids.take k)++shwT (q++[t.names.getD k default]) (t.kids.getD k default))),(8,tcs t)] [true,false,true] ?_ ?_ (by(try ((try dsimp only);rw[shwK_take q t k om hkn,<-List.append_assoc]));try kernel_rfl) kr
 (try dsimp only);omega
 refine⟨?_,rfl⟩;(try dsimp only);omega
 refine Xt (Jx (Lx (Bh (Rtn (fun Z=>Z) (.tup []) ?_))))
 have hy:X++linS (pthS q) t++shwK q (t.names.take k) (t.kids.take k)=X++shwT q t:=by rw[List.take_of_length_le om,List.take_of_length_le om,shwT_eq,List.append_assoc]
 exact⟨_,List.Sublist.refl _,fx_end (.tup []) [(8,12)] [0,12] (HCx.refl _) ⟨lea_refl _,rfl,trivial⟩ kr (by rw[<-hy];kernel_rfl)⟩
theorem ef1_ok (q:List Str) (t:Tr) (M:Nat) (hwf:wfT t) (hw:wS q+t.W<=M) (hM:M<2^36) (hR:(cnt t+1)*(41+2*M)<2^45):TCw 1 G 37 [.agg (tcs t),pth q,.fn (.func 63) [.pat [.tp 0 bT 2]]] (hp ([(0,fun _=>[.nilp,.nils])]) id) 4 (FQ ([(0,fun g=>[.ptr (g 0) 0,.tsl (g 4) uT (shwT q t).length]),(4,fun _=>ints (shwT q t))]) 4 (fun _=>True)):=by
 have hWe:=W_eq t;have hpl:=wS_len q;have hks:=Ws_len t.kids;have hns:=wS_len t.names;have hkn:=wfT_lenS hwf;have hm:=wfT_mode hwf;have hll:=(linS_len (pthS q) t).resolve_right (fun h=>h hm);have hlp:=pthS_len q;have hx1:(cnt t+1)*(41+2*M)=cnt t*(41+2*M)+(41+2*M):=by rw[Nat.add_mul,Nat.one_mul]
 refine TCw_enter (c:=bd Tryz.f37) Tryz.func37 kr kr (tt_eq (F:=[(0,.agg (tcs t)),(1,pth q),(2,.fn (.func 63) [.pat [.tp 0 bT 2]])]) kr ?_)
 refine Rr (Fn2 [1,2] [(3,.ptr 4 0)] ([(4,tcs t)]++·) 8 (Rr (Bc1 4 [(10,.agg (tcs t)),(9,pth q),(8,.fn (.func 63) [.pat [.tp 0 bT 2]])] 63 [pth q,.agg (tcs t),.pat [.tp 0 bT 2]] 11 ((0+5<=5/\0<5)/\·) ⟨dc,FX.use [(0,0)] [0] [(4,tcs t)] [(0,[.ptr 0 0,.tsl 8 uT ((linS (pthS q) t).length)]),(8,ints (linS (pthS q) t)),(4,tcs t)] 12 (sc_fresh q t hm.1 hm.2 om om) kr kr kr kr kr fun rr3 _=>?_⟩)))
 refine Ke (Fn0 [1,2,3] [] (Rr (Av1 3 14 [(13,pth t.names),(12,.ptr 4 3)] (lnm t.names sc) (((1:Nat)≠0)/\(3+1<=5/\3<5)/\·) ⟨dc,dc,Fn0 [1,2,3,13,14] [(15,.i 0)] ?_⟩)))
 refine Bl (h_l (fun(k:Nat)=>([(1,pth q),(2,.fn (.func 63) [.pat [.tp 0 bT 2]]),(3,.ptr 4 0),(13,pth t.names),(14,.i t.names.length),(15,.i k)]:Fr)) (fun(k:Nat)=>([(0,[.ptr 0 0,.tsl 8 uT ((linS (pthS q) t++shwK q (t.names.take k) (t.kids.take k)).length)]),(8,ints (linS (pthS q) t++shwK q (t.names.take k) (t.kids.take k))),(4,tcs t)]:Hp)) (fun(k:Nat) cn=>(k<=t.names.length)/\cn=12) (fun(k:Nat)=>t.names.length-k) 0 kr ?_ ?_ ?_ ?_)
 refine⟨?_,rfl⟩;exact Nat.zero_le _
 exact⟨kr,kr,kr,kr,kr,kr,trivial⟩
 exact(sub_c (by rw[List.take_zero,List.take_zero,shwK_nil,List.append_nil]) (sub_c (by rw[List.take_zero,List.take_zero,shwK_nil,List.append_nil]) (sub_c kr (List.nil_sublist _))))
 rintro k n1 hI
 (try dsimp only at hI)
 obtain⟨hi1,rfl⟩:=hI
 refine Rr (Fn1 [1,2,3,13,14,15] [(16,.bool (decide ((k:Int)<(t.names.length:Int))))] (Ki/\·) ⟨rfl,Sq fun K6 hK6=>?_⟩)
 refine Cc (decide ((k:Int)<(t.names.length:Int))) (fun hc7 c7=>?_) fun hc7 c7=>?_
 refine Sk (Jn (hK6 (Kp [1,2,3,13,14,15] (Sq fun K8 hK8=>?_))))
 refine Bl (Rr (Av1 2 18 [(17,.i k)] (congrArg AV.pat (mg_str t.names k om)) ((1=1/\(0:Int)<=(k:Int)/\(k:Int)<((t.names.map (fun s=>[AV.str s])).length:Int))/\·) ⟨⟨rfl,om,lmo⟩,Fn1 [1,2,3,13,14,15] [(7,.str (t.names.getD k default)),(6,.i k)] ((1<=1/\0<1)/\·) ⟨dc,?_⟩⟩))
 have hc1:=shwK_len M q t k hwf om om
 refine Qb [0,1,0,7,15,0,0,96,0,511] [(0,[]),(1,[]),(2,[]),(3,[]),(4,[]),(5,[]),(6,[]),(8,[]),(7,[1,4]),(9,[])] (fun h=>Bn (Jn (hK8 h))) (qAv1 4 23 [(22,.i k),(21,.sl 5 (t.kids.map trc)),(20,.ptr 4 4)] (congrArg AV.pat (mg_trc t.kids k om)) (((1:Nat)≠0)/\(4+1<=5/\4<5)/\(5=5/\(0:Int)<=(k:Int)/\(k:Int)<((t.kids.map trc).length:Int))/\·) ⟨dc,dc,⟨rfl,om,lmo⟩,qBc1 5 [(28,.fn (.func 63) [.pat [.tp 0 bT 2]]),(26,.str (t.names.getD k default)),(25,pth q),(24,.agg (tcs (t.kids.getD k default)))] [1,4] 67 [pth q,.str (t.names.getD k default)] 27 ((5<=5/\0<5)/\·) ⟨dc,PE.use (below_ok q (t.names.getD k default) om) (Kq (p:=(((4+1<=5/\4<5)/\(AV.sl 5 (t.kids.map trc)=(.sl 5 (t.kids.map trc):AV)))/\((5<=5/\0<5)/\(AV.agg (tcs (t.kids.getD k default))=(.agg (tcs (t.kids.getD k default)):AV)))/\True)) ⟨⟨dc,rfl⟩,⟨dc,rfl⟩,trivial⟩ ?_)⟩⟩)
 refine qBc0 1 [] [] 37 [.agg (tcs (t.kids.getD k default)),pth (q++[t.names.getD k default]),.fn (.func 63) [.pat [.tp 0 bT 2]]] 29 ?_
 have hW:=Ws_get t.kids k om
 have hSn:=wS_get t.names k om
 have hSs:=pwS_snocS q (t.names.getD k default)
 have hc8:=wfT_cnt t k om
 have hc9:=Nat.mul_le_mul_right (41+2*M) hc8
 rw[Nat.add_mul,Nat.add_mul,Nat.one_mul]at hc9
 have hcA:(cnt (t.kids.getD k default)+1)*(41+2*M)=cnt (t.kids.getD k default)*(41+2*M)+(41+2*M):=by rw[Nat.add_mul,Nat.one_mul]
 refine FX.use [(0,0),(4,8)] [0,8] [(4,tcs t)] [(0,[.ptr 0 0,.tsl 12 uT ((linS (pthS q) t++shwK q (t.names.take k) (t.kids.take k)++shwT (q++[t.names.getD k default]) (t.kids.getD k default)).length)]),(12,ints (linS (pthS q) t++shwK q (t.names.take k) (t.kids.take k)++shwT (q++[t.names.getD k default]) (t.kids.getD k default))),(4,tcs t)] 16 (eu_mk (q++[t.names.getD k default]) (t.kids.getD k default) (linS (pthS q) t++shwK q (t.names.take k) (t.kids.take k)) (eu1_ok M hM _ (q++[t.names.getD k default]) (t.kids.getD k default) (linS (pthS q) t++shwK q (t.names.take k) (t.kids.take k)) rfl (wfT_kidS hwf om) om (by simp only[List.length_append];omega))) kr kr kr kr kr fun rr10 _=>?_
 refine Kq (p:=(True)) trivial ?_
 refine qFn0 [1,2,3,13,14,15] [] (Rn (Av1 1 30 [] (cI (wn1 k om)) (Ki/\·) ⟨rfl,Gn0 [(15,.i ((k+1:Nat):Int))] (nk_n ?_)⟩))
 refine Lr (k+1) [(0,0),(4,4),(12,8)] 12 [(1,pth q),(2,.fn (.func 63) [.pat [.tp 0 bT 2]]),(3,.ptr 4 0),(13,pth t.names),(14,.i t.names.length),(15,.i ((k+1:Nat):Int))] [(0,[.ptr 0 0,.tsl 12 uT ((linS (pthS q) t++shwK q (t.names.take k) (t.kids.take k)++shwT (q++[t.names.getD k default]) (t.kids.getD k default)).length)]),(12,ints (linS (pthS q) t++shwK q (t.names.take k) (t.kids.take k)++shwT (q++[t.names.getD k default]) (t.kids.getD k default))),(4,tcs t)] [true,false,true] ?_ ?_ (by(try ((try dsimp only);rw[shwK_take q t k om hkn,<-List.append_assoc]));try kernel_rfl) kr
 (try dsimp only);omega
 refine⟨?_,rfl⟩;(try dsimp only);omega
 refine Xt (Jx (Lx (Bh (Rtn (fun Z=>Z) (.tup []) ?_))))
 have hy:linS (pthS q) t++shwK q (t.names.take k) (t.kids.take k)=shwT q t:=by rw[List.take_of_length_le om,List.take_of_length_le om,shwT_eq]
 exact⟨_,List.Sublist.refl _,fx_end (.tup []) [(4,8)] [0,8] (HCx.refl _) ⟨lea_refl _,rfl,trivial⟩ kr (by rw[<-hy];kernel_rfl)⟩
theorem ef_fx (q:List Str) (t:Tr) (M:Nat) (hwf:wfT t) (hw:wS q+t.W<=M) (hM:M<2^36) (hR:(cnt t+1)*(41+2*M)<2^45):FX G 37 (fun g=>[.agg (tcs t),pth q,.fn (.func 63) [.pat [.tp (g 0) bT 2]]]) [(0,fun _=>[.nilp,.nils])] [(0,fun g=>[.ptr (g 0) 0,.tsl (g 4) uT (shwT q t).length]),(4,fun _=>ints (shwT q t))] 4 8 fun _=>True:=
  FX_mk 1 kr kr kr (ntl_cons (ntl_pur (by simp only[purs,pur,go_sem,Bool.and_self])) (ntl_cons (ntl_pur (by simp only[purs,purs_pth,Bool.and_self])) (ntl_fn ntl_patp))) (by intro p hp;simp only[List.mem_cons,List.not_mem_nil,or_false]at hp;subst hp;exact ntl_pur rfl) (by intro p hp;simp only[List.mem_cons,List.not_mem_nil,or_false]at hp;rcases hp with rfl|rfl<;>first|exact ntl_pur (purs_ints _)|exact ntl_cons ntl_ptr ntl_tsl) (ef1_ok q t M hwf hw hM hR)
open Go Go.Proofs
set_option maxRecDepth 100000
theorem bstr_use {H H':Hp} {n b j:Nat} {a0:AV} {rest:List AV} {Q:CPost} (X:Str) (hg:hgt H b=some (a0::.tsl j uT X.length::rest)) (hj:hgt H j=some (ints X)) (hX:X≠[]) (hh:hdel H j=H') (hq:Q (.str X) H' n):TCall G 66 [.ptr b 0] H n Q:=
  (bstr_tc hg hj hX).mono fun r H1 n' _ h=>by obtain⟨rfl,rfl,rfl⟩:=h;rw[hh];exact hq
theorem shwT_ne (q:List Str) (t:Tr):shwT q t≠[]:=fun h=>by
  have:=congrArg List.length h
  rw[shwT_eq,List.length_append,List.length_nil]at this
  have:=linS_pos (pthS q) t
  omega
theorem shw_big (t:Tr) (h:t.W<2^20):(cnt t+1)*(41+2*(wS []+t.W))<2^45:=by
  have h1:=cnt_W t
  have:(cnt t+1)*(41+2*(wS []+t.W))<=2^20*(41+2*2^20):=Nat.mul_le_mul om (by simp only[wS];omega)
  omega
theorem show_ok (t:Tr) (hwf:wfT t) (hw:t.W<2^20):PE G 36 [.agg (tcs t)] (.str (shwT [] t)):=by
 have hbig:=shw_big t hw;have hne:=shwT_ne [] t;have hw0:wS []=0:=rfl
 refine Pe Tryz.func36 ?_
 refine Rr (Fn2 [] [(1,.ptr 0 0)] ([(0,tcs t)]++·) 4 (Rr (Fn3 [1] [(3,.ptr 8 0)] ([(8,[.tp 4 bT 2]),(4,[.nilp,.nils])]++·) 12 ((true=true/\1=1/\0+1<=1)/\·) ⟨dc,Fz 8 1 1 ([[.tp 4 bT 2]]) ([.tp 4 bT 2]) [(1,.ptr 0 0),(3,.ptr 8 0)] [(4,[.nilp,.nils]),(0,tcs t)] [true,true] kr (by first|decide|simp) ?_⟩)))
 refine Rr (Bc1 3 [(7,.fn (.func 63) [.pat [.tp 4 bT 2]]),(6,.agg (tcs t))] 37 [.agg (tcs t),.nils,.fn (.func 63) [.pat [.tp 4 bT 2]]] 8 ((0+5<=5/\0<5)/\·) ⟨dc,TCall_le [.agg (tcs t),pth [],.fn (.func 63) [.pat [.tp 4 bT 2]]] (by simp[lea,leas,pth,Tr.none,tcs,clc]) (FX.use [(0,4)] [4] [(0,tcs t)] [(4,[.ptr 4 0,.tsl 12 uT ((shwT [] t).length)]),(12,ints (shwT [] t)),(0,tcs t)] 16 (ef_fx [] t _ hwf (Nat.le_refl _) om hbig) kr kr kr kr kr fun rr4 _=>(Ke ?_))⟩)
 refine Fn0 [3] [] (Rr (Bc1 2 [(9,.tp 4 bT 2)] 66 [.tp 4 bT 2] 10 ((1<=1/\0<1)/\·) ⟨dc,tc_untp (args':=[.ptr 4 0]) kr (bstr_use (j:=12) (a0:=.ptr 4 0) (rest:=[]) (shwT [] t) kr kr hne (H':=[(4,[.ptr 4 0,.tsl 12 uT ((shwT [] t).length)]),(0,tcs t)]) kr ?_)⟩))
 refine Ke (Fn0 [] [(2,.str (shwT [] t))] (Rt (.str (shwT [] t)) ?_))
 exact fin_lea (lea_refl _)
open Go Go.Proofs
set_option maxRecDepth 100000
def idF (s:Str):Nat:=s.foldl (fun h c=>(131*h+c.toNat)%1000000007) 7
theorem idF_take (s:Str) (k:Nat) (h:k<s.length):idF (s.take (k+1))=(131*idF (s.take k)+(s.getD k 0).toNat)%1000000007:=by
  rw[take_snoc s k 0 h];simp only[idF,List.foldl_append,List.foldl_cons,List.foldl_nil]
theorem idF_lt (s:Str):idF s<1000000007:=by
  have:∀(s:Str) (h:Nat),h<1000000007->s.foldl (fun h c=>(131*h+c.toNat)%1000000007) h<1000000007:=by
    intro s
    induction s with
    |nil=>intro h hh;exact hh
    |cons c s ih=>intro h _;exact ih _ (Nat.mod_lt _ dc)
  exact this s 7 dc
def strP (q:List Str):Str:=(q.map fun n=>47::n).flatten
theorem strP_cat (q:List Str) (n:Str):strP q++[47]++n=strP (q++[n]):=by simp[strP]
theorem strP_len (q:List Str):(strP q).length<=wS q:=by
  induction q with
  |nil=>simp[strP]
  |cons a q ih=>simp only[strP,List.map_cons,List.flatten_cons,List.length_append,List.length_cons,wS]at ih⊢;omega
theorem join_strP:∀(n:Str) (q:List Str),47::Lib.join (n::q) [47]=strP (n::q)
  |n,[]=>by simp[Lib.join,strP,List.intercalate]
  |n,m::q=>by
    have:=join_strP m q
    simp only[Lib.join,List.intercalate,strP,List.map_cons,List.flatten_cons,List.intersperse_cons_cons,List.cons_append,List.nil_append]at this⊢
    rw[<-this]
theorem pthS_strP (q:List Str) (n:Str):pthS (q++[n])=strP (q++[n]):=by
  unfold pthS
  rw[if_neg (by simp)]
  cases q with
  |nil=>exact join_strP _ _
  |cons a q=>exact join_strP _ _
theorem shwT_root (t:Tr):linS [47] t++shwK [] t.names t.kids=shwT [] t:=by rw[shwT_eq];rfl
theorem shw_len20 (t:Tr) (hwf:wfT t) (h:t.W<2^20):(shwT [] t).length<2^45:=Nat.lt_of_le_of_lt (shwT_len _ [] t hwf (Nat.le_refl _)) (shw_big t h)
theorem id_ok (t:Tr) (hwf:wfT t) (hw:t.W<2^20):PE G 17 [.agg (tcs t)] (.i ((idF (shwT [] t):Nat):Int)):=by
 have hll:=shw_len20 t hwf hw
 refine Pe Tryz.func17 ?_
 refine Rr (Fn2 [] [(1,.ptr 0 0)] ([(0,tcs t)]++·) 4 (Rr (Fn0 [1] [(3,.i 7)] (Rr ?_))))
 refine Pc1 2 [(6,.agg (tcs t))] 7 (0+5<=5/\0<5) dc (show_ok t hwf om) (Fn0 [3] [(4,.str (shwT [] t))] (Sq fun K4 hK4=>?_))
 refine Rr (Fn0 [3,4] [(10,.i 0),(9,.i ((shwT [] t).length:Int))] (Bl (h_l (fun(k:Nat)=>([(3,.i ((idF ((shwT [] t).take k):Nat):Int)),(4,.str (shwT [] t)),(9,.i ((shwT [] t).length:Int)),(10,.i k)]:Fr)) (fun(k:Nat)=>([(0,tcs t)]:Hp)) (fun(k:Nat) cn=>(k<=(shwT [] t).length)/\cn=4) (fun(k:Nat)=>(shwT [] t).length-k) 0 kr ?_ ?_ ?_ ?_)))
 refine⟨?_,rfl⟩;exact Nat.zero_le _
 exact⟨kr,kr,kr,kr,trivial⟩
 exact(sub_c kr (List.nil_sublist _))
 rintro k n1 hI
 (try dsimp only at hI)
 obtain⟨hi1,rfl⟩:=hI
 have hidl:=idF_lt ((shwT [] t).take k)
 refine Rr (Fn1 [3,4,9,10] [(11,.bool (decide ((k:Int)<((shwT [] t).length:Int))))] (Ki/\·) ⟨rfl,Sq fun K7 hK7=>?_⟩)
 refine Cc (decide ((k:Int)<((shwT [] t).length:Int))) (fun hc8 c8=>?_) fun hc8 c8=>?_
 refine Sk (Jn (hK7 (Kp [3,4,9,10] (Sq fun K9 hK9=>?_))))
 refine Bl (Rr (Fn0 [3,4,9,10] [(5,.i k)] (Rb (fun h=>Bn (Jn (hK9 h))) (Av1 2 14 [(13,.i ((idF ((shwT [] t).take k):Nat):Int))] (cI (wnm 131 (idF ((shwT [] t).take k)) om)) (Ki/\·) ⟨rfl,?_⟩))))
 have hu11:=UInt8.toNat_lt ((shwT [] t).getD k 0)
 refine Av1 (r:=.i (IntKind.i64.wrap (((shwT [] t).getD k 0).toNat:Int))) (v:=.i (((shwT [] t).getD k 0).toNat:Int)) 4 18 [(17,.int .u8 (((shwT [] t).getD k 0).toNat:Int)),(16,.i k),(15,.str (shwT [] t))] (cI (wrap64 om om)) (((0:Int)<=(k:Int)/\(k:Int)<((shwT [] t).length:Int))/\·) ⟨⟨om,om⟩,Av1 1 19 [] (cI (wnn (131*(idF ((shwT [] t).take k))) (((shwT [] t).getD k 0).toNat) om)) (Ki/\·) ⟨rfl,?_⟩⟩
 have hm12:=Nat.mod_lt ((131*(idF ((shwT [] t).take k)))+(((shwT [] t).getD k 0).toNat)) (show 0<1000000007 by omega)
 refine Av1 1 20 [] (cI (nmod ((131*(idF ((shwT [] t).take k)))+(((shwT [] t).getD k 0).toNat)) 1000000007)) ((IntKind.i64=IntKind.i64/\(1000000007:Int)≠0)/\·) ⟨⟨rfl,om⟩,Fn0 [4,9,10] [(3,.i ((((131*(idF ((shwT [] t).take k)))+(((shwT [] t).getD k 0).toNat))%1000000007:Nat):Int))] (Rn (Av1 1 21 [] (cI (wn1 k om)) (Ki/\·) ⟨rfl,Gn0 [(10,.i ((k+1:Nat):Int))] ?_⟩))⟩
 refine nk_n (Lr (k+1) [(0,0)] 4 [(3,.i ((((131*(idF ((shwT [] t).take k)))+(((shwT [] t).getD k 0).toNat))%1000000007:Nat):Int)),(4,.str (shwT [] t)),(9,.i ((shwT [] t).length:Int)),(10,.i ((k+1:Nat):Int))] [(0,tcs t)] [true] ?_ ?_ kr (by(try ((try dsimp only);rw[idF_take _ k om]));try kernel_rfl))
 (try dsimp only);omega
 refine⟨?_,rfl⟩;(try dsimp only);omega
 refine Xt (Jx (Lx (Bh (Jn (hK4 (Kp [3] (Rr (Fn0 [] [(2,.i ((idF ((shwT [] t).take k):Nat):Int))] (Rt (.i ((idF ((shwT [] t).take k):Nat):Int)) ?_)))))))))
 (rw[List.take_of_length_le om];exact fin_lea (lea_refl _))
theorem l31Id_ok (s:Str) (hs:s.length<2^46):PE G 39 [.str s] (.i ((idF s:Nat):Int)):=by
 refine Pe Tryz.func39 ?_
 refine Rr (Fn0 [0] [] (Rr (Fn0 [0] [(3,.i 7)] (Sq fun K3 hK3=>?_))))
 refine Rr (Fn0 [0,3] [(4,.i 0)] (Bl (h_l (fun(k:Nat)=>([(0,.str s),(3,.i ((idF (s.take k):Nat):Int)),(4,.i k)]:Fr)) (fun(k:Nat)=>([]:Hp)) (fun(k:Nat) cn=>(k<=s.length)/\cn=0) (fun(k:Nat)=>s.length-k) 0 kr ?_ ?_ ?_ ?_)))
 refine⟨?_,rfl⟩;exact Nat.zero_le _
 exact⟨kr,kr,kr,trivial⟩
 exact(List.nil_sublist _)
 rintro k n1 hI
 (try dsimp only at hI)
 obtain⟨hi1,rfl⟩:=hI
 have hidl:=idF_lt (s.take k)
 refine Sq fun K5 hK5=>?_
 refine Rr (Cn1 (decide ((k:Int)<(s.length:Int))) [0,3,4] [] (Ki/\·) ⟨rfl,fun hc7 c7=>?_,fun hc7 c7=>?_⟩)
 refine Sk (Jn (hK5 (Kp [0,3,4] (Sq fun K8 hK8=>?_))))
 refine Bl (Rb (fun h=>Bn (Jn (hK8 h))) (Av1 2 12 [(11,.i ((idF (s.take k):Nat):Int))] (cI (wnm (idF (s.take k)) 131 om)) (Ki/\·) ⟨rfl,?_⟩))
 have hu9:=UInt8.toNat_lt (s.getD k 0)
 refine Av1 (r:=.i (IntKind.i64.wrap ((s.getD k 0).toNat:Int))) (v:=.i ((s.getD k 0).toNat:Int)) 4 16 [(15,.int .u8 ((s.getD k 0).toNat:Int)),(14,.i k),(13,.str s)] (cI (wrap64 om om)) (((0:Int)<=(k:Int)/\(k:Int)<(s.length:Int))/\·) ⟨⟨om,om⟩,Av1 1 17 [] (cI (wnn ((idF (s.take k))*131) ((s.getD k 0).toNat) om)) (Ki/\·) ⟨rfl,?_⟩⟩
 have hm10:=Nat.mod_lt (((idF (s.take k))*131)+((s.getD k 0).toNat)) (show 0<1000000007 by omega)
 refine Av1 1 18 [] (cI (nmod (((idF (s.take k))*131)+((s.getD k 0).toNat)) 1000000007)) ((IntKind.i64=IntKind.i64/\(1000000007:Int)≠0)/\·) ⟨⟨rfl,om⟩,Fn0 [0,4] [(3,.i (((((idF (s.take k))*131)+((s.getD k 0).toNat))%1000000007:Nat):Int))] (Rn (Av1 2 10 [(9,.i k)] (cI (wn1 k om)) (Ki/\·) ⟨rfl,Gn0 [(4,.i ((k+1:Nat):Int))] ?_⟩))⟩
 refine nk_n (Lr (k+1) [] 0 [(0,.str s),(3,.i (((((idF (s.take k))*131)+((s.getD k 0).toNat))%1000000007:Nat):Int)),(4,.i ((k+1:Nat):Int))] [] [] ?_ ?_ kr (by(try ((try dsimp only);rw[idF_take _ k om,Nat.mul_comm 131]));try kernel_rfl))
 (try dsimp only);omega
 refine⟨?_,rfl⟩;(try dsimp only);omega
 refine Xt (Jx (Lx (Bh (Jn (hK3 (Kp [3] (Rr (Fn0 [] [(2,.i ((idF (s.take k):Nat):Int))] (Rt (.i ((idF (s.take k):Nat):Int)) ?_)))))))))
 (rw[List.take_of_length_le om];exact fin_lea (lea_refl _))
theorem l1Show_ok (M:Nat) (hM:M<2^36):∀(N:Nat) (q:List Str) (t:Tr),t.W=N->wfT t->wS q+t.W<=M->(cnt t+1)*(41+2*M)<2^45->PE G 41 [.str (strP q),.agg (tcs t)] (.str (shwK q t.names t.kids)):=by
 intro N;refine Nat.strongRecOn N fun N ih=>?_;intro q t hN hwf hw hR;have hWe:=W_eq t;have hpl:=wS_len q;have hks:=Ws_len t.kids;have hns:=wS_len t.names;have hkn:=wfT_lenS hwf;have hm:=wfT_mode hwf;have hsp:=strP_len q;have hx1:(cnt t+1)*(41+2*M)=cnt t*(41+2*M)+(41+2*M):=by rw[Nat.add_mul,Nat.one_mul]
 refine Pe Tryz.func41 ?_
 refine Rr (Fn2 [0] [(3,.ptr 0 0)] ([(0,tcs t)]++·) 4 (Rr (Fn0 [0,3] [(5,.str [])] (Sq fun K3 hK3=>?_))))
 refine Rr (Fn0 [0,3,5] [(6,.i 0)] (Bl (h_l (fun(k:Nat)=>([(0,.str (strP q)),(3,.ptr 0 0),(5,.str (shwK q (t.names.take k) (t.kids.take k))),(6,.i k)]:Fr)) (fun(k:Nat)=>([(0,tcs t)]:Hp)) (fun(k:Nat) cn=>(k<=t.names.length)/\cn=4) (fun(k:Nat)=>t.names.length-k) 0 kr ?_ ?_ ?_ ?_)))
 refine⟨?_,rfl⟩;exact Nat.zero_le _
 exact⟨kr,kr,kr,kr,trivial⟩
 exact(sub_c kr (List.nil_sublist _))
 rintro k n1 hI
 (try dsimp only at hI)
 obtain⟨hi1,rfl⟩:=hI
 have hc1:=shwK_len M q t k hwf om om
 refine Sq fun K5 hK5=>?_
 refine Rr (Av1 4 11 [(10,pth t.names),(9,.ptr 0 3),(8,.i k)] (lnm t.names sc) (((1:Nat)≠0)/\(3+1<=5/\3<5)/\·) ⟨dc,dc,Cn1 (decide ((k:Int)<(t.names.length:Int))) [0,3,5,6] [] (Ki/\·) ⟨rfl,fun hc7 c7=>?_,fun hc7 c7=>?_⟩⟩)
 refine Sk (Jn (hK5 (Kp [0,3,5,6] (Sq fun K8 hK8=>?_))))
 refine Bl ?_
 have hW:=Ws_get t.kids k om
 have hSn:=wS_get t.names k om
 have hSs:=pwS_snocS q (t.names.getD k default)
 have hc8:=wfT_cnt t k om
 have hc9:=Nat.mul_le_mul_right (41+2*M) hc8
 rw[Nat.add_mul,Nat.add_mul,Nat.one_mul]at hc9
 refine Rr (Av1 6 20 [(19,.i k),(18,pth t.names),(17,.ptr 0 3),(16,.str ((strP q)++[47])),(15,.str (strP q))] (congrArg AV.pat (mg_str t.names k om)) (((strP q).length+[47].length<=9223372036854775807)/\((1:Nat)≠0)/\(3+1<=5/\3<5)/\(1=1/\(0:Int)<=(k:Int)/\(k:Int)<((t.names.map (fun s=>[AV.str s])).length:Int))/\·) ⟨(by simp only[List.length_cons,List.length_nil];omega),dc,dc,⟨rfl,om,lmo⟩,Fn1 [0,3,5,6] [(7,.str (((strP q)++[47])++(t.names.getD k default)))] ((1<=1/\0<1)/\(((strP q)++[47]).length+(t.names.getD k default).length<=9223372036854775807)/\·) ⟨dc,(by first|omega|(simp only[List.length_append,List.length_cons,List.length_nil];omega)),Qlb [0,0,0,4,0,28,60,126,255,0,0,1024,0,7168,15360,32510,65535] [(0,[]),(1,[]),(2,[]),(3,[]),(4,[]),(5,[]),(6,[]),(9,[]),(10,[]),(11,[]),(12,[]),(13,[]),(14,[]),(7,[11,14]),(8,[]),(15,[]),(16,[])] (fun h=>Bn (Jn (hK8 h))) (qAv1 6 28 [(27,.i k),(26,.sl 5 (t.kids.map trc)),(25,.ptr 0 4),(24,.str (((strP q)++[47])++(t.names.getD k default))),(23,.str (shwK q (t.names.take k) (t.kids.take k)))] (congrArg AV.pat (mg_trc t.kids k om)) (((1:Nat)≠0)/\(4+1<=5/\4<5)/\(5=5/\(0:Int)<=(k:Int)/\(k:Int)<((t.kids.map trc).length:Int))/\·) ⟨dc,dc,⟨rfl,om,lmo⟩,?_⟩)⟩⟩)
 refine qAv1 6 36 [(35,.i k),(34,.sl 5 (t.kids.map trc)),(33,.ptr 0 4),(32,.str (((strP q)++[47])++(t.names.getD k default))),(29,.agg (tcs (t.kids.getD k default)))] (congrArg AV.pat (mg_trc t.kids k om)) ((5<=5/\0<5)/\((1:Nat)≠0)/\(4+1<=5/\4<5)/\(5=5/\(0:Int)<=(k:Int)/\(k:Int)<((t.kids.map trc).length:Int))/\·) ⟨dc,dc,dc,⟨rfl,om,lmo⟩,qBc1 2 [(37,.agg (tcs (t.kids.getD k default)))] [11,14] 40 [.str (((strP q)++[47])++(t.names.getD k default)),.agg (tcs (t.kids.getD k default))] 30 ((5<=5/\0<5)/\·) ⟨dc,?_⟩⟩
 have hmk:=wfT_mode (wfT_kidS hwf (k:=k) om)
 have hdk:=data_W (t.kids.getD k default)
 have hlk:=(linS_len (pthS (q++[t.names.getD k default])) (t.kids.getD k default)).resolve_right (fun h=>h hmk)
 have hqk:=pthS_len (q++[t.names.getD k default])
 have hqj:=strP_len (q++[t.names.getD k default])
 refine PE.use (by rw[strP_cat,<-pthS_strP];exact l1Line_ok _ _ hmk.1 hmk.2 om om) ?_
 refine Kq (p:=(((4+1<=5/\4<5)/\(AV.sl 5 (t.kids.map trc)=(.sl 5 (t.kids.map trc):AV)))/\((5<=5/\0<5)/\(AV.agg (tcs (t.kids.getD k default))=(.agg (tcs (t.kids.getD k default)):AV)))/\True)) ⟨⟨dc,rfl⟩,⟨dc,rfl⟩,trivial⟩ ?_
 refine qBc1 2 [(31,.str ((shwK q (t.names.take k) (t.kids.take k))++(linS (pthS (q++[t.names.getD k default])) (t.kids.getD k default))))] [] 41 [.str (((strP q)++[47])++(t.names.getD k default)),.agg (tcs (t.kids.getD k default))] 38 (((shwK q (t.names.take k) (t.kids.take k)).length+(linS (pthS (q++[t.names.getD k default])) (t.kids.getD k default)).length<=9223372036854775807)/\·) ⟨om,?_⟩
 have hcA:(cnt (t.kids.getD k default)+1)*(41+2*M)=cnt (t.kids.getD k default)*(41+2*M)+(41+2*M):=by rw[Nat.add_mul,Nat.one_mul]
 have hrl:=shwK_lenA M (q++[t.names.getD k default]) (t.kids.getD k default).names (t.kids.getD k default).kids (fun x hx=>(wfT_plain (wfT_kidS hwf om)).2 x hx) (by have:=W_eq (t.kids.getD k default);omega)
 rw[<-cnt_eq]at hrl
 refine PE.use (by rw[strP_cat];exact ih _ om (q++[t.names.getD k default]) (t.kids.getD k default) rfl (wfT_kidS hwf om) om om) ?_
 refine Kq (p:=(True)) trivial ?_
 refine qGn1 [(39,.str (((shwK q (t.names.take k) (t.kids.take k))++(linS (pthS (q++[t.names.getD k default])) (t.kids.getD k default)))++(shwK (q++[t.names.getD k default]) (t.kids.getD k default).names (t.kids.getD k default).kids)))] ((((shwK q (t.names.take k) (t.kids.take k))++(linS (pthS (q++[t.names.getD k default])) (t.kids.getD k default))).length+(shwK (q++[t.names.getD k default]) (t.kids.getD k default).names (t.kids.getD k default).kids).length<=9223372036854775807)/\·) ⟨(by first|omega|(simp only[List.length_append,List.length_cons,List.length_nil];omega)),Lo 5 (.str (((shwK q (t.names.take k) (t.kids.take k))++(linS (pthS (q++[t.names.getD k default])) (t.kids.getD k default)))++(shwK (q++[t.names.getD k default]) (t.kids.getD k default).names (t.kids.getD k default).kids))) (fun Z=>Z) (Cfi [0,3,5,6] (Rn (Av1 2 14 [(13,.i k)] (cI (wn1 k om)) (Ki/\·) ⟨rfl,?_⟩)))⟩
 refine Gn0 [(6,.i ((k+1:Nat):Int))] (nk_n (Lr (k+1) [(0,0)] 4 [(0,.str (strP q)),(3,.ptr 0 0),(5,.str (((shwK q (t.names.take k) (t.kids.take k))++(linS (pthS (q++[t.names.getD k default])) (t.kids.getD k default)))++(shwK (q++[t.names.getD k default]) (t.kids.getD k default).names (t.kids.getD k default).kids))),(6,.i ((k+1:Nat):Int))] [(0,tcs t)] [true] ?_ ?_ kr (by(try ((try dsimp only);rw[shwK_take q t k om hkn,shwT_eq,<-List.append_assoc]));try kernel_rfl)))
 (try dsimp only);omega
 refine⟨?_,rfl⟩;(try dsimp only);omega
 refine Xt (Jx (Lx (Bh (Jn (hK3 (Kp [5] (Rr (Fn0 [] [(4,.str (shwK q (t.names.take k) (t.kids.take k)))] (Rt (.str (shwK q (t.names.take k) (t.kids.take k))) ?_)))))))))
 (rw[List.take_of_length_le om,List.take_of_length_le om];exact fin_lea (lea_refl _))
theorem l31Of_ok (t:Tr) (hwf:wfT t) (hw:t.W<2^20):PE G 19 [.agg (tcs t)] (.i ((idF (shwT [] t):Nat):Int)):=by
 have hm:=wfT_mode hwf;have hdw:=data_W t;have hll:=shw_len20 t hwf hw;have hbig:=shw_big t hw;have hw0:wS []=0:=rfl;have hM:wS []+t.W<2^36:=om;have hsr:=shwT_root t;have hsl:=congrArg List.length hsr;rw[List.length_append]at hsl
 refine Pe Tryz.func19 ?_
 refine Rr (Fn2 [] [(1,.ptr 0 0)] ([(0,tcs t)]++·) 4 (Qr [0,1,0,7,15,31,63] [(0,[]),(2,[]),(1,[2]),(3,[]),(4,[]),(5,[]),(6,[])] (qBc1 3 [(5,.agg (tcs t)),(3,.agg (tcs t))] [2] 40 [.str [47],.agg (tcs t)] 4 ((0+5<=5/\0<5)/\(0+5<=5/\0<5)/\·) ⟨dc,dc,PE.use (l1Line_ok [47] t hm.1 hm.2 om dc) ?_⟩)))
 refine Kq (p:=(((0+5<=5/\0<5)/\(AV.agg (tcs t)=(.agg (tcs t):AV)))/\True)) ⟨⟨dc,rfl⟩,trivial⟩ ?_
 refine qBc0 1 [] [] 41 [.str [],.agg (tcs t)] 6 ?_
 refine PE.use (l1Show_ok _ hM _ [] t rfl hwf om om) ?_
 refine Kq (p:=(True)) trivial ?_
 refine qBc1 2 [(7,.str ((linS [47] t)++(shwK [] t.names t.kids)))] [] 39 [.str ((linS [47] t)++(shwK [] t.names t.kids))] 8 (((linS [47] t).length+(shwK [] t.names t.kids).length<=9223372036854775807)/\·) ⟨om,?_⟩
 refine PE.use (l31Id_ok ((linS [47] t)++(shwK [] t.names t.kids)) (by first|omega|(simp only[List.length_append];omega))) ?_
 refine Kq (p:=(True)) trivial ?_
 refine qFn0 [] [(2,.i ((idF ((linS [47] t)++(shwK [] t.names t.kids)):Nat):Int))] (Rt (.i ((idF ((linS [47] t)++(shwK [] t.names t.kids)):Nat):Int)) ?_)
 (rw[<-shwT_root];exact fin_lea (lea_refl _))
set_option maxRecDepth 100000
structure Rw where
 path:List Str
 dir:Bool
 mode:Int
 data:Str
 id:Int
instance:Inhabited Rw:=⟨⟨[],false,0,[],0⟩⟩
abbrev rwc (x:Rw):List AV:=[pth x.path,.bool x.dir,.int .i64 x.mode,.str x.data,.int .i64 x.id]
theorem rwc_len (x:Rw):(rwc x).length=5:=rfl
@[go_sem] theorem purs_rwc (x:Rw):purs (rwc x)=true:=by simp only[rwc,purs,go_sem,pur,Bool.and_self]
@[go_sem] theorem purs_flR (X:List Rw):purs (fl rwc X)=true:=purs_fl purs_rwc X
theorem flR_le (X:List Rw):X.length*5<=(fl rwc X).length:=by rw[fl_len rwc_len];exact Nat.le_refl _
theorem flRl (X:List Rw):(fl rwc X).length=X.length*5:=fl_len rwc_len X
theorem chkR (l:List Rw):chk 5 l.length (fl rwc l)=l.map rwc:=chk_fl rwc_len l
theorem mg_rw (l:List Rw) (k:Nat) (h:k<l.length):(l.map rwc).getD k []=rwc (l.getD k default):=mgs rwc l k h
theorem app_rw (X Y:List Rw):apd (fl rwc X) (X.length*5) ((Y.map rwc).flatten)=fl rwc (X++Y):=by
 unfold apd;rw[fl_full rwc_len X rfl,fl_app];rfl
@[go_sem] theorem puress_rw:∀X:List Rw,puress (X.map rwc)=true
 |[]=>rfl
 |m::X=>by simp only[List.map_cons,puress,purs_rwc,puress_rw X,Bool.and_self]
theorem oqs_flR (i l:Nat) (ds:List AV):∀X:List Rw,oqs i 1 l ds->oqs i 1 l (fl rwc X++ds)
 |[],h=>h
 |m::X,h=>by
  have:=oqs_flR i l ds X h
  simp only[fl,List.map_cons,List.flatten_cons,List.cons_append,List.nil_append,oqs,oq_pth,oq,true_and,rwc]at this⊢
  exact this
theorem fqs_flR (i:Nat) (es:List (List AV)) (cs ds:List AV):∀X:List Rw,fqs i 1 es cs (fl rwc X++ds)=fl rwc X++fqs i 1 es cs ds
 |[]=>rfl
 |m::X=>by
  have:=fqs_flR i es cs ds X
  simp only[fl,List.map_cons,List.flatten_cons,List.cons_append,List.nil_append,fqs,fq,rwc,pth]at this⊢
  rw[this]
theorem FzR {np:Nat} {G:Prg} {c:Code} {F:Fr} {H:Hp} {n:Nat} {Q:Post} (i j:Nat) (X:List Rw) (p:List Str) (d:Bool) (o:Int) (s:Str) (v:Int) (F1:Fr) (H1:Hp) (m:List Bool) (h:TT np G.P c (fqF i 1 (p.map fun s=>[AV.str s]) (fl sc p) F1) ((j,fl rwc (X++[⟨p,d,o,s,v⟩]))::fqH i 1 (p.map fun s=>[AV.str s]) (fl sc p) m H1) n Q)
  (hF:oqF i 1 p.length F1:=by simp only[oqF,oq,oqs,go_sem,and_self,reduceIte,Nat.reduceEqDiff]) (hH:oqR i 1 p.length m H1:=by simp only[oqR,oqs,oq,go_sem,and_self,reduceIte,Nat.reduceEqDiff]) (hj:(j==i)=false:=by kernel_rfl)
  (h5:(selH (j::i::H1.map (·.1)) H).map Prod.fst=some ((j,fl rwc X++[.osl i 1 0 p.length,.bool d,.int .i64 o,.str s,.int .i64 v])::(i,fl sc p)::H1):=by kernel_rfl) (h4:keepF (F1.map (·.1)) F=F1:=by kernel_rfl):TT np G.P c F H n Q:=by
 cases hs5:selH (j::i::H1.map (·.1)) H with
 |none=>rw[hs5]at h5;cases h5
 |some q=>
  obtain⟨a,r⟩:=q
  rw[hs5]at h5
  simp only[Option.map_some,Option.some.injEq]at h5
  subst h5
  refine h_pm (selH_perm hs5) (TT_weak (F':=F1) (h4▸keepF_sub F _) (List.sublist_append_left _ _) (TT_fz i (cs:=fl sc p) (by simp only[hgt,hj,cond_false,beq_self_eq_true,cond_true]) ?_))
  rw[show hdel ((j,fl rwc X++[.osl i 1 0 p.length,.bool d,.int .i64 o,.str s,.int .i64 v])::(i,fl sc p)::H1) i=(j,fl rwc X++[.osl i 1 0 p.length,.bool d,.int .i64 o,.str s,.int .i64 v])::H1 by simp only[hdel,hj,cond_false,beq_self_eq_true,cond_true]]
  rw[fqF_eq (chkS p) (flS_le p) F1 hF,fqR_eq (chkS p) (flS_le p) (H':=(j,fl rwc (X++[⟨p,d,o,s,v⟩]))::fqH i 1 (p.map fun s=>[AV.str s]) (fl sc p) m H1)]
  ·exact h
  ·refine⟨rfl,.inr ⟨oqs_flR i _ _ X (by simp only[oqs,oq,and_self,if_true]),?_⟩,fqR_of m H1 hH⟩
   rw[fqs_flR,fl_app,fl_one]
   simp only[fqs,fq,Nat.beq_refl,cond_true,rwc,pth]
theorem HCx.fzR {H:Hp} (i j:Nat) (X:List Rw) (p:List Str) (d:Bool) (o:Int) (s:Str) (v:Int) (H1:Hp) (m:List Bool) (hH:oqR i 1 p.length m H1:=by simp only[oqR,oqs,oq,go_sem,and_self,reduceIte,Nat.reduceEqDiff]) (hj:(j==i)=false:=by kernel_rfl)
  (h5:(selH (j::i::H1.map (·.1)) H).map Prod.fst=some ((j,fl rwc X++[.osl i 1 0 p.length,.bool d,.int .i64 o,.str s,.int .i64 v])::(i,fl sc p)::H1):=by kernel_rfl):HCx H ((j,fl rwc (X++[⟨p,d,o,s,v⟩]))::fqH i 1 (p.map fun s=>[AV.str s]) (fl sc p) m H1):=by
 cases hs5:selH (j::i::H1.map (·.1)) H with
 |none=>rw[hs5]at h5;cases h5
 |some q=>
  obtain⟨a,r⟩:=q
  rw[hs5]at h5
  simp only[Option.map_some,Option.some.injEq]at h5
  subst h5
  refine(HCx.perm (selH_perm hs5)).trans ((HCx.sub (List.sublist_append_left _ _)).trans ?_)
  have hg:hgt ((j,fl rwc X++[.osl i 1 0 p.length,.bool d,.int .i64 o,.str s,.int .i64 v])::(i,fl sc p)::H1) i=some (fl sc p):=by simp only[hgt,hj,cond_false,beq_self_eq_true,cond_true]
  have e:=HCx.fz hg
  rw[show hdel ((j,fl rwc X++[.osl i 1 0 p.length,.bool d,.int .i64 o,.str s,.int .i64 v])::(i,fl sc p)::H1) i=(j,fl rwc X++[.osl i 1 0 p.length,.bool d,.int .i64 o,.str s,.int .i64 v])::H1 by simp only[hdel,hj,cond_false,beq_self_eq_true,cond_true]]at e
  rw[fqR_eq (chkS p) (flS_le p) (H':=(j,fl rwc (X++[⟨p,d,o,s,v⟩]))::fqH i 1 (p.map fun s=>[AV.str s]) (fl sc p) m H1)]at e
  ·exact e
  ·refine⟨rfl,.inr ⟨oqs_flR i _ _ X (by simp only[oqs,oq,and_self,if_true]),?_⟩,fqR_of m H1 hH⟩
   rw[fqs_flR,fl_app,fl_one]
   simp only[fqs,fq,Nat.beq_refl,cond_true,rwc,pth]
def rowOf (q:List Str) (t:Tr):Rw:=⟨q,t.dir,t.mode,t.data,((idF (shwT [] t):Nat):Int)⟩
mutual
def rowsT:List Str->Tr->List Rw
 |q,.mk d m s ns ks=>rowOf q (.mk d m s ns ks)::rowsK q ns ks
def rowsK:List Str->List Str->List Tr->List Rw
 |q,n::ns,k::ks=>rowsT (q++[n]) k++rowsK q ns ks
 |_,[],_=>[]
 |_,_,[]=>[]
end
theorem rowsT_eq (q:List Str) (t:Tr):rowsT q t=[rowOf q t]++rowsK q t.names t.kids:=by cases t;rw[rowsT];rfl
theorem rowsK_nil (q:List Str):rowsK q [] []=[]:=by simp[rowsK]
theorem rowsK_snoc (p:List Str) (n:Str) (k:Tr):∀(ns:List Str) (ks:List Tr),ns.length=ks.length->rowsK p (ns++[n]) (ks++[k])=rowsK p ns ks++rowsT (p++[n]) k
 |[],[],_=>by simp[rowsK]
 |m::ns,l::ks,h=>by
  simp only[List.cons_append,rowsK]
  rw[rowsK_snoc p n k ns ks (by simpa using h),List.append_assoc]
 |[],_::_,h=>by simp at h
 |_::_,[],h=>by simp at h
theorem rowsK_take (p:List Str) (t:Tr) (k:Nat) (h:k<t.names.length) (h2:t.names.length=t.kids.length):rowsK p (t.names.take (k+1)) (t.kids.take (k+1))=rowsK p (t.names.take k) (t.kids.take k)++rowsT (p++[t.names.getD k default]) (t.kids.getD k default):=by
 rw[take_snoc t.names k default h,take_snoc t.kids k default (by omega),rowsK_snoc _ _ _ _ _ (by rw[List.length_take,List.length_take,h2])]
mutual
theorem rowsT_len:∀(q:List Str) (t:Tr),(rowsT q t).length<=1+cnt t
 |q,.mk d m s ns ks=>by
  have:=rowsK_len q ns ks
  rw[rowsT,List.length_cons,cnt];omega
theorem rowsK_len:∀(q ns:List Str) (ks:List Tr),(rowsK q ns ks).length<=cnts ks
 |q,n::ns,k::ks=>by
  have h1:=rowsT_len (q++[n]) k
  have h2:=rowsK_len q ns ks
  rw[rowsK,List.length_append,cnts];omega
 |_,[],_=>by simp[rowsK]
 |_,_::_,[]=>by simp[rowsK]
end
open Go Go.Proofs
set_option maxRecDepth 100000
theorem tr1_ok (q:List Str) (t:Tr) (R:List Rw) (hwf:wfT t) (hw:t.W<2^20) (hq:wS q<2^37) (hR:R.length<2^40):TCw 1 G 38 [pth q,.agg (tcs t),.ptr 0 0] (hp ([(0,fun g=>[.osl (g 4) 5 0 (R).length]),(4,fun _=>fl rwc R)]) id) 8 (FQ ([(0,fun g=>[.osl (g 8) 5 0 (R++[rowOf q t]).length]),(8,fun _=>fl rwc (R++[rowOf q t]))]) 8 (fun _=>True)):=by
 have hpq:=wS_len q;have hdt:=data_W t
 refine TCw_enter (c:=bd Tryz.f38) Tryz.func38 kr kr (tt_eq (F:=[(0,pth q),(1,.agg (tcs t)),(2,.ptr 0 0)]) kr ?_)
 refine Rr (Fn2 [0,2] [(4,.ptr 8 0)] ([(8,tcs t)]++·) 12 (Qn [0,0,0,6,0,16,0,64,0,256,0,1038,4094,8190,16383,32767] [(0,[]),(2,[]),(4,[]),(5,[]),(6,[]),(7,[]),(8,[]),(9,[]),(10,[]),(1,[0,5,7,9,10]),(3,[0,5,7,9,10]),(11,[0,5,7,9]),(12,[]),(13,[0]),(14,[]),(15,[])] (qAn3 11 [(8,.osl 16 1 0 (0+(q.map (fun s=>[AV.str s])).length)),(6,.osl 12 1 0 0),(15,.agg (tcs t)),(14,.str t.data),(13,.ptr 8 2),(12,.i t.mode),(11,.ptr 8 1),(10,.bool t.dir),(9,.ptr 8 0),(7,pth q),(5,.osl 4 5 0 R.length)] ([(16,apd [] (0*1) ((q.map (fun s=>[AV.str s])).flatten))]++·) 20 ((0+1<=1/\0<1)/\((1:Nat)≠0)/\(0+1<=5/\0<5)/\((1:Nat)≠0)/\(1+1<=5/\1<5)/\((1:Nat)≠0)/\(2+1<=5/\2<5)/\(0+5<=5/\0<5)/\(0*1<=16777216)/\(((0+1<=1/\0<1)/\(AV.osl 4 5 0 R.length=(.osl 4 5 0 R.length:AV)))/\((0+1<=5/\0<5)/\(AV.bool t.dir=(.bool t.dir:AV)))/\((1+1<=5/\1<5)/\(AV.int .i64 t.mode=(.i t.mode:AV)))/\((2+1<=5/\2<5)/\(AV.str t.data=(.str t.data:AV)))/\((0+5<=5/\0<5)/\(AV.agg (tcs t)=(.agg (tcs t):AV)))/\True)/\True/\(1=1/\0*1<=0/\0<16/\(0+(q.map (fun s=>[AV.str s])).length)*16<=140737488355328)/\(((0+1<=1/\0<1)/\(AV.osl 4 5 0 R.length=(.osl 4 5 0 R.length:AV)))/\((0+1<=5/\0<5)/\(AV.bool t.dir=(.bool t.dir:AV)))/\((1+1<=5/\1<5)/\(AV.int .i64 t.mode=(.i t.mode:AV)))/\((2+1<=5/\2<5)/\(AV.str t.data=(.str t.data:AV)))/\((0+5<=5/\0<5)/\(AV.agg (tcs t)=(.agg (tcs t):AV)))/\True)/\·) ⟨dc,dc,dc,dc,dc,dc,dc,dc,dc,⟨⟨dc,rfl⟩,⟨dc,rfl⟩,⟨dc,rfl⟩,⟨dc,rfl⟩,⟨dc,rfl⟩,trivial⟩,trivial,⟨rfl,gl,dc,gl⟩,⟨⟨dc,rfl⟩,⟨dc,rfl⟩,⟨dc,rfl⟩,⟨dc,rfl⟩,⟨dc,rfl⟩,trivial⟩,runq_v (v':=.osl 16 1 0 q.length) (by rw[Nat.zero_add,List.length_map]) ?_⟩)))
 refine runq_h (cs':=fl sc q) (app0_str _) ?_
 refine qBc0 1 [] [0,5,7,9] 17 [.agg (tcs t)] 16 ?_
 refine PE.use (id_ok t hwf om) ?_
 refine Kq (p:=(((0+1<=1/\0<1)/\(AV.osl 4 5 0 R.length=(.osl 4 5 0 R.length:AV)))/\((0+1<=5/\0<5)/\(AV.bool t.dir=(.bool t.dir:AV)))/\((1+1<=5/\1<5)/\(AV.int .i64 t.mode=(.i t.mode:AV)))/\((2+1<=5/\2<5)/\(AV.str t.data=(.str t.data:AV)))/\True)) ⟨⟨dc,rfl⟩,⟨dc,rfl⟩,⟨dc,rfl⟩,⟨dc,rfl⟩,trivial⟩ ?_
 refine qAn3 3 [(19,.osl 24 5 0 (R.length+1)),(18,.osl 20 5 0 1),(17,.agg [.osl 16 1 0 q.length,.bool t.dir,.i t.mode,.str t.data,.i ((idF (shwT [] t):Nat):Int)])] (fun _=>[(24,apd (fl rwc R) (R.length*5) ((([.osl 16 1 0 q.length,.bool t.dir,.i t.mode,.str t.data,.i ((idF (shwT [] t):Nat):Int)]:List AV).drop 0).take (1*5))),(20,[.osl 16 1 0 q.length,.bool t.dir,.i t.mode,.str t.data,.i ((idF (shwT [] t):Nat):Int)]),(16,fl sc q),(8,tcs t),(0,[.osl 4 5 0 R.length])]) 28 ((1*5<=16777216)/\(((0+1<=1/\0<1)/\(AV.osl 4 5 0 R.length=(.osl 4 5 0 R.length:AV)))/\True)/\(0+1*5<=([.osl 16 1 0 q.length,.bool t.dir,.i t.mode,.str t.data,.i ((idF (shwT [] t):Nat):Int)]:List AV).length)/\(5=5/\R.length*5<=(fl rwc R).length/\0<64/\(R.length+1)*64<=140737488355328)/\(True)/\·) ⟨dc,⟨⟨dc,rfl⟩,trivial⟩,(by first|decide|simp),⟨rfl,by(first|omega|(simp only[LL,flRl];omega)),dc,by(first|omega|(simp only[LL,flRl];omega))⟩,trivial,runq_H (H':=[(24,fl rwc R++[.osl 16 1 0 q.length,.bool t.dir,.i t.mode,.str t.data,.i ((idF (shwT [] t):Nat):Int)]),(20,[.osl 16 1 0 q.length,.bool t.dir,.i t.mode,.str t.data,.i ((idF (shwT [] t):Nat):Int)]),(16,fl sc q),(8,tcs t),(0,[.osl 4 5 0 R.length])]) (by rw[show apd (fl rwc R) (R.length*5) ((([.osl 16 1 0 q.length,.bool t.dir,.i t.mode,.str t.data,.i ((idF (shwT [] t):Nat):Int)]:List AV).drop 0).take (1*5))=fl rwc R++[.osl 16 1 0 q.length,.bool t.dir,.i t.mode,.str t.data,.i ((idF (shwT [] t):Nat):Int)]from(by unfold apd;rw[fl_full rwc_len R rfl];rfl)]) (qGn3 [] (Hw [(0,[.osl 24 5 0 (R.length+1)])] [] ·) 28 ((true=true/\1=1/\0+1<=1)/\(True)/\·) ⟨dc,trivial,nk_n (Rtn (fun Z=>Z) (.tup []) ?_)⟩)⟩
 refine⟨_,List.Sublist.refl _,?_⟩
 rw[show R.length+1=(R++[rowOf q t]).length by simp]
 exact fx_end (.tup []) [(8,24)] [0,24] (HCx.fzR 16 24 R q t.dir t.mode t.data ((idF (shwT [] t):Nat):Int) [(0,[.osl 24 5 0 (R++[rowOf q t]).length])] [true]) ⟨lea_refl _,rfl,trivial⟩ kr kr
theorem tr_fx (q:List Str) (t:Tr) (R:List Rw) (hwf:wfT t) (hw:t.W<2^20) (hq:wS q<2^37) (hR:R.length<2^40):FX G 38 (fun g=>[pth q,.agg (tcs t),.ptr (g 0) 0]) [(0,fun g=>[.osl (g 4) 5 0 (R).length]),(4,fun _=>fl rwc R)] [(0,fun g=>[.osl (g 8) 5 0 (R++[rowOf q t]).length]),(8,fun _=>fl rwc (R++[rowOf q t]))] 8 12 fun _=>True:=
  FX_mk 1 kr kr kr (ntl_cons (ntl_pur (by simp only[purs,purs_pth,Bool.and_self])) (ntl_cons (ntl_pur (by simp only[purs,pur,go_sem,Bool.and_self])) ntl_ptr)) (by intro p hp;simp only[List.mem_cons,List.not_mem_nil,or_false]at hp;rcases hp with rfl|rfl<;>first|exact ntl_pur (purs_flR _)|exact ntl_cons ntl_osl (ntl_pur rfl)) (by intro p hp;simp only[List.mem_cons,List.not_mem_nil,or_false]at hp;rcases hp with rfl|rfl<;>first|exact ntl_pur (purs_flR _)|exact ntl_cons ntl_osl (ntl_pur rfl)) (tr1_ok q t R hwf hw hq hR)
open Go Go.Proofs
set_option maxRecDepth 100000
theorem ert_mk (q:List Str) (t:Tr) (R:List Rw) (h:TCw 1 G 37 [.agg (tcs t),pth q,.fn (.func 38) [.ptr 0 0]] (hp ([(0,fun g=>[.osl (g 4) 5 0 (R).length]),(4,fun _=>fl rwc R)]) id) 8 (FQ ([(0,fun g=>[.osl (g 8) 5 0 (R++rowsT q t).length]),(8,fun _=>fl rwc (R++rowsT q t))]) 8 (fun _=>True))):FX G 37 (fun g=>[.agg (tcs t),pth q,.fn (.func 38) [.ptr (g 0) 0]]) [(0,fun g=>[.osl (g 4) 5 0 (R).length]),(4,fun _=>fl rwc R)] [(0,fun g=>[.osl (g 8) 5 0 (R++rowsT q t).length]),(8,fun _=>fl rwc (R++rowsT q t))] 8 12 fun _=>True:=
  FX_mk 1 kr kr kr (ntl_cons (ntl_pur (by simp only[purs,pur,go_sem,Bool.and_self])) (ntl_cons (ntl_pur (by simp only[purs,purs_pth,Bool.and_self])) (ntl_fn ntl_ptr))) (by intro p hp;simp only[List.mem_cons,List.not_mem_nil,or_false]at hp;rcases hp with rfl|rfl<;>first|exact ntl_pur (purs_flR _)|exact ntl_cons ntl_osl (ntl_pur rfl)) (by intro p hp;simp only[List.mem_cons,List.not_mem_nil,or_false]at hp;rcases hp with rfl|rfl<;>first|exact ntl_pur (purs_flR _)|exact ntl_cons ntl_osl (ntl_pur rfl)) h
theorem ert1_ok:∀(N:Nat) (q:List Str) (t:Tr) (R:List Rw),t.W=N->wfT t->wS q+t.W<2^20->R.length+cnt t<2^39->TCw 1 G 37 [.agg (tcs t),pth q,.fn (.func 38) [.ptr 0 0]] (hp ([(0,fun g=>[.osl (g 4) 5 0 (R).length]),(4,fun _=>fl rwc R)]) id) 8 (FQ ([(0,fun g=>[.osl (g 8) 5 0 (R++rowsT q t).length]),(8,fun _=>fl rwc (R++rowsT q t))]) 8 (fun _=>True)):=by
 intro N;refine Nat.strongRecOn N fun N ih=>?_;intro q t R hN hwf hw hR;have hWe:=W_eq t;have hpl:=wS_len q;have hks:=Ws_len t.kids;have hns:=wS_len t.names;have hkn:=wfT_lenS hwf
 refine TCw_enter (c:=bd Tryz.f37) Tryz.func37 kr kr (tt_eq (F:=[(0,.agg (tcs t)),(1,pth q),(2,.fn (.func 38) [.ptr 0 0])]) kr ?_)
 refine Rr (Fn2 [1,2] [(3,.ptr 8 0)] ([(8,tcs t)]++·) 12 (Rr (Bc1 4 [(10,.agg (tcs t)),(9,pth q),(8,.fn (.func 38) [.ptr 0 0])] 38 [pth q,.agg (tcs t),.ptr 0 0] 11 ((0+5<=5/\0<5)/\·) ⟨dc,FX.use [(0,0),(4,4)] [0,4] [(8,tcs t)] [(0,[.osl 12 5 0 ((R++[rowOf q t]).length)]),(12,fl rwc (R++[rowOf q t])),(8,tcs t)] 16 (tr_fx q t R hwf om om om) kr kr kr kr kr fun rr3 _=>?_⟩)))
 refine Ke (Fn0 [1,2,3] [] (Rr (Av1 3 14 [(13,pth t.names),(12,.ptr 8 3)] (lnm t.names sc) (((1:Nat)≠0)/\(3+1<=5/\3<5)/\·) ⟨dc,dc,Fn0 [1,2,3,13,14] [(15,.i 0)] ?_⟩)))
 refine Bl (h_l (fun(k:Nat)=>([(1,pth q),(2,.fn (.func 38) [.ptr 0 0]),(3,.ptr 8 0),(13,pth t.names),(14,.i t.names.length),(15,.i k)]:Fr)) (fun(k:Nat)=>([(0,[.osl 12 5 0 ((R++[rowOf q t]++rowsK q (t.names.take k) (t.kids.take k)).length)]),(12,fl rwc (R++[rowOf q t]++rowsK q (t.names.take k) (t.kids.take k))),(8,tcs t)]:Hp)) (fun(k:Nat) cn=>(k<=t.names.length)/\cn=16) (fun(k:Nat)=>t.names.length-k) 0 kr ?_ ?_ ?_ ?_)
 refine⟨?_,rfl⟩;exact Nat.zero_le _
 exact⟨kr,kr,kr,kr,kr,kr,trivial⟩
 exact(sub_c (by rw[List.take_zero,List.take_zero,rowsK_nil,List.append_nil]) (sub_c (by rw[List.take_zero,List.take_zero,rowsK_nil,List.append_nil]) (sub_c kr (List.nil_sublist _))))
 rintro k n1 hI
 (try dsimp only at hI)
 obtain⟨hi1,rfl⟩:=hI
 refine Rr (Fn1 [1,2,3,13,14,15] [(16,.bool (decide ((k:Int)<(t.names.length:Int))))] (Ki/\·) ⟨rfl,Sq fun K6 hK6=>?_⟩)
 refine Cc (decide ((k:Int)<(t.names.length:Int))) (fun hc7 c7=>?_) fun hc7 c7=>?_
 refine Sk (Jn (hK6 (Kp [1,2,3,13,14,15] (Sq fun K8 hK8=>?_))))
 refine Bl (Rr (Av1 2 18 [(17,.i k)] (congrArg AV.pat (mg_str t.names k om)) ((1=1/\(0:Int)<=(k:Int)/\(k:Int)<((t.names.map (fun s=>[AV.str s])).length:Int))/\·) ⟨⟨rfl,om,lmo⟩,Fn1 [1,2,3,13,14,15] [(7,.str (t.names.getD k default)),(6,.i k)] ((1<=1/\0<1)/\·) ⟨dc,?_⟩⟩))
 have hW:=Ws_get t.kids k om;have hSn:=wS_get t.names k om;have hSs:=pwS_snocS q (t.names.getD k default);have hc8:=wfT_cnt t k om;have hc9:=rowsK_len q (t.names.take k) (t.kids.take k)
 refine Qb [0,1,0,7,15,0,0,96,0,511] [(0,[]),(1,[]),(2,[]),(3,[]),(4,[]),(5,[]),(6,[]),(8,[]),(7,[1,4]),(9,[])] (fun h=>Bn (Jn (hK8 h))) (qAv1 4 23 [(22,.i k),(21,.sl 5 (t.kids.map trc)),(20,.ptr 8 4)] (congrArg AV.pat (mg_trc t.kids k om)) (((1:Nat)≠0)/\(4+1<=5/\4<5)/\(5=5/\(0:Int)<=(k:Int)/\(k:Int)<((t.kids.map trc).length:Int))/\·) ⟨dc,dc,⟨rfl,om,lmo⟩,qBc1 5 [(28,.fn (.func 38) [.ptr 0 0]),(26,.str (t.names.getD k default)),(25,pth q),(24,.agg (tcs (t.kids.getD k default)))] [1,4] 67 [pth q,.str (t.names.getD k default)] 27 ((5<=5/\0<5)/\·) ⟨dc,PE.use (below_ok q (t.names.getD k default) om) (Kq (p:=(((4+1<=5/\4<5)/\(AV.sl 5 (t.kids.map trc)=(.sl 5 (t.kids.map trc):AV)))/\((5<=5/\0<5)/\(AV.agg (tcs (t.kids.getD k default))=(.agg (tcs (t.kids.getD k default)):AV)))/\True)) ⟨⟨dc,rfl⟩,⟨dc,rfl⟩,trivial⟩ ?_)⟩⟩)
 refine qBc0 1 [] [] 37 [.agg (tcs (t.kids.getD k default)),pth (q++[t.names.getD k default]),.fn (.func 38) [.ptr 0 0]] 29 ?_
 have hW:=Ws_get t.kids k om
 have hSn:=wS_get t.names k om
 have hSs:=pwS_snocS q (t.names.getD k default)
 have hc8:=wfT_cnt t k om
 have hc9:=rowsK_len q (t.names.take k) (t.kids.take k)
 refine FX.use [(0,0),(4,12)] [0,12] [(8,tcs t)] [(0,[.osl 16 5 0 ((R++[rowOf q t]++rowsK q (t.names.take k) (t.kids.take k)++rowsT (q++[t.names.getD k default]) (t.kids.getD k default)).length)]),(16,fl rwc (R++[rowOf q t]++rowsK q (t.names.take k) (t.kids.take k)++rowsT (q++[t.names.getD k default]) (t.kids.getD k default))),(8,tcs t)] 20 (ert_mk (q++[t.names.getD k default]) (t.kids.getD k default) (R++[rowOf q t]++rowsK q (t.names.take k) (t.kids.take k)) (ih _ om (q++[t.names.getD k default]) (t.kids.getD k default) (R++[rowOf q t]++rowsK q (t.names.take k) (t.kids.take k)) rfl (wfT_kidS hwf om) om (by simp only[List.length_append,List.length_cons,List.length_nil];omega))) kr kr kr kr kr fun rr10 _=>?_
 refine Kq (p:=(True)) trivial ?_
 refine qFn0 [1,2,3,13,14,15] [] (Rn (Av1 1 30 [] (cI (wn1 k om)) (Ki/\·) ⟨rfl,Gn0 [(15,.i ((k+1:Nat):Int))] (nk_n ?_)⟩))
 refine Lr (k+1) [(0,0),(8,8),(16,12)] 16 [(1,pth q),(2,.fn (.func 38) [.ptr 0 0]),(3,.ptr 8 0),(13,pth t.names),(14,.i t.names.length),(15,.i ((k+1:Nat):Int))] [(0,[.osl 16 5 0 ((R++[rowOf q t]++rowsK q (t.names.take k) (t.kids.take k)++rowsT (q++[t.names.getD k default]) (t.kids.getD k default)).length)]),(16,fl rwc (R++[rowOf q t]++rowsK q (t.names.take k) (t.kids.take k)++rowsT (q++[t.names.getD k default]) (t.kids.getD k default))),(8,tcs t)] [true,false,true] ?_ ?_ (by(try ((try dsimp only);rw[rowsK_take q t k om hkn,<-List.append_assoc]));try kernel_rfl) kr
 (try dsimp only);omega
 refine⟨?_,rfl⟩;(try dsimp only);omega
 refine Xt (Jx (Lx (Bh (Rtn (fun Z=>Z) (.tup []) ?_))))
 have hy:R++[rowOf q t]++rowsK q (t.names.take k) (t.kids.take k)=R++rowsT q t:=by rw[List.take_of_length_le om,List.take_of_length_le om,rowsT_eq,List.append_assoc]
 exact⟨_,List.Sublist.refl _,fx_end (.tup []) [(8,12)] [0,12] (HCx.refl _) ⟨lea_refl _,rfl,trivial⟩ kr (by rw[<-hy];kernel_rfl)⟩
theorem ert_fx (q:List Str) (t:Tr) (R:List Rw) (hwf:wfT t) (hw:wS q+t.W<2^20) (hR:R.length+cnt t<2^39):FX G 37 (fun g=>[.agg (tcs t),pth q,.fn (.func 38) [.ptr (g 0) 0]]) [(0,fun g=>[.osl (g 4) 5 0 (R).length]),(4,fun _=>fl rwc R)] [(0,fun g=>[.osl (g 8) 5 0 (R++rowsT q t).length]),(8,fun _=>fl rwc (R++rowsT q t))] 8 12 fun _=>True:=ert_mk q t R (ert1_ok _ q t R rfl hwf hw hR)
open Go Go.Proofs
set_option maxRecDepth 100000
def tabOf (t:Tr):List Rw:=bif treeOk t then rowsT [] t else[]
def tidOf (t:Tr):Int:=bif treeOk t then((idF (shwT [] t):Nat):Int)else-1
theorem table_ok (t:Tr) (hwf:wfT t) (hw:t.W<2^19):PE G 18 [.agg (tcs t)] (.sl 5 ((rowsT [] t).map rwc)):=by
 have hcn:=cnt_W t;have hw0:wS []=0:=rfl
 refine Pe Tryz.func18 ?_
 refine Rr (Fn2 [] [(1,.ptr 0 0)] ([(0,tcs t)]++·) 4 (Rr (Fn3 [1] [(3,.ptr 8 0)] ([(8,[.osl 4 5 0 0]),(4,[])]++·) 12 ((0*5<=16777216)/\(true=true/\1=1/\0+1<=1)/\·) ⟨dc,dc,Rr ?_⟩)))
 refine Bc1 3 [(6,.fn (.func 38) [.ptr 8 0]),(5,.agg (tcs t))] 37 [.agg (tcs t),.nils,.fn (.func 38) [.ptr 8 0]] 7 ((0+5<=5/\0<5)/\·) ⟨dc,?_⟩
 refine TCall_le [.agg (tcs t),pth [],.fn (.func 38) [.ptr 8 0]] (by simp[lea,leas,pth,Tr.none,tcs,clc]) ?_
 refine FX.use [(0,8),(4,4)] [8,4] [(0,tcs t)] [(8,[.osl 12 5 0 (([]++rowsT [] t).length)]),(12,fl rwc ([]++rowsT [] t)),(0,tcs t)] 16 (ert_fx [] t [] hwf om (by simp only[List.length_nil];omega)) kr kr kr kr kr fun rr4 _=>?_
 refine Ke (Fn0 [3] [] (Rr (Fn1 [] [(2,.osl 12 5 0 (([]++rowsT [] t).length))] ((0+1<=1/\0<1)/\·) ⟨dc,Fz 12 5 (([]++rowsT [] t).length) (([]++rowsT [] t).map rwc) (fl rwc ([]++rowsT [] t)) [(2,.osl 12 5 0 (([]++rowsT [] t).length))] [] [] (chkR _) (flR_le _) ?_⟩)))
 refine Rt (.sl 5 (([]++rowsT [] t).map rwc)) (fin_lea ?_)
 exact lea_refl _
theorem iTM_ok (t:Tr) (hw:t.W<2^19):PE G 6 [.agg (tcs t)] (.sl 5 ((tabOf t).map rwc)):=by
 refine Pe Tryz.func6 ?_
 refine Rr (Fn2 [] [(1,.ptr 0 0)] ([(0,tcs t)]++·) 4 (Sq fun K2 hK2=>?_))
 refine Rr (Pc1 2 [(3,.agg (tcs t))] 4 (0+5<=5/\0<5) dc (TreeOk_ok t om) (Cn0 (!(treeOk t)) [1] [] ⟨fun hc4 c4=>?_,fun hc4 c4=>?_⟩))
 refine Rr (Fn3 [] [(2,.osl 4 5 0 0)] ([(4,[])]++·) 8 ((0*5<=16777216)/\·) ⟨dc,Fz 4 5 0 ([]) ([]) [(2,.osl 4 5 0 0)] [] [] kr dc (Rt (.sl 5 ([].map rwc)) (fin_lea ?_))⟩)
 rw[show tabOf t=[] by unfold tabOf;rw[show treeOk t=false by have h:=hc4;simp_all];rfl];first|exact lea_refl _|simp[lea,leas]
 refine Sk (Jn (hK2 (Kp [1] ?_)))
 have hok:treeOk t=true:=(by have h:=hc4;simp_all);have hwf:=treeOk_wfS hok;have hw0:wS []=0:=rfl
 refine Rr (Pc1 2 [(7,.agg (tcs t))] 8 (0+5<=5/\0<5) dc (table_ok t hwf om) (Fn0 [] [(2,.sl 5 ((rowsT [] t).map rwc))] (Rt (.sl 5 ((rowsT [] t).map rwc)) (fin_lea ?_))))
 rw[show tabOf t=rowsT [] t by unfold tabOf;rw[show treeOk t=true by have h:=hc4;simp_all];rfl];first|exact lea_refl _|simp[lea,leas]
theorem iTI_ok (t:Tr) (hw:t.W<2^19):PE G 5 [.agg (tcs t)] (.i (tidOf t)):=by
 refine Pe Tryz.func5 ?_
 refine Rr (Fn2 [] [(1,.ptr 0 0)] ([(0,tcs t)]++·) 4 (Sq fun K2 hK2=>?_))
 refine Rr (Pc1 2 [(3,.agg (tcs t))] 4 (0+5<=5/\0<5) dc (TreeOk_ok t om) (Cn0 (!(treeOk t)) [1] [] ⟨fun hc4 c4=>?_,fun hc4 c4=>?_⟩))
 refine Rr (Fn0 [] [(2,.i (-1))] (Rt (.i (-1)) (fin_lea ?_)))
 rw[show tidOf t= -1 by unfold tidOf;rw[show treeOk t=false by have h:=hc4;simp_all];rfl];first|exact lea_refl _|simp[lea,leas]
 refine Sk (Jn (hK2 (Kp [1] ?_)))
 have hok:treeOk t=true:=(by have h:=hc4;simp_all);have hwf:=treeOk_wfS hok;have hw0:wS []=0:=rfl
 refine Rr (Pc1 2 [(6,.agg (tcs t))] 7 (0+5<=5/\0<5) dc (id_ok t hwf om) (Fn0 [] [(2,.i ((idF (shwT [] t):Nat):Int))] (Rt (.i ((idF (shwT [] t):Nat):Int)) (fin_lea ?_))))
 rw[show tidOf t=((idF (shwT [] t):Nat):Int) by unfold tidOf;rw[show treeOk t=true by have h:=hc4;simp_all];rfl];first|exact lea_refl _|simp[lea,leas]
theorem l3Path_ok (p:List Str) (n:Str) (hp:p.length<2^41):PE G 42 [pth p,.str n] (pth (p++[n])):=by
 refine Pe Tryz.func42 ?_
 refine Rr (Fn0 [0,1] [] (Rr (An3 3 [(7,.osl 4 1 0 (0+(p.map (fun s=>[AV.str s])).length)),(6,pth p),(5,.osl 0 1 0 0)] ([(4,apd [] (0*1) ((p.map (fun s=>[AV.str s])).flatten))]++·) 8 ((0*1<=16777216)/\True/\(1=1/\0*1<=0/\0<16/\(0+(p.map (fun s=>[AV.str s])).length)*16<=140737488355328)/\·) ⟨dc,trivial,⟨rfl,gl,dc,gl⟩,run_v (v':=.osl 4 1 0 p.length) (by rw[Nat.zero_add,List.length_map]) ?_⟩)))
 refine run_h (cs':=fl sc p) (app0_str _) ?_
 refine An3 3 [(10,.osl 12 1 0 (p.length+1)),(9,.osl 8 1 0 1),(8,.str n)] (fun _=>[(12,apd (fl sc p) (p.length*1) [.str n]),(8,[.str n])]) 16 ((1*1<=16777216)/\(0+1*1<=1)/\(1=1/\p.length*1<=(fl sc p).length/\0<16/\(p.length+1)*16<=140737488355328)/\·) ⟨dc,dc,⟨rfl,gl,dc,gl⟩,run_v (v':=.osl 12 1 0 ((p++[n]).length)) (push_len _ _ _ _) (run_h (cs':=fl sc (p++[n])) (push_str p n) (Fn0 [] [(4,.osl 12 1 0 ((p++[n]).length))] (FzS 12 (p++[n]) [(4,.osl 12 1 0 ((p++[n]).length))] [] [] ?_)))⟩
 refine Rt (pth (p++[n])) ?_
 exact fin_lea (lea_refl _)
theorem l31Rows_ok:∀(N:Nat) (q:List Str) (t:Tr),t.W=N->wfT t->wS q+t.W<2^20->PE G 21 [pth q,.agg (tcs t)] (.sl 5 ((rowsT q t).map rwc)):=by
 intro N;refine Nat.strongRecOn N fun N ih=>?_;intro q t hN hwf hw;have hWe:=W_eq t;have hpl:=wS_len q;have hks:=Ws_len t.kids;have hns:=wS_len t.names;have hkn:=wfT_lenS hwf;have hcn:=cnt_W t
 refine Pe Tryz.func21 ?_
 refine Rr (Fn2 [0] [(3,.ptr 0 0)] ([(0,tcs t)]++·) 4 (Qr [0,0,3,0,8,0,32,0,128,0,519,2047,4095,8191] [(1,[]),(3,[]),(4,[]),(5,[]),(6,[]),(7,[]),(8,[]),(9,[]),(0,[4,6,8,9]),(2,[4,6,8,9]),(10,[4,6,8]),(11,[]),(12,[]),(13,[])] (qAn3 10 [(9,.osl 8 1 0 (0+(q.map (fun s=>[AV.str s])).length)),(7,.osl 4 1 0 0),(16,.agg (tcs t)),(15,.str t.data),(14,.ptr 0 2),(13,.i t.mode),(12,.ptr 0 1),(11,.bool t.dir),(10,.ptr 0 0),(8,pth q)] ([(8,apd [] (0*1) ((q.map (fun s=>[AV.str s])).flatten))]++·) 12 (((1:Nat)≠0)/\(0+1<=5/\0<5)/\((1:Nat)≠0)/\(1+1<=5/\1<5)/\((1:Nat)≠0)/\(2+1<=5/\2<5)/\(0+5<=5/\0<5)/\(0*1<=16777216)/\(((0+1<=5/\0<5)/\(AV.bool t.dir=(.bool t.dir:AV)))/\((1+1<=5/\1<5)/\(AV.int .i64 t.mode=(.i t.mode:AV)))/\((2+1<=5/\2<5)/\(AV.str t.data=(.str t.data:AV)))/\((0+5<=5/\0<5)/\(AV.agg (tcs t)=(.agg (tcs t):AV)))/\True)/\True/\(1=1/\0*1<=0/\0<16/\(0+(q.map (fun s=>[AV.str s])).length)*16<=140737488355328)/\(((0+1<=5/\0<5)/\(AV.bool t.dir=(.bool t.dir:AV)))/\((1+1<=5/\1<5)/\(AV.int .i64 t.mode=(.i t.mode:AV)))/\((2+1<=5/\2<5)/\(AV.str t.data=(.str t.data:AV)))/\((0+5<=5/\0<5)/\(AV.agg (tcs t)=(.agg (tcs t):AV)))/\True)/\·) ⟨dc,dc,dc,dc,dc,dc,dc,dc,⟨⟨dc,rfl⟩,⟨dc,rfl⟩,⟨dc,rfl⟩,⟨dc,rfl⟩,trivial⟩,trivial,⟨rfl,gl,dc,gl⟩,⟨⟨dc,rfl⟩,⟨dc,rfl⟩,⟨dc,rfl⟩,⟨dc,rfl⟩,trivial⟩,runq_v (v':=.osl 8 1 0 q.length) (by rw[Nat.zero_add,List.length_map]) ?_⟩)))
 refine runq_h (cs':=fl sc q) (app0_str _) ?_
 refine qBc0 1 [] [4,6,8] 19 [.agg (tcs t)] 17 ?_
 refine PE.use (l31Of_ok t hwf om) ?_
 refine Kq (p:=(((0+1<=5/\0<5)/\(AV.bool t.dir=(.bool t.dir:AV)))/\((1+1<=5/\1<5)/\(AV.int .i64 t.mode=(.i t.mode:AV)))/\((2+1<=5/\2<5)/\(AV.str t.data=(.str t.data:AV)))/\True)) ⟨⟨dc,rfl⟩,⟨dc,rfl⟩,⟨dc,rfl⟩,trivial⟩ ?_
 refine qFn3 [0,3] [(5,.osl 12 5 0 1)] ([(12,[.osl 8 1 0 q.length,.bool t.dir,.i t.mode,.str t.data,.i ((idF (shwT [] t):Nat):Int)])]++·) 16 ((1*5<=16777216)/\(True)/\·) ⟨dc,trivial,h_k [0,3,5] (F':=[(0,pth q),(3,.ptr 0 0),(5,.osl 12 5 0 1)]) kr (FzR 8 12 [] q t.dir t.mode t.data ((idF (shwT [] t):Nat):Int) [(0,pth q),(3,.ptr 0 0),(5,.osl 12 5 0 1)] [(0,tcs t)] [false] (Sq fun K3 hK3=>?_))⟩
 refine Rr (Fn0 [0,3,5] [(6,.i 0)] (Bl (h_l (fun(k:Nat)=>([(0,pth q),(3,.ptr 0 0),(5,.osl 12 5 0 (([rowOf q t]++rowsK q (t.names.take k) (t.kids.take k)).length)),(6,.i k)]:Fr)) (fun(k:Nat)=>([(12,fl rwc ([rowOf q t]++rowsK q (t.names.take k) (t.kids.take k))),(0,tcs t)]:Hp)) (fun(k:Nat) cn=>(k<=t.names.length)/\cn=16) (fun(k:Nat)=>t.names.length-k) 0 kr ?_ ?_ ?_ ?_)))
 refine⟨?_,rfl⟩;exact Nat.zero_le _
 exact⟨kr,kr,(by rw[List.take_zero,List.take_zero,rowsK_nil,List.append_nil];kernel_rfl),kr,trivial⟩
 exact(sub_c (by rw[List.take_zero,List.take_zero,rowsK_nil,List.append_nil];rfl) (sub_c kr (List.nil_sublist _)))
 rintro k n1 hI
 (try dsimp only at hI)
 obtain⟨hi1,rfl⟩:=hI
 refine Sq fun K5 hK5=>?_
 refine Rr (Av1 4 23 [(22,pth t.names),(21,.ptr 0 3),(20,.i k)] (lnm t.names sc) (((1:Nat)≠0)/\(3+1<=5/\3<5)/\·) ⟨dc,dc,Cn1 (decide ((k:Int)<(t.names.length:Int))) [0,3,5,6] [] (Ki/\·) ⟨rfl,fun hc7 c7=>?_,fun hc7 c7=>?_⟩⟩)
 refine Sk (Jn (hK5 (Kp [0,3,5,6] (Sq fun K8 hK8=>?_))))
 refine Bl ?_
 have hW:=Ws_get t.kids k om;have hSn:=wS_get t.names k om;have hSs:=pwS_snocS q (t.names.getD k default);have hc8:=wfT_cnt t k om;have hc9:=rowsK_len q (t.names.take k) (t.kids.take k)
 refine Qlb [0,0,0,4,0,28,60,126,0,256,0,1792,3840,8190,16383] [(0,[]),(1,[]),(2,[]),(3,[]),(4,[]),(5,[]),(6,[]),(8,[]),(9,[]),(10,[]),(11,[]),(12,[]),(7,[9,12]),(13,[]),(14,[])] (fun h=>Bn (Jn (hK8 h))) ?_
 refine qAv1 6 32 [(31,.i k),(30,pth t.names),(29,.ptr 0 3),(28,pth q),(27,.osl 12 5 0 (([rowOf q t]++rowsK q (t.names.take k) (t.kids.take k)).length))] (congrArg AV.pat (mg_str t.names k om)) (((1:Nat)≠0)/\(3+1<=5/\3<5)/\(1=1/\(0:Int)<=(k:Int)/\(k:Int)<((t.names.map (fun s=>[AV.str s])).length:Int))/\·) ⟨dc,dc,⟨rfl,om,lmo⟩,qAv1 5 38 [(37,.i k),(36,.sl 5 (t.kids.map trc)),(35,.ptr 0 4),(33,.str (t.names.getD k default))] (congrArg AV.pat (mg_trc t.kids k om)) ((1<=1/\0<1)/\((1:Nat)≠0)/\(4+1<=5/\4<5)/\(5=5/\(0:Int)<=(k:Int)/\(k:Int)<((t.kids.map trc).length:Int))/\·) ⟨dc,dc,dc,⟨rfl,om,lmo⟩,qBc1 2 [(39,.agg (tcs (t.kids.getD k default)))] [9,12] 42 [pth q,.str (t.names.getD k default)] 34 ((5<=5/\0<5)/\·) ⟨dc,PE.use (l3Path_ok q (t.names.getD k default) om) (Kq (p:=(((4+1<=5/\4<5)/\(AV.sl 5 (t.kids.map trc)=(.sl 5 (t.kids.map trc):AV)))/\((5<=5/\0<5)/\(AV.agg (tcs (t.kids.getD k default))=(.agg (tcs (t.kids.getD k default)):AV)))/\True)) ⟨⟨dc,rfl⟩,⟨dc,rfl⟩,trivial⟩ ?_)⟩⟩⟩
 refine qBc0 1 [] [] 21 [pth (q++[t.names.getD k default]),.agg (tcs (t.kids.getD k default))] 40 ?_
 have hW:=Ws_get t.kids k om
 have hSn:=wS_get t.names k om
 have hSs:=pwS_snocS q (t.names.getD k default)
 have hc8:=wfT_cnt t k om
 have hc9:=rowsK_len q (t.names.take k) (t.kids.take k)
 have hcA:=rowsT_len (q++[t.names.getD k default]) (t.kids.getD k default)
 refine PE.use (ih _ om (q++[t.names.getD k default]) (t.kids.getD k default) rfl (wfT_kidS hwf om) om) ?_
 refine Kq (p:=(True)) trivial ?_
 refine qAn3 1 [(41,.osl 16 5 0 (([rowOf q t]++rowsK q (t.names.take k) (t.kids.take k)).length+((rowsT (q++[t.names.getD k default]) (t.kids.getD k default)).map rwc).length))] ([(16,apd (fl rwc ([rowOf q t]++rowsK q (t.names.take k) (t.kids.take k))) (([rowOf q t]++rowsK q (t.names.take k) (t.kids.take k)).length*5) (((rowsT (q++[t.names.getD k default]) (t.kids.getD k default)).map rwc).flatten))]++Hw [] [12] ·) 20 (True/\(5=5/\([rowOf q t]++rowsK q (t.names.take k) (t.kids.take k)).length*5<=(fl rwc ([rowOf q t]++rowsK q (t.names.take k) (t.kids.take k))).length/\0<64/\(([rowOf q t]++rowsK q (t.names.take k) (t.kids.take k)).length+((rowsT (q++[t.names.getD k default]) (t.kids.getD k default)).map rwc).length)*64<=140737488355328)/\(True)/\·) ⟨trivial,⟨rfl,by(first|omega|(simp only[LL,flRl];omega)),dc,by(first|omega|(simp only[LL,flRl];omega))⟩,trivial,runq_v (v':=.osl 16 5 0 (([rowOf q t]++rowsK q (t.names.take k) (t.kids.take k)++(rowsT (q++[t.names.getD k default]) (t.kids.getD k default))).length)) (by simp only[List.length_append,List.length_map]) (runq_h (cs':=fl rwc ([rowOf q t]++rowsK q (t.names.take k) (t.kids.take k)++(rowsT (q++[t.names.getD k default]) (t.kids.getD k default)))) (app_rw _ _) (qGn0 [] (Lo 5 (.osl 16 5 0 (([rowOf q t]++rowsK q (t.names.take k) (t.kids.take k)++(rowsT (q++[t.names.getD k default]) (t.kids.getD k default))).length)) (fun Z=>Z) ?_)))⟩
 refine Cfi [0,3,5,6] ?_
 refine Rn (Av1 2 26 [(25,.i k)] (cI (wn1 k om)) (Ki/\·) ⟨rfl,Gn0 [(6,.i ((k+1:Nat):Int))] (nk_n (Lr (k+1) [(0,0),(16,12)] 16 [(0,pth q),(3,.ptr 0 0),(5,.osl 16 5 0 (([rowOf q t]++rowsK q (t.names.take k) (t.kids.take k)++(rowsT (q++[t.names.getD k default]) (t.kids.getD k default))).length)),(6,.i ((k+1:Nat):Int))] [(16,fl rwc ([rowOf q t]++rowsK q (t.names.take k) (t.kids.take k)++(rowsT (q++[t.names.getD k default]) (t.kids.getD k default)))),(0,tcs t)] [false,true] ?_ ?_ (by(try ((try dsimp only);rw[rowsK_take q t k om hkn,<-List.append_assoc]));try kernel_rfl) (by(try ((try dsimp only);rw[rowsK_take q t k om hkn,<-List.append_assoc]));try kernel_rfl)))⟩)
 (try dsimp only);omega
 refine⟨?_,rfl⟩;(try dsimp only);omega
 refine Xt (Jx (Lx (Bh (Jn (hK3 (Kp [5] (Rr (Fn0 [] [(4,.osl 12 5 0 (([rowOf q t]++rowsK q (t.names.take k) (t.kids.take k)).length))] (Fz 12 5 (([rowOf q t]++rowsK q (t.names.take k) (t.kids.take k)).length) (([rowOf q t]++rowsK q (t.names.take k) (t.kids.take k)).map rwc) (fl rwc ([rowOf q t]++rowsK q (t.names.take k) (t.kids.take k))) [(4,.osl 12 5 0 (([rowOf q t]++rowsK q (t.names.take k) (t.kids.take k)).length))] [] [] (chkR _) (flR_le _) (Rt (.sl 5 (([rowOf q t]++rowsK q (t.names.take k) (t.kids.take k)).map rwc)) ?_))))))))))
 (refine fin_lea ?_;rw[List.take_of_length_le om,List.take_of_length_le om,<-rowsT_eq];exact lea_refl _)
theorem sTM_ok (t:Tr) (hw:t.W<2^19):PE G 9 [.agg (tcs t)] (.sl 5 ((tabOf t).map rwc)):=by
 refine Pe Tryz.func9 ?_
 refine Rr (Fn2 [] [(1,.ptr 0 0)] ([(0,tcs t)]++·) 4 (Sq fun K2 hK2=>?_))
 refine Rr (Pc1 2 [(3,.agg (tcs t))] 4 (0+5<=5/\0<5) dc (sTreeOk_c t om) (Cn0 (!(treeOk t)) [1] [] ⟨fun hc4 c4=>?_,fun hc4 c4=>?_⟩))
 refine Rr (Fn3 [] [(2,.osl 4 5 0 0)] ([(4,[])]++·) 8 ((0*5<=16777216)/\·) ⟨dc,Fz 4 5 0 ([]) ([]) [(2,.osl 4 5 0 0)] [] [] kr dc (Rt (.sl 5 ([].map rwc)) (fin_lea ?_))⟩)
 rw[show tabOf t=[] by unfold tabOf;rw[show treeOk t=false by have h:=hc4;simp_all];rfl];first|exact lea_refl _|simp[lea,leas]
 refine Sk (Jn (hK2 (Kp [1] ?_)))
 have hok:treeOk t=true:=(by have h:=hc4;simp_all);have hwf:=treeOk_wfS hok;have hw0:wS []=0:=rfl
 refine Rr (Bc3 3 [(8,.agg (tcs t)),(7,.osl 4 1 0 0)] 21 [.osl 4 1 0 0,.agg (tcs t)] 9 ([(4,[])]++·) 8 ((0*1<=16777216)/\(0+5<=5/\0<5)/\·) ⟨dc,dc,Tz 4 1 0 ([]) ([]) [pth [],.agg (tcs t)] [(0,tcs t)] [true] kr dc (PE.use (l31Rows_ok _ [] t rfl hwf om) (Ke ?_))⟩)
 refine Fn0 [] [(2,.sl 5 ((rowsT [] t).map rwc))] (Rt (.sl 5 ((rowsT [] t).map rwc)) (fin_lea ?_))
 rw[show tabOf t=rowsT [] t by unfold tabOf;rw[show treeOk t=true by have h:=hc4;simp_all];rfl];first|exact lea_refl _|simp[lea,leas]
theorem sTI_ok (t:Tr) (hw:t.W<2^19):PE G 7 [.agg (tcs t)] (.i (tidOf t)):=by
 refine Pe Tryz.func7 ?_
 refine Rr (Fn2 [] [(1,.ptr 0 0)] ([(0,tcs t)]++·) 4 (Sq fun K2 hK2=>?_))
 refine Rr (Pc1 2 [(3,.agg (tcs t))] 4 (0+5<=5/\0<5) dc (sTreeOk_c t om) (Cn0 (!(treeOk t)) [1] [] ⟨fun hc4 c4=>?_,fun hc4 c4=>?_⟩))
 refine Rr (Fn0 [] [(2,.i (-1))] (Rt (.i (-1)) (fin_lea ?_)))
 rw[show tidOf t= -1 by unfold tidOf;rw[show treeOk t=false by have h:=hc4;simp_all];rfl];first|exact lea_refl _|simp[lea,leas]
 refine Sk (Jn (hK2 (Kp [1] ?_)))
 have hok:treeOk t=true:=(by have h:=hc4;simp_all);have hwf:=treeOk_wfS hok;have hw0:wS []=0:=rfl
 refine Rr (Pc1 2 [(6,.agg (tcs t))] 7 (0+5<=5/\0<5) dc (l31Of_ok t hwf om) (Fn0 [] [(2,.i ((idF (shwT [] t):Nat):Int))] (Rt (.i ((idF (shwT [] t):Nat):Int)) (fin_lea ?_))))
 rw[show tidOf t=((idF (shwT [] t):Nat):Int) by unfold tidOf;rw[show treeOk t=true by have h:=hc4;simp_all];rfl];first|exact lea_refl _|simp[lea,leas]
open Go Go.Proofs
set_option maxRecDepth 100000
def idxR (p:List Str):Nat->List Rw->Int
  |_,[]=> -1
  |i,x::l=>bif x.path==p then(i:Int)else idxR p (i+1) l
theorem dropR (l:List Rw) (k:Nat) (h:k<l.length):l.drop k=l.getD k default::l.drop (k+1):=by
  rw[List.drop_eq_getElem_cons h];simp[List.getD,List.getElem?_eq_getElem h]
theorem eqP_ok (p q:List Str) (hp:p.length<2^40) (hq:q.length<2^40):PE G 29 [pth p,pth q] (.bool (p==q)):=by
 refine Pe Tryz.func29 ?_
 refine Rr (Fn0 [0,1] [] (Sq fun K2 hK2=>?_))
 refine Rr (Av0 2 7 [(6,pth p)] (lnm p sc) (Av0 2 9 [(8,pth q)] (lnm q sc) (Cn1 (!decide ((p.length:Int)=(q.length:Int))) [0,1] [] (Ki/\·) ⟨rfl,fun hc4 c4=>?_,fun hc4 c4=>?_⟩)))
 refine Rr (Fn0 [] [(4,.bool false)] (Rt (.bool false) (fin_lea ?_)))
 rw[show(p==q)=false by rw[beq_eq_false_iff_ne];intro e;subst e;omega];exact lea_refl _
 refine Sk (Jn (hK2 (Kp [0,1] (Sq fun K6 hK6=>?_))))
 refine Rr (Av0 2 12 [(11,pth p)] (lnm p sc) (Fn0 [0,1,12] [(13,.i 0)] (Bl (h_l (fun(k:Nat)=>([(0,pth p),(1,pth q),(12,.i p.length),(13,.i k)]:Fr)) (fun(k:Nat)=>([]:Hp)) (fun(k:Nat) cn=>(k<=p.length/\p.take k=q.take k)/\cn=0) (fun(k:Nat)=>p.length-k) 0 kr ?_ ?_ ?_ ?_))))
 refine⟨?_,rfl⟩;exact⟨Nat.zero_le _,rfl⟩
 exact⟨kr,kr,kr,kr,trivial⟩
 exact(List.nil_sublist _)
 rintro k n1 hI
 (try dsimp only at hI)
 obtain⟨⟨hi1,hi2⟩,rfl⟩:=hI
 refine Rr (Fn1 [0,1,12,13] [(14,.bool (decide ((k:Int)<(p.length:Int))))] (Ki/\·) ⟨rfl,Sq fun K9 hK9=>?_⟩)
 refine Cc (decide ((k:Int)<(p.length:Int))) (fun hc10 c10=>?_) fun hc10 c10=>?_
 refine Sk (Jn (hK9 (Kp [0,1,12,13] (Sq fun K11 hK11=>?_))))
 refine Bl (Rr (Fn0 [0,1,12,13] [(5,.i k)] (Qr [0,0,3,7,0,0,48,112,255] [(0,[]),(1,[]),(2,[]),(3,[]),(4,[]),(5,[]),(6,[]),(7,[]),(8,[])] (qAv1 3 18 [(17,.i k),(16,pth p)] (congrArg AV.pat (mg_str p k om)) ((1=1/\(0:Int)<=(k:Int)/\(k:Int)<((p.map (fun s=>[AV.str s])).length:Int))/\·) ⟨⟨rfl,om,lmo⟩,?_⟩))))
 refine qAv1 4 22 [(21,.i k),(20,pth q),(19,.str (p.getD k default))] (congrArg AV.pat (mg_str q k om)) ((1<=1/\0<1)/\(1=1/\(0:Int)<=(k:Int)/\(k:Int)<((q.map (fun s=>[AV.str s])).length:Int))/\·) ⟨dc,⟨rfl,om,lmo⟩,qCn1 (!((p.getD k default)==(q.getD k default))) [0,1,12,13] [] ((1<=1/\0<1)/\·) ⟨dc,fun hc14 c14=>?_,fun hc14 c14=>?_⟩⟩
 refine Rr (Fn0 [] [(4,.bool false)] (Rt (.bool false) (fin_lea ?_)))
 rw[show(p==q)=false by rw[beq_eq_false_iff_ne];intro e;subst e;simp at c14];exact lea_refl _
 refine Sk (Bn (Jn (hK11 (Kp [0,1,12,13] (Rn (Av1 1 25 [] (cI (wn1 k om)) (Ki/\·) ⟨rfl,Gn0 [(13,.i ((k+1:Nat):Int))] (nk_n ?_)⟩))))))
 refine Lr (k+1) [] 0 [(0,pth p),(1,pth q),(12,.i p.length),(13,.i ((k+1:Nat):Int))] [] [] ?_ ?_ kr kr
 (try dsimp only);omega
 refine⟨?_,rfl⟩;(try dsimp only);exact⟨om,by rw[take_snoc p k default om,take_snoc q k default om,hi2];simpa using c14⟩
 refine Xt (Jx (Lx (Bh (Jn (hK6 (Kp [] (Rr (Fn0 [] [(4,.bool true)] (Rt (.bool true) (fin_lea ?_))))))))))
 rw[show(p==q)=true by rw[beq_iff_eq,<-List.take_length (l:=p),<-List.take_length (l:=q)];rw[show q.length=k by omega,show p.length=k by omega];exact hi2];exact lea_refl _
theorem sameRow_ok (x:Rw) (hx:x.path.length<2^40):PE G 56 [.agg (rwc x),.agg (rwc x)] (.bool true):=by
 refine Pe Tryz.func56 ?_
 refine Rr (Fn2 [] [(3,.ptr 4 0),(2,.ptr 0 0)] ([(4,rwc x),(0,rwc x)]++·) 8 (Rr (Bc1 5 [(8,pth x.path),(7,.ptr 4 0),(6,pth x.path),(5,.ptr 0 0)] 29 [pth x.path,pth x.path] 9 (((1:Nat)≠0)/\(0+1<=5/\0<5)/\((1:Nat)≠0)/\(0+1<=5/\0<5)/\·) ⟨dc,dc,dc,dc,PE.use (eqP_ok x.path x.path om om) ?_⟩)))
 refine Ke (An0 1 [(10,.bool (x.path==x.path))] (Rg (fun hg3 g3=>?_) (fun hg3 g3=>?_)))
 refine An1 7 [(17,.bool (x.dir==x.dir)),(16,.bool (x.dir==x.dir)),(15,.bool (x.dir==x.dir)),(14,.bool x.dir),(13,.ptr 4 1),(12,.bool x.dir),(11,.ptr 0 1)] (((1:Nat)≠0)/\(1+1<=5/\1<5)/\((1:Nat)≠0)/\(1+1<=5/\1<5)/\(TK.bool=TK.bool)/\·) ⟨dc,dc,dc,dc,rfl,Rg (fun hg4 g4=>?_) (fun hg4 g4=>?_)⟩
 refine An1 7 [(24,.bool (decide ((x.mode:Int)=(x.mode:Int)))),(23,.bool (decide ((x.mode:Int)=(x.mode:Int)))),(22,.bool (decide ((x.mode:Int)=(x.mode:Int)))),(21,.i x.mode),(20,.ptr 4 2),(19,.i x.mode),(18,.ptr 0 2)] (((1:Nat)≠0)/\(2+1<=5/\2<5)/\((1:Nat)≠0)/\(2+1<=5/\2<5)/\Ki/\·) ⟨dc,dc,dc,dc,rfl,Rg (fun hg5 g5=>?_) (fun hg5 g5=>?_)⟩
 refine An1 7 [(31,.bool (x.data==x.data)),(30,.bool (x.data==x.data)),(29,.bool (x.data==x.data)),(28,.str x.data),(27,.ptr 4 3),(26,.str x.data),(25,.ptr 0 3)] (((1:Nat)≠0)/\(3+1<=5/\3<5)/\((1:Nat)≠0)/\(3+1<=5/\3<5)/\·) ⟨dc,dc,dc,dc,Rg (fun hg6 g6=>?_) (fun hg6 g6=>?_)⟩
 refine Fn1 [] [(4,.bool (decide ((x.id:Int)=(x.id:Int))))] (((1:Nat)≠0)/\(4+1<=5/\4<5)/\((1:Nat)≠0)/\(4+1<=5/\4<5)/\Ki/\·) ⟨dc,dc,dc,dc,rfl,Rt (.bool (decide ((x.id:Int)=(x.id:Int)))) ?_⟩
 (first|exact fin_lea (lea_refl _)|(refine fin_lea ?_;rw[show decide (x.id=x.id)=true by simp];exact lea_refl _))
 simp at hg6
 simp at hg5
 simp at hg4
 simp at hg3
theorem tf1_ok (x:Rw) (p:List Str) (hx:x.path.length<2^40) (hp:p.length<2^40):PE G 28 [.agg (rwc x),.pat [pth p]] (.bool (x.path==p)):=by
 refine Pe Tryz.func28 ?_
 refine Rr (Fn2 [1] [(2,.ptr 0 0)] ([(0,rwc x)]++·) 4 (Rr (Bc1 4 [(6,pth p),(5,pth x.path),(4,.ptr 0 0)] 29 [pth x.path,pth p] 7 (((1:Nat)≠0)/\(0+1<=5/\0<5)/\(1<=1/\0<1)/\·) ⟨dc,dc,dc,PE.use (eqP_ok x.path p om om) ?_⟩)))
 refine Ke (Fn0 [] [(3,.bool (x.path==p))] (Rt (.bool (x.path==p)) ?_))
 exact fin_lea (lea_refl _)
theorem eqR_ok (l:List Rw) (hl:∀x∈l,x.path.length<2^40) (hn:l.length<2^40):PE G 55 [.sl 5 (l.map rwc),.sl 5 (l.map rwc),.fn (.func 56) []] (.bool true):=by
 refine Pe Tryz.func55 ?_
 refine Rr (Fn0 [0,1,2] [] (Sq fun K2 hK2=>?_))
 refine Rr (Av0 2 11 [(10,.sl 5 (l.map rwc))] (lnm l rwc) (Av0 2 13 [(12,.sl 5 (l.map rwc))] (lnm l rwc) (Cn1 (!decide ((l.length:Int)=(l.length:Int))) [0,1,2] [] (Ki/\·) ⟨rfl,fun hc4 c4=>?_,fun hc4 c4=>?_⟩)))
 simp at hc4
 refine Sk (Jn (hK2 (Kp [0,1,2] (Sq fun K5 hK5=>?_))))
 refine Rr (Av0 2 16 [(15,.sl 5 (l.map rwc))] (lnm l rwc) (Fn0 [1,2,15,16] [(17,.i 0)] (Bl (h_l (fun(k:Nat)=>([(1,.sl 5 (l.map rwc)),(2,.fn (.func 56) []),(15,.sl 5 (l.map rwc)),(16,.i l.length),(17,.i k)]:Fr)) (fun(k:Nat)=>([]:Hp)) (fun(k:Nat) cn=>(k<=l.length)/\cn=0) (fun(k:Nat)=>l.length-k) 0 kr ?_ ?_ ?_ ?_))))
 refine⟨?_,rfl⟩;exact Nat.zero_le _
 exact⟨kr,kr,kr,kr,kr,trivial⟩
 exact(List.nil_sublist _)
 rintro k n1 hI
 (try dsimp only at hI)
 obtain⟨hi1,rfl⟩:=hI
 refine Rr (Fn1 [1,2,15,16,17] [(18,.bool (decide ((k:Int)<(l.length:Int))))] (Ki/\·) ⟨rfl,Sq fun K8 hK8=>?_⟩)
 refine Cc (decide ((k:Int)<(l.length:Int))) (fun hc9 c9=>?_) fun hc9 c9=>?_
 refine Sk (Jn (hK8 (Kp [1,2,15,16,17] (Sq fun K10 hK10=>?_))))
 refine Bl (Rr (Av1 2 20 [(19,.i k)] (congrArg AV.pat (mg_rw l k om)) ((5=5/\(0:Int)<=(k:Int)/\(k:Int)<((l.map rwc).length:Int))/\·) ⟨⟨rfl,om,lmo⟩,Fn3 [1,2,15,16,17] [(7,.i k),(8,.ptr 0 0)] ([(0,rwc (l.getD k default))]++·) 4 ((5<=5/\0<5)/\(true=true/\5=5/\0+5<=5)/\·) ⟨dc,dc,Rr ?_⟩⟩))
 refine Av1 3 24 [(23,.i k),(22,.sl 5 (l.map rwc))] (congrArg AV.pat (mg_rw l k om)) ((5=5/\(0:Int)<=(k:Int)/\(k:Int)<((l.map rwc).length:Int))/\·) ⟨⟨rfl,om,lmo⟩,Fn3 [1,2,8,15,16,17] [(9,.ptr 4 0)] ([(4,rwc (l.getD k default))]++·) 8 ((5<=5/\0<5)/\(true=true/\5=5/\0+5<=5)/\·) ⟨dc,dc,?_⟩⟩
 have hgl:=hl _ (getD_mem l k default om)
 refine Rr (Bc1 4 [(28,.agg (rwc (l.getD k default))),(27,.agg (rwc (l.getD k default))),(26,.fn (.func 56) [])] 56 [.agg (rwc (l.getD k default)),.agg (rwc (l.getD k default))] 29 ((0+5<=5/\0<5)/\(0+5<=5/\0<5)/\·) ⟨dc,dc,PE.use (sameRow_ok (l.getD k default) om) (Ke (Fn0 [1,2,15,16,17] [(30,.bool false)] ?_))⟩)
 refine Cf (Sk (Bn (Jn (hK10 (Kp [1,2,15,16,17] (Rn (Av1 1 31 [] (cI (wn1 k om)) (Ki/\·) ⟨rfl,Gn0 [(17,.i ((k+1:Nat):Int))] ?_⟩)))))))
 refine nk_n (Lr (k+1) [] 0 [(1,.sl 5 (l.map rwc)),(2,.fn (.func 56) []),(15,.sl 5 (l.map rwc)),(16,.i l.length),(17,.i ((k+1:Nat):Int))] [] [] ?_ ?_ kr kr)
 (try dsimp only);omega
 refine⟨?_,rfl⟩;(try dsimp only);omega
 refine Xt (Jx (Lx (Bh (Jn (hK5 (Kp [] (Rr (Fn0 [] [(6,.bool true)] (Rt (.bool true) ?_)))))))))
 exact fin_lea (lea_refl _)
theorem idR_ok (p:List Str) (l:List Rw) (hl:∀x∈l,x.path.length<2^40) (hn:l.length<2^40) (hp:p.length<2^40):PE G 27 [.sl 5 (l.map rwc),.fn (.func 28) [.pat [pth p]]] (.i (idxR p 0 l)):=by
 refine Pe Tryz.func27 ?_
 refine Rr (Fn0 [0,1] [] (Sq fun K2 hK2=>?_))
 refine Rr (Av0 2 7 [(6,.sl 5 (l.map rwc))] (lnm l rwc) (Fn0 [0,1,7] [(8,.i 0)] (Bl (h_l (fun(k:Nat)=>([(0,.sl 5 (l.map rwc)),(1,.fn (.func 28) [.pat [pth p]]),(7,.i l.length),(8,.i k)]:Fr)) (fun(k:Nat)=>([]:Hp)) (fun(k:Nat) cn=>(k<=l.length/\idxR p 0 l=idxR p k (l.drop k))/\cn=0) (fun(k:Nat)=>l.length-k) 0 kr ?_ ?_ ?_ ?_))))
 refine⟨?_,rfl⟩;exact⟨Nat.zero_le _,rfl⟩
 exact⟨kr,kr,kr,kr,trivial⟩
 exact(List.nil_sublist _)
 rintro k n1 hI
 (try dsimp only at hI)
 obtain⟨⟨hi1,hi2⟩,rfl⟩:=hI
 refine Rr (Fn1 [0,1,7,8] [(9,.bool (decide ((k:Int)<(l.length:Int))))] (Ki/\·) ⟨rfl,Sq fun K5 hK5=>?_⟩)
 refine Cc (decide ((k:Int)<(l.length:Int))) (fun hc6 c6=>?_) fun hc6 c6=>?_
 refine Sk (Jn (hK5 (Kp [0,1,7,8] (Sq fun K7 hK7=>?_))))
 refine Bl (Rr (Fn0 [0,1,7,8] [(5,.i k)] ?_))
 have hgl:=hl _ (getD_mem l k default om)
 refine Rr (Av1 4 14 [(13,.i k),(12,.sl 5 (l.map rwc)),(11,.fn (.func 28) [.pat [pth p]])] (congrArg AV.pat (mg_rw l k om)) ((5=5/\(0:Int)<=(k:Int)/\(k:Int)<((l.map rwc).length:Int))/\·) ⟨⟨rfl,om,lmo⟩,Pc1 2 [(15,.agg (rwc (l.getD k default)))] 16 (5<=5/\0<5) dc (tf1_ok (l.getD k default) p om om) (Cn0 ((l.getD k default).path==p) [0,1,5,7,8] [] ⟨fun hc10 c10=>?_,fun hc10 c10=>?_⟩)⟩)
 refine Rr (Fn0 [] [(4,.i k)] (Rt (.i k) (fin_lea ?_)))
 rw[hi2,dropR l k om,idxR,show((l.getD k default).path==p)=true by have h:=hc10;first|exact h|simpa using h];exact lea_refl _
 refine Sk (Bn (Jn (hK7 (Kp [0,1,7,8] (Rn (Av1 1 18 [] (cI (wn1 k om)) (Ki/\·) ⟨rfl,Gn0 [(8,.i ((k+1:Nat):Int))] (nk_n ?_)⟩))))))
 refine Lr (k+1) [] 0 [(0,.sl 5 (l.map rwc)),(1,.fn (.func 28) [.pat [pth p]]),(7,.i l.length),(8,.i ((k+1:Nat):Int))] [] [] ?_ ?_ kr kr
 (try dsimp only);omega
 refine⟨?_,rfl⟩;(try dsimp only);exact⟨om,by rw[hi2,dropR l k om,idxR];have h:=hc10;rw[show((l.getD k default).path==p)=false by first|exact h|simpa using h];rfl⟩
 refine Xt (Jx (Lx (Bh (Jn (hK2 (Kp [] (Rr (Fn0 [] [(4,.i (-1))] (Rt (.i (-1)) (fin_lea ?_))))))))))
 rw[hi2,List.drop_eq_nil_of_le om,idxR];exact lea_refl _
theorem wxR_ok (l:List Rw) (hl:∀x∈l,x.path.length<2^40) (hn:l.length<2^40):PE G 8 [.sl 5 (l.map rwc),.sl 5 (l.map rwc)] (.bool true):=by
 refine Pe Tryz.func8 ?_
 refine Rr (Fn0 [0,1] [] (Sq fun K2 hK2=>?_))
 refine Rr (Av0 2 7 [(6,.sl 5 (l.map rwc))] (lnm l rwc) (Av0 2 9 [(8,.sl 5 (l.map rwc))] (lnm l rwc) (Cn1 (!decide ((l.length:Int)=(l.length:Int))) [0,1] [] (Ki/\·) ⟨rfl,fun hc4 c4=>?_,fun hc4 c4=>?_⟩)))
 simp at hc4
 refine Sk (Jn (hK2 (Kp [0,1] (Sq fun K5 hK5=>?_))))
 refine Rr (Fn0 [0,1] [(5,.i 0)] (Bl (h_l (fun(k:Nat)=>([(0,.sl 5 (l.map rwc)),(1,.sl 5 (l.map rwc)),(5,.i k)]:Fr)) (fun(k:Nat)=>([]:Hp)) (fun(k:Nat) cn=>(k<=l.length)/\cn=0) (fun(k:Nat)=>l.length-k) 0 kr ?_ ?_ ?_ ?_)))
 refine⟨?_,rfl⟩;exact Nat.zero_le _
 exact⟨kr,kr,kr,trivial⟩
 exact(List.nil_sublist _)
 rintro k n1 hI
 (try dsimp only at hI)
 obtain⟨hi1,rfl⟩:=hI
 refine Sq fun K7 hK7=>?_
 refine Rr (Av0 3 13 [(12,.sl 5 (l.map rwc)),(11,.i k)] (lnm l rwc) (Cn1 (decide ((k:Int)<(l.length:Int))) [0,1,5] [] (Ki/\·) ⟨rfl,fun hc9 c9=>?_,fun hc9 c9=>?_⟩))
 refine Sk (Jn (hK7 (Kp [0,1,5] (Sq fun K10 hK10=>?_))))
 refine Bl ?_
 have hgl:=hl _ (getD_mem l k default om)
 refine Qr [0,0,3,7,15,0,0,96,224,480,1023,2047,4095,8191,8191,32767,65535,131071,8191,8191,794623,1843199,3940351,8388607,16777215,33554431,67108863,67108863,268435455,536870911,1073741823,67108863,67108863,6509559807,15099494399,32279363583,68719476735,137438953471,274877906943,549755813887,549755813887,2199023255551,4398046511103,8796093022207,549755813887,549755813887,53326313947135,123695058124799,264432546480127,562949953421311,1125899906842623,2251799813685247,4503599627370495,4503599627370495,18014398509481983,36028797018963967,72057594037927935,4503599627370495,4503599627370495,436849163854938111,1013309916158361599,2166231420765208575,4611686018427387903,9223372036854775807] [(0,[]),(1,[]),(2,[]),(3,[]),(4,[]),(5,[]),(6,[]),(7,[]),(8,[]),(9,[]),(10,[]),(11,[]),(12,[]),(13,[]),(14,[]),(15,[]),(16,[]),(17,[]),(18,[]),(19,[]),(20,[]),(21,[]),(22,[]),(23,[]),(24,[]),(25,[]),(26,[]),(27,[]),(28,[]),(29,[]),(30,[]),(31,[]),(32,[]),(33,[]),(34,[]),(35,[]),(36,[]),(37,[]),(38,[]),(39,[]),(40,[]),(41,[]),(42,[]),(43,[]),(44,[]),(45,[]),(46,[]),(47,[]),(48,[]),(49,[]),(50,[]),(51,[]),(52,[]),(53,[]),(54,[]),(55,[]),(56,[]),(57,[]),(58,[]),(59,[]),(60,[]),(61,[]),(62,[]),(63,[])] (qAv1 3 19 [(18,.i k),(17,.sl 5 (l.map rwc))] (congrArg AV.pat (mg_rw l k om)) ((5=5/\(0:Int)<=(k:Int)/\(k:Int)<((l.map rwc).length:Int))/\·) ⟨⟨rfl,om,lmo⟩,qAv1 5 24 [(23,.i k),(22,.sl 5 (l.map rwc)),(21,pth ((l.getD k default).path)),(20,.pat (rwc (l.getD k default)))] (congrArg AV.pat (mg_rw l k om)) (((1:Nat)≠0)/\(1<=5/\0<5)/\(5=5/\(0:Int)<=(k:Int)/\(k:Int)<((l.map rwc).length:Int))/\·) ⟨dc,dc,⟨rfl,om,lmo⟩,qBc1 3 [(26,pth ((l.getD k default).path)),(25,.pat (rwc (l.getD k default)))] [] 20 [pth ((l.getD k default).path),pth ((l.getD k default).path)] 27 (((1:Nat)≠0)/\(1<=5/\0<5)/\·) ⟨dc,dc,PE.use (wtTexts_ok ((l.getD k default).path) ((l.getD k default).path) om om) ?_⟩⟩⟩)
 refine Kq (p:=(True)) trivial ?_
 refine qAn0 2 [(29,.bool (!(((l.getD k default).path)==((l.getD k default).path)))),(28,.bool (!(((l.getD k default).path)==((l.getD k default).path))))] (Qg (fun hg12 g12=>?_) (fun hg12 g12=>?_))
 simp at hg12
 refine qAv1 3 32 [(31,.i k),(30,.sl 5 (l.map rwc))] (congrArg AV.pat (mg_rw l k om)) ((5=5/\(0:Int)<=(k:Int)/\(k:Int)<((l.map rwc).length:Int))/\·) ⟨⟨rfl,om,lmo⟩,qAv1 5 37 [(36,.i k),(35,.sl 5 (l.map rwc)),(34,.bool ((l.getD k default).dir)),(33,.pat [.bool ((l.getD k default).dir),.i ((l.getD k default).mode),.str ((l.getD k default).data),.i ((l.getD k default).id)])] (congrArg AV.pat (mg_rw l k om)) (((1:Nat)≠0)/\(1<=4/\0<4)/\(5=5/\(0:Int)<=(k:Int)/\(k:Int)<((l.map rwc).length:Int))/\·) ⟨dc,dc,⟨rfl,om,lmo⟩,qAn1 5 [(42,.bool (!(((l.getD k default).dir)==((l.getD k default).dir)))),(41,.bool (!(((l.getD k default).dir)==((l.getD k default).dir)))),(40,.bool (!(((l.getD k default).dir)==((l.getD k default).dir)))),(39,.bool ((l.getD k default).dir)),(38,.pat [.bool ((l.getD k default).dir),.i ((l.getD k default).mode),.str ((l.getD k default).data),.i ((l.getD k default).id)])] (((1:Nat)≠0)/\(1<=4/\0<4)/\(TK.bool=TK.bool)/\·) ⟨dc,dc,rfl,Qg (fun hg13 g13=>?_) (fun hg13 g13=>?_)⟩⟩⟩
 simp at hg13
 refine qAv1 3 45 [(44,.i k),(43,.sl 5 (l.map rwc))] (congrArg AV.pat (mg_rw l k om)) ((5=5/\(0:Int)<=(k:Int)/\(k:Int)<((l.map rwc).length:Int))/\·) ⟨⟨rfl,om,lmo⟩,qAv1 5 50 [(49,.i k),(48,.sl 5 (l.map rwc)),(47,.i ((l.getD k default).mode)),(46,.pat [.i ((l.getD k default).mode),.str ((l.getD k default).data),.i ((l.getD k default).id)])] (congrArg AV.pat (mg_rw l k om)) (((1:Nat)≠0)/\(1<=3/\0<3)/\(5=5/\(0:Int)<=(k:Int)/\(k:Int)<((l.map rwc).length:Int))/\·) ⟨dc,dc,⟨rfl,om,lmo⟩,qAn1 5 [(55,.bool (!decide (((l.getD k default).mode:Int)=((l.getD k default).mode:Int)))),(54,.bool (!decide (((l.getD k default).mode:Int)=((l.getD k default).mode:Int)))),(53,.bool (!decide (((l.getD k default).mode:Int)=((l.getD k default).mode:Int)))),(52,.i ((l.getD k default).mode)),(51,.pat [.i ((l.getD k default).mode),.str ((l.getD k default).data),.i ((l.getD k default).id)])] (((1:Nat)≠0)/\(1<=3/\0<3)/\Ki/\·) ⟨dc,dc,rfl,Qg (fun hg14 g14=>?_) (fun hg14 g14=>?_)⟩⟩⟩
 simp at hg14
 refine qAv1 3 58 [(57,.i k),(56,.sl 5 (l.map rwc))] (congrArg AV.pat (mg_rw l k om)) ((5=5/\(0:Int)<=(k:Int)/\(k:Int)<((l.map rwc).length:Int))/\·) ⟨⟨rfl,om,lmo⟩,qAv1 5 63 [(62,.i k),(61,.sl 5 (l.map rwc)),(60,.str ((l.getD k default).data)),(59,.pat [.str ((l.getD k default).data),.i ((l.getD k default).id)])] (congrArg AV.pat (mg_rw l k om)) (((1:Nat)≠0)/\(1<=2/\0<2)/\(5=5/\(0:Int)<=(k:Int)/\(k:Int)<((l.map rwc).length:Int))/\·) ⟨dc,dc,⟨rfl,om,lmo⟩,qAn1 5 [(68,.bool (!(((l.getD k default).data)==((l.getD k default).data)))),(67,.bool (!(((l.getD k default).data)==((l.getD k default).data)))),(66,.bool (!(((l.getD k default).data)==((l.getD k default).data)))),(65,.str ((l.getD k default).data)),(64,.pat [.str ((l.getD k default).data),.i ((l.getD k default).id)])] (((1:Nat)≠0)/\(1<=2/\0<2)/\·) ⟨dc,dc,Qg (fun hg15 g15=>?_) (fun hg15 g15=>?_)⟩⟩⟩
 simp at hg15
 refine qAv1 3 71 [(70,.i k),(69,.sl 5 (l.map rwc))] (congrArg AV.pat (mg_rw l k om)) ((5=5/\(0:Int)<=(k:Int)/\(k:Int)<((l.map rwc).length:Int))/\·) ⟨⟨rfl,om,lmo⟩,qAv1 5 76 [(75,.i k),(74,.sl 5 (l.map rwc)),(73,.i ((l.getD k default).id)),(72,.pat [.i ((l.getD k default).id)])] (congrArg AV.pat (mg_rw l k om)) (((1:Nat)≠0)/\(1<=1/\0<1)/\(5=5/\(0:Int)<=(k:Int)/\(k:Int)<((l.map rwc).length:Int))/\·) ⟨dc,dc,⟨rfl,om,lmo⟩,qCn1 (!decide (((l.getD k default).id:Int)=((l.getD k default).id:Int))) [0,1,5] [] (((1:Nat)≠0)/\(1<=1/\0<1)/\Ki/\·) ⟨dc,dc,rfl,fun hc16 c16=>?_,fun hc16 c16=>?_⟩⟩⟩
 simp at hc16
 refine Sk (Bn (Jn (hK10 (Kp [0,1,5] (Rn (Av1 2 16 [(15,.i k)] (cI (wn1 k om)) (Ki/\·) ⟨rfl,Gn0 [(5,.i ((k+1:Nat):Int))] (nk_n ?_)⟩))))))
 refine Lr (k+1) [] 0 [(0,.sl 5 (l.map rwc)),(1,.sl 5 (l.map rwc)),(5,.i ((k+1:Nat):Int))] [] [] ?_ ?_ kr kr
 (try dsimp only);omega
 refine⟨?_,rfl⟩;(try dsimp only);omega
 refine Xt (Jx (Lx (Bh (Jn (hK5 (Kp [] (Rr (Fn0 [] [(4,.bool true)] (Rt (.bool true) ?_)))))))))
 exact fin_lea (lea_refl _)
theorem midM_get {A B M:List AV} (hM:M.length=5) (j:Nat) (hj:j<5) (d:AV):(A++M++B).getD (A.length+j) d=M.getD j d:=by
 simp only[List.getD]
 rw[List.append_assoc,List.getElem?_append_right (by omega),Nat.add_sub_cancel_left,List.getElem?_append_left (by omega)]
theorem midM_set {A B M:List AV} (hM:M.length=5) (j:Nat) (hj:j<5) (x:AV):(A++M++B).take (A.length+j)++[x]++(A++M++B).drop (A.length+j+1)=A++(M.take j++[x]++M.drop (j+1))++B:=by
 have e1:(A++M++B).take (A.length+j)=A++M.take j:=by
  rw[List.append_assoc,List.take_append,List.take_of_length_le (by omega),Nat.add_sub_cancel_left,List.take_append_of_le_length (by omega)]
 have e2:(A++M++B).drop (A.length+j+1)=M.drop (j+1)++B:=by
  rw[List.append_assoc,List.drop_append,List.drop_of_length_le (by omega),List.nil_append,show A.length+j+1-A.length=j+1 by omega,List.drop_append_of_le_length (by omega)]
 rw[e1,e2]
 simp only[List.append_assoc]
section
variable {G:Prg} {L:List Oper} {pl:List (Nat×List Nat)} {k:Nat} {F:Fr} {H:Hp} {n:Nat} {K:RK} {A B M:List AV}
theorem midM_in {ti:TI} (hM:M.length=5) (h:ok1 ti=true) (j:Nat) (hj:j<5):A.length+j+ti.size<=(A++M++B).length/\A.length+j<(A++M++B).length:=by
 rw[(ok1_at h).1];simp only[List.length_append,hM];omega
theorem midM_ldo {ti:TI} (hM:M.length=5) (h:ok1 ti=true) (j:Nat) (hj:j<5):ldo ti (A++M++B) (A.length+j)=M.getD j .dead:=by
 simp only[ldo,(ok1_at h).2,cond_false,midM_get hM j hj]
theorem gqlm (hM:M.length=5) (d tn:Nat) (i j:Nat) (v:AV) (e:∀J:RK,runQ G L ((pl.drop k).take 1) F H n J=rR2 (ldr (tiq G tn) (.ptr i (A.length+j)) H n) (fun v=>J ((d,v)::F) H n)) (hg:hgt H i=some (A++M++B)) (h1:(ok1 (tiq G tn)&&Nat.blt j 5)=true) (hv:M.getD j .dead=v)
  (h:runQ G L (pl.drop (k+1)) ((d,v)::F) H n K):runQ G L (pl.drop k) F H n K:=by
 rw[Bool.and_eq_true,Nat.blt_eq]at h1
 exact gql d (tiq G tn) i (A.length+j) v e hg (midM_in hM h1.1 j h1.2) ((midM_ldo hM h1.1 j h1.2).trans hv) h
theorem gesm (hM:M.length=5) (tn:Nat) (i j:Nat) (v:AV) (M':List AV) (H':Hp) (e:∀J:RK,runE G L ((L.drop k).take 1) F H n J=runR G J none F H n (str (tiq G tn) (.ptr i (A.length+j)) v H n)) (hg:hgt H i=some (A++M++B)) (h1:(ok1 (tiq G tn)&&(Nat.blt j 5&&okc v))=true) (hc:cl v=[v]) (hv:M.take j++[v]++M.drop (j+1)=M') (hH:hset H i (A++M'++B)=H')
  (h:runE G L (L.drop (k+1)) F H' n K):runE G L (L.drop k) F H n K:=by
 rw[Bool.and_eq_true,Bool.and_eq_true,Nat.blt_eq]at h1
 obtain⟨h2,h3,h4⟩:=h1
 refine ges (tiq G tn) i (A.length+j) v H' e hg ⟨h4,by rw[hc,(ok1_at h2).1];rfl,(midM_in hM h2 j h3).1⟩ ?_ h
 rw[hc,(ok1_at h2).1,midM_set hM j h3,hv];exact hH
theorem gqsm (hM:M.length=5) (tn:Nat) (i j:Nat) (v:AV) (M':List AV) (H':Hp) (e:∀J:RK,runQ G L ((pl.drop k).take 1) F H n J=runR G (fun F' H' n'=>True/\J F' H' n') none F H n (str (tiq G tn) (.ptr i (A.length+j)) v H n)) (hg:hgt H i=some (A++M++B)) (h1:(ok1 (tiq G tn)&&(Nat.blt j 5&&okc v))=true) (hc:cl v=[v]) (hv:M.take j++[v]++M.drop (j+1)=M') (hH:hset H i (A++M'++B)=H')
  (h:runQ G L (pl.drop (k+1)) F H' n K):runQ G L (pl.drop k) F H n K:=by
 rw[Bool.and_eq_true,Bool.and_eq_true,Nat.blt_eq]at h1
 obtain⟨h2,h3,h4⟩:=h1
 refine gqs (tiq G tn) i (A.length+j) v H' e hg ⟨h4,by rw[hc,(ok1_at h2).1];rfl,(midM_in hM h2 j h3).1⟩ ?_ h
 rw[hc,(ok1_at h2).1,midM_set hM j h3,hv];exact hH
end
theorem rldm {H:Hp} {n i j:Nat} {A B M:List AV} (hM:M.length=5) {ti:TI} {v:AV} (hg:hgt H i=some (A++M++B)) (h1:(ok1 ti&&Nat.blt j 5)=true) (hv:M.getD j .dead=v):rR2 (ldr ti (.ptr i (A.length+j)) H n) (fun x=>x=v):=by
 rw[Bool.and_eq_true,Nat.blt_eq]at h1
 rw[ldr_d hg ((midM_ldo hM h1.1 j h1.2).trans hv)]
 exact⟨midM_in hM h1.1 j h1.2,rfl⟩
theorem TCall.nd {G:Prg} {f:Nat} {args:List AV} {H:Hp} {n:Nat} {Q:CPost} (h:TCall G f args H n Q):TCall G f args H n fun r H' n'=>(ids H').Nodup/\Q r H' n':=by
 intro X ρ w vs hf hr hv
 refine(h X ρ w vs hf hr hv).mono ?_
 rintro e w' ⟨v,r,ρ',H',n',rfl,q1,q2,q3,q4,q5⟩
 exact⟨v,r,ρ',H',n',rfl,q1,q2,q3,q4,q2.nodup,q5⟩
theorem ins0_use {G:Prg} {f s l:Nat} {args args' cs:List AV} {H:Hp} {n:Nat} (hv:View H args args') (hn:nsls cs) (ho:ods cs) (h:DC G f args' [] fun r Z'=>∃k:Nat,r=.osl (2*k+1) s 0 l/\Z'=[(2*k+1,cs)]):
  TCall G f args H n fun r H' n'=>(ids H').Nodup/\n'=n/\∃k:Nat,r=.osl (2*k+1) s 0 l/\H'=H++[(2*k+1,cs)]:=by
 refine(TCall.mono (lend_own (R:=fun r Z'=>∃k:Nat,r=.osl (2*k+1) s 0 l/\Z'=[(2*k+1,cs)]) hv ((h [] n trivial).mono ?_)) ?_).nd
 ·rintro r H' n' _ ⟨rfl,Z',rfl,k,rfl,rfl⟩
  exact⟨rfl,trivial,⟨hn,trivial⟩,⟨by omega,ho,trivial⟩,k,rfl,rfl⟩
 ·rintro r H' n' _ ⟨rfl,Z',rfl,_,k,rfl,rfl⟩
  exact⟨rfl,k,rfl,rfl⟩
theorem vw0S {H:Hp} {a:Nat} {i:Int} (nm:Str) (hg:hgt H a=some [.str nm]):View H [.nils,.int .i64 i,.osl a 1 0 1] [.nils,.int .i64 i,pth [nm]]:=by
 refine View.fz a hg ?_
 have e:fzs a [.str nm] [.nils,.int .i64 i,.osl a 1 0 1]=[.nils,.int .i64 i,pth [nm]]:=by
  show fzs a (fl sc [nm]) _=_
  rw[fqs_eq (l:=1) (chkS [nm]) (flS_le [nm]) _ (by simp only[oqs,oq,and_self,if_true])]
  simp only[fqs,fq,Nat.beq_refl,cond_true,pth]
 rw[e];exact View.refl _ _
theorem vw0T {H:Hp} {a:Nat} {i:Int} (x:OT) (hg:hgt H a=some (otc x)):View H [.nils,.int .i64 i,.osl a 5 0 1] [.nils,.int .i64 i,.sl 5 ([x].map otc)]:=by
 refine View.fz a hg ?_
 have e:fzs a (otc x) [.nils,.int .i64 i,.osl a 5 0 1]=[.nils,.int .i64 i,.sl 5 ([x].map otc)]:=by
  have h:=chk_fl otc_len [x]
  rw[fl_one]at h
  rw[fqs_eq (l:=1) h (by rw[otc_len];exact Nat.le_refl _) _ (by simp only[oqs,oq,and_self,if_true])]
  simp only[fqs,fq,Nat.beq_refl,cond_true]
 rw[e];exact View.refl _ _
open Go Go.Proofs
set_option maxRecDepth 100000
theorem insS0_ok (nm:Str):DC G 80 [.nils,.i 0,pth [nm]] [] (fun r Z'=>∃k:Nat,r=.osl (2*k+1) 1 0 1/\Z'=[(2*k+1,[.str nm])]):=by
 refine DC_nd fun hnd=>?_
 refine h_dc (F:=[(0,.nils),(1,.i 0),(2,pth [nm])]) ⟨trivial,trivial,purs_pth _,trivial⟩ trivial Tryz.func80 kr kr ?_ kr
 refine Rr (Fn0 [0,1,2] [] (Rr (Fn1 [0,1,2] [] ((0=(0:Int)/\0=(0:Int))/\·) ⟨⟨om,om⟩,Rr ?_⟩)))
 refine Av0 2 14 [(13,pth [nm])] (lnm [nm] sc) (Fn0 [0,1,2] [(7,.i (([nm].length:Nat):Int))] (Sq fun K4 hK4=>?_))
 refine Rr (Cn1 (decide ((([nm].length:Nat):Int)=0)) [0,1,2,7] [] (Ki/\·) ⟨rfl,fun hc6 c6=>?_,fun hc6 c6=>?_⟩)
 first|omega|(simp at hc6)
 refine Sk (Jn (hK4 (Kp [0,1,2,7] (Rr (Fn0 [0,1,2,7] [(8,.i 0)] (Sq fun K8 hK8=>?_))))))
 refine Rr (Fn1 [0,1,2,7,8] [(22,.bool true)] (Ki/\·) ⟨rfl,Ct (Rr (Fn3 [] [(6,.osl 0 1 0 (([nm].map (fun s=>[AV.str s])).length))] ([(0,([nm].map (fun s=>[AV.str s])).flatten)]++·) 4 (True/\(0<([nm].map (fun s=>[AV.str s])).length/\0<16/\([nm].map (fun s=>[AV.str s])).length*16<=140737488355328)/\·) ⟨trivial,⟨by first|(simp;done)|(simp;omega),dc,by first|(simp;done)|(simp;omega)⟩,?_⟩))⟩)
 refine Hn ((0,[.str nm])::[]) (h_k [6] (F':=[(6,.osl 0 1 0 (([nm].map (fun s=>[AV.str s])).length))]) kr (h_odd (H:=[(0,[.str nm])]) 0 (fun jn=>[(6,.osl (2*jn+1) 1 0 (([nm].map (fun s=>[AV.str s])).length))]) (fun jn=>[((2*jn+1),[.str nm])]) kr trivial (fun jn=>⟨by simp only[slF,slp,slps,go_sem,and_self],kr⟩) (fun jn=>⟨rfl,.inr ⟨by simp only[tcs,slps,slp,go_sem,and_self],kr⟩,trivial⟩) (fun jn=>(Rt (.osl (2*jn+1) 1 0 (([nm].map (fun s=>[AV.str s])).length)) ?_))))
 exact fin_dc (.osl (2*jn+1) 1 0 1) [(2*jn+1,[.str nm])] (List.Sublist.refl _) (lea_refl _) (show(2*jn+1)%2=1 by omega) ⟨om,ods_flS [nm],trivial⟩ ⟨jn,rfl,rfl⟩
theorem insT0_ok (x:OT) (hx:puress ([x].map otc)=true):DC G 81 [.nils,.i 0,.sl 5 ([x].map otc)] [] (fun r Z'=>∃k:Nat,r=.osl (2*k+1) 5 0 1/\Z'=[(2*k+1,otc x)]):=by
 refine DC_nd fun hnd=>?_
 refine h_dc (F:=[(0,.nils),(1,.i 0),(2,.sl 5 ([x].map otc))]) ⟨trivial,trivial,hx,trivial⟩ trivial Tryz.func81 kr kr ?_ kr
 refine Rr (Fn0 [0,1,2] [] (Rr (Fn1 [0,1,2] [] ((0=(0:Int)/\0=(0:Int))/\·) ⟨⟨om,om⟩,Rr ?_⟩)))
 refine Av0 2 14 [(13,.sl 5 ([x].map otc))] (lnm [x] otc) (Fn0 [0,1,2] [(7,.i (([x].length:Nat):Int))] (Sq fun K4 hK4=>?_))
 refine Rr (Cn1 (decide ((([x].length:Nat):Int)=0)) [0,1,2,7] [] (Ki/\·) ⟨rfl,fun hc6 c6=>?_,fun hc6 c6=>?_⟩)
 first|omega|(simp at hc6)
 refine Sk (Jn (hK4 (Kp [0,1,2,7] (Rr (Fn0 [0,1,2,7] [(8,.i 0)] (Sq fun K8 hK8=>?_))))))
 refine Rr (Fn1 [0,1,2,7,8] [(22,.bool true)] (Ki/\·) ⟨rfl,Ct (Rr (Fn3 [] [(6,.osl 0 5 0 (([x].map otc).length))] ([(0,([x].map otc).flatten)]++·) 4 (True/\(0<([x].map otc).length/\0<80/\([x].map otc).length*80<=140737488355328)/\·) ⟨trivial,⟨by first|(simp;done)|(simp;omega),dc,by first|(simp;done)|(simp;omega)⟩,?_⟩))⟩)
 refine Hn ((0,otc x)::[]) (h_k [6] (F':=[(6,.osl 0 5 0 (([x].map otc).length))]) kr (h_odd (H:=[(0,otc x)]) 0 (fun jn=>[(6,.osl (2*jn+1) 5 0 (([x].map otc).length))]) (fun jn=>[((2*jn+1),otc x)]) kr trivial (fun jn=>⟨by simp only[slF,slp,slps,go_sem,and_self],kr⟩) (fun jn=>⟨rfl,.inl ⟨ods_otc _,rfl⟩,trivial⟩) (fun jn=>(Rt (.osl (2*jn+1) 5 0 (([x].map otc).length)) ?_))))
 exact fin_dc (.osl (2*jn+1) 5 0 1) [(2*jn+1,otc x)] (List.Sublist.refl _) (lea_refl _) (show(2*jn+1)%2=1 by omega) ⟨om,ods_otc x,trivial⟩ ⟨jn,rfl,rfl⟩
theorem odMid {Z W:Hp} {i:Nat} {A B M N:List AV} (hz:odH Z) (hp:Z.Perm ((i,A++M++B)::W)) (hN:ods N):ods (A++N++B):=by
  have h:=(odH_mem hz (hp.mem_iff.2 List.mem_cons_self)).2
  rw[ods_app,ods_app]at h⊢
  exact⟨⟨h.1.1,hN⟩,h.2⟩
set_option maxHeartbeats 1000000 in
theorem put0_ok {Z W:Hp} {i:Nat} {A B:List AV} {t:OT} (nm:Str) (x:OT) (hx:puress ([x].map otc)=true) (hxs:nsls (otc x)) (hxo:ods (otc x)) (hids:t.ids=none) (hz:odH Z) (hi:i%2=1) (hp:Z.Perm ((i,A++otc t++B)::W)):DC G 54 [.ptr i A.length,.str nm,.agg (otc x)] Z (fun _ Z'=>∃k k':Nat,Z'.Perm ((i,A++otc (.mk t.dir t.mode t.data (some (k,k')) [nm] [x])++B)::(own (.mk t.dir t.mode t.data (some (k,k')) [nm] [x])++W))/\odH Z'):=by
 refine DC_nd fun hnd=>?_
 have hgi:hgt Z i=some (A++otc t++B):=hgt_perm hnd hp (by simp)
 refine h_dc (F:=[(0,.ptr i A.length),(1,.str nm),(2,.agg (otc x))]) ⟨hi,trivial,hxo,trivial⟩ hz Tryz.func54 kr kr ?_ kr
 refine Rr (Fn2 [0,1] [(5,.ptr 0 0)] ([(0,otc x)]++·) 4 (Rr (An1 3 [(11,.ptr i (A.length+3)),(10,.ptr i A.length),(9,.ptr i A.length)] (((1:Nat)≠0)/\·) ⟨dc,geln (t:=t) 12 23 i 3 .nils (fun J=>by kernel_rfl) ((hgt_ev (E:=[(0,otc x)]) ⟨rfl,trivial⟩ hi).trans hgi) kr (by rw[otc,hids];rfl) ?_⟩)))
 refine Bc0 2 [(13,.str nm)] 79 [.nils,.str nm] 14 ?_
 refine TCall_le [pth [],.str nm] (by simp[lea,leas,pth]) ?_
 refine PC.use (bsearch_ok [] nm dc rfl) ?_
 rintro _ ⟨j,hj1,hj2,hj3,rfl⟩
 obtain rfl:j=0:=by simpa using hj1
 refine Ke (Fn1 [0,1,5] [(7,.bool false),(6,.i 0)] ((0<2)/\(1<2)/\·) ⟨dc,dc,Sq fun K3 hK3=>?_⟩)
 refine Rr (Fn0 [0,1,5,6] [(17,.bool false)] (Cf (Sk (Jn (hK3 (Kp [0,1,5,6] (Rr ?_)))))))
 refine An1 4 [(28,.ptr i (A.length+3)),(27,.ptr i A.length),(26,.ptr i A.length),(25,.ptr i A.length)] (((1:Nat)≠0)/\·) ⟨dc,geln (t:=t) 29 23 i 3 .nils (fun J=>by kernel_rfl) ((hgt_ev (E:=[(0,otc x)]) ⟨rfl,trivial⟩ hi).trans hgi) kr (by rw[otc,hids];rfl) (Bc3 4 [(32,.osl 4 1 0 1),(31,.str nm),(30,.i 0)] 80 [.nils,.i 0,.osl 4 1 0 1] 33 ([(4,[.str nm])]++·) 8 ((1*1<=16777216)/\·) ⟨dc,TCall.mono (ins0_use (cs:=[.str nm]) (vw0S nm kr) ⟨trivial,trivial⟩ ⟨trivial,trivial⟩ (insS0_ok nm)) ?_⟩)⟩
 rintro _ H1 _ _ ⟨hdn,rfl,k,rfl,hH1⟩
 have hH2:H1=(4,[.str nm])::(0,otc x)::(Z++[(2*k+1,[AV.str nm])]):=hH1
 clear hH1
 have hnd1:(ids (Z++[(2*k+1,[AV.str nm])])).Nodup:=by rw[hH2]at hdn;exact(List.nodup_append.1 (show(ids ([(4,[.str nm]),(0,otc x)]:Hp)++ids (Z++[(2*k+1,[AV.str nm])])).Nodup from by rw[<-ids_app];exact hdn)).2.1
 have hp1:((Z++[(2*k+1,[AV.str nm])])).Perm ((i,A++otc t++B)::((2*k+1,[.str nm])::W)):=(hp.append_right _).trans (List.Perm.cons _ List.perm_append_comm)
 have hz1:odH (Z++[(2*k+1,[AV.str nm])]):=odH_app.2 ⟨hz,om,⟨trivial,trivial⟩,trivial⟩
 generalize (Z++[(2*k+1,[AV.str nm])])=Z1 at hH2 hp1 hnd1 hz1
 subst hH2
 have hg1:hgt Z1 i=some (A++otc t++B):=hgt_perm hnd1 hp1 (by simp)
 refine Ke (An1 2 [(35,.ptr i (A.length+3)),(34,.ptr i A.length)] (((1:Nat)≠0)/\·) ⟨dc,gesm (M:=(otc t)) rfl 23 i 3 (.osl (2*k+1) 1 0 1) [.bool t.dir,.i t.mode,.str t.data,.osl (2*k+1) 1 0 1,.nils] ((4,[.str nm])::(0,otc x)::(hset Z1 i (A++[.bool t.dir,.i t.mode,.str t.data,.osl (2*k+1) 1 0 1,.nils]++B))) (fun J=>by kernel_rfl) ((hgt_ev (E:=[(4,[.str nm]),(0,otc x)]) ⟨rfl,⟨rfl,trivial⟩⟩ hi).trans hg1) kr rfl (by simp only[otc,hids];rfl) (hset_ev (E:=[(4,[.str nm]),(0,otc x)]) ⟨rfl,⟨rfl,trivial⟩⟩ hi) ?_⟩)
 have hp2:=hset_perm (ds:=A++[.bool t.dir,.i t.mode,.str t.data,.osl (2*k+1) 1 0 1,.nils]++B) hnd1 hp1
 have hnd2:(ids (hset Z1 i (A++[.bool t.dir,.i t.mode,.str t.data,.osl (2*k+1) 1 0 1,.nils]++B))).Nodup:=by rw[hset_ids];exact hnd1
 have hz2:odH (hset Z1 i (A++[.bool t.dir,.i t.mode,.str t.data,.osl (2*k+1) 1 0 1,.nils]++B)):=odH_hset hz1 (odMid hz hp ⟨trivial,trivial,trivial,(show(2*k+1)%2=1 by omega),trivial,trivial⟩) hnd1
 generalize (hset Z1 i (A++[.bool t.dir,.i t.mode,.str t.data,.osl (2*k+1) 1 0 1,.nils]++B))=Z2 at hp2 hnd2 hz2⊢
 have hg2:hgt Z2 i=some (A++[.bool t.dir,.i t.mode,.str t.data,.osl (2*k+1) 1 0 1,.nils]++B):=hgt_perm hnd2 hp2 (by simp)
 refine Fn0 [0,5,6] [] (Qn [0,0,2,6,14,0,0,64,254,511,1023,2047] [(0,[]),(1,[]),(2,[]),(3,[]),(4,[]),(5,[]),(6,[]),(7,[4]),(8,[]),(9,[]),(10,[]),(11,[])] (qAn1 4 [(39,.ptr i (A.length+4)),(38,.ptr i A.length),(37,.ptr i A.length),(36,.ptr i A.length)] (((1:Nat)≠0)/\·) ⟨dc,gqlm (M:=[.bool t.dir,.i t.mode,.str t.data,.osl (2*k+1) 1 0 1,.nils]) rfl 40 24 i 4 .nils (fun J=>by kernel_rfl) ((hgt_ev (E:=[(4,[.str nm]),(0,otc x)]) ⟨rfl,⟨rfl,trivial⟩⟩ hi).trans hg2) kr rfl (qBc3 4 [(43,.osl 8 5 0 1),(42,.agg (otc x)),(41,.i 0)] [] 81 [.nils,.i 0,.osl 8 5 0 1] 44 ([(8,otc x)]++·) 12 ((0+5<=5/\0<5)/\(1*5<=16777216)/\((rR2 (ldr (tiq G 24) (.ptr i (A.length+4)) ((8,otc x)::(4,[.str nm])::(0,otc x)::Z2) 12) (fun x=>x=(.nils:AV)))/\True)/\·) ⟨dc,dc,⟨(rldm (M:=[.bool t.dir,.i t.mode,.str t.data,.osl (2*k+1) 1 0 1,.nils]) rfl ((hgt_ev (E:=[(8,otc x),(4,[.str nm]),(0,otc x)]) ⟨rfl,⟨rfl,⟨rfl,trivial⟩⟩⟩ hi).trans hg2) kr rfl),trivial⟩,?_⟩)⟩))
 refine TCall.mono (ins0_use (cs:=otc x) (vw0T x kr) hxs hxo (insT0_ok x hx)) ?_
 rintro _ H1 _ _ ⟨hdn,rfl,k',rfl,hH1⟩
 have hH2:H1=(8,otc x)::(4,[.str nm])::(0,otc x)::(Z2++[(2*k'+1,otc x)]):=hH1
 clear hH1
 have hnd3:(ids (Z2++[(2*k'+1,otc x)])).Nodup:=by rw[hH2]at hdn;exact(List.nodup_append.1 (show(ids ([(8,otc x),(4,[.str nm]),(0,otc x)]:Hp)++ids (Z2++[(2*k'+1,otc x)])).Nodup from by rw[<-ids_app];exact hdn)).2.1
 have hp3:((Z2++[(2*k'+1,otc x)])).Perm ((i,A++[.bool t.dir,.i t.mode,.str t.data,.osl (2*k+1) 1 0 1,.nils]++B)::((2*k+1,[.str nm])::(2*k'+1,otc x)::W)):=(hp2.append_right _).trans (List.Perm.cons _ (List.Perm.cons _ List.perm_append_comm))
 have hz3:odH (Z2++[(2*k'+1,otc x)]):=odH_app.2 ⟨hz2,om,hxo,trivial⟩
 generalize (Z2++[(2*k'+1,otc x)])=Z3 at hH2 hp3 hnd3 hz3
 subst hH2
 have hg3:hgt Z3 i=some (A++[.bool t.dir,.i t.mode,.str t.data,.osl (2*k+1) 1 0 1,.nils]++B):=hgt_perm hnd3 hp3 (by simp)
 refine Kq (p:=(True)) trivial ?_
 refine qAn1 2 [(46,.ptr i (A.length+4)),(45,.ptr i A.length)] (((1:Nat)≠0)/\·) ⟨dc,gqsm (M:=[.bool t.dir,.i t.mode,.str t.data,.osl (2*k+1) 1 0 1,.nils]) rfl 24 i 4 (.osl (2*k'+1) 5 0 1) (otc (.mk t.dir t.mode t.data (some (k,k')) [nm] [x])) ((8,otc x)::(4,[.str nm])::(0,otc x)::(hset Z3 i (A++otc (.mk t.dir t.mode t.data (some (k,k')) [nm] [x])++B))) (fun J=>by kernel_rfl) ((hgt_ev (E:=[(8,otc x),(4,[.str nm]),(0,otc x)]) ⟨rfl,⟨rfl,⟨rfl,trivial⟩⟩⟩ hi).trans hg3) kr rfl rfl (hset_ev (E:=[(8,otc x),(4,[.str nm]),(0,otc x)]) ⟨rfl,⟨rfl,⟨rfl,trivial⟩⟩⟩ hi) ?_⟩
 have hp4:=hset_perm (ds:=A++otc (.mk t.dir t.mode t.data (some (k,k')) [nm] [x])++B) hnd3 hp3
 have hz4:odH (hset Z3 i (A++otc (.mk t.dir t.mode t.data (some (k,k')) [nm] [x])++B)):=odH_hset hz3 (odMid hz hp (ods_otc _)) hnd3
 generalize (hset Z3 i (A++otc (.mk t.dir t.mode t.data (some (k,k')) [nm] [x])++B))=Z4 at hp4 hz4⊢
 refine qGn0 [] (nk_n (Rtn (fun Z=>Z) (.tup []) (fin_dc (.tup []) Z4 (by first|exact List.Sublist.refl _|exact List.Sublist.cons _ (List.Sublist.refl _)|exact List.Sublist.cons _ (List.Sublist.cons _ (List.Sublist.refl _))|exact List.Sublist.cons _ (List.Sublist.cons _ (List.Sublist.cons _ (List.Sublist.refl _)))) (by first|exact lea_refl _|simp[lea,leas]) trivial hz4 ⟨k,k',hp4,hz4⟩)))
def rp:Tr->List Str->Tr->Tr
 |_,[],x=>x
 |t,n::p,x=>match fnd n t.names with
  |some k=>.mk t.dir t.mode t.data t.names (t.kids.set k (rp (t.kids.getD k .none) p x))
  |none=>t
theorem er_rp:∀(p:List Str) (T x:OT),er (orep T p x)=rp (er T) p (er x)
 |[],T,x=>by simp only[orep,rp]
 |n::p,T,x=>by
  simp only[orep,rp]
  rw[er_names]
  cases h:fnd n T.names with
  |none=>rfl
  |some k=>
   dsimp only
   rw[er_mk,er_dir,er_mode,er_data,er_kids,List.map_set,er_rp p,getD_er]
theorem tat_rp:∀(p:List Str) (T u x:Tr) (r:List Str),T.wf=true->tat T p=some u->tat (rp T p x) (p++r)=tat x r
 |[],T,u,x,r,_,_=>by simp only[rp,List.nil_append]
 |n::p,.mk d m s ns ks,u,x,r,hw,h=>by
  simp only[tat,Tr.names,Tr.kids]at h
  simp only[rp,List.cons_append,Tr.names,Tr.kids]
  cases hf:fnd n ns with
  |none=>rw[hf]at h;simp at h
  |some k=>
   rw[hf]at h
   have hk:k<ks.length:=by have:=fnd_lt hf;have:=wf_len hw;simp only[Tr.names,Tr.kids]at this;omega
   simp only[tat,Tr.names,hf,Tr.kids]
   rw[show(ks.set k (rp (ks.getD k .none) p x)).getD k Tr.none=rp (ks.getD k .none) p x by simp[List.getD,hk]]
   exact tat_rp p _ u x r (wf_kid hw hk _) h
theorem rp_app:∀(p:List Str) (T u y:Tr) (r:List Str),tat T p=some u->rp T (p++r) y=rp T p (rp u r y)
 |[],T,u,y,r,h=>by simp only[tat,Option.some.injEq]at h;subst h;simp only[rp,List.nil_append]
 |n::p,.mk d m s ns ks,u,y,r,h=>by
  simp only[tat,Tr.names,Tr.kids]at h
  simp only[rp,List.cons_append,Tr.names,Tr.kids]
  cases hf:fnd n ns with
  |none=>rfl
  |some k=>
   rw[hf]at h
   dsimp only
   rw[rp_app p _ u y r h]
theorem rp_rp:∀(p:List Str) (T u x y:Tr),T.wf=true->tat T p=some u->rp (rp T p x) p y=rp T p y
 |[],T,u,x,y,_,_=>by simp only[rp]
 |n::p,.mk d m s ns ks,u,x,y,hw,h=>by
  simp only[tat,Tr.names,Tr.kids]at h
  simp only[rp,Tr.names,Tr.kids]
  cases hf:fnd n ns with
  |none=>rw[hf]at h;simp at h
  |some k=>
   rw[hf]at h
   have hk:k<ks.length:=by have:=fnd_lt hf;have:=wf_len hw;simp only[Tr.names,Tr.kids]at this;omega
   simp only[rp,Tr.names,hf,Tr.kids]
   rw[show(ks.set k (rp (ks.getD k .none) p x)).getD k Tr.none=rp (ks.getD k .none) p x by simp[List.getD,hk],List.set_set,show rp (rp (ks.getD k .none) p x) p y=rp (ks.getD k .none) p y from rp_rp p _ u x y (wf_kid hw hk _) h]
   rfl
theorem wf_mk {d:Bool} {m:Int} {s:Str} {ns:List Str} {ks:List Tr}:(Tr.mk d m s ns ks).wf=true↔ns.length=ks.length/\∀k∈ks,k.wf=true:=by
 simp only[Tr.wf,wfs_all,Bool.and_eq_true,decide_eq_true_eq,List.all_eq_true]
theorem rp_wf:∀(p:List Str) (T x:Tr),T.wf=true->x.wf=true->(rp T p x).wf=true
 |[],T,x,_,hx=>by simpa only[rp]using hx
 |n::p,.mk d m s ns ks,x,hw,hx=>by
  simp only[rp,Tr.names,Tr.kids]
  cases hf:fnd n ns with
  |none=>exact hw
  |some k=>
   have hk:k<ks.length:=by have:=fnd_lt hf;have:=wf_len hw;simp only[Tr.names,Tr.kids]at this;omega
   dsimp only
   refine wf_mk.2 ⟨by rw[List.length_set];exact wf_len hw,fun y hy=>?_⟩
   rcases List.mem_or_eq_of_mem_set hy with h|h
   ·rw[wf_eq]at hw;simp only[Bool.and_eq_true,List.all_eq_true]at hw;exact hw.2 y h
   ·rw[h];exact rp_wf p _ x (wf_kid hw hk _) hx
theorem Ws_setR:∀(ks:List Tr) (k:Nat) (y:Tr),k<ks.length->Tr.Ws (ks.set k y)+(ks.getD k .none).W=Tr.Ws ks+y.W
 |[],k,y,h=>by simp at h
 |t::ks,0,y,_=>by simp only[List.set_cons_zero,Tr.Ws,List.getD_cons_zero];omega
 |t::ks,k+1,y,h=>by
  have:=Ws_setR ks k y (by simpa using h)
  simp only[List.set_cons_succ,Tr.Ws,List.getD_cons_succ];omega
theorem rp_W:∀(p:List Str) (T u x:Tr),T.wf=true->tat T p=some u->(rp T p x).W+u.W=T.W+x.W
 |[],T,u,x,_,h=>by simp only[tat,Option.some.injEq]at h;subst h;simp only[rp];omega
 |n::p,.mk d m s ns ks,u,x,hw,h=>by
  simp only[tat,Tr.names,Tr.kids]at h
  simp only[rp,Tr.names,Tr.kids]
  cases hf:fnd n ns with
  |none=>rw[hf]at h;simp at h
  |some k=>
   rw[hf]at h
   have hk:k<ks.length:=by have:=fnd_lt hf;have:=wf_len hw;simp only[Tr.names,Tr.kids]at this;omega
   dsimp only
   have h1:(rp (ks.getD k .none) p x).W+u.W=(ks.getD k .none).W+x.W:=rp_W p _ u x (wf_kid hw hk _) h
   have h2:=Ws_setR ks k (rp (ks.getD k .none) p x) hk
   simp only[Tr.W,Tr.data]
   omega
theorem rp_same:∀(p:List Str) (T u:Tr),T.wf=true->tat T p=some u->rp T p u=T
 |[],T,u,_,h=>by simp only[tat,Option.some.injEq]at h;simp only[rp,h]
 |n::p,.mk d m s ns ks,u,hw,h=>by
  simp only[tat,Tr.names,Tr.kids]at h
  simp only[rp,Tr.names,Tr.kids,Tr.dir,Tr.mode,Tr.data]
  cases hf:fnd n ns with
  |none=>rfl
  |some k=>
   rw[hf]at h
   have hk:k<ks.length:=by have:=fnd_lt hf;have:=wf_len hw;simp only[Tr.names,Tr.kids]at this;omega
   dsimp only
   rw[show rp (ks.getD k .none) p u=ks.getD k .none from rp_same p _ u (wf_kid hw hk _) h,set_split _ _ hk,<-get_split ks k hk .none]
def leafR (r:Rw):Tr:=.mk r.dir r.mode r.data [] []
def addk (u:Tr) (n:Str) (x:Tr):Tr:=.mk u.dir u.mode u.data (u.names++[n]) (u.kids++[x])
def upP (r:Rw):List Str:=r.path.take (r.path.length-1)
def lastP (r:Rw):Str:=r.path.getD (r.path.length-1) default
def pst (T:Tr) (r:Rw):Tr:=rp T (upP r) (addk ((tat T (upP r)).getD .none) (lastP r) (leafR r))
def okS:Tr->List Rw->Prop
 |_,[]=>True
 |T,r::rs=>(r.path≠[]/\∃u,tat T (upP r)=some u/\asc (u.names++[lastP r])=true)/\okS (pst T r) rs
theorem okS_app:∀(a b:List Rw) (T:Tr),okS T (a++b)↔okS T a/\okS (a.foldl pst T) b
 |[],b,T=>by simp[okS]
 |r::a,b,T=>by simp only[List.cons_append,okS,List.foldl_cons,okS_app a b,and_assoc]
def srt (t:Tr):Prop:=t.wf=true/\∀p x,tat t p=some x->asc x.names=true
theorem upP_snoc (p:List Str) (n:Str) (t:Tr):upP (rowOf (p++[n]) t)=p/\lastP (rowOf (p++[n]) t)=n:=by
 simp[upP,lastP,rowOf,List.getD]
theorem addk_wf {u x:Tr} {n:Str} (hu:u.wf=true) (hx:x.wf=true):(addk u n x).wf=true:=by
 refine wf_mk.2 ⟨by simp only[List.length_append,List.length_cons,List.length_nil,wf_len hu],fun y hy=>?_⟩
 rcases List.mem_append.1 hy with h|h
 ·rw[wf_eq]at hu;simp only[Bool.and_eq_true,List.all_eq_true]at hu;exact hu.2 y h
 ·simp only[List.mem_singleton]at h;rw[h];exact hx
theorem fnd_last {l:List Str} {n:Str} (h:n∉l):fnd n (l++[n])=some l.length:=by
 rw[fnd_app]
 cases hf:fnd n l with
 |none=>simp[fnd]
 |some k=>
  refine absurd ?_ h
  have h1:=fnd_lt hf
  have h2:=fnd_some hf
  rw[<-h2];simp[List.getD,h1]
theorem asc_notin {l:List Str} {n:Str} (h:asc (l++[n])=true):n∉l:=by
 have:=asc_nd h
 rw[List.nodup_append]at this
 exact fun hm=>this.2.2 n hm n (by simp) rfl
theorem tat_addk {u x:Tr} {n:Str} (hu:u.wf=true) (h:n∉u.names):tat (addk u n x) [n]=some x:=by
 obtain⟨d,m,s,ns,ks⟩:=u
 have hl:ns.length=ks.length:=wf_len hu
 have hf:fnd n (ns++[n])=some ns.length:=fnd_last h
 simp only[tat,addk,Tr.names,Tr.kids,hf,hl]
 simp[List.getD]
theorem rp_addk {u x y:Tr} {n:Str} (hu:u.wf=true) (h:n∉u.names):rp (addk u n x) [n] y=addk u n y:=by
 obtain⟨d,m,s,ns,ks⟩:=u
 have hl:ns.length=ks.length:=wf_len hu
 have hf:fnd n (ns++[n])=some ns.length:=fnd_last h
 simp only[rp,addk,Tr.names,Tr.kids,Tr.dir,Tr.mode,Tr.data,hf,hl]
 rw[List.set_append_right _ _ (Nat.le_refl _),Nat.sub_self]
 rfl
theorem fnd_at {l:List Str} (hn:l.Nodup) {k:Nat} (hk:k<l.length):fnd (l.getD k default) l=some k:=by
 cases hf:fnd (l.getD k default) l with
 |none=>exact absurd (by simp[List.getD,hk]) (fnd_none hf)
 |some j=>
  have h1:=fnd_lt hf
  have h2:=fnd_some hf
  by_cases h:j=k
  ·rw[h]
  ·exact absurd h2 (nd_ne hn h1 hk h)
theorem srt_kid {t:Tr} (h:srt t) (hn:t.names.Nodup) {k:Nat} (hk:k<t.kids.length):srt (t.kids.getD k .none):=by
 refine⟨wf_kid h.1 hk _,fun p x hx=>h.2 (t.names.getD k default::p) x ?_⟩
 have hl:=wf_len h.1
 have:fnd (t.names.getD k default) t.names=some k:=fnd_at hn (by omega)
 simp only[tat,this]
 exact hx
theorem asc_left:∀{a b:List Str},asc (a++b)=true->asc a=true:=fun {a b} h=>by
 have:=asc_pre (a++b) a.length h
 rwa[List.take_left' rfl]at this
mutual
theorem addT:∀(t:Tr) (p:List Str) (n:Str) (T u:Tr),srt t->T.wf=true->tat T p=some u->asc (u.names++[n])=true->
  okS T (rowsT (p++[n]) t)/\(rowsT (p++[n]) t).foldl pst T=rp T p (addk u n t)
 |.mk d m s ns ks,p,n,T,u,hs,hw,hu,ha=>by
  have huw:=wf_xat .none p T u hw hu
  have hni:=asc_notin ha
  obtain⟨e1,e2⟩:=upP_snoc p n (.mk d m s ns ks)
  let lf:Tr:=.mk d m s [] []
  have hp1:pst T (rowOf (p++[n]) (.mk d m s ns ks))=rp T p (addk u n lf):=by unfold pst;rw[e1,e2,hu];rfl
  have hlf:lf.wf=true:=wf_mk.2 ⟨rfl,fun k hk=>by simp at hk⟩
  have hw1:(rp T p (addk u n lf)).wf=true:=rp_wf p T _ hw (addk_wf huw hlf)
  have ht1:tat (rp T p (addk u n lf)) (p++[n])=some lf:=by rw[tat_rp p T u _ [n] hw hu,tat_addk huw hni]
  obtain ⟨k1, k2⟩ := addK ns ks (p ++ [n]) (rp T p (addk u n lf)) lf (wf_mk.1 hs.1).1 (fun k hk=>by
   obtain⟨j,hj,rfl⟩:=List.getElem_of_mem hk
   have:=srt_kid hs (asc_nd (hs.2 [] _ rfl)) (k:=j) hj
   simpa[List.getD,hj,Tr.kids]using this) hw1 ht1 (hs.2 [] _ rfl)
  rw[rowsT]
  refine⟨⟨⟨by simp[rowOf],u,by rw[e1];exact hu,by rw[e2];exact ha⟩,by rw[hp1];exact k1⟩,?_⟩
  rw[List.foldl_cons,hp1,k2]
  show rp (rp T p (addk u n lf)) (p++[n]) (.mk d m s ns ks)=_
  rw[rp_app p _ (addk u n lf) _ [n] (by have:=tat_rp p T u (addk u n lf) [] hw hu;rw[List.append_nil]at this;rw[this];rfl),rp_rp p T u _ _ hw hu,rp_addk huw hni]
theorem addK:∀(ns:List Str) (ks:List Tr) (p:List Str) (T v:Tr),ns.length=ks.length->(∀k∈ks,srt k)->T.wf=true->tat T p=some v->asc (v.names++ns)=true->
  okS T (rowsK p ns ks)/\(rowsK p ns ks).foldl pst T=rp T p (.mk v.dir v.mode v.data (v.names++ns) (v.kids++ks))
 |n::ns,k::ks,p,T,v,hl,hs,hw,hv,ha=>by
  have ha':asc ((v.names++[n])++ns)=true:=by rw[List.append_assoc];exact ha
  have hvw:=wf_xat .none p T v hw hv
  obtain⟨a1,a2⟩:=addT k p n T v (hs k (by simp)) hw hv (asc_left ha')
  have hw1:(rp T p (addk v n k)).wf=true:=rp_wf p T _ hw (addk_wf hvw (hs k (by simp)).1)
  have ht1:tat (rp T p (addk v n k)) p=some (addk v n k):=by have:=tat_rp p T v (addk v n k) [] hw hv;rw[List.append_nil]at this;rw[this];rfl
  obtain⟨b1,b2⟩:=addK ns ks p (rp T p (addk v n k)) (addk v n k) (by simpa using hl) (fun x hx=>hs x (by simp[hx])) hw1 ht1 ha'
  rw[rowsK]
  refine⟨(okS_app _ _ _).2 ⟨a1,by rw[a2];exact b1⟩,?_⟩
  rw[List.foldl_append,a2,b2,rp_rp p T v _ _ hw hv]
  simp only[addk,Tr.dir,Tr.mode,Tr.data,Tr.names,Tr.kids,List.append_assoc,List.cons_append,List.nil_append]
 |[],[],p,T,v,_,_,hw,hv,_=>by
  rw[rowsK_nil]
  refine⟨trivial,?_⟩
  rw[List.append_nil,List.append_nil,List.foldl_nil]
  rw[show Tr.mk v.dir v.mode v.data v.names v.kids=v by cases v;rfl,rp_same p T v hw hv]
 |[],_::_,_,_,_,hl,_,_,_,_=>by simp at hl
 |_::_,[],_,_,_,hl,_,_,_,_=>by simp at hl
end
set_option maxRecDepth 100000
def rnF3 (m:List (Nat×Nat)):Fr->Fr->Prop
 |[],[]=>True
 |(k,v)::F,(k',v')::F'=>k=k'/\((rn m v=v'/\slp v)\/(v=v'/\od v))/\rnF3 m F F'
 |_,_=>False
theorem rnF3_gt {m:List (Nat×Nat)}:∀{F F':Fr},rnF3 m F F'->∀t,(rn m (gt F t)=gt F' t/\slp (gt F t))\/(gt F t=gt F' t/\od (gt F t))
 |[],[],_,t=>.inl ⟨by simp[gt,rn],by simp[gt,slp]⟩
 |(k,v)::F,(k',v')::F',h,t=>by
  obtain⟨rfl,h1,h2⟩:=h
  simp only[gt]
  cases k==t
  ·exact rnF3_gt h2 t
  ·exact h1
 |[],_::_,h,_=>by simp only[rnF3]at h
 |_::_,[],h,_=>by simp only[rnF3]at h
theorem lsz_mk3 {np:Nat} {σ:Type} {Fi:σ->Fr} {Hi:σ->Hp} {I:σ->Nat->Prop} {m:σ->Nat} {x:σ} {Q:Post} {F:Fr} {H:Hp} {n:Nat} (y:σ) (mp:List (Nat×Nat)) (n':Nat) (F1:Fr) (H1 Hf Z:Hp)
  (h1:m y<m x) (h2:I y n') (h3:okm mp n'=true/\okp mp np=true) (h4:fsub F1 F) (h5:∃H0:Hp,H0.Perm H/\(H1++Z).Sublist H0) (h6:rnF3 mp F1 (Fi y)) (h7:rnR3 mp H1 Hf) (h8:Hf++Z=Hi y) (h9:odH Z):LS np Fi Hi I m x Q .normal F H n:=by
 refine⟨y,h1,n',h2,fun X N ρ a w hs=>?_⟩
 obtain⟨H0,hpm,hsub⟩:=h5
 have hs1:=(hs.perm hpm).sub hsub h4
 obtain⟨k1,k2,k3⟩:=S.rnz (F:=[]) (F':=[]) (np:=np) h3.1 h3.2 ⟨trivial,rfl⟩ h7 h9 (hs1.sub (List.Sublist.refl _) trivial)
 rw[h8]at k1 k2
 have hO:∀b,OX X (rnr mp ρ) (Hi y) b->OX X ρ (H1++Z) b:=fun b hb=>hb.imp id (k2 b)
 refine⟨_,⟨k1.fresh,k1.hr,fun t=>?_,k1.df,k1.sz⟩,fun b hb=>by obtain⟨i,hi,hb⟩:=Own.sub hsub (k2 b hb);exact⟨i,(ids_perm hpm i).1 hi,hb⟩,k3⟩
 rcases rnF3_gt h6 t with ⟨e,h⟩|⟨e,h⟩
 ·rw[<-e];exact rn_vr h3.1 hO _ _ h (hs1.fr t)
 ·rw[<-e];exact od_vr (fun i b hi hb=>by unfold rnr;rw[if_pos hi];exact hb) hO _ _ h (hs1.fr t)
theorem srt_ok {d:Tr} (h:treeOk d=true):srt d:=⟨wf_ok h,fun p x hx=>asc_tat h hx⟩
def lf0 (d:Tr):Tr:=.mk d.dir d.mode d.data [] []
theorem rows_ok {d:Tr} (h:treeOk d=true):okS (lf0 d) ((rowsT [] d).drop 1)/\((rowsT [] d).drop 1).foldl pst (lf0 d)=d:=by
 have hs:=srt_ok h
 have hn:=asc_nd (hs.2 [] d rfl)
 obtain ⟨a, b⟩ := addK d.names d.kids [] (lf0 d) (lf0 d) (wf_len hs.1) (fun k hk=>by
  obtain⟨j,hj,rfl⟩:=List.getElem_of_mem hk
  have:=srt_kid hs hn (k:=j) hj
  rwa[show d.kids.getD j .none=d.kids[j] by simp[List.getD,hj]]at this) (wf_mk.2 ⟨rfl,fun k hk=>by simp at hk⟩) rfl (hs.2 [] d rfl)
 rw[show(rowsT [] d).drop 1=rowsK [] d.names d.kids by rw[rowsT_eq];rfl]
 refine⟨a,b.trans ?_⟩
 cases d;rfl
theorem W_addk (u:Tr) (n:Str) (x:Tr):u.W<=(addk u n x).W:=by
 have h1:∀a:List Str,wS (a++[n])=wS a+(n.length+1):=fun a=>by
  induction a with
  |nil=>simp[wS]
  |cons y a ih=>simp only[List.cons_append,wS,ih];omega
 have h2:∀a:List Tr,Tr.Ws (a++[x])=Tr.Ws a+x.W:=fun a=>by
  induction a with
  |nil=>simp[Tr.Ws]
  |cons y a ih=>simp only[List.cons_append,Tr.Ws,ih];omega
 cases u
 simp only[addk,Tr.W,Tr.data,Tr.names,Tr.kids,h1,h2];omega
theorem pst_ok {T u:Tr} {r:Rw} (hw:T.wf=true) (hu:tat T (upP r)=some u):pst T r=rp T (upP r) (addk u (lastP r) (leafR r))/\(pst T r).wf=true/\T.W<=(pst T r).W:=by
 have e:pst T r=rp T (upP r) (addk u (lastP r) (leafR r)):=by unfold pst;rw[hu];rfl
 refine⟨e,?_,?_⟩
 ·rw[e];exact rp_wf _ _ _ hw (addk_wf (wf_xat .none _ _ _ hw hu) (wf_mk.2 ⟨rfl,fun k hk=>by simp at hk⟩))
 ·rw[e]
  have h1:=rp_W (upP r) T u (addk u (lastP r) (leafR r)) hw hu
  have h2:=W_addk u (lastP r) (leafR r)
  omega
theorem okS_W:∀(rs:List Rw) (T:Tr),T.wf=true->okS T rs->T.W<=(rs.foldl pst T).W
 |[],T,_,_=>Nat.le_refl _
 |r::rs,T,hw,h=>by
  obtain⟨⟨_,u,hu,_⟩,h2⟩:=h
  obtain⟨_,h3,h4⟩:=pst_ok hw hu
  exact Nat.le_trans h4 (okS_W rs _ h3 h2)
theorem putA {Z W:Hp} {r:Nat} {A0 B0:List AV} {T u:OT} {q:List Str} {i o:Nat} (nm:Str) (d:Bool) (m:Int) (s:Str) (hL:Lies Z r A0 B0 T W) (hu:oat T q=some u) (ho:opos T r A0.length q=some (i,o)) (ha:asc (u.names++[nm])=true):
  DC G 54 [.ptr i o,.str nm,.agg [.bool d,.int .i64 m,.str s,.nils,.nils]] Z (fun _ Z'=>∃T',Lies' Z' r A0 B0 T' W/\er T'=rp (er T) q (addk (er u) nm (.mk d m s [] []))/\shp T'):=by
 have hxx:shp (.mk d m s none [] []):=(shp_eq _).2 ⟨fun _=>⟨rfl,rfl⟩,trivial⟩
 have hsu:=oat_shp hL.wf hL.shp hu
 cases hi:u.ids with
 |none=>
  obtain⟨e1,e2⟩:=((shp_eq u).1 hsu).1 hi
  obtain⟨i',A,B,Wo,q1,q2,q3,q4,q5,q6⟩:=hL.foc hu
  rw[ho]at q1;cases q1
  have eo:own u=[]:=by simp only[own,hi]
  rw[eo,e2]at q3
  refine(put0_ok nm (.mk d m s none [] []) rfl (nsls_otc _) (ods_otc _) hi hL.odd q2 q3).mono ?_
  rintro _ Z' ⟨k,k',hp,hz⟩
  refine⟨orep T q (.mk u.dir u.mode u.data (some (k,k')) [nm] [.mk d m s none [] []]),⟨hp.trans ?_,hz⟩,?_,orep_shp hL.wf hL.shp hu ((shp_eq _).2 ⟨fun h=>(by simp at h),hxx,trivial⟩)⟩
  ·refine List.Perm.trans ?_ (q6 _).symm
   rw[objs_eq]
   simp only[OT.kids_mk,objss,objs,own,List.append_nil,List.nil_append]
   exact List.Perm.refl _
  ·rw[er_rp,er_eq u]
   simp only[er_mk,addk,Tr.dir,Tr.mode,Tr.data,Tr.names,Tr.kids,e1,e2,List.map_nil,List.map_cons,List.nil_append]
 |some p=>
  obtain⟨a,b⟩:=p
  have hn:=asc_notin ha
  have hf:fnd nm u.names=none:=by
   cases hf:fnd nm u.names with
   |none=>rfl
   |some k=>exact absurd (by rw[<-fnd_some hf];have:=fnd_lt hf;simp[List.getD,this]) hn
  refine(putL_new (x:=.mk d m s none [] []) (W':=W) nm hL hu ho hi (asc_left ha) hf (by simp only[objs,own,objss,List.append_nil,List.nil_append];exact List.Perm.refl _)).mono ?_
  rintro _ Z' ⟨j,k,k',u',hj,e1,e2,hZ⟩
  refine⟨_,hZ,?_,orep_shp hL.wf hL.shp hu (shp_ins e1 hsu hxx)⟩
  rw[er_rp,e2]
  refine congrArg _ ?_
  have hwu:(er u).wf=true:=oat_wf hL.wf hu
  have hl:=wf_len hwu
  rw[tset_new (j:=(er u).names.length) hl (by rw[er_names];exact asc_left ha) (Nat.le_refl _) (fun l hlt=>?_) (fun l h1 h2=>by omega) (fun h=>by omega)]
  ·rw[List.take_length,hl,List.take_length,List.drop_eq_nil_of_le (Nat.le_of_eq hl),List.drop_length,List.append_nil,List.append_nil]
   rfl
  ·rw[er_names]at hlt⊢
   have:=asc_lt ha (i:=l) (j:=u.names.length) hlt (by simp)
   rwa[show(u.names++[nm]).getD l default=u.names.getD l default by simp only[List.getD_eq_getElem?_getD];rw[List.getElem?_append_left hlt],show(u.names++[nm]).getD u.names.length default=nm by simp[List.getD]]at this
mutual
theorem rowsT_pl:∀(q:List Str) (t:Tr) (x:Rw),x∈rowsT q t->x.path.length<q.length+t.W
 |q,.mk d m s ns ks,x,h=>by
  rw[rowsT]at h
  simp only[Tr.W]
  rcases List.mem_cons.1 h with rfl|h
  ·simp only[rowOf];omega
  ·have:=rowsK_pl q ns ks x h;omega
theorem rowsK_pl:∀(q ns:List Str) (ks:List Tr) (x:Rw),x∈rowsK q ns ks->x.path.length<q.length+1+Tr.Ws ks
 |q,n::ns,k::ks,x,h=>by
  rw[rowsK]at h
  simp only[Tr.Ws]
  rcases List.mem_append.1 h with h|h
  ·have:=rowsT_pl (q++[n]) k x h
   rw[List.length_append,List.length_singleton]at this;omega
  ·have:=rowsK_pl q ns ks x h;omega
 |_,[],_,x,h=>by simp[rowsK]at h
 |_,_::_,[],x,h=>by simp[rowsK]at h
end
theorem hl_rows {d:Tr} (hw:d.W<2^19):∀x∈rowsT [] d,x.path.length<2^40:=fun x hx=>by
 have:=rowsT_pl [] d x hx
 simp only[List.length_nil]at this;omega
theorem hn_rows {d:Tr} (h:treeOk d=true):1<=(rowsT [] d).length/\(rowsT [] d).length<=31:=by
 have h1:=rowsT_len [] d
 simp only[treeOk,Bool.and_eq_true,decide_eq_true_eq]at h
 refine⟨?_,by omega⟩
 rw[rowsT_eq];simp
theorem inb_rows {d:Tr} (h:treeOk d=true):inb (((rowsT [] d).length:Nat):Int) 1 31=true:=by
 have:=hn_rows h
 simp only[inb,Bool.and_eq_true,decide_eq_true_eq];omega
theorem row0 (d:Tr):(rowsT [] d).getD 0 default=rowOf [] d:=by rw[rowsT_eq];rfl
end Go.Proofs.YtkgaefbohkcofaaGreatDoorT
