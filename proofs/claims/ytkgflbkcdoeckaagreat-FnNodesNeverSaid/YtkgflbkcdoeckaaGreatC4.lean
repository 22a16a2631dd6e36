/- A part of the proof that FnNodesNever, on every slice of bytes, returns true (no conditions): rules of the walk, and what the functions compute. -/
import Derived.Shelf.SlSortCmp.WholeK
import Derived.Test.YtkgflbkcdoeckaaGreatC3
set_option linter.unusedVariables false
set_option linter.unusedSimpArgs false
namespace Go.Proofs.YtkgflbkcdoeckaaGreatT
open Go Go.Proofs
set_option maxRecDepth 100000
def stpA (N:Nds) (k:Nat):Bool:=inb (N.list.getD k default).id 1 (N.next-1)&&(pthOk (N.list.getD k default).path 1&&(decide (k=0)||decide (cmpP (N.list.getD (k-1) default).path (N.list.getD k default).path<0)))
theorem stepN_eq (N:Nds) (k:Nat):stepN N k=(stpA N k&& !((N.list.take k).any fun x=>x.id==(N.list.getD k default).id)):=by unfold stepN stpA;simp only[Bool.and_assoc]
theorem any_at {l:List No} {f:No->Bool} {j k:Nat} (hj:j<k) (hk:k<=l.length) (h:f (l.getD j default)=true):(l.take k).any f=true:=
  List.any_eq_true.2 ⟨l.getD j default,by rw[List.mem_take_iff_getElem];exact⟨j,om,by simp[List.getD,show j<l.length by omega]⟩,h⟩
theorem any_snoc {l:List No} {f:No->Bool} {j:Nat} (hj:j<l.length) (h0:(l.take j).any f=false) (h:f (l.getD j default)=false):(l.take (j+1)).any f=false:=by
  rw[take_snoc l j default hj,List.any_append,h0,Bool.false_or,List.any_cons,List.any_nil,h];rfl
theorem sStart_ok (t:Tr) (hw:t.W<2^40):PE G 71 [.agg (tcs t)] (.agg (nsc (sStart t))):=by
 refine Pe Tryz.func71 ?_
 refine Rr (Fn2 [] [(2,.ptr 4 0),(1,.ptr 0 0)] ([(4,[.i 0,.nils]),(0,tcs t)]++·) 8 (Sq fun K2 hK2=>?_))
 refine Rr (Pc1 2 [(6,.agg (tcs t))] 7 (0+5<=5/\0<5) dc (sTreeOk_c t om) (Cn0 (!(treeOk t)) [1,2] [] ⟨fun hc4 c4=>?_,fun hc4 c4=>?_⟩))
 refine Rr (Fn1 [2] [] ((true=true/\2=2/\0+2<=2)/\·) ⟨dc,Rt1 ((0+2<=2/\0<2)/\·) (.agg [.i 0,.nils]) ⟨dc,fin_lea ?_⟩⟩)
 unfold sStart
 rw[if_neg (by have h:=hc4;simpa using h)];simp[lea,leas]
 refine Sk (Jn (hK2 (Kp [1,2] (Rr (Fn3 [1,2] [(3,.ptr 8 0)] ([(8,[.i 1,.nils])]++·) 12 ((true=true/\2=2/\0+2<=2)/\·) ⟨dc,Rr (Bc3 3 [(12,.agg (tcs t)),(11,.osl 12 1 0 0)] 36 [.osl 12 1 0 0,.agg (tcs t)] 13 ([(12,[])]++·) 16 ((0*1<=16777216)/\(0+5<=5/\0<5)/\·) ⟨dc,dc,?_⟩)⟩)))))
 refine Tz 12 1 0 ([]) ([]) [pth [],.agg (tcs t)] [(8,[.i 1,.nils]),(4,[.i 0,.nils]),(0,tcs t)] [true,true,true] kr dc ?_
 have htk:treeOk t=true:=by have h:=hc4;simpa using h
 refine PE.use (l33Paths_ok _ [] t rfl (treeOk_wf htk) (by simp only[wS];omega)) ?_
 refine Ke (Fn0 [2,3] [(4,.sl 1 ((pathsT [] t).map ptc))] (Sq fun K8 hK8=>?_))
 have hql:=pathsT_len [] t;have hqc:=cnt_W t
 refine Rr (Fn0 [2,3,4] [(5,.i 0)] (Bl (h_l (fun(z:Nat×Option Unit)=>(match z with|(_,none)=>([(2,.ptr 4 0),(3,.ptr 8 0),(4,.sl 1 ((pathsT [] t).map ptc)),(5,.i 0)]:Fr)|(k,some ())=>([(2,.ptr 4 0),(3,.ptr 8 0),(4,.sl 1 ((pathsT [] t).map ptc)),(5,.i k)]:Fr))) (fun(z:Nat×Option Unit)=>(match z with|(_,none)=>([(8,[.i 1,.nils]),(4,[.i 0,.nils]),(0,tcs t)]:Hp)|(k,some ())=>([(12,fl ndc (numN 1 ((pathsT [] t).take k))),(8,[.i ((k+1:Nat):Int),.osl 12 2 0 ((numN 1 ((pathsT [] t).take k)).length)]),(4,[.i 0,.nils]),(0,tcs t)]:Hp))) (fun(z:Nat×Option Unit) cn=>(match z with|(_,none)=>(z.1=0)/\cn=16|(k,some ())=>(0<k/\k<=(pathsT [] t).length)/\cn=16)) (fun(z:Nat×Option Unit)=>(pathsT [] t).length-z.1) (0,none) kr ?_ ?_ ?_ ?_)))
 refine⟨?_,rfl⟩;rfl
 exact⟨kr,kr,kr,kr,trivial⟩
 exact(sub_c kr (sub_c kr (sub_c kr (List.nil_sublist _))))
 rintro⟨k,_|⟨⟩⟩ n1 hI
 (try dsimp only at hI)
 obtain⟨rfl,rfl⟩:=hI
 dsimp only
 refine Sq fun K10 hK10=>?_
 refine Rr (Av0 3 16 [(15,.sl 1 ((pathsT [] t).map ptc)),(14,.i 0)] (lnm (pathsT [] t) ptc) (Cn1 (decide ((0:Int)<(((pathsT [] t).length:Int):Int))) [2,3,4,5] [] (Ki/\·) ⟨rfl,fun hc12 c12=>?_,fun hc12 c12=>?_⟩))
 refine Sk (Jn (hK10 (Kp [2,3,4,5] (Sq fun K13 hK13=>?_))))
 refine Bl (Qr [0,1,0,4,0,0,48,112,252,508,1023,2047,4095] [(0,[]),(1,[]),(2,[]),(3,[]),(4,[]),(5,[]),(6,[]),(7,[]),(8,[]),(9,[1]),(10,[]),(11,[]),(12,[])] (qAv1 7 26 [(25,.i 0),(24,.sl 1 ((pathsT [] t).map ptc)),(23,.i 1),(22,.ptr 8 0),(21,.nils),(20,.ptr 8 1)] (congrArg AV.pat (mg_pp (pathsT [] t) 0 om)) (((1:Nat)≠0)/\(1+1<=2/\1<2)/\((1:Nat)≠0)/\(0+1<=2/\0<2)/\(1=1/\(0:Int)<=0/\0<(((pathsT [] t).map ptc).length:Int))/\·) ⟨dc,dc,dc,dc,⟨rfl,om,lmo⟩,qAn3 4 [(30,.osl 20 2 0 1),(29,.osl 16 2 0 1),(28,.agg [.i 1,pth ((pathsT [] t).getD 0 default)]),(27,pth ((pathsT [] t).getD 0 default))] ([(20,[.i 1,pth ((pathsT [] t).getD 0 default)]),(16,[.i 1,pth ((pathsT [] t).getD 0 default)])]++·) 24 ((1<=1/\0<1)/\(1*2<=16777216)/\(((1+1<=2/\1<2)/\(AV.nils=(.nils:AV)))/\True)/\(0+1*2<=2)/\(0<1/\0<32/\1*32<=140737488355328)/\(True)/\·) ⟨dc,dc,⟨⟨dc,rfl⟩,trivial⟩,dc,dc,trivial,runq_v (v':=.osl 20 2 0 ([No.mk 1 ((pathsT [] t).getD 0 default)].length)) rfl ?_⟩⟩))
 refine runq_h (cs':=fl ndc [No.mk 1 ((pathsT [] t).getD 0 default)]) (s1_nd (No.mk 1 ((pathsT [] t).getD 0 default))) ?_
 refine qFn3 [2,3,4,5] [] (Hw [(8,[.i 1,.osl 20 2 0 ([No.mk 1 ((pathsT [] t).getD 0 default)].length)])] [] ·) 24 (((1:Nat)≠0)/\(true=true/\1=1/\1+1<=2)/\(True)/\·) ⟨dc,dc,trivial,Rb (fun h=>Bn (Jn (hK13 h))) (Fn3 [2,3,4,5] [] (Hw [(8,[.i 2,.osl 20 2 0 ([No.mk 1 ((pathsT [] t).getD 0 default)].length)])] [] ·) 24 (((1:Nat)≠0)/\(0+1<=2/\0<2)/\Ki/\((1:Nat)≠0)/\(true=true/\1=1/\0+1<=2)/\·) ⟨dc,dc,rfl,dc,dc,Rn (Gn1 [(5,.i 1),(19,.i 1),(18,.i 0)] (Ki/\·) ⟨rfl,?_⟩)⟩)⟩
 refine nk_n (Lr (1,some ()) [(0,0),(4,4),(8,8),(20,12)] 16 [(2,.ptr 4 0),(3,.ptr 8 0),(4,.sl 1 ((pathsT [] t).map ptc)),(5,.i 1)] [(20,fl ndc [No.mk 1 ((pathsT [] t).getD 0 default)]),(8,[.i 2,.osl 20 2 0 ([No.mk 1 ((pathsT [] t).getD 0 default)].length)]),(4,[.i 0,.nils]),(0,tcs t)] [false,true,true,true] ?_ ?_ (by(try ((try dsimp only);rw[numN_take (pathsT [] t) 0 om]));try kernel_rfl) (by(try (try dsimp only));try kernel_rfl))
 (try dsimp only);omega
 refine⟨?_,rfl⟩;(try dsimp only);omega
 refine Xt (Jx (Lx (Bh (Jn (hK8 (Kp [2,3] (Rr (Fn3 [2] [] (Hw [(4,[.i 1,.nils])] [] ·) 16 ((0+2<=2/\0<2)/\(true=true/\2=2/\0+2<=2)/\·) ⟨dc,dc,Rt1 ((0+2<=2/\0<2)/\·) (.agg [.i 1,.nils]) ⟨dc,fin_lea ?_⟩⟩))))))))
 unfold sStart
 rw[if_pos htk]
 first
   | (obtain rfl:k=(pathsT [] t).length:=by omega
      rw[List.take_length];exact lea_refl _)
   | (have hq:pathsT [] t=[]:=List.eq_nil_of_length_eq_zero om
      rw[hq];simp[lea,leas,numN])
 (try dsimp only at hI)
 obtain⟨⟨hk0,hk⟩,rfl⟩:=hI
 dsimp only
 have hnl:=numN_len 1 ((pathsT [] t).take k);have hnt:((pathsT [] t).take k).length<=k:=by rw[List.length_take];omega
 refine Sq fun K16 hK16=>?_
 refine Rr (Av0 3 16 [(15,.sl 1 ((pathsT [] t).map ptc)),(14,.i k)] (lnm (pathsT [] t) ptc) (Cn1 (decide ((k:Int)<((pathsT [] t).length:Int))) [2,3,4,5] [] (Ki/\·) ⟨rfl,fun hc18 c18=>?_,fun hc18 c18=>?_⟩))
 refine Sk (Jn (hK16 (Kp [2,3,4,5] (Sq fun K19 hK19=>?_))))
 refine Bl (Qr [0,1,0,4,0,0,48,112,252,508,1023,2047,4095] [(0,[]),(1,[]),(2,[]),(3,[]),(4,[]),(5,[]),(6,[]),(7,[]),(8,[]),(9,[1]),(10,[]),(11,[]),(12,[])] (qAv1 7 26 [(25,.i k),(24,.sl 1 ((pathsT [] t).map ptc)),(23,.i ((k+1:Nat):Int)),(22,.ptr 8 0),(21,.osl 12 2 0 ((numN 1 ((pathsT [] t).take k)).length)),(20,.ptr 8 1)] (congrArg AV.pat (mg_pp (pathsT [] t) k om)) (((1:Nat)≠0)/\(1+1<=2/\1<2)/\((1:Nat)≠0)/\(0+1<=2/\0<2)/\(1=1/\(0:Int)<=(k:Int)/\(k:Int)<(((pathsT [] t).map ptc).length:Int))/\·) ⟨dc,dc,dc,dc,⟨rfl,om,lmo⟩,qAn3 4 [(30,.osl 20 2 0 ((numN 1 ((pathsT [] t).take k)).length+1)),(29,.osl 16 2 0 1),(28,.agg [.i ((k+1:Nat):Int),pth ((pathsT [] t).getD k default)]),(27,pth ((pathsT [] t).getD k default))] ([(20,apd (fl ndc (numN 1 ((pathsT [] t).take k))) ((numN 1 ((pathsT [] t).take k)).length*2) [.i ((k+1:Nat):Int),pth ((pathsT [] t).getD k default)]),(16,[.i ((k+1:Nat):Int),pth ((pathsT [] t).getD k default)])]++Hw [] [12] ·) 24 (fun Z=>(1<=1/\0<1)/\(1*2<=16777216)/\(((1+1<=2/\1<2)/\(AV.osl 12 2 0 ((numN 1 ((pathsT [] t).take k)).length)=(.osl 12 2 0 ((numN 1 ((pathsT [] t).take k)).length):AV)))/\True)/\(0+1*2<=2)/\(2=2/\(numN 1 ((pathsT [] t).take k)).length*2<=(fl ndc (numN 1 ((pathsT [] t).take k))).length/\0<32/\((numN 1 ((pathsT [] t).take k)).length+1)*32<=140737488355328)/\(True)/\Z) ⟨dc,dc,⟨⟨dc,rfl⟩,trivial⟩,dc,⟨rfl,by(first|omega|(simp only[LL,flNl];omega)),dc,by(first|omega|(simp only[LL,flNl];omega))⟩,trivial,runq_v (v':=.osl 20 2 0 ((numN 1 ((pathsT [] t).take k)++[No.mk ((k+1:Nat):Int) ((pathsT [] t).getD k default)]).length)) (push_len _ _ _ _) ?_⟩⟩))
 refine runq_h (cs':=fl ndc (numN 1 ((pathsT [] t).take k)++[No.mk ((k+1:Nat):Int) ((pathsT [] t).getD k default)])) (push_nd (numN 1 ((pathsT [] t).take k)) (No.mk ((k+1:Nat):Int) ((pathsT [] t).getD k default))) ?_
 refine qFn3 [2,3,4,5] [] (Hw [(8,[.i ((k+1:Nat):Int),.osl 20 2 0 ((numN 1 ((pathsT [] t).take k)++[No.mk ((k+1:Nat):Int) ((pathsT [] t).getD k default)]).length)])] [] ·) 24 (((1:Nat)≠0)/\(true=true/\1=1/\1+1<=2)/\(True)/\·) ⟨dc,dc,trivial,Rb (fun h=>Bn (Jn (hK19 h))) (Av1 3 34 [(33,.i ((k+1:Nat):Int)),(32,.ptr 8 0)] (cI (wn1 (k+1) om)) (((1:Nat)≠0)/\(0+1<=2/\0<2)/\Ki/\·) ⟨dc,dc,rfl,Fn3 [2,3,4,5] [] (Hw [(8,[.i ((k+2:Nat):Int),.osl 20 2 0 ((numN 1 ((pathsT [] t).take k)++[No.mk ((k+1:Nat):Int) ((pathsT [] t).getD k default)]).length)])] [] ·) 24 (((1:Nat)≠0)/\(true=true/\1=1/\0+1<=2)/\·) ⟨dc,dc,Rn ?_⟩⟩)⟩
 refine Av1 2 19 [(18,.i k)] (cI (wn1 k om)) (Ki/\·) ⟨rfl,Gn0 [(5,.i ((k+1:Nat):Int))] (nk_n (Lr (k+1,some ()) [(0,0),(4,4),(8,8),(20,12)] 16 [(2,.ptr 4 0),(3,.ptr 8 0),(4,.sl 1 ((pathsT [] t).map ptc)),(5,.i ((k+1:Nat):Int))] [(20,fl ndc (numN 1 ((pathsT [] t).take k)++[No.mk ((k+1:Nat):Int) ((pathsT [] t).getD k default)])),(8,[.i ((k+2:Nat):Int),.osl 20 2 0 ((numN 1 ((pathsT [] t).take k)++[No.mk ((k+1:Nat):Int) ((pathsT [] t).getD k default)]).length)]),(4,[.i 0,.nils]),(0,tcs t)] [false,true,true,true] ?_ ?_ (by(try ((try dsimp only);rw[numN_take (pathsT [] t) k om]));try kernel_rfl) kr))⟩
 (try dsimp only);omega
 refine⟨?_,rfl⟩;(try dsimp only);omega
 refine Xt (Jx (Lx (Bh (Jn (hK8 (Kp [2,3] (Rr (Fn3 [2] [] (Hw [(4,[.i ((k+1:Nat):Int),.osl 12 2 0 ((numN 1 ((pathsT [] t).take k)).length)])] [] ·) 16 ((0+2<=2/\0<2)/\(true=true/\2=2/\0+2<=2)/\·) ⟨dc,dc,Fz 12 2 ((numN 1 ((pathsT [] t).take k)).length) ((numN 1 ((pathsT [] t).take k)).map ndc) (fl ndc (numN 1 ((pathsT [] t).take k))) [(2,.ptr 4 0)] [(4,[.i ((k+1:Nat):Int),.osl 12 2 0 ((numN 1 ((pathsT [] t).take k)).length)])] [true] (chkN _) (flN_le _) (Rt1 ((0+2<=2/\0<2)/\·) (.agg [.i ((k+1:Nat):Int),.sl 2 ((numN 1 ((pathsT [] t).take k)).map ndc)]) ⟨dc,?_⟩)⟩))))))))
 refine fin_lea ?_
 unfold sStart
 rw[if_pos htk]
 first
   | (obtain rfl:k=(pathsT [] t).length:=by omega
      rw[List.take_length];exact lea_refl _)
   | (have hq:pathsT [] t=[]:=List.eq_nil_of_length_eq_zero om
      rw[hq];simp[lea,leas,numN])
theorem l33Ok_ok (N:Nds) (hl:∀x∈N.list,wS x.path<2^40) (hn:N.list.length<2^20) (hb: -2^50<N.next/\N.next<2^50):PE G 35 [.agg (nsc N)] (.bool (nsOk N)):=by
 refine Pe Tryz.func35 ?_
 refine Rr (Fn2 [] [(1,.ptr 0 0)] ([(0,nsc N)]++·) 4 (Sq fun K2 hK2=>?_))
 refine Rm 15 ((!(inb N.next 1 10000))||(decide ((30:Int)<((N.list.length:Int):Int)))) [1] ?_ ?_
 refine Bc1 3 [(7,.i N.next),(6,.ptr 0 0)] 66 [.i N.next,.i 1,.i 10000] 8 (((1:Nat)≠0)/\(0+1<=2/\0<2)/\·) ⟨dc,dc,?_⟩
 refine PE.use (l1In_ok N.next 1 10000) ?_
 refine Ke (An0 2 [(10,.bool (!(inb N.next 1 10000))),(9,.bool (!(inb N.next 1 10000)))] (Rg (fun hg4 g4=>?_) (fun hg4 g4=>?_)))
 refine Mn0 true (by rw[hg4];rfl)
 refine Av1 3 13 [(12,.sl 2 (N.list.map ndc)),(11,.ptr 0 1)] (lnm N.list ndc) (((1:Nat)≠0)/\(1+1<=2/\1<2)/\·) ⟨dc,dc,Mn1 (decide ((30:Int)<((N.list.length:Int):Int))) (Ki/\·) ⟨rfl,(by rw[hg4];rfl)⟩⟩
 refine Cc ((!(inb N.next 1 10000))||(decide ((30:Int)<((N.list.length:Int):Int)))) (fun hc5 c5=>?_) fun hc5 c5=>?_
 refine Rr (Fn0 [] [(2,.bool false)] (Rt (.bool false) (fin_lea ?_)))
 rw[show nsOk N=false by unfold nsOk;rw[Bool.and_eq_false_iff,Bool.and_eq_false_iff];rcases c5 with h|h<;>first|exact .inl h|exact .inr (.inl (decide_eq_false om))];exact lea_refl _
 refine Sk (Jn (hK2 (Kp [1] (Sq fun K7 hK7=>?_))))
 refine Rr (Fn0 [1] [(3,.i 0)] (Bl (h_l (fun(k:Nat)=>([(1,.ptr 0 0),(3,.i k)]:Fr)) (fun(k:Nat)=>([(0,nsc N)]:Hp)) (fun(k:Nat) cn=>(k<=N.list.length/\(List.range k).all (stepN N)=true)/\cn=4) (fun(k:Nat)=>N.list.length-k) 0 kr ?_ ?_ ?_ ?_)))
 refine⟨?_,rfl⟩;exact⟨Nat.zero_le _,rfl⟩
 exact⟨kr,kr,trivial⟩
 exact(sub_c kr (List.nil_sublist _))
 rintro k n1 hI
 (try dsimp only at hI)
 obtain⟨⟨hi1,hi2⟩,rfl⟩:=hI
 refine Sq fun K9 hK9=>?_
 refine Rr (Av1 4 19 [(18,.sl 2 (N.list.map ndc)),(17,.ptr 0 1),(16,.i k)] (lnm N.list ndc) (((1:Nat)≠0)/\(1+1<=2/\1<2)/\·) ⟨dc,dc,Cn1 (decide ((k:Int)<(N.list.length:Int))) [1,3] [] (Ki/\·) ⟨rfl,fun hc11 c11=>?_,fun hc11 c11=>?_⟩⟩)
 refine Sk (Jn (hK9 (Kp [1,3] (Sq fun K12 hK12=>?_))))
 refine Bl (Rr (Av1 4 26 [(25,.i k),(24,.sl 2 (N.list.map ndc)),(23,.ptr 0 1)] (congrArg AV.pat (mg_nd N.list k om)) (((1:Nat)≠0)/\(1+1<=2/\1<2)/\(2=2/\(0:Int)<=(k:Int)/\(k:Int)<((N.list.map ndc).length:Int))/\·) ⟨dc,dc,⟨rfl,om,lmo⟩,Fn3 [1,3] [(4,.ptr 4 0)] ([(4,ndc (N.list.getD k default))]++·) 8 ((2<=2/\0<2)/\(true=true/\2=2/\0+2<=2)/\·) ⟨dc,dc,Sq fun K14 hK14=>?_⟩⟩))
 have hgn:=hl _ (getD_mem N.list k default om);have hgl:=wS_len (N.list.getD k default).path;have hgm2:=hl _ (getD_mem N.list ((k:Int)-1).toNat default om);have hgl2:=wS_len (N.list.getD ((k:Int)-1).toNat default).path
 refine Qm [0,1,0,4,12,31,63,127,255,511,1023,2047,4095,8191,16383,32767,65535,131071,262143,131071,655359,2097151,4194303,8388607,131071,16908287,67108863,134217727,268435455,536870911] [(0,[]),(1,[]),(2,[]),(3,[]),(4,[]),(5,[]),(6,[]),(7,[]),(8,[]),(9,[]),(10,[]),(11,[]),(12,[]),(13,[]),(14,[]),(15,[]),(16,[]),(17,[]),(18,[]),(19,[]),(20,[]),(21,[]),(22,[]),(23,[]),(24,[]),(25,[]),(26,[]),(27,[]),(28,[]),(29,[])] 57 (!stpA N k) [1,3,4] ?_ ?_
 refine qAv1 (r:=.i (IntKind.i64.wrap (N.next-1))) (v:=.i (N.next-1)) 5 32 [(31,.i N.next),(30,.ptr 0 0),(29,.i ((N.list.getD k default).id)),(28,.ptr 4 0)] (cI (wrap64 om om)) (((1:Nat)≠0)/\(0+1<=2/\0<2)/\((1:Nat)≠0)/\(0+1<=2/\0<2)/\Ki/\·) ⟨dc,dc,dc,dc,rfl,qBc0 1 [] [] 66 [.i ((N.list.getD k default).id),.i 1,.i (N.next-1)] 33 (PE.use (l1In_ok ((N.list.getD k default).id) 1 (N.next-1)) (Kq (p:=(True)) trivial (qAn0 2 [(35,.bool (!(inb ((N.list.getD k default).id) 1 (N.next-1)))),(34,.bool (!(inb ((N.list.getD k default).id) 1 (N.next-1))))] ?_)))⟩
 refine Qg (fun hg16 g16=>?_) (fun hg16 g16=>?_)
 refine qMn0 true (by unfold stpA;first|(simp_all;done)|(rw[Bool.eq_iff_iff];simp_all;done)|(rw[Bool.eq_iff_iff];simp_all;omega)|(simp_all;omega))
 refine qBc1 3 [(37,pth ((N.list.getD k default).path)),(36,.ptr 4 1)] [] 67 [pth ((N.list.getD k default).path)] 38 (((1:Nat)≠0)/\(1+1<=2/\1<2)/\·) ⟨dc,dc,?_⟩
 refine PE.use (l2PathOk_ok ((N.list.getD k default).path) om (fun s hs=>Nat.lt_trans (wS_mem hs) om)) ?_
 refine Kq (p:=(True)) trivial ?_
 refine qAn0 3 [(41,.bool (!(pthOk ((N.list.getD k default).path) 1))),(40,.bool (!(pthOk ((N.list.getD k default).path) 1))),(39,.bool (!(pthOk ((N.list.getD k default).path) 1)))] (Qg (fun hg17 g17=>?_) (fun hg17 g17=>?_))
 refine qMn0 true (by unfold stpA;first|(simp_all;done)|(rw[Bool.eq_iff_iff];simp_all;done)|(rw[Bool.eq_iff_iff];simp_all;omega)|(simp_all;omega))
 refine qAn1 3 [(44,.bool (decide ((0:Int)<((k:Int):Int)))),(43,.bool (decide ((0:Int)<((k:Int):Int)))),(42,.i k)] (Ki/\·) ⟨rfl,Qg (fun hg18 g18=>?_) (fun hg18 g18=>?_)⟩
 refine qAv1 (r:=.i (IntKind.i64.wrap ((k:Int)-1))) (v:=.i ((k:Int)-1)) 4 48 [(47,.i k),(46,.sl 2 (N.list.map ndc)),(45,.ptr 0 1)] (cI (wrap64 om om)) (((1:Nat)≠0)/\(1+1<=2/\1<2)/\Ki/\·) ⟨dc,dc,rfl,qAv1 1 49 [] (congrArg AV.pat (mg_nd N.list (((k:Int)-1).toNat) om)) ((2=2/\(0:Int)<=((k:Int)-1)/\((k:Int)-1)<((N.list.map ndc).length:Int))/\·) ⟨⟨rfl,om,lmo⟩,qBc1 5 [(53,pth ((N.list.getD k default).path)),(52,.ptr 4 1),(51,pth ((N.list.getD (((k:Int)-1).toNat) default).path)),(50,.pat [pth ((N.list.getD (((k:Int)-1).toNat) default).path)])] [] 59 [pth ((N.list.getD (((k:Int)-1).toNat) default).path),pth ((N.list.getD k default).path)] 54 (((1:Nat)≠0)/\(1<=1/\0<1)/\((1:Nat)≠0)/\(1+1<=2/\1<2)/\·) ⟨dc,dc,dc,dc,PE.use (less11_ok ((N.list.getD (((k:Int)-1).toNat) default).path) ((N.list.getD k default).path) om om) (Kq (p:=(True)) trivial ?_)⟩⟩⟩
 refine qMn0 (!(decide (cmpP ((N.list.getD (((k:Int)-1).toNat) default).path) ((N.list.getD k default).path)<(0:Int)))) (by unfold stpA;first|(simp_all;done)|(rw[Bool.eq_iff_iff];simp_all;done)|(rw[Bool.eq_iff_iff];simp_all;omega)|(simp_all;omega))
 refine qMn0 false (by unfold stpA;first|(simp_all;done)|(rw[Bool.eq_iff_iff];simp_all;done)|(rw[Bool.eq_iff_iff];simp_all;omega)|(simp_all;omega))
 refine Cc (!stpA N k) (fun hc19 c19=>?_) fun hc19 c19=>?_
 refine Rr (Fn0 [] [(2,.bool false)] (Rt (.bool false) (fin_lea ?_)))
 rw[show nsOk N=false by unfold nsOk;rw[show(List.range N.list.length).all (stepN N)=false from List.all_eq_false.2 ⟨k,List.mem_range.2 om,by rw[show stepN N k=false by rw[stepN_eq,show stpA N k=false by have h:=hc19;simpa using h];rfl];simp⟩];simp];exact lea_refl _
 refine Sk (Jn (hK14 (Kp [1,3,4] (Rr (Fn0 [1,3,4] [(5,.i 0)] (Bl (h_l (fun(j:Nat)=>([(1,.ptr 0 0),(3,.i k),(4,.ptr 4 0),(5,.i j)]:Fr)) (fun(j:Nat)=>([(4,ndc (N.list.getD k default)),(0,nsc N)]:Hp)) (fun(j:Nat) cn=>(j<=k/\((N.list.take j).any fun x=>x.id==(N.list.getD k default).id)=false)/\cn=8) (fun(j:Nat)=>k-j) 0 kr ?_ ?_ ?_ ?_)))))))
 refine⟨?_,rfl⟩;exact⟨Nat.zero_le _,rfl⟩
 exact⟨kr,kr,kr,kr,trivial⟩
 exact(sub_c kr (sub_c kr (List.nil_sublist _)))
 rintro j n1 hI
 (try dsimp only at hI)
 obtain⟨⟨hj1,hj2⟩,rfl⟩:=hI
 refine Sq fun K22 hK22=>?_
 refine Rr (Cn1 (decide ((j:Int)<(k:Int))) [1,3,4,5] [] (Ki/\·) ⟨rfl,fun hc24 c24=>?_,fun hc24 c24=>?_⟩)
 refine Sk (Jn (hK22 (Kp [1,3,4,5] (Sq fun K25 hK25=>?_))))
 refine Bl ?_
 have hgj:=hl _ (getD_mem N.list j default om)
 refine Qr [0,1,0,7,15,31,0,64,255] [(0,[]),(1,[]),(2,[]),(3,[]),(4,[]),(5,[]),(6,[]),(7,[]),(8,[])] (qAv1 4 66 [(65,.i j),(64,.sl 2 (N.list.map ndc)),(63,.ptr 0 1)] (congrArg AV.pat (mg_nd N.list j om)) (((1:Nat)≠0)/\(1+1<=2/\1<2)/\(2=2/\(0:Int)<=(j:Int)/\(j:Int)<((N.list.map ndc).length:Int))/\·) ⟨dc,dc,⟨rfl,om,lmo⟩,qCn1 (decide (((N.list.getD j default).id:Int)=((N.list.getD k default).id:Int))) [1,3,4,5] [] (((1:Nat)≠0)/\(1<=2/\0<2)/\((1:Nat)≠0)/\(0+1<=2/\0<2)/\Ki/\·) ⟨dc,dc,dc,dc,rfl,fun hc27 c27=>?_,fun hc27 c27=>?_⟩⟩)
 refine Rr (Fn0 [] [(2,.bool false)] (Rt (.bool false) (fin_lea ?_)))
 rw[show nsOk N=false by unfold nsOk;rw[show(List.range N.list.length).all (stepN N)=false from List.all_eq_false.2 ⟨k,List.mem_range.2 om,by rw[show stepN N k=false by rw[stepN_eq,any_at (j:=j) om om (by have h:=hc27;simpa using h)];simp];simp⟩];simp];exact lea_refl _
 refine Sk (Bn (Jn (hK25 (Kp [1,3,4,5] (Rn (Av1 2 62 [(61,.i j)] (cI (wn1 j om)) (Ki/\·) ⟨rfl,Gn0 [(5,.i ((j+1:Nat):Int))] (nk_n ?_)⟩))))))
 refine Lr (j+1) [(0,0),(4,4)] 8 [(1,.ptr 0 0),(3,.i k),(4,.ptr 4 0),(5,.i ((j+1:Nat):Int))] [(4,ndc (N.list.getD k default)),(0,nsc N)] [true,true] ?_ ?_ kr kr
 (try dsimp only);omega
 refine⟨?_,rfl⟩;(try dsimp only);exact⟨om,any_snoc om hj2 (by have h:=hc27;simpa using h)⟩
 refine Xt (Jx (Lx (Bh (Bn (Jn (hK12 (Kp [1,3] (Rn (Av1 2 22 [(21,.i k)] (cI (wn1 k om)) (Ki/\·) ⟨rfl,Gn0 [(3,.i ((k+1:Nat):Int))] (nk_n ?_)⟩)))))))))
 refine Lr (k+1) [(0,0)] 4 [(1,.ptr 0 0),(3,.i ((k+1:Nat):Int))] [(0,nsc N)] [true] ?_ ?_ kr kr
 (try dsimp only);omega
 refine⟨?_,rfl⟩;(try dsimp only);obtain rfl:j=k:=by omega
 exact⟨om,by rw[List.range_succ,List.all_append,hi2,List.all_cons,List.all_nil,Bool.and_true,Bool.true_and,stepN_eq,hj2];have h:=hc19;simpa using h⟩
 refine Xt (Jx (Lx (Bh (Jn (hK7 (Kp [] (Rr (Fn0 [] [(2,.bool true)] (Rt (.bool true) (fin_lea ?_))))))))))
 have h0:=c5
 obtain rfl:k=N.list.length:=by omega
 rw[show nsOk N=true by unfold nsOk;rw[h0.1,hi2,decide_eq_true om];rfl];exact lea_refl _
theorem l33Id_ok (N:Nds) (p:List Str) (hl:∀x∈N.list,wS x.path<2^40) (hn:N.list.length<2^20) (hb: -2^50<N.next/\N.next<2^50) (hp:p.length<2^40):PE G 27 [.agg (nsc N),pth p] (.i (idN p N.list)):=by
 refine Pe Tryz.func27 ?_
 refine Rr (Fn2 [1] [(2,.ptr 0 0)] ([(0,nsc N)]++·) 4 (Sq fun K2 hK2=>?_))
 refine Rr (Fn0 [1,2] [(5,.i 0)] (Bl (h_l (fun(k:Nat)=>([(1,pth p),(2,.ptr 0 0),(5,.i k)]:Fr)) (fun(k:Nat)=>([(0,nsc N)]:Hp)) (fun(k:Nat) cn=>(k<=N.list.length/\idN p N.list=idN p (N.list.drop k))/\cn=4) (fun(k:Nat)=>N.list.length-k) 0 kr ?_ ?_ ?_ ?_)))
 refine⟨?_,rfl⟩;exact⟨Nat.zero_le _,rfl⟩
 exact⟨kr,kr,kr,trivial⟩
 exact(sub_c kr (List.nil_sublist _))
 rintro k n1 hI
 (try dsimp only at hI)
 obtain⟨⟨hi1,hi2⟩,rfl⟩:=hI
 refine Sq fun K4 hK4=>?_
 refine Rr (Av1 4 9 [(8,.sl 2 (N.list.map ndc)),(7,.ptr 0 1),(6,.i k)] (lnm N.list ndc) (((1:Nat)≠0)/\(1+1<=2/\1<2)/\·) ⟨dc,dc,Cn1 (decide ((k:Int)<(N.list.length:Int))) [1,2,5] [] (Ki/\·) ⟨rfl,fun hc6 c6=>?_,fun hc6 c6=>?_⟩⟩)
 refine Sk (Jn (hK4 (Kp [1,2,5] (Sq fun K7 hK7=>?_))))
 refine Bl ?_
 have hgn:=hl _ (getD_mem N.list k default om);have hgl:=wS_len (N.list.getD k default).path
 refine Rr (Av1 4 16 [(15,.i k),(14,.sl 2 (N.list.map ndc)),(13,.ptr 0 1)] (congrArg AV.pat (mg_nd N.list k om)) (((1:Nat)≠0)/\(1+1<=2/\1<2)/\(2=2/\(0:Int)<=(k:Int)/\(k:Int)<((N.list.map ndc).length:Int))/\·) ⟨dc,dc,⟨rfl,om,lmo⟩,Bc1 4 [(19,pth p),(18,pth ((N.list.getD k default).path)),(17,.pat [pth ((N.list.getD k default).path)])] 26 [pth ((N.list.getD k default).path),pth p] 20 (((1:Nat)≠0)/\(1<=1/\0<1)/\·) ⟨dc,dc,PE.use (same11_ok ((N.list.getD k default).path) p om om) (Ke ?_)⟩⟩)
 refine Cn0 (((N.list.getD k default).path)==p) [1,2,5] [] ⟨fun hc9 c9=>?_,fun hc9 c9=>?_⟩
 refine Rr (Av1 4 24 [(23,.i k),(22,.sl 2 (N.list.map ndc)),(21,.ptr 0 1)] (congrArg AV.pat (mg_nd N.list k om)) (((1:Nat)≠0)/\(1+1<=2/\1<2)/\(2=2/\(0:Int)<=(k:Int)/\(k:Int)<((N.list.map ndc).length:Int))/\·) ⟨dc,dc,⟨rfl,om,lmo⟩,Fn1 [] [(4,.i ((N.list.getD k default).id))] (((1:Nat)≠0)/\(1<=2/\0<2)/\·) ⟨dc,dc,Rt (.i ((N.list.getD k default).id)) (fin_lea ?_)⟩⟩)
 rw[hi2,drop_cons om,idN,if_pos (by have h:=hc9;simpa using h)];exact lea_refl _
 refine Sk (Bn (Jn (hK7 (Kp [1,2,5] (Rn (Av1 2 12 [(11,.i k)] (cI (wn1 k om)) (Ki/\·) ⟨rfl,Gn0 [(5,.i ((k+1:Nat):Int))] (nk_n ?_)⟩))))))
 refine Lr (k+1) [(0,0)] 4 [(1,pth p),(2,.ptr 0 0),(5,.i ((k+1:Nat):Int))] [(0,nsc N)] [true] ?_ ?_ kr kr
 (try dsimp only);omega
 refine⟨?_,rfl⟩;(try dsimp only);exact⟨om,by rw[hi2,drop_cons om,idN,if_neg (by have h:=hc9;simpa using h)]⟩
 refine Xt (Jx (Lx (Bh (Jn (hK2 (Kp [] (Rr (Fn0 [] [(4,.i 0)] (Rt (.i 0) (fin_lea ?_))))))))))
 obtain rfl:k=N.list.length:=by omega
 rw[hi2,List.drop_length,idN];exact lea_refl _
section
structure Fst (L:List Oper) (i d:Nat) (o:Oper) (ls:List Nat):Prop where
 ho:L[i]?=some o
 hd:o.dst=some d
 hi:i∉ls
 hp:∀j,j∈prs o->j∈ls
 rd:∀j o',j≠i->L[j]?=some o'->d∈rds L o'->i∈prs o'
 wr:∀j o' x,j≠i->L[j]?=some o'->o'.dst=some x->x≠d/\(j∉ls->x∉rds L o)
theorem runT_first {G:Prg} {L:List Oper} {K:RK} {i d:Nat} {v:AV} {o:Oper} (hK:∀(F F':Fr) (H:Hp) (n:Nat),(∀t,gt F t=gt F' t)->K F H n->K F' H n):
  ∀(f:Nat) (ls:List Nat) (F:Fr) (H:Hp) (n:Nat),Fst L i d o ls->(∀H n (C:RK),C (pt F (some d) v) H n->runR G C (some d) F H n (eo G o.op F H n))->(List.range L.length).countP (fun k=>decide (k∉ls))<=f+1->
   runT G L f (i::ls) (pt F (some d) v) H n K->runT G L (f+1) ls F H n K:=by
 intro f
 induction f with
 |zero=>
  intro ls F H n hs he hf h
  have hir:i∈rdy L ls:=mem_rdy.2 ⟨hs.hi,o,hs.ho,hs.hp⟩
  refine⟨fun h0=>(by rw[List.isEmpty_iff]at h0;rw[h0]at hir;cases hir),?_⟩
  have key:∀j,j∈rdy L ls->oneT G L j F H n fun F' H' n'=>runT G L 0 (j::ls) F' H' n' K:=by
   intro j hj
   obtain⟨h1,oj,h2,h3⟩:=mem_rdy.1 hj
   by_cases e:j=i
   ·subst e
    rw[hs.ho]at h2;cases h2
    unfold oneT;rw[hs.ho];dsimp only;rw[hs.hd]
    exact he H n _ h
   ·exfalso
    have hlt:=countP_lt (p:=fun k=>decide (k∉ls)) (q:=fun k=>decide (k∉i::ls)) (i:=i) (l:=List.range L.length) (fun k hk=>by simp only[decide_eq_true_eq,List.mem_cons,not_or]at hk⊢;exact hk.2) (by simpa using hs.hi) (by simp) (List.mem_range.2 (List.getElem?_eq_some_iff.1 hs.ho).1)
    have:0<(List.range L.length).countP (fun k=>decide (k∉i::ls)):=List.countP_pos_iff.2 ⟨j,List.mem_range.2 (List.getElem?_eq_some_iff.1 h2).1,by simp[e,h1]⟩
    omega
  revert key
  generalize rdy L ls=is
  intro key
  induction is with
  |nil=>trivial
  |cons j is ih=>exact⟨key j (by simp),ih fun k hk=>key k (by simp[hk])⟩
 |succ f ih=>
  intro ls F H n hs he hf h
  have hir:i∈rdy L ls:=mem_rdy.2 ⟨hs.hi,o,hs.ho,hs.hp⟩
  refine⟨fun h0=>(by rw[List.isEmpty_iff]at h0;rw[h0]at hir;cases hir),?_⟩
  have key:∀j,j∈rdy L ls->oneT G L j F H n fun F' H' n'=>runT G L (f+1) (j::ls) F' H' n' K:=by
   intro j hj
   obtain⟨h1,oj,h2,h3⟩:=mem_rdy.1 hj
   by_cases e:j=i
   ·subst e
    rw[hs.ho]at h2;cases h2
    unfold oneT;rw[hs.ho];dsimp only;rw[hs.hd]
    exact he H n _ h
   ·have hj2:j∈rdy L (i::ls):=mem_rdy.2 ⟨by simp[e,h1],oj,h2,fun k hk=>List.mem_cons_of_mem _ (h3 k hk)⟩
    have hk:=alls_at h.2 j hj2
    have hnd:d∉rds L oj:=fun hm=>hs.hi (h3 i (hs.rd j oj e h2 hm))
    unfold oneT at hk⊢
    rw[h2]at hk⊢
    dsimp only at hk⊢
    rw[eo_rds (L:=L) (F:=pt F (some d) v) (F':=F) fun t ht=>pt_gt fun x hx=>by cases hx;exact fun q=>hnd (q▸ht)]at hk
    refine runR_mono ?_ (runR_re (F0:=F) hk)
    rintro _ H2 n2 ⟨u,rfl,k2⟩
    have hg:∀t,t∈rds L o->gt F t=gt (pt F oj.dst u) t:=fun t ht=>(pt_gt fun x hx=>fun q=>(hs.wr j oj x e h2 hx).2 h1 (q▸ht)).symm
    refine ih (j::ls) _ _ _ ⟨hs.ho,hs.hd,by simp[Ne.symm e,hs.hi],fun k hk=>List.mem_cons_of_mem _ (hs.hp k hk),hs.rd,fun k ok x hk hok hx=>⟨(hs.wr k ok x hk hok hx).1,fun hn=>(hs.wr k ok x hk hok hx).2 fun q=>hn (List.mem_cons_of_mem _ q)⟩⟩ ?_ ?_ ?_
    ·intro H n C hC
     rw[<-eo_rds (L:=L) hg]
     refine runR_mono ?_ (runR_re (F0:=pt F oj.dst u) (he H n (fun F' H' n'=>F'=pt F (some d) v/\H'=H/\n'=n) ⟨rfl,rfl,rfl⟩))
     rintro _ H3 n3 ⟨v',rfl,q1,rfl,rfl⟩
     have:v'=v:=by have:=congrArg (fun F=>gt F d) q1;simpa[pt_at]using this
     subst this
     exact hC
    ·have hlt:=countP_lt (p:=fun k=>decide (k∉ls)) (q:=fun k=>decide (k∉j::ls)) (i:=j) (l:=List.range L.length) (fun k hk=>by simp only[decide_eq_true_eq,List.mem_cons,not_or]at hk⊢;exact hk.2) (by simpa using h1) (by simp) (List.mem_range.2 (List.getElem?_eq_some_iff.1 h2).1)
     omega
    ·refine runT_eqv hK (fun k=>?_) (fun t=>?_) k2
     ·simp only[List.any_cons];rw[<-Bool.or_assoc,<-Bool.or_assoc,Bool.or_comm (Nat.beq k j)]
     ·cases hdj:oj.dst with
      |none=>simp only[pt]
      |some x=>
       have hx:=(hs.wr j oj x e h2 hdj).1
       simp only[pt,gt]
       by_cases q1:x=t
       ·subst q1;simp[show(d==x)=false by simpa using Ne.symm hx]
       ·simp[show(x==t)=false by simpa using q1]
  revert key
  generalize rdy L ls=is
  intro key
  induction is with
  |nil=>trivial
  |cons j is ih=>exact⟨key j (by simp),ih fun k hk=>key k (by simp[hk])⟩
def chkF (L:List Oper) (i d f:Nat) (ls:List Nat):Bool:=match L[i]? with
 |none=>false
 | some o => (match o.dst with | some x => Nat.beq x d | none => false) && (!(ls.any (Nat.beq i)) && ((prs o).all (fun j => ls.any (Nat.beq j)) && ((List.range L.length).all (fun j=>Nat.beq j i||match L[j]? with
  |some o'=>(!((rds L o').any (Nat.beq d))||(prs o').any (Nat.beq i))&&(match o'.dst with|some x=> !(Nat.beq x d)&&(ls.any (Nat.beq j)|| !((rds L o).any (Nat.beq x)))|none=>true)
  |none=>true)&&Nat.ble ((List.range L.length).countP fun k=> !(ls.any (Nat.beq k))) (f+1))))
theorem any_mem {i:Nat} {ls:List Nat}:ls.any (Nat.beq i)=true↔i∈ls:=by
 rw[List.any_eq_true]
 exact⟨fun⟨x,h1,h2⟩=>by rw[Nat.eq_of_beq_eq_true h2];exact h1,fun h=>⟨i,h,Nat.beq_refl i⟩⟩
theorem any_nmem {i:Nat} {ls:List Nat}:ls.any (Nat.beq i)=false↔i∉ls:=by rw[<-any_mem,Bool.not_eq_true]
theorem chkF_ok {L:List Oper} {i d f:Nat} {ls:List Nat} (h:chkF L i d f ls=true):∃o,Fst L i d o ls/\(List.range L.length).countP (fun k=>decide (k∉ls))<=f+1:=by
 unfold chkF at h
 cases ho:L[i]? with
 |none=>rw[ho]at h;cases h
 |some o=>
  rw[ho]at h
  dsimp only at h
  simp only[Bool.and_eq_true]at h
  obtain⟨h1,h2,h3,h4,h5⟩:=h
  have hd:o.dst=some d:=by
   cases hx:o.dst with
   |none=>rw[hx]at h1;cases h1
   |some x=>rw[hx]at h1;rw[Nat.eq_of_beq_eq_true h1]
  have h4:∀j o',j≠i->L[j]?=some o'->(d∈rds L o'->i∈prs o')/\∀x,o'.dst=some x->x≠d/\(j∉ls->x∉rds L o):=by
   intro j o' hj ho'
   rw[List.all_eq_true]at h4
   have k:=h4 j (List.mem_range.2 (List.getElem?_eq_some_iff.1 ho').1)
   rw[ho',Bool.or_eq_true]at k
   have k:=k.resolve_left fun q=>hj (Nat.eq_of_beq_eq_true q)
   dsimp only at k
   rw[Bool.and_eq_true,Bool.or_eq_true,any_mem,Bool.not_eq_true',any_nmem]at k
   refine⟨fun q=>k.1.resolve_left fun q2=>q2 q,fun x hx=>?_⟩
   have k2:=k.2
   rw[hx]at k2
   dsimp only at k2
   rw[Bool.and_eq_true,Bool.or_eq_true,any_mem,Bool.not_eq_true',Bool.not_eq_true',any_nmem]at k2
   exact⟨fun q=>(by rw[q,Nat.beq_refl]at k2;cases k2.1),fun q=>k2.2.resolve_left q⟩
  rw[Bool.not_eq_true',any_nmem]at h2
  rw[List.all_eq_true]at h3
  refine⟨o,⟨ho,hd,h2,fun j hj=>any_mem.1 (h3 j hj),fun j o' a b=>(h4 j o' a b).1,fun j o' x a b=>(h4 j o' a b).2 x⟩,?_⟩
  have:=Nat.le_of_ble_eq_true h5
  refine Nat.le_trans (Nat.le_of_eq ?_) this
  congr 1
  funext k
  rw[Bool.eq_iff_iff,decide_eq_true_eq,Bool.not_eq_true',any_nmem]
variable {np:Nat} {G:Prg} {c:Code} {F:Fr} {H:Hp} {n f:Nat} {Q:Post} {ls:List Nat}
theorem Tp (i d:Nat) (v:AV) (P:Prop->Prop) (hp:∀Z:Prop,Z->P Z) (h:RT np G c Q f (i::ls) ((d,v)::F) H n) (hc:chkF (ro (q1 c)).toList i d f ls=true:=by kernel_rfl)
  (e:∀(X:RK) (H:Hp) (n:Nat),oneT G (ro (q1 c)).toList i F H n X=P (X ((d,v)::F) H n):=by intro X H n;kernel_rfl):RT np G c Q (f+1) ls F H n:=by
 obtain⟨o,hs,hf⟩:=chkF_ok hc
 refine runT_first (K:=CF np G (q2 c) Q) (fun F F' H n hF h=>TT_gt hF h) f ls F H n hs (fun H n C hC=>?_) hf h
 have:=e C H n
 unfold oneT at this
 rw[hs.ho]at this
 dsimp only at this
 rw[hs.hd]at this
 rw[this]
 exact hp _ hC
theorem TjH {H':Hp} (e:H=H') (h:RT np G c Q f ls F H' n):RT np G c Q f ls F H n:=e▸h
end
open Go Go.Proofs
set_option maxRecDepth 100000
theorem l33Copy_ok (N:Nds) (hl:∀x∈N.list,wS x.path<2^40) (hn:N.list.length<2^20) (hb: -2^50<N.next/\N.next<2^50):PE G 24 [.agg (nsc N)] (.agg (nsc N)):=by
 refine Pe Tryz.func24 ?_
 refine Rr (Fn2 [] [(2,.ptr 4 0),(1,.ptr 0 0)] ([(4,[.i 0,.nils]),(0,nsc N)]++·) 8 (Rr (Fn3 [1,2] [(3,.ptr 8 0)] ([(8,[.i N.next,.nils])]++·) 12 (((1:Nat)≠0)/\(0+1<=2/\0<2)/\(true=true/\2=2/\0+2<=2)/\·) ⟨dc,dc,dc,Sq fun K3 hK3=>?_⟩)))
 refine Rr (Fn0 [1,2,3] [(4,.i 0)] (Bl (h_l (fun(z:Nat×Option Unit)=>(match z with|(_,none)=>([(1,.ptr 0 0),(2,.ptr 4 0),(3,.ptr 8 0),(4,.i 0)]:Fr)|(k,some ())=>([(1,.ptr 0 0),(2,.ptr 4 0),(3,.ptr 8 0),(4,.i k)]:Fr))) (fun(z:Nat×Option Unit)=>(match z with|(_,none)=>([(8,[.i N.next,.nils]),(4,[.i 0,.nils]),(0,nsc N)]:Hp)|(k,some ())=>([(12,fl ndc (N.list.take k)),(8,[.i N.next,.osl 12 2 0 ((N.list.take k).length)]),(4,[.i 0,.nils]),(0,nsc N)]:Hp))) (fun(z:Nat×Option Unit) cn=>(match z with|(_,none)=>(z.1=0)/\cn=12|(k,some ())=>(0<k/\k<=N.list.length)/\cn=16)) (fun(z:Nat×Option Unit)=>N.list.length-z.1) (0,none) kr ?_ ?_ ?_ ?_)))
 refine⟨?_,rfl⟩;rfl
 exact⟨kr,kr,kr,kr,trivial⟩
 exact(sub_c kr (sub_c kr (sub_c kr (List.nil_sublist _))))
 rintro⟨k,_|⟨⟩⟩ n1 hI
 (try dsimp only at hI)
 obtain⟨rfl,rfl⟩:=hI
 dsimp only
 have hk0:0=0:=rfl
 refine Sq fun K5 hK5=>?_
 refine Rr (Av1 4 11 [(10,.sl 2 (N.list.map ndc)),(9,.ptr 0 1),(8,.i 0)] (lnm N.list ndc) (((1:Nat)≠0)/\(1+1<=2/\1<2)/\·) ⟨dc,dc,Cn1 (decide ((0:Int)<((N.list.length:Int):Int))) [1,2,3,4] [] (Ki/\·) ⟨rfl,fun hc7 c7=>?_,fun hc7 c7=>?_⟩⟩)
 refine Sk (Jn (hK5 (Kp [1,2,3,4] (Sq fun K8 hK8=>?_))))
 refine Bl ?_
 first|(have hgn:=hl _ (getD_mem N.list k default om);have hgl:=wS_len (N.list.getD k default).path)|(have hgn:=hl _ (getD_mem N.list 0 default om);have hgl:=wS_len (N.list.getD 0 default).path)
 refine Qb [0,1,0,4,0,28,60,124,0,0,512,0,3584,7680,15872,32512,65532,131068,262143,524287,1048575] [(0,[]),(1,[]),(2,[]),(3,[]),(4,[]),(5,[]),(6,[]),(7,[]),(9,[]),(10,[]),(11,[]),(12,[]),(13,[]),(14,[]),(8,[1,3,7,10,14]),(15,[1,3,7]),(16,[]),(17,[1]),(18,[]),(19,[]),(20,[])] (fun h=>Bn (Jn (hK8 h))) (qAv1 6 20 [(19,.i 0),(18,.sl 2 (N.list.map ndc)),(17,.ptr 0 1),(16,.nils),(15,.ptr 8 1)] (congrArg AV.pat (mg_nd N.list 0 om)) (((1:Nat)≠0)/\(1+1<=2/\1<2)/\((1:Nat)≠0)/\(1+1<=2/\1<2)/\(2=2/\(0:Int)<=0/\0<((N.list.map ndc).length:Int))/\·) ⟨dc,dc,dc,dc,⟨rfl,om,lmo⟩,qAv1 6 27 [(26,.i 0),(25,.sl 2 (N.list.map ndc)),(24,.ptr 0 1),(22,.i ((N.list.getD 0 default).id)),(21,.pat (ndc (N.list.getD 0 default)))] (congrArg AV.pat (mg_nd N.list 0 om)) (((1:Nat)≠0)/\(1<=2/\0<2)/\((1:Nat)≠0)/\(1+1<=2/\1<2)/\(2=2/\(0:Int)<=0/\0<((N.list.map ndc).length:Int))/\·) ⟨dc,dc,dc,dc,⟨rfl,om,lmo⟩,qAn3 4 [(30,.osl 16 1 0 (0+(((N.list.getD 0 default).path).map (fun s=>[AV.str s])).length)),(23,.osl 12 1 0 0),(29,pth ((N.list.getD 0 default).path)),(28,.pat [pth ((N.list.getD 0 default).path)])] ([(16,apd [] (0*1) ((((N.list.getD 0 default).path).map (fun s=>[AV.str s])).flatten))]++·) 20 (fun Z=>((1:Nat)≠0)/\(1<=1/\0<1)/\(0*1<=16777216)/\(((1+1<=2/\1<2)/\(AV.nils=(.nils:AV)))/\((1+1<=2/\1<2)/\(AV.sl 2 (N.list.map ndc)=(.sl 2 (N.list.map ndc):AV)))/\((1<=2/\0<2)/\(AV.int .i64 ((N.list.getD 0 default).id)=(.i ((N.list.getD 0 default).id):AV)))/\((1+1<=2/\1<2)/\(AV.sl 2 (N.list.map ndc)=(.sl 2 (N.list.map ndc):AV)))/\((1<=1/\0<1)/\(pth ((N.list.getD 0 default).path)=pth ((N.list.getD 0 default).path)))/\True)/\True/\(1=1/\0*1<=0/\0<16/\(0+(((N.list.getD 0 default).path).map (fun s=>[AV.str s])).length)*16<=140737488355328)/\(((1+1<=2/\1<2)/\(AV.nils=(.nils:AV)))/\((1+1<=2/\1<2)/\(AV.sl 2 (N.list.map ndc)=(.sl 2 (N.list.map ndc):AV)))/\((1<=2/\0<2)/\(AV.int .i64 ((N.list.getD 0 default).id)=(.i ((N.list.getD 0 default).id):AV)))/\True)/\Z) ⟨dc,dc,dc,⟨⟨dc,rfl⟩,⟨dc,rfl⟩,⟨dc,rfl⟩,⟨dc,rfl⟩,⟨dc,rfl⟩,trivial⟩,trivial,⟨rfl,gl,dc,gl⟩,⟨⟨dc,rfl⟩,⟨dc,rfl⟩,⟨dc,rfl⟩,trivial⟩,runq_v (v':=.osl 16 1 0 (((N.list.getD 0 default).path).length)) (by rw[Nat.zero_add,List.length_map]) ?_⟩⟩⟩)
 refine runq_h (cs':=fl sc ((N.list.getD 0 default).path)) (app0_str _) ?_
 refine qFn3 [1,2,3,4] [] ([(24,[.i ((N.list.getD 0 default).id),.osl 16 1 0 (((N.list.getD 0 default).path).length)]),(20,[.i ((N.list.getD 0 default).id),.osl 16 1 0 (((N.list.getD 0 default).path).length)])]++Hw [(8,[.i N.next,.osl 24 2 0 1])] [] ·) 28 ((1*2<=16777216)/\(((1+1<=2/\1<2)/\(AV.nils=(.nils:AV)))/\True)/\(0+1*2<=2)/\(0<1/\0<32/\1*32<=140737488355328)/\(True)/\((1:Nat)≠0)/\(true=true/\1=1/\1+1<=2)/\(True)/\·) ⟨dc,⟨⟨dc,rfl⟩,trivial⟩,dc,dc,trivial,dc,dc,trivial,h_k [1,2,3,4] (F':=[(1,.ptr 0 0),(2,.ptr 4 0),(3,.ptr 8 0),(4,.i 0)]) kr (FzN 16 24 ([]) ((N.list.getD 0 default).path) ((N.list.getD 0 default).id) [(1,.ptr 0 0),(2,.ptr 4 0),(3,.ptr 8 0),(4,.i 0)] [(8,[.i N.next,.osl 24 2 0 1]),(4,[.i 0,.nils]),(0,nsc N)] [true,false,false] (Rn (Gn1 [(4,.i 1),(14,.i 1),(13,.i 0)] (Ki/\·) ⟨rfl,?_⟩)))⟩
 refine nk_n (Lr (1,some ()) [(0,0),(4,4),(8,8),(24,12)] 16 [(1,.ptr 0 0),(2,.ptr 4 0),(3,.ptr 8 0),(4,.i 1)] [(24,fl ndc ([]++[No.mk ((N.list.getD 0 default).id) ((N.list.getD 0 default).path)])),(8,[.i N.next,.osl 24 2 0 1]),(4,[.i 0,.nils]),(0,nsc N)] [false,true,true,true] ?_ ?_ (by(try ((try dsimp only);rw[<-one_take default om]));try kernel_rfl) kr)
 (try dsimp only);omega
 refine⟨?_,rfl⟩;(try dsimp only);omega
 refine Xt (Jx (Lx (Bh (Jn (hK3 (Kp [2,3] (Rr (Fn3 [2] [] (Hw [(4,[.i N.next,.nils])] [] ·) 12 ((0+2<=2/\0<2)/\(true=true/\2=2/\0+2<=2)/\·) ⟨dc,dc,Rt1 ((0+2<=2/\0<2)/\·) (.agg [.i N.next,.nils]) ⟨dc,fin_lea ?_⟩⟩))))))))
 first
   |(rw[List.take_of_length_le om];exact lea_refl _)
   | (have hq:N.list=[]:=List.eq_nil_of_length_eq_zero om
      simp only[nsc,hq];simp[lea,leas])
 (try dsimp only at hI)
 obtain⟨⟨hk0,hk⟩,rfl⟩:=hI
 dsimp only
 have htk:(N.list.take k).length=k:=by rw[List.length_take];omega
 refine Sq fun K10 hK10=>?_
 refine Rr (Av1 4 11 [(10,.sl 2 (N.list.map ndc)),(9,.ptr 0 1),(8,.i k)] (lnm N.list ndc) (((1:Nat)≠0)/\(1+1<=2/\1<2)/\·) ⟨dc,dc,Cn1 (decide ((k:Int)<(N.list.length:Int))) [1,2,3,4] [] (Ki/\·) ⟨rfl,fun hc12 c12=>?_,fun hc12 c12=>?_⟩⟩)
 refine Sk (Jn (hK10 (Kp [1,2,3,4] (Sq fun K13 hK13=>?_))))
 refine Bl ?_
 first|(have hgn:=hl _ (getD_mem N.list k default om);have hgl:=wS_len (N.list.getD k default).path)|(have hgn:=hl _ (getD_mem N.list 0 default om);have hgl:=wS_len (N.list.getD 0 default).path)
 refine Qb [0,1,0,4,0,28,60,124,0,0,512,0,3584,7680,15872,32512,65532,131068,262143,524287,1048575] [(0,[]),(1,[]),(2,[]),(3,[]),(4,[]),(5,[]),(6,[]),(7,[]),(9,[]),(10,[]),(11,[]),(12,[]),(13,[]),(14,[]),(8,[1,3,7,10,14]),(15,[1,3,7]),(16,[]),(17,[1]),(18,[]),(19,[]),(20,[])] (fun h=>Bn (Jn (hK13 h))) (qAv1 6 20 [(19,.i k),(18,.sl 2 (N.list.map ndc)),(17,.ptr 0 1),(16,.osl 12 2 0 ((N.list.take k).length)),(15,.ptr 8 1)] (congrArg AV.pat (mg_nd N.list k om)) (((1:Nat)≠0)/\(1+1<=2/\1<2)/\((1:Nat)≠0)/\(1+1<=2/\1<2)/\(2=2/\(0:Int)<=(k:Int)/\(k:Int)<((N.list.map ndc).length:Int))/\·) ⟨dc,dc,dc,dc,⟨rfl,om,lmo⟩,qAv1 6 27 [(26,.i k),(25,.sl 2 (N.list.map ndc)),(24,.ptr 0 1),(22,.i ((N.list.getD k default).id)),(21,.pat (ndc (N.list.getD k default)))] (congrArg AV.pat (mg_nd N.list k om)) (((1:Nat)≠0)/\(1<=2/\0<2)/\((1:Nat)≠0)/\(1+1<=2/\1<2)/\(2=2/\(0:Int)<=(k:Int)/\(k:Int)<((N.list.map ndc).length:Int))/\·) ⟨dc,dc,dc,dc,⟨rfl,om,lmo⟩,qAn3 4 [(30,.osl 20 1 0 (0+(((N.list.getD k default).path).map (fun s=>[AV.str s])).length)),(23,.osl 16 1 0 0),(29,pth ((N.list.getD k default).path)),(28,.pat [pth ((N.list.getD k default).path)])] ([(20,apd [] (0*1) ((((N.list.getD k default).path).map (fun s=>[AV.str s])).flatten))]++·) 24 (fun Z=>((1:Nat)≠0)/\(1<=1/\0<1)/\(0*1<=16777216)/\(((1+1<=2/\1<2)/\(AV.osl 12 2 0 ((N.list.take k).length)=(.osl 12 2 0 ((N.list.take k).length):AV)))/\((1+1<=2/\1<2)/\(AV.sl 2 (N.list.map ndc)=(.sl 2 (N.list.map ndc):AV)))/\((1<=2/\0<2)/\(AV.int .i64 ((N.list.getD k default).id)=(.i ((N.list.getD k default).id):AV)))/\((1+1<=2/\1<2)/\(AV.sl 2 (N.list.map ndc)=(.sl 2 (N.list.map ndc):AV)))/\((1<=1/\0<1)/\(pth ((N.list.getD k default).path)=pth ((N.list.getD k default).path)))/\True)/\True/\(1=1/\0*1<=0/\0<16/\(0+(((N.list.getD k default).path).map (fun s=>[AV.str s])).length)*16<=140737488355328)/\(((1+1<=2/\1<2)/\(AV.osl 12 2 0 ((N.list.take k).length)=(.osl 12 2 0 ((N.list.take k).length):AV)))/\((1+1<=2/\1<2)/\(AV.sl 2 (N.list.map ndc)=(.sl 2 (N.list.map ndc):AV)))/\((1<=2/\0<2)/\(AV.int .i64 ((N.list.getD k default).id)=(.i ((N.list.getD k default).id):AV)))/\True)/\Z) ⟨dc,dc,dc,⟨⟨dc,rfl⟩,⟨dc,rfl⟩,⟨dc,rfl⟩,⟨dc,rfl⟩,⟨dc,rfl⟩,trivial⟩,trivial,⟨rfl,gl,dc,gl⟩,⟨⟨dc,rfl⟩,⟨dc,rfl⟩,⟨dc,rfl⟩,trivial⟩,runq_v (v':=.osl 20 1 0 (((N.list.getD k default).path).length)) (by rw[Nat.zero_add,List.length_map]) ?_⟩⟩⟩)
 refine runq_h (cs':=fl sc ((N.list.getD k default).path)) (app0_str _) ?_
 refine qAn3 3 [(33,.osl 28 2 0 ((N.list.take k).length+1)),(32,.osl 24 2 0 1),(31,.agg [.i ((N.list.getD k default).id),.osl 20 1 0 (((N.list.getD k default).path).length)])] (fun _=>[(28,apd (fl ndc (N.list.take k)) ((N.list.take k).length*2) ((([.i ((N.list.getD k default).id),.osl 20 1 0 (((N.list.getD k default).path).length)]:List AV).drop 0).take (1*2))),(24,[.i ((N.list.getD k default).id),.osl 20 1 0 (((N.list.getD k default).path).length)]),(20,fl sc ((N.list.getD k default).path)),(8,[.i N.next,.osl 12 2 0 ((N.list.take k).length)]),(4,[.i 0,.nils]),(0,nsc N)]) 32 (fun Z=>(1*2<=16777216)/\(((1+1<=2/\1<2)/\(AV.osl 12 2 0 ((N.list.take k).length)=(.osl 12 2 0 ((N.list.take k).length):AV)))/\True)/\(0+1*2<=([.i ((N.list.getD k default).id),.osl 20 1 0 (((N.list.getD k default).path).length)]:List AV).length)/\(2=2/\(N.list.take k).length*2<=(fl ndc (N.list.take k)).length/\0<32/\((N.list.take k).length+1)*32<=140737488355328)/\(True)/\Z) ⟨dc,⟨⟨dc,rfl⟩,trivial⟩,(by first|decide|simp),⟨rfl,by(first|omega|(simp only[LL,flNl];omega)),dc,by(first|omega|(simp only[LL,flNl];omega))⟩,trivial,runq_H (H':=[(28,fl ndc (N.list.take k)++[.i ((N.list.getD k default).id),.osl 20 1 0 (((N.list.getD k default).path).length)]),(24,[.i ((N.list.getD k default).id),.osl 20 1 0 (((N.list.getD k default).path).length)]),(20,fl sc ((N.list.getD k default).path)),(8,[.i N.next,.osl 12 2 0 ((N.list.take k).length)]),(4,[.i 0,.nils]),(0,nsc N)]) (by rw[show apd (fl ndc (N.list.take k)) ((N.list.take k).length*2) ((([.i ((N.list.getD k default).id),.osl 20 1 0 (((N.list.getD k default).path).length)]:List AV).drop 0).take (1*2))=fl ndc (N.list.take k)++[.i ((N.list.getD k default).id),.osl 20 1 0 (((N.list.getD k default).path).length)]from(by unfold apd;rw[fl_full ndc_len (N.list.take k) rfl];rfl)]) (qFn3 [1,2,3,4] [] (Hw [(8,[.i N.next,.osl 28 2 0 ((N.list.take k).length+1)])] [] ·) 32 (((1:Nat)≠0)/\(true=true/\1=1/\1+1<=2)/\(True)/\·) ⟨dc,dc,trivial,h_k [1,2,3,4] (F':=[(1,.ptr 0 0),(2,.ptr 4 0),(3,.ptr 8 0),(4,.i k)]) kr (FzN 20 28 (N.list.take k) ((N.list.getD k default).path) ((N.list.getD k default).id) [(1,.ptr 0 0),(2,.ptr 4 0),(3,.ptr 8 0),(4,.i k)] [(8,[.i N.next,.osl 28 2 0 ((N.list.take k).length+1)]),(4,[.i 0,.nils]),(0,nsc N)] [true,false,false] ?_)⟩)⟩
 refine Rn (Av1 2 14 [(13,.i k)] (cI (wn1 k om)) (Ki/\·) ⟨rfl,Gn0 [(4,.i ((k+1:Nat):Int))] (nk_n (Lr (k+1,some ()) [(0,0),(4,4),(8,8),(28,12)] 16 [(1,.ptr 0 0),(2,.ptr 4 0),(3,.ptr 8 0),(4,.i ((k+1:Nat):Int))] [(28,fl ndc (N.list.take k++[No.mk ((N.list.getD k default).id) ((N.list.getD k default).path)])),(8,[.i N.next,.osl 28 2 0 ((N.list.take k).length+1)]),(4,[.i 0,.nils]),(0,nsc N)] [false,true,true,true] ?_ ?_ (by(try ((try dsimp only);rw[take_snoc N.list k default om,List.length_append]));try kernel_rfl) kr))⟩)
 (try dsimp only);omega
 refine⟨?_,rfl⟩;(try dsimp only);omega
 refine Xt (Jx (Lx (Bh (Jn (hK3 (Kp [2,3] (Rr (Fn3 [2] [] (Hw [(4,[.i N.next,.osl 12 2 0 ((N.list.take k).length)])] [] ·) 16 ((0+2<=2/\0<2)/\(true=true/\2=2/\0+2<=2)/\·) ⟨dc,dc,Fz 12 2 ((N.list.take k).length) ((N.list.take k).map ndc) (fl ndc (N.list.take k)) [(2,.ptr 4 0)] [(4,[.i N.next,.osl 12 2 0 ((N.list.take k).length)])] [true] (chkN _) (flN_le _) (Rt1 ((0+2<=2/\0<2)/\·) (.agg [.i N.next,.sl 2 ((N.list.take k).map ndc)]) ⟨dc,?_⟩)⟩))))))))
 refine fin_lea ?_
 first
   |(rw[List.take_of_length_le om];exact lea_refl _)
   | (have hq:N.list=[]:=List.eq_nil_of_length_eq_zero om
      simp only[nsc,hq];simp[lea,leas])
theorem l33Put_ok (l:List No) (x:No) (hl:∀y∈l,wS y.path<2^40) (hn:l.length<2^20) (hx:wS x.path<2^40):PE G 28 [.sl 2 (l.map ndc),.agg (ndc x)] (.sl 2 ((insN x l).map ndc)):=by
 have hxl:=wS_len x.path
 refine Pe Tryz.func28 ?_
 refine Rr (Fn2 [0] [(3,.ptr 0 0)] ([(0,ndc x)]++·) 4 (Rr (Fn0 [0,3] [(5,.i 0)] (Sq fun K3 hK3=>?_))))
 refine Bl (h_l (fun(k:Nat)=>([(0,.sl 2 (l.map ndc)),(3,.ptr 0 0),(5,.i k)]:Fr)) (fun(k:Nat)=>([(0,ndc x)]:Hp)) (fun(k:Nat) cn=>(k<=l.length/\insN x l=l.take k++insN x (l.drop k))/\cn=4) (fun(k:Nat)=>l.length-k) 0 kr ?_ ?_ ?_ ?_)
 refine⟨?_,rfl⟩;exact⟨Nat.zero_le _,rfl⟩
 exact⟨kr,kr,kr,trivial⟩
 exact(sub_c kr (List.nil_sublist _))
 rintro k n1 hI
 (try dsimp only at hI)
 obtain⟨⟨hi1,hi2⟩,rfl⟩:=hI
 refine Sq fun K4 hK4=>?_
 have hgn:k<l.length->wS (l.getD k default).path<2^40:=fun h=>hl _ (getD_mem l k default h);have hgl:=wS_len (l.getD k default).path
 refine Qm [0,0,2,7,15,31,31,127,255,511,31,1055,4095,8191] [(0,[]),(1,[]),(2,[]),(3,[]),(4,[]),(5,[]),(6,[]),(7,[]),(8,[]),(9,[]),(10,[]),(11,[]),(12,[]),(13,[])] 19 ((decide ((k:Int)<(l.length:Int)))&&(decide (cmpP ((l.getD k default).path) x.path<(0:Int)))) [0,3,5] ?_ ?_
 refine qAv0 3 8 [(7,.sl 2 (l.map ndc)),(6,.i k)] (lnm l ndc) (qAn1 2 [(10,.bool (decide ((k:Int)<(l.length:Int)))),(9,.bool (decide ((k:Int)<(l.length:Int))))] (Ki/\·) ⟨rfl,Qg (fun hg6 g6=>?_) (fun hg6 g6=>?_)⟩)
 refine qAv1 3 13 [(12,.i k),(11,.sl 2 (l.map ndc))] (congrArg AV.pat (mg_nd l k om)) ((2=2/\(0:Int)<=(k:Int)/\(k:Int)<((l.map ndc).length:Int))/\·) ⟨⟨rfl,om,lmo⟩,qBc1 5 [(17,pth x.path),(16,.ptr 0 1),(15,pth ((l.getD k default).path)),(14,.pat [pth ((l.getD k default).path)])] [] 59 [pth ((l.getD k default).path),pth x.path] 18 (((1:Nat)≠0)/\(1<=1/\0<1)/\((1:Nat)≠0)/\(1+1<=2/\1<2)/\·) ⟨dc,dc,dc,dc,PE.use (less11_ok ((l.getD k default).path) x.path om om) (Kq (p:=(True)) trivial (qMn0 (decide (cmpP ((l.getD k default).path) x.path<(0:Int))) (by rw[hg6];rfl)))⟩⟩
 refine qMn0 false (by rw[hg6];rfl)
 refine Cc ((decide ((k:Int)<(l.length:Int)))&&(decide (cmpP ((l.getD k default).path) x.path<(0:Int)))) (fun hc7 c7=>?_) fun hc7 c7=>?_
 refine Sk (Jn (hK4 (Kp [0,3,5] (Bl (Rn (Av1 2 21 [(20,.i k)] (cI (wn1 k om)) (Ki/\·) ⟨rfl,Gn0 [(5,.i ((k+1:Nat):Int))] ?_⟩))))))
 refine nk_n (Bn (Lr (k+1) [(0,0)] 4 [(0,.sl 2 (l.map ndc)),(3,.ptr 0 0),(5,.i ((k+1:Nat):Int))] [(0,ndc x)] [true] ?_ ?_ kr kr))
 (try dsimp only);omega
 refine⟨?_,rfl⟩;(try dsimp only);exact⟨om,by rw[hi2,drop_cons om,insN,if_pos (by have h:=hc7;simp_all),take_snoc l k default om,List.append_assoc];rfl⟩
 refine Xt (Jx (Lx (Bh (Jn (hK3 (Kp [0,3,5] ?_))))))
 have htk:(l.take k).length<=l.length:=(by rw[List.length_take];omega);have hdk:(l.drop k).length<=l.length:=(by rw[List.length_drop];omega)
 refine h_k [0,3,5] (F':=[(0,.sl 2 (l.map ndc)),(3,.ptr 0 0),(5,.i k)]) kr ?_
 refine Hn [(0,ndc x)] (Sa 13 (Tp 1 23 (.sl 2 (l.map ndc)) (fun Z=>Z) (fun Z z=>z) (Tp 2 24 (.i k) (fun Z=>Z) (fun Z z=>z) (Tp 3 25 (.sl 2 (((l.map ndc).take k).drop 0)) ((2=2/\0<=(0:Int)/\(0:Int)<=(k:Int)/\(k:Int)<=((l.map ndc).length:Int))/\·) (fun Z z=>⟨⟨rfl,om,by(try rw[List.length_map]);omega,lmo⟩,z⟩) ?_))))
 refine Tjv (v':=.sl 2 ((l.take k).map ndc)) (congrArg (AV.sl 2) (slm_0 _ _ _)) ?_
 refine Tp 8 30 (.sl 2 (l.map ndc)) (fun Z=>Z) (fun Z z=>z) ?_
 refine Tp 9 31 (.i k) (fun Z=>Z) (fun Z z=>z) ?_
 refine Tp 10 32 (.sl 2 (((l.map ndc).take ((l.map ndc).length)).drop k)) ((2=2/\0<=((k:Int):Int)/\((k:Int):Int)<=((l.map ndc).length:Int)/\((l.map ndc).length:Int)<=((l.map ndc).length:Int))/\·) (fun Z z=>⟨⟨rfl,om,lmo,om⟩,z⟩) ?_
 refine Tjv (v':=.sl 2 ((l.drop k).map ndc)) (congrArg (AV.sl 2) (slm_all _ _ _)) ?_
 refine Tc 0 [5] ⟨?_,?_,trivial⟩
 refine To3 22 (.osl 4 2 0 0) [(4,[]),(0,ndc x)] 8 ((0*2<=16777216)/\·) ⟨dc,?_⟩
 refine Tc 4 [5] ⟨?_,?_,trivial⟩
 refine To3 26 (.osl 8 2 0 (0+((l.take k).map ndc).length)) [(8,apd [] (0*2) (((l.take k).map ndc).flatten)),(0,ndc x)] 12 (True/\(2=2/\0*2<=0/\0<32/\(0+((l.take k).map ndc).length)*32<=140737488355328)/\·) ⟨trivial,⟨rfl,gl,dc,gl⟩,?_⟩
 refine Tjv (v':=.osl 8 2 0 ((l.take k).length)) (by rw[Nat.zero_add,List.length_map]) ?_
 refine TjH (H':=[(8,fl ndc (l.take k)),(0,ndc x)]) (by rw[(app0_nd _)]) ?_
 refine Tc 5 [] ⟨?_,trivial⟩
 refine To1 27 (.agg (ndc x)) ((0+2<=2/\0<2)/\·) ⟨dc,?_⟩
 refine Tc 6 [] ⟨?_,trivial⟩
 refine To3 28 (.osl 12 2 0 1) [(12,ndc x),(8,fl ndc (l.take k)),(0,ndc x)] 16 ((1*2<=16777216)/\·) ⟨dc,?_⟩
 refine Tc 7 [] ⟨?_,trivial⟩
 refine To3 29 (.osl 16 2 0 ((l.take k).length+1)) [(16,apd (fl ndc (l.take k)) ((l.take k).length*2) (ndc x)),(12,ndc x),(0,ndc x)] 20 ((0+1*2<=2)/\(2=2/\(l.take k).length*2<=(fl ndc (l.take k)).length/\0<32/\((l.take k).length+1)*32<=140737488355328)/\·) ⟨dc,⟨rfl,by(first|omega|(simp only[LL,flNl];omega)),dc,by(first|omega|(simp only[LL,flNl];omega))⟩,?_⟩
 refine Tjv (v':=.osl 16 2 0 ((l.take k++[x]).length)) (push_len _ _ _ _) ?_
 refine TjH (H':=[(16,fl ndc (l.take k++[x])),(12,ndc x),(0,ndc x)]) (by rw[(push_nd (l.take k) x)]) ?_
 refine Tc 11 [] ⟨?_,trivial⟩
 refine To3 33 (.osl 20 2 0 ((l.take k++[x]).length+((l.drop k).map ndc).length)) [(20,apd (fl ndc (l.take k++[x])) ((l.take k++[x]).length*2) (((l.drop k).map ndc).flatten)),(12,ndc x),(0,ndc x)] 24 (True/\(2=2/\(l.take k++[x]).length*2<=(fl ndc (l.take k++[x])).length/\0<32/\((l.take k++[x]).length+((l.drop k).map ndc).length)*32<=140737488355328)/\·) ⟨trivial,⟨rfl,by(first|omega|(simp only[LL,flNl];omega)),dc,by(first|omega|(simp only[LL,flNl];omega))⟩,?_⟩
 refine Tjv (v':=.osl 20 2 0 ((l.take k++[x]++(l.drop k)).length)) (by simp only[List.length_append,List.length_map]) ?_
 refine TjH (H':=[(20,fl ndc (l.take k++[x]++(l.drop k))),(12,ndc x),(0,ndc x)]) (by rw[(app_nd _ _)]) ?_
 refine Tp 12 4 (.osl 20 2 0 ((l.take k++[x]++(l.drop k)).length)) (fun Z=>Z) (fun Z z=>z) ?_
 refine R0 ?_
 refine Kp [4] (Fz 20 2 ((l.take k++[x]++(l.drop k)).length) ((l.take k++[x]++(l.drop k)).map ndc) (fl ndc (l.take k++[x]++(l.drop k))) [(4,.osl 20 2 0 ((l.take k++[x]++(l.drop k)).length))] [] [] (chkN _) (flN_le _) (Rt (.sl 2 ((l.take k++[x]++(l.drop k)).map ndc)) (fin_lea ?_)))
 rw[hi2,insN_here hi1 (fun hk=>by have h:=hc7;simp_all)]
 first|(rw[show l.take k++x::l.drop k=l.take k++[x]++l.drop k by simp];exact lea_refl _)|exact lea_refl _
 refine To1 27 (.agg (ndc x)) ((0+2<=2/\0<2)/\·) ⟨dc,?_⟩
 refine Tc 4 [6] ⟨?_,?_,trivial⟩
 refine To3 26 (.osl 8 2 0 (0+((l.take k).map ndc).length)) [(8,apd [] (0*2) (((l.take k).map ndc).flatten)),(0,ndc x)] 12 (True/\(2=2/\0*2<=0/\0<32/\(0+((l.take k).map ndc).length)*32<=140737488355328)/\·) ⟨trivial,⟨rfl,gl,dc,gl⟩,?_⟩
 refine Tjv (v':=.osl 8 2 0 ((l.take k).length)) (by rw[Nat.zero_add,List.length_map]) ?_
 refine TjH (H':=[(8,fl ndc (l.take k)),(0,ndc x)]) (by rw[(app0_nd _)]) ?_
 refine Tc 6 [] ⟨?_,trivial⟩
 refine To3 28 (.osl 12 2 0 1) [(12,ndc x),(8,fl ndc (l.take k)),(0,ndc x)] 16 ((1*2<=16777216)/\·) ⟨dc,?_⟩
 refine Tc 7 [] ⟨?_,trivial⟩
 refine To3 29 (.osl 16 2 0 ((l.take k).length+1)) [(16,apd (fl ndc (l.take k)) ((l.take k).length*2) (ndc x)),(12,ndc x),(0,ndc x)] 20 ((0+1*2<=2)/\(2=2/\(l.take k).length*2<=(fl ndc (l.take k)).length/\0<32/\((l.take k).length+1)*32<=140737488355328)/\·) ⟨dc,⟨rfl,by(first|omega|(simp only[LL,flNl];omega)),dc,by(first|omega|(simp only[LL,flNl];omega))⟩,?_⟩
 refine Tjv (v':=.osl 16 2 0 ((l.take k++[x]).length)) (push_len _ _ _ _) ?_
 refine TjH (H':=[(16,fl ndc (l.take k++[x])),(12,ndc x),(0,ndc x)]) (by rw[(push_nd (l.take k) x)]) ?_
 refine Tc 11 [] ⟨?_,trivial⟩
 refine To3 33 (.osl 20 2 0 ((l.take k++[x]).length+((l.drop k).map ndc).length)) [(20,apd (fl ndc (l.take k++[x])) ((l.take k++[x]).length*2) (((l.drop k).map ndc).flatten)),(12,ndc x),(0,ndc x)] 24 (True/\(2=2/\(l.take k++[x]).length*2<=(fl ndc (l.take k++[x])).length/\0<32/\((l.take k++[x]).length+((l.drop k).map ndc).length)*32<=140737488355328)/\·) ⟨trivial,⟨rfl,by(first|omega|(simp only[LL,flNl];omega)),dc,by(first|omega|(simp only[LL,flNl];omega))⟩,?_⟩
 refine Tjv (v':=.osl 20 2 0 ((l.take k++[x]++(l.drop k)).length)) (by simp only[List.length_append,List.length_map]) ?_
 refine TjH (H':=[(20,fl ndc (l.take k++[x]++(l.drop k))),(12,ndc x),(0,ndc x)]) (by rw[(app_nd _ _)]) ?_
 refine Tp 12 4 (.osl 20 2 0 ((l.take k++[x]++(l.drop k)).length)) (fun Z=>Z) (fun Z z=>z) ?_
 refine R0 ?_
 refine Kp [4] (Fz 20 2 ((l.take k++[x]++(l.drop k)).length) ((l.take k++[x]++(l.drop k)).map ndc) (fl ndc (l.take k++[x]++(l.drop k))) [(4,.osl 20 2 0 ((l.take k++[x]++(l.drop k)).length))] [] [] (chkN _) (flN_le _) (Rt (.sl 2 ((l.take k++[x]++(l.drop k)).map ndc)) (fin_lea ?_)))
 rw[hi2,insN_here hi1 (fun hk=>by have h:=hc7;simp_all)]
 first|(rw[show l.take k++x::l.drop k=l.take k++[x]++l.drop k by simp];exact lea_refl _)|exact lea_refl _
 refine To3 28 (.osl 8 2 0 1) [(8,ndc x),(4,[]),(0,ndc x)] 12 ((1*2<=16777216)/\·) ⟨dc,?_⟩
 refine Tc 4 [] ⟨?_,trivial⟩
 refine To3 26 (.osl 12 2 0 (0+((l.take k).map ndc).length)) [(12,apd [] (0*2) (((l.take k).map ndc).flatten)),(8,ndc x),(0,ndc x)] 16 (True/\(2=2/\0*2<=0/\0<32/\(0+((l.take k).map ndc).length)*32<=140737488355328)/\·) ⟨trivial,⟨rfl,gl,dc,gl⟩,?_⟩
 refine Tjv (v':=.osl 12 2 0 ((l.take k).length)) (by rw[Nat.zero_add,List.length_map]) ?_
 refine TjH (H':=[(12,fl ndc (l.take k)),(8,ndc x),(0,ndc x)]) (by rw[(app0_nd _)]) ?_
 refine Tc 7 [] ⟨?_,trivial⟩
 refine To3 29 (.osl 16 2 0 ((l.take k).length+1)) [(16,apd (fl ndc (l.take k)) ((l.take k).length*2) (ndc x)),(8,ndc x),(0,ndc x)] 20 ((0+1*2<=2)/\(2=2/\(l.take k).length*2<=(fl ndc (l.take k)).length/\0<32/\((l.take k).length+1)*32<=140737488355328)/\·) ⟨dc,⟨rfl,by(first|omega|(simp only[LL,flNl];omega)),dc,by(first|omega|(simp only[LL,flNl];omega))⟩,?_⟩
 refine Tjv (v':=.osl 16 2 0 ((l.take k++[x]).length)) (push_len _ _ _ _) ?_
 refine TjH (H':=[(16,fl ndc (l.take k++[x])),(8,ndc x),(0,ndc x)]) (by rw[(push_nd (l.take k) x)]) ?_
 refine Tc 11 [] ⟨?_,trivial⟩
 refine To3 33 (.osl 20 2 0 ((l.take k++[x]).length+((l.drop k).map ndc).length)) [(20,apd (fl ndc (l.take k++[x])) ((l.take k++[x]).length*2) (((l.drop k).map ndc).flatten)),(8,ndc x),(0,ndc x)] 24 (True/\(2=2/\(l.take k++[x]).length*2<=(fl ndc (l.take k++[x])).length/\0<32/\((l.take k++[x]).length+((l.drop k).map ndc).length)*32<=140737488355328)/\·) ⟨trivial,⟨rfl,by(first|omega|(simp only[LL,flNl];omega)),dc,by(first|omega|(simp only[LL,flNl];omega))⟩,?_⟩
 refine Tjv (v':=.osl 20 2 0 ((l.take k++[x]++(l.drop k)).length)) (by simp only[List.length_append,List.length_map]) ?_
 refine TjH (H':=[(20,fl ndc (l.take k++[x]++(l.drop k))),(8,ndc x),(0,ndc x)]) (by rw[(app_nd _ _)]) ?_
 refine Tp 12 4 (.osl 20 2 0 ((l.take k++[x]++(l.drop k)).length)) (fun Z=>Z) (fun Z z=>z) ?_
 refine R0 ?_
 refine Kp [4] (Fz 20 2 ((l.take k++[x]++(l.drop k)).length) ((l.take k++[x]++(l.drop k)).map ndc) (fl ndc (l.take k++[x]++(l.drop k))) [(4,.osl 20 2 0 ((l.take k++[x]++(l.drop k)).length))] [] [] (chkN _) (flN_le _) (Rt (.sl 2 ((l.take k++[x]++(l.drop k)).map ndc)) (fin_lea ?_)))
 rw[hi2,insN_here hi1 (fun hk=>by have h:=hc7;simp_all)]
 first|(rw[show l.take k++x::l.drop k=l.take k++[x]++l.drop k by simp];exact lea_refl _)|exact lea_refl _
 refine To1 27 (.agg (ndc x)) ((0+2<=2/\0<2)/\·) ⟨dc,?_⟩
 refine Tc 0 [6] ⟨?_,?_,trivial⟩
 refine To3 22 (.osl 4 2 0 0) [(4,[]),(0,ndc x)] 8 ((0*2<=16777216)/\·) ⟨dc,?_⟩
 refine Tc 4 [6] ⟨?_,?_,trivial⟩
 refine To3 26 (.osl 8 2 0 (0+((l.take k).map ndc).length)) [(8,apd [] (0*2) (((l.take k).map ndc).flatten)),(0,ndc x)] 12 (True/\(2=2/\0*2<=0/\0<32/\(0+((l.take k).map ndc).length)*32<=140737488355328)/\·) ⟨trivial,⟨rfl,gl,dc,gl⟩,?_⟩
 refine Tjv (v':=.osl 8 2 0 ((l.take k).length)) (by rw[Nat.zero_add,List.length_map]) ?_
 refine TjH (H':=[(8,fl ndc (l.take k)),(0,ndc x)]) (by rw[(app0_nd _)]) ?_
 refine Tc 6 [] ⟨?_,trivial⟩
 refine To3 28 (.osl 12 2 0 1) [(12,ndc x),(8,fl ndc (l.take k)),(0,ndc x)] 16 ((1*2<=16777216)/\·) ⟨dc,?_⟩
 refine Tc 7 [] ⟨?_,trivial⟩
 refine To3 29 (.osl 16 2 0 ((l.take k).length+1)) [(16,apd (fl ndc (l.take k)) ((l.take k).length*2) (ndc x)),(12,ndc x),(0,ndc x)] 20 ((0+1*2<=2)/\(2=2/\(l.take k).length*2<=(fl ndc (l.take k)).length/\0<32/\((l.take k).length+1)*32<=140737488355328)/\·) ⟨dc,⟨rfl,by(first|omega|(simp only[LL,flNl];omega)),dc,by(first|omega|(simp only[LL,flNl];omega))⟩,?_⟩
 refine Tjv (v':=.osl 16 2 0 ((l.take k++[x]).length)) (push_len _ _ _ _) ?_
 refine TjH (H':=[(16,fl ndc (l.take k++[x])),(12,ndc x),(0,ndc x)]) (by rw[(push_nd (l.take k) x)]) ?_
 refine Tc 11 [] ⟨?_,trivial⟩
 refine To3 33 (.osl 20 2 0 ((l.take k++[x]).length+((l.drop k).map ndc).length)) [(20,apd (fl ndc (l.take k++[x])) ((l.take k++[x]).length*2) (((l.drop k).map ndc).flatten)),(12,ndc x),(0,ndc x)] 24 (True/\(2=2/\(l.take k++[x]).length*2<=(fl ndc (l.take k++[x])).length/\0<32/\((l.take k++[x]).length+((l.drop k).map ndc).length)*32<=140737488355328)/\·) ⟨trivial,⟨rfl,by(first|omega|(simp only[LL,flNl];omega)),dc,by(first|omega|(simp only[LL,flNl];omega))⟩,?_⟩
 refine Tjv (v':=.osl 20 2 0 ((l.take k++[x]++(l.drop k)).length)) (by simp only[List.length_append,List.length_map]) ?_
 refine TjH (H':=[(20,fl ndc (l.take k++[x]++(l.drop k))),(12,ndc x),(0,ndc x)]) (by rw[(app_nd _ _)]) ?_
 refine Tp 12 4 (.osl 20 2 0 ((l.take k++[x]++(l.drop k)).length)) (fun Z=>Z) (fun Z z=>z) ?_
 refine R0 ?_
 refine Kp [4] (Fz 20 2 ((l.take k++[x]++(l.drop k)).length) ((l.take k++[x]++(l.drop k)).map ndc) (fl ndc (l.take k++[x]++(l.drop k))) [(4,.osl 20 2 0 ((l.take k++[x]++(l.drop k)).length))] [] [] (chkN _) (flN_le _) (Rt (.sl 2 ((l.take k++[x]++(l.drop k)).map ndc)) (fin_lea ?_)))
 rw[hi2,insN_here hi1 (fun hk=>by have h:=hc7;simp_all)]
 first|(rw[show l.take k++x::l.drop k=l.take k++[x]++l.drop k by simp];exact lea_refl _)|exact lea_refl _
 refine To3 28 (.osl 8 2 0 1) [(8,ndc x),(4,[]),(0,ndc x)] 12 ((1*2<=16777216)/\·) ⟨dc,?_⟩
 refine Tc 4 [] ⟨?_,trivial⟩
 refine To3 26 (.osl 12 2 0 (0+((l.take k).map ndc).length)) [(12,apd [] (0*2) (((l.take k).map ndc).flatten)),(8,ndc x),(0,ndc x)] 16 (True/\(2=2/\0*2<=0/\0<32/\(0+((l.take k).map ndc).length)*32<=140737488355328)/\·) ⟨trivial,⟨rfl,gl,dc,gl⟩,?_⟩
 refine Tjv (v':=.osl 12 2 0 ((l.take k).length)) (by rw[Nat.zero_add,List.length_map]) ?_
 refine TjH (H':=[(12,fl ndc (l.take k)),(8,ndc x),(0,ndc x)]) (by rw[(app0_nd _)]) ?_
 refine Tc 7 [] ⟨?_,trivial⟩
 refine To3 29 (.osl 16 2 0 ((l.take k).length+1)) [(16,apd (fl ndc (l.take k)) ((l.take k).length*2) (ndc x)),(8,ndc x),(0,ndc x)] 20 ((0+1*2<=2)/\(2=2/\(l.take k).length*2<=(fl ndc (l.take k)).length/\0<32/\((l.take k).length+1)*32<=140737488355328)/\·) ⟨dc,⟨rfl,by(first|omega|(simp only[LL,flNl];omega)),dc,by(first|omega|(simp only[LL,flNl];omega))⟩,?_⟩
 refine Tjv (v':=.osl 16 2 0 ((l.take k++[x]).length)) (push_len _ _ _ _) ?_
 refine TjH (H':=[(16,fl ndc (l.take k++[x])),(8,ndc x),(0,ndc x)]) (by rw[(push_nd (l.take k) x)]) ?_
 refine Tc 11 [] ⟨?_,trivial⟩
 refine To3 33 (.osl 20 2 0 ((l.take k++[x]).length+((l.drop k).map ndc).length)) [(20,apd (fl ndc (l.take k++[x])) ((l.take k++[x]).length*2) (((l.drop k).map ndc).flatten)),(8,ndc x),(0,ndc x)] 24 (True/\(2=2/\(l.take k++[x]).length*2<=(fl ndc (l.take k++[x])).length/\0<32/\((l.take k++[x]).length+((l.drop k).map ndc).length)*32<=140737488355328)/\·) ⟨trivial,⟨rfl,by(first|omega|(simp only[LL,flNl];omega)),dc,by(first|omega|(simp only[LL,flNl];omega))⟩,?_⟩
 refine Tjv (v':=.osl 20 2 0 ((l.take k++[x]++(l.drop k)).length)) (by simp only[List.length_append,List.length_map]) ?_
 refine TjH (H':=[(20,fl ndc (l.take k++[x]++(l.drop k))),(8,ndc x),(0,ndc x)]) (by rw[(app_nd _ _)]) ?_
 refine Tp 12 4 (.osl 20 2 0 ((l.take k++[x]++(l.drop k)).length)) (fun Z=>Z) (fun Z z=>z) ?_
 refine R0 ?_
 refine Kp [4] (Fz 20 2 ((l.take k++[x]++(l.drop k)).length) ((l.take k++[x]++(l.drop k)).map ndc) (fl ndc (l.take k++[x]++(l.drop k))) [(4,.osl 20 2 0 ((l.take k++[x]++(l.drop k)).length))] [] [] (chkN _) (flN_le _) (Rt (.sl 2 ((l.take k++[x]++(l.drop k)).map ndc)) (fin_lea ?_)))
 rw[hi2,insN_here hi1 (fun hk=>by have h:=hc7;simp_all)]
 first|(rw[show l.take k++x::l.drop k=l.take k++[x]++l.drop k by simp];exact lea_refl _)|exact lea_refl _
 refine To3 28 (.osl 4 2 0 1) [(4,ndc x),(0,ndc x)] 8 ((1*2<=16777216)/\·) ⟨dc,?_⟩
 refine Tc 0 [] ⟨?_,trivial⟩
 refine To3 22 (.osl 8 2 0 0) [(8,[]),(4,ndc x),(0,ndc x)] 12 ((0*2<=16777216)/\·) ⟨dc,?_⟩
 refine Tc 4 [] ⟨?_,trivial⟩
 refine To3 26 (.osl 12 2 0 (0+((l.take k).map ndc).length)) [(12,apd [] (0*2) (((l.take k).map ndc).flatten)),(4,ndc x),(0,ndc x)] 16 (True/\(2=2/\0*2<=0/\0<32/\(0+((l.take k).map ndc).length)*32<=140737488355328)/\·) ⟨trivial,⟨rfl,gl,dc,gl⟩,?_⟩
 refine Tjv (v':=.osl 12 2 0 ((l.take k).length)) (by rw[Nat.zero_add,List.length_map]) ?_
 refine TjH (H':=[(12,fl ndc (l.take k)),(4,ndc x),(0,ndc x)]) (by rw[(app0_nd _)]) ?_
 refine Tc 7 [] ⟨?_,trivial⟩
 refine To3 29 (.osl 16 2 0 ((l.take k).length+1)) [(16,apd (fl ndc (l.take k)) ((l.take k).length*2) (ndc x)),(4,ndc x),(0,ndc x)] 20 ((0+1*2<=2)/\(2=2/\(l.take k).length*2<=(fl ndc (l.take k)).length/\0<32/\((l.take k).length+1)*32<=140737488355328)/\·) ⟨dc,⟨rfl,by(first|omega|(simp only[LL,flNl];omega)),dc,by(first|omega|(simp only[LL,flNl];omega))⟩,?_⟩
 refine Tjv (v':=.osl 16 2 0 ((l.take k++[x]).length)) (push_len _ _ _ _) ?_
 refine TjH (H':=[(16,fl ndc (l.take k++[x])),(4,ndc x),(0,ndc x)]) (by rw[(push_nd (l.take k) x)]) ?_
 refine Tc 11 [] ⟨?_,trivial⟩
 refine To3 33 (.osl 20 2 0 ((l.take k++[x]).length+((l.drop k).map ndc).length)) [(20,apd (fl ndc (l.take k++[x])) ((l.take k++[x]).length*2) (((l.drop k).map ndc).flatten)),(4,ndc x),(0,ndc x)] 24 (True/\(2=2/\(l.take k++[x]).length*2<=(fl ndc (l.take k++[x])).length/\0<32/\((l.take k++[x]).length+((l.drop k).map ndc).length)*32<=140737488355328)/\·) ⟨trivial,⟨rfl,by(first|omega|(simp only[LL,flNl];omega)),dc,by(first|omega|(simp only[LL,flNl];omega))⟩,?_⟩
 refine Tjv (v':=.osl 20 2 0 ((l.take k++[x]++(l.drop k)).length)) (by simp only[List.length_append,List.length_map]) ?_
 refine TjH (H':=[(20,fl ndc (l.take k++[x]++(l.drop k))),(4,ndc x),(0,ndc x)]) (by rw[(app_nd _ _)]) ?_
 refine Tp 12 4 (.osl 20 2 0 ((l.take k++[x]++(l.drop k)).length)) (fun Z=>Z) (fun Z z=>z) ?_
 refine R0 ?_
 refine Kp [4] (Fz 20 2 ((l.take k++[x]++(l.drop k)).length) ((l.take k++[x]++(l.drop k)).map ndc) (fl ndc (l.take k++[x]++(l.drop k))) [(4,.osl 20 2 0 ((l.take k++[x]++(l.drop k)).length))] [] [] (chkN _) (flN_le _) (Rt (.sl 2 ((l.take k++[x]++(l.drop k)).map ndc)) (fin_lea ?_)))
 rw[hi2,insN_here hi1 (fun hk=>by have h:=hc7;simp_all)]
 first|(rw[show l.take k++x::l.drop k=l.take k++[x]++l.drop k by simp];exact lea_refl _)|exact lea_refl _
open Go Go.Proofs
set_option maxRecDepth 100000
theorem wS_drop:∀(l:List Str) (k:Nat),wS (l.drop k)<=wS l
  |[],k=>by simp[wS]
  |a::l,0=>Nat.le_refl _
  |a::l,k+1=>by have:=wS_drop l k;simp only[List.drop_succ_cons,wS];omega
theorem l33Moved_ok (N:Nds) (f t:List Str) (hl:∀x∈N.list,wS x.path<2^38) (hn:N.list.length<2^19) (hf:wS f<2^38) (ht:wS t<2^38):PE G 25 [.agg (nsc N),pth f,pth t] (.agg (nsc ⟨N.next,movN f t [] N.list⟩)):=by
 have hfl:=wS_len f;have htl:=wS_len t
 refine Pe Tryz.func25 ?_
 refine Rr (Fn2 [1,2] [(6,.ptr 4 0),(3,.ptr 0 0)] ([(4,[.i 0,.nils]),(0,nsc N)]++·) 8 (Rr (Fn3 [1,2,3,6] [(7,.ptr 8 0)] ([(8,[.i N.next,.nils])]++·) 12 (((1:Nat)≠0)/\(0+1<=2/\0<2)/\(true=true/\2=2/\0+2<=2)/\·) ⟨dc,dc,dc,Sq fun K3 hK3=>?_⟩)))
 refine Hn [(8,[.i N.next,.nils]),(4,[.i 0,.nils]),(0,nsc N)] (h_lo (H':=[(8,[.i N.next,.sl 2 ([].map ndc)]),(4,[.i 0,.nils]),(0,nsc N)]) (by simp[leH,lea,leas]) (Rr (Fn0 [1,2,3,6,7] [(8,.i 0)] (Bl ?_))))
 refine h_l (fun(z:Nat×List No)=>(match z with|(k,o)=>([(1,pth f),(2,pth t),(3,.ptr 0 0),(6,.ptr 4 0),(7,.ptr 8 0),(8,.i k)]:Fr))) (fun(z:Nat×List No)=>(match z with|(k,o)=>([(8,[.i N.next,.sl 2 (o.map ndc)]),(4,[.i 0,.nils]),(0,nsc N)]:Hp))) (fun(z:Nat×List No) cn=>(match z with|(k,o)=>(k<=N.list.length/\o.length<=k/\(∀y∈o,wS y.path<2^40)/\movN f t [] N.list=movN f t o (N.list.drop k))/\cn=12)) (fun(z:Nat×List No)=>N.list.length-z.1) (0,[]) kr ?_ ?_ ?_ ?_
 refine⟨?_,rfl⟩;exact⟨Nat.zero_le _,Nat.le_refl _,by simp,rfl⟩
 exact⟨kr,kr,kr,kr,kr,kr,trivial⟩
 exact(sub_c kr (sub_c kr (sub_c kr (List.nil_sublist _))))
 rintro⟨k,o⟩ n1 hI
 (try dsimp only at hI)
 obtain⟨⟨hi1,hi2,hi3,hi4⟩,rfl⟩:=hI
 refine Sq fun K5 hK5=>?_
 refine Rr (Av1 4 16 [(15,.sl 2 (N.list.map ndc)),(14,.ptr 0 1),(13,.i k)] (lnm N.list ndc) (((1:Nat)≠0)/\(1+1<=2/\1<2)/\·) ⟨dc,dc,Cn1 (decide ((k:Int)<(N.list.length:Int))) [1,2,3,6,7,8] [] (Ki/\·) ⟨rfl,fun hc7 c7=>?_,fun hc7 c7=>?_⟩⟩)
 refine Sk (Jn (hK5 (Kp [1,2,3,6,7,8] (Sq fun K8 hK8=>?_))))
 refine Bl ?_
 have hgn:=hl _ (getD_mem N.list k default om);have hgl:=wS_len (N.list.getD k default).path
 refine Rr (Av1 4 23 [(22,.i k),(21,.sl 2 (N.list.map ndc)),(20,.ptr 0 1)] (congrArg AV.pat (mg_nd N.list k om)) (((1:Nat)≠0)/\(1+1<=2/\1<2)/\(2=2/\(0:Int)<=(k:Int)/\(k:Int)<((N.list.map ndc).length:Int))/\·) ⟨dc,dc,⟨rfl,om,lmo⟩,Fn3 [1,2,3,6,7,8] [(9,.ptr 12 0)] ([(12,ndc (N.list.getD k default))]++·) 16 ((2<=2/\0<2)/\(true=true/\2=2/\0+2<=2)/\·) ⟨dc,dc,Sq fun K10 hK10=>?_⟩⟩)
 refine Rr (Bc1 4 [(27,pth f),(26,pth ((N.list.getD k default).path)),(25,.ptr 12 1)] 58 [pth ((N.list.getD k default).path),pth f] 28 (((1:Nat)≠0)/\(1+1<=2/\1<2)/\·) ⟨dc,dc,PE.use (l2Within_ok ((N.list.getD k default).path) f om om) (Ke (Cn0 (f.isPrefixOf ((N.list.getD k default).path)) [1,2,3,6,7,8,9] [] ⟨fun hc12 c12=>?_,fun hc12 c12=>?_⟩))⟩)
 have hfp:=(List.isPrefixOf_iff_prefix.1 hc12).length_le
 refine Qb [0,0,3,0,8,0,32,120,255,511,1023] [(1,[]),(3,[]),(4,[]),(5,[]),(6,[]),(7,[]),(0,[4]),(2,[4]),(8,[]),(9,[]),(10,[])] (fun h=>Jn (hK10 h)) (qAv1 5 35 [(34,pth f),(33,pth ((N.list.getD k default).path)),(32,.ptr 12 1),(30,pth t)] (lnm f sc) (((1:Nat)≠0)/\(1+1<=2/\1<2)/\·) ⟨dc,dc,qAv1 (r:=.sl 1 (((((N.list.getD k default).path).map (fun s=>[AV.str s])).take ((((N.list.getD k default).path).map (fun s=>[AV.str s])).length)).drop f.length)) (v:=pth (((N.list.getD k default).path).drop f.length)) 1 36 [] (congrArg (AV.sl 1) (slm_all _ _ _)) (fun Z=>(1=1/\0<=((f.length:Int):Int)/\((f.length:Int):Int)<=(((((N.list.getD k default).path).map (fun s=>[AV.str s])).length:Nat):Int)/\(((((N.list.getD k default).path).map (fun s=>[AV.str s])).length:Nat):Int)<=(((((N.list.getD k default).path).map (fun s=>[AV.str s])).length:Nat):Int))/\Z) ⟨⟨rfl,om,lmo,om⟩,qAn3 2 [(31,.osl 20 1 0 (0+(t.map (fun s=>[AV.str s])).length)),(29,.osl 16 1 0 0)] ([(20,apd [] (0*1) ((t.map (fun s=>[AV.str s])).flatten))]++·) 24 ((0*1<=16777216)/\(((1+1<=2/\1<2)/\(pth ((N.list.getD k default).path)=pth ((N.list.getD k default).path)))/\True)/\True/\(1=1/\0*1<=0/\0<16/\(0+(t.map (fun s=>[AV.str s])).length)*16<=140737488355328)/\(((1+1<=2/\1<2)/\(pth ((N.list.getD k default).path)=pth ((N.list.getD k default).path)))/\True)/\·) ⟨dc,⟨⟨dc,rfl⟩,trivial⟩,trivial,⟨rfl,gl,dc,gl⟩,⟨⟨dc,rfl⟩,trivial⟩,runq_v (v':=.osl 20 1 0 t.length) (by rw[Nat.zero_add,List.length_map]) ?_⟩⟩⟩)
 refine runq_h (cs':=fl sc t) (app0_str _) ?_
 refine qAn3 1 [(37,.osl 24 1 0 (t.length+((((N.list.getD k default).path).drop f.length).map (fun s=>[AV.str s])).length))] ([(24,apd (fl sc t) (t.length*1) (((((N.list.getD k default).path).drop f.length).map (fun s=>[AV.str s])).flatten))]++Hw [] [20] ·) 28 (fun Z=>True/\(1=1/\t.length*1<=(fl sc t).length/\0<16/\(t.length+((((N.list.getD k default).path).drop f.length).map (fun s=>[AV.str s])).length)*16<=140737488355328)/\(True)/\Z) ⟨trivial,⟨rfl,gl,dc,gl⟩,trivial,runq_v (v':=.osl 24 1 0 ((t++(((N.list.getD k default).path).drop f.length)).length)) (by simp only[List.length_append,List.length_map]) (runq_h (cs':=fl sc (t++(((N.list.getD k default).path).drop f.length))) (app_str _ _) (qFn3 [1,2,3,6,7,8,9] [] (Hw [(12,[.i ((N.list.getD k default).id),.osl 24 1 0 ((t++(((N.list.getD k default).path).drop f.length)).length)])] [] ·) 28 (((1:Nat)≠0)/\(true=true/\1=1/\1+1<=2)/\(True)/\·) ⟨dc,dc,trivial,FzS 24 (t++(((N.list.getD k default).path).drop f.length)) [(1,pth f),(2,pth t),(3,.ptr 0 0),(6,.ptr 4 0),(7,.ptr 8 0),(8,.i k),(9,.ptr 12 0)] [(12,[.i ((N.list.getD k default).id),.osl 24 1 0 ((t++(((N.list.getD k default).path).drop f.length)).length)]),(8,[.i N.next,.sl 2 (o.map ndc)]),(4,[.i 0,.nils]),(0,nsc N)] [true,true,true,true] ?_⟩))⟩
 have hwd:=wS_drop (N.list.getD k default).path f.length;have hwa:=wS_app t ((N.list.getD k default).path.drop f.length)
 refine Rb (fun h=>Bn (Jn (hK8 h))) (Bc1 4 [(41,.agg [.i ((N.list.getD k default).id),pth (t++(((N.list.getD k default).path).drop f.length))]),(40,.sl 2 (o.map ndc)),(39,.ptr 8 1)] 28 [.sl 2 (o.map ndc),.agg [.i ((N.list.getD k default).id),pth (t++(((N.list.getD k default).path).drop f.length))]] 42 (((1:Nat)≠0)/\(1+1<=2/\1<2)/\(0+2<=2/\0<2)/\·) ⟨dc,dc,dc,PE.use (l33Put_ok o (No.mk ((N.list.getD k default).id) (t++(((N.list.getD k default).path).drop f.length))) hi3 om (by(try dsimp only);omega)) (Ke (Fn3 [1,2,3,6,7,8] [] (Hw [(8,[.i N.next,.sl 2 ((insN (No.mk ((N.list.getD k default).id) (t++(((N.list.getD k default).path).drop f.length))) o).map ndc)])] [] ·) 28 (((1:Nat)≠0)/\(true=true/\1=1/\1+1<=2)/\·) ⟨dc,dc,?_⟩))⟩)
 refine Rn (Av1 2 19 [(18,.i k)] (cI (wn1 k om)) (Ki/\·) ⟨rfl,Gn0 [(8,.i ((k+1:Nat):Int))] (nk_n (Lr (k+1,insN (No.mk ((N.list.getD k default).id) (t++(((N.list.getD k default).path).drop f.length))) o) [(0,0),(4,4),(8,8)] 12 [(1,pth f),(2,pth t),(3,.ptr 0 0),(6,.ptr 4 0),(7,.ptr 8 0),(8,.i ((k+1:Nat):Int))] [(8,[.i N.next,.sl 2 ((insN (No.mk ((N.list.getD k default).id) (t++(((N.list.getD k default).path).drop f.length))) o).map ndc)]),(4,[.i 0,.nils]),(0,nsc N)] [true,true,true] ?_ ?_ kr kr))⟩)
 (try dsimp only);omega
 refine⟨?_,rfl⟩;(try dsimp only)
 refine⟨om,by rw[insN_len];omega,fun y hy=>?_,?_⟩
 · rcases insN_mem hy with rfl|hy
   · (try dsimp only);rw[wS_app];have:=wS_drop (N.list.getD k default).path f.length;omega
   · exact hi3 y hy
 · rw[hi4,drop_cons om,movN,show mvd f t (N.list.getD k default)=(No.mk ((N.list.getD k default).id) (t++(((N.list.getD k default).path).drop f.length))) by unfold mvd;rw[if_pos hc12]]
 refine Sk (Jn (hK10 (Kp [1,2,3,6,7,8,9] ?_)))
 have hwd:=wS_drop (N.list.getD k default).path f.length;have hwa:=wS_app t ((N.list.getD k default).path.drop f.length)
 refine Rb (fun h=>Bn (Jn (hK8 h))) (Bc1 4 [(41,.agg (ndc (N.list.getD k default))),(40,.sl 2 (o.map ndc)),(39,.ptr 8 1)] 28 [.sl 2 (o.map ndc),.agg (ndc (N.list.getD k default))] 42 (((1:Nat)≠0)/\(1+1<=2/\1<2)/\(0+2<=2/\0<2)/\·) ⟨dc,dc,dc,PE.use (l33Put_ok o (N.list.getD k default) hi3 om (by(try dsimp only);omega)) (Ke (Fn3 [1,2,3,6,7,8] [] (Hw [(8,[.i N.next,.sl 2 ((insN (N.list.getD k default) o).map ndc)])] [] ·) 16 (((1:Nat)≠0)/\(true=true/\1=1/\1+1<=2)/\·) ⟨dc,dc,?_⟩))⟩)
 refine Rn (Av1 2 19 [(18,.i k)] (cI (wn1 k om)) (Ki/\·) ⟨rfl,Gn0 [(8,.i ((k+1:Nat):Int))] (nk_n (Lr (k+1,insN (N.list.getD k default) o) [(0,0),(4,4),(8,8)] 12 [(1,pth f),(2,pth t),(3,.ptr 0 0),(6,.ptr 4 0),(7,.ptr 8 0),(8,.i ((k+1:Nat):Int))] [(8,[.i N.next,.sl 2 ((insN (N.list.getD k default) o).map ndc)]),(4,[.i 0,.nils]),(0,nsc N)] [true,true,true] ?_ ?_ kr kr))⟩)
 (try dsimp only);omega
 refine⟨?_,rfl⟩;(try dsimp only)
 refine⟨om,by rw[insN_len];omega,fun y hy=>?_,?_⟩
 · rcases insN_mem hy with rfl|hy
   · omega
   · exact hi3 y hy
 · rw[hi4,drop_cons om,movN,show mvd f t (N.list.getD k default)=(N.list.getD k default) by unfold mvd;rw[if_neg (by rw[hc12];simp)]]
 refine Xt (Jx (Lx (Bh (Jn (hK3 (Kp [6,7] (Rr (Fn3 [6] [] (Hw [(4,[.i N.next,.sl 2 (o.map ndc)])] [] ·) 12 ((0+2<=2/\0<2)/\(true=true/\2=2/\0+2<=2)/\·) ⟨dc,dc,Rt1 ((0+2<=2/\0<2)/\·) (.agg [.i N.next,.sl 2 (o.map ndc)]) ⟨dc,fin_lea ?_⟩⟩))))))))
 obtain rfl:k=N.list.length:=by omega
 rw[hi4,List.drop_length,movN];exact lea_refl _
open Go Go.Proofs
set_option maxRecDepth 100000
theorem map_getN (l:List No) (k:Nat) (h:k<l.length):(l.map (·.path)).getD k default=(l.getD k default).path:=by simp[List.getD,h]
theorem filtN_t {l:List No} {p:No->Bool} {k:Nat} (hk:k<l.length) (h:p (l.getD k default)=true):(l.take (k+1)).filter p=(l.take k).filter p++[l.getD k default]:=by
  rw[take_snoc l k default hk,List.filter_append];simp only[List.filter_cons,h,if_true,List.filter_nil]
theorem filtN_f {l:List No} {p:No->Bool} {k:Nat} (hk:k<l.length) (h:p (l.getD k default)=false):(l.take (k+1)).filter p=(l.take k).filter p:=by
  rw[take_snoc l k default hk,List.filter_append];simp only[List.filter_cons,h,Bool.false_eq_true,if_false,List.filter_nil,List.append_nil]
theorem movN_wS {f t:List Str} {B:Nat}:∀(ys acc:List No),(∀y∈acc,wS y.path<B)->(∀y∈ys,wS y.path+wS t<B)->∀y∈movN f t acc ys,wS y.path<B
  |[],acc,h,_=>h
  |y::ys,acc,h,k=>by
    refine movN_wS ys _ (fun z hz=>?_) (fun z hz=>k z (List.mem_cons_of_mem _ hz))
    rcases insN_mem hz with rfl|hz
    · have:=k y List.mem_cons_self
      unfold mvd
      split
      · have h1:=wS_app t (y.path.drop f.length);have h2:=wS_drop y.path f.length;(try dsimp only);omega
      · omega
    · exact h z hz
theorem movN_len {f t:List Str}:∀(ys acc:List No),(movN f t acc ys).length=acc.length+ys.length
  |[],acc=>rfl
  |y::ys,acc=>by rw[movN,movN_len ys,insN_len,List.length_cons];omega
theorem sNOk_ok (N:Nds) (t:Tr) (hl:∀x∈N.list,wS x.path<2^40) (hn:N.list.length<2^20) (hb: -2^50<N.next/\N.next<2^50) (hw:t.W<2^39):PE G 13 [.agg (nsc N),.agg (tcs t)] (.bool (ndOk N t)):=by
 refine Pe Tryz.func13 ?_
 refine Rr (Fn2 [] [(3,.ptr 4 0),(2,.ptr 0 0)] ([(4,tcs t),(0,nsc N)]++·) 8 (Sq fun K2 hK2=>?_))
 refine Rm 14 ((!(treeOk t))||(!(nsOk N))) [2,3] ?_ ?_
 refine Pc1 2 [(7,.agg (tcs t))] 8 (0+5<=5/\0<5) dc (sTreeOk_c t om) (An0 2 [(10,.bool (!(treeOk t))),(9,.bool (!(treeOk t)))] (Rg (fun hg4 g4=>?_) (fun hg4 g4=>?_)))
 refine Mn0 true (by rw[hg4];rfl)
 refine Pc1 2 [(11,.agg (nsc N))] 12 (0+2<=2/\0<2) dc (l33Ok_ok N hl hn hb) (Mn0 (!(nsOk N)) (by rw[hg4];rfl))
 refine Cc ((!(treeOk t))||(!(nsOk N))) (fun hc5 c5=>?_) fun hc5 c5=>?_
 refine Rr (Fn0 [] [(4,.bool false)] (Rt (.bool false) (fin_lea ?_)))
 rw[show ndOk N t=false by unfold ndOk;rcases c5 with h|h<;>simp[h]];exact lea_refl _
 refine Sk (Jn (hK2 (Kp [2,3] (Rr (Bc3 3 [(16,.agg (tcs t)),(15,.osl 8 1 0 0)] 36 [.osl 8 1 0 0,.agg (tcs t)] 17 ([(8,[])]++·) 12 ((0*1<=16777216)/\(0+5<=5/\0<5)/\·) ⟨dc,dc,Tz 8 1 0 ([]) ([]) [pth [],.agg (tcs t)] [(4,tcs t),(0,nsc N)] [true,true] kr dc ?_⟩)))))
 have htk:=c5.1
 refine PE.use (l33Paths_ok _ [] t rfl (treeOk_wf htk) (by simp only[wS];omega)) ?_
 refine Ke (Fn0 [2] [(5,.sl 1 ((pathsT [] t).map ptc))] (Sq fun K8 hK8=>?_))
 refine Rr (Fn0 [2,5] [(6,.i 0)] (Bl (h_l (fun(k:Nat)=>([(2,.ptr 0 0),(5,.sl 1 ((pathsT [] t).map ptc)),(6,.i k)]:Fr)) (fun(k:Nat)=>([(4,tcs t),(0,nsc N)]:Hp)) (fun(k:Nat) cn=>(k<=(pathsT [] t).length/\k<=N.list.length/\(pathsT [] t).take k=(N.list.map (·.path)).take k)/\cn=12) (fun(k:Nat)=>N.list.length-k) 0 kr ?_ ?_ ?_ ?_)))
 refine⟨?_,rfl⟩;exact⟨Nat.zero_le _,Nat.zero_le _,rfl⟩
 exact⟨kr,kr,kr,trivial⟩
 exact(sub_c kr (sub_c kr (List.nil_sublist _)))
 rintro k n1 hI
 (try dsimp only at hI)
 obtain⟨⟨hi1,hi2,hi3⟩,rfl⟩:=hI
 refine Sq fun K10 hK10=>?_
 refine Rm 28 ((decide ((k:Int)<((pathsT [] t).length:Int)))&&(decide ((k:Int)<(N.list.length:Int)))) [2,5,6] ?_ ?_
 refine Av0 3 20 [(19,.sl 1 ((pathsT [] t).map ptc)),(18,.i k)] (lnm (pathsT [] t) ptc) (An1 2 [(22,.bool (decide ((k:Int)<((pathsT [] t).length:Int)))),(21,.bool (decide ((k:Int)<((pathsT [] t).length:Int))))] (Ki/\·) ⟨rfl,Rg (fun hg12 g12=>?_) (fun hg12 g12=>?_)⟩)
 refine Av1 4 26 [(25,.sl 2 (N.list.map ndc)),(24,.ptr 0 1),(23,.i k)] (lnm N.list ndc) (((1:Nat)≠0)/\(1+1<=2/\1<2)/\·) ⟨dc,dc,Mn1 (decide ((k:Int)<(N.list.length:Int))) (Ki/\·) ⟨rfl,(by rw[hg12];rfl)⟩⟩
 refine Mn0 false (by rw[hg12];rfl)
 refine Cc ((decide ((k:Int)<((pathsT [] t).length:Int)))&&(decide ((k:Int)<(N.list.length:Int)))) (fun hc13 c13=>?_) fun hc13 c13=>?_
 refine Sk (Jn (hK10 (Kp [2,5,6] (Sq fun K14 hK14=>?_))))
 refine Bl ?_
 have hgn:=hl _ (getD_mem N.list k default om);have hgl:=wS_len (N.list.getD k default).path;have hqn:=pathsT_wS [] t _ (getD_mem (pathsT [] t) k default om);have hql:=wS_len ((pathsT [] t).getD k default);have hw0:wS []=0:=rfl
 refine Qr [0,0,3,7,0,16,0,112,240,496,1023,2047] [(0,[]),(1,[]),(2,[]),(3,[]),(4,[]),(5,[]),(6,[]),(7,[]),(8,[]),(9,[]),(10,[]),(11,[])] (qAv1 3 33 [(32,.i k),(31,.sl 1 ((pathsT [] t).map ptc))] (congrArg AV.pat (mg_pp (pathsT [] t) k om)) ((1=1/\(0:Int)<=(k:Int)/\(k:Int)<(((pathsT [] t).map ptc).length:Int))/\·) ⟨⟨rfl,om,lmo⟩,qAv1 5 38 [(37,.i k),(36,.sl 2 (N.list.map ndc)),(35,.ptr 0 1),(34,pth ((pathsT [] t).getD k default))] (congrArg AV.pat (mg_nd N.list k om)) ((1<=1/\0<1)/\((1:Nat)≠0)/\(1+1<=2/\1<2)/\(2=2/\(0:Int)<=(k:Int)/\(k:Int)<((N.list.map ndc).length:Int))/\·) ⟨dc,dc,dc,⟨rfl,om,lmo⟩,qBc1 3 [(40,pth ((N.list.getD k default).path)),(39,.pat [pth ((N.list.getD k default).path)])] [] 26 [pth ((pathsT [] t).getD k default),pth ((N.list.getD k default).path)] 41 (((1:Nat)≠0)/\(1<=1/\0<1)/\·) ⟨dc,dc,PE.use (same11_ok ((pathsT [] t).getD k default) ((N.list.getD k default).path) om om) ?_⟩⟩⟩)
 refine Kq (p:=(True)) trivial ?_
 refine qCn0 (!(((pathsT [] t).getD k default)==((N.list.getD k default).path))) [2,5,6] [] ⟨fun hc16 c16=>?_,fun hc16 c16=>?_⟩
 refine Rr (Fn0 [] [(4,.bool false)] (Rt (.bool false) (fin_lea ?_)))
 rw [show ndOk N t=false by
   unfold ndOk
   rw[show(pathsT [] t==N.list.map (·.path))=false by rw[beq_eq_false_iff_ne];intro e;have h:=hc16;rw[e,map_getN _ _ om]at h;simp at h];simp];exact lea_refl _
 refine Sk (Bn (Jn (hK14 (Kp [2,5,6] (Rn (Av1 2 30 [(29,.i k)] (cI (wn1 k om)) (Ki/\·) ⟨rfl,Gn0 [(6,.i ((k+1:Nat):Int))] (nk_n ?_)⟩))))))
 refine Lr (k+1) [(0,0),(4,4)] 12 [(2,.ptr 0 0),(5,.sl 1 ((pathsT [] t).map ptc)),(6,.i ((k+1:Nat):Int))] [(4,tcs t),(0,nsc N)] [true,true] ?_ ?_ kr kr
 (try dsimp only);omega
 refine⟨?_,rfl⟩;(try dsimp only);exact⟨om,om,by rw[take_snoc (pathsT [] t) k default om,take_snoc (N.list.map (·.path)) k default lmo,hi3,map_getN _ _ om];congr 2;have h:=hc16;simpa using h⟩
 refine Xt (Jx (Lx (Bh (Jn (hK8 (Kp [2,5] (Rr (Av0 2 44 [(43,.sl 1 ((pathsT [] t).map ptc))] (lnm (pathsT [] t) ptc) (Av1 3 47 [(46,.sl 2 (N.list.map ndc)),(45,.ptr 0 1)] (lnm N.list ndc) (((1:Nat)≠0)/\(1+1<=2/\1<2)/\·) ⟨dc,dc,Fn1 [] [(4,.bool (decide (((pathsT [] t).length:Int)=(N.list.length:Int))))] (Ki/\·) ⟨rfl,?_⟩⟩)))))))))
 refine Rt (.bool (decide (((pathsT [] t).length:Int)=(N.list.length:Int)))) (fin_lea ?_)
 rw [show ndOk N t=decide (((pathsT [] t).length:Int)=(N.list.length:Int)) by
   unfold ndOk
   rw[c5.1,c5.2,Bool.true_and,Bool.true_and,Bool.eq_iff_iff,beq_iff_eq,decide_eq_true_eq]
   constructor
   · intro e;have h:=congrArg List.length e;rw[List.length_map]at h;omega
   · intro e;rw[<-List.take_length (l:=pathsT [] t),<-List.take_length (l:=N.list.map (·.path)),List.length_map,show(pathsT [] t).length=k by rcases c13 with h|h<;>omega,show N.list.length=k by rcases c13 with h|h<;>omega];exact hi3];exact lea_refl _
theorem sNDo_ok (N:Nds) (t:Tr) (c:Cl) (hl:∀x∈N.list,wS x.path<2^34) (hn:N.list.length<2^18) (hb: -2^50<N.next/\N.next<2^50) (hw:t.W<2^30) (h1:wS c.path<2^32) (h2:wS c.to<2^32) (h3:c.data.length<2^20):PE G 8 [.agg (nsc N),.agg (tcs t),.agg (clc c)] (.tup [.agg (nsc (sNDo N t c).1),.i (sNDo N t c).2]):=by
 have hpl:=wS_len c.path;have htl:=wS_len c.to
 refine Pe Tryz.func8 ?_
 refine Rr (Fn2 [] [(6,.ptr 12 0),(5,.ptr 8 0),(4,.ptr 4 0),(3,.ptr 0 0)] ([(12,[.i 0,.nils]),(8,clc c),(4,tcs t),(0,nsc N)]++·) 16 (Sq fun K2 hK2=>?_))
 refine Rr (Bc1 3 [(14,.agg (tcs t)),(13,.agg (nsc N))] 13 [.agg (nsc N),.agg (tcs t)] 15 ((0+2<=2/\0<2)/\(0+5<=5/\0<5)/\·) ⟨dc,dc,PE.use (sNOk_ok N t (fun x hx=>Nat.lt_trans (hl x hx) dc) om hb om) (Ke (Cn0 (!(ndOk N t)) [3,4,5,6] [] ⟨fun hc4 c4=>?_,fun hc4 c4=>?_⟩))⟩)
 refine Rr (Fn1 [6] [(7,.i 1)] ((true=true/\2=2/\0+2<=2)/\·) ⟨dc,Rt1 ((0+2<=2/\0<2)/\·) (.tup [.agg [.i 0,.nils],.i 1]) ⟨dc,fin_lea ?_⟩⟩)
 have e1:=hc4;have hok:ndOk N t=false:=by have h:=hc4;simpa using h
 unfold sNDo
 rw[if_pos hok];simp[lea,leas]
 refine Sk (Jn (hK2 (Kp [3,4,5,6] (Rr (Bc1 3 [(20,.agg (clc c)),(19,.agg (tcs t))] 23 [.agg (tcs t),.agg (clc c)] 21 ((0+5<=5/\0<5)/\(0+5<=5/\0<5)/\·) ⟨dc,dc,PE.use (sTreeDo_ok t c om om om om) (Ke ?_)⟩)))))
 refine Fn3 [3,5,6] [(9,.i ((sTreeDo t c).2))] ([(16,tcs ((sTreeDo t c).1))]++·) 20 ((0<2)/\(1<2)/\(true=true/\5=5/\0+5<=5)/\·) ⟨dc,dc,dc,Rr (Pc1 2 [(24,.agg (nsc N))] 25 (0+2<=2/\0<2) dc (l33Copy_ok N (fun x hx=>Nat.lt_trans (hl x hx) dc) om hb) (Fn3 [5,6,9] [(10,.ptr 20 0)] ([(20,nsc N)]++·) 24 ((true=true/\2=2/\0+2<=2)/\·) ⟨dc,Sq fun K8 hK8=>?_⟩))⟩
 refine Rr (Cn1 (!decide (((sTreeDo t c).2:Int)=(0:Int))) [5,6,9,10] [] (Ki/\·) ⟨rfl,fun hc10 c10=>?_,fun hc10 c10=>?_⟩)
 refine Rr (Fn3 [6] [(7,.i ((sTreeDo t c).2))] (Hw [(12,nsc N)] [] ·) 24 ((0+2<=2/\0<2)/\(true=true/\2=2/\0+2<=2)/\·) ⟨dc,dc,Rt1 ((0+2<=2/\0<2)/\·) (.tup [.agg (nsc N),.i ((sTreeDo t c).2)]) ⟨dc,fin_lea ?_⟩⟩)
 have e1:=hc4;have hok:ndOk N t=true:=by have h:=hc4;simpa using h
 unfold sNDo
 rw[if_neg (by rw[hok];simp)]
 rw[if_pos (by have h:=hc10;simpa using h)];exact lea_refl _
 refine Sk (Jn (hK8 (Kp [5,6,10] (Sq fun K12 hK12=>?_))))
 refine Bl (Rr (Cn1 (decide ((c.kind:Int)=(5:Int))) [5,6,10] [] (((1:Nat)≠0)/\(0+1<=5/\0<5)/\Ki/\·) ⟨dc,dc,rfl,fun hc14 c14=>?_,fun hc14 c14=>?_⟩))
 refine Rr (Bc1 6 [(38,pth c.to),(37,.ptr 8 2),(36,pth c.path),(35,.ptr 8 1),(34,.agg (nsc N))] 25 [.agg (nsc N),pth c.path,pth c.to] 39 ((0+2<=2/\0<2)/\((1:Nat)≠0)/\(1+1<=5/\1<5)/\((1:Nat)≠0)/\(2+1<=5/\2<5)/\·) ⟨dc,dc,dc,dc,dc,PE.use (l33Moved_ok N c.path c.to (fun x hx=>Nat.lt_trans (hl x hx) dc) om om om) (Ke (Pc0 1 [] 40 (l33Copy_ok ⟨N.next,movN c.path c.to [] N.list⟩ (movN_wS N.list [] (by simp) (fun y hy=>by have:=hl y hy;omega)) (by rw[movN_len];simp only[List.length_nil];omega) hb) ?_))⟩)
 refine Fn3 [6] [(7,.i 0)] (Hw [(12,[.i N.next,.sl 2 ((movN c.path c.to [] N.list).map ndc)])] [] ·) 24 ((true=true/\2=2/\0+2<=2)/\·) ⟨dc,Rt1 ((0+2<=2/\0<2)/\·) (.tup [.agg [.i N.next,.sl 2 ((movN c.path c.to [] N.list).map ndc)],.i 0]) ⟨dc,fin_lea ?_⟩⟩
 have e1:=hc4;have hok:ndOk N t=true:=by have h:=hc4;simpa using h
 unfold sNDo
 rw[if_neg (by rw[hok];simp)]
 have hz:(sTreeDo t c).2=0:=by have h:=hc10;simpa using h
 rw[if_neg om]
 rw[if_pos (by have h:=hc14;simpa using h)];exact lea_refl _
 refine Rr (Cn1 (decide ((c.kind:Int)=(4:Int))) [5,6,10] [] (((1:Nat)≠0)/\(0+1<=5/\0<5)/\Ki/\·) ⟨dc,dc,rfl,fun hc17 c17=>?_,fun hc17 c17=>?_⟩)
 refine Rr (Fn3 [5,6,10] [(11,.ptr 24 0)] ([(24,[.i N.next,.nils])]++·) 28 (((1:Nat)≠0)/\(0+1<=2/\0<2)/\(true=true/\2=2/\0+2<=2)/\·) ⟨dc,dc,dc,Sq fun K19 hK19=>?_⟩)
 refine Rr (Fn0 [5,6,10,11] [(12,.i 0)] (Bl (h_l (fun(z:Nat×Option Unit)=>(match z with|(k,none)=>([(5,.ptr 8 0),(6,.ptr 12 0),(10,.ptr 20 0),(11,.ptr 24 0),(12,.i k)]:Fr)|(k,some ())=>([(5,.ptr 8 0),(6,.ptr 12 0),(10,.ptr 20 0),(11,.ptr 24 0),(12,.i k)]:Fr))) (fun(z:Nat×Option Unit)=>(match z with|(k,none)=>([(24,[.i N.next,.nils]),(20,nsc N),(12,[.i 0,.nils]),(8,clc c)]:Hp)|(k,some ())=>([(28,fl ndc ((N.list.take k).filter (fun x:No=> !(x.path==c.path)))),(24,[.i N.next,.osl 28 2 0 (((N.list.take k).filter (fun x:No=> !(x.path==c.path))).length)]),(20,nsc N),(12,[.i 0,.nils]),(8,clc c)]:Hp))) (fun(z:Nat×Option Unit) cn=>(match z with|(k,none)=>(k<=N.list.length/\(N.list.take k).filter (fun x:No=> !(x.path==c.path))=[])/\cn=28|(k,some ())=>(k<=N.list.length)/\cn=32)) (fun(z:Nat×Option Unit)=>N.list.length-z.1) (0,none) kr ?_ ?_ ?_ ?_)))
 refine⟨?_,rfl⟩;exact⟨Nat.zero_le _,rfl⟩
 exact⟨kr,kr,kr,kr,kr,trivial⟩
 exact(sub_c kr (sub_c kr (List.Sublist.cons _ (sub_c kr (sub_c kr (List.Sublist.cons _ (List.Sublist.cons _ (List.nil_sublist _))))))))
 rintro⟨k,_|⟨⟩⟩ n1 hI
 (try dsimp only at hI)
 obtain⟨⟨hi1,hi2⟩,rfl⟩:=hI
 dsimp only
 refine Sq fun K21 hK21=>?_
 refine Rr (Av1 4 51 [(50,.sl 2 (N.list.map ndc)),(49,.ptr 20 1),(48,.i k)] (lnm N.list ndc) (((1:Nat)≠0)/\(1+1<=2/\1<2)/\·) ⟨dc,dc,Cn1 (decide ((k:Int)<(N.list.length:Int))) [5,6,10,11,12] [] (Ki/\·) ⟨rfl,fun hc23 c23=>?_,fun hc23 c23=>?_⟩⟩)
 refine Sk (Jn (hK21 (Kp [5,6,10,11,12] (Sq fun K24 hK24=>?_))))
 refine Bl ?_
 have hgn:=hl _ (getD_mem N.list k default om);have hgl:=wS_len (N.list.getD k default).path
 refine Qr [0,1,0,7,15,31,0,64,255,511] [(0,[]),(1,[]),(2,[]),(3,[]),(4,[]),(5,[]),(6,[]),(7,[]),(8,[]),(9,[])] (qAv1 4 58 [(57,.i k),(56,.sl 2 (N.list.map ndc)),(55,.ptr 20 1)] (congrArg AV.pat (mg_nd N.list k om)) (((1:Nat)≠0)/\(1+1<=2/\1<2)/\(2=2/\(0:Int)<=(k:Int)/\(k:Int)<((N.list.map ndc).length:Int))/\·) ⟨dc,dc,⟨rfl,om,lmo⟩,qBc1 5 [(62,pth c.path),(61,.ptr 8 1),(60,pth ((N.list.getD k default).path)),(59,.pat [pth ((N.list.getD k default).path)])] [] 26 [pth ((N.list.getD k default).path),pth c.path] 63 (((1:Nat)≠0)/\(1<=1/\0<1)/\((1:Nat)≠0)/\(1+1<=5/\1<5)/\·) ⟨dc,dc,dc,dc,PE.use (same11_ok ((N.list.getD k default).path) c.path om om) (Kq (p:=(True)) trivial ?_)⟩⟩)
 refine qCn0 (!(((N.list.getD k default).path)==c.path)) [5,6,10,11,12] [] ⟨fun hc26 c26=>?_,fun hc26 c26=>?_⟩
 refine Qb [0,1,0,4,0,28,60,124,255,511,1023] [(0,[]),(1,[]),(2,[]),(3,[]),(4,[]),(5,[]),(6,[]),(7,[1]),(8,[]),(9,[]),(10,[])] (fun h=>Bn (Jn (hK24 h))) (qAv1 6 70 [(69,.i k),(68,.sl 2 (N.list.map ndc)),(67,.ptr 20 1),(66,.nils),(65,.ptr 24 1)] (congrArg AV.pat (mg_nd N.list k om)) (((1:Nat)≠0)/\(1+1<=2/\1<2)/\((1:Nat)≠0)/\(1+1<=2/\1<2)/\(2=2/\(0:Int)<=(k:Int)/\(k:Int)<((N.list.map ndc).length:Int))/\·) ⟨dc,dc,dc,dc,⟨rfl,om,lmo⟩,qAn3 3 [(73,.osl 32 2 0 1),(72,.osl 28 2 0 1),(71,.agg (ndc (N.list.getD k default)))] ([(32,ndc (N.list.getD k default)),(28,ndc (N.list.getD k default))]++·) 36 ((2<=2/\0<2)/\(1*2<=16777216)/\(((1+1<=2/\1<2)/\(AV.nils=(.nils:AV)))/\True)/\(0+1*2<=2)/\(0<1/\0<32/\1*32<=140737488355328)/\(True)/\·) ⟨dc,dc,⟨⟨dc,rfl⟩,trivial⟩,dc,dc,trivial,runq_v (v':=.osl 32 2 0 ([(N.list.getD k default)].length)) rfl (runq_h (cs':=fl ndc [(N.list.getD k default)]) (s1_nd (N.list.getD k default)) ?_)⟩⟩)
 refine qFn3 [5,6,10,11,12] [] (Hw [(24,[.i N.next,.osl 32 2 0 ([(N.list.getD k default)].length)])] [] ·) 36 (((1:Nat)≠0)/\(true=true/\1=1/\1+1<=2)/\(True)/\·) ⟨dc,dc,trivial,Rn (Av1 2 54 [(53,.i k)] (cI (wn1 k om)) (Ki/\·) ⟨rfl,Gn0 [(12,.i ((k+1:Nat):Int))] (nk_n ?_)⟩)⟩
 refine Lr (k+1,some ()) [(8,8),(12,12),(20,20),(24,24),(32,28)] 32 [(5,.ptr 8 0),(6,.ptr 12 0),(10,.ptr 20 0),(11,.ptr 24 0),(12,.i ((k+1:Nat):Int))] [(32,fl ndc [(N.list.getD k default)]),(24,[.i N.next,.osl 32 2 0 ([(N.list.getD k default)].length)]),(20,nsc N),(12,[.i 0,.nils]),(8,clc c)] [false,true,true,true,true] ?_ ?_ (by(try ((try dsimp only);rw[filtN_t (p:=(fun x:No=> !(x.path==c.path))) om (by have h:=hc26;simpa using h),hi2,List.nil_append]));try kernel_rfl) (by(try (try dsimp only));try kernel_rfl)
 (try dsimp only);omega
 refine⟨?_,rfl⟩;(try dsimp only);omega
 refine Sk (Bn (Jn (hK24 (Kp [5,6,10,11,12] (Rn (Av1 2 54 [(53,.i k)] (cI (wn1 k om)) (Ki/\·) ⟨rfl,Gn0 [(12,.i ((k+1:Nat):Int))] (nk_n ?_)⟩))))))
 refine Lr (k+1,none) [(8,8),(12,12),(20,20),(24,24)] 28 [(5,.ptr 8 0),(6,.ptr 12 0),(10,.ptr 20 0),(11,.ptr 24 0),(12,.i ((k+1:Nat):Int))] [(24,[.i N.next,.nils]),(20,nsc N),(12,[.i 0,.nils]),(8,clc c)] [true,true,true,true] ?_ ?_ kr kr
 (try dsimp only);omega
 refine⟨?_,rfl⟩;(try dsimp only);exact⟨om,by rw[filtN_f om (by have h:=hc26;simpa using h)];exact hi2⟩
 refine Xt (Jx (Lx (Bh (Jn (hK19 (Kp [6,11] (Rr (Fn3 [6] [(7,.i 0)] (Hw [(12,[.i N.next,.nils])] [] ·) 28 ((0+2<=2/\0<2)/\(true=true/\2=2/\0+2<=2)/\·) ⟨dc,dc,Rt1 ((0+2<=2/\0<2)/\·) (.tup [.agg [.i N.next,.nils],.i 0]) ⟨dc,fin_lea ?_⟩⟩))))))))
 have e1:=hc4;have hok:ndOk N t=true:=by have h:=hc4;simpa using h
 unfold sNDo
 rw[if_neg (by rw[hok];simp)]
 have hz:(sTreeDo t c).2=0:=by have h:=hc10;simpa using h
 rw[if_neg om]
 rw[if_neg (by have h:=hc14;simpa using h)]
 rw[if_pos (by have h:=hc17;simpa using h)]
 obtain rfl:k=N.list.length:=by omega
 rw[List.take_length]at*
 first|exact lea_refl _|(simp only[nsc,hi2];simp[lea,leas])
 (try dsimp only at hI)
 obtain⟨hi1,rfl⟩:=hI
 dsimp only
 have hfl:=List.length_filter_le (fun x:No=> !(x.path==c.path)) (N.list.take k);have htk:(N.list.take k).length<=N.list.length:=by rw[List.length_take];omega
 refine Sq fun K28 hK28=>?_
 refine Rr (Av1 4 51 [(50,.sl 2 (N.list.map ndc)),(49,.ptr 20 1),(48,.i k)] (lnm N.list ndc) (((1:Nat)≠0)/\(1+1<=2/\1<2)/\·) ⟨dc,dc,Cn1 (decide ((k:Int)<(N.list.length:Int))) [5,6,10,11,12] [] (Ki/\·) ⟨rfl,fun hc30 c30=>?_,fun hc30 c30=>?_⟩⟩)
 refine Sk (Jn (hK28 (Kp [5,6,10,11,12] (Sq fun K31 hK31=>?_))))
 refine Bl ?_
 have hgn:=hl _ (getD_mem N.list k default om);have hgl:=wS_len (N.list.getD k default).path
 refine Qr [0,1,0,7,15,31,0,64,255,511] [(0,[]),(1,[]),(2,[]),(3,[]),(4,[]),(5,[]),(6,[]),(7,[]),(8,[]),(9,[])] (qAv1 4 58 [(57,.i k),(56,.sl 2 (N.list.map ndc)),(55,.ptr 20 1)] (congrArg AV.pat (mg_nd N.list k om)) (((1:Nat)≠0)/\(1+1<=2/\1<2)/\(2=2/\(0:Int)<=(k:Int)/\(k:Int)<((N.list.map ndc).length:Int))/\·) ⟨dc,dc,⟨rfl,om,lmo⟩,qBc1 5 [(62,pth c.path),(61,.ptr 8 1),(60,pth ((N.list.getD k default).path)),(59,.pat [pth ((N.list.getD k default).path)])] [] 26 [pth ((N.list.getD k default).path),pth c.path] 63 (((1:Nat)≠0)/\(1<=1/\0<1)/\((1:Nat)≠0)/\(1+1<=5/\1<5)/\·) ⟨dc,dc,dc,dc,PE.use (same11_ok ((N.list.getD k default).path) c.path om om) (Kq (p:=(True)) trivial ?_)⟩⟩)
 refine qCn0 (!(((N.list.getD k default).path)==c.path)) [5,6,10,11,12] [] ⟨fun hc33 c33=>?_,fun hc33 c33=>?_⟩
 refine Qb [0,1,0,4,0,28,60,124,255,511,1023] [(0,[]),(1,[]),(2,[]),(3,[]),(4,[]),(5,[]),(6,[]),(7,[1]),(8,[]),(9,[]),(10,[])] (fun h=>Bn (Jn (hK31 h))) (qAv1 6 70 [(69,.i k),(68,.sl 2 (N.list.map ndc)),(67,.ptr 20 1),(66,.osl 28 2 0 (((N.list.take k).filter (fun x:No=> !(x.path==c.path))).length)),(65,.ptr 24 1)] (congrArg AV.pat (mg_nd N.list k om)) (((1:Nat)≠0)/\(1+1<=2/\1<2)/\((1:Nat)≠0)/\(1+1<=2/\1<2)/\(2=2/\(0:Int)<=(k:Int)/\(k:Int)<((N.list.map ndc).length:Int))/\·) ⟨dc,dc,dc,dc,⟨rfl,om,lmo⟩,qAn3 3 [(73,.osl 36 2 0 (((N.list.take k).filter (fun x:No=> !(x.path==c.path))).length+1)),(72,.osl 32 2 0 1),(71,.agg (ndc (N.list.getD k default)))] ([(36,apd (fl ndc ((N.list.take k).filter (fun x:No=> !(x.path==c.path)))) (((N.list.take k).filter (fun x:No=> !(x.path==c.path))).length*2) (ndc (N.list.getD k default))),(32,ndc (N.list.getD k default))]++Hw [] [28] ·) 40 (fun Z=>(2<=2/\0<2)/\(1*2<=16777216)/\(((1+1<=2/\1<2)/\(AV.osl 28 2 0 (((N.list.take k).filter (fun x:No=> !(x.path==c.path))).length)=(.osl 28 2 0 (((N.list.take k).filter (fun x:No=> !(x.path==c.path))).length):AV)))/\True)/\(0+1*2<=2)/\(2=2/\((N.list.take k).filter (fun x:No=> !(x.path==c.path))).length*2<=(fl ndc ((N.list.take k).filter (fun x:No=> !(x.path==c.path)))).length/\0<32/\(((N.list.take k).filter (fun x:No=> !(x.path==c.path))).length+1)*32<=140737488355328)/\(True)/\Z) ⟨dc,dc,⟨⟨dc,rfl⟩,trivial⟩,dc,⟨rfl,by(first|omega|(simp only[LL,flNl];omega)),dc,by(first|omega|(simp only[LL,flNl];omega))⟩,trivial,runq_v (v':=.osl 36 2 0 (((N.list.take k).filter (fun x:No=> !(x.path==c.path))++[(N.list.getD k default)]).length)) (push_len _ _ _ _) (runq_h (cs':=fl ndc ((N.list.take k).filter (fun x:No=> !(x.path==c.path))++[(N.list.getD k default)])) (push_nd ((N.list.take k).filter (fun x:No=> !(x.path==c.path))) (N.list.getD k default)) ?_)⟩⟩)
 refine qFn3 [5,6,10,11,12] [] (Hw [(24,[.i N.next,.osl 36 2 0 (((N.list.take k).filter (fun x:No=> !(x.path==c.path))++[(N.list.getD k default)]).length)])] [] ·) 40 (((1:Nat)≠0)/\(true=true/\1=1/\1+1<=2)/\(True)/\·) ⟨dc,dc,trivial,Rn (Av1 2 54 [(53,.i k)] (cI (wn1 k om)) (Ki/\·) ⟨rfl,Gn0 [(12,.i ((k+1:Nat):Int))] (nk_n ?_)⟩)⟩
 refine Lr (k+1,some ()) [(8,8),(12,12),(20,20),(24,24),(36,28)] 32 [(5,.ptr 8 0),(6,.ptr 12 0),(10,.ptr 20 0),(11,.ptr 24 0),(12,.i ((k+1:Nat):Int))] [(36,fl ndc ((N.list.take k).filter (fun x:No=> !(x.path==c.path))++[(N.list.getD k default)])),(24,[.i N.next,.osl 36 2 0 (((N.list.take k).filter (fun x:No=> !(x.path==c.path))++[(N.list.getD k default)]).length)]),(20,nsc N),(12,[.i 0,.nils]),(8,clc c)] [false,true,true,true,true] ?_ ?_ (by(try ((try dsimp only);rw[filtN_t (p:=(fun x:No=> !(x.path==c.path))) om (by have h:=hc33;simpa using h),List.length_append]));try kernel_rfl) (by(try (try dsimp only));try kernel_rfl)
 (try dsimp only);omega
 refine⟨?_,rfl⟩;(try dsimp only);omega
 refine Sk (Bn (Jn (hK31 (Kp [5,6,10,11,12] (Rn (Av1 2 54 [(53,.i k)] (cI (wn1 k om)) (Ki/\·) ⟨rfl,Gn0 [(12,.i ((k+1:Nat):Int))] (nk_n ?_)⟩))))))
 refine Lr (k+1,some ()) [(8,8),(12,12),(20,20),(24,24),(28,28)] 32 [(5,.ptr 8 0),(6,.ptr 12 0),(10,.ptr 20 0),(11,.ptr 24 0),(12,.i ((k+1:Nat):Int))] [(28,fl ndc ((N.list.take k).filter (fun x:No=> !(x.path==c.path)))),(24,[.i N.next,.osl 28 2 0 (((N.list.take k).filter (fun x:No=> !(x.path==c.path))).length)]),(20,nsc N),(12,[.i 0,.nils]),(8,clc c)] [false,true,true,true,true] ?_ ?_ (by(try ((try dsimp only);rw[filtN_f (p:=(fun x:No=> !(x.path==c.path))) om (by have h:=hc33;simpa using h)]));try kernel_rfl) (by(try (try dsimp only));try kernel_rfl)
 (try dsimp only);omega
 refine⟨?_,rfl⟩;(try dsimp only);omega
 refine Xt (Jx (Lx (Bh (Jn (hK19 (Kp [6,11] (Rr (Fn3 [6] [(7,.i 0)] (Hw [(12,[.i N.next,.osl 28 2 0 (((N.list.take k).filter (fun x:No=> !(x.path==c.path))).length)])] [] ·) 32 ((0+2<=2/\0<2)/\(true=true/\2=2/\0+2<=2)/\·) ⟨dc,dc,Fz 28 2 (((N.list.take k).filter (fun x:No=> !(x.path==c.path))).length) (((N.list.take k).filter (fun x:No=> !(x.path==c.path))).map ndc) (fl ndc ((N.list.take k).filter (fun x:No=> !(x.path==c.path)))) [(6,.ptr 12 0),(7,.i 0)] [(12,[.i N.next,.osl 28 2 0 (((N.list.take k).filter (fun x:No=> !(x.path==c.path))).length)])] [true] (chkN _) (flN_le _) (Rt1 ((0+2<=2/\0<2)/\·) (.tup [.agg [.i N.next,.sl 2 (((N.list.take k).filter (fun x:No=> !(x.path==c.path))).map ndc)],.i 0]) ⟨dc,?_⟩)⟩))))))))
 refine fin_lea ?_
 have e1:=hc4;have hok:ndOk N t=true:=by have h:=hc4;simpa using h
 unfold sNDo
 rw[if_neg (by rw[hok];simp)]
 have hz:(sTreeDo t c).2=0:=by have h:=hc10;simpa using h
 rw[if_neg om]
 rw[if_neg (by have h:=hc14;simpa using h)]
 rw[if_pos (by have h:=hc17;simpa using h)]
 obtain rfl:k=N.list.length:=by omega
 rw[List.take_length]at*
 first|exact lea_refl _|(simp only[nsc,hi2];simp[lea,leas])
 refine Rr (Bc1 4 [(79,pth c.path),(78,.ptr 8 1),(77,.agg (nsc N))] 27 [.agg (nsc N),pth c.path] 80 ((0+2<=2/\0<2)/\((1:Nat)≠0)/\(1+1<=5/\1<5)/\·) ⟨dc,dc,dc,PE.use (l33Id_ok N c.path (fun x hx=>Nat.lt_trans (hl x hx) dc) om hb om) (Ke (Cn1 (decide ((0:Int)<(idN c.path N.list:Int))) [5,6,10] [] (Ki/\·) ⟨rfl,fun hc36 c36=>?_,fun hc36 c36=>?_⟩))⟩)
 refine Rr (Fn3 [6] [(7,.i 0)] (Hw [(12,nsc N)] [] ·) 24 ((0+2<=2/\0<2)/\(true=true/\2=2/\0+2<=2)/\·) ⟨dc,dc,Rt1 ((0+2<=2/\0<2)/\·) (.tup [.agg (nsc N),.i 0]) ⟨dc,fin_lea ?_⟩⟩)
 have e1:=hc4;have hok:ndOk N t=true:=by have h:=hc4;simpa using h
 unfold sNDo
 rw[if_neg (by rw[hok];simp)]
 have hz:(sTreeDo t c).2=0:=by have h:=hc10;simpa using h
 rw[if_neg om]
 rw[if_neg (by have h:=hc14;simpa using h)]
 rw[if_neg (by have h:=hc17;simpa using h)]
 rw[if_pos (by have h:=hc36;simpa using h)];exact lea_refl _
 refine Rr (Cn1 (decide ((9999:Int)<(N.next:Int))) [5,6,10] [] (((1:Nat)≠0)/\(0+1<=2/\0<2)/\Ki/\·) ⟨dc,dc,rfl,fun hc39 c39=>?_,fun hc39 c39=>?_⟩)
 refine Rr (Fn3 [6] [(7,.i 6)] (Hw [(12,nsc N)] [] ·) 24 ((0+2<=2/\0<2)/\(true=true/\2=2/\0+2<=2)/\·) ⟨dc,dc,Rt1 ((0+2<=2/\0<2)/\·) (.tup [.agg (nsc N),.i 6]) ⟨dc,fin_lea ?_⟩⟩)
 have e1:=hc4;have hok:ndOk N t=true:=by have h:=hc4;simpa using h
 unfold sNDo
 rw[if_neg (by rw[hok];simp)]
 have hz:(sTreeDo t c).2=0:=by have h:=hc10;simpa using h
 rw[if_neg om]
 rw[if_neg (by have h:=hc14;simpa using h)]
 rw[if_neg (by have h:=hc17;simpa using h)]
 rw[if_neg (by have h:=hc36;simpa using h)]
 rw[if_pos (by have h:=hc39;simpa using h)];exact lea_refl _
 refine Sk (Bn (Jn (hK12 (Kp [5,6,10] (Qr [0,1,0,4,0,0,32,112,252,511,1023,2047] [(0,[]),(1,[]),(2,[]),(3,[]),(5,[]),(6,[]),(4,[1,3,6]),(7,[1,3]),(8,[]),(9,[]),(10,[]),(11,[])] (qAn3 8 [(95,.osl 28 1 0 (0+(c.path.map (fun s=>[AV.str s])).length)),(92,.osl 24 1 0 0),(94,pth c.path),(93,.ptr 8 1),(91,.i N.next),(90,.ptr 20 0),(89,.sl 2 (N.list.map ndc)),(88,.ptr 20 1)] ([(28,apd [] (0*1) ((c.path.map (fun s=>[AV.str s])).flatten))]++·) 32 (((1:Nat)≠0)/\(1+1<=2/\1<2)/\((1:Nat)≠0)/\(0+1<=2/\0<2)/\((1:Nat)≠0)/\(1+1<=5/\1<5)/\(0*1<=16777216)/\(((1+1<=2/\1<2)/\(AV.sl 2 (N.list.map ndc)=(.sl 2 (N.list.map ndc):AV)))/\((0+1<=2/\0<2)/\(AV.int .i64 N.next=(.i N.next:AV)))/\((1+1<=5/\1<5)/\(pth c.path=pth c.path))/\True)/\True/\(1=1/\0*1<=0/\0<16/\(0+(c.path.map (fun s=>[AV.str s])).length)*16<=140737488355328)/\(((1+1<=2/\1<2)/\(AV.sl 2 (N.list.map ndc)=(.sl 2 (N.list.map ndc):AV)))/\((0+1<=2/\0<2)/\(AV.int .i64 N.next=(.i N.next:AV)))/\True)/\·) ⟨dc,dc,dc,dc,dc,dc,dc,⟨⟨dc,rfl⟩,⟨dc,rfl⟩,⟨dc,rfl⟩,trivial⟩,trivial,⟨rfl,gl,dc,gl⟩,⟨⟨dc,rfl⟩,⟨dc,rfl⟩,trivial⟩,runq_v (v':=.osl 28 1 0 c.path.length) (by rw[Nat.zero_add,List.length_map]) (runq_h (cs':=fl sc c.path) (app0_str _) ?_)⟩))))))
 refine qBc0 2 [(96,.agg [.i N.next,.osl 28 1 0 c.path.length])] [] 28 [.sl 2 (N.list.map ndc),.agg [.i N.next,.osl 28 1 0 c.path.length]] 97 ?_
 refine Tz 28 1 c.path.length (c.path.map (fun s=>[AV.str s])) (fl sc c.path) [.sl 2 (N.list.map ndc),.agg [.i N.next,pth c.path]] [(20,nsc N),(16,tcs ((sTreeDo t c).1)),(12,[.i 0,.nils]),(8,clc c),(4,tcs t),(0,nsc N)] [true,true,true,true,true,true] (chkS _) (flS_le _) ?_
 refine PE.use (l33Put_ok N.list (No.mk N.next c.path) (fun x hx=>Nat.lt_trans (hl x hx) dc) om (by(try dsimp only);omega)) ?_
 refine Kq (p:=(True)) trivial ?_
 refine qFn3 [6,10] [] (Hw [(20,[.i N.next,.sl 2 ((insN (No.mk N.next c.path) N.list).map ndc)])] [] ·) 32 (((1:Nat)≠0)/\(true=true/\1=1/\1+1<=2)/\(True)/\·) ⟨dc,dc,trivial,Rr (Av1 (r:=.i (IntKind.i64.wrap (N.next+1))) (v:=.i (N.next+1)) 3 101 [(100,.i N.next),(99,.ptr 20 0)] (cI (wrap64 om om)) (((1:Nat)≠0)/\(0+1<=2/\0<2)/\Ki/\·) ⟨dc,dc,rfl,Fn3 [6,10] [] (Hw [(20,[.i (N.next+1),.sl 2 ((insN (No.mk N.next c.path) N.list).map ndc)])] [] ·) 32 (((1:Nat)≠0)/\(true=true/\1=1/\0+1<=2)/\·) ⟨dc,dc,Rr ?_⟩⟩)⟩
 refine Fn3 [6] [(7,.i 0)] (Hw [(12,[.i (N.next+1),.sl 2 ((insN (No.mk N.next c.path) N.list).map ndc)])] [] ·) 32 ((0+2<=2/\0<2)/\(true=true/\2=2/\0+2<=2)/\·) ⟨dc,dc,Rt1 ((0+2<=2/\0<2)/\·) (.tup [.agg [.i (N.next+1),.sl 2 ((insN (No.mk N.next c.path) N.list).map ndc)],.i 0]) ⟨dc,fin_lea ?_⟩⟩
 have e1:=hc4;have hok:ndOk N t=true:=by have h:=hc4;simpa using h
 unfold sNDo
 rw[if_neg (by rw[hok];simp)]
 have hz:(sTreeDo t c).2=0:=by have h:=hc10;simpa using h
 rw[if_neg om]
 rw[if_neg (by have h:=hc14;simpa using h)]
 rw[if_neg (by have h:=hc17;simpa using h)]
 rw[if_neg (by have h:=hc36;simpa using h)]
 rw[if_neg (by have h:=hc39;simpa using h)];exact lea_refl _
open Go Go.Proofs
set_option maxRecDepth 100000
theorem getD_take {α:Type} [Inhabited α] {l:List α} {j k:Nat} (h:j<k):(l.take k).getD j default=l.getD j default:=by simp[List.getD,List.getElem?_take_of_lt h]
def pathN (i:Int):List No->List Str×Bool
  |[]=>([],false)
  |x::xs=>if x.id==i then(x.path,true)else pathN i xs
def nPath (N:Nds) (i:Int):List Str×Bool:=if nsOk N=true then pathN i N.list else([],false)
def nId (N:Nds) (p:List Str):Int:=if nsOk N=true then idN p N.list else 0
def stpX (A B:Nds) (k:Nat):Bool:=decide ((A.list.getD k default).id=(B.list.getD k default).id)&&(A.list.getD k default).path==(B.list.getD k default).path
def wxN (A B:Nds):Bool:=decide (A.next=B.next)&&(decide (A.list.length=B.list.length)&&(List.range A.list.length).all (stpX A B))
theorem wxN_self (A:Nds):wxN A A=true:=by unfold wxN stpX;simp
theorem nWell_ok (N:Nds) (hl:∀x∈N.list,wS x.path<2^40) (hn:N.list.length<2^20) (hb: -2^50<N.next/\N.next<2^50):PE G 18 [.agg (nsc N)] (.bool (nsOk N)):=by
 refine Pe Tryz.func18 ?_
 refine Rr (Fn2 [] [(1,.ptr 0 0)] ([(0,nsc N)]++·) 4 (Sq fun K2 hK2=>?_))
 refine Rr (Av1 3 9 [(8,.sl 2 (N.list.map ndc)),(7,.ptr 0 1)] (lnm N.list ndc) (((1:Nat)≠0)/\(1+1<=2/\1<2)/\·) ⟨dc,dc,Fn0 [1,8,9] [(10,.i 0)] (Bl (h_l (fun(k:Nat)=>([(1,.ptr 0 0),(8,.sl 2 (N.list.map ndc)),(9,.i N.list.length),(10,.i k)]:Fr)) (fun(k:Nat)=>([(0,nsc N)]:Hp)) (fun(k:Nat) cn=>(k<=N.list.length/\(List.range k).all (stepN N)=true)/\cn=4) (fun(k:Nat)=>N.list.length-k) 0 kr ?_ ?_ ?_ ?_))⟩)
 refine⟨?_,rfl⟩;exact⟨Nat.zero_le _,rfl⟩
 exact⟨kr,kr,kr,kr,trivial⟩
 exact(sub_c kr (List.nil_sublist _))
 rintro k n1 hI
 (try dsimp only at hI)
 obtain⟨⟨hi1,hi2⟩,rfl⟩:=hI
 refine Rr (Fn1 [1,8,9,10] [(11,.bool (decide ((k:Int)<(N.list.length:Int))))] (Ki/\·) ⟨rfl,Sq fun K5 hK5=>?_⟩)
 refine Cc (decide ((k:Int)<(N.list.length:Int))) (fun hc6 c6=>?_) fun hc6 c6=>?_
 refine Sk (Jn (hK5 (Kp [1,8,9,10] (Sq fun K7 hK7=>?_))))
 refine Bl (Rr (Av1 2 13 [(12,.i k)] (congrArg AV.pat (mg_nd N.list k om)) ((2=2/\(0:Int)<=(k:Int)/\(k:Int)<((N.list.map ndc).length:Int))/\·) ⟨⟨rfl,om,lmo⟩,Fn3 [1,8,9,10] [(3,.i k),(4,.ptr 4 0)] ([(4,ndc (N.list.getD k default))]++·) 8 ((2<=2/\0<2)/\(true=true/\2=2/\0+2<=2)/\·) ⟨dc,dc,Sq fun K9 hK9=>?_⟩⟩))
 have hgn:=hl _ (getD_mem N.list k default om);have hgl:=wS_len (N.list.getD k default).path;have hgm2:=hl _ (getD_mem N.list ((k:Int)-1).toNat default om);have hgl2:=wS_len (N.list.getD ((k:Int)-1).toNat default).path
 refine Qm [0,1,3,7,15,31,63,127,255,511,255,1279,4095,8191,16383,255,33023,131071,262143,524287,1048575,2097151,4194303,8388607,4194303,20971519,54525951,134217727,268435455,536870911] [(0,[]),(1,[]),(2,[]),(3,[]),(4,[]),(5,[]),(6,[]),(7,[]),(8,[]),(9,[]),(10,[]),(11,[]),(12,[]),(13,[]),(14,[]),(15,[]),(16,[]),(17,[]),(18,[]),(19,[]),(20,[]),(21,[]),(22,[]),(23,[]),(24,[]),(25,[]),(26,[]),(27,[]),(28,[]),(29,[])] 44 (!stpA N k) [1,3,4,8,9,10] ?_ ?_
 refine qBc1 3 [(16,pth ((N.list.getD k default).path)),(15,.ptr 4 1)] [] 47 [pth ((N.list.getD k default).path),.i 1] 17 (((1:Nat)≠0)/\(1+1<=2/\1<2)/\·) ⟨dc,dc,?_⟩
 refine PE.use (namesOk_ok ((N.list.getD k default).path) 1 om (fun s hs=>Nat.lt_trans (wS_mem hs) om)) ?_
 refine Kq (p:=(True)) trivial ?_
 refine qAn0 2 [(19,.bool (!(pthOk ((N.list.getD k default).path) 1))),(18,.bool (!(pthOk ((N.list.getD k default).path) 1)))] (Qg (fun hg11 g11=>?_) (fun hg11 g11=>?_))
 refine qMn0 true (by unfold stpA;first|(simp_all;done)|(rw[Bool.eq_iff_iff];simp_all;done)|(rw[Bool.eq_iff_iff];simp_all;omega)|(simp_all;omega))
 refine qAn1 3 [(22,.bool (decide ((0:Int)<((k:Int):Int)))),(21,.bool (decide ((0:Int)<((k:Int):Int)))),(20,.i k)] (Ki/\·) ⟨rfl,Qg (fun hg12 g12=>?_) (fun hg12 g12=>?_)⟩
 refine qAv1 (r:=.i (IntKind.i64.wrap ((k:Int)-1))) (v:=.i ((k:Int)-1)) 4 26 [(25,.i k),(24,.sl 2 (N.list.map ndc)),(23,.ptr 0 1)] (cI (wrap64 om om)) (((1:Nat)≠0)/\(1+1<=2/\1<2)/\Ki/\·) ⟨dc,dc,rfl,qAv1 1 27 [] (congrArg AV.pat (mg_nd N.list (((k:Int)-1).toNat) om)) ((2=2/\(0:Int)<=((k:Int)-1)/\((k:Int)-1)<((N.list.map ndc).length:Int))/\·) ⟨⟨rfl,om,lmo⟩,qBc1 5 [(31,pth ((N.list.getD k default).path)),(30,.ptr 4 1),(29,pth ((N.list.getD (((k:Int)-1).toNat) default).path)),(28,.pat [pth ((N.list.getD (((k:Int)-1).toNat) default).path)])] [] 48 [pth ((N.list.getD (((k:Int)-1).toNat) default).path),pth ((N.list.getD k default).path)] 32 (((1:Nat)≠0)/\(1<=1/\0<1)/\((1:Nat)≠0)/\(1+1<=2/\1<2)/\·) ⟨dc,dc,dc,dc,PE.use (cmpP_ok ((N.list.getD (((k:Int)-1).toNat) default).path) ((N.list.getD k default).path) om om) (Kq (p:=(True)) trivial ?_)⟩⟩⟩
 refine qAn1 4 [(36,.bool (decide ((0:Int)<=(cmpP ((N.list.getD (((k:Int)-1).toNat) default).path) ((N.list.getD k default).path):Int)))),(35,.bool (decide ((0:Int)<=(cmpP ((N.list.getD (((k:Int)-1).toNat) default).path) ((N.list.getD k default).path):Int)))),(34,.bool (decide ((0:Int)<=(cmpP ((N.list.getD (((k:Int)-1).toNat) default).path) ((N.list.getD k default).path):Int)))),(33,.bool (decide ((0:Int)<=(cmpP ((N.list.getD (((k:Int)-1).toNat) default).path) ((N.list.getD k default).path):Int))))] (Ki/\·) ⟨rfl,Qg (fun hg13 g13=>?_) (fun hg13 g13=>?_)⟩
 refine qMn0 true (by unfold stpA;first|(simp_all;done)|(rw[Bool.eq_iff_iff];simp_all;done)|(rw[Bool.eq_iff_iff];simp_all;omega)|(simp_all;omega))
 refine qAv1 (r:=.i (IntKind.i64.wrap (N.next-1))) (v:=.i (N.next-1)) 5 41 [(40,.i N.next),(39,.ptr 0 0),(38,.i ((N.list.getD k default).id)),(37,.ptr 4 0)] (cI (wrap64 om om)) (((1:Nat)≠0)/\(0+1<=2/\0<2)/\((1:Nat)≠0)/\(0+1<=2/\0<2)/\Ki/\·) ⟨dc,dc,dc,dc,rfl,qBc0 1 [] [] 49 [.i ((N.list.getD k default).id),.i 1,.i (N.next-1)] 42 (PE.use (within_ok ((N.list.getD k default).id) 1 (N.next-1)) (Kq (p:=(True)) trivial (qMn0 (!(inb ((N.list.getD k default).id) 1 (N.next-1))) (by unfold stpA;first|(simp_all;done)|(rw[Bool.eq_iff_iff];simp_all;done)|(rw[Bool.eq_iff_iff];simp_all;omega)|(simp_all;omega)))))⟩
 refine qAv1 (r:=.i (IntKind.i64.wrap (N.next-1))) (v:=.i (N.next-1)) 19 41 [(40,.i N.next),(39,.ptr 0 0),(38,.i ((N.list.getD k default).id)),(37,.ptr 4 0),(36,.bool false),(35,.bool false),(34,.bool false),(33,.tup []),(32,.tup []),(31,.tup []),(30,.tup []),(29,.tup []),(28,.tup []),(27,.tup []),(26,.tup []),(25,.tup []),(24,.tup []),(23,.tup [])] (cI (wrap64 om om)) (((1:Nat)≠0)/\(0+1<=2/\0<2)/\((1:Nat)≠0)/\(0+1<=2/\0<2)/\Ki/\·) ⟨dc,dc,dc,dc,rfl,qBc0 1 [] [] 49 [.i ((N.list.getD k default).id),.i 1,.i (N.next-1)] 42 (PE.use (within_ok ((N.list.getD k default).id) 1 (N.next-1)) (Kq (p:=(True)) trivial (qMn0 (!(inb ((N.list.getD k default).id) 1 (N.next-1))) (by unfold stpA;first|(simp_all;done)|(rw[Bool.eq_iff_iff];simp_all;done)|(rw[Bool.eq_iff_iff];simp_all;omega)|(simp_all;omega)))))⟩
 refine Cc (!stpA N k) (fun hc14 c14=>?_) fun hc14 c14=>?_
 refine Rr (Fn0 [] [(2,.bool false)] (Rt (.bool false) (fin_lea ?_)))
 rw[show nsOk N=false by unfold nsOk;rw[show(List.range N.list.length).all (stepN N)=false from List.all_eq_false.2 ⟨k,List.mem_range.2 om,by rw[show stepN N k=false by rw[stepN_eq,show stpA N k=false by have h:=hc14;simpa using h];rfl];simp⟩];simp];exact lea_refl _
 refine Sk (Jn (hK9 (Kp [1,3,4,8,9,10] ?_)))
 have htk:(N.list.take k).length=k:=by rw[List.length_take];omega
 refine Rr (Av1 (r:=.sl 2 (((N.list.map ndc).take k).drop 0)) (v:=.sl 2 ((N.list.take k).map ndc)) 4 48 [(47,.i k),(46,.sl 2 (N.list.map ndc)),(45,.ptr 0 1)] (congrArg (AV.sl 2) (slm_0 _ _ _)) (((1:Nat)≠0)/\(1+1<=2/\1<2)/\(2=2/\0<=(0:Int)/\(0:Int)<=(k:Int)/\(k:Int)<=((N.list.map ndc).length:Int))/\·) ⟨dc,dc,⟨rfl,om,by(try rw[List.length_map]);omega,lmo⟩,Av0 1 49 [] (lnm (N.list.take k) ndc) (Fn0 [1,4,8,9,10,48,49] [(50,.i 0)] (Bl ?_))⟩)
 refine h_l (fun(j:Nat)=>([(1,.ptr 0 0),(4,.ptr 4 0),(8,.sl 2 (N.list.map ndc)),(9,.i N.list.length),(10,.i k),(48,.sl 2 ((N.list.take k).map ndc)),(49,.i ((N.list.take k).length:Int)),(50,.i j)]:Fr)) (fun(j:Nat)=>([(4,ndc (N.list.getD k default)),(0,nsc N)]:Hp)) (fun(j:Nat) cn=>(j<=k/\((N.list.take j).any fun x=>x.id==(N.list.getD k default).id)=false)/\cn=8) (fun(j:Nat)=>k-j) 0 kr ?_ ?_ ?_ ?_
 refine⟨?_,rfl⟩;exact⟨Nat.zero_le _,rfl⟩
 exact⟨kr,kr,kr,kr,kr,kr,kr,kr,trivial⟩
 exact(sub_c kr (sub_c kr (List.nil_sublist _)))
 rintro j n1 hI
 (try dsimp only at hI)
 obtain⟨⟨hj1,hj2⟩,rfl⟩:=hI
 refine Rr (Fn1 [1,4,8,9,10,48,49,50] [(51,.bool (decide ((j:Int)<((N.list.take k).length:Int))))] (Ki/\·) ⟨rfl,Sq fun K18 hK18=>?_⟩)
 refine Cc (decide ((j:Int)<((N.list.take k).length:Int))) (fun hc19 c19=>?_) fun hc19 c19=>?_
 refine Sk (Jn (hK18 (Kp [1,4,8,9,10,48,49,50] (Sq fun K20 hK20=>?_))))
 refine Bl (Rr (Av1 1 52 [] (congrArg AV.pat (mg_nd (N.list.take k) j om)) ((2=2/\(0:Int)<=(j:Int)/\(j:Int)<(((N.list.take k).map ndc).length:Int))/\·) ⟨⟨rfl,om,lmo⟩,Fn3 [1,4,8,9,10,48,49,50] [(6,.ptr 8 0)] ([(8,ndc ((N.list.take k).getD j default))]++·) 12 ((2<=2/\0<2)/\(true=true/\2=2/\0+2<=2)/\·) ⟨dc,dc,?_⟩⟩))
 have hgj:=hl _ (getD_mem N.list j default om)
 refine Rr (Cn1 (decide ((((N.list.take k).getD j default).id:Int)=((N.list.getD k default).id:Int))) [1,4,8,9,10,48,49,50] [] (((1:Nat)≠0)/\(0+1<=2/\0<2)/\((1:Nat)≠0)/\(0+1<=2/\0<2)/\Ki/\·) ⟨dc,dc,dc,dc,rfl,fun hc23 c23=>?_,fun hc23 c23=>?_⟩)
 refine Rr (Fn0 [] [(2,.bool false)] (Rt (.bool false) (fin_lea ?_)))
 rw[show nsOk N=false by unfold nsOk;rw[show(List.range N.list.length).all (stepN N)=false from List.all_eq_false.2 ⟨k,List.mem_range.2 om,by rw[show stepN N k=false by rw[stepN_eq,any_at (j:=j) om om (by have h:=hc23;rw[getD_take om]at h;simpa using h)];simp];simp⟩];simp];exact lea_refl _
 refine Sk (Bn (Jn (hK20 (Kp [1,4,8,9,10,48,49,50] (Rn (Av1 1 59 [] (cI (wn1 j om)) (Ki/\·) ⟨rfl,Gn0 [(50,.i ((j+1:Nat):Int))] (nk_n ?_)⟩))))))
 refine Lr (j+1) [(0,0),(4,4)] 8 [(1,.ptr 0 0),(4,.ptr 4 0),(8,.sl 2 (N.list.map ndc)),(9,.i N.list.length),(10,.i k),(48,.sl 2 ((N.list.take k).map ndc)),(49,.i ((N.list.take k).length:Int)),(50,.i ((j+1:Nat):Int))] [(4,ndc (N.list.getD k default)),(0,nsc N)] [true,true] ?_ ?_ kr kr
 (try dsimp only);omega
 refine⟨?_,rfl⟩;(try dsimp only);exact⟨om,any_snoc om hj2 (by have h:=hc23;rw[getD_take om]at h;simpa using h)⟩
 refine Xt (Jx (Lx (Bh (Bn (Jn (hK7 (Kp [1,8,9,10] (Rn (Av1 1 60 [] (cI (wn1 k om)) (Ki/\·) ⟨rfl,Gn0 [(10,.i ((k+1:Nat):Int))] (nk_n ?_)⟩)))))))))
 refine Lr (k+1) [(0,0)] 4 [(1,.ptr 0 0),(8,.sl 2 (N.list.map ndc)),(9,.i N.list.length),(10,.i ((k+1:Nat):Int))] [(0,nsc N)] [true] ?_ ?_ kr kr
 (try dsimp only);omega
 refine⟨?_,rfl⟩;(try dsimp only);obtain rfl:j=k:=by omega
 exact⟨om,by rw[List.range_succ,List.all_append,hi2,List.all_cons,List.all_nil,Bool.and_true,Bool.true_and,stepN_eq,hj2];have h:=hc14;simpa using h⟩
 refine Xt (Jx (Lx (Bh (Jn (hK2 (Kp [1] (Rm 2 ((inb N.next 1 10000)&&(decide ((N.list.length:Int)<=30))) [] ?_ ?_)))))))
 refine Bc1 3 [(62,.i N.next),(61,.ptr 0 0)] 49 [.i N.next,.i 1,.i 10000] 63 (((1:Nat)≠0)/\(0+1<=2/\0<2)/\·) ⟨dc,dc,?_⟩
 refine PE.use (within_ok N.next 1 10000) ?_
 refine Ke (An0 1 [(64,.bool (inb N.next 1 10000))] (Rg (fun hg26 g26=>?_) (fun hg26 g26=>?_)))
 refine Av1 3 67 [(66,.sl 2 (N.list.map ndc)),(65,.ptr 0 1)] (lnm N.list ndc) (((1:Nat)≠0)/\(1+1<=2/\1<2)/\·) ⟨dc,dc,Mn1 (decide ((N.list.length:Int)<=30)) (Ki/\·) ⟨rfl,(by rw[hg26];rfl)⟩⟩
 refine Mn0 false (by rw[hg26];rfl)
 refine Rt (.bool ((inb N.next 1 10000)&&(decide ((N.list.length:Int)<=30)))) (fin_lea ?_)
 obtain rfl:k=N.list.length:=by omega
 rw[show nsOk N=((inb N.next 1 10000)&&(decide ((N.list.length:Int)<=30))) by unfold nsOk;rw[hi2,Bool.and_true];congr 1;exact decide_eq_decide.2 ⟨fun h=>by omega,fun h=>by omega⟩];exact lea_refl _
theorem cloneN_ok (N:Nds) (hl:∀x∈N.list,wS x.path<2^40) (hn:N.list.length<2^20) (hb: -2^50<N.next/\N.next<2^50):PE G 21 [.agg (nsc N)] (.agg (nsc N)):=by
 refine Pe Tryz.func21 ?_
 refine Rr (Fn2 [] [(2,.ptr 4 0),(1,.ptr 0 0)] ([(4,[.i 0,.nils]),(0,nsc N)]++·) 8 (Rr (Fn3 [1,2] [(3,.ptr 12 0)] ([(12,[.i N.next,.osl 8 2 0 0]),(8,[])]++·) 16 (((1:Nat)≠0)/\(0+1<=2/\0<2)/\(0*2<=16777216)/\(true=true/\2=2/\0+2<=2)/\·) ⟨dc,dc,dc,dc,Sq fun K3 hK3=>?_⟩)))
 refine Rr (Av1 3 12 [(11,.sl 2 (N.list.map ndc)),(10,.ptr 0 1)] (lnm N.list ndc) (((1:Nat)≠0)/\(1+1<=2/\1<2)/\·) ⟨dc,dc,Fn0 [2,3,11,12] [(13,.i 0)] (Bl (h_l (fun(k:Nat)=>([(2,.ptr 4 0),(3,.ptr 12 0),(11,.sl 2 (N.list.map ndc)),(12,.i N.list.length),(13,.i k)]:Fr)) (fun(k:Nat)=>([(12,[.i N.next,.osl 8 2 0 ((N.list.take k).length)]),(8,fl ndc (N.list.take k)),(4,[.i 0,.nils]),(0,nsc N)]:Hp)) (fun(k:Nat) cn=>(k<=N.list.length)/\cn=16) (fun(k:Nat)=>N.list.length-k) 0 kr ?_ ?_ ?_ ?_))⟩)
 refine⟨?_,rfl⟩;exact Nat.zero_le _
 exact⟨kr,kr,kr,kr,kr,trivial⟩
 exact(sub_c kr (sub_c kr (sub_c kr (sub_c kr (List.nil_sublist _)))))
 rintro k n1 hI
 (try dsimp only at hI)
 obtain⟨hi1,rfl⟩:=hI
 refine Rr (Fn1 [2,3,11,12,13] [(14,.bool (decide ((k:Int)<(N.list.length:Int))))] (Ki/\·) ⟨rfl,Sq fun K6 hK6=>?_⟩)
 refine Cc (decide ((k:Int)<(N.list.length:Int))) (fun hc7 c7=>?_) fun hc7 c7=>?_
 refine Sk (Jn (hK6 (Kp [2,3,11,12,13] (Sq fun K8 hK8=>?_))))
 refine Bl (Rr (Av1 1 15 [] (congrArg AV.pat (mg_nd N.list k om)) ((2=2/\(0:Int)<=(k:Int)/\(k:Int)<((N.list.map ndc).length:Int))/\·) ⟨⟨rfl,om,lmo⟩,Fn3 [2,3,11,12,13] [(5,.ptr 16 0)] ([(16,ndc (N.list.getD k default))]++·) 20 ((2<=2/\0<2)/\(true=true/\2=2/\0+2<=2)/\·) ⟨dc,dc,?_⟩⟩))
 have hgn:=hl _ (getD_mem N.list k default om);have hgl:=wS_len (N.list.getD k default).path;have htk:(N.list.take k).length=k:=by rw[List.length_take];omega
 refine Qb [0,1,0,4,0,0,32,112,252,508,1023,2047,4095] [(0,[]),(1,[]),(2,[]),(3,[]),(5,[]),(6,[]),(4,[1,3,6]),(7,[1,3]),(8,[]),(9,[1]),(10,[]),(11,[]),(12,[])] (fun h=>Bn (Jn (hK8 h))) (qAn3 8 [(24,.osl 24 1 0 (0+(((N.list.getD k default).path).map (fun s=>[AV.str s])).length)),(21,.osl 20 1 0 0),(23,pth ((N.list.getD k default).path)),(22,.ptr 16 1),(20,.i ((N.list.getD k default).id)),(19,.ptr 16 0),(18,.osl 8 2 0 ((N.list.take k).length)),(17,.ptr 12 1)] ([(24,apd [] (0*1) ((((N.list.getD k default).path).map (fun s=>[AV.str s])).flatten))]++·) 28 (fun Z=>((1:Nat)≠0)/\(1+1<=2/\1<2)/\((1:Nat)≠0)/\(0+1<=2/\0<2)/\((1:Nat)≠0)/\(1+1<=2/\1<2)/\(0*1<=16777216)/\(((1+1<=2/\1<2)/\(AV.osl 8 2 0 ((N.list.take k).length)=(.osl 8 2 0 ((N.list.take k).length):AV)))/\((0+1<=2/\0<2)/\(AV.int .i64 ((N.list.getD k default).id)=(.i ((N.list.getD k default).id):AV)))/\((1+1<=2/\1<2)/\(pth ((N.list.getD k default).path)=pth ((N.list.getD k default).path)))/\True)/\True/\(1=1/\0*1<=0/\0<16/\(0+(((N.list.getD k default).path).map (fun s=>[AV.str s])).length)*16<=140737488355328)/\(((1+1<=2/\1<2)/\(AV.osl 8 2 0 ((N.list.take k).length)=(.osl 8 2 0 ((N.list.take k).length):AV)))/\((0+1<=2/\0<2)/\(AV.int .i64 ((N.list.getD k default).id)=(.i ((N.list.getD k default).id):AV)))/\True)/\Z) ⟨dc,dc,dc,dc,dc,dc,dc,⟨⟨dc,rfl⟩,⟨dc,rfl⟩,⟨dc,rfl⟩,trivial⟩,trivial,⟨rfl,gl,dc,gl⟩,⟨⟨dc,rfl⟩,⟨dc,rfl⟩,trivial⟩,runq_v (v':=.osl 24 1 0 (((N.list.getD k default).path).length)) (by rw[Nat.zero_add,List.length_map]) (runq_h (cs':=fl sc ((N.list.getD k default).path)) (app0_str _) (qAn3 3 [(27,.osl 32 2 0 ((N.list.take k).length+1)),(26,.osl 28 2 0 1),(25,.agg [.i ((N.list.getD k default).id),.osl 24 1 0 (((N.list.getD k default).path).length)])] (fun _=>[(32,apd (fl ndc (N.list.take k)) ((N.list.take k).length*2) ((([.i ((N.list.getD k default).id),.osl 24 1 0 (((N.list.getD k default).path).length)]:List AV).drop 0).take (1*2))),(28,[.i ((N.list.getD k default).id),.osl 24 1 0 (((N.list.getD k default).path).length)]),(24,fl sc ((N.list.getD k default).path)),(16,ndc (N.list.getD k default)),(12,[.i N.next,.osl 8 2 0 ((N.list.take k).length)]),(4,[.i 0,.nils]),(0,nsc N)]) 36 (fun Z=>(1*2<=16777216)/\(((1+1<=2/\1<2)/\(AV.osl 8 2 0 ((N.list.take k).length)=(.osl 8 2 0 ((N.list.take k).length):AV)))/\True)/\(0+1*2<=([.i ((N.list.getD k default).id),.osl 24 1 0 (((N.list.getD k default).path).length)]:List AV).length)/\(2=2/\(N.list.take k).length*2<=(fl ndc (N.list.take k)).length/\0<32/\((N.list.take k).length+1)*32<=140737488355328)/\(True)/\Z) ⟨dc,⟨⟨dc,rfl⟩,trivial⟩,(by first|decide|simp),⟨rfl,by(first|omega|(simp only[LL,flNl];omega)),dc,by(first|omega|(simp only[LL,flNl];omega))⟩,trivial,?_⟩))⟩)
 refine runq_H (H':=[(32,fl ndc (N.list.take k)++[.i ((N.list.getD k default).id),.osl 24 1 0 (((N.list.getD k default).path).length)]),(28,[.i ((N.list.getD k default).id),.osl 24 1 0 (((N.list.getD k default).path).length)]),(24,fl sc ((N.list.getD k default).path)),(16,ndc (N.list.getD k default)),(12,[.i N.next,.osl 8 2 0 ((N.list.take k).length)]),(4,[.i 0,.nils]),(0,nsc N)]) (by rw[show apd (fl ndc (N.list.take k)) ((N.list.take k).length*2) ((([.i ((N.list.getD k default).id),.osl 24 1 0 (((N.list.getD k default).path).length)]:List AV).drop 0).take (1*2))=fl ndc (N.list.take k)++[.i ((N.list.getD k default).id),.osl 24 1 0 (((N.list.getD k default).path).length)]from(by unfold apd;rw[fl_full ndc_len (N.list.take k) rfl];rfl)]) ?_
 refine qFn3 [2,3,11,12,13] [] (Hw [(12,[.i N.next,.osl 32 2 0 ((N.list.take k).length+1)])] [] ·) 36 (((1:Nat)≠0)/\(true=true/\1=1/\1+1<=2)/\(True)/\·) ⟨dc,dc,trivial,h_k [2,3,11,12,13] (F':=[(2,.ptr 4 0),(3,.ptr 12 0),(11,.sl 2 (N.list.map ndc)),(12,.i N.list.length),(13,.i k)]) kr (FzN 24 32 (N.list.take k) ((N.list.getD k default).path) ((N.list.getD k default).id) [(2,.ptr 4 0),(3,.ptr 12 0),(11,.sl 2 (N.list.map ndc)),(12,.i N.list.length),(13,.i k)] [(12,[.i N.next,.osl 32 2 0 ((N.list.take k).length+1)]),(4,[.i 0,.nils]),(0,nsc N)] [true,false,false] (Rn (Av1 1 29 [] (cI (wn1 k om)) (Ki/\·) ⟨rfl,?_⟩)))⟩
 refine Gn0 [(13,.i ((k+1:Nat):Int))] (nk_n (Lr (k+1) [(0,0),(4,4),(12,12),(32,8)] 16 [(2,.ptr 4 0),(3,.ptr 12 0),(11,.sl 2 (N.list.map ndc)),(12,.i N.list.length),(13,.i ((k+1:Nat):Int))] [(12,[.i N.next,.osl 32 2 0 ((N.list.take k).length+1)]),(32,fl ndc (N.list.take k++[No.mk ((N.list.getD k default).id) ((N.list.getD k default).path)])),(4,[.i 0,.nils]),(0,nsc N)] [true,false,true,true] ?_ ?_ (by(try ((try dsimp only);rw[take_snoc N.list k default om,List.length_append]));try kernel_rfl) kr))
 (try dsimp only);omega
 refine⟨?_,rfl⟩;(try dsimp only);omega
 refine Xt (Jx (Lx (Bh (Jn (hK3 (Kp [2,3] (Rr (Fn3 [2] [] (Hw [(4,[.i N.next,.osl 8 2 0 ((N.list.take k).length)])] [] ·) 16 ((0+2<=2/\0<2)/\(true=true/\2=2/\0+2<=2)/\·) ⟨dc,dc,Fz 8 2 ((N.list.take k).length) ((N.list.take k).map ndc) (fl ndc (N.list.take k)) [(2,.ptr 4 0)] [(4,[.i N.next,.osl 8 2 0 ((N.list.take k).length)])] [true] (chkN _) (flN_le _) (Rt1 ((0+2<=2/\0<2)/\·) (.agg [.i N.next,.sl 2 ((N.list.take k).map ndc)]) ⟨dc,?_⟩)⟩))))))))
 refine fin_lea ?_
 rw[List.take_of_length_le om];exact lea_refl _
theorem nPath_ok (N:Nds) (i:Int) (hl:∀x∈N.list,wS x.path<2^40) (hn:N.list.length<2^20) (hb: -2^50<N.next/\N.next<2^50):PE G 11 [.agg (nsc N),.i i] (.tup [pth (nPath N i).1,.bool (nPath N i).2]):=by
 refine Pe Tryz.func11 ?_
 refine Rr (Fn2 [1] [(2,.ptr 0 0)] ([(0,nsc N)]++·) 4 (Sq fun K2 hK2=>?_))
 refine Rr (Pc1 2 [(8,.agg (nsc N))] 9 (0+2<=2/\0<2) dc (nWell_ok N hl hn hb) (Cn0 (nsOk N) [1,2] [] ⟨fun hc4 c4=>?_,fun hc4 c4=>?_⟩))
 refine Rr (Av1 3 12 [(11,.sl 2 (N.list.map ndc)),(10,.ptr 0 1)] (lnm N.list ndc) (((1:Nat)≠0)/\(1+1<=2/\1<2)/\·) ⟨dc,dc,Fn0 [1,11,12] [(13,.i 0)] (Bl (h_l (fun(k:Nat)=>([(1,.i i),(11,.sl 2 (N.list.map ndc)),(12,.i N.list.length),(13,.i k)]:Fr)) (fun(k:Nat)=>([(0,nsc N)]:Hp)) (fun(k:Nat) cn=>(k<=N.list.length/\pathN i N.list=pathN i (N.list.drop k))/\cn=4) (fun(k:Nat)=>N.list.length-k) 0 kr ?_ ?_ ?_ ?_))⟩)
 refine⟨?_,rfl⟩;exact⟨Nat.zero_le _,rfl⟩
 exact⟨kr,kr,kr,kr,trivial⟩
 exact(sub_c kr (List.nil_sublist _))
 rintro k n1 hI
 (try dsimp only at hI)
 obtain⟨⟨hi1,hi2⟩,rfl⟩:=hI
 refine Rr (Fn1 [1,11,12,13] [(14,.bool (decide ((k:Int)<(N.list.length:Int))))] (Ki/\·) ⟨rfl,Sq fun K7 hK7=>?_⟩)
 refine Cc (decide ((k:Int)<(N.list.length:Int))) (fun hc8 c8=>?_) fun hc8 c8=>?_
 refine Sk (Jn (hK7 (Kp [1,11,12,13] (Sq fun K9 hK9=>?_))))
 refine Bl (Rr (Av1 1 15 [] (congrArg AV.pat (mg_nd N.list k om)) ((2=2/\(0:Int)<=(k:Int)/\(k:Int)<((N.list.map ndc).length:Int))/\·) ⟨⟨rfl,om,lmo⟩,Fn3 [1,11,12,13] [(7,.ptr 4 0)] ([(4,ndc (N.list.getD k default))]++·) 8 ((2<=2/\0<2)/\(true=true/\2=2/\0+2<=2)/\·) ⟨dc,dc,Rr ?_⟩⟩))
 refine Cn1 (decide (((N.list.getD k default).id:Int)=(i:Int))) [1,7,11,12,13] [] (((1:Nat)≠0)/\(0+1<=2/\0<2)/\Ki/\·) ⟨dc,dc,rfl,fun hc12 c12=>?_,fun hc12 c12=>?_⟩
 have hgn:=hl _ (getD_mem N.list k default om);have hgl:=wS_len (N.list.getD k default).path
 refine Rr (An3 4 [(24,.osl 12 1 0 (0+(((N.list.getD k default).path).map (fun s=>[AV.str s])).length)),(23,pth ((N.list.getD k default).path)),(22,.ptr 4 1),(21,.osl 8 1 0 0)] ([(12,apd [] (0*1) ((((N.list.getD k default).path).map (fun s=>[AV.str s])).flatten))]++·) 16 ((0*1<=16777216)/\((1:Nat)≠0)/\(1+1<=2/\1<2)/\True/\(1=1/\0*1<=0/\0<16/\(0+(((N.list.getD k default).path).map (fun s=>[AV.str s])).length)*16<=140737488355328)/\·) ⟨dc,dc,dc,trivial,⟨rfl,gl,dc,gl⟩,run_v (v':=.osl 12 1 0 (((N.list.getD k default).path).length)) (by rw[Nat.zero_add,List.length_map]) (run_h (cs':=fl sc ((N.list.getD k default).path)) (app0_str _) (Fn0 [] [(5,.bool true),(4,.osl 12 1 0 (((N.list.getD k default).path).length))] ?_))⟩)
 refine FzS 12 ((N.list.getD k default).path) [(4,.osl 12 1 0 (((N.list.getD k default).path).length)),(5,.bool true)] [] [] (Rt (.tup [pth ((N.list.getD k default).path),.bool true]) (fin_lea ?_))
 unfold nPath
 rw[show nsOk N=true by have h:=hc4;simpa using h,if_pos rfl]
 rw[hi2,drop_cons om,pathN,if_pos (by have h:=hc12;simpa using h)];exact lea_refl _
 refine Sk (Bn (Jn (hK9 (Kp [1,11,12,13] (Rn (Av1 1 25 [] (cI (wn1 k om)) (Ki/\·) ⟨rfl,Gn0 [(13,.i ((k+1:Nat):Int))] (nk_n ?_)⟩))))))
 refine Lr (k+1) [(0,0)] 4 [(1,.i i),(11,.sl 2 (N.list.map ndc)),(12,.i N.list.length),(13,.i ((k+1:Nat):Int))] [(0,nsc N)] [true] ?_ ?_ kr kr
 (try dsimp only);omega
 refine⟨?_,rfl⟩;(try dsimp only);exact⟨om,by rw[hi2,drop_cons om,pathN,if_neg (by have h:=hc12;simpa using h)]⟩
 refine Xt (Jx (Lx (Bh (Jn (hK2 (Kp [] (Rr (Fn3 [] [(5,.bool false),(4,.osl 4 1 0 0)] ([(4,[])]++·) 8 ((0*1<=16777216)/\·) ⟨dc,Fz 4 1 0 ([]) ([]) [(4,.osl 4 1 0 0),(5,.bool false)] [] [] kr dc (Rt (.tup [pth [],.bool false]) ?_)⟩))))))))
 refine fin_lea ?_
 unfold nPath
 rw[show nsOk N=true by have h:=hc4;simpa using h,if_pos rfl]
 obtain rfl:k=N.list.length:=by omega
 rw[hi2,List.drop_length,pathN];simp[lea,leas,pth]
 refine Sk (Jn (hK2 (Kp [] (Rr (Fn3 [] [(5,.bool false),(4,.osl 4 1 0 0)] ([(4,[])]++·) 8 ((0*1<=16777216)/\·) ⟨dc,Fz 4 1 0 ([]) ([]) [(4,.osl 4 1 0 0),(5,.bool false)] [] [] kr dc (Rt (.tup [pth [],.bool false]) ?_)⟩)))))
 refine fin_lea ?_
 unfold nPath
 rw[show nsOk N=false by have h:=hc4;simpa using h];simp[lea,leas,pth]
theorem nId_ok (N:Nds) (p:List Str) (hl:∀x∈N.list,wS x.path<2^40) (hn:N.list.length<2^20) (hb: -2^50<N.next/\N.next<2^50) (hp:p.length<2^40):PE G 6 [.agg (nsc N),pth p] (.i (nId N p)):=by
 refine Pe Tryz.func6 ?_
 refine Rr (Fn2 [1] [(2,.ptr 0 0)] ([(0,nsc N)]++·) 4 (Sq fun K2 hK2=>?_))
 refine Rr (Pc1 2 [(7,.agg (nsc N))] 8 (0+2<=2/\0<2) dc (nWell_ok N hl hn hb) (Cn0 (nsOk N) [1,2] [] ⟨fun hc4 c4=>?_,fun hc4 c4=>?_⟩))
 refine Rr (Av1 3 11 [(10,.sl 2 (N.list.map ndc)),(9,.ptr 0 1)] (lnm N.list ndc) (((1:Nat)≠0)/\(1+1<=2/\1<2)/\·) ⟨dc,dc,Fn0 [1,10,11] [(12,.i 0)] (Bl (h_l (fun(k:Nat)=>([(1,pth p),(10,.sl 2 (N.list.map ndc)),(11,.i N.list.length),(12,.i k)]:Fr)) (fun(k:Nat)=>([(0,nsc N)]:Hp)) (fun(k:Nat) cn=>(k<=N.list.length/\idN p N.list=idN p (N.list.drop k))/\cn=4) (fun(k:Nat)=>N.list.length-k) 0 kr ?_ ?_ ?_ ?_))⟩)
 refine⟨?_,rfl⟩;exact⟨Nat.zero_le _,rfl⟩
 exact⟨kr,kr,kr,kr,trivial⟩
 exact(sub_c kr (List.nil_sublist _))
 rintro k n1 hI
 (try dsimp only at hI)
 obtain⟨⟨hi1,hi2⟩,rfl⟩:=hI
 refine Rr (Fn1 [1,10,11,12] [(13,.bool (decide ((k:Int)<(N.list.length:Int))))] (Ki/\·) ⟨rfl,Sq fun K7 hK7=>?_⟩)
 refine Cc (decide ((k:Int)<(N.list.length:Int))) (fun hc8 c8=>?_) fun hc8 c8=>?_
 refine Sk (Jn (hK7 (Kp [1,10,11,12] (Sq fun K9 hK9=>?_))))
 refine Bl (Rr (Av1 1 14 [] (congrArg AV.pat (mg_nd N.list k om)) ((2=2/\(0:Int)<=(k:Int)/\(k:Int)<((N.list.map ndc).length:Int))/\·) ⟨⟨rfl,om,lmo⟩,Fn3 [1,10,11,12] [(6,.ptr 4 0)] ([(4,ndc (N.list.getD k default))]++·) 8 ((2<=2/\0<2)/\(true=true/\2=2/\0+2<=2)/\·) ⟨dc,dc,?_⟩⟩))
 have hgn:=hl _ (getD_mem N.list k default om);have hgl:=wS_len (N.list.getD k default).path
 refine Rr (Bc1 4 [(18,pth p),(17,pth ((N.list.getD k default).path)),(16,.ptr 4 1)] 19 [pth ((N.list.getD k default).path),pth p] 19 (((1:Nat)≠0)/\(1+1<=2/\1<2)/\·) ⟨dc,dc,PE.use (eqP_ok ((N.list.getD k default).path) p om om) (Ke (Cn0 (((N.list.getD k default).path)==p) [1,6,10,11,12] [] ⟨fun hc12 c12=>?_,fun hc12 c12=>?_⟩))⟩)
 refine Rr (Fn1 [] [(4,.i ((N.list.getD k default).id))] (((1:Nat)≠0)/\(0+1<=2/\0<2)/\·) ⟨dc,dc,Rt (.i ((N.list.getD k default).id)) (fin_lea ?_)⟩)
 unfold nId
 rw[show nsOk N=true by have h:=hc4;simpa using h,if_pos rfl]
 rw[hi2,drop_cons om,idN,if_pos (by have h:=hc12;simpa using h)];exact lea_refl _
 refine Sk (Bn (Jn (hK9 (Kp [1,10,11,12] (Rn (Av1 1 22 [] (cI (wn1 k om)) (Ki/\·) ⟨rfl,Gn0 [(12,.i ((k+1:Nat):Int))] (nk_n ?_)⟩))))))
 refine Lr (k+1) [(0,0)] 4 [(1,pth p),(10,.sl 2 (N.list.map ndc)),(11,.i N.list.length),(12,.i ((k+1:Nat):Int))] [(0,nsc N)] [true] ?_ ?_ kr kr
 (try dsimp only);omega
 refine⟨?_,rfl⟩;(try dsimp only);exact⟨om,by rw[hi2,drop_cons om,idN,if_neg (by have h:=hc12;simpa using h)]⟩
 refine Xt (Jx (Lx (Bh (Jn (hK2 (Kp [] (Rr (Fn0 [] [(4,.i 0)] (Rt (.i 0) (fin_lea ?_))))))))))
 unfold nId
 rw[show nsOk N=true by have h:=hc4;simpa using h,if_pos rfl]
 obtain rfl:k=N.list.length:=by omega
 rw[hi2,List.drop_length,idN];exact lea_refl _
 refine Sk (Jn (hK2 (Kp [] (Rr (Fn0 [] [(4,.i 0)] (Rt (.i 0) (fin_lea ?_)))))))
 unfold nId
 rw[show nsOk N=false by have h:=hc4;simpa using h];exact lea_refl _
theorem wxN_ok (A B:Nds) (hl:∀x∈A.list,wS x.path<2^40) (hl2:∀x∈B.list,wS x.path<2^40) (hn:A.list.length<2^20) (hn2:B.list.length<2^20):PE G 9 [.agg (nsc A),.agg (nsc B)] (.bool (wxN A B)):=by
 refine Pe Tryz.func9 ?_
 refine Rr (Fn2 [] [(3,.ptr 4 0),(2,.ptr 0 0)] ([(4,nsc B),(0,nsc A)]++·) 8 (Sq fun K2 hK2=>?_))
 refine Rm 19 ((!decide ((A.next:Int)=(B.next:Int)))||(!decide ((A.list.length:Int)=(B.list.length:Int)))) [2,3] ?_ ?_
 refine An1 6 [(11,.bool (!decide ((A.next:Int)=(B.next:Int)))),(10,.bool (!decide ((A.next:Int)=(B.next:Int)))),(9,.i B.next),(8,.ptr 4 0),(7,.i A.next),(6,.ptr 0 0)] (((1:Nat)≠0)/\(0+1<=2/\0<2)/\((1:Nat)≠0)/\(0+1<=2/\0<2)/\Ki/\·) ⟨dc,dc,dc,dc,rfl,Rg (fun hg4 g4=>?_) (fun hg4 g4=>?_)⟩
 refine Mn0 true (by rw[hg4];rfl)
 refine Av1 3 14 [(13,.sl 2 (A.list.map ndc)),(12,.ptr 0 1)] (lnm A.list ndc) (((1:Nat)≠0)/\(1+1<=2/\1<2)/\·) ⟨dc,dc,Av1 3 17 [(16,.sl 2 (B.list.map ndc)),(15,.ptr 4 1)] (lnm B.list ndc) (((1:Nat)≠0)/\(1+1<=2/\1<2)/\·) ⟨dc,dc,Mn1 (!decide ((A.list.length:Int)=(B.list.length:Int))) (Ki/\·) ⟨rfl,(by rw[hg4];rfl)⟩⟩⟩
 refine Cc ((!decide ((A.next:Int)=(B.next:Int)))||(!decide ((A.list.length:Int)=(B.list.length:Int)))) (fun hc5 c5=>?_) fun hc5 c5=>?_
 refine Rr (Fn0 [] [(4,.bool false)] (Rt (.bool false) (fin_lea ?_)))
 rw[show wxN A B=false by unfold wxN;have h:=hc5;simp only[Bool.or_eq_true,Bool.not_eq_true',decide_eq_false_iff_not,decide_eq_true_eq]at h;rw[Bool.and_eq_false_iff,Bool.and_eq_false_iff];first|(rcases h with h|h<;>first|exact .inl (decide_eq_false (by first|exact h|omega))|exact .inr (.inl (decide_eq_false om)))|(simp_all;omega)];exact lea_refl _
 refine Sk (Jn (hK2 (Kp [2,3] (Sq fun K7 hK7=>?_))))
 refine Rr (Fn0 [2,3] [(5,.i 0)] (Bl (h_l (fun(k:Nat)=>([(2,.ptr 0 0),(3,.ptr 4 0),(5,.i k)]:Fr)) (fun(k:Nat)=>([(4,nsc B),(0,nsc A)]:Hp)) (fun(k:Nat) cn=>(k<=A.list.length/\(List.range k).all (stpX A B)=true)/\cn=8) (fun(k:Nat)=>A.list.length-k) 0 kr ?_ ?_ ?_ ?_)))
 refine⟨?_,rfl⟩;exact⟨Nat.zero_le _,rfl⟩
 exact⟨kr,kr,kr,trivial⟩
 exact(sub_c kr (sub_c kr (List.nil_sublist _)))
 rintro k n1 hI
 (try dsimp only at hI)
 obtain⟨⟨hi1,hi2⟩,rfl⟩:=hI
 refine Sq fun K9 hK9=>?_
 refine Rr (Av1 4 23 [(22,.sl 2 (A.list.map ndc)),(21,.ptr 0 1),(20,.i k)] (lnm A.list ndc) (((1:Nat)≠0)/\(1+1<=2/\1<2)/\·) ⟨dc,dc,Cn1 (decide ((k:Int)<(A.list.length:Int))) [2,3,5] [] (Ki/\·) ⟨rfl,fun hc11 c11=>?_,fun hc11 c11=>?_⟩⟩)
 refine Sk (Jn (hK9 (Kp [2,3,5] (Sq fun K12 hK12=>?_))))
 refine Bl ?_
 have hll:A.list.length=B.list.length:=om;have hga:=hl _ (getD_mem A.list k default om);have hgl:=wS_len (A.list.getD k default).path;have hgb:=hl2 _ (getD_mem B.list k default om);have hgm:=wS_len (B.list.getD k default).path
 refine Qm [0,1,0,7,15,31,0,64,0,448,960,1984,4095,8191,16383,32767,16383,131071,262143,524287,16383,1064959,16383,7356415,15745023,32522239,67108863,134217727,268435455] [(0,[]),(1,[]),(2,[]),(3,[]),(4,[]),(5,[]),(6,[]),(7,[]),(8,[]),(9,[]),(10,[]),(11,[]),(12,[]),(13,[]),(14,[]),(15,[]),(16,[]),(17,[]),(18,[]),(19,[]),(20,[]),(21,[]),(22,[]),(23,[]),(24,[]),(25,[]),(26,[]),(27,[]),(28,[])] 55 (!stpX A B k) [2,3,5] ?_ ?_
 refine qAv1 4 30 [(29,.i k),(28,.sl 2 (A.list.map ndc)),(27,.ptr 0 1)] (congrArg AV.pat (mg_nd A.list k om)) (((1:Nat)≠0)/\(1+1<=2/\1<2)/\(2=2/\(0:Int)<=(k:Int)/\(k:Int)<((A.list.map ndc).length:Int))/\·) ⟨dc,dc,⟨rfl,om,lmo⟩,qAv1 6 36 [(35,.i k),(34,.sl 2 (B.list.map ndc)),(33,.ptr 4 1),(32,.i ((A.list.getD k default).id)),(31,.pat (ndc (A.list.getD k default)))] (congrArg AV.pat (mg_nd B.list k om)) (((1:Nat)≠0)/\(1<=2/\0<2)/\((1:Nat)≠0)/\(1+1<=2/\1<2)/\(2=2/\(0:Int)<=(k:Int)/\(k:Int)<((B.list.map ndc).length:Int))/\·) ⟨dc,dc,dc,dc,⟨rfl,om,lmo⟩,qAn1 4 [(40,.bool (!decide (((A.list.getD k default).id:Int)=((B.list.getD k default).id:Int)))),(39,.bool (!decide (((A.list.getD k default).id:Int)=((B.list.getD k default).id:Int)))),(38,.i ((B.list.getD k default).id)),(37,.pat (ndc (B.list.getD k default)))] (((1:Nat)≠0)/\(1<=2/\0<2)/\Ki/\·) ⟨dc,dc,rfl,Qg (fun hg14 g14=>?_) (fun hg14 g14=>?_)⟩⟩⟩
 refine qMn0 true (by unfold stpX;first|(simp_all;done)|(rw[Bool.eq_iff_iff];simp_all;done)|(rw[Bool.eq_iff_iff];simp_all;omega)|(simp_all;omega))
 refine qAv1 4 44 [(43,.i k),(42,.sl 2 (A.list.map ndc)),(41,.ptr 0 1)] (congrArg AV.pat (mg_nd A.list k om)) (((1:Nat)≠0)/\(1+1<=2/\1<2)/\(2=2/\(0:Int)<=(k:Int)/\(k:Int)<((A.list.map ndc).length:Int))/\·) ⟨dc,dc,⟨rfl,om,lmo⟩,qAv1 6 50 [(49,.i k),(48,.sl 2 (B.list.map ndc)),(47,.ptr 4 1),(46,pth ((A.list.getD k default).path)),(45,.pat [pth ((A.list.getD k default).path)])] (congrArg AV.pat (mg_nd B.list k om)) (((1:Nat)≠0)/\(1<=1/\0<1)/\((1:Nat)≠0)/\(1+1<=2/\1<2)/\(2=2/\(0:Int)<=(k:Int)/\(k:Int)<((B.list.map ndc).length:Int))/\·) ⟨dc,dc,dc,dc,⟨rfl,om,lmo⟩,qBc1 3 [(52,pth ((B.list.getD k default).path)),(51,.pat [pth ((B.list.getD k default).path)])] [] 29 [pth ((A.list.getD k default).path),pth ((B.list.getD k default).path)] 53 (((1:Nat)≠0)/\(1<=1/\0<1)/\·) ⟨dc,dc,PE.use (wtTexts_ok ((A.list.getD k default).path) ((B.list.getD k default).path) om om) (Kq (p:=(True)) trivial ?_)⟩⟩⟩
 refine qMn0 (!(((A.list.getD k default).path)==((B.list.getD k default).path))) (by unfold stpX;first|(simp_all;done)|(rw[Bool.eq_iff_iff];simp_all;done)|(rw[Bool.eq_iff_iff];simp_all;omega)|(simp_all;omega))
 refine Cc (!stpX A B k) (fun hc15 c15=>?_) fun hc15 c15=>?_
 refine Rr (Fn0 [] [(4,.bool false)] (Rt (.bool false) (fin_lea ?_)))
 rw[show wxN A B=false by unfold wxN;rw[show(List.range A.list.length).all (stpX A B)=false from List.all_eq_false.2 ⟨k,List.mem_range.2 om,by have h:=hc15;simp only[Bool.not_eq_true']at h;rw[h];simp⟩];simp];exact lea_refl _
 refine Sk (Bn (Jn (hK12 (Kp [2,3,5] (Rn (Av1 2 26 [(25,.i k)] (cI (wn1 k om)) (Ki/\·) ⟨rfl,Gn0 [(5,.i ((k+1:Nat):Int))] (nk_n ?_)⟩))))))
 refine Lr (k+1) [(0,0),(4,4)] 8 [(2,.ptr 0 0),(3,.ptr 4 0),(5,.i ((k+1:Nat):Int))] [(4,nsc B),(0,nsc A)] [true,true] ?_ ?_ kr kr
 (try dsimp only);omega
 refine⟨?_,rfl⟩;(try dsimp only);exact⟨om,by rw[List.range_succ,List.all_append,hi2,List.all_cons,List.all_nil];have h:=hc15;simpa using h⟩
 refine Xt (Jx (Lx (Bh (Jn (hK7 (Kp [] (Rr (Fn0 [] [(4,.bool true)] (Rt (.bool true) (fin_lea ?_))))))))))
 obtain rfl:k=A.list.length:=by omega
 rw[show wxN A B=true by unfold wxN;have h:=hc5;simp only[Bool.or_eq_false_iff,Bool.not_eq_false',decide_eq_true_eq,decide_eq_false_iff_not,Classical.not_not]at h;rw[hi2,Bool.and_true];simp_all;try omega];exact lea_refl _
theorem nEq_ok (x:No) (p:List Str) (hx:x.path.length<2^40) (hp:p.length<2^40):PE G 33 [.agg (ndc x),pth p] (.bool (x.path==p)):=by
 refine Pe Tryz.func33 ?_
 refine Rr (Fn2 [1] [(2,.ptr 0 0)] ([(0,ndc x)]++·) 4 (Rr (Bc1 4 [(7,pth p),(6,pth x.path),(5,.ptr 0 1)] 19 [pth x.path,pth p] 8 (((1:Nat)≠0)/\(1+1<=2/\1<2)/\·) ⟨dc,dc,PE.use (eqP_ok x.path p om om) ?_⟩)))
 refine Ke (Fn0 [] [(4,.bool (x.path==p))] (Rt (.bool (x.path==p)) ?_))
 exact fin_lea (lea_refl _)
theorem below_ok (p:List Str) (n:Str) (hp:p.length<2^41):PE G 90 [pth p,.str n] (pth (p++[n])):=by
 refine Pe Tryz.func90 ?_
 refine Rr (Fn0 [0,1] [] (Rr (An3 3 [(7,.osl 4 1 0 (0+(p.map (fun s=>[AV.str s])).length)),(6,pth p),(5,.osl 0 1 0 0)] ([(4,apd [] (0*1) ((p.map (fun s=>[AV.str s])).flatten))]++·) 8 ((0*1<=16777216)/\True/\(1=1/\0*1<=0/\0<16/\(0+(p.map (fun s=>[AV.str s])).length)*16<=140737488355328)/\·) ⟨dc,trivial,⟨rfl,gl,dc,gl⟩,run_v (v':=.osl 4 1 0 p.length) (by rw[Nat.zero_add,List.length_map]) ?_⟩)))
 refine run_h (cs':=fl sc p) (app0_str _) ?_
 refine An3 3 [(10,.osl 12 1 0 (p.length+1)),(9,.osl 8 1 0 1),(8,.str n)] (fun _=>[(12,apd (fl sc p) (p.length*1) [.str n]),(8,[.str n])]) 16 ((1*1<=16777216)/\(0+1*1<=1)/\(1=1/\p.length*1<=(fl sc p).length/\0<16/\(p.length+1)*16<=140737488355328)/\·) ⟨dc,dc,⟨rfl,gl,dc,gl⟩,run_v (v':=.osl 12 1 0 ((p++[n]).length)) (push_len _ _ _ _) (run_h (cs':=fl sc (p++[n])) (push_str p n) (Fn0 [] [(4,.osl 12 1 0 ((p++[n]).length))] (FzS 12 (p++[n]) [(4,.osl 12 1 0 ((p++[n]).length))] [] [] ?_)))⟩
 refine Rt (pth (p++[n])) ?_
 exact fin_lea (lea_refl _)
def BC (G:Prg) (f:Nat) (ar:AV->List AV) (X Y:List (List Str)):Prop:=
 ∀(H:Hp) (n a b:Nat),hgt H a=some [.osl b 1 0 X.length]->hgt H b=some (fl ptc X)->a≠b->a%4=0->b%4=0->
  TCall G f (ar (.ptr a 0)) H n fun r H' n'=>r=.tup []/\n'=n+4/\H'=(n,fl ptc Y)::hset (hdel H b) a [.osl n 1 0 Y.length]
theorem mem_hdel {i k:Nat}:∀{H:Hp},i∈ids H->i≠k->i∈ids (hdel H k)
 |[],h,_=>h
 |(j,o)::H,h,hn=>by
  simp only[hdel]
  cases hj:j==k with
  |true=>
   simp only[ids,List.map_cons,List.mem_cons]at h
   rw[beq_iff_eq]at hj
   exact h.resolve_left fun e=>hn (e.trans hj)
  |false=>
   simp only[cond_false,ids,List.map_cons,List.mem_cons]at h⊢
   exact h.imp id fun h=>mem_hdel h hn
theorem hdel_in {i k:Nat} {H:Hp} (hn:(ids H).Nodup) (h:i∈ids (hdel H k)):i∈ids H/\i≠k:=
 ⟨((hdel_sub H k).map (·.1)).subset h,fun e=>hdel_not hn (e▸h)⟩
theorem hdel_nodup {H:Hp} (hn:(ids H).Nodup) (k:Nat):(ids (hdel H k)).Nodup:=List.Nodup.sublist (List.Sublist.map (fun p:Nat×List AV=>p.1) (hdel_sub H k)) hn
theorem rput_n {ρ:Rho} {n b:Nat}:rput ρ n b n=some b:=by simp[rput]
theorem rput_ne {ρ:Rho} {n b i:Nat} (h:i≠n):rput ρ n b i=ρ i:=by simp[rput,h]
def HC (H H':Hp):Prop:=(∀X ρ w,HR X ρ w H->HR X ρ w H')/\∀i,i∈ids H'->i∈ids H
theorem HC.refl (H:Hp):HC H H:=⟨fun _ _ _ h=>h,fun _ h=>h⟩
theorem HC.fz {H:Hp} {i:Nat} {cs:List AV} (h:hgt H i=some cs):HC H (fzH i cs (hdel H i)):=⟨fun _ _ _ k=>k.fz h,fun j hj=>by rw[ids_fzH]at hj;exact(List.Sublist.map (fun p:Nat×List AV=>p.1) (hdel_sub H i)).subset hj⟩
theorem BC_lift {G:Prg} {f:Nat} {ar:AV->List AV} {X Y:List (List Str)} (hA:∀{ρ ρ':Rho} {w:World} {O O':Nat->Prop} {vs:List Value} {a:Nat},ρ' 0=ρ a->(∀b,O' b->O b)->VRs ρ w O (ar (.ptr a 0)) vs->VRs ρ' w O' (ar (.ptr 0 0)) vs)
  (h:TCw 1 G f (ar (.ptr 0 0)) [(0,[.osl 4 1 0 X.length]),(4,fl ptc X)] 8 fun r H1 _=>r=.tup []/\∃H2 j,HC H1 H2/\hgt H2 0=some [.osl j 1 0 Y.length]/\hgt H2 j=some (fl ptc Y)/\j≠0/\j%4=0):BC G f ar X Y:=by
 intro H n a b hga hgb hab ha4 hb4 Xs ρ w vs hf hr hv
 obtain⟨ba,ca,ea,fa,a1,a2,a3,a4,a5,a6⟩:=hr.obj a _ (hgt_mem hga)
 obtain⟨bb,cb,eb,fb,b1,b2,b3,b4,b5,b6⟩:=hr.obj b _ (hgt_mem hgb)
 have hia:=hgt_ids hga
 have hib:=hgt_ids hgb
 have hne:ba≠bb:=fun e=>hab (hr.inj a b ba hia hib a1 (e▸b1))
 let ρ0:Rho:=fun i=>if i=0 then ρ a else if i=4 then ρ b else none
 let Hr:=hdel (hdel H a) b
 let Xr:Nat->Prop:=OX Xs ρ Hr
 have hnd:=hdel_nodup hr.nodup a
 have hrin:∀{i},i∈ids Hr->i∈ids H/\i≠a/\i≠b:=fun hi=>by
  have h1:=hdel_in hnd hi
  have h2:=hdel_in hr.nodup h1.1
  exact⟨h2.1,h2.2,h1.2⟩
 have hrsub:Hr.Sublist H:=(hdel_sub _ b).trans (hdel_sub H a)
 have h00:ρ0 0=some ba:=by simp[ρ0,a1]
 have h04:ρ0 4=some bb:=by simp[ρ0,b1]
 have hown0:∀x,Own ρ0 [(0,[.osl 4 1 0 X.length]),(4,fl ptc X)] x↔x=ba\/x=bb:=by
  intro x
  constructor
  ·rintro⟨i,hi,hx⟩
   simp only[ids,List.map_cons,List.map_nil,List.mem_cons,List.not_mem_nil,or_false]at hi
   rcases hi with rfl|rfl
   ·rw[h00]at hx;cases hx;exact .inl rfl
   ·rw[h04]at hx;cases hx;exact .inr rfl
  ·rintro(rfl|rfl)
   ·exact⟨0,by simp[ids],h00⟩
   ·exact⟨4,by simp[ids],h04⟩
 have hnX:∀{x i},i∈ids H->ρ i=some x->(i=a\/i=b)->¬Xr x:=by
  rintro x i hi hx hab' (hx'|⟨k,hk,hb⟩)
  ·exact hr.notX i x hi hx hx'
  ·have hk2:=hrin hk
   have:=hr.inj k i x hk2.1 hi hb hx
   rcases hab' with rfl|rfl
   ·exact hk2.2.1 this
   ·exact hk2.2.2 this
 have hO:∀x,OX Xr ρ0 [(0,[.osl 4 1 0 X.length]),(4,fl ptc X)] x↔OX Xs ρ H x:=by
  intro x
  constructor
  ·rintro(hx|hx)
   ·exact hx.imp (fun h=>h) (Own.sub hrsub)
   ·rcases(hown0 x).1 hx with rfl|rfl
    ·exact .inr ⟨a,hia,a1⟩
    ·exact .inr ⟨b,hib,b1⟩
  ·rintro(hx|⟨i,hi,hb⟩)
   ·exact .inl (.inl hx)
   ·by_cases e1:i=a
    ·subst e1;rw[a1]at hb;cases hb;exact .inr ((hown0 _).2 (.inl rfl))
    ·by_cases e2:i=b
     ·subst e2;rw[b1]at hb;cases hb;exact .inr ((hown0 _).2 (.inr rfl))
     ·exact .inl (.inr ⟨i,mem_hdel (mem_hdel hi e1) e2,hb⟩)
 have hr0:HR Xr ρ0 w [(0,[.osl 4 1 0 X.length]),(4,fl ptc X)]:=by
  refine⟨by simp[ids],fun i j x hi hj hx hy=>?_,fun i x hi hx=>?_,fun x hx=>hr.ox_old (hx.imp (fun h=>h) (Own.sub hrsub)),fun i ds hm=>?_⟩
  ·simp only[ids,List.map_cons,List.map_nil,List.mem_cons,List.not_mem_nil,or_false]at hi hj
   rcases hi with rfl|rfl<;>rcases hj with rfl|rfl
   ·rfl
   ·rw[h00]at hx;rw[h04]at hy;cases hx;cases hy;exact absurd rfl hne
   ·rw[h04]at hx;rw[h00]at hy;cases hx;cases hy;exact absurd rfl hne
   ·rfl
  ·simp only[ids,List.map_cons,List.map_nil,List.mem_cons,List.not_mem_nil,or_false]at hi
   rcases hi with rfl|rfl
   ·rw[h00]at hx;cases hx;exact hnX hia a1 (.inl rfl)
   ·rw[h04]at hx;cases hx;exact hnX hib b1 (.inr rfl)
  ·simp only[List.mem_cons,Prod.mk.injEq,List.not_mem_nil,or_false]at hm
   rcases hm with ⟨rfl,rfl⟩|⟨rfl,rfl⟩
   ·refine⟨ba,ca,ea,fa,h00,a2,⟨a3.1,.inl (a3.2.resolve_right (by omega))⟩,a4,a5,?_⟩
    have h1:=VRs_carry (Carry.less fun x hx=>(hO x).1 hx) _ _ a6
    revert h1
    show VRs ρ w _ [AV.osl b 1 0 X.length] (ca.toList.take 1)->VRs ρ0 w _ [AV.osl 4 1 0 X.length] (ca.toList.take 1)
    generalize ca.toList.take 1=l
    intro h1
    match l,h1 with
    |[],h1=>simp only[VRs]at h1
    |[v],h1=>simp only[VRs,VR,and_true]at h1⊢;rw[h04,<-b1];exact h1
    |_::_::_,h1=>simp only[VRs,and_false]at h1
   ·exact⟨bb,cb,eb,fb,h04,b2,⟨b3.1,.inl (b3.2.resolve_right (by omega))⟩,b4,b5,purs_vr _ _ (purs_flP X) (VRs_carry (Carry.less fun x hx=>(hO x).1 hx) _ _ b6)⟩
 have hv0:=hA (ρ':=ρ0) (O':=OX Xr ρ0 [(0,[.osl 4 1 0 X.length]),(4,fl ptc X)]) (by simp[ρ0]) (fun x hx=>(hO x).1 hx) hv
 refine(h Xr ρ0 w vs ⟨rfl,fun i hi _=>by simp only[ρ0];rw[if_neg (by omega),if_neg (by omega)],5,fun i hi=>by simp only[ρ0];rw[if_neg (by omega),if_neg (by omega)]⟩ hr0 hv0).mono ?_
 rintro e w' ⟨v,r,ρ1,H1,n1,rfl,q1,q2,q3,q4,rfl,H2,j,hcv,g0,gj,hj0,hj4⟩
 have q2':=hcv.1 _ _ _ q2
 have hp:ρ1 0=some ba:=q4.pin 0 ba (.inl (by omega)) h00
 obtain⟨b',c0,e0,f0,r1,r2,r3,r4,r5,r6⟩:=q2'.obj 0 _ (hgt_mem g0)
 rw[hp]at r1;cases r1
 obtain⟨bj,cj,ej,fj,s1,s2,s3,s4,s5,s6⟩:=q2'.obj j _ (hgt_mem gj)
 have hbj:bj≠ba:=fun e=>hj0 (q2'.inj j 0 bj (hgt_ids gj) (hgt_ids g0) s1 (e▸hp))
 have hjX:¬Xr bj:=q2'.notX j bj (hgt_ids gj) s1
 have hnH:∀{i},i∈ids H->i≠n:=by
  rintro i hi rfl
  obtain⟨x,hx,_⟩:=hr.has hi
  rw[hf.2.1 i (Nat.le_refl _) (by have:=hf.1;omega)]at hx;cases hx
 have hown':∀x,Own (rput ρ n bj) ((n,fl ptc Y)::hset (hdel H b) a [.osl n 1 0 Y.length]) x->x=bj\/(Own ρ (hdel H b) x):=by
  rintro x ⟨i,hi,hx⟩
  simp only[ids,List.map_cons,List.mem_cons]at hi
  rcases hi with rfl|hi
  ·rw[rput_n]at hx;cases hx;exact .inl rfl
  ·have hi2:i∈ids (hdel H b):=by rw[<-hset_ids (hdel H b) a [.osl n 1 0 Y.length]];exact hi
   rw[rput_ne (hnH (hdel_in hr.nodup hi2).1)]at hx
   exact .inr ⟨i,hi2,hx⟩
 have hjold:bj<w.heap.size->OX Xs ρ H bj:=fun hlt=>by
  rcases q4.own bj ⟨j,hcv.2 _ (hgt_ids gj),s1⟩with hx|hx
  ·exact(hO bj).1 (.inr hx)
  ·omega
 have hOO:∀x,x<w.heap.size->OX Xs (rput ρ n bj) ((n,fl ptc Y)::hset (hdel H b) a [.osl n 1 0 Y.length]) x->OX Xs ρ H x:=by
  rintro x hlt (hx|hx)
  ·exact .inl hx
  ·rcases hown' x hx with rfl|hx
   ·exact hjold hlt
   ·exact .inr (Own.sub (hdel_sub H b) hx)
 have hO1:∀x,OX Xs (rput ρ n bj) ((n,fl ptc Y)::hset (hdel H b) a [.osl n 1 0 Y.length]) x->OX Xr ρ1 H2 x:=by
  rintro x (hx|hx)
  ·exact .inl (.inl hx)
  ·rcases hown' x hx with rfl|⟨i,hi,hy⟩
   ·exact .inr ⟨j,hgt_ids gj,s1⟩
   ·have hi2:=hdel_in hr.nodup hi
    by_cases e:i=a
    ·subst e;rw[a1]at hy;cases hy;exact .inr ⟨0,hgt_ids g0,hp⟩
    ·exact .inl (.inr ⟨i,mem_hdel (mem_hdel hi2.1 e) hi2.2,hy⟩)
 have hext:Ext (Own ρ H) w w':=q4.ext.mono fun x _ hx=>by
  rcases(hown0 x).1 hx with rfl|rfl
  ·exact⟨a,hia,a1⟩
  ·exact⟨b,hib,b1⟩
 have hrho:∀i x,ρ i=some x->rput ρ n bj i=some x:=fun i x hx=>by
  rw[rput_ne];exact hx
  rintro rfl;rw[hf.2.1 i (Nat.le_refl _) (by have:=hf.1;omega)]at hx;cases hx
 have hcar:Carry ρ (rput ρ n bj) w w' (OX Xs ρ H) (OX Xs (rput ρ n bj) ((n,fl ptc Y)::hset (hdel H b) a [.osl n 1 0 Y.length])):=⟨hrho,hext.size,fun x hx hn=>hext.keep x hx fun ho=>hn (.inr ho),hext.shape,hOO⟩
 have hndb:=hdel_nodup hr.nodup b
 refine⟨v,.tup [],rput ρ n bj,(n,fl ptc Y)::hset (hdel H b) a [.osl n 1 0 Y.length],n+4,rfl,⟨by have:=hf.1;omega,fun i hi he=>by rw[rput_ne (by omega)];exact hf.2.1 i (by omega) he,?_⟩,⟨?_,?_,?_,fun x hx=>Nat.lt_of_lt_of_le (hr.xold x hx) hext.size,?_⟩,?_,⟨hrho,by omega,hext,?_⟩,rfl,rfl,rfl⟩
 ·obtain⟨m,hm⟩:=hf.2.2
  exact⟨max m (n+1),fun i hi=>by rw[rput_ne (by omega)];exact hm i (by omega)⟩
 ·simp only[ids,List.map_cons,List.nodup_cons]
  have e:List.map (·.1) (hset (hdel H b) a [AV.osl n 1 0 Y.length])=ids (hdel H b):=hset_ids _ _ _
  rw[e]
  exact⟨fun hm=>hnH (hdel_in hr.nodup hm).1 rfl,hndb⟩
 ·have key:∀i x,i∈ids (hdel H b)->ρ i=some x->x≠bj:=by
   rintro i x hi hx rfl
   have hi2:=hdel_in hr.nodup hi
   by_cases e:i=a
   ·subst e;rw[a1]at hx;cases hx;exact hbj rfl
   ·exact hjX (.inr ⟨i,mem_hdel (mem_hdel hi2.1 e) hi2.2,hx⟩)
  intro i k x hi hk hx hy
  simp only[ids,List.map_cons,List.mem_cons]at hi hk
  have hi':i=n\/i∈ids (hdel H b):=hi.imp id fun h=>by rw[<-hset_ids (hdel H b) a [.osl n 1 0 Y.length]];exact h
  have hk':k=n\/k∈ids (hdel H b):=hk.imp id fun h=>by rw[<-hset_ids (hdel H b) a [.osl n 1 0 Y.length]];exact h
  rcases hi' with rfl|hi'<;>rcases hk' with rfl|hk'
  ·rfl
  ·rw[rput_n]at hx;cases hx
   rw[rput_ne (hnH (hdel_in hr.nodup hk').1)]at hy
   exact absurd rfl (key k _ hk' hy)
  ·rw[rput_n]at hy;cases hy
   rw[rput_ne (hnH (hdel_in hr.nodup hi').1)]at hx
   exact absurd rfl (key i _ hi' hx)
  ·rw[rput_ne (hnH (hdel_in hr.nodup hi').1)]at hx
   rw[rput_ne (hnH (hdel_in hr.nodup hk').1)]at hy
   exact hr.inj i k x (hdel_in hr.nodup hi').1 (hdel_in hr.nodup hk').1 hx hy
 ·intro i x hi hx
  simp only[ids,List.map_cons,List.mem_cons]at hi
  rcases hi with rfl|hi
  ·rw[rput_n]at hx;cases hx;exact fun hX=>hjX (.inl hX)
  ·have hi2:i∈ids (hdel H b):=by rw[<-hset_ids (hdel H b) a [.osl n 1 0 Y.length]];exact hi
   have hi3:=(hdel_in hr.nodup hi2).1
   rw[rput_ne (hnH hi3)]at hx
   exact hr.notX i x hi3 hx
 ·intro i ds hm
  rcases List.mem_cons.1 hm with hm|hm
  ·cases hm
   exact⟨bj,cj,ej,fj,rput_n,s2,⟨s3.1,.inl (s3.2.resolve_right (by omega))⟩,s4,s5,purs_vr _ _ (purs_flP Y) (VRs_carry (Carry.less hO1) _ _ s6)⟩
  ·rcases hset_mem hndb hm with ⟨rfl,rfl⟩|⟨hne2,hm⟩
   ·refine⟨ba,c0,e0,f0,by rw[rput_ne (hnH hia)];exact a1,r2,⟨r3.1,.inl (r3.2.resolve_right (by omega))⟩,r4,r5,?_⟩
    revert r6
    show VRs ρ1 w' _ [AV.osl j 1 0 Y.length] (c0.toList.take 1)->VRs (rput ρ n bj) w' _ [AV.osl n 1 0 Y.length] (c0.toList.take 1)
    generalize c0.toList.take 1=l
    intro h1
    match l,h1 with
    |[],h1=>simp only[VRs]at h1
    |[v],h1=>simp only[VRs,VR,and_true]at h1⊢;rw[rput_n,<-s1];exact h1
    |_::_::_,h1=>simp only[VRs,and_false]at h1
   ·obtain⟨b2',c2,e2,f2,m1,m2,m3,m4,m5,m6⟩:=hr.obj i ds (List.Sublist.subset (hdel_sub H b) hm)
    have hi2:i∈ids (hdel H b):=List.mem_map.2 ⟨_,hm,rfl⟩
    have hi3:=hdel_in hr.nodup hi2
    have hx1:b2'≠ba:=fun e=>hne2 (hr.inj i a b2' hi3.1 hia m1 (e▸a1))
    have hx2:b2'≠bb:=fun e=>hi3.2 (hr.inj i b b2' hi3.1 hib m1 (e▸b1))
    have hlt:=(Array.getElem?_eq_some_iff.1 m2).1
    exact⟨b2',c2,e2,f2,hrho i _ m1,by rw[q4.ext.keep b2' hlt fun hx=>((hown0 b2').1 hx).elim hx1 hx2];exact m2,m3,m4,m5,VRs_carry hcar _ _ m6⟩
 ·revert q3; simp only [VR]; exact fun h => by obtain ⟨vs, h1, h2⟩ := h; exact ⟨vs,h1,by cases hh:vs.toList with
   |nil=>simp only[VRs]
   |cons x l=>rw[hh]at h2;simp only[VRs]at h2⟩
 ·intro x hx
  rcases hown' x hx with rfl|hx
  ·rcases q4.own x ⟨j,hcv.2 _ (hgt_ids gj),s1⟩with h1|h1
   ·rcases(hown0 x).1 h1 with rfl|rfl
    ·exact absurd rfl hbj
    ·exact .inl ⟨b,hib,b1⟩
   ·exact .inr h1
  ·exact .inl (Own.sub (hdel_sub H b) hx)
theorem oqs_flQ (i l:Nat) (ds:List AV):∀X:List (List Str),oqs i 1 l ds->oqs i 1 l (fl ptc X++ds)
 |[],h=>h
 |m::X,h=>by
  have:=oqs_flQ i l ds X h
  simp only[fl,List.map_cons,List.flatten_cons,List.cons_append,List.nil_append,oqs,oq_pth,oq,true_and,ptc]at this⊢
  exact this
theorem fqs_flQ (i:Nat) (es:List (List AV)) (cs ds:List AV):∀X:List (List Str),fqs i 1 es cs (fl ptc X++ds)=fl ptc X++fqs i 1 es cs ds
 |[]=>rfl
 |m::X=>by
  have:=fqs_flQ i es cs ds X
  simp only[fl,List.map_cons,List.flatten_cons,List.cons_append,List.nil_append,fqs,fq,ptc,pth]at this⊢
  rw[this]
theorem fzs_push (i:Nat) (R:List (List Str)) (p:List Str):fzs i (fl sc p) (fl ptc R++[.osl i 1 0 p.length])=fl ptc (R++[p]):=by
 rw[fqs_eq (chkS p) (flS_le p) _ (oqs_flQ i _ _ R (by simp only[oqs,oq,and_self,if_true])),fqs_flQ,fl_app,fl_one]
 simp only[fqs,fq,Nat.beq_refl,cond_true,ptc,pth]
theorem BC.use {G:Prg} {f:Nat} {ar:AV->List AV} {X Y:List (List Str)} {H:Hp} {n a b:Nat} {Q:CPost} (h:BC G f ar X Y) (ha:hgt H a=some [.osl b 1 0 X.length]) (hb:hgt H b=some (fl ptc X)) (hab:Nat.beq a b=false) (ha4:a%4=0) (hb4:b%4=0)
  (hq:Q (.tup []) ((n,fl ptc Y)::hset (hdel H b) a [.osl n 1 0 Y.length]) (n+4)):TCall G f (ar (.ptr a 0)) H n Q:=by
 refine(h H n a b ha hb (fun e=>by rw[e,Nat.beq_refl]at hab;cases hab) ha4 hb4).mono ?_
 rintro r H' n' _ ⟨rfl,rfl,rfl⟩
 exact hq
def hdq (q:List Str):List (List Str):=if q.isEmpty then[]else[q]
def eachT (q:List Str) (t:Tr):List (List Str):=hdq q++pathsT q t
theorem cl_arg (q:List Str) (t:Tr) {ρ ρ':Rho} {w:World} {O O':Nat->Prop} {vs:List Value} {a:Nat} (e:ρ' 0=ρ a) (hO:∀b,O' b->O b) (h:VRs ρ w O [pth q,.agg (tcs t),.ptr a 0] vs):VRs ρ' w O' [pth q,.agg (tcs t),.ptr 0 0] vs:=by
 match vs,h with
 |[v1,v2,v3],h=>
  simp only[VRs]at h⊢
  refine⟨pur_vr _ _ (purs_pth q) (VR_carry (Carry.less hO) _ _ h.1),pur_vr _ _ (by simp only[pur,go_sem]) (VR_carry (Carry.less hO) _ _ h.2.1),?_,trivial⟩
  have h3:=h.2.2.1
  simp only[VR]at h3⊢;rw[e];exact h3
 |[],h=>simp only[VRs]at h
 |[_],h=>simp only[VRs,and_false]at h
 |[_,_],h=>simp only[VRs,and_false]at h
 |_::_::_::_::_,h=>simp only[VRs,and_false]at h
theorem each_arg (g:Nat) (q:List Str) (t:Tr) {ρ ρ':Rho} {w:World} {O O':Nat->Prop} {vs:List Value} {a:Nat} (e:ρ' 0=ρ a) (hO:∀b,O' b->O b) (h:VRs ρ w O [.agg (tcs t),pth q,.fn (.func g) [.ptr a 0]] vs):VRs ρ' w O' [.agg (tcs t),pth q,.fn (.func g) [.ptr 0 0]] vs:=by
 match vs,h with
 |[v1,v2,v3],h=>
  simp only[VRs]at h⊢
  refine⟨pur_vr _ _ (by simp only[pur,go_sem]) (VR_carry (Carry.less hO) _ _ h.1),pur_vr _ _ (purs_pth q) (VR_carry (Carry.less hO) _ _ h.2.1),?_,trivial⟩
  have h3:=h.2.2.1
  simp only[VR]at h3⊢
  obtain⟨us,h4,h5⟩:=h3
  refine⟨us,h4,?_⟩
  revert h5
  generalize us.toList=l
  intro h5
  match l,h5 with
  |[v],h5=>simp only[VRs,VR,and_true]at h5⊢;rw[e];exact h5
  |[],h5=>simp only[VRs]at h5
  |_::_::_,h5=>simp only[VRs,and_false]at h5
 |[],h=>simp only[VRs]at h
 |[_],h=>simp only[VRs,and_false]at h
 |[_,_],h=>simp only[VRs,and_false]at h
 |_::_::_::_::_,h=>simp only[VRs,and_false]at h
open Go Go.Proofs
set_option maxRecDepth 100000
theorem pathsK_nil (q:List Str):pathsK q [] []=[]:=by simp[pathsK]
theorem hdq_nil {q:List Str} (h:q.length=0):hdq q=[]:=by rw[List.eq_nil_of_length_eq_zero h];rfl
theorem hdq_cons {q:List Str} (h:0<q.length):hdq q=[q]:=by cases q with
  |nil=>simp at h
  |cons a q=>rfl
theorem eachT_ne (q:List Str) (n:Str) (t:Tr):eachT (q++[n]) t=[q++[n]]++pathsT (q++[n]) t:=by rw[eachT,hdq_cons (by simp)]
theorem hdq_len (q:List Str):(hdq q).length<=1:=by unfold hdq;split<;>simp
theorem cl1_ok (q:List Str) (t:Tr) (R:List (List Str)) (hq:q.length<2^40) (hR:R.length<2^41):TCw 1 G 63 [pth q,.agg (tcs t),.ptr 0 0] [(0,[.osl 4 1 0 R.length]),(4,fl ptc R)] 8 (fun r H1 _=>r=.tup []/\∃H2 j,HC H1 H2/\hgt H2 0=some [.osl j 1 0 (R++hdq q).length]/\hgt H2 j=some (fl ptc (R++hdq q))/\j≠0/\j%4=0):=by
 refine TCw_enter (c:=bd Tryz.f63) Tryz.func63 kr kr (tt_eq (F:=[(0,pth q),(1,.agg (tcs t)),(2,.ptr 0 0)]) kr ?_)
 refine Rr (Fn2 [0,2] [] ([(8,tcs t)]++·) 12 (Rr (Av0 2 6 [(5,pth q)] (lnm q sc) (Cn1 (decide ((0:Int)<((q.length:Int):Int))) [0,2] [] (Ki/\·) ⟨rfl,fun hc3 c3=>?_,fun hc3 c3=>?_⟩))))
 refine Qn [0,0,0,6,14,31,63] [(0,[]),(2,[]),(1,[0]),(3,[0]),(4,[0]),(5,[]),(6,[])] (qAn3 4 [(11,.osl 16 1 0 (0+(q.map (fun s=>[AV.str s])).length)),(9,.osl 12 1 0 0),(10,pth q),(8,.osl 4 1 0 R.length)] ([(16,apd [] (0*1) ((q.map (fun s=>[AV.str s])).flatten))]++·) 20 ((0+1<=1/\0<1)/\(0*1<=16777216)/\(((0+1<=1/\0<1)/\(AV.osl 4 1 0 R.length=(.osl 4 1 0 R.length:AV)))/\True)/\True/\(1=1/\0*1<=0/\0<16/\(0+(q.map (fun s=>[AV.str s])).length)*16<=140737488355328)/\(((0+1<=1/\0<1)/\(AV.osl 4 1 0 R.length=(.osl 4 1 0 R.length:AV)))/\True)/\·) ⟨dc,dc,⟨⟨dc,rfl⟩,trivial⟩,trivial,⟨rfl,gl,dc,gl⟩,⟨⟨dc,rfl⟩,trivial⟩,runq_v (v':=.osl 16 1 0 q.length) (by rw[Nat.zero_add,List.length_map]) (runq_h (cs':=fl sc q) (app0_str _) (qAn3 2 [(13,.osl 24 1 0 (R.length+1)),(12,.osl 20 1 0 1)] (fun _=>[(24,apd (fl ptc R) (R.length*1) ((([.osl 16 1 0 q.length]:List AV).drop 0).take (1*1))),(20,[.osl 16 1 0 q.length]),(16,fl sc q),(8,tcs t),(0,[.osl 4 1 0 R.length])]) 28 ((1*1<=16777216)/\(((0+1<=1/\0<1)/\(AV.osl 4 1 0 R.length=(.osl 4 1 0 R.length:AV)))/\True)/\(0+1*1<=([.osl 16 1 0 q.length]:List AV).length)/\(1=1/\R.length*1<=(fl ptc R).length/\0<24/\(R.length+1)*24<=140737488355328)/\(True)/\·) ⟨dc,⟨⟨dc,rfl⟩,trivial⟩,(by first|decide|simp),⟨rfl,by(first|omega|(simp only[LL,flPl];omega)),dc,by(first|omega|(simp only[LL,flPl];omega))⟩,trivial,?_⟩))⟩)
 refine runq_H (H':=[(24,fl ptc R++[.osl 16 1 0 q.length]),(20,[.osl 16 1 0 q.length]),(16,fl sc q),(8,tcs t),(0,[.osl 4 1 0 R.length])]) (by rw[show apd (fl ptc R) (R.length*1) ((([.osl 16 1 0 q.length]:List AV).drop 0).take (1*1))=fl ptc R++[.osl 16 1 0 q.length]from(by unfold apd;rw[fl_full ptc_len R rfl];rfl)]) ?_
 refine qGn3 [] (Hw [(0,[.osl 24 1 0 (R.length+1)])] [] ·) 28 ((true=true/\1=1/\0+1<=1)/\(True)/\·) ⟨dc,trivial,nk_n (Rtn (fun Z=>Z) (.tup []) ?_)⟩
 exact⟨_,List.Sublist.refl _,rfl,_,24,HC.fz (i:=16) (cs:=fl sc q) kr,by rw[hdq_cons om,List.length_append];kernel_rfl,by rw[hdq_cons om,<-fzs_push 16];kernel_rfl,dc,dc⟩
 refine Sk (Rtn (fun Z=>Z) (.tup []) ?_)
 exact⟨_,List.Sublist.refl _,rfl,_,4,HC.refl _,by rw[hdq_nil om,List.append_nil];kernel_rfl,by rw[hdq_nil om,List.append_nil];kernel_rfl,dc,dc⟩
theorem cl_ok (q:List Str) (t:Tr) (R:List (List Str)) (hq:q.length<2^40) (hR:R.length<2^41):BC G 63 (fun p=>[pth q,.agg (tcs t),p]) R (R++hdq q):=BC_lift (fun e hO h=>cl_arg _ _ e hO h) (cl1_ok q t R hq hR)
theorem each1_ok:∀(N:Nat) (q:List Str) (t:Tr) (R:List (List Str)),t.W=N->wfT t->wS q+t.W<2^40->R.length+t.W<2^40->TCw 1 G 62 [.agg (tcs t),pth q,.fn (.func 63) [.ptr 0 0]] [(0,[.osl 4 1 0 R.length]),(4,fl ptc R)] 8 (fun r H1 _=>r=.tup []/\∃H2 j,HC H1 H2/\hgt H2 0=some [.osl j 1 0 (R++eachT q t).length]/\hgt H2 j=some (fl ptc (R++eachT q t))/\j≠0/\j%4=0):=by
 intro N;refine Nat.strongRecOn N fun N ih=>?_;intro q t R hN hwf hw hR;have hWe:=W_eq t;have hpl:=wS_len q;have hks:=Ws_len t.kids;have hns:=wS_len t.names;have hkn:=wfT_len hwf;have hhl:=hdq_len q
 refine TCw_enter (c:=bd Tryz.f62) Tryz.func62 kr kr (tt_eq (F:=[(0,.agg (tcs t)),(1,pth q),(2,.fn (.func 63) [.ptr 0 0])]) kr ?_)
 refine Rr (Fn2 [1,2] [(3,.ptr 8 0)] ([(8,tcs t)]++·) 12 (Rr (Bc1 4 [(10,.agg (tcs t)),(9,pth q),(8,.fn (.func 63) [.ptr 0 0])] 63 [pth q,.agg (tcs t),.ptr 0 0] 11 ((0+5<=5/\0<5)/\·) ⟨dc,BC.use (a:=0) (b:=4) (cl_ok q t R om om) kr kr kr dc dc ?_⟩)))
 refine Ke (Fn0 [1,2,3] [] (Rr (Av1 3 14 [(13,pth t.names),(12,.ptr 8 3)] (lnm t.names sc) (((1:Nat)≠0)/\(3+1<=5/\3<5)/\·) ⟨dc,dc,Fn0 [1,2,3,13,14] [(15,.i 0)] ?_⟩)))
 refine Bl (h_pm (H':=[(12,fl ptc (R++hdq q)),(0,[.osl 12 1 0 ((R++hdq q).length)]),(8,tcs t)]) (List.Perm.cons _ (List.Perm.swap _ _ _)) (h_l (fun(k:Nat)=>([(1,pth q),(2,.fn (.func 63) [.ptr 0 0]),(3,.ptr 8 0),(13,pth t.names),(14,.i t.names.length),(15,.i k)]:Fr)) (fun(k:Nat)=>([(12,fl ptc (R++hdq q++pathsK q (t.names.take k) (t.kids.take k))),(0,[.osl 12 1 0 ((R++hdq q++pathsK q (t.names.take k) (t.kids.take k)).length)]),(8,tcs t)]:Hp)) (fun(k:Nat) cn=>(k<=t.names.length)/\cn=16) (fun(k:Nat)=>t.names.length-k) 0 kr ?_ ?_ ?_ ?_))
 refine⟨?_,rfl⟩;exact Nat.zero_le _
 exact⟨kr,kr,kr,kr,kr,kr,trivial⟩
 exact(sub_c (by rw[List.take_zero,List.take_zero,pathsK_nil,List.append_nil]) (sub_c (by rw[List.take_zero,List.take_zero,pathsK_nil,List.append_nil]) (sub_c kr (List.nil_sublist _))))
 rintro k n1 hI
 (try dsimp only at hI)
 obtain⟨hi1,rfl⟩:=hI
 refine Rr (Fn1 [1,2,3,13,14,15] [(16,.bool (decide ((k:Int)<(t.names.length:Int))))] (Ki/\·) ⟨rfl,Sq fun K5 hK5=>?_⟩)
 refine Cc (decide ((k:Int)<(t.names.length:Int))) (fun hc6 c6=>?_) fun hc6 c6=>?_
 refine Sk (Jn (hK5 (Kp [1,2,3,13,14,15] (Sq fun K7 hK7=>?_))))
 refine Bl (Rr (Av1 2 18 [(17,.i k)] (congrArg AV.pat (mg_str t.names k om)) ((1=1/\(0:Int)<=(k:Int)/\(k:Int)<((t.names.map (fun s=>[AV.str s])).length:Int))/\·) ⟨⟨rfl,om,lmo⟩,Fn1 [1,2,3,13,14,15] [(7,.str (t.names.getD k default)),(6,.i k)] ((1<=1/\0<1)/\·) ⟨dc,?_⟩⟩))
 have hc1:=pathsK_len q (t.names.take k) (t.kids.take k);have hc4:=cnts_W (t.kids.take k);have hc5:=Ws_take t.kids k;have hc6:=Ws_take2 t.kids k om;have hc7:(R++hdq q++pathsK q (t.names.take k) (t.kids.take k)).length=R.length+(hdq q).length+(pathsK q (t.names.take k) (t.kids.take k)).length:=by simp only[List.length_append]
 refine Qb [0,1,0,7,15,0,0,96,0,511] [(0,[]),(1,[]),(2,[]),(3,[]),(4,[]),(5,[]),(6,[]),(8,[]),(7,[1,4]),(9,[])] (fun h=>Bn (Jn (hK7 h))) (qAv1 4 23 [(22,.i k),(21,.sl 5 (t.kids.map trc)),(20,.ptr 8 4)] (congrArg AV.pat (mg_trc t.kids k om)) (((1:Nat)≠0)/\(4+1<=5/\4<5)/\(5=5/\(0:Int)<=(k:Int)/\(k:Int)<((t.kids.map trc).length:Int))/\·) ⟨dc,dc,⟨rfl,om,lmo⟩,qBc1 5 [(28,.fn (.func 63) [.ptr 0 0]),(26,.str (t.names.getD k default)),(25,pth q),(24,.agg (tcs (t.kids.getD k default)))] [1,4] 90 [pth q,.str (t.names.getD k default)] 27 ((5<=5/\0<5)/\·) ⟨dc,PE.use (below_ok q (t.names.getD k default) om) (Kq (p:=(((4+1<=5/\4<5)/\(AV.sl 5 (t.kids.map trc)=(.sl 5 (t.kids.map trc):AV)))/\((5<=5/\0<5)/\(AV.agg (tcs (t.kids.getD k default))=(.agg (tcs (t.kids.getD k default)):AV)))/\True)) ⟨⟨dc,rfl⟩,⟨dc,rfl⟩,trivial⟩ ?_)⟩⟩)
 refine qBc0 1 [] [] 62 [.agg (tcs (t.kids.getD k default)),pth (q++[t.names.getD k default]),.fn (.func 63) [.ptr 0 0]] 29 ?_
 have hW:=Ws_get t.kids k om
 have hSn:=wS_get t.names k om
 have hSs:=pwS_snoc q (t.names.getD k default)
 have hcn:=cnt_W (t.kids.getD k default)
 refine BC.use (a:=0) (b:=12) (BC_lift (ar:=fun p=>[.agg (tcs (t.kids.getD k default)),pth (q++[t.names.getD k default]),.fn (.func 63) [p]]) (fun e hO h=>each_arg 63 _ _ e hO h) (ih _ om (q++[t.names.getD k default]) (t.kids.getD k default) (R++hdq q++pathsK q (t.names.take k) (t.kids.take k)) rfl (wfT_kid hwf om) om om)) kr kr kr dc dc ?_
 refine Kq (p:=(True)) trivial ?_
 refine qFn0 [1,2,3,13,14,15] [] (Rn (Av1 1 30 [] (cI (wn1 k om)) (Ki/\·) ⟨rfl,Gn0 [(15,.i ((k+1:Nat):Int))] (nk_n ?_)⟩))
 refine Lr (k+1) [(0,0),(8,8),(16,12)] 16 [(1,pth q),(2,.fn (.func 63) [.ptr 0 0]),(3,.ptr 8 0),(13,pth t.names),(14,.i t.names.length),(15,.i ((k+1:Nat):Int))] [(16,fl ptc (R++hdq q++pathsK q (t.names.take k) (t.kids.take k)++eachT (q++[t.names.getD k default]) (t.kids.getD k default))),(0,[.osl 16 1 0 ((R++hdq q++pathsK q (t.names.take k) (t.kids.take k)++eachT (q++[t.names.getD k default]) (t.kids.getD k default)).length)]),(8,tcs t)] [false,true,true] ?_ ?_ (by(try ((try dsimp only);rw[pathsK_take q t k om hkn,<-List.append_assoc,<-List.append_assoc,List.append_assoc (R++hdq q++pathsK q (t.names.take k) (t.kids.take k)),<-eachT_ne]));try kernel_rfl) kr
 (try dsimp only);omega
 refine⟨?_,rfl⟩;(try dsimp only);omega
 refine Xt (Jx (Lx (Bh (Rtn (fun Z=>Z) (.tup []) ?_))))
 have hy:R++hdq q++pathsK q (t.names.take k) (t.kids.take k)=R++eachT q t:=by rw[List.take_of_length_le om,List.take_of_length_le om,<-pathsT_eq,eachT,List.append_assoc]
 exact⟨_,List.Sublist.refl _,rfl,_,12,HC.refl _,by rw[<-hy];kernel_rfl,by rw[<-hy];kernel_rfl,dc,dc⟩
theorem each_bc (q:List Str) (t:Tr) (R:List (List Str)) (hwf:wfT t) (hw:wS q+t.W<2^40) (hR:R.length+t.W<2^40):BC G 62 (fun p=>[.agg (tcs t),pth q,.fn (.func 63) [p]]) R (R++eachT q t):=BC_lift (fun e hO h=>each_arg _ _ _ e hO h) (each1_ok _ q t R rfl hwf hw hR)
theorem pathsOf_ok (t:Tr) (hok:treeOk t=true) (hw:t.W<2^39):PE G 32 [.agg (tcs t)] (.sl 1 ((pathsT [] t).map ptc)):=by
 refine Pe Tryz.func32 ?_
 refine Rr (Fn2 [] [(1,.ptr 0 0)] ([(0,tcs t)]++·) 4 (Rr (Fn3 [1] [(3,.ptr 8 0)] ([(8,[.osl 4 1 0 0]),(4,[])]++·) 12 ((0*1<=16777216)/\(true=true/\1=1/\0+1<=1)/\·) ⟨dc,dc,Rr ?_⟩)))
 refine Bc1 3 [(6,.fn (.func 63) [.ptr 8 0]),(5,.agg (tcs t))] 62 [.agg (tcs t),.nils,.fn (.func 63) [.ptr 8 0]] 7 ((0+5<=5/\0<5)/\·) ⟨dc,?_⟩
 refine TCall_le [.agg (tcs t),pth [],.fn (.func 63) [.ptr 8 0]] (by simp[lea,leas,pth,Tr.none,tcs,clc]) ?_
 refine BC.use (a:=8) (b:=4) (each_bc [] t [] (treeOk_wf hok) (by simp only[wS];omega) (by simp only[List.length_nil];omega)) kr kr kr dc dc ?_
 refine Ke (Fn0 [3] [] (Rr (Fn1 [] [(2,.osl 12 1 0 (([]++eachT [] t).length))] ((0+1<=1/\0<1)/\·) ⟨dc,Fz 12 1 (([]++eachT [] t).length) (([]++eachT [] t).map ptc) (fl ptc ([]++eachT [] t)) [(2,.osl 12 1 0 (([]++eachT [] t).length))] [] [] (chkP _) (flP_le _) ?_⟩)))
 refine Rt (.sl 1 (([]++eachT [] t).map ptc)) (fin_lea ?_)
 rw[show[]++eachT [] t=pathsT [] t by simp[eachT,hdq]];exact lea_refl _
theorem eqF_ok (l:List No) (Q:List (List Str)) (hn:l.length<2^40) (hq:Q.length<2^40) (hl:∀x∈l,wS x.path<2^40) (hQ:∀p∈Q,wS p<2^40):PE G 31 [.sl 2 (l.map ndc),.sl 1 (Q.map ptc),.fn (.func 33) []] (.bool (l.map (·.path)==Q)):=by
 refine Pe Tryz.func31 ?_
 refine Rr (Fn0 [0,1,2] [] (Sq fun K2 hK2=>?_))
 refine Rr (Av0 2 11 [(10,.sl 2 (l.map ndc))] (lnm l ndc) (Av0 2 13 [(12,.sl 1 (Q.map ptc))] (lnm Q ptc) (Cn1 (!decide ((l.length:Int)=(Q.length:Int))) [0,1,2] [] (Ki/\·) ⟨rfl,fun hc4 c4=>?_,fun hc4 c4=>?_⟩)))
 refine Rr (Fn0 [] [(6,.bool false)] (Rt (.bool false) (fin_lea ?_)))
 rw[show(l.map (·.path)==Q)=false by rw[beq_eq_false_iff_ne];intro e;have h:=congrArg List.length e;rw[List.length_map]at h;omega];exact lea_refl _
 refine Sk (Jn (hK2 (Kp [0,1,2] (Sq fun K6 hK6=>?_))))
 refine Rr (Av0 2 16 [(15,.sl 2 (l.map ndc))] (lnm l ndc) (Fn0 [1,2,15,16] [(17,.i 0)] (Bl (h_l (fun(k:Nat)=>([(1,.sl 1 (Q.map ptc)),(2,.fn (.func 33) []),(15,.sl 2 (l.map ndc)),(16,.i l.length),(17,.i k)]:Fr)) (fun(k:Nat)=>([]:Hp)) (fun(k:Nat) cn=>(k<=l.length/\(l.map (·.path)).take k=Q.take k)/\cn=0) (fun(k:Nat)=>l.length-k) 0 kr ?_ ?_ ?_ ?_))))
 refine⟨?_,rfl⟩;exact⟨Nat.zero_le _,rfl⟩
 exact⟨kr,kr,kr,kr,kr,trivial⟩
 exact(List.nil_sublist _)
 rintro k n1 hI
 (try dsimp only at hI)
 obtain⟨⟨hi1,hi2⟩,rfl⟩:=hI
 refine Rr (Fn1 [1,2,15,16,17] [(18,.bool (decide ((k:Int)<(l.length:Int))))] (Ki/\·) ⟨rfl,Sq fun K9 hK9=>?_⟩)
 refine Cc (decide ((k:Int)<(l.length:Int))) (fun hc10 c10=>?_) fun hc10 c10=>?_
 refine Sk (Jn (hK9 (Kp [1,2,15,16,17] (Sq fun K11 hK11=>?_))))
 refine Bl (Rr (Av1 2 20 [(19,.i k)] (congrArg AV.pat (mg_nd l k om)) ((2=2/\(0:Int)<=(k:Int)/\(k:Int)<((l.map ndc).length:Int))/\·) ⟨⟨rfl,om,lmo⟩,Fn3 [1,2,15,16,17] [(7,.i k),(8,.ptr 0 0)] ([(0,ndc (l.getD k default))]++·) 4 ((2<=2/\0<2)/\(true=true/\2=2/\0+2<=2)/\·) ⟨dc,dc,Rr ?_⟩⟩))
 refine Av1 3 24 [(23,.i k),(22,.sl 1 (Q.map ptc))] (congrArg AV.pat (mg_pp Q k om)) ((1=1/\(0:Int)<=(k:Int)/\(k:Int)<((Q.map ptc).length:Int))/\·) ⟨⟨rfl,om,lmo⟩,Fn1 [1,2,8,15,16,17] [(9,pth (Q.getD k default))] ((1<=1/\0<1)/\·) ⟨dc,?_⟩⟩
 have hgn:=hl _ (getD_mem l k default om);have hgl:=wS_len (l.getD k default).path;have hgq:=hQ _ (getD_mem Q k default om);have hgm:=wS_len (Q.getD k default)
 refine Rr (Pc1 4 [(28,pth (Q.getD k default)),(27,.agg (ndc (l.getD k default))),(26,.fn (.func 33) [])] 29 (0+2<=2/\0<2) dc (nEq_ok (l.getD k default) (Q.getD k default) om om) (Cn0 (!((l.getD k default).path==(Q.getD k default))) [1,2,15,16,17] [] ⟨fun hc15 c15=>?_,fun hc15 c15=>?_⟩))
 refine Rr (Fn0 [] [(6,.bool false)] (Rt (.bool false) (fin_lea ?_)))
 rw[show(l.map (·.path)==Q)=false by rw[beq_eq_false_iff_ne];intro e;have h:=hc15;rw[<-e,map_getN _ _ om]at h;simp at h];exact lea_refl _
 refine Sk (Bn (Jn (hK11 (Kp [1,2,15,16,17] (Rn (Av1 1 31 [] (cI (wn1 k om)) (Ki/\·) ⟨rfl,Gn0 [(17,.i ((k+1:Nat):Int))] (nk_n ?_)⟩))))))
 refine Lr (k+1) [] 0 [(1,.sl 1 (Q.map ptc)),(2,.fn (.func 33) []),(15,.sl 2 (l.map ndc)),(16,.i l.length),(17,.i ((k+1:Nat):Int))] [] [] ?_ ?_ kr kr
 (try dsimp only);omega
 refine⟨?_,rfl⟩;(try dsimp only);exact⟨om,by rw[take_snoc (l.map (·.path)) k default lmo,take_snoc Q k default om,hi2,map_getN _ _ om];congr 2;have h:=hc15;simpa using h⟩
 refine Xt (Jx (Lx (Bh (Jn (hK6 (Kp [] (Rr (Fn0 [] [(6,.bool true)] (Rt (.bool true) (fin_lea ?_))))))))))
 rw[show(l.map (·.path)==Q)=true by rw[beq_iff_eq,<-List.take_length (l:=l.map (·.path)),<-List.take_length (l:=Q),List.length_map,show Q.length=k by omega,show l.length=k by omega];exact hi2];exact lea_refl _
theorem nOk_ok (N:Nds) (t:Tr) (hl:∀x∈N.list,wS x.path<2^40) (hn:N.list.length<2^20) (hb: -2^50<N.next/\N.next<2^50) (hw:t.W<2^39):PE G 12 [.agg (nsc N),.agg (tcs t)] (.bool (ndOk N t)):=by
 refine Pe Tryz.func12 ?_
 refine Rr (Fn2 [] [(3,.ptr 4 0),(2,.ptr 0 0)] ([(4,tcs t),(0,nsc N)]++·) 8 (Sq fun K2 hK2=>?_))
 refine Rm 12 ((!(nsOk N))||(!(treeOk t))) [2,3] ?_ ?_
 refine Pc1 2 [(5,.agg (nsc N))] 6 (0+2<=2/\0<2) dc (nWell_ok N hl hn hb) (An0 2 [(8,.bool (!(nsOk N))),(7,.bool (!(nsOk N)))] (Rg (fun hg4 g4=>?_) (fun hg4 g4=>?_)))
 refine Mn0 true (by rw[hg4];rfl)
 refine Pc1 2 [(9,.agg (tcs t))] 10 (0+5<=5/\0<5) dc (TreeOk_ok t om) (Mn0 (!(treeOk t)) (by rw[hg4];rfl))
 refine Cc ((!(nsOk N))||(!(treeOk t))) (fun hc5 c5=>?_) fun hc5 c5=>?_
 refine Rr (Fn0 [] [(4,.bool false)] (Rt (.bool false) (fin_lea ?_)))
 rw[show ndOk N t=false by unfold ndOk;have h:=hc5;rw[Bool.and_eq_false_iff,Bool.and_eq_false_iff];simp only[Bool.or_eq_true,Bool.not_eq_true']at h;rcases h with h|h<;>simp[h]];exact lea_refl _
 refine Sk (Jn (hK2 (Kp [2,3] (Qr [0,1,0,4,15,31] [(0,[]),(1,[]),(2,[]),(3,[1]),(4,[]),(5,[])] (qBc1 4 [(15,.agg (tcs t)),(14,.sl 2 (N.list.map ndc)),(13,.ptr 0 1)] [1] 32 [.agg (tcs t)] 16 (((1:Nat)≠0)/\(1+1<=2/\1<2)/\(0+5<=5/\0<5)/\·) ⟨dc,dc,dc,?_⟩)))))
 have hok:treeOk t=true:=by have h:=hc5;simp_all
 refine PE.use (pathsOf_ok t hok om) ?_
 refine Kq (p:=(((1+1<=2/\1<2)/\(AV.sl 2 (N.list.map ndc)=(.sl 2 (N.list.map ndc):AV)))/\True)) ⟨⟨dc,rfl⟩,trivial⟩ ?_
 refine qBc0 1 [] [] 31 [.sl 2 (N.list.map ndc),.sl 1 ((pathsT [] t).map ptc),.fn (.func 33) []] 17 ?_
 refine PE.use (eqF_ok N.list (pathsT [] t) om (by first|omega|(have:=pathsT_len [] t;have:=cnt_W t;omega)) hl (fun p hp=>by have:=pathsT_wS [] t p hp;have hw0:wS []=0:=rfl;omega)) ?_
 refine Kq (p:=(True)) trivial ?_
 refine qFn0 [] [(4,.bool (N.list.map (·.path)==(pathsT [] t)))] (Rt (.bool (N.list.map (·.path)==(pathsT [] t))) (fin_lea ?_))
 rw[show ndOk N t=(N.list.map (·.path)==(pathsT [] t)) by unfold ndOk;have h:=hc5;simp only[Bool.or_eq_false_iff,Bool.not_eq_false']at h;rw[h.1,h.2,Bool.true_and,Bool.true_and,Bool.eq_iff_iff,beq_iff_eq,beq_iff_eq];exact eq_comm];exact lea_refl _
open Go Go.Proofs Go.Sort Go.Shelf
section
structure RV {α:Type} (fc:α->List AV) (k:Nat) (B:α->Prop) (ρ:Rho) (w:World) (O:Nat->Prop) where
 x:α
 vs:List Value
 len:vs.length=k
 on:∀v∈vs,one v=true
 vr:VRs ρ w O (fc x) vs
 bd:B x
variable {α:Type} {fc:α->List AV} {k:Nat} {B:α->Prop} {ρ:Rho} {w:World} {O:Nat->Prop}
theorem rows_of (hk:∀x,(fc x).length=k):∀(X:List α) (vals:List Value),VRs ρ w O (fl fc X) vals->(∀v∈vals,one v=true)->(∀x∈X,B x)->∃D:List (RV fc k B ρ w O),D.map (·.x)=X/\(D.map (·.vs)).flatten=vals
 |[],vals,h,_,_=>by
  cases vals with
  |nil=>exact⟨[],rfl,rfl⟩
  |cons v vals=>simp only[fl,List.map_nil,List.flatten_nil,VRs]at h
 |x::X,vals,h,h1,hb=>by
  have e:fl fc (x::X)=fc x++fl fc X:=by simp[fl]
  rw[e]at h
  have h2:=VRs_take k h
  have h3:=VRs_drop k h
  rw[List.take_left' (hk x)]at h2
  rw[List.drop_left' (hk x)]at h3
  obtain⟨D,e1,e2⟩:=rows_of hk X _ h3 (fun v hv=>h1 v (List.mem_of_mem_drop hv)) (fun y hy=>hb y (List.mem_cons_of_mem _ hy))
  exact⟨⟨x,vals.take k,by rw[<-VRs_length h2,hk],fun v hv=>h1 v (List.mem_of_mem_take hv),h2,hb x List.mem_cons_self⟩::D,by rw[List.map_cons,e1],by rw[List.map_cons,List.flatten_cons,e2,List.take_append_drop]⟩
theorem flat_get {β γ:Type} {g:β->List γ} {k:Nat} (hk:∀x,(g x).length=k) (h0:0<k):∀(D:List β) (t:Nat),(D.map g).flatten[t]?=(D[t/k]?).bind fun x=>(g x)[t%k]?
 |[],t=>by simp
 |x::D,t=>by
  rw[List.map_cons,List.flatten_cons]
  rcases Nat.lt_or_ge t k with h|h
  ·rw[List.getElem?_append_left (by rw[hk];exact h),Nat.div_eq_of_lt h,Nat.mod_eq_of_lt h];rfl
  ·rw[List.getElem?_append_right (by rw[hk];exact h),hk,flat_get hk h0 D (t-k)]
   have e1:t/k=(t-k)/k+1:=by rw[Nat.div_eq_sub_div h0 h]
   have e2:t%k=(t-k)%k:=by rw[Nat.mod_eq_sub_mod h]
   rw[e1,e2];rfl
theorem flat_len {β γ:Type} {g:β->List γ} {k:Nat} (hk:∀x,(g x).length=k):∀D:List β,((D.map g).flatten).length=D.length*k
 |[]=>by simp
 |x::D=>by rw[List.map_cons,List.flatten_cons,List.length_append,hk,flat_len hk D,List.length_cons,Nat.succ_mul,Nat.add_comm]
theorem flatK_get {β:Type} [Inhabited β] {g:β->List Value} {k:Nat} (hk:∀x,(g x).length=k) (h0:0<k) (d:Array β) (t:Nat) (ht:t<d.size*k):(d.toList.map g).flatten[t]?=some (flatK g k d)[t]! :=by
 have h1:t/k<d.size:=(Nat.div_lt_iff_lt_mul h0).2 ht
 rw[get_flatK g k d t ht,flat_get hk h0]
 have e:d.toList[t/k]?=some d[t/k]! :=by
  rw[Array.getElem?_toList,getElem!_pos d _ h1,Array.getElem?_eq_getElem h1]
 rw[e]
 show(g d[t/k]!)[t%k]?=_
 have h2:t%k<(g d[t/k]!).length:=by rw[hk];exact Nat.mod_lt _ h0
 rw[List.getElem?_eq_getElem h2,getElem!_pos (g d[t/k]!) (t%k) h2]
theorem sw_at {β:Type} [Inhabited β] (enc:β->List Value) (k:Nat) (w:World) (b off m:Nat) (dk:Array β) (os:Array Obj) {i:Nat} (hi:i<w.heap.size):(sortWorldK enc k w b off m dk os).heap[i]?=if b=i then(w.heap[i]?).map (onCells (putCells id off (flatK enc k dk)))else w.heap[i]?:=by
 show((w.heap.modify b (onCells (putCells id off (flatK enc k dk))))++os)[i]?=_
 rw[Array.getElem?_append_left (by rw[Array.size_modify];exact hi),Array.getElem?_modify]
theorem sw_ext {β:Type} [Inhabited β] (enc:β->List Value) (k:Nat) (w:World) (b off m:Nat) (dk:Array β) (os:Array Obj):Ext (fun x=>x=b) w (sortWorldK enc k w b off m dk os):=by
 refine⟨rfl,rfl,rfl,?_,fun i hi hn=>?_,fun i cs e f hc=>?_,Nat.le_add_right _ _⟩
 ·show w.heap.size<=((w.heap.modify b (onCells (putCells id off (flatK enc k dk))))++os).size
  rw[Array.size_append,Array.size_modify];omega
 ·rw[sw_at enc k w b off m dk os hi,if_neg (fun e=>hn e.symm)]
 ·have hi:=(Array.getElem?_eq_some_iff.1 hc).1
  rw[sw_at enc k w b off m dk os hi,hc]
  split
  ·exact⟨_,rfl,by simp[putCells]⟩
  ·exact⟨cs,rfl,rfl⟩
theorem ext_grow {W w':World} (h:Ext (fun _=>False) W w'):∃q os,w'=grow (W.drewN q) os:=by
 refine⟨w'.drawn-W.drawn,w'.heap.extract W.heap.size w'.heap.size,?_⟩
 have hh:w'.heap=W.heap++w'.heap.extract W.heap.size w'.heap.size:=by
  apply Array.ext_getElem?
  intro i
  rcases Nat.lt_or_ge i W.heap.size with hi|hi
  ·rw[h.keep i hi (fun x=>x),Array.getElem?_append_left hi]
  ·rw[Array.getElem?_append_right hi,Array.getElem?_extract]
   have:=h.size
   split
   ·congr 1;omega
   ·rw[Array.getElem?_eq_none (by omega)]
 cases w' with
 |mk hp tp dr os out=>
  obtain⟨h1,h2,h3,_,_,_,h7⟩:=h
  simp only at h1 h2 h3 h7 hh⊢
  unfold grow World.drewN
  rw[h1,h2,h3]
  congr 1
  all_goals first|exact hh|(show dr=W.drawn+(dr-W.drawn);omega)
theorem one_cell {v:Value} (h:one v=true):v.oneCell'=true:=by
 cases v<;>first|rfl|exact h
variable [Inhabited α]
omit [Inhabited α] in
theorem sort_tc {G:Prg} {rn:Ren} {f g:Nat} (L:SlLaysF0.n6 G.P rn) (hf:rn.f 6=f) (aE:∀w,(isAgg (rn.t 24)).run G.P w=.ok true w) (zE:∀w,(Go.sizeOf (rn.t 24)).run G.P w=.ok k w) (eg:Enters G.P g)
  (hk:∀x,(fc x).length=k) (h0:0<k) {cmp:α->α->Int} (hO:SWO (ltOf cmp)) (hc:∀a b,B a->B b->PE G g [.agg (fc a),.agg (fc b)] (.int .i64 (cmp a b)))
  (dx:α) (dv:List Value) (hd1:dv.length=k) (hd2:∀v∈dv,one v=true) (hd3:∀ρ w O,VRs ρ w O (fc dx) dv) (hdB:B dx) (hpf:∀x,purs (fc x)=true)
  (X:List α) (hB:∀x∈X,B x) (hsz:X.length<2^60):
  XC G f (fun i=>.osl i k 0 X.length) [.fn (.func g) []] (fl fc X) fun r cs=>r=.tup []/\∃Y,cs=fl fc Y/\Y.Perm X/\Y.Pairwise fun a b=>0<=cmp b a:=by
 subst hf
 intro H n id hid hcl X0 ρ w vs hfr hr hv
 obtain⟨b,c,e,fz,k1,k2,k3,k4,k5,k6⟩:=hr.obj id _ (hgt_mem hid)
 have hlen:(fl fc X).length=X.length*k:=fl_len hk X
 have hbs:b<w.heap.size:=(Array.getElem?_eq_some_iff.1 k2).1
 have hidH:=hgt_ids hid
 obtain⟨v1,v2,rfl⟩:∃v1 v2,vs=#[v1,v2]:=by
  have hl:=VRs_length hv
  cases vs with
  |mk l=>
   match l,hl with
   |[x,y],_=>exact⟨x,y,rfl⟩
 simp only[VRs,and_true]at hv
 obtain⟨ha1,ha2⟩:=hv
 simp only[VR]at ha1 ha2
 obtain⟨b',cap,o',cs',e',f',p1,rfl,p2,p3,p4,p5⟩:=ha1
 rw[k1]at p1;cases p1
 obtain⟨us,rfl,hus⟩:=ha2
 obtain rfl:us=#[]:=by
  cases us with
  |mk l=>cases l with
   |nil=>rfl
   |cons x l=>simp only[VRs]at hus
 let O:Nat->Prop:=OX X0 ρ H
 have hOb:O b:=.inr ⟨id,hidH,k1⟩
 let T:=RV fc k B ρ w O
 letI:Inhabited T:=⟨⟨dx,dv,hd1,hd2,hd3 _ _ _,hdB⟩⟩
 obtain⟨D,hD1,hD2⟩:=rows_of (B:=B) (O:=O) hk X _ k6 (fun v hv=>k4 v (List.mem_of_mem_take hv)) hB
 let d:Array T:=D.toArray
 let enc:T->List Value:=fun x=>x.vs
 have hen:∀x:T,(enc x).length=k:=fun x=>x.len
 have hds:d.size=X.length:=by rw[<-hD1];simp[d]
 have hflat:∀j,j<d.size*k->c[j]?=some (flatK enc k d)[j]! :=by
  intro j hj
  have h1:=flatK_get hen h0 d j hj
  have h2:(d.toList.map enc).flatten=c.toList.take (fl fc X).length:=hD2
  rw[h2,List.getElem?_take_of_lt (by rw[hlen,<-hds];exact hj),Array.getElem?_toList]at h1
  exact h1
 have hoff : ∀ j, j < d.size * k -> o' = 0 := fun j hj => p3 (by
  have:0<d.size:=Nat.pos_of_mul_pos_right (Nat.lt_of_le_of_lt (Nat.zero_le _) hj)
  omega)
 have hH:HoldsK enc k w b o' d:=by
  intro j hj
  rw[size_flatK]at hj
  rw[hoff j hj,Nat.zero_add]
  constructor
  ·unfold World.cell?
   simp only[k2]
   rw[hflat j hj];rfl
  ·unfold World.frozen?
   simp only[k2]
   have:=k3.1 j (by rw[hlen,<-hds]at k5;omega)
   obtain⟨lo,hi⟩:=fz
   simp only[Bool.and_eq_false_iff,decide_eq_false_iff_not]
   simp only at this
   omega
 have hcar:∀(m:Nat) (os:Array Obj) (dk:Array T),Carry ρ ρ w (sortWorldK enc k w b o' m dk os) O O:=fun m os dk=>by
  have h:=sw_ext enc k w b o' m dk os
  exact⟨fun _ _ h=>h,h.size,fun i hi hn=>h.keep i hi fun e=>hn (e▸hOb),h.shape,fun _ _ h=>h⟩
 have hcmp:CmpLays G.P g #[] enc k (fun x y:T=>cmp x.x y.x) b o' d.size w:=by
  intro m os dk _ x y
  have hca:=hcar m os dk
  have h:=hc x.x y.x x.bd y.bd ρ n O (sortWorldK enc k w b o' m dk os) #[.agg (enc x).toArray,.agg (enc y).toArray] hfr (fun i hi=>Nat.lt_of_lt_of_le (hr.ox_old hi) hca.size)
   (by simp only[VRs,VR,and_true];exact⟨⟨_,rfl,fun v hv=>x.on v (by simpa using hv),VRs_carry hca _ _ x.vr⟩,⟨_,rfl,fun v hv=>y.on v (by simpa using hv),VRs_carry hca _ _ y.vr⟩⟩)
  unfold CallsX at h
  rw[eg]at h
  refine h.2.mono ?_
  rintro e w' ⟨v,r,rfl,rfl,h1,h2⟩
  simp only[VR]at h1
  exact⟨by rw[h1],ext_grow h2⟩
 have hS:=AnyQ.slices_SortFunc L k aE zE enc hen (fun x v hv=>one_cell (x.on v hv)) (fun x y:T=>cmp x.x y.x) ⟨fun x=>hO.irrefl x.x,fun x y z=>hO.trans x.x y.x z.x,fun x y z=>hO.ntrans x.x y.x z.x⟩ g #[] b o' cap d w eg hcmp hH hbs (by rw[hds];omega)
 rw[hds]at hS
 unfold CallsX
 rw[L.f6.enters rfl]
 refine⟨rfl,hS.mono ?_⟩
 rintro e2 w' ⟨rfl,d',n',os,hP,hSo,rfl⟩
 have hs':d'.size=d.size:=hP.1
 have hsX:d'.size=X.length:=hs'.trans hds
 let Y:List α:=d'.toList.map (·.x)
 have hYl:Y.length=X.length:=by simp[Y,hsX]
 have hperm:Y.Perm X:=by
  have h:=hP.2.2
  rw[<-hds,show d.extract 0 d.size=d by simp,show d'.extract 0 d.size=d' by rw[<-hs'];simp]at h
  have:=h.map (·.x)
  rwa[show d.toList.map (·.x)=X from hD1]at this
 have hsort:Y.Pairwise fun a b=>0<=cmp b a:=by
  rw[List.pairwise_iff_getElem]
  intro i j hi hj hij
  have h:=hSo i j (Nat.zero_le _) hij (by rw[<-hYl];exact hj)
  have hi':i<d'.size:=by rw[hsX,<-hYl];exact hi
  have hj':j<d'.size:=by rw[hsX,<-hYl];exact hj
  rw[getElem!_pos d' i hi',getElem!_pos d' j hj']at h
  unfold ltOf at h
  simp only[decide_eq_false_iff_not]at h
  simp only[Y,List.getElem_map,Array.getElem_toList]
  omega
 have hext:=sw_ext enc k w b o' n' d' os
 have hca:=hcar n' os d'
 generalize hW:sortWorldK enc k w b o' n' d' os=W at hext hca
 have hWb:W.heap[b]?=some (Obj.cells (putCells _root_.id o' (flatK enc k d') c) e fz):=by
  rw[<-hW,sw_at enc k w b o' n' d' os hbs,if_pos rfl,k2];rfl
 have hcl':(putCells _root_.id o' (flatK enc k d') c).size=c.size:=by simp[putCells]
 have hget:∀j,j<d'.size*k->(putCells _root_.id o' (flatK enc k d') c)[j]?=some (flatK enc k d')[j]! :=by
  intro j hj
  have hj2:j<d.size*k:=by rw[<-hs'];exact hj
  simp only[putCells,Array.getElem?_mapIdx,hflat j hj2,Option.map_some,hoff j hj2]
  rw[if_pos ⟨Nat.zero_le _,by rw[size_flatK];omega⟩];rfl
 have htake:(putCells _root_.id o' (flatK enc k d') c).toList.take (fl fc Y).length=(d'.toList.map enc).flatten:=by
  apply List.ext_getElem?
  intro j
  have hfl:(fl fc Y).length=d'.size*k:=by rw[fl_len hk,hYl,hsX]
  rcases Nat.lt_or_ge j (d'.size*k)with hj|hj
  ·rw[List.getElem?_take_of_lt (by rw[hfl];exact hj),Array.getElem?_toList,hget j hj,flatK_get hen h0 d' j hj]
  ·rw[List.getElem?_eq_none (by rw[List.length_take,hfl];omega),List.getElem?_eq_none (by rw[flat_len hen];simpa using hj)]
 have hvr:VRs ρ W O (fl fc Y) ((d'.toList.map enc).flatten):=by
  have:∀l:List T,VRs ρ W O (fl fc (l.map (·.x))) ((l.map enc).flatten):=by
   intro l
   induction l with
   |nil=>simp only[fl,List.map_nil,List.flatten_nil,VRs]
   |cons x l ih=>
    have h:=VRs_append (VRs_carry hca _ _ x.vr) ih
    simpa[fl]using h
  exact this d'.toList
 have hones:∀x,x∈(putCells _root_.id o' (flatK enc k d') c).toList->one x=true:=by
  intro x hx
  obtain⟨j,hj,rfl⟩:=List.mem_iff_getElem.1 hx
  rw[Array.length_toList,hcl']at hj
  simp only[Array.getElem_toList,putCells,Array.getElem_mapIdx]
  split
  ·rename_i hin
   have hj2:j-o'<d'.size*k:=by have:=hin.2;rw[size_flatK]at this;omega
   have h1:=flatK_get hen h0 d' (j-o') hj2
   have h2:=List.mem_of_getElem? h1
   rw[List.mem_flatten]at h2
   obtain⟨l,hl,hm⟩:=h2
   obtain⟨y,_,rfl⟩:=List.mem_map.1 hl
   exact y.on _ hm
  ·exact k4 _ (by rw[<-Array.getElem_toList];exact List.getElem_mem _)
 have hOs:OX X0 ρ (hset H id (fl fc Y))=OX X0 ρ H:=by funext x;simp only[OX,Own,hset_ids]
 refine⟨_,.tup [],ρ,hset H id (fl fc Y),n,rfl,hfr,⟨by rw[hset_ids];exact hr.nodup,fun i j x=>by rw[hset_ids];exact hr.inj i j x,fun i x=>by rw[hset_ids];exact hr.notX i x,fun x hx=>Nat.lt_of_lt_of_le (hr.xold x hx) hext.size,fun j ds hm=>?_⟩,?_,⟨fun _ _ h=>h,Nat.le_refl _,hext.mono fun x _ hx=>⟨id,hidH,hx▸k1⟩,fun x hx=>.inl (by simpa only[Own,hset_ids]using hx)⟩,_,rfl,rfl,rfl,Y,rfl,hperm,hsort⟩
 ·rcases hset_mem hr.nodup hm with ⟨rfl,rfl⟩|⟨hne,hm⟩
  ·refine⟨b,_,e,fz,k1,hWb,⟨fun o ho=>k3.1 o (by rw[<-hcl'];exact ho),k3.2⟩,hones,by rw[hcl',fl_len hk,hYl,<-hlen];exact k5,?_⟩
   rw[hOs,htake];exact hvr
  ·obtain⟨b2,c2,e2,f2,m1,m2,m3,m4,m5,m6⟩:=hr.obj j ds hm
   have hjm:j∈ids H:=List.mem_map.2 ⟨_,hm,rfl⟩
   have hne2:b2≠b:=fun e=>hne (hr.inj j id b hjm hidH (e▸m1) k1)
   exact⟨b2,c2,e2,f2,m1,by rw[hext.keep b2 (Array.getElem?_eq_some_iff.1 m2).1 hne2];exact m2,m3,m4,m5,by rw[hOs];exact VRs_carry hca _ _ m6⟩
 ·simp only[VR];exact⟨#[],rfl,by simp only[VRs]⟩
end
open Go Go.Proofs Go.Shelf
def sortN_ren:Go.Shelf.Ren:=⟨fun|6=>53|15=>83|14=>82|28=>109|29=>110|20=>101|21=>102|22=>103|23=>104|24=>105|25=>106|26=>107|27=>108|46=>118|47=>119|48=>120|49=>121|50=>122|57=>125|n=>n,fun|22=>23|24=>45|25=>84|3=>3|39=>108|0=>0|53=>128|55=>130|4=>4|46=>122|45=>121|50=>114|5=>5|9=>9|66=>135|70=>139|76=>141|77=>142|n=>n,fun|n=>n⟩
theorem sortN_L : Go.Proofs.SlLaysF0.n6 Tryz.prog sortN_ren := {
 mixed:=by kernel_rfl,
 f6:=⟨"slices.SortFunc[[]loop.example/changetrail/impl.NodeOf,loop.example/changetrail/impl.NodeOf]",by decide,Tryz.func53.trans (congrArg some (by kernel_rfl))⟩,
 f14:=⟨"slices.pdqsortCmpFunc[loop.example/changetrail/impl.NodeOf]",by decide,Tryz.func82.trans (congrArg some (by kernel_rfl))⟩,
 f15:=Tryz.func83.trans (congrArg some (by kernel_rfl)),
 f20:=⟨"slices.insertionSortCmpFunc[loop.example/changetrail/impl.NodeOf]",by decide,Tryz.func101.trans (congrArg some (by kernel_rfl))⟩,
 f21:=⟨"slices.heapSortCmpFunc[loop.example/changetrail/impl.NodeOf]",by decide,Tryz.func102.trans (congrArg some (by kernel_rfl))⟩,
 f22:=⟨"slices.breakPatternsCmpFunc[loop.example/changetrail/impl.NodeOf]",by decide,Tryz.func103.trans (congrArg some (by kernel_rfl))⟩,
 f23:=⟨"slices.choosePivotCmpFunc[loop.example/changetrail/impl.NodeOf]",by decide,Tryz.func104.trans (congrArg some (by kernel_rfl))⟩,
 f24:=⟨"slices.reverseRangeCmpFunc[loop.example/changetrail/impl.NodeOf]",by decide,Tryz.func105.trans (congrArg some (by kernel_rfl))⟩,
 f25:=⟨"slices.partialInsertionSortCmpFunc[loop.example/changetrail/impl.NodeOf]",by decide,Tryz.func106.trans (congrArg some (by kernel_rfl))⟩,
 f26:=⟨"slices.partitionEqualCmpFunc[loop.example/changetrail/impl.NodeOf]",by decide,Tryz.func107.trans (congrArg some (by kernel_rfl))⟩,
 f27:=⟨"slices.partitionCmpFunc[loop.example/changetrail/impl.NodeOf]",by decide,Tryz.func108.trans (congrArg some (by kernel_rfl))⟩,
 f28:=Tryz.func109.trans (congrArg some (by kernel_rfl)),
 f29:=Tryz.func110.trans (congrArg some (by kernel_rfl)),
 f46:=⟨"slices.siftDownCmpFunc[loop.example/changetrail/impl.NodeOf]",by decide,Tryz.func118.trans (congrArg some (by kernel_rfl))⟩,
 f47:=Tryz.func119.trans (congrArg some (by kernel_rfl)),
 f48:=Tryz.func120.trans (congrArg some (by kernel_rfl)),
 f49:=⟨"slices.medianAdjacentCmpFunc[loop.example/changetrail/impl.NodeOf]",by decide,Tryz.func121.trans (congrArg some (by kernel_rfl))⟩,
 f50:=⟨"slices.medianCmpFunc[loop.example/changetrail/impl.NodeOf]",by decide,Tryz.func122.trans (congrArg some (by kernel_rfl))⟩,
 f57:=⟨"slices.order2CmpFunc[loop.example/changetrail/impl.NodeOf]",by decide,Tryz.func125.trans (congrArg some (by kernel_rfl))⟩,
 t0:=Tryz.underlying0,
 a0:=Tryz.isAgg0,
 z0:=Tryz.sizeOf0,
 v0:=Tryz.zeroValue0,
 t3:=Tryz.underlying3,
 a3:=Tryz.isAgg3,
 z3:=Tryz.sizeOf3,
 v3:=Tryz.zeroValue3,
 t4:=Tryz.underlying4,
 a4:=Tryz.isAgg4,
 z4:=Tryz.sizeOf4,
 v4:=Tryz.zeroValue4,
 t5:=Tryz.underlying5,
 a5:=Tryz.isAgg5,
 z5:=Tryz.sizeOf5,
 v5:=Tryz.zeroValue5,
 t9:=Tryz.underlying9,
 a9:=Tryz.isAgg9,
 z9:=Tryz.sizeOf9,
 v9:=Tryz.zeroValue9,
 t22:=Tryz.underlying23,
 a22:=Tryz.isAgg23,
 z22:=Tryz.sizeOf23,
 v22:=Tryz.zeroValue23,
 t25:=Tryz.underlying84,
 a25:=Tryz.isAgg84,
 z25:=Tryz.sizeOf84,
 v25:=Tryz.zeroValue84,
 t39:=Tryz.underlying108,
 a39:=Tryz.isAgg108,
 z39:=Tryz.sizeOf108,
 v39:=Tryz.zeroValue108,
 t45:=Tryz.underlying121,
 a45:=Tryz.isAgg121,
 z45:=Tryz.sizeOf121,
 v45:=Tryz.zeroValue121,
 t46:=Tryz.underlying122,
 a46:=Tryz.isAgg122,
 z46:=Tryz.sizeOf122,
 v46:=Tryz.zeroValue122,
 t50:=Tryz.underlying114,
 a50:=Tryz.isAgg114,
 z50:=Tryz.sizeOf114,
 v50:=Tryz.zeroValue114,
 t53:=Tryz.underlying128,
 a53:=Tryz.isAgg128,
 z53:=Tryz.sizeOf128,
 v53:=Tryz.zeroValue128,
 t55:=Tryz.underlying130,
 a55:=Tryz.isAgg130,
 z55:=Tryz.sizeOf130,
 v55:=Tryz.zeroValue130,
 t66:=Tryz.underlying135,
 a66:=Tryz.isAgg135,
 z66:=Tryz.sizeOf135,
 v66:=Tryz.zeroValue135,
 t70:=Tryz.underlying139,
 a70:=Tryz.isAgg139,
 z70:=Tryz.sizeOf139,
 v70:=Tryz.zeroValue139,
 t76:=Tryz.underlying141,
 a76:=Tryz.isAgg141,
 z76:=Tryz.sizeOf141,
 v76:=Tryz.zeroValue141,
 t77:=Tryz.underlying142,
 a77:=Tryz.isAgg142,
 z77:=Tryz.sizeOf142,
 v77:=Tryz.zeroValue142}
open Go Go.Proofs
set_option maxRecDepth 100000
def stA (c:Cl) (x:No):List No:=if c.kind=4/\x.path=c.path then[]else[if c.kind=5 then mvd c.path c.to x else x]
def aftL (c:Cl) (l:List No):List No:=(l.map (stA c)).flatten
theorem aftL_take (c:Cl) (l:List No) (k:Nat) (h:k<l.length):aftL c (l.take (k+1))=aftL c (l.take k)++stA c (l.getD k default):=by
  unfold aftL;rw[take_snoc l k default h,List.map_append,List.flatten_append];simp
theorem stA_no {c:Cl} {x:No} (h:c.kind=4/\x.path=c.path):stA c x=[]:=by unfold stA;rw[if_pos h]
theorem stA_mv {c:Cl} {x:No} (h:c.kind=5/\c.path.isPrefixOf x.path=true):stA c x=[⟨x.id,c.to++x.path.drop c.path.length⟩]:=by
  unfold stA mvd;rw[if_neg om,if_pos h.1,if_pos h.2]
theorem stA_id {c:Cl} {x:No} (h:c.kind=4->¬x.path=c.path) (k:c.kind=5->c.path.isPrefixOf x.path=false):stA c x=[x]:=by
  unfold stA mvd;rw[if_neg (fun q=>h q.1 q.2)]
  split
  · rename_i h5;rw[if_neg (by rw[k h5];simp)]
  · rfl
theorem anyN_take (l:List No) (p:No->Bool) {k:Nat} (h:k<l.length):(l.take (k+1)).any p=((l.take k).any p||p (l.getD k default)):=by
  rw[take_snoc l k default h,List.any_append];simp
theorem aftL_mem {c:Cl} {l:List No} {x:No} (h:x∈aftL c l):∃y∈l,x=y\/x=⟨y.id,c.to++y.path.drop c.path.length⟩:=by
  unfold aftL at h
  rw[List.mem_flatten]at h
  obtain⟨s,hs,hx⟩:=h
  obtain⟨y,hy,rfl⟩:=List.mem_map.1 hs
  refine⟨y,hy,?_⟩
  unfold stA mvd at hx
  split at hx
  · cases hx
  · rw[List.mem_singleton]at hx
    rw[hx];split
    · split
      · exact .inr rfl
      · exact .inl rfl
    · exact .inl rfl
theorem aftL_wS {c:Cl} {l:List No} {B:Nat} (h:∀y∈l,wS y.path+wS c.to<B):∀x∈aftL c l,wS x.path<B:=fun x hx=>by
  obtain⟨y,hy,e⟩:=aftL_mem hx
  have h1:=h y hy
  rcases e with rfl|rfl
  · omega
  · have:=wS_app c.to (y.path.drop c.path.length);have:=wS_drop y.path c.path.length;(try dsimp only);omega
theorem aftL_len (c:Cl):∀l:List No,(aftL c l).length<=l.length
  |[]=>by simp[aftL]
  |x::l=>by
    have:=aftL_len c l
    unfold aftL at*
    rw[List.map_cons,List.flatten_cons,List.length_append,List.length_cons]
    have:(stA c x).length<=1:=by unfold stA;split<;>simp
    omega
def SN (l:List No):Prop:=l.Pairwise fun a b=>0<=cmpP b.path a.path
def thr (c:Cl) (l:List No):Bool:=l.any fun x=>x.path==c.path
def AftR (N:Nds) (c:Cl) (M:Nds) (k:Int):Prop:=if c.kind≠5/\c.kind≠4/\thr c N.list=false then(if 9999<N.next then M=N/\k=6 else k=0/\M.next=N.next+1/\M.list.Perm (aftL c N.list++[⟨N.next,c.path⟩])/\SN M.list)else k=0/\M.next=N.next/\M.list.Perm (aftL c N.list)/\SN M.list
theorem afc_ok (a b:No) (ha:wS a.path<2^40) (hb:wS b.path<2^40):PE G 54 [.agg (ndc a),.agg (ndc b)] (.i (cmpP a.path b.path)):=by
 have hal:=wS_len a.path;have hbl:=wS_len b.path
 refine Pe Tryz.func54 ?_
 refine Rr (Fn2 [] [(3,.ptr 4 0),(2,.ptr 0 0)] ([(4,ndc b),(0,ndc a)]++·) 8 (Rr (Bc1 5 [(8,pth b.path),(7,.ptr 4 1),(6,pth a.path),(5,.ptr 0 1)] 48 [pth a.path,pth b.path] 9 (((1:Nat)≠0)/\(1+1<=2/\1<2)/\((1:Nat)≠0)/\(1+1<=2/\1<2)/\·) ⟨dc,dc,dc,dc,PE.use (cmpP_ok a.path b.path om om) ?_⟩)))
 refine Ke (Fn0 [] [(4,.i (cmpP a.path b.path))] (Rt (.i (cmpP a.path b.path)) ?_))
 exact fin_lea (lea_refl _)
theorem swoN:Go.Sort.SWO (Go.Proofs.ltOf fun a b:No=>cmpP a.path b.path) where
  irrefl x:=by unfold Go.Proofs.ltOf;exact decide_eq_false (by show ¬cmpP x.path x.path<0;rw[cmpP_self];decide)
  trans x y z h k:=by unfold Go.Proofs.ltOf at*;dsimp only at*;rw[decide_eq_true_eq]at*;exact cmp_lt_trans h k
  ntrans x y z h k:=by
    unfold Go.Proofs.ltOf at*
    dsimp only at*
    rw[decide_eq_false_iff_not]at*
    have h1:=cmpP_anti x.path y.path
    have h2:=cmpP_anti y.path z.path
    have h3:=cmpP_anti x.path z.path
    have:=cmpP_trans (a:=z.path) (b:=y.path) (c:=x.path) om om
    omega
theorem sortN_ok (X:List No) (hl:∀x∈X,wS x.path<2^40) (hn:X.length<2^60):XC G 53 (fun i=>.osl i 2 0 X.length) [.fn (.func 54) []] (fl ndc X) (fun r cs=>r=.tup []/\∃Y,cs=fl ndc Y/\Y.Perm X/\Y.Pairwise fun a b=>0<=cmpP b.path a.path):=
  sort_tc (G:=G) (rn:=sortN_ren) (B:=fun x=>wS x.path<2^40) (cmp:=fun a b=>cmpP a.path b.path) sortN_L rfl Tryz.isAgg45 Tryz.sizeOf45 (Go.Proofs.enters_of Tryz.func54 kr rfl) ndc_len dc swoN (fun a b ha hb=>afc_ok a b ha hb) default [Value.int IntKind.i64 0,.slice none 0 0] rfl dc (fun ρ w O=>by simp[VRs,VR,pth,default,Inhabited.default]) dc purs_ndc X hl hn
theorem after_pc (N:Nds) (c:Cl) (hl:∀x∈N.list,wS x.path<2^34) (hn:N.list.length<2^18) (hb: -2^50<N.next/\N.next<2^50) (h1:wS c.path<2^32) (h2:wS c.to<2^32):PC G 22 [.agg (nsc N),.agg (clc c)] (fun r=>∃M k,r=.tup [.agg (nsc M),.i k]/\AftR N c M k):=by
 have hpl:=wS_len c.path;have htl:=wS_len c.to;have hAl0:=fun k=>aftL_wS (c:=c) (l:=N.list.take k) (B:=2^40) (fun y hy=>by have:=hl y (List.mem_of_mem_take hy);omega);have hAn:=fun k=>aftL_len c (N.list.take k)
 refine h_pc (F:=[(0,.agg (nsc N)),(1,.agg (clc c))]) (by simp only[go_sem]) Tryz.func22 kr kr ?_ kr
 refine Rr (Fn2 [] [(4,.ptr 8 0),(3,.ptr 4 0),(2,.ptr 0 0)] ([(8,[.i 0,.nils]),(4,clc c),(0,nsc N)]++·) 12 (Rr (Fn3 [2,3,4] [(6,.ptr 16 0)] ([(16,[.i N.next,.osl 12 2 0 0]),(12,[])]++·) 20 (((1:Nat)≠0)/\(0+1<=2/\0<2)/\(0*2<=16777216)/\(true=true/\2=2/\0+2<=2)/\·) ⟨dc,dc,dc,dc,Rr ?_⟩)))
 refine Fn0 [2,3,4,6] [(7,.bool false)] (Sq fun K4 hK4=>?_)
 refine Rr (Pc1 2 [(15,.agg (nsc N))] 16 (0+2<=2/\0<2) dc (cloneN_ok N (fun x hx=>Nat.lt_trans (hl x hx) dc) om om) (Av1 2 18 [(17,.sl 2 (N.list.map ndc))] (lnm N.list ndc) ((1+1<=2/\1<2)/\·) ⟨dc,Fn0 [2,3,4,6,7,17,18] [(19,.i 0)] (Bl ?_)⟩))
 refine h_l (fun(k:Nat)=>([(2,.ptr 0 0),(3,.ptr 4 0),(4,.ptr 8 0),(6,.ptr 16 0),(7,.bool ((N.list.take k).any fun x=>x.path==c.path)),(17,.sl 2 (N.list.map ndc)),(18,.i N.list.length),(19,.i k)]:Fr)) (fun(k:Nat)=>([(16,[.i N.next,.osl 12 2 0 ((aftL c (N.list.take k)).length)]),(12,fl ndc (aftL c (N.list.take k))),(8,[.i 0,.nils]),(4,clc c),(0,nsc N)]:Hp)) (fun(k:Nat) cn=>(k<=N.list.length)/\cn=20) (fun(k:Nat)=>N.list.length-k) 0 kr ?_ ?_ ?_ ?_
 refine⟨?_,rfl⟩;exact Nat.zero_le _
 exact⟨kr,kr,kr,kr,kr,kr,kr,kr,trivial⟩
 exact(sub_c kr (sub_c kr (sub_c kr (sub_c kr (sub_c kr (List.nil_sublist _))))))
 rintro k n1 hI
 (try dsimp only at hI)
 obtain⟨hi1,rfl⟩:=hI
 refine Rr (Fn1 [2,3,4,6,7,17,18,19] [(20,.bool (decide ((k:Int)<(N.list.length:Int))))] (Ki/\·) ⟨rfl,Sq fun K7 hK7=>?_⟩)
 refine Cc (decide ((k:Int)<(N.list.length:Int))) (fun hc8 c8=>?_) fun hc8 c8=>?_
 refine Sk (Jn (hK7 (Kp [2,3,4,6,7,17,18,19] (Sq fun K9 hK9=>?_))))
 refine Bl (Rr (Av1 1 21 [] (congrArg AV.pat (mg_nd N.list k om)) ((2=2/\(0:Int)<=(k:Int)/\(k:Int)<((N.list.map ndc).length:Int))/\·) ⟨⟨rfl,om,lmo⟩,Fn3 [2,3,4,6,7,17,18,19] [(9,.ptr 20 0)] ([(20,ndc (N.list.getD k default))]++·) 24 ((2<=2/\0<2)/\(true=true/\2=2/\0+2<=2)/\·) ⟨dc,dc,?_⟩⟩))
 have hgn:=hl _ (getD_mem N.list k default om);have hgl:=wS_len (N.list.getD k default).path
 refine Rr (Bc1 5 [(26,pth c.path),(25,.ptr 4 1),(24,pth ((N.list.getD k default).path)),(23,.ptr 20 1)] 19 [pth ((N.list.getD k default).path),pth c.path] 27 (((1:Nat)≠0)/\(1+1<=2/\1<2)/\((1:Nat)≠0)/\(1+1<=5/\1<5)/\·) ⟨dc,dc,dc,dc,PE.use (eqP_ok ((N.list.getD k default).path) c.path om om) (Ke (Fn0 [2,3,4,6,7,9,17,18,19] [(10,.bool (((N.list.getD k default).path)==c.path))] ?_))⟩)
 refine Rm 7 (((N.list.take k).any fun x=>x.path==c.path)||(((N.list.getD k default).path)==c.path)) [2,3,4,6,9,10,17,18,19] ?_ ?_
 refine An0 2 [(29,.bool ((N.list.take k).any fun x=>x.path==c.path)),(28,.bool ((N.list.take k).any fun x=>x.path==c.path))] (Rg (fun hg13 g13=>?_) (fun hg13 g13=>?_))
 refine Mn0 true (by rw[hg13];rfl)
 refine Mn0 (((N.list.getD k default).path)==c.path) (by rw[hg13];rfl)
 refine Sq fun K14 hK14=>?_
 refine Bl (Rm 32 ((decide ((c.kind:Int)=(4:Int)))&&(((N.list.getD k default).path)==c.path)) [2,3,4,6,7,9,17,18,19] ?_ ?_)
 refine An1 4 [(36,.bool (decide ((c.kind:Int)=(4:Int)))),(35,.bool (decide ((c.kind:Int)=(4:Int)))),(34,.i c.kind),(33,.ptr 4 0)] (((1:Nat)≠0)/\(0+1<=5/\0<5)/\Ki/\·) ⟨dc,dc,rfl,Rg (fun hg16 g16=>?_) (fun hg16 g16=>?_)⟩
 refine Mn0 (((N.list.getD k default).path)==c.path) (by rw[hg16];rfl)
 refine Mn0 false (by rw[hg16];rfl)
 refine Cc ((decide ((c.kind:Int)=(4:Int)))&&(((N.list.getD k default).path)==c.path)) (fun hc17 c17=>?_) fun hc17 c17=>?_
 refine Xt (Bx (Jx (Bh (Jn (hK9 (Kp [2,3,4,6,7,17,18,19] (Rn (Av1 1 68 [] (cI (wn1 k om)) (Ki/\·) ⟨rfl,Gn0 [(19,.i ((k+1:Nat):Int))] (nk_n ?_)⟩))))))))
 refine Lr (k+1) [(0,0),(4,4),(8,8),(12,12),(16,16)] 20 [(2,.ptr 0 0),(3,.ptr 4 0),(4,.ptr 8 0),(6,.ptr 16 0),(7,.bool (((N.list.take k).any fun x=>x.path==c.path)||(((N.list.getD k default).path)==c.path))),(17,.sl 2 (N.list.map ndc)),(18,.i N.list.length),(19,.i ((k+1:Nat):Int))] [(16,[.i N.next,.osl 12 2 0 ((aftL c (N.list.take k)).length)]),(12,fl ndc (aftL c (N.list.take k))),(8,[.i 0,.nils]),(4,clc c),(0,nsc N)] [true,false,true,true,true] ?_ ?_ (by(try ((try dsimp only);rw[aftL_take c N.list k om,stA_no (by have h:=hc17;simpa using h),List.append_nil]));try kernel_rfl) (by(try ((try dsimp only);rw[anyN_take _ _ om]));try kernel_rfl)
 (try dsimp only);omega
 refine⟨?_,rfl⟩;(try dsimp only);omega
 refine Rm 39 ((decide ((c.kind:Int)=(5:Int)))&&(c.path.isPrefixOf ((N.list.getD k default).path))) [2,3,4,6,7,9,17,18,19] ?_ ?_
 refine An1 4 [(43,.bool (decide ((c.kind:Int)=(5:Int)))),(42,.bool (decide ((c.kind:Int)=(5:Int)))),(41,.i c.kind),(40,.ptr 4 0)] (((1:Nat)≠0)/\(0+1<=5/\0<5)/\Ki/\·) ⟨dc,dc,rfl,Rg (fun hg19 g19=>?_) (fun hg19 g19=>?_)⟩
 refine Bc1 5 [(47,pth c.path),(46,.ptr 4 1),(45,pth ((N.list.getD k default).path)),(44,.ptr 20 1)] 52 [pth ((N.list.getD k default).path),pth c.path] 48 (((1:Nat)≠0)/\(1+1<=2/\1<2)/\((1:Nat)≠0)/\(1+1<=5/\1<5)/\·) ⟨dc,dc,dc,dc,?_⟩
 refine PE.use (begins_ok ((N.list.getD k default).path) c.path om om) ?_
 refine Ke (Mn0 (c.path.isPrefixOf ((N.list.getD k default).path)) (by rw[hg19];rfl))
 refine Mn0 false (by rw[hg19];rfl)
 refine Cc ((decide ((c.kind:Int)=(5:Int)))&&(c.path.isPrefixOf ((N.list.getD k default).path))) (fun hc20 c20=>?_) fun hc20 c20=>?_
 have hfp:c.path.length<=(N.list.getD k default).path.length:=(List.isPrefixOf_iff_prefix.1 (by have h:=hc20;simp_all:c.path.isPrefixOf (N.list.getD k default).path=true)).length_le
 refine Qb [0,0,2,7,0,16,0,64,192,496,1023,2047,4095] [(1,[]),(2,[]),(4,[]),(5,[]),(6,[]),(7,[]),(8,[]),(9,[]),(0,[2,5,7]),(3,[5,7]),(10,[]),(11,[]),(12,[])] (fun h=>Bn (Jn (hK14 h))) (qAv1 7 58 [(57,pth c.path),(56,.ptr 4 1),(55,pth ((N.list.getD k default).path)),(54,.ptr 20 1),(52,pth c.to),(51,.ptr 4 2)] (lnm c.path sc) (((1:Nat)≠0)/\(2+1<=5/\2<5)/\((1:Nat)≠0)/\(1+1<=2/\1<2)/\((1:Nat)≠0)/\(1+1<=5/\1<5)/\·) ⟨dc,dc,dc,dc,dc,dc,qAv1 (r:=.sl 1 (((((N.list.getD k default).path).map (fun s=>[AV.str s])).take ((((N.list.getD k default).path).map (fun s=>[AV.str s])).length)).drop c.path.length)) (v:=pth (((N.list.getD k default).path).drop c.path.length)) 1 59 [] (congrArg (AV.sl 1) (slm_all _ _ _)) (fun Z=>(1=1/\0<=((c.path.length:Int):Int)/\((c.path.length:Int):Int)<=(((((N.list.getD k default).path).map (fun s=>[AV.str s])).length:Nat):Int)/\(((((N.list.getD k default).path).map (fun s=>[AV.str s])).length:Nat):Int)<=(((((N.list.getD k default).path).map (fun s=>[AV.str s])).length:Nat):Int))/\Z) ⟨⟨rfl,om,lmo,om⟩,qAn3 2 [(53,.osl 28 1 0 (0+(c.to.map (fun s=>[AV.str s])).length)),(50,.osl 24 1 0 0)] ([(28,apd [] (0*1) ((c.to.map (fun s=>[AV.str s])).flatten))]++·) 32 ((0*1<=16777216)/\(((2+1<=5/\2<5)/\(pth c.to=pth c.to))/\((1+1<=2/\1<2)/\(pth ((N.list.getD k default).path)=pth ((N.list.getD k default).path)))/\((1+1<=5/\1<5)/\(pth c.path=pth c.path))/\True)/\True/\(1=1/\0*1<=0/\0<16/\(0+(c.to.map (fun s=>[AV.str s])).length)*16<=140737488355328)/\(((1+1<=2/\1<2)/\(pth ((N.list.getD k default).path)=pth ((N.list.getD k default).path)))/\((1+1<=5/\1<5)/\(pth c.path=pth c.path))/\True)/\·) ⟨dc,⟨⟨dc,rfl⟩,⟨dc,rfl⟩,⟨dc,rfl⟩,trivial⟩,trivial,⟨rfl,gl,dc,gl⟩,⟨⟨dc,rfl⟩,⟨dc,rfl⟩,trivial⟩,runq_v (v':=.osl 28 1 0 c.to.length) (by rw[Nat.zero_add,List.length_map]) ?_⟩⟩⟩)
 refine runq_h (cs':=fl sc c.to) (app0_str _) ?_
 refine qAn3 1 [(60,.osl 32 1 0 (c.to.length+((((N.list.getD k default).path).drop c.path.length).map (fun s=>[AV.str s])).length))] ([(32,apd (fl sc c.to) (c.to.length*1) (((((N.list.getD k default).path).drop c.path.length).map (fun s=>[AV.str s])).flatten))]++Hw [] [28] ·) 36 (fun Z=>True/\(1=1/\c.to.length*1<=(fl sc c.to).length/\0<16/\(c.to.length+((((N.list.getD k default).path).drop c.path.length).map (fun s=>[AV.str s])).length)*16<=140737488355328)/\(True)/\Z) ⟨trivial,⟨rfl,gl,dc,gl⟩,trivial,runq_v (v':=.osl 32 1 0 ((c.to++(((N.list.getD k default).path).drop c.path.length)).length)) (by simp only[List.length_append,List.length_map]) (runq_h (cs':=fl sc (c.to++(((N.list.getD k default).path).drop c.path.length))) (app_str _ _) (qFn3 [2,3,4,6,7,9,17,18,19] [] (Hw [(20,[.i ((N.list.getD k default).id),.osl 32 1 0 ((c.to++(((N.list.getD k default).path).drop c.path.length)).length)])] [] ·) 36 (((1:Nat)≠0)/\(true=true/\1=1/\1+1<=2)/\(True)/\·) ⟨dc,dc,trivial,FzS 32 (c.to++(((N.list.getD k default).path).drop c.path.length)) [(2,.ptr 0 0),(3,.ptr 4 0),(4,.ptr 8 0),(6,.ptr 16 0),(7,.bool (((N.list.take k).any fun x=>x.path==c.path)||(((N.list.getD k default).path)==c.path))),(9,.ptr 20 0),(17,.sl 2 (N.list.map ndc)),(18,.i N.list.length),(19,.i k)] [(20,[.i ((N.list.getD k default).id),.osl 32 1 0 ((c.to++(((N.list.getD k default).path).drop c.path.length)).length)]),(16,[.i N.next,.osl 12 2 0 ((aftL c (N.list.take k)).length)]),(12,fl ndc (aftL c (N.list.take k))),(8,[.i 0,.nils]),(4,clc c),(0,nsc N)] [true,true,false,true,true,true] ?_⟩))⟩
 have hak:=hAn k;have htk:(N.list.take k).length<=N.list.length:=by rw[List.length_take];omega
 refine Rb (fun h=>Bn (Jn (hK9 h))) (An3 5 [(66,.osl 40 2 0 ((aftL c (N.list.take k)).length+1)),(65,.osl 36 2 0 1),(64,.agg [.i ((N.list.getD k default).id),pth (c.to++(((N.list.getD k default).path).drop c.path.length))]),(63,.osl 12 2 0 ((aftL c (N.list.take k)).length)),(62,.ptr 16 1)] ([(40,apd (fl ndc (aftL c (N.list.take k))) ((aftL c (N.list.take k)).length*2) [.i ((N.list.getD k default).id),pth (c.to++(((N.list.getD k default).path).drop c.path.length))]),(36,[.i ((N.list.getD k default).id),pth (c.to++(((N.list.getD k default).path).drop c.path.length))])]++Hw [] [12] ·) 44 (((1:Nat)≠0)/\(1+1<=2/\1<2)/\(0+2<=2/\0<2)/\(1*2<=16777216)/\(0+1*2<=2)/\(2=2/\(aftL c (N.list.take k)).length*2<=(fl ndc (aftL c (N.list.take k))).length/\0<32/\((aftL c (N.list.take k)).length+1)*32<=140737488355328)/\·) ⟨dc,dc,dc,dc,dc,⟨rfl,by(first|omega|(simp only[LL,flNl];omega)),dc,by(first|omega|(simp only[LL,flNl];omega))⟩,run_v (v':=.osl 40 2 0 ((aftL c (N.list.take k)++[No.mk ((N.list.getD k default).id) (c.to++(((N.list.getD k default).path).drop c.path.length))]).length)) (push_len _ _ _ _) (run_h (cs':=fl ndc (aftL c (N.list.take k)++[No.mk ((N.list.getD k default).id) (c.to++(((N.list.getD k default).path).drop c.path.length))])) (push_nd (aftL c (N.list.take k)) (No.mk ((N.list.getD k default).id) (c.to++(((N.list.getD k default).path).drop c.path.length)))) (Fn3 [2,3,4,6,7,17,18,19] [] (Hw [(16,[.i N.next,.osl 40 2 0 ((aftL c (N.list.take k)++[No.mk ((N.list.getD k default).id) (c.to++(((N.list.getD k default).path).drop c.path.length))]).length)])] [] ·) 44 (((1:Nat)≠0)/\(true=true/\1=1/\1+1<=2)/\·) ⟨dc,dc,?_⟩))⟩)
 refine Rn (Av1 1 68 [] (cI (wn1 k om)) (Ki/\·) ⟨rfl,Gn0 [(19,.i ((k+1:Nat):Int))] (nk_n (Lr (k+1) [(0,0),(4,4),(8,8),(16,16),(40,12)] 20 [(2,.ptr 0 0),(3,.ptr 4 0),(4,.ptr 8 0),(6,.ptr 16 0),(7,.bool (((N.list.take k).any fun x=>x.path==c.path)||(((N.list.getD k default).path)==c.path))),(17,.sl 2 (N.list.map ndc)),(18,.i N.list.length),(19,.i ((k+1:Nat):Int))] [(16,[.i N.next,.osl 40 2 0 ((aftL c (N.list.take k)++[No.mk ((N.list.getD k default).id) (c.to++(((N.list.getD k default).path).drop c.path.length))]).length)]),(40,fl ndc (aftL c (N.list.take k)++[No.mk ((N.list.getD k default).id) (c.to++(((N.list.getD k default).path).drop c.path.length))])),(8,[.i 0,.nils]),(4,clc c),(0,nsc N)] [true,false,true,true,true] ?_ ?_ (by(try ((try dsimp only);rw[aftL_take c N.list k om,stA_mv (by have h:=hc20;simpa using h),List.length_append]));try kernel_rfl) (by(try ((try dsimp only);rw[anyN_take _ _ om]));try kernel_rfl)))⟩)
 (try dsimp only);omega
 refine⟨?_,rfl⟩;(try dsimp only);omega
 refine Sk (Bn (Jn (hK14 (Kp [2,3,4,6,7,9,17,18,19] ?_))))
 have hak:=hAn k;have htk:(N.list.take k).length<=N.list.length:=by rw[List.length_take];omega
 refine Rb (fun h=>Bn (Jn (hK9 h))) (An3 5 [(66,.osl 28 2 0 ((aftL c (N.list.take k)).length+1)),(65,.osl 24 2 0 1),(64,.agg (ndc (N.list.getD k default))),(63,.osl 12 2 0 ((aftL c (N.list.take k)).length)),(62,.ptr 16 1)] ([(28,apd (fl ndc (aftL c (N.list.take k))) ((aftL c (N.list.take k)).length*2) (ndc (N.list.getD k default))),(24,ndc (N.list.getD k default))]++Hw [] [12] ·) 32 (((1:Nat)≠0)/\(1+1<=2/\1<2)/\(0+2<=2/\0<2)/\(1*2<=16777216)/\(0+1*2<=2)/\(2=2/\(aftL c (N.list.take k)).length*2<=(fl ndc (aftL c (N.list.take k))).length/\0<32/\((aftL c (N.list.take k)).length+1)*32<=140737488355328)/\·) ⟨dc,dc,dc,dc,dc,⟨rfl,by(first|omega|(simp only[LL,flNl];omega)),dc,by(first|omega|(simp only[LL,flNl];omega))⟩,run_v (v':=.osl 28 2 0 ((aftL c (N.list.take k)++[(N.list.getD k default)]).length)) (push_len _ _ _ _) (run_h (cs':=fl ndc (aftL c (N.list.take k)++[(N.list.getD k default)])) (push_nd (aftL c (N.list.take k)) (N.list.getD k default)) (Fn3 [2,3,4,6,7,17,18,19] [] (Hw [(16,[.i N.next,.osl 28 2 0 ((aftL c (N.list.take k)++[(N.list.getD k default)]).length)])] [] ·) 32 (((1:Nat)≠0)/\(true=true/\1=1/\1+1<=2)/\·) ⟨dc,dc,?_⟩))⟩)
 refine Rn (Av1 1 68 [] (cI (wn1 k om)) (Ki/\·) ⟨rfl,Gn0 [(19,.i ((k+1:Nat):Int))] (nk_n (Lr (k+1) [(0,0),(4,4),(8,8),(16,16),(28,12)] 20 [(2,.ptr 0 0),(3,.ptr 4 0),(4,.ptr 8 0),(6,.ptr 16 0),(7,.bool (((N.list.take k).any fun x=>x.path==c.path)||(((N.list.getD k default).path)==c.path))),(17,.sl 2 (N.list.map ndc)),(18,.i N.list.length),(19,.i ((k+1:Nat):Int))] [(16,[.i N.next,.osl 28 2 0 ((aftL c (N.list.take k)++[(N.list.getD k default)]).length)]),(28,fl ndc (aftL c (N.list.take k)++[(N.list.getD k default)])),(8,[.i 0,.nils]),(4,clc c),(0,nsc N)] [true,false,true,true,true] ?_ ?_ (by(try ((try dsimp only);rw[aftL_take c N.list k om,stA_id (by have h:=hc17;simpa using h) (by have h:=hc20;simpa using h),List.length_append]));try kernel_rfl) (by(try ((try dsimp only);rw[anyN_take _ _ om]));try kernel_rfl)))⟩)
 (try dsimp only);omega
 refine⟨?_,rfl⟩;(try dsimp only);omega
 refine Xt (Jx (Lx (Bh (Jn (hK4 (Kp [2,3,4,6,7] (Sq fun K21 hK21=>?_)))))))
 refine Rm 80 ((!decide ((c.kind:Int)=(5:Int)))&&((!decide ((c.kind:Int)=(4:Int)))&&(!((N.list.take k).any fun x=>x.path==c.path)))) [2,3,4,6] ?_ ?_
 refine An1 4 [(72,.bool (!decide ((c.kind:Int)=(5:Int)))),(71,.bool (!decide ((c.kind:Int)=(5:Int)))),(70,.i c.kind),(69,.ptr 4 0)] (((1:Nat)≠0)/\(0+1<=5/\0<5)/\Ki/\·) ⟨dc,dc,rfl,Rg (fun hg23 g23=>?_) (fun hg23 g23=>?_)⟩
 refine An1 5 [(77,.bool (!decide ((c.kind:Int)=(4:Int)))),(76,.bool (!decide ((c.kind:Int)=(4:Int)))),(75,.bool (!decide ((c.kind:Int)=(4:Int)))),(74,.i c.kind),(73,.ptr 4 0)] (((1:Nat)≠0)/\(0+1<=5/\0<5)/\Ki/\·) ⟨dc,dc,rfl,Rg (fun hg24 g24=>?_) (fun hg24 g24=>?_)⟩
 refine Mn0 (!((N.list.take k).any fun x=>x.path==c.path)) (by rw[hg23,hg24];rfl)
 refine Mn0 false (by rw[hg23,hg24];rfl)
 refine Mn0 false (by rw[hg23];rfl)
 refine Cc ((!decide ((c.kind:Int)=(5:Int)))&&((!decide ((c.kind:Int)=(4:Int)))&&(!((N.list.take k).any fun x=>x.path==c.path)))) (fun hc25 c25=>?_) fun hc25 c25=>?_
 refine Sq fun K26 hK26=>?_
 refine Rr (Cn1 (decide ((9999:Int)<(N.next:Int))) [2,3,4,6] [] (((1:Nat)≠0)/\(0+1<=2/\0<2)/\Ki/\·) ⟨dc,dc,rfl,fun hc28 c28=>?_,fun hc28 c28=>?_⟩)
 refine Rr (Pc1 2 [(84,.agg (nsc N))] 85 (0+2<=2/\0<2) dc (cloneN_ok N (fun x hx=>Nat.lt_trans (hl x hx) dc) om om) (Fn3 [4] [(5,.i 6)] (Hw [(8,nsc N)] [] ·) 20 ((true=true/\2=2/\0+2<=2)/\·) ⟨dc,Fz 12 2 ((aftL c (N.list.take k)).length) ((aftL c (N.list.take k)).map ndc) (fl ndc (aftL c (N.list.take k))) [(4,.ptr 8 0),(5,.i 6)] [(8,nsc N)] [true] (chkN _) (flN_le _) (Rt1 ((0+2<=2/\0<2)/\·) (.tup [.agg (nsc N),.i 6]) ⟨dc,?_⟩)⟩))
 have hk:N.list.take k=N.list:=List.take_of_length_le om
 refine⟨_,List.Sublist.refl _,.tup [.agg (nsc (N)),.i (6)],lea_refl _,⟨N,6,rfl,?_⟩,by simp only[pur,purs,go_sem,Bool.and_self]⟩
 have q:=hc25;rw[hk]at q;simp only[Bool.and_eq_true,Bool.not_eq_true',decide_eq_false_iff_not]at q
 unfold AftR
 rw[if_pos ⟨q.1,q.2.1,q.2.2⟩]
 rw[if_pos (by have h:=hc28;simpa using h)];exact⟨rfl,rfl⟩
 refine Sk (Jn (hK26 (Kp [2,3,4,6] ?_)))
 have hak:=hAn k;have htk:(N.list.take k).length<=N.list.length:=by rw[List.length_take];omega
 refine Qr [0,1,0,4,0,0,32,112,252,508,1023,2047,4095] [(0,[]),(1,[]),(2,[]),(3,[]),(5,[]),(6,[]),(4,[1,3,6]),(7,[1,3]),(8,[]),(9,[1]),(10,[]),(11,[]),(12,[])] (qAn3 8 [(93,.osl 24 1 0 (0+(c.path.map (fun s=>[AV.str s])).length)),(90,.osl 20 1 0 0),(92,pth c.path),(91,.ptr 4 1),(89,.i N.next),(88,.ptr 0 0),(87,.osl 12 2 0 ((aftL c (N.list.take k)).length)),(86,.ptr 16 1)] ([(24,apd [] (0*1) ((c.path.map (fun s=>[AV.str s])).flatten))]++·) 28 (fun Z=>((1:Nat)≠0)/\(1+1<=2/\1<2)/\((1:Nat)≠0)/\(0+1<=2/\0<2)/\((1:Nat)≠0)/\(1+1<=5/\1<5)/\(0*1<=16777216)/\(((1+1<=2/\1<2)/\(AV.osl 12 2 0 ((aftL c (N.list.take k)).length)=(.osl 12 2 0 ((aftL c (N.list.take k)).length):AV)))/\((0+1<=2/\0<2)/\(AV.int .i64 N.next=(.i N.next:AV)))/\((1+1<=5/\1<5)/\(pth c.path=pth c.path))/\True)/\True/\(1=1/\0*1<=0/\0<16/\(0+(c.path.map (fun s=>[AV.str s])).length)*16<=140737488355328)/\(((1+1<=2/\1<2)/\(AV.osl 12 2 0 ((aftL c (N.list.take k)).length)=(.osl 12 2 0 ((aftL c (N.list.take k)).length):AV)))/\((0+1<=2/\0<2)/\(AV.int .i64 N.next=(.i N.next:AV)))/\True)/\Z) ⟨dc,dc,dc,dc,dc,dc,dc,⟨⟨dc,rfl⟩,⟨dc,rfl⟩,⟨dc,rfl⟩,trivial⟩,trivial,⟨rfl,gl,dc,gl⟩,⟨⟨dc,rfl⟩,⟨dc,rfl⟩,trivial⟩,runq_v (v':=.osl 24 1 0 c.path.length) (by rw[Nat.zero_add,List.length_map]) (runq_h (cs':=fl sc c.path) (app0_str _) (qAn3 3 [(96,.osl 32 2 0 ((aftL c (N.list.take k)).length+1)),(95,.osl 28 2 0 1),(94,.agg [.i N.next,.osl 24 1 0 c.path.length])] (fun _=>[(32,apd (fl ndc (aftL c (N.list.take k))) ((aftL c (N.list.take k)).length*2) ((([.i N.next,.osl 24 1 0 c.path.length]:List AV).drop 0).take (1*2))),(28,[.i N.next,.osl 24 1 0 c.path.length]),(24,fl sc c.path),(16,[.i N.next,.osl 12 2 0 ((aftL c (N.list.take k)).length)]),(8,[.i 0,.nils]),(4,clc c),(0,nsc N)]) 36 (fun Z=>(1*2<=16777216)/\(((1+1<=2/\1<2)/\(AV.osl 12 2 0 ((aftL c (N.list.take k)).length)=(.osl 12 2 0 ((aftL c (N.list.take k)).length):AV)))/\True)/\(0+1*2<=([.i N.next,.osl 24 1 0 c.path.length]:List AV).length)/\(2=2/\(aftL c (N.list.take k)).length*2<=(fl ndc (aftL c (N.list.take k))).length/\0<32/\((aftL c (N.list.take k)).length+1)*32<=140737488355328)/\(True)/\Z) ⟨dc,⟨⟨dc,rfl⟩,trivial⟩,(by first|decide|simp),⟨rfl,by(first|omega|(simp only[LL,flNl];omega)),dc,by(first|omega|(simp only[LL,flNl];omega))⟩,trivial,?_⟩))⟩)
 refine runq_H (H':=[(32,fl ndc (aftL c (N.list.take k))++[.i N.next,.osl 24 1 0 c.path.length]),(28,[.i N.next,.osl 24 1 0 c.path.length]),(24,fl sc c.path),(16,[.i N.next,.osl 12 2 0 ((aftL c (N.list.take k)).length)]),(8,[.i 0,.nils]),(4,clc c),(0,nsc N)]) (by rw[show apd (fl ndc (aftL c (N.list.take k))) ((aftL c (N.list.take k)).length*2) ((([.i N.next,.osl 24 1 0 c.path.length]:List AV).drop 0).take (1*2))=fl ndc (aftL c (N.list.take k))++[.i N.next,.osl 24 1 0 c.path.length]from(by unfold apd;rw[fl_full ndc_len (aftL c (N.list.take k)) rfl];rfl)]) ?_
 refine qFn3 [4,6] [] (Hw [(16,[.i N.next,.osl 32 2 0 ((aftL c (N.list.take k)).length+1)])] [] ·) 36 (((1:Nat)≠0)/\(true=true/\1=1/\1+1<=2)/\(True)/\·) ⟨dc,dc,trivial,h_k [4,6] (F':=[(4,.ptr 8 0),(6,.ptr 16 0)]) kr (FzN 24 32 (aftL c (N.list.take k)) (c.path) (N.next) [(4,.ptr 8 0),(6,.ptr 16 0)] [(16,[.i N.next,.osl 32 2 0 ((aftL c (N.list.take k)).length+1)]),(8,[.i 0,.nils]),(4,clc c),(0,nsc N)] [true,false,false,false] (Rb (fun h=>Jn (hK21 h)) (Av1 (r:=.i (IntKind.i64.wrap (N.next+1))) (v:=.i (N.next+1)) 3 100 [(99,.i N.next),(98,.ptr 16 0)] (cI (wrap64 om om)) (((1:Nat)≠0)/\(0+1<=2/\0<2)/\Ki/\·) ⟨dc,dc,rfl,?_⟩)))⟩
 refine Fn3 [4,6] [] (Hw [(16,[.i (N.next+1),.osl 32 2 0 ((aftL c (N.list.take k)).length+1)])] [] ·) 36 (((1:Nat)≠0)/\(true=true/\1=1/\0+1<=2)/\·) ⟨dc,dc,?_⟩
 have hak:=hAn k;have htk:(N.list.take k).length<=N.list.length:=(by rw[List.length_take];omega);have hAl:=hAl0 k;have hAm:∀x∈aftL c (N.list.take k)++[No.mk N.next c.path],wS x.path<2^40:=fun x hx=>(List.mem_append.1 hx).elim (hAl x) fun h=>by rw[List.mem_singleton]at h;subst h;(try dsimp only);omega
 refine Rr (Bc1 3 [(103,.osl 32 2 0 ((aftL c (N.list.take k)).length+1)),(102,.ptr 16 1)] 53 [.osl 32 2 0 ((aftL c (N.list.take k)).length+1),.fn (.func 54) []] 104 (((1:Nat)≠0)/\(1+1<=2/\1<2)/\·) ⟨dc,dc,?_⟩)
 rw[show(aftL c (List.take k N.list)).length+1=(aftL c (List.take k N.list)++[No.mk N.next c.path]).length by rw[List.length_append];rfl]
 refine XC.use (a:=fun i=>.osl i 2 0 (aftL c (N.list.take k)++[No.mk N.next c.path]).length) (sortN_ok (aftL c (N.list.take k)++[No.mk N.next c.path]) hAm (by simp only[List.length_append,List.length_singleton];omega)) kr fun r cs hr=>?_;obtain⟨Y32,rfl,hpY32,hsY32⟩:=hr.2;obtain rfl:=hr.1
 refine Ke (Fn0 [4,6] [] (h_k [4,6] (F':=[(4,.ptr 8 0),(6,.ptr 16 0)]) kr (Hn [(32,fl ndc Y32),(16,[.i (N.next+1),.osl 32 2 0 ((aftL c (N.list.take k)++[No.mk N.next c.path]).length)]),(8,[.i 0,.nils]),(4,clc c),(0,nsc N)] (h_st (F':=[(4,.ptr 8 0),(6,.ptr 16 0)]) (H':=[(32,fl ndc Y32),(16,[.i (N.next+1),.osl 32 2 0 Y32.length]),(8,[.i 0,.nils]),(4,clc c),(0,nsc N)]) rfl (by rw[hpY32.length_eq]) ?_))))
 refine Rr (Bc1 2 [(105,.agg [.i (N.next+1),.osl 32 2 0 Y32.length])] 21 [.agg [.i (N.next+1),.osl 32 2 0 Y32.length]] 106 ((0+2<=2/\0<2)/\·) ⟨dc,Tz 32 2 Y32.length (Y32.map ndc) (fl ndc Y32) [.agg [.i (N.next+1),.sl 2 (Y32.map ndc)]] [(16,[.i (N.next+1),.osl 32 2 0 Y32.length]),(8,[.i 0,.nils]),(4,clc c),(0,nsc N)] [true,true,true,true] (chkN _) (flN_le _) ?_⟩)
 have hyl:=hpY32.length_eq;(try simp only[List.length_append,List.length_singleton]at hyl)
 refine PE.use (cloneN_ok (Nds.mk (N.next+1) Y32) (fun x hx=>hAm x (hpY32.mem_iff.1 hx)) (by(try dsimp only);omega) (by(try dsimp only);omega)) ?_
 refine Ke (Fn3 [4] [(5,.i 0)] (Hw [(8,[.i (N.next+1),.sl 2 (Y32.map ndc)])] [] ·) 36 ((true=true/\2=2/\0+2<=2)/\·) ⟨dc,Rt1 ((0+2<=2/\0<2)/\·) (.tup [.agg [.i (N.next+1),.sl 2 (Y32.map ndc)],.i 0]) ⟨dc,?_⟩⟩)
 have hk:N.list.take k=N.list:=List.take_of_length_le om
 refine⟨_,List.Sublist.refl _,.tup [.agg (nsc (Nds.mk (N.next+1) Y32)),.i (0)],lea_refl _,⟨(Nds.mk (N.next+1) Y32),0,rfl,?_⟩,by simp only[pur,purs,go_sem,Bool.and_self]⟩
 have q:=hc25;rw[hk]at q;simp only[Bool.and_eq_true,Bool.not_eq_true',decide_eq_false_iff_not]at q
 unfold AftR
 rw[if_pos ⟨q.1,q.2.1,q.2.2⟩]
 rw[if_neg (by have h:=hc28;simpa using h)];rw[hk]at hpY32;exact⟨rfl,rfl,hpY32,hsY32⟩
 refine Sk (Jn (hK21 (Kp [4,6] ?_)))
 have hak:=hAn k;have htk:(N.list.take k).length<=N.list.length:=(by rw[List.length_take];omega);have hAl:=hAl0 k;have hAm:∀x∈aftL c (N.list.take k)++[No.mk N.next c.path],wS x.path<2^40:=fun x hx=>(List.mem_append.1 hx).elim (hAl x) fun h=>by rw[List.mem_singleton]at h;subst h;(try dsimp only);omega
 refine Rr (Bc1 3 [(103,.osl 12 2 0 ((aftL c (N.list.take k)).length)),(102,.ptr 16 1)] 53 [.osl 12 2 0 ((aftL c (N.list.take k)).length),.fn (.func 54) []] 104 (((1:Nat)≠0)/\(1+1<=2/\1<2)/\·) ⟨dc,dc,XC.use (a:=fun i=>.osl i 2 0 (aftL c (N.list.take k)).length) (sortN_ok (aftL c (N.list.take k)) hAl om) kr fun r cs hr=>?_⟩);obtain⟨Y35,rfl,hpY35,hsY35⟩:=hr.2;obtain rfl:=hr.1
 refine Ke (Fn0 [4,6] [] (h_k [4,6] (F':=[(4,.ptr 8 0),(6,.ptr 16 0)]) kr (Hn [(16,[.i N.next,.osl 12 2 0 ((aftL c (N.list.take k)).length)]),(12,fl ndc Y35),(8,[.i 0,.nils]),(4,clc c),(0,nsc N)] (h_st (F':=[(4,.ptr 8 0),(6,.ptr 16 0)]) (H':=[(16,[.i N.next,.osl 12 2 0 Y35.length]),(12,fl ndc Y35),(8,[.i 0,.nils]),(4,clc c),(0,nsc N)]) rfl (by rw[hpY35.length_eq]) ?_))))
 refine Rr (Bc1 2 [(105,.agg [.i N.next,.osl 12 2 0 Y35.length])] 21 [.agg [.i N.next,.osl 12 2 0 Y35.length]] 106 ((0+2<=2/\0<2)/\·) ⟨dc,Tz 12 2 Y35.length (Y35.map ndc) (fl ndc Y35) [.agg [.i N.next,.sl 2 (Y35.map ndc)]] [(16,[.i N.next,.osl 12 2 0 Y35.length]),(8,[.i 0,.nils]),(4,clc c),(0,nsc N)] [true,true,true,true] (chkN _) (flN_le _) ?_⟩)
 have hyl:=hpY35.length_eq;(try simp only[List.length_append,List.length_singleton]at hyl)
 refine PE.use (cloneN_ok (Nds.mk N.next Y35) (fun x hx=>hAl x (hpY35.mem_iff.1 hx)) (by(try dsimp only);omega) (by(try dsimp only);omega)) ?_
 refine Ke (Fn3 [4] [(5,.i 0)] (Hw [(8,[.i N.next,.sl 2 (Y35.map ndc)])] [] ·) 20 ((true=true/\2=2/\0+2<=2)/\·) ⟨dc,Rt1 ((0+2<=2/\0<2)/\·) (.tup [.agg [.i N.next,.sl 2 (Y35.map ndc)],.i 0]) ⟨dc,?_⟩⟩)
 have hk:N.list.take k=N.list:=List.take_of_length_le om
 refine⟨_,List.Sublist.refl _,.tup [.agg (nsc (Nds.mk N.next Y35)),.i (0)],lea_refl _,⟨(Nds.mk N.next Y35),0,rfl,?_⟩,by simp only[pur,purs,go_sem,Bool.and_self]⟩
 unfold AftR
 rw[if_neg (fun q2=>by have q:=hc25;rw[hk,show(N.list.any fun x=>x.path==c.path)=false from q2.2.2]at q;simp[q2.1,q2.2.1]at q)];rw[hk]at hpY35;exact⟨rfl,rfl,hpY35,hsY35⟩
open Go Go.Proofs
set_option maxRecDepth 100000
def NDoR (N:Nds) (t:Tr) (c:Cl) (M:Nds) (k:Int):Prop:=if ndOk N t=false then M=Nds.mk 0 []/\k=1 else if(sTreeDo t c).2≠0 then M=N/\k=(sTreeDo t c).2 else AftR N c M k
theorem aDo_eq {t:Tr} (h:treeOk t=true) (c:Cl):aDo t c=sTreeDo t c:=by
  rw[<-iTreeDo_eq];unfold iTreeDo;rw[h];rfl
theorem iND_pc (N:Nds) (t:Tr) (c:Cl) (hl:∀x∈N.list,wS x.path<2^34) (hn:N.list.length<2^18) (hb: -2^50<N.next/\N.next<2^50) (hw:t.W<2^30) (h1:wS c.path<2^32) (h2:wS c.to<2^32) (h3:c.data.length<2^20):PC G 7 [.agg (nsc N),.agg (tcs t),.agg (clc c)] (fun r=>∃M k,r=.tup [.agg (nsc M),.i k]/\NDoR N t c M k):=by
 have hpl:=wS_len c.path;have htl:=wS_len c.to
 refine h_pc (F:=[(0,.agg (nsc N)),(1,.agg (tcs t)),(2,.agg (clc c))]) (by simp only[go_sem]) Tryz.func7 kr kr ?_ kr
 refine Rr (Fn2 [] [(6,.ptr 12 0),(5,.ptr 8 0),(4,.ptr 4 0),(3,.ptr 0 0)] ([(12,[.i 0,.nils]),(8,clc c),(4,tcs t),(0,nsc N)]++·) 16 (Sq fun K2 hK2=>?_))
 refine Rr (Bc1 3 [(11,.agg (tcs t)),(10,.agg (nsc N))] 12 [.agg (nsc N),.agg (tcs t)] 12 ((0+2<=2/\0<2)/\(0+5<=5/\0<5)/\·) ⟨dc,dc,PE.use (nOk_ok N t (fun x hx=>Nat.lt_trans (hl x hx) dc) om hb om) (Ke (Cn0 (!(ndOk N t)) [3,4,5,6] [] ⟨fun hc4 c4=>?_,fun hc4 c4=>?_⟩))⟩)
 refine Rr (Fn1 [6] [(7,.i 1)] ((true=true/\2=2/\0+2<=2)/\·) ⟨dc,Rt1 ((0+2<=2/\0<2)/\·) (.tup [.agg [.i 0,.nils],.i 1]) ⟨dc,⟨_,List.Sublist.refl _,.tup [.agg (nsc (Nds.mk 0 [])),.i (1)],(by simp[lea,leas]),⟨(Nds.mk 0 []),1,rfl,?_⟩,by simp only[pur,purs,go_sem,Bool.and_self]⟩⟩⟩)
 unfold NDoR
 rw[if_pos (by have h:=hc4;simpa using h)];exact⟨rfl,rfl⟩
 refine Sk (Jn (hK2 (Kp [3,4,5,6] (Sq fun K6 hK6=>?_))))
 refine Rr (Bc1 3 [(17,.agg (clc c)),(16,.agg (tcs t))] 20 [.agg (tcs t),.agg (clc c)] 18 ((0+5<=5/\0<5)/\(0+5<=5/\0<5)/\·) ⟨dc,dc,?_⟩)
 have htk:treeOk t=true:=by have h:=hc4;simp only[Bool.not_eq_false']at h;unfold ndOk at h;simp only[Bool.and_eq_true]at h;exact h.1
 refine PE.use (after_ok t c htk om om h3) ?_
 refine Ke (Fn3 [3,5,6] [(9,.i ((aDo t c).2))] ([(16,tcs ((aDo t c).1))]++·) 20 ((0<2)/\(1<2)/\(true=true/\5=5/\0+5<=5)/\·) ⟨dc,dc,dc,Rr (Cn1 (!decide (((aDo t c).2:Int)=(0:Int))) [3,5,6,9] [] (Ki/\·) ⟨rfl,fun hc9 c9=>?_,fun hc9 c9=>?_⟩)⟩)
 refine Rr (Pc1 2 [(23,.agg (nsc N))] 24 (0+2<=2/\0<2) dc (cloneN_ok N (fun x hx=>Nat.lt_trans (hl x hx) dc) om hb) (Fn3 [6] [(7,.i ((aDo t c).2))] (Hw [(12,nsc N)] [] ·) 20 ((true=true/\2=2/\0+2<=2)/\·) ⟨dc,Rt1 ((0+2<=2/\0<2)/\·) (.tup [.agg (nsc N),.i ((aDo t c).2)]) ⟨dc,⟨_,List.Sublist.refl _,.tup [.agg (nsc N),.i ((aDo t c).2)],lea_refl _,⟨N,((aDo t c).2),rfl,?_⟩,by simp only[pur,purs,go_sem,Bool.and_self]⟩⟩⟩))
 unfold NDoR
 rw[if_neg (by have h:=hc4;simpa using h)]
 have ea:aDo t c=sTreeDo t c:=aDo_eq htk c
 rw[if_pos (by have h:=hc9;rw[ea]at h;simpa using h)];exact⟨rfl,by rw[ea]⟩
 refine Sk (Jn (hK6 (Kp [3,5,6] (Rr (Bc1 3 [(27,.agg (clc c)),(26,.agg (nsc N))] 22 [.agg (nsc N),.agg (clc c)] 28 ((0+2<=2/\0<2)/\(0+5<=5/\0<5)/\·) ⟨dc,dc,PC.use (after_pc N c hl hn hb h1 h2) fun r hr=>?_⟩)))));obtain⟨M,k,rfl,hAft⟩:=hr
 refine Ke (Fn3 [6] [(7,.i k)] (Hw [(12,nsc M)] [] ·) 20 ((0<2)/\(1<2)/\(true=true/\2=2/\0+2<=2)/\·) ⟨dc,dc,dc,Rt1 ((0+2<=2/\0<2)/\·) (.tup [.agg (nsc M),.i k]) ⟨dc,⟨_,List.Sublist.refl _,.tup [.agg (nsc M),.i (k)],lea_refl _,⟨M,k,rfl,?_⟩,by simp only[pur,purs,go_sem,Bool.and_self]⟩⟩⟩)
 unfold NDoR
 rw[if_neg (by have h:=hc4;simpa using h)]
 have ea:aDo t c=sTreeDo t c:=aDo_eq htk c
 rw[if_neg (by have h:=hc9;rw[ea]at h;simpa using h)];exact hAft
open Go Go.Proofs
set_option maxRecDepth 100000
def NB (N:Nds):Prop:=N.list.length<=31/\(∀x∈N.list,wS x.path<2^33)/\ -2^20<N.next/\N.next<2^20
theorem nsOk_b {N:Nds} (h:nsOk N=true):N.list.length<=30/\(∀x∈N.list,pthOk x.path 1=true)/\1<=N.next/\N.next<=10000:=by
  unfold nsOk at h
  simp only[Bool.and_eq_true,decide_eq_true_eq,List.all_eq_true,List.mem_range]at h
  obtain⟨h1,h2,h3⟩:=h
  refine⟨h2,fun x hx=>?_,by simp[inb]at h1;omega,by simp[inb]at h1;omega⟩
  obtain⟨i,hi,rfl⟩:=List.mem_iff_getElem.1 hx
  have h4:=h3 i hi
  unfold stepN at h4
  simp only[Bool.and_eq_true]at h4
  have e:N.list.getD i default=N.list[i]:=by simp[List.getD,hi]
  rw[e]at h4;exact h4.2.1
theorem numN_mem {x:No}:∀{i:Int} {ps:List (List Str)},x∈numN i ps->x.path∈ps
  |_,[],h=>by simp[numN]at h
  |i,p::ps,h=>by
    simp only[numN,List.mem_cons]at h
    rcases h with rfl|h
    · simp
    · exact List.mem_cons_of_mem _ (numN_mem h)
theorem NB_start (t:Tr) (hw:t.W<2^12):NB (sStart t):=by
  unfold sStart
  split
  · rename_i h
    have hc:cnt t<=30:=by unfold treeOk at h;simp only[Bool.and_eq_true,decide_eq_true_eq]at h;exact h.2.2
    have hl:=pathsT_len [] t
    refine⟨by show(numN 1 _).length<=31;rw[numN_len];omega,fun x hx=>?_,by(try dsimp only);omega,by(try dsimp only);omega⟩
    have:=pathsT_wS [] t _ (numN_mem hx)
    have h0:wS []=0:=rfl
    omega
  · exact⟨by simp,by simp,dc,dc⟩
theorem NB_sN {N:Nds} {t:Tr} {c:Cl} (hN:NB N) (h1:wS c.path<2^32) (h2:wS c.to<2^32):NB (sNDo N t c).1:=by
  unfold sNDo
  split
  · exact⟨by simp,by simp,dc,dc⟩
  · rename_i h
    have hk:nsOk N=true:=by
      have h:ndOk N t=true:=by simpa using h
      unfold ndOk at h;simp only[Bool.and_eq_true]at h;exact h.2.1
    obtain⟨k1,k2,k3,k4⟩:=nsOk_b hk
    have k5:∀x∈N.list,wS x.path<=24:=fun x hx=>wS_pth (k2 x hx)
    split
    · exact hN
    · split
      · refine⟨by show(movN _ _ _ _).length<=31;rw[movN_len];simp only[List.length_nil];omega,movN_wS N.list [] (by simp) (fun y hy=>by have:=k5 y hy;omega),hN.2.2⟩
      · split
        · exact⟨Nat.le_trans (List.length_filter_le _ _) hN.1,fun x hx=>hN.2.1 x (List.mem_filter.1 hx).1,hN.2.2⟩
        · split
          · exact hN
          · split
            · exact hN
            · refine⟨by show(insN _ _).length<=31;rw[insN_len];omega,fun x hx=>?_,by(try dsimp only);omega,by(try dsimp only);omega⟩
              rcases insN_mem hx with rfl|hx
              · (try dsimp only);omega
              · exact hN.2.1 x hx
theorem l61Nodes_ok (b:Str) (p:Nat) (hp:p<2^24) (hb:b.length<2^30):RC G 39 [] b p (fun r p'=>∃(N:Nds) (t:Tr),NB N/\t.W<2^12/\r=.tup [.agg (nsc N),.agg (tcs t)]/\p'<=p+2000):=by
 refine h_rc (F:=[(0,.ptr 0 0)]) (by simp only[go_sem]) Tryz.func39 kr kr ?_ kr
 refine Rr (Fn2 [0] [(3,.ptr 8 0),(2,.ptr 4 0)] ([(8,zt),(4,[.i 0,.nils])]++·) 12 (Rr (Bc0 2 [(10,.ptr 0 0)] 70 [.ptr 0 0] 11 (RC.use (l4Tree_ok b p om om) kr fun r q4 hr=>?_))));obtain⟨x3,h1x3,rfl,h3x3⟩:=hr
 refine Ke (Fn3 [0,2,3] [(4,.ptr 12 0)] ([(12,tcs x3)]++·) 16 ((true=true/\5=5/\0+5<=5)/\·) ⟨dc,Rr (Pc1 2 [(12,.agg (tcs x3))] 13 (0+5<=5/\0<5) dc (sStart_ok x3 om) (Fn3 [0,2,3,4] [(5,.ptr 16 0)] ([(16,nsc (sStart x3))]++·) 20 ((true=true/\2=2/\0+2<=2)/\·) ⟨dc,?_⟩))⟩)
 refine Sq fun K6 hK6=>?_
 refine Rr (Bc0 2 [(14,.ptr 0 0)] 40 [.ptr 0 0,.i 9] 15 (RC.use (pick_ok b q4 9 om om om om) kr fun r p1 hr=>?_));obtain⟨pk8,hpk8,rfl,rfl⟩:=hr
 refine Ke (Fn0 [0,2,3,4,5] [(6,.i pk8)] (Bl (h_l (fun(z:Nds×Tr×Nat×Nat)=>(match z with|(N,x,q,k)=>([(0,.ptr 0 0),(2,.ptr 4 0),(3,.ptr 8 0),(4,.ptr 12 0),(5,.ptr 16 0),(6,.i k)]:Fr))) (fun(z:Nds×Tr×Nat×Nat)=>(match z with|(N,x,q,k)=>([(16,nsc N),(12,tcs x),(8,zt),(4,[.i 0,.nils]),(0,rdc b q)]:Hp))) (fun(z:Nds×Tr×Nat×Nat) cn=>(match z with|(N,x,q,k)=>(NB N/\x.W<2^12/\q+60*k<=p+1600/\k<=9)/\cn=20)) (fun(z:Nds×Tr×Nat×Nat)=>z.2.2.2) ((sStart x3),x3,q4+1,pk8) kr ?_ ?_ ?_ ?_)))
 refine⟨?_,rfl⟩;exact⟨NB_start _ om,om,om,om⟩
 exact⟨kr,kr,kr,kr,kr,kr,trivial⟩
 exact(sub_c kr (sub_c kr (sub_c kr (sub_c kr (sub_c kr (List.nil_sublist _))))))
 rintro⟨N,x,q,k⟩ n1 hI
 (try dsimp only at hI)
 obtain⟨⟨hi1,hi2,hi3,hi4⟩,rfl⟩:=hI
 refine Sq fun K9 hK9=>?_
 refine Rr (Cn1 (decide ((0:Int)<((k:Int):Int))) [0,2,3,4,5,6] [] (Ki/\·) ⟨rfl,fun hc11 c11=>?_,fun hc11 c11=>?_⟩)
 refine Sk (Jn (hK9 (Kp [0,2,3,4,5,6] (Sq fun K12 hK12=>?_))))
 refine Bl (Rr (Bc1 3 [(21,.agg (tcs x)),(20,.ptr 0 0)] 17 [.ptr 0 0,.agg (tcs x)] 22 ((0+5<=5/\0<5)/\·) ⟨dc,RC.use (l4Call_ok b q x om om om) kr fun r q15 hr=>?_⟩));obtain⟨cl14,h0cl14,h1cl14,h2cl14,rfl,h3cl14⟩:=hr
 refine Ke (Fn3 [0,2,3,4,5,6] [(7,.ptr 20 0)] ([(20,clc cl14)]++·) 24 ((true=true/\5=5/\0+5<=5)/\·) ⟨dc,Rr (Bc1 4 [(26,.agg (clc cl14)),(25,.agg (tcs x)),(24,.agg (nsc N))] 8 [.agg (nsc N),.agg (tcs x),.agg (clc cl14)] 27 ((0+2<=2/\0<2)/\(0+5<=5/\0<5)/\(0+5<=5/\0<5)/\·) ⟨dc,dc,dc,PE.use (sNDo_ok N x cl14 (fun y hy=>Nat.lt_trans (hi1.2.1 y hy) dc) (by have:=hi1.1;omega) (by have:=hi1.2.2;omega) om om om om) ?_⟩)⟩)
 refine Ke (Fn3 [0,2,3,4,5,6,7] [(9,.i ((sNDo N x cl14).2)),(8,.ptr 24 0)] ([(24,nsc ((sNDo N x cl14).1))]++·) 28 ((0<2)/\(1<2)/\(true=true/\2=2/\0+2<=2)/\·) ⟨dc,dc,dc,Rr (Cn1 (decide (((sNDo N x cl14).2:Int)=(0:Int))) [0,2,3,4,5,6,7,8] [] (Ki/\·) ⟨rfl,fun hc18 c18=>?_,fun hc18 c18=>?_⟩)⟩)
 refine Rr (Fn3 [0,2,3,4,5,6,7] [] (Hw [(16,nsc ((sNDo N x cl14).1))] [] ·) 28 ((0+2<=2/\0<2)/\(true=true/\2=2/\0+2<=2)/\·) ⟨dc,dc,Rb (fun h=>Bn (Jn (hK12 h))) (Bc1 3 [(35,.agg (clc cl14)),(34,.agg (tcs x))] 23 [.agg (tcs x),.agg (clc cl14)] 36 ((0+5<=5/\0<5)/\(0+5<=5/\0<5)/\·) ⟨dc,dc,?_⟩)⟩)
 have hB20:=W_sTreeDo x cl14 om
 refine PE.use (sTreeDo_ok x cl14 om (by first|omega|decide|(dsimp only;first|omega|decide)) (by first|omega|decide|(dsimp only;first|omega|decide)) (by first|omega|decide|(dsimp only;first|omega|decide))) ?_
 refine Ke (Fn3 [0,2,3,4,5,6] [] (Hw [(12,tcs ((sTreeDo x cl14).1))] [] ·) 28 ((0<2)/\(1<2)/\(true=true/\5=5/\0+5<=5)/\·) ⟨dc,dc,dc,Rn (Av1 (r:=.i (IntKind.i64.wrap ((k:Int)-1))) (v:=.i ((k:Int)-1)) 2 19 [(18,.i k)] (cI (wrap64 om om)) (Ki/\·) ⟨rfl,Gn0 [(6,.i ((k:Int)-1))] ?_⟩)⟩)
 refine nk_n (Lr (((sNDo N x cl14).1),((sTreeDo x cl14).1),q15,k-1) [(0,0),(4,4),(8,8),(12,12),(16,16)] 20 [(0,.ptr 0 0),(2,.ptr 4 0),(3,.ptr 8 0),(4,.ptr 12 0),(5,.ptr 16 0),(6,.i ((k:Int)-1))] [(16,nsc ((sNDo N x cl14).1)),(12,tcs ((sTreeDo x cl14).1)),(8,zt),(4,[.i 0,.nils]),(0,rdc b q15)] [true,true,true,true,true] ?_ ?_ kr (by(try rw[show((k:Int)-1)=((k-1:Nat):Int) by omega]);try kernel_rfl))
 (try dsimp only);omega
 refine⟨?_,rfl⟩;(try dsimp only);exact⟨NB_sN hi1 om om,om,om,om⟩
 refine Sk (Bn (Jn (hK12 (Kp [0,2,3,4,5,6] (Rn (Av1 (r:=.i (IntKind.i64.wrap ((k:Int)-1))) (v:=.i ((k:Int)-1)) 2 19 [(18,.i k)] (cI (wrap64 om om)) (Ki/\·) ⟨rfl,Gn0 [(6,.i ((k:Int)-1))] (nk_n ?_)⟩))))))
 refine Lr (N,x,q15,k-1) [(0,0),(4,4),(8,8),(12,12),(16,16)] 20 [(0,.ptr 0 0),(2,.ptr 4 0),(3,.ptr 8 0),(4,.ptr 12 0),(5,.ptr 16 0),(6,.i ((k:Int)-1))] [(16,nsc N),(12,tcs x),(8,zt),(4,[.i 0,.nils]),(0,rdc b q15)] [true,true,true,true,true] ?_ ?_ kr (by(try rw[show((k:Int)-1)=((k-1:Nat):Int) by omega]);try kernel_rfl)
 (try dsimp only);omega
 refine⟨?_,rfl⟩;(try dsimp only);exact⟨hi1,om,om,om⟩
 refine Xt (Jx (Lx (Bh (Jn (hK6 (Kp [2,3,4,5] (Qr [0,0,1,7] [(0,[]),(1,[]),(2,[1]),(3,[])] (qFn3 [2,3] [] (Hw [(8,tcs x),(4,nsc N)] [] ·) 20 ((0+2<=2/\0<2)/\(0+5<=5/\0<5)/\(true=true/\2=2/\0+2<=2)/\(((0+5<=5/\0<5)/\(AV.agg (tcs x)=(.agg (tcs x):AV)))/\True)/\(true=true/\5=5/\0+5<=5)/\(True)/\·) ⟨dc,dc,dc,⟨⟨dc,rfl⟩,trivial⟩,dc,trivial,Rt1 ((0+2<=2/\0<2)/\(0+5<=5/\0<5)/\·) (.tup [.agg (nsc N),.agg (tcs x)]) ⟨dc,dc,?_⟩⟩))))))))
 exact fin_rc q (lea_refl _) (by simp only[pur,purs,go_sem,Bool.and_self]) kr ⟨N,x,hi1,hi2,rfl,om⟩
def CnR (N:Nds) (r:AV) (Z:Hp):Prop:=(N.list=[]/\r=.agg [.int .i64 N.next,.nils]/\Z=[])\/(N.list≠[]/\∃a:Nat,r=.agg [.int .i64 N.next,.osl (2*a+1) 2 0 N.list.length]/\Z=[(2*a+1,fl ndc N.list)])
theorem cn_use {G:Prg} {f:Nat} {N:Nds} {H:Hp} {n:Nat} {Q:CPost} (h:DC G f [.agg (nsc N)] [] (CnR N)) (q1:N.list=[]->Q (.agg [.int .i64 N.next,.nils]) H n)
  (q2:N.list≠[]->Q (.agg [.int .i64 N.next,.osl n 2 0 N.list.length]) ((n,fl ndc N.list)::H) (n+4)):TCall G f [.agg (nsc N)] H n Q:=by
 have h0:TCall G f [.agg (nsc N)] H n fun r H' n'=>n'=n/\∃Z',H'=H++Z'/\CnR N r Z':=by
  refine lend_ref ((h [] n trivial).mono ?_)
  rintro r H' n' _ ⟨rfl,Z',rfl,hc⟩
  exact⟨rfl,hc⟩
 refine tc_evn (h0.mono ?_)
 rintro r H' n' _ ⟨rfl,Z',rfl,hc⟩ hnd hn4
 rcases hc with ⟨he,rfl,rfl⟩|⟨he,a,rfl,rfl⟩
 ·exact .inl (by simpa using q1 he)
 ·have e1:r1 (2*a+1) n' (.agg [.int .i64 N.next,.osl (2*a+1) 2 0 N.list.length])=.agg [.int .i64 N.next,.osl n' 2 0 N.list.length]:=by simp only[r1,r1s,Nat.beq_refl,cond_true]
  refine .inr ⟨2*a+1,_,H,_,by omega,List.perm_append_comm,⟨trivial,trivial,trivial⟩,r1K_refl _ _ _,?_⟩
  rw[e1];exact q2 he
open Go Go.Proofs
set_option maxRecDepth 100000
theorem l33CopyO_ok (N:Nds) (hl:∀x∈N.list,wS x.path<2^40) (hn:N.list.length<2^20) (hb: -2^50<N.next/\N.next<2^50):DC G 24 [.agg (nsc N)] [] (CnR N):=by
 refine DC_nd fun hnd=>?_
 refine h_dc (F:=[(0,.agg (nsc N))]) (ods_pur _ (by simp only[purs,pur,go_sem,Bool.and_self])) trivial Tryz.func24 kr kr ?_ kr
 refine Rr (Fn2 [] [(2,.ptr 4 0),(1,.ptr 0 0)] ([(4,[.i 0,.nils]),(0,nsc N)]++·) 8 (Rr (Fn3 [1,2] [(3,.ptr 8 0)] ([(8,[.i N.next,.nils])]++·) 12 (((1:Nat)≠0)/\(0+1<=2/\0<2)/\(true=true/\2=2/\0+2<=2)/\·) ⟨dc,dc,dc,Sq fun K3 hK3=>?_⟩)))
 refine Rr (Fn0 [1,2,3] [(4,.i 0)] (Bl (h_l (fun(z:Nat×Option Unit)=>(match z with|(_,none)=>([(1,.ptr 0 0),(2,.ptr 4 0),(3,.ptr 8 0),(4,.i 0)]:Fr)|(k,some ())=>([(1,.ptr 0 0),(2,.ptr 4 0),(3,.ptr 8 0),(4,.i k)]:Fr))) (fun(z:Nat×Option Unit)=>(match z with|(_,none)=>([(8,[.i N.next,.nils]),(4,[.i 0,.nils]),(0,nsc N)]:Hp)|(k,some ())=>([(12,fl ndc (N.list.take k)),(8,[.i N.next,.osl 12 2 0 ((N.list.take k).length)]),(4,[.i 0,.nils]),(0,nsc N)]:Hp))) (fun(z:Nat×Option Unit) cn=>(match z with|(_,none)=>(z.1=0)/\cn=12|(k,some ())=>(0<k/\k<=N.list.length)/\cn=16)) (fun(z:Nat×Option Unit)=>N.list.length-z.1) (0,none) kr ?_ ?_ ?_ ?_)))
 refine⟨?_,rfl⟩;rfl
 exact⟨kr,kr,kr,kr,trivial⟩
 exact(sub_c kr (sub_c kr (sub_c kr (List.nil_sublist _))))
 rintro⟨k,_|⟨⟩⟩ n1 hI
 (try dsimp only at hI)
 obtain⟨rfl,rfl⟩:=hI
 dsimp only
 have hk0:0=0:=rfl
 refine Sq fun K5 hK5=>?_
 refine Rr (Av1 4 11 [(10,.sl 2 (N.list.map ndc)),(9,.ptr 0 1),(8,.i 0)] (lnm N.list ndc) (((1:Nat)≠0)/\(1+1<=2/\1<2)/\·) ⟨dc,dc,Cn1 (decide ((0:Int)<((N.list.length:Int):Int))) [1,2,3,4] [] (Ki/\·) ⟨rfl,fun hc7 c7=>?_,fun hc7 c7=>?_⟩⟩)
 refine Sk (Jn (hK5 (Kp [1,2,3,4] (Sq fun K8 hK8=>?_))))
 refine Bl ?_
 first|(have hgn:=hl _ (getD_mem N.list k default om);have hgl:=wS_len (N.list.getD k default).path)|(have hgn:=hl _ (getD_mem N.list 0 default om);have hgl:=wS_len (N.list.getD 0 default).path)
 refine Qb [0,1,0,4,0,28,60,124,0,0,512,0,3584,7680,15872,32512,65532,131068,262143,524287,1048575] [(0,[]),(1,[]),(2,[]),(3,[]),(4,[]),(5,[]),(6,[]),(7,[]),(9,[]),(10,[]),(11,[]),(12,[]),(13,[]),(14,[]),(8,[1,3,7,10,14]),(15,[1,3,7]),(16,[]),(17,[1]),(18,[]),(19,[]),(20,[])] (fun h=>Bn (Jn (hK8 h))) (qAv1 6 20 [(19,.i 0),(18,.sl 2 (N.list.map ndc)),(17,.ptr 0 1),(16,.nils),(15,.ptr 8 1)] (congrArg AV.pat (mg_nd N.list 0 om)) (((1:Nat)≠0)/\(1+1<=2/\1<2)/\((1:Nat)≠0)/\(1+1<=2/\1<2)/\(2=2/\(0:Int)<=0/\0<((N.list.map ndc).length:Int))/\·) ⟨dc,dc,dc,dc,⟨rfl,om,lmo⟩,qAv1 6 27 [(26,.i 0),(25,.sl 2 (N.list.map ndc)),(24,.ptr 0 1),(22,.i ((N.list.getD 0 default).id)),(21,.pat (ndc (N.list.getD 0 default)))] (congrArg AV.pat (mg_nd N.list 0 om)) (((1:Nat)≠0)/\(1<=2/\0<2)/\((1:Nat)≠0)/\(1+1<=2/\1<2)/\(2=2/\(0:Int)<=0/\0<((N.list.map ndc).length:Int))/\·) ⟨dc,dc,dc,dc,⟨rfl,om,lmo⟩,qAn3 4 [(30,.osl 16 1 0 (0+(((N.list.getD 0 default).path).map (fun s=>[AV.str s])).length)),(23,.osl 12 1 0 0),(29,pth ((N.list.getD 0 default).path)),(28,.pat [pth ((N.list.getD 0 default).path)])] ([(16,apd [] (0*1) ((((N.list.getD 0 default).path).map (fun s=>[AV.str s])).flatten))]++·) 20 (fun Z=>((1:Nat)≠0)/\(1<=1/\0<1)/\(0*1<=16777216)/\(((1+1<=2/\1<2)/\(AV.nils=(.nils:AV)))/\((1+1<=2/\1<2)/\(AV.sl 2 (N.list.map ndc)=(.sl 2 (N.list.map ndc):AV)))/\((1<=2/\0<2)/\(AV.int .i64 ((N.list.getD 0 default).id)=(.i ((N.list.getD 0 default).id):AV)))/\((1+1<=2/\1<2)/\(AV.sl 2 (N.list.map ndc)=(.sl 2 (N.list.map ndc):AV)))/\((1<=1/\0<1)/\(pth ((N.list.getD 0 default).path)=pth ((N.list.getD 0 default).path)))/\True)/\True/\(1=1/\0*1<=0/\0<16/\(0+(((N.list.getD 0 default).path).map (fun s=>[AV.str s])).length)*16<=140737488355328)/\(((1+1<=2/\1<2)/\(AV.nils=(.nils:AV)))/\((1+1<=2/\1<2)/\(AV.sl 2 (N.list.map ndc)=(.sl 2 (N.list.map ndc):AV)))/\((1<=2/\0<2)/\(AV.int .i64 ((N.list.getD 0 default).id)=(.i ((N.list.getD 0 default).id):AV)))/\True)/\Z) ⟨dc,dc,dc,⟨⟨dc,rfl⟩,⟨dc,rfl⟩,⟨dc,rfl⟩,⟨dc,rfl⟩,⟨dc,rfl⟩,trivial⟩,trivial,⟨rfl,gl,dc,gl⟩,⟨⟨dc,rfl⟩,⟨dc,rfl⟩,⟨dc,rfl⟩,trivial⟩,runq_v (v':=.osl 16 1 0 (((N.list.getD 0 default).path).length)) (by rw[Nat.zero_add,List.length_map]) ?_⟩⟩⟩)
 refine runq_h (cs':=fl sc ((N.list.getD 0 default).path)) (app0_str _) ?_
 refine qFn3 [1,2,3,4] [] ([(24,[.i ((N.list.getD 0 default).id),.osl 16 1 0 (((N.list.getD 0 default).path).length)]),(20,[.i ((N.list.getD 0 default).id),.osl 16 1 0 (((N.list.getD 0 default).path).length)])]++Hw [(8,[.i N.next,.osl 24 2 0 1])] [] ·) 28 ((1*2<=16777216)/\(((1+1<=2/\1<2)/\(AV.nils=(.nils:AV)))/\True)/\(0+1*2<=2)/\(0<1/\0<32/\1*32<=140737488355328)/\(True)/\((1:Nat)≠0)/\(true=true/\1=1/\1+1<=2)/\(True)/\·) ⟨dc,⟨⟨dc,rfl⟩,trivial⟩,dc,dc,trivial,dc,dc,trivial,h_k [1,2,3,4] (F':=[(1,.ptr 0 0),(2,.ptr 4 0),(3,.ptr 8 0),(4,.i 0)]) kr (FzN 16 24 ([]) ((N.list.getD 0 default).path) ((N.list.getD 0 default).id) [(1,.ptr 0 0),(2,.ptr 4 0),(3,.ptr 8 0),(4,.i 0)] [(8,[.i N.next,.osl 24 2 0 1]),(4,[.i 0,.nils]),(0,nsc N)] [true,false,false] (Rn (Gn1 [(4,.i 1),(14,.i 1),(13,.i 0)] (Ki/\·) ⟨rfl,?_⟩)))⟩
 refine nk_n (Lr (1,some ()) [(0,0),(4,4),(8,8),(24,12)] 16 [(1,.ptr 0 0),(2,.ptr 4 0),(3,.ptr 8 0),(4,.i 1)] [(24,fl ndc ([]++[No.mk ((N.list.getD 0 default).id) ((N.list.getD 0 default).path)])),(8,[.i N.next,.osl 24 2 0 1]),(4,[.i 0,.nils]),(0,nsc N)] [false,true,true,true] ?_ ?_ (by(try ((try dsimp only);rw[<-one_take default om]));try kernel_rfl) kr)
 (try dsimp only);omega
 refine⟨?_,rfl⟩;(try dsimp only);omega
 refine Xt (Jx (Lx (Bh (Jn (hK3 (Kp [2,3] ?_))))))
 have hk0:N.list=[]:=List.eq_nil_of_length_eq_zero om
 refine h_pm (H':=((8,[.i N.next,.nils])::(4,[.i 0,.nils])::(0,nsc N)::[])) (List.Perm.refl _) ?_
 refine Rr (Fn3 [2] [] (fun _=>((8,[.i N.next,.nils])::(4,[.i N.next,.nils])::(0,nsc N)::[])) 12 ((0+2<=2/\0<2)/\(true=true/\2=2/\0+2<=2)/\·) ⟨dc,dc,Rt1 ((0+2<=2/\0<2)/\·) (.agg [.i N.next,.nils]) ⟨dc,fin_dc (.agg [.i N.next,.nils]) [] (List.nil_sublist _) (lea_refl _) ⟨trivial,trivial,trivial⟩ trivial (.inl ⟨hk0,rfl,rfl⟩)⟩⟩)
 (try dsimp only at hI)
 obtain⟨⟨hk0,hk⟩,rfl⟩:=hI
 dsimp only
 have htk:(N.list.take k).length=k:=by rw[List.length_take];omega
 refine Sq fun K10 hK10=>?_
 refine Rr (Av1 4 11 [(10,.sl 2 (N.list.map ndc)),(9,.ptr 0 1),(8,.i k)] (lnm N.list ndc) (((1:Nat)≠0)/\(1+1<=2/\1<2)/\·) ⟨dc,dc,Cn1 (decide ((k:Int)<(N.list.length:Int))) [1,2,3,4] [] (Ki/\·) ⟨rfl,fun hc12 c12=>?_,fun hc12 c12=>?_⟩⟩)
 refine Sk (Jn (hK10 (Kp [1,2,3,4] (Sq fun K13 hK13=>?_))))
 refine Bl ?_
 first|(have hgn:=hl _ (getD_mem N.list k default om);have hgl:=wS_len (N.list.getD k default).path)|(have hgn:=hl _ (getD_mem N.list 0 default om);have hgl:=wS_len (N.list.getD 0 default).path)
 refine Qb [0,1,0,4,0,28,60,124,0,0,512,0,3584,7680,15872,32512,65532,131068,262143,524287,1048575] [(0,[]),(1,[]),(2,[]),(3,[]),(4,[]),(5,[]),(6,[]),(7,[]),(9,[]),(10,[]),(11,[]),(12,[]),(13,[]),(14,[]),(8,[1,3,7,10,14]),(15,[1,3,7]),(16,[]),(17,[1]),(18,[]),(19,[]),(20,[])] (fun h=>Bn (Jn (hK13 h))) (qAv1 6 20 [(19,.i k),(18,.sl 2 (N.list.map ndc)),(17,.ptr 0 1),(16,.osl 12 2 0 ((N.list.take k).length)),(15,.ptr 8 1)] (congrArg AV.pat (mg_nd N.list k om)) (((1:Nat)≠0)/\(1+1<=2/\1<2)/\((1:Nat)≠0)/\(1+1<=2/\1<2)/\(2=2/\(0:Int)<=(k:Int)/\(k:Int)<((N.list.map ndc).length:Int))/\·) ⟨dc,dc,dc,dc,⟨rfl,om,lmo⟩,qAv1 6 27 [(26,.i k),(25,.sl 2 (N.list.map ndc)),(24,.ptr 0 1),(22,.i ((N.list.getD k default).id)),(21,.pat (ndc (N.list.getD k default)))] (congrArg AV.pat (mg_nd N.list k om)) (((1:Nat)≠0)/\(1<=2/\0<2)/\((1:Nat)≠0)/\(1+1<=2/\1<2)/\(2=2/\(0:Int)<=(k:Int)/\(k:Int)<((N.list.map ndc).length:Int))/\·) ⟨dc,dc,dc,dc,⟨rfl,om,lmo⟩,qAn3 4 [(30,.osl 20 1 0 (0+(((N.list.getD k default).path).map (fun s=>[AV.str s])).length)),(23,.osl 16 1 0 0),(29,pth ((N.list.getD k default).path)),(28,.pat [pth ((N.list.getD k default).path)])] ([(20,apd [] (0*1) ((((N.list.getD k default).path).map (fun s=>[AV.str s])).flatten))]++·) 24 (fun Z=>((1:Nat)≠0)/\(1<=1/\0<1)/\(0*1<=16777216)/\(((1+1<=2/\1<2)/\(AV.osl 12 2 0 ((N.list.take k).length)=(.osl 12 2 0 ((N.list.take k).length):AV)))/\((1+1<=2/\1<2)/\(AV.sl 2 (N.list.map ndc)=(.sl 2 (N.list.map ndc):AV)))/\((1<=2/\0<2)/\(AV.int .i64 ((N.list.getD k default).id)=(.i ((N.list.getD k default).id):AV)))/\((1+1<=2/\1<2)/\(AV.sl 2 (N.list.map ndc)=(.sl 2 (N.list.map ndc):AV)))/\((1<=1/\0<1)/\(pth ((N.list.getD k default).path)=pth ((N.list.getD k default).path)))/\True)/\True/\(1=1/\0*1<=0/\0<16/\(0+(((N.list.getD k default).path).map (fun s=>[AV.str s])).length)*16<=140737488355328)/\(((1+1<=2/\1<2)/\(AV.osl 12 2 0 ((N.list.take k).length)=(.osl 12 2 0 ((N.list.take k).length):AV)))/\((1+1<=2/\1<2)/\(AV.sl 2 (N.list.map ndc)=(.sl 2 (N.list.map ndc):AV)))/\((1<=2/\0<2)/\(AV.int .i64 ((N.list.getD k default).id)=(.i ((N.list.getD k default).id):AV)))/\True)/\Z) ⟨dc,dc,dc,⟨⟨dc,rfl⟩,⟨dc,rfl⟩,⟨dc,rfl⟩,⟨dc,rfl⟩,⟨dc,rfl⟩,trivial⟩,trivial,⟨rfl,gl,dc,gl⟩,⟨⟨dc,rfl⟩,⟨dc,rfl⟩,⟨dc,rfl⟩,trivial⟩,runq_v (v':=.osl 20 1 0 (((N.list.getD k default).path).length)) (by rw[Nat.zero_add,List.length_map]) ?_⟩⟩⟩)
 refine runq_h (cs':=fl sc ((N.list.getD k default).path)) (app0_str _) ?_
 refine qAn3 3 [(33,.osl 28 2 0 ((N.list.take k).length+1)),(32,.osl 24 2 0 1),(31,.agg [.i ((N.list.getD k default).id),.osl 20 1 0 (((N.list.getD k default).path).length)])] (fun _=>[(28,apd (fl ndc (N.list.take k)) ((N.list.take k).length*2) ((([.i ((N.list.getD k default).id),.osl 20 1 0 (((N.list.getD k default).path).length)]:List AV).drop 0).take (1*2))),(24,[.i ((N.list.getD k default).id),.osl 20 1 0 (((N.list.getD k default).path).length)]),(20,fl sc ((N.list.getD k default).path)),(8,[.i N.next,.osl 12 2 0 ((N.list.take k).length)]),(4,[.i 0,.nils]),(0,nsc N)]) 32 (fun Z=>(1*2<=16777216)/\(((1+1<=2/\1<2)/\(AV.osl 12 2 0 ((N.list.take k).length)=(.osl 12 2 0 ((N.list.take k).length):AV)))/\True)/\(0+1*2<=([.i ((N.list.getD k default).id),.osl 20 1 0 (((N.list.getD k default).path).length)]:List AV).length)/\(2=2/\(N.list.take k).length*2<=(fl ndc (N.list.take k)).length/\0<32/\((N.list.take k).length+1)*32<=140737488355328)/\(True)/\Z) ⟨dc,⟨⟨dc,rfl⟩,trivial⟩,(by first|decide|simp),⟨rfl,by(first|omega|(simp only[LL,flNl];omega)),dc,by(first|omega|(simp only[LL,flNl];omega))⟩,trivial,runq_H (H':=[(28,fl ndc (N.list.take k)++[.i ((N.list.getD k default).id),.osl 20 1 0 (((N.list.getD k default).path).length)]),(24,[.i ((N.list.getD k default).id),.osl 20 1 0 (((N.list.getD k default).path).length)]),(20,fl sc ((N.list.getD k default).path)),(8,[.i N.next,.osl 12 2 0 ((N.list.take k).length)]),(4,[.i 0,.nils]),(0,nsc N)]) (by rw[show apd (fl ndc (N.list.take k)) ((N.list.take k).length*2) ((([.i ((N.list.getD k default).id),.osl 20 1 0 (((N.list.getD k default).path).length)]:List AV).drop 0).take (1*2))=fl ndc (N.list.take k)++[.i ((N.list.getD k default).id),.osl 20 1 0 (((N.list.getD k default).path).length)]from(by unfold apd;rw[fl_full ndc_len (N.list.take k) rfl];rfl)]) (qFn3 [1,2,3,4] [] (Hw [(8,[.i N.next,.osl 28 2 0 ((N.list.take k).length+1)])] [] ·) 32 (((1:Nat)≠0)/\(true=true/\1=1/\1+1<=2)/\(True)/\·) ⟨dc,dc,trivial,h_k [1,2,3,4] (F':=[(1,.ptr 0 0),(2,.ptr 4 0),(3,.ptr 8 0),(4,.i k)]) kr (FzN 20 28 (N.list.take k) ((N.list.getD k default).path) ((N.list.getD k default).id) [(1,.ptr 0 0),(2,.ptr 4 0),(3,.ptr 8 0),(4,.i k)] [(8,[.i N.next,.osl 28 2 0 ((N.list.take k).length+1)]),(4,[.i 0,.nils]),(0,nsc N)] [true,false,false] ?_)⟩)⟩
 refine Rn (Av1 2 14 [(13,.i k)] (cI (wn1 k om)) (Ki/\·) ⟨rfl,Gn0 [(4,.i ((k+1:Nat):Int))] (nk_n (Lr (k+1,some ()) [(0,0),(4,4),(8,8),(28,12)] 16 [(1,.ptr 0 0),(2,.ptr 4 0),(3,.ptr 8 0),(4,.i ((k+1:Nat):Int))] [(28,fl ndc (N.list.take k++[No.mk ((N.list.getD k default).id) ((N.list.getD k default).path)])),(8,[.i N.next,.osl 28 2 0 ((N.list.take k).length+1)]),(4,[.i 0,.nils]),(0,nsc N)] [false,true,true,true] ?_ ?_ (by(try ((try dsimp only);rw[take_snoc N.list k default om,List.length_append]));try kernel_rfl) kr))⟩)
 (try dsimp only);omega
 refine⟨?_,rfl⟩;(try dsimp only);omega
 refine Xt (Jx (Lx (Bh (Jn (hK3 (Kp [2,3] ?_))))))
 have hkk:N.list.take k=N.list:=List.take_of_length_le om
 rw[hkk]
 refine h_pm (H':=((8,[.i N.next,.osl 12 2 0 N.list.length])::(4,[.i 0,.nils])::(0,nsc N)::(12,fl ndc N.list)::[])) (List.Perm.trans (List.Perm.cons _ (List.Perm.cons _ (List.Perm.swap _ _ _))) (List.Perm.trans (List.Perm.cons _ (List.Perm.swap _ _ _)) (List.Perm.swap _ _ _))) ?_
 refine h_k [2,3] (F':=[(2,.ptr 4 0),(3,.ptr 8 0)]) kr ?_
 refine Hn ((8,[.i N.next,.osl 12 2 0 N.list.length])::(4,[.i 0,.nils])::(0,nsc N)::(12,fl ndc N.list)::[]) (h_odd (H:=[(8,[.i N.next,.osl 12 2 0 N.list.length]),(4,[.i 0,.nils]),(0,nsc N),(12,fl ndc N.list)]) 12 (fun ja=>[(2,.ptr 4 0),(3,.ptr 8 0)]) (fun ja=>[(8,[.i N.next,.osl (2*ja+1) 2 0 N.list.length]),(4,[.i 0,.nils]),(0,nsc N),((2*ja+1),fl ndc N.list)]) kr (show odH []from trivial) (fun ja=>⟨by simp only[slF,slp,slps,go_sem,and_self],kr⟩) (fun ja=>⟨rfl,.inr ⟨by simp only[tcs,slps,slp,go_sem,and_self],kr⟩,rfl,.inr ⟨by simp only[tcs,slps,slp,go_sem,and_self],kr⟩,rfl,.inr ⟨by simp only[tcs,slps,slp,go_sem,and_self],kr⟩,rfl,.inl ⟨ods_flN _,rfl⟩,trivial⟩) (fun ja=>(Rr (Fn3 [2] [] (fun _=>((8,[.i N.next,.osl (2*ja+1) 2 0 N.list.length])::(4,[.i N.next,.osl (2*ja+1) 2 0 N.list.length])::(0,nsc N)::(((2*ja+1),fl ndc N.list)::[]))) 16 ((0+2<=2/\0<2)/\(true=true/\2=2/\0+2<=2)/\·) ⟨dc,dc,Rt1 ((0+2<=2/\0<2)/\·) (.agg [.i N.next,.osl (2*ja+1) 2 0 N.list.length]) ⟨dc,?_⟩⟩))))
 refine fin_dc (.agg [.i N.next,.osl (2*ja+1) 2 0 N.list.length]) [(2*ja+1,fl ndc N.list)] (List.Sublist.cons _ (List.Sublist.cons _ (List.Sublist.cons _ (List.Sublist.refl _)))) (lea_refl _) ⟨trivial,by show(2*ja+1)%2=1;omega,trivial⟩ ⟨om,ods_flN _,trivial⟩ (.inr ⟨fun e=>by rw[e]at hk;simp at hk;omega,ja,rfl,rfl⟩)
theorem FzN2 {np:Nat} {G:Prg} {c:Code} {F:Fr} {H:Hp} {n:Nat} {Q:Post} (i j:Nat) (A B:List No) (p:List Str) (v:Int) (F1:Fr) (H1:Hp) (m:List Bool) (h:TT np G.P c (fqF i 1 (p.map fun s=>[AV.str s]) (fl sc p) F1) ((j,fl ndc (A++⟨v,p⟩::B))::fqH i 1 (p.map fun s=>[AV.str s]) (fl sc p) m H1) n Q)
  (hF:oqF i 1 p.length F1:=by simp only[oqF,oq,oqs,go_sem,and_self,reduceIte,Nat.reduceEqDiff]) (hH:oqR i 1 p.length m H1:=by simp only[oqR,oqs,oq,go_sem,and_self,reduceIte,Nat.reduceEqDiff]) (hj:(j==i)=false:=by kernel_rfl)
  (h5:(selH (j::i::H1.map (·.1)) H).map Prod.fst=some ((j,fl ndc A++(.int .i64 v::.osl i 1 0 p.length::fl ndc B))::(i,fl sc p)::H1):=by kernel_rfl) (h4:keepF (F1.map (·.1)) F=F1:=by kernel_rfl):TT np G.P c F H n Q:=by
 cases hs5:selH (j::i::H1.map (·.1)) H with
 |none=>rw[hs5]at h5;cases h5
 |some q=>
  obtain⟨a,r⟩:=q
  rw[hs5]at h5
  simp only[Option.map_some,Option.some.injEq]at h5
  subst h5
  refine h_pm (selH_perm hs5) (TT_weak (F':=F1) (h4▸keepF_sub F _) (List.sublist_append_left _ _) (TT_fz i (cs:=fl sc p) (by simp only[hgt,hj,cond_false,beq_self_eq_true,cond_true]) ?_))
  rw[show hdel ((j,fl ndc A++(.int .i64 v::.osl i 1 0 p.length::fl ndc B))::(i,fl sc p)::H1) i=(j,fl ndc A++(.int .i64 v::.osl i 1 0 p.length::fl ndc B))::H1 by simp only[hdel,hj,cond_false,beq_self_eq_true,cond_true]]
  rw[fqF_eq (chkS p) (flS_le p) F1 hF,fqR_eq (chkS p) (flS_le p) (H':=(j,fl ndc (A++⟨v,p⟩::B))::fqH i 1 (p.map fun s=>[AV.str s]) (fl sc p) m H1)]
  ·exact h
  ·have o2:oqs i 1 p.length (fl ndc B):=by have:=oqs_flN i p.length [] B trivial;rwa[List.append_nil]at this
   have f2:fqs i 1 (p.map fun s=>[AV.str s]) (fl sc p) (fl ndc B)=fl ndc B:=by have:=fqs_flN i (p.map fun s=>[AV.str s]) (fl sc p) [] B;rw[List.append_nil]at this;rw[this];simp only[fqs,List.append_nil]
   refine⟨rfl,.inr ⟨oqs_flN i _ _ A (by simp only[oqs,oq,o2,and_self,if_true]),?_⟩,fqR_of m H1 hH⟩
   rw[fqs_flN,fl_app,show fl ndc (⟨v,p⟩::B)=ndc ⟨v,p⟩++fl ndc B by rw[<-fl_one ndc ⟨v,p⟩,<-fl_app];rfl]
   simp only[fqs,fq,Nat.beq_refl,cond_true,ndc,pth,f2,List.cons_append,List.nil_append]
theorem rowN_hole (X:List No) (k:Nat) (a:AV) (h:k<X.length):(fl ndc X).take (0+k*2+1)++[a]++(fl ndc X).drop (0+k*2+1+1)=fl ndc (X.take k)++(.int .i64 (X.getD k default).id::a::fl ndc (X.drop (k+1))):=by
 have e:X=X.take k++X.getD k default::X.drop (k+1):=get_split X k h default
 have h1:(fl ndc (X.take k)).length=k*2:=by rw[fl_len ndc_len,List.length_take,Nat.min_eq_left (Nat.le_of_lt h)]
 have e2:fl ndc X=fl ndc (X.take k)++(ndc (X.getD k default)++fl ndc (X.drop (k+1))):=by
  rw[<-fl_one ndc (X.getD k default),<-fl_app,<-fl_app];exact congrArg (fl ndc) (by simpa using e)
 generalize fl ndc (X.take k)=A at h1 e2⊢
 generalize X.getD k default=y at e2⊢
 generalize fl ndc (X.drop (k+1))=R at e2⊢
 rw[e2,Nat.zero_add,<-h1,show A.length+1+1=A.length+2 by omega,List.take_length_add_append,List.drop_length_add_append]
 simp[ndc]
theorem rowN_id (X:List No) (k:Nat) (v:Int) (h:k<X.length):(fl ndc X).take (0+k*2)++[.int .i64 v]++(fl ndc X).drop (0+k*2+1)=fl ndc (X.set k ⟨v,(X.getD k default).path⟩):=by
 have:=row_set ndc_len X k 0 ⟨v,(X.getD k default).path⟩ (.int .i64 v) h (by decide) rfl
 exact this
open Go Go.Proofs
set_option maxRecDepth 100000
def NBs (M:Nds):Prop:=M.list.length<=40/\(∀x∈M.list,wS x.path<2^33)/\ -2^20<M.next/\M.next<2^20
theorem nxt_b (k:Nat) (h:k<4): -2^20<([0,1,10000,10001]:List Int).getD k 0/\([0,1,10000,10001]:List Int).getD k 0<2^20:=by
  have:k=0\/k=1\/k=2\/k=3:=by omega
  rcases this with rfl|rfl|rfl|rfl<;>decide
theorem rowN_cut (X:List No) (k:Nat) (h:k<X.length):apd (fl ndc X) (k*2) ((((fl ndc X).drop (0+(k+1)*2)).take ((X.length-(k+1))*2)))=fl ndc (X.take k++X.drop (k+1)):=by
  unfold apd
  rw[Nat.zero_add,fl_take ndc_len X k,fl_drop ndc_len X (k+1),List.take_of_length_le (l:=fl ndc (X.drop (k+1))) (by rw[fl_len ndc_len,List.length_drop];omega),fl_app]
theorem l61Spoil_ok (b:Str) (p:Nat) (N:Nds) (hN:NB N) (hp:p<2^25) (hb:b.length<2^30):RC G 41 [.agg (nsc N)] b p (fun r p'=>∃M:Nds,NBs M/\r=.agg (nsc M)/\p'<=p+10):=by
 have hn31:=hN.1
 refine h_rc (F:=[(0,.ptr 0 0),(1,.agg (nsc N))]) (by simp only[go_sem]) Tryz.func41 kr kr ?_ kr
 refine Rr (Fn2 [0] [(4,.ptr 8 0),(3,.ptr 4 0)] ([(8,[.i 0,.nils]),(4,nsc N)]++·) 12 (Rr (Bc1 2 [(7,.agg (nsc N))] 24 [.agg (nsc N)] 8 ((0+2<=2/\0<2)/\·) ⟨dc,cn_use (l33CopyO_ok N (fun x hx=>Nat.lt_trans (hN.2.1 x hx) dc) (by have:=hN.1;omega) (by have:=hN.2.2;omega)) (fun he=>?_) (fun he=>?_)⟩)))
 have hz:N.list.length=0:=by rw[he];rfl
 refine Ke (Fn3 [0,4] [(5,.ptr 12 0)] ([(12,[.i N.next,.nils])]++·) 16 ((true=true/\2=2/\0+2<=2)/\·) ⟨dc,Sq fun K3 hK3=>?_⟩)
 refine Rr (Fn1 [0,4,5] [(17,.bool true)] (((1:Nat)≠0)/\(1+1<=2/\1<2)/\Ki/\·) ⟨dc,dc,rfl,Ct (Rr (Bc3 3 [(19,.ptr 0 0),(18,.osl 16 1 0 4)] 40 [.ptr 0 0,.i 4] 20 ([(16,[.i 0,.i 1,.i 10000,.i 10001])]++·) 20 ((4*1<=16777216)/\·) ⟨dc,?_⟩))⟩)
 refine RC.use (pick_ok b p 4 om om om om) kr fun r p1 hr=>?_;obtain⟨pk6,hpk6,rfl,rfl⟩:=hr
 refine Ke (Av1 (r:=([.i 0,.i 1,.i 10000,.i 10001].getD (0+pk6*1) .dead:AV)) (v:=.i (([0,1,10000,10001]:List Int).getD pk6 0)) 2 22 [(21,.ptr 16 (0+pk6*1))] (ints_get ([0,1,10000,10001]:List Int) pk6 (by simp only[List.length_cons,List.length_nil];omega)) ((1=1/\(0:Int)<=(pk6:Int)/\(pk6:Int)<(4:Int))/\(0+pk6*1+1<=4/\0+pk6*1<4)/\·) ⟨⟨rfl,om,om⟩,⟨om,om⟩,Fn3 [4,5] [] (Hw [(12,[.i (([0,1,10000,10001]:List Int).getD pk6 0),.nils])] [] ·) 20 (((1:Nat)≠0)/\(true=true/\1=1/\0+1<=2)/\·) ⟨dc,dc,Rr (Fn3 [4] [] (Hw [(8,[.i (([0,1,10000,10001]:List Int).getD pk6 0),.nils])] [] ·) 20 ((0+2<=2/\0<2)/\(true=true/\2=2/\0+2<=2)/\·) ⟨dc,dc,?_⟩)⟩⟩)
 refine Rt1 ((0+2<=2/\0<2)/\·) (.agg [.i (([0,1,10000,10001]:List Int).getD pk6 0),.nils]) ⟨dc,?_⟩
 exact fin_rc (p+1) (by first|exact lea_refl _|simp[lea,leas]) (by simp only[pur,purs,go_sem,Bool.and_self]) kr ⟨Nds.mk (([0,1,10000,10001]:List Int).getD pk6 0) [],⟨by simp only[List.length_set,List.length_append,List.length_cons,List.length_take,List.length_drop,List.length_nil];omega,(by simp),by first|exact hN.2.2.1|exact(nxt_b _ (by assumption)).1,by first|exact hN.2.2.2|exact(nxt_b _ (by assumption)).2⟩,rfl,om⟩
 have hz:0<N.list.length:=List.length_pos_iff.2 he
 refine Ke (Fn3 [0,4] [(5,.ptr 16 0)] ([(16,[.i N.next,.osl 12 2 0 N.list.length])]++·) 20 ((true=true/\2=2/\0+2<=2)/\·) ⟨dc,Sq fun K8 hK8=>?_⟩)
 refine Rr (An1 5 [(13,.bool (decide ((N.list.length:Int)=0))),(12,.bool (decide ((N.list.length:Int)=0))),(11,.i N.list.length),(10,.osl 12 2 0 N.list.length),(9,.ptr 16 1)] (((1:Nat)≠0)/\(1+1<=2/\1<2)/\Ki/\·) ⟨dc,dc,rfl,Rg (fun hg10 g10=>?_) (fun hg10 g10=>?_)⟩)
 refine Fn0 [0,4,5] [(17,.bool true)] (Ct (Rr (Bc3 3 [(19,.ptr 0 0),(18,.osl 20 1 0 4)] 40 [.ptr 0 0,.i 4] 20 ([(20,[.i 0,.i 1,.i 10000,.i 10001])]++·) 24 ((4*1<=16777216)/\·) ⟨dc,RC.use (pick_ok b p 4 om om om om) kr fun r p1 hr=>?_⟩)));obtain⟨pk12,hpk12,rfl,rfl⟩:=hr
 refine Ke (Av1 (r:=([.i 0,.i 1,.i 10000,.i 10001].getD (0+pk12*1) .dead:AV)) (v:=.i (([0,1,10000,10001]:List Int).getD pk12 0)) 2 22 [(21,.ptr 20 (0+pk12*1))] (ints_get ([0,1,10000,10001]:List Int) pk12 (by simp only[List.length_cons,List.length_nil];omega)) ((1=1/\(0:Int)<=(pk12:Int)/\(pk12:Int)<(4:Int))/\(0+pk12*1+1<=4/\0+pk12*1<4)/\·) ⟨⟨rfl,om,om⟩,⟨om,om⟩,Fn3 [4,5] [] (Hw [(16,[.i (([0,1,10000,10001]:List Int).getD pk12 0),.osl 12 2 0 N.list.length])] [] ·) 24 (((1:Nat)≠0)/\(true=true/\1=1/\0+1<=2)/\·) ⟨dc,dc,Rr (Fn3 [4] [] (Hw [(8,[.i (([0,1,10000,10001]:List Int).getD pk12 0),.osl 12 2 0 N.list.length])] [] ·) 24 ((0+2<=2/\0<2)/\(true=true/\2=2/\0+2<=2)/\·) ⟨dc,dc,?_⟩)⟩⟩)
 refine Fz 12 2 N.list.length (N.list.map ndc) (fl ndc N.list) [(4,.ptr 8 0)] [(8,[.i (([0,1,10000,10001]:List Int).getD pk12 0),.osl 12 2 0 N.list.length]),(0,rdc b (p+1))] [true,true] (chkN _) (flN_le _) (Rt1 ((0+2<=2/\0<2)/\·) (.agg [.i (([0,1,10000,10001]:List Int).getD pk12 0),.sl 2 (N.list.map ndc)]) ⟨dc,?_⟩)
 exact fin_rc (p+1) (by first|exact lea_refl _|simp[lea,leas]) (by simp only[pur,purs,go_sem,Bool.and_self]) kr ⟨Nds.mk (([0,1,10000,10001]:List Int).getD pk12 0) N.list,⟨by simp only[List.length_set,List.length_append,List.length_cons,List.length_take,List.length_drop,List.length_nil];omega,hN.2.1,by first|exact hN.2.2.1|exact(nxt_b _ (by assumption)).1,by first|exact hN.2.2.2|exact(nxt_b _ (by assumption)).2⟩,rfl,om⟩
 refine Bc0 2 [(14,.ptr 0 0)] 40 [.ptr 0 0,.i 4] 15 ?_
 refine RC.use (pick_ok b p 4 om om om om) kr fun r p1 hr=>?_;obtain⟨pk14,hpk14,rfl,rfl⟩:=hr
 refine Ke (Cn1 (decide ((pk14:Int)=0)) [0,4,5] [] (Ki/\·) ⟨rfl,fun hc15 c15=>?_,fun hc15 c15=>?_⟩)
 refine Rr (Bc3 3 [(19,.ptr 0 0),(18,.osl 20 1 0 4)] 40 [.ptr 0 0,.i 4] 20 ([(20,[.i 0,.i 1,.i 10000,.i 10001])]++·) 24 ((4*1<=16777216)/\·) ⟨dc,RC.use (pick_ok b (p+1) 4 om om om om) kr fun r p1 hr=>?_⟩);obtain⟨pk17,hpk17,rfl,rfl⟩:=hr
 refine Ke (Av1 (r:=([.i 0,.i 1,.i 10000,.i 10001].getD (0+pk17*1) .dead:AV)) (v:=.i (([0,1,10000,10001]:List Int).getD pk17 0)) 2 22 [(21,.ptr 20 (0+pk17*1))] (ints_get ([0,1,10000,10001]:List Int) pk17 (by simp only[List.length_cons,List.length_nil];omega)) ((1=1/\(0:Int)<=(pk17:Int)/\(pk17:Int)<(4:Int))/\(0+pk17*1+1<=4/\0+pk17*1<4)/\·) ⟨⟨rfl,om,om⟩,⟨om,om⟩,Fn3 [4,5] [] (Hw [(16,[.i (([0,1,10000,10001]:List Int).getD pk17 0),.osl 12 2 0 N.list.length])] [] ·) 24 (((1:Nat)≠0)/\(true=true/\1=1/\0+1<=2)/\·) ⟨dc,dc,Rr (Fn3 [4] [] (Hw [(8,[.i (([0,1,10000,10001]:List Int).getD pk17 0),.osl 12 2 0 N.list.length])] [] ·) 24 ((0+2<=2/\0<2)/\(true=true/\2=2/\0+2<=2)/\·) ⟨dc,dc,?_⟩)⟩⟩)
 refine Fz 12 2 N.list.length (N.list.map ndc) (fl ndc N.list) [(4,.ptr 8 0)] [(8,[.i (([0,1,10000,10001]:List Int).getD pk17 0),.osl 12 2 0 N.list.length]),(0,rdc b (p+1+1))] [true,true] (chkN _) (flN_le _) (Rt1 ((0+2<=2/\0<2)/\·) (.agg [.i (([0,1,10000,10001]:List Int).getD pk17 0),.sl 2 (N.list.map ndc)]) ⟨dc,?_⟩)
 exact fin_rc (p+1+1) (by first|exact lea_refl _|simp[lea,leas]) (by simp only[pur,purs,go_sem,Bool.and_self]) kr ⟨Nds.mk (([0,1,10000,10001]:List Int).getD pk17 0) N.list,⟨by simp only[List.length_set,List.length_append,List.length_cons,List.length_take,List.length_drop,List.length_nil];omega,hN.2.1,by first|exact hN.2.2.1|exact(nxt_b _ (by assumption)).1,by first|exact hN.2.2.2|exact(nxt_b _ (by assumption)).2⟩,rfl,om⟩
 refine Sk (Jn (hK8 (Kp [0,4,5] (Rr (Bc1 5 [(28,.i N.list.length),(27,.osl 12 2 0 N.list.length),(26,.ptr 16 1),(25,.ptr 0 0)] 40 [.ptr 0 0,.i N.list.length] 29 (((1:Nat)≠0)/\(1+1<=2/\1<2)/\·) ⟨dc,dc,RC.use (pick_ok b (p+1) N.list.length om om om om) kr fun r p1 hr=>?_⟩)))));obtain⟨pk20,hpk20,rfl,rfl⟩:=hr
 refine Ke (Fn0 [0,4,5] [(6,.i pk20)] (Sq fun K21 hK21=>?_))
 refine Rr (Bc0 2 [(30,.ptr 0 0)] 40 [.ptr 0 0,.i 4] 31 (RC.use (pick_ok b (p+1+1) 4 om om om om) kr fun r p1 hr=>?_));obtain⟨pk23,hpk23,rfl,rfl⟩:=hr
 refine Ke (Fn0 [0,4,5,6,31] [] (Bl (Rr (Cn1 (decide ((pk23:Int)=0)) [0,4,5,6,31] [] (Ki/\·) ⟨rfl,fun hc25 c25=>?_,fun hc25 c25=>?_⟩))))
 refine Qb [0,1,0,0,8,31,63,127] [(0,[]),(1,[]),(2,[]),(3,[]),(4,[1]),(5,[]),(6,[]),(7,[])] (fun h=>Bn (Jn (hK21 h))) (qBc1 5 [(47,.ptr 0 0),(46,.i pk20),(45,.osl 12 2 0 N.list.length),(44,.ptr 16 1)] [1] 40 [.ptr 0 0,.i 5] 48 (((1:Nat)≠0)/\(1+1<=2/\1<2)/\·) ⟨dc,dc,RC.use (pick_ok b (p+1+1+1) 5 om om om om) kr fun r p1 hr=>?_⟩);obtain⟨pk26,hpk26,rfl,rfl⟩:=hr
 refine Kq (p:=(((1+1<=2/\1<2)/\(AV.osl 12 2 0 N.list.length=(.osl 12 2 0 N.list.length:AV)))/\True)) ⟨⟨dc,rfl⟩,trivial⟩ ?_
 refine qAn3 3 [(50,.ptr 12 (0+pk20*2)),(49,.ptr 12 (0+pk20*2))] (fun _=>[(16,[.i N.next,.osl 12 2 0 N.list.length]),(12,(fl ndc N.list).take (0+pk20*2)++[.i pk26]++(fl ndc N.list).drop (0+pk20*2+1)),(8,[.i 0,.nils]),(4,nsc N),(0,rdc b (p+1+1+1+1))]) 20 ((2=2/\(0:Int)<=(pk20:Int)/\(pk20:Int)<(N.list.length:Int))/\((1:Nat)≠0)/\(true=true/\1=1/\0+pk20*2+1<=(fl ndc N.list).length)/\(True)/\·) ⟨⟨rfl,om,om⟩,dc,⟨rfl,rfl,(by(try simp only[flNl,flTl,flSl,ints_len,List.length_set]);omega)⟩,trivial,runq_H (H':=[(16,[.i N.next,.osl 12 2 0 N.list.length]),(12,fl ndc (N.list.set pk20 ⟨(pk26:Int),(N.list.getD pk20 default).path⟩)),(8,[.i 0,.nils]),(4,nsc N),(0,rdc b (p+1+1+1+1))]) (by rw[rowN_id N.list pk20 (pk26:Int) om]) (qFn0 [4,5] [] (h_k [4,5] (F':=[(4,.ptr 8 0),(5,.ptr 16 0)]) kr (Hn [(16,[.i N.next,.osl 12 2 0 N.list.length]),(12,fl ndc (N.list.set pk20 ⟨(pk26:Int),(N.list.getD pk20 default).path⟩)),(8,[.i 0,.nils]),(4,nsc N),(0,rdc b (p+1+1+1+1))] ?_)))⟩
 refine h_st (F':=[(4,.ptr 8 0),(5,.ptr 16 0)]) (H':=[(16,[.i N.next,.osl 12 2 0 ((N.list.set pk20 ⟨(pk26:Int),(N.list.getD pk20 default).path⟩).length)]),(12,fl ndc (N.list.set pk20 ⟨(pk26:Int),(N.list.getD pk20 default).path⟩)),(8,[.i 0,.nils]),(4,nsc N),(0,rdc b (p+1+1+1+1))]) rfl (by rw[show N.list.length=(N.list.set pk20 ⟨(pk26:Int),(N.list.getD pk20 default).path⟩).length from by simp only[List.length_set,List.length_append,List.length_cons,List.length_take,List.length_drop];(try omega)]) ?_
 refine Rr (Fn3 [4] [] (Hw [(8,[.i N.next,.osl 12 2 0 ((N.list.set pk20 ⟨(pk26:Int),(N.list.getD pk20 default).path⟩).length)])] [] ·) 20 ((0+2<=2/\0<2)/\(true=true/\2=2/\0+2<=2)/\·) ⟨dc,dc,Fz 12 2 ((N.list.set pk20 ⟨(pk26:Int),(N.list.getD pk20 default).path⟩).length) ((N.list.set pk20 ⟨(pk26:Int),(N.list.getD pk20 default).path⟩).map ndc) (fl ndc (N.list.set pk20 ⟨(pk26:Int),(N.list.getD pk20 default).path⟩)) [(4,.ptr 8 0)] [(8,[.i N.next,.osl 12 2 0 ((N.list.set pk20 ⟨(pk26:Int),(N.list.getD pk20 default).path⟩).length)]),(0,rdc b (p+1+1+1+1))] [true,true] (chkN _) (flN_le _) (Rt1 ((0+2<=2/\0<2)/\·) (.agg [.i N.next,.sl 2 ((N.list.set pk20 ⟨(pk26:Int),(N.list.getD pk20 default).path⟩).map ndc)]) ⟨dc,?_⟩)⟩)
 exact fin_rc (p+1+1+1+1) (by first|exact lea_refl _|simp[lea,leas]) (by simp only[pur,purs,go_sem,Bool.and_self]) kr ⟨Nds.mk N.next (N.list.set pk20 ⟨(pk26:Int),(N.list.getD pk20 default).path⟩),⟨by simp only[List.length_set,List.length_append,List.length_cons,List.length_take,List.length_drop,List.length_nil];omega,(fun x hx=>(List.mem_or_eq_of_mem_set hx).elim (hN.2.1 x) fun e=>by subst e;exact(hN.2.1 _ (getD_mem N.list pk20 default om):wS (N.list.getD pk20 default).path<2^33)),by first|exact hN.2.2.1|exact(nxt_b _ (by assumption)).1,by first|exact hN.2.2.2|exact(nxt_b _ (by assumption)).2⟩,rfl,om⟩
 refine Rr (Cn1 (decide ((pk23:Int)=1)) [0,4,5,6,31] [] (Ki/\·) ⟨rfl,fun hc29 c29=>?_,fun hc29 c29=>?_⟩)
 refine Qb [0,1,0,0,0,24,56,127,255,511] [(0,[]),(1,[]),(2,[]),(3,[]),(4,[1]),(5,[1]),(6,[1]),(7,[]),(8,[]),(9,[])] (fun h=>Bn (Jn (hK21 h))) (qBc3 6 [(57,.osl 20 1 0 3),(56,.ptr 0 0),(55,.i pk20),(54,.osl 12 2 0 N.list.length),(53,.ptr 16 1)] [1] 45 [.ptr 0 0,.osl 20 1 0 3] 58 ([(20,[.str [122,122],.str [],.str [97]])]++·) 24 (((1:Nat)≠0)/\(1+1<=2/\1<2)/\(3*1<=16777216)/\(((1+1<=2/\1<2)/\(AV.osl 12 2 0 N.list.length=(.osl 12 2 0 N.list.length:AV)))/\True)/\·) ⟨dc,dc,dc,⟨⟨dc,rfl⟩,trivial⟩,Tz 20 1 3 ([[.str [122,122]],[.str []],[.str [97]]]) ([.str [122,122],.str [],.str [97]]) [.ptr 0 0,pth [[122,122],[],[97]]] [(16,[.i N.next,.osl 12 2 0 N.list.length]),(12,fl ndc N.list),(8,[.i 0,.nils]),(4,nsc N),(0,rdc b (p+1+1+1))] [true,false,true,true,true] kr (by first|decide|simp) (RC.use (of_ok b (p+1+1+1) [[122,122],[],[97]] (by first|omega|decide|simp) (by first|omega|decide|simp) om om) kr fun r p1 hr=>?_)⟩);obtain⟨os30,hos30,rfl,rfl⟩:=hr
 refine Kq (p:=(((1+1<=2/\1<2)/\(AV.osl 12 2 0 N.list.length=(.osl 12 2 0 N.list.length:AV)))/\True)) ⟨⟨dc,rfl⟩,trivial⟩ ?_
 refine qAn3 4 [(61,.ptr 12 (0+pk20*2+1)),(60,.ptr 12 (0+pk20*2)),(59,.osl 24 1 0 1)] (fun _=>[(24,[.str os30]),(16,[.i N.next,.osl 12 2 0 N.list.length]),(12,(fl ndc N.list).take (0+pk20*2+1)++[.osl 24 1 0 1]++(fl ndc N.list).drop (0+pk20*2+1+1)),(8,[.i 0,.nils]),(4,nsc N),(0,rdc b (p+1+1+1+1))]) 28 ((1*1<=16777216)/\(((1+1<=2/\1<2)/\(AV.osl 12 2 0 N.list.length=(.osl 12 2 0 N.list.length:AV)))/\True)/\(2=2/\(0:Int)<=(pk20:Int)/\(pk20:Int)<(N.list.length:Int))/\((1:Nat)≠0)/\(true=true/\1=1/\0+pk20*2+1+1<=(fl ndc N.list).length)/\(True)/\·) ⟨dc,⟨⟨dc,rfl⟩,trivial⟩,⟨rfl,om,om⟩,dc,⟨rfl,rfl,(by(try simp only[flNl,flTl,flSl,ints_len,List.length_set]);omega)⟩,trivial,runq_H (H':=[(24,[.str os30]),(16,[.i N.next,.osl 12 2 0 N.list.length]),(12,fl ndc (N.list.take pk20)++(.i (N.list.getD pk20 default).id::.osl 24 1 0 1::fl ndc (N.list.drop (pk20+1)))),(8,[.i 0,.nils]),(4,nsc N),(0,rdc b (p+1+1+1+1))]) (by rw[rowN_hole N.list pk20 _ om]) (qFn0 [4,5] [] (h_k [4,5] (F':=[(4,.ptr 8 0),(5,.ptr 16 0)]) kr (Hn [(24,[.str os30]),(16,[.i N.next,.osl 12 2 0 N.list.length]),(12,fl ndc (N.list.take pk20)++(.i (N.list.getD pk20 default).id::.osl 24 1 0 1::fl ndc (N.list.drop (pk20+1)))),(8,[.i 0,.nils]),(4,nsc N),(0,rdc b (p+1+1+1+1))] ?_)))⟩
 refine FzN2 24 12 (N.list.take pk20) (N.list.drop (pk20+1)) [os30] (N.list.getD pk20 default).id [(4,.ptr 8 0),(5,.ptr 16 0)] [(16,[.i N.next,.osl 12 2 0 N.list.length]),(8,[.i 0,.nils]),(0,rdc b (p+1+1+1+1))] [true,true,true] ?_
 refine h_k [4,5] (F':=[(4,.ptr 8 0),(5,.ptr 16 0)]) kr ?_
 refine Hn [(12,fl ndc (N.list.take pk20++No.mk (N.list.getD pk20 default).id [os30]::N.list.drop (pk20+1))),(16,[.i N.next,.osl 12 2 0 N.list.length]),(8,[.i 0,.nils]),(0,rdc b (p+1+1+1+1))] (h_st (F':=[(4,.ptr 8 0),(5,.ptr 16 0)]) (H':=[(12,fl ndc (N.list.take pk20++No.mk (N.list.getD pk20 default).id [os30]::N.list.drop (pk20+1))),(16,[.i N.next,.osl 12 2 0 ((N.list.take pk20++No.mk (N.list.getD pk20 default).id [os30]::N.list.drop (pk20+1)).length)]),(8,[.i 0,.nils]),(0,rdc b (p+1+1+1+1))]) rfl (by rw[show N.list.length=(N.list.take pk20++No.mk (N.list.getD pk20 default).id [os30]::N.list.drop (pk20+1)).length from by simp only[List.length_set,List.length_append,List.length_cons,List.length_take,List.length_drop];(try omega)]) (Rr (Fn3 [4] [] (Hw [(8,[.i N.next,.osl 12 2 0 ((N.list.take pk20++No.mk (N.list.getD pk20 default).id [os30]::N.list.drop (pk20+1)).length)])] [] ·) 28 ((0+2<=2/\0<2)/\(true=true/\2=2/\0+2<=2)/\·) ⟨dc,dc,Fz 12 2 ((N.list.take pk20++No.mk (N.list.getD pk20 default).id [os30]::N.list.drop (pk20+1)).length) ((N.list.take pk20++No.mk (N.list.getD pk20 default).id [os30]::N.list.drop (pk20+1)).map ndc) (fl ndc (N.list.take pk20++No.mk (N.list.getD pk20 default).id [os30]::N.list.drop (pk20+1))) [(4,.ptr 8 0)] [(8,[.i N.next,.osl 12 2 0 ((N.list.take pk20++No.mk (N.list.getD pk20 default).id [os30]::N.list.drop (pk20+1)).length)]),(0,rdc b (p+1+1+1+1))] [true,true] (chkN _) (flN_le _) ?_⟩)))
 refine Rt1 ((0+2<=2/\0<2)/\·) (.agg [.i N.next,.sl 2 ((N.list.take pk20++No.mk (N.list.getD pk20 default).id [os30]::N.list.drop (pk20+1)).map ndc)]) ⟨dc,?_⟩
 exact fin_rc (p + 1 + 1 + 1 + 1) (by first | exact lea_refl _ | simp [lea, leas]) (by simp only [pur, purs, go_sem, Bool.and_self]) kr ⟨Nds.mk N.next (N.list.take pk20 ++ No.mk (N.list.getD pk20 default).id [os30] :: N.list.drop (pk20 + 1)), ⟨by simp only [List.length_set, List.length_append, List.length_cons, List.length_take, List.length_drop, List.length_nil]; omega, (fun x hx=>by
   rcases List.mem_append.1 hx with h|h
   · exact hN.2.1 x (List.mem_of_mem_take h)
   · rcases List.mem_cons.1 h with rfl|h
     · show wS [os30]<2^33
       have hq:=hos30;simp only[List.mem_cons,List.not_mem_nil,or_false]at hq;rcases hq with h|h|h<;>rw[h]<;>decide
     · exact hN.2.1 x (List.mem_of_mem_drop h)),by first|exact hN.2.2.1|exact(nxt_b _ (by assumption)).1,by first|exact hN.2.2.2|exact(nxt_b _ (by assumption)).2⟩,rfl,om⟩
 refine Rr (Cn1 (decide ((pk23:Int)=2)) [4,5,6] [] (Ki/\·) ⟨rfl,fun hc33 c33=>?_,fun hc33 c33=>?_⟩)
 refine Qb [0,1,0,7,0,16,0,64,240,511,1023,2047] [(0,[]),(1,[]),(2,[]),(3,[]),(4,[]),(5,[]),(6,[]),(7,[]),(8,[]),(9,[]),(10,[]),(11,[])] (fun h=>Bn (Jn (hK21 h))) (qAv1 8 71 [(70,.i pk20),(69,.osl 12 2 0 N.list.length),(68,.ptr 16 1),(67,.osl 12 2 0 pk20),(66,.i pk20),(65,.osl 12 2 0 N.list.length),(64,.ptr 16 1)] (cI (wn1 pk20 om)) (((1:Nat)≠0)/\(1+1<=2/\1<2)/\(2=2/\0<=(0:Int)/\(0:Int)<=(pk20:Int)/\(pk20:Int)<=(N.list.length:Int))/\((1:Nat)≠0)/\(1+1<=2/\1<2)/\Ki/\·) ⟨dc,dc,⟨rfl,om,om,om⟩,dc,dc,rfl,qAn3 2 [(73,.osl 20 2 0 (pk20+(N.list.length-(pk20+1)))),(72,.osl 12 2 (0+(pk20+1)*2) (N.list.length-(pk20+1)))] (fun _=>[(20,apd (fl ndc N.list) (pk20*2) (((fl ndc N.list).drop (0+(pk20+1)*2)).take ((N.list.length-(pk20+1))*2))),(16,[.i N.next,.osl 12 2 0 N.list.length]),(8,[.i 0,.nils]),(4,nsc N),(0,rdc b (p+1+1+1))]) 24 ((2=2/\0<=(((pk20+1:Nat):Int):Int)/\(((pk20+1:Nat):Int):Int)<=(N.list.length:Int)/\(N.list.length:Int)<=(N.list.length:Int))/\(0+(pk20+1)*2+(N.list.length-(pk20+1))*2<=(fl ndc N.list).length)/\(2=2/\pk20*2<=(fl ndc N.list).length/\0<32/\(pk20+(N.list.length-(pk20+1)))*32<=140737488355328)/\(True)/\·) ⟨⟨rfl,om,om,om⟩,(by(first|omega|(simp only[LL,flNl];omega))),⟨rfl,by(first|omega|(simp only[LL,flNl];omega)),dc,by(first|omega|(simp only[LL,flNl];omega))⟩,trivial,runq_H (H':=[(20,fl ndc (N.list.take pk20++N.list.drop (pk20+1))),(16,[.i N.next,.osl 12 2 0 N.list.length]),(8,[.i 0,.nils]),(4,nsc N),(0,rdc b (p+1+1+1))]) (by rw[show apd (fl ndc N.list) (pk20*2) (((fl ndc N.list).drop (0+(pk20+1)*2)).take ((N.list.length-(pk20+1))*2))=fl ndc (N.list.take pk20++N.list.drop (pk20+1))from(rowN_cut N.list pk20 om)]) (qFn3 [4,5] [] (Hw [(16,[.i N.next,.osl 20 2 0 (pk20+(N.list.length-(pk20+1)))])] [] ·) 24 (((1:Nat)≠0)/\(true=true/\1=1/\1+1<=2)/\(True)/\·) ⟨dc,dc,trivial,?_⟩)⟩⟩)
 refine h_k [4,5] (F':=[(4,.ptr 8 0),(5,.ptr 16 0)]) kr ?_
 refine Hn [(20,fl ndc (N.list.take pk20++N.list.drop (pk20+1))),(16,[.i N.next,.osl 20 2 0 (pk20+(N.list.length-(pk20+1)))]),(8,[.i 0,.nils]),(4,nsc N),(0,rdc b (p+1+1+1))] (h_st (F':=[(4,.ptr 8 0),(5,.ptr 16 0)]) (H':=[(20,fl ndc (N.list.take pk20++N.list.drop (pk20+1))),(16,[.i N.next,.osl 20 2 0 ((N.list.take pk20++N.list.drop (pk20+1)).length)]),(8,[.i 0,.nils]),(4,nsc N),(0,rdc b (p+1+1+1))]) rfl (by rw[show pk20+(N.list.length-(pk20+1))=(N.list.take pk20++N.list.drop (pk20+1)).length from by simp only[List.length_set,List.length_append,List.length_cons,List.length_take,List.length_drop];(try omega)]) (Rr (Fn3 [4] [] (Hw [(8,[.i N.next,.osl 20 2 0 ((N.list.take pk20++N.list.drop (pk20+1)).length)])] [] ·) 24 ((0+2<=2/\0<2)/\(true=true/\2=2/\0+2<=2)/\·) ⟨dc,dc,Fz 20 2 ((N.list.take pk20++N.list.drop (pk20+1)).length) ((N.list.take pk20++N.list.drop (pk20+1)).map ndc) (fl ndc (N.list.take pk20++N.list.drop (pk20+1))) [(4,.ptr 8 0)] [(8,[.i N.next,.osl 20 2 0 ((N.list.take pk20++N.list.drop (pk20+1)).length)]),(0,rdc b (p+1+1+1))] [true,true] (chkN _) (flN_le _) ?_⟩)))
 refine Rt1 ((0+2<=2/\0<2)/\·) (.agg [.i N.next,.sl 2 ((N.list.take pk20++N.list.drop (pk20+1)).map ndc)]) ⟨dc,?_⟩
 exact fin_rc (p+1+1+1) (by first|exact lea_refl _|simp[lea,leas]) (by simp only[pur,purs,go_sem,Bool.and_self]) kr ⟨Nds.mk N.next (N.list.take pk20++N.list.drop (pk20+1)),⟨by simp only[List.length_set,List.length_append,List.length_cons,List.length_take,List.length_drop,List.length_nil];omega,(fun x hx=>(List.mem_append.1 hx).elim (fun h=>hN.2.1 x (List.mem_of_mem_take h)) fun h=>hN.2.1 x (List.mem_of_mem_drop h)),by first|exact hN.2.2.1|exact(nxt_b _ (by assumption)).1,by first|exact hN.2.2.2|exact(nxt_b _ (by assumption)).2⟩,rfl,om⟩
 refine Qb [0,1,0,4,0,28,60,124,255,511,1023] [(0,[]),(1,[]),(2,[]),(3,[]),(4,[]),(5,[]),(6,[]),(7,[1]),(8,[]),(9,[]),(10,[])] (fun h=>Bn (Jn (hK21 h))) (qAv1 (r:=.agg (((fl ndc N.list).drop (0+pk20*2)).take 2)) (v:=.agg (ndc (N.list.getD pk20 default))) 7 38 [(37,.ptr 12 (0+pk20*2)),(36,.i pk20),(35,.osl 12 2 0 N.list.length),(34,.ptr 16 1),(33,.osl 12 2 0 N.list.length),(32,.ptr 16 1)] (congrArg AV.agg (rowN_get N.list pk20 om)) (((1:Nat)≠0)/\(1+1<=2/\1<2)/\((1:Nat)≠0)/\(1+1<=2/\1<2)/\(2=2/\(0:Int)<=(pk20:Int)/\(pk20:Int)<(N.list.length:Int))/\(0+pk20*2+2<=(fl ndc N.list).length/\0+pk20*2<(fl ndc N.list).length)/\·) ⟨dc,dc,dc,dc,⟨rfl,om,om⟩,⟨by rw[flNl];omega,by rw[flNl];omega⟩,qAn3 2 [(40,.osl 24 2 0 (N.list.length+1)),(39,.osl 20 2 0 1)] ([(24,apd (fl ndc N.list) (N.list.length*2) (ndc (N.list.getD pk20 default))),(20,ndc (N.list.getD pk20 default))]++Hw [] [12] ·) 28 ((1*2<=16777216)/\(((1+1<=2/\1<2)/\(AV.osl 12 2 0 N.list.length=(.osl 12 2 0 N.list.length:AV)))/\True)/\(0+1*2<=2)/\(2=2/\N.list.length*2<=(fl ndc N.list).length/\0<32/\(N.list.length+1)*32<=140737488355328)/\(True)/\·) ⟨dc,⟨⟨dc,rfl⟩,trivial⟩,dc,⟨rfl,by(first|omega|(simp only[LL,flNl];omega)),dc,by(first|omega|(simp only[LL,flNl];omega))⟩,trivial,runq_v (v':=.osl 24 2 0 ((N.list++[(N.list.getD pk20 default)]).length)) (push_len _ _ _ _) (runq_h (cs':=fl ndc (N.list++[(N.list.getD pk20 default)])) (push_nd N.list (N.list.getD pk20 default)) ?_)⟩⟩)
 refine qFn3 [4,5] [] (Hw [(16,[.i N.next,.osl 24 2 0 ((N.list++[(N.list.getD pk20 default)]).length)])] [] ·) 28 (((1:Nat)≠0)/\(true=true/\1=1/\1+1<=2)/\(True)/\·) ⟨dc,dc,trivial,Rr (Fn3 [4] [] (Hw [(8,[.i N.next,.osl 24 2 0 ((N.list++[(N.list.getD pk20 default)]).length)])] [] ·) 28 ((0+2<=2/\0<2)/\(true=true/\2=2/\0+2<=2)/\·) ⟨dc,dc,Fz 24 2 ((N.list++[(N.list.getD pk20 default)]).length) ((N.list++[(N.list.getD pk20 default)]).map ndc) (fl ndc (N.list++[(N.list.getD pk20 default)])) [(4,.ptr 8 0)] [(8,[.i N.next,.osl 24 2 0 ((N.list++[(N.list.getD pk20 default)]).length)]),(0,rdc b (p+1+1+1))] [true,true] (chkN _) (flN_le _) (Rt1 ((0+2<=2/\0<2)/\·) (.agg [.i N.next,.sl 2 ((N.list++[(N.list.getD pk20 default)]).map ndc)]) ⟨dc,?_⟩)⟩)⟩
 exact fin_rc (p+1+1+1) (by first|exact lea_refl _|simp[lea,leas]) (by simp only[pur,purs,go_sem,Bool.and_self]) kr ⟨Nds.mk N.next (N.list++[(N.list.getD pk20 default)]),⟨by simp only[List.length_set,List.length_append,List.length_cons,List.length_take,List.length_drop,List.length_nil];omega,(fun x hx=>(List.mem_append.1 hx).elim (hN.2.1 x) fun h=>by rw[List.mem_singleton]at h;subst h;exact hN.2.1 _ (getD_mem N.list pk20 default om)),by first|exact hN.2.2.1|exact(nxt_b _ (by assumption)).1,by first|exact hN.2.2.2|exact(nxt_b _ (by assumption)).2⟩,rfl,om⟩
open Go Go.Proofs
set_option maxRecDepth 100000
theorem NB.s {N:Nds} (h:NB N):NBs N:=⟨by have:=h.1;omega,h.2⟩
theorem l61Any_ok (b:Str) (p:Nat) (hp:p<2^23) (hb:b.length<2^30):RC G 16 [] b p (fun r p'=>∃(N:Nds) (t:Tr),NBs N/\t.W<2^12/\r=.tup [.agg (nsc N),.agg (tcs t)]/\p'<=p+2100):=by
 refine h_rc (F:=[(0,.ptr 0 0)]) (by simp only[go_sem]) Tryz.func16 kr kr ?_ kr
 refine Rr (Fn2 [0] [(3,.ptr 8 0),(2,.ptr 4 0)] ([(8,zt),(4,[.i 0,.nils])]++·) 12 (Rr (Bc0 2 [(7,.ptr 0 0)] 39 [.ptr 0 0] 8 (RC.use (l61Nodes_ok b p om om) kr fun r q5 hr=>?_))));obtain⟨N3,x4,h0N3,h1N3,rfl,h3N3⟩:=hr
 refine Ke (Fn3 [0,2,3] [(5,.ptr 16 0),(4,.ptr 12 0)] ([(16,tcs x4),(12,nsc N3)]++·) 20 ((0<2)/\(1<2)/\(true=true/\2=2/\0+2<=2)/\(true=true/\5=5/\0+5<=5)/\·) ⟨dc,dc,dc,dc,Sq fun K6 hK6=>?_⟩)
 refine Rr (Bc0 2 [(11,.ptr 0 0)] 40 [.ptr 0 0,.i 16] 12 (RC.use (pick_ok b q5 16 om om om om) kr fun r p1 hr=>?_));obtain⟨pk8,hpk8,rfl,rfl⟩:=hr
 refine Ke (Fn0 [0,2,3,4,5,12] [] (Bl (Rr (Cn1 (decide ((pk8:Int)=0)) [0,2,3,4,5,12] [] (Ki/\·) ⟨rfl,fun hc10 c10=>?_,fun hc10 c10=>?_⟩))))
 refine Qr [0,0,3,0,7,31] [(0,[]),(1,[]),(3,[]),(2,[3]),(4,[3]),(5,[])] (qBc1 4 [(18,.agg (tcs x4)),(16,.agg (nsc N3)),(15,.ptr 0 0)] [3] 41 [.ptr 0 0,.agg (nsc N3)] 17 ((0+2<=2/\0<2)/\(0+5<=5/\0<5)/\·) ⟨dc,dc,RC.use (l61Spoil_ok b (q5+1) N3 h0N3 om om) kr fun r q13 hr=>?_⟩);obtain⟨N12,h0N12,rfl,h3N12⟩:=hr
 refine Kq (p:=(((0+5<=5/\0<5)/\(AV.agg (tcs x4)=(.agg (tcs x4):AV)))/\True)) ⟨⟨dc,rfl⟩,trivial⟩ ?_
 refine qFn3 [2,3] [] (Hw [(8,tcs x4),(4,nsc N12)] [] ·) 20 ((true=true/\2=2/\0+2<=2)/\(((0+5<=5/\0<5)/\(AV.agg (tcs x4)=(.agg (tcs x4):AV)))/\True)/\(true=true/\5=5/\0+5<=5)/\(True)/\·) ⟨dc,⟨⟨dc,rfl⟩,trivial⟩,dc,trivial,Rt1 ((0+2<=2/\0<2)/\(0+5<=5/\0<5)/\·) (.tup [.agg (nsc N12),.agg (tcs x4)]) ⟨dc,dc,?_⟩⟩
 exact fin_rc q13 (lea_refl _) (by simp only[pur,purs,go_sem,Bool.and_self]) kr ⟨N12,x4,h0N12,om,rfl,om⟩
 refine Rr (Cn1 (decide ((pk8:Int)=1)) [0,2,3,4,5] [] (Ki/\·) ⟨rfl,fun hc15 c15=>?_,fun hc15 c15=>?_⟩)
 refine Rb (fun h=>Bn (Jn (hK6 h))) (Bc0 2 [(21,.ptr 0 0)] 40 [.ptr 0 0,.i 2] 22 (RC.use (pick_ok b (q5+1) 2 om om om om) kr fun r p1 hr=>?_));obtain⟨pk16,hpk16,rfl,rfl⟩:=hr
 refine Ke (Av1 1 23 [] (cI (wnn 9999 pk16 om)) (Ki/\·) ⟨rfl,Fn3 [2,3,4,5] [] (Hw [(12,[.i ((9999+pk16:Nat):Int),.sl 2 (N3.list.map ndc)])] [] ·) 20 (((1:Nat)≠0)/\(true=true/\1=1/\0+1<=2)/\·) ⟨dc,dc,Qr [0,0,1,7] [(0,[]),(1,[]),(2,[1]),(3,[])] (qFn3 [2,3] [] (Hw [(8,tcs x4),(4,[.i ((9999+pk16:Nat):Int),.sl 2 (N3.list.map ndc)])] [] ·) 20 ((0+2<=2/\0<2)/\(0+5<=5/\0<5)/\(true=true/\2=2/\0+2<=2)/\(((0+5<=5/\0<5)/\(AV.agg (tcs x4)=(.agg (tcs x4):AV)))/\True)/\(true=true/\5=5/\0+5<=5)/\(True)/\·) ⟨dc,dc,dc,⟨⟨dc,rfl⟩,trivial⟩,dc,trivial,?_⟩)⟩⟩)
 refine Rt1 ((0+2<=2/\0<2)/\(0+5<=5/\0<5)/\·) (.tup [.agg [.i ((9999+pk16:Nat):Int),.sl 2 (N3.list.map ndc)],.agg (tcs x4)]) ⟨dc,dc,?_⟩
 exact fin_rc (q5+1+1) (lea_refl _) (by simp only[pur,purs,go_sem,Bool.and_self]) kr ⟨(Nds.mk ((9999+pk16:Nat):Int) N3.list),x4,⟨by have:=h0N3.1;(try dsimp only);omega,h0N3.2.1,by(try dsimp only);omega,by(try dsimp only);omega⟩,om,rfl,om⟩
 refine Sk (Bn (Jn (hK6 (Kp [2,3,4,5] (Qr [0,0,1,7] [(0,[]),(1,[]),(2,[1]),(3,[])] (qFn3 [2,3] [] (Hw [(8,tcs x4),(4,nsc N3)] [] ·) 20 ((0+2<=2/\0<2)/\(0+5<=5/\0<5)/\(true=true/\2=2/\0+2<=2)/\(((0+5<=5/\0<5)/\(AV.agg (tcs x4)=(.agg (tcs x4):AV)))/\True)/\(true=true/\5=5/\0+5<=5)/\(True)/\·) ⟨dc,dc,dc,⟨⟨dc,rfl⟩,trivial⟩,dc,trivial,Rt1 ((0+2<=2/\0<2)/\(0+5<=5/\0<5)/\·) (.tup [.agg (nsc N3),.agg (tcs x4)]) ⟨dc,dc,?_⟩⟩))))))
 exact fin_rc (q5+1) (lea_refl _) (by simp only[pur,purs,go_sem,Bool.and_self]) kr ⟨N3,x4,h0N3.s,om,rfl,om⟩
theorem DrawNodesDo_ok (X:Str) (hX:X.length<2^40):PC G 5 [.sl 1 (X.map fun c=>[AV.int .u8 (c.toNat:Int)])] (fun r=>∃(N:Nds) (t:Tr) (c:Cl),r=.tup [.agg (nsc N),.agg (tcs t),.agg (clc c)]/\NBs N/\t.W<2^12/\wS c.path<2^31/\wS c.to<2^31/\c.data.length<=25):=by
 refine h_pc (F:=[(0,.sl 1 (X.map fun c=>[AV.int .u8 (c.toNat:Int)]))]) (by simp only[go_sem]) Tryz.func5 kr kr ?_ kr
 refine Rr (Fn2 [0] [(4,.ptr 8 0),(3,.ptr 4 0),(2,.ptr 0 0)] ([(8,[.i 0,.nils,.nils,.i 0,.str []]),(4,zt),(0,[.i 0,.nils])]++·) 12 (Rr (Bc0 2 [(8,.sl 1 (X.map fun c=>[AV.int .u8 (c.toNat:Int)]))] 15 [.sl 1 (X.map fun c=>[AV.int .u8 (c.toNat:Int)])] 9 (op_use (l1Open_ok X om) fun bb hbb=>?_))))
 refine Ke (Fn0 [2,3,4] [(5,.ptr 12 0)] (Rr (Bc0 2 [(11,.ptr 12 0)] 16 [.ptr 12 0] 12 (RC.use (l61Any_ok bb 0 om om) kr fun r q6 hr=>?_))));obtain⟨N4,x5,h0N4,h1N4,rfl,h3N4⟩:=hr
 refine Ke (Fn3 [2,3,4,5] [(7,.ptr 20 0),(6,.ptr 16 0)] ([(20,tcs x5),(16,nsc N4)]++·) 24 ((0<2)/\(1<2)/\(true=true/\2=2/\0+2<=2)/\(true=true/\5=5/\0+5<=5)/\·) ⟨dc,dc,dc,dc,Qr [0,0,0,0,12,29,63,127] [(0,[]),(1,[]),(2,[]),(3,[]),(4,[0,1]),(5,[1]),(6,[]),(7,[])] (qBc1 5 [(18,.agg (tcs x5)),(17,.ptr 12 0),(16,.agg (tcs x5)),(15,.agg (nsc N4))] [0,1] 17 [.ptr 12 0,.agg (tcs x5)] 19 ((0+2<=2/\0<2)/\(0+5<=5/\0<5)/\(0+5<=5/\0<5)/\·) ⟨dc,dc,dc,RC.use (l4Call_ok bb q6 x5 om om om) kr fun r q9 hr=>?_⟩)⟩);obtain⟨cl8,h0cl8,h1cl8,h2cl8,rfl,h3cl8⟩:=hr
 refine Kq (p:=(((0+2<=2/\0<2)/\(AV.agg (nsc N4)=(.agg (nsc N4):AV)))/\((0+5<=5/\0<5)/\(AV.agg (tcs x5)=(.agg (tcs x5):AV)))/\True)) ⟨⟨dc,rfl⟩,⟨dc,rfl⟩,trivial⟩ ?_
 refine qFn3 [2,3,4] [] (Hw [(8,clc cl8),(4,tcs x5),(0,nsc N4)] [] ·) 24 ((true=true/\2=2/\0+2<=2)/\(((0+5<=5/\0<5)/\(AV.agg (tcs x5)=(.agg (tcs x5):AV)))/\True)/\(true=true/\5=5/\0+5<=5)/\(True)/\(true=true/\5=5/\0+5<=5)/\(True)/\·) ⟨dc,⟨⟨dc,rfl⟩,trivial⟩,dc,trivial,dc,trivial,Rt1 ((0+2<=2/\0<2)/\(0+5<=5/\0<5)/\(0+5<=5/\0<5)/\·) (.tup [.agg (nsc N4),.agg (tcs x5),.agg (clc cl8)]) ⟨dc,dc,dc,⟨[],List.nil_sublist _,_,lea_refl _,⟨N4,x5,cl8,rfl,h0N4,om,om,om,om⟩,by simp only[pur,purs,go_sem,Bool.and_self]⟩⟩⟩
theorem fnd_mem:∀{n:Str} {ns:List Str} {i:Nat},fnd n ns=some i->n∈ns
 |n,[],i,h=>by simp[fnd]at h
 |n,m::ns,i,h=>by
  unfold fnd at h
  split at h
  ·rename_i e;rw[beq_iff_eq]at e;subst e;simp
  ·cases hf:fnd n ns with
   |none=>rw[hf]at h;simp at h
   |some j=>exact List.mem_cons_of_mem _ (fnd_mem hf)
def PT (t:Tr):Prop:=∀(p q:List Str),q∈pathsT p t↔∃r,r≠[]/\q=p++r/\(tat t r).isSome=true
theorem mem_pathsK (p q:List Str):∀(ns:List Str) (ks:List Tr),ns.length=ks.length->ns.Nodup->(∀k∈ks,PT k)->(q∈pathsK p ns ks↔∃n r i,fnd n ns=some i/\q=p++n::r/\(tat (ks.getD i .none) r).isSome=true)
 |[],[],_,_,_=>by simp[pathsK,fnd]
 |n::ns,k::ks,hl,hn,hk=>by
  have hn1:=List.nodup_cons.1 hn
  have ih:=mem_pathsK p q ns ks (by simpa using hl) hn1.2 (fun x hx=>hk x (List.mem_cons_of_mem _ hx))
  have h0:=hk k List.mem_cons_self
  simp only[pathsK,List.mem_cons,List.mem_append]
  rw[ih,h0]
  constructor
  ·rintro(rfl|⟨r,hr,rfl,hs⟩|⟨m,r,i,hf,rfl,hs⟩)
   ·exact⟨n,[],0,by simp[fnd],rfl,by simp[tat]⟩
   ·exact⟨n,r,0,by simp[fnd],by simp,by simpa using hs⟩
   ·have hne:n≠m:=fun e=>hn1.1 (e▸fnd_mem hf)
    exact⟨m,r,i+1,by unfold fnd;rw[if_neg (by simpa using hne),hf];rfl,rfl,by simpa using hs⟩
  ·rintro⟨m,r,i,hf,rfl,hs⟩
   unfold fnd at hf
   split at hf
   ·rename_i e;rw[beq_iff_eq]at e;subst e
    cases hf
    by_cases hr:r=[]
    ·subst hr;exact .inl rfl
    ·exact .inr (.inl ⟨r,hr,by simp,by simpa using hs⟩)
   ·cases hf2:fnd m ns with
    |none=>rw[hf2]at hf;simp at hf
    |some j=>
     rw[hf2]at hf;simp only[Option.map_some,Option.some.injEq]at hf;subst hf
     exact .inr (.inr ⟨m,r,j,hf2,rfl,by simpa using hs⟩)
 |[],_::_,h,_,_=>by simp at h
 |_::_,[],h,_,_=>by simp at h
mutual
theorem PT_ok:∀t:Tr,t.wf=true->tnd t->PT t
 |.mk d m s ns ks,hw,hn=>by
  simp only[Tr.wf,Bool.and_eq_true,decide_eq_true_eq]at hw
  simp only[tnd]at hn
  intro p q
  rw[pathsT,mem_pathsK p q ns ks hw.1 hn.1 (PTs_ok ks hw.2 hn.2)]
  constructor
  ·rintro⟨n,r,i,hf,rfl,hs⟩
   exact⟨n::r,by simp,rfl,by simp only[tat,Tr.names_mk,Tr.kids_mk,hf];exact hs⟩
  ·rintro⟨r,hr,rfl,hs⟩
   cases r with
   |nil=>exact absurd rfl hr
   |cons n r=>
    simp only[tat,Tr.names_mk,Tr.kids_mk]at hs
    cases hf:fnd n ns with
    |none=>rw[hf]at hs;simp at hs
    |some i=>rw[hf]at hs;exact⟨n,r,i,hf,rfl,hs⟩
theorem PTs_ok:∀ks:List Tr,Tr.wfs ks=true->tnds ks->∀k∈ks,PT k
 |[],_,_,k,h=>by simp at h
 |t::ks,hw,hn,k,h=>by
  simp only[Tr.wfs,Bool.and_eq_true]at hw
  simp only[tnds]at hn
  rcases List.mem_cons.1 h with e|h
  ·rw[e];exact PT_ok t hw.1 hn.1
  ·exact PTs_ok ks hw.2 hn.2 k h
end
theorem cmpP_pre (a b:List Str):∀p:List Str,cmpP (p++a) (p++b)=cmpP a b
 |[]=>rfl
 |x::p=>by rw[List.cons_append,List.cons_append,cmpP,if_neg (by simp[cmpS_self]),cmpP_pre a b p]
mutual
theorem pathsT_form:∀(t:Tr) (p q:List Str),q∈pathsT p t->∃n r,q=p++n::r
 |.mk _ _ _ ns ks,p,q,h=>by
  rw[pathsT]at h
  obtain⟨n,_,r,e⟩:=pathsK_form ks p ns q h
  exact⟨n,r,e⟩
theorem pathsK_form:∀(ks:List Tr) (p ns q:List Str),q∈pathsK p ns ks->∃n,n∈ns/\∃r,q=p++n::r
 |k::ks,p,n::ns,q,h=>by
  simp only[pathsK,List.mem_cons,List.mem_append]at h
  rcases h with e|h|h
  ·exact⟨n,by simp,[],e⟩
  ·obtain⟨m,r,e⟩:=pathsT_form k (p++[n]) q h
   exact⟨n,by simp,m::r,by rw[e];simp⟩
  ·obtain⟨m,hm,r,e⟩:=pathsK_form ks p ns q h
   exact⟨m,List.mem_cons_of_mem _ hm,r,e⟩
 |[],p,_::_,q,h=>by simp[pathsK]at h
 |_,p,[],q,h=>by simp[pathsK]at h
end
theorem asc_all:∀{ns:List Str} {n:Str},asc (n::ns)=true->∀m∈ns,blt n m=true
 |[],_,_,m,h=>by cases h
 |a::ns,n,h,m,hm=>by
  simp only[asc,Bool.and_eq_true]at h
  rcases List.mem_cons.1 hm with rfl|hm
  ·exact h.1
  ·exact blt_trans h.1 (asc_all h.2 m hm)
theorem asc_tl {ns:List Str} {n:Str} (h:asc (n::ns)=true):asc ns=true:=by
 cases ns with
 |nil=>rfl
 |cons a ns=>simp only[asc,Bool.and_eq_true]at h;exact h.2
def SPt (l:List (List Str)):Prop:=l.Pairwise fun a b=>cmpP a b<0
mutual
theorem srtT:∀(t:Tr) (p:List Str),tas t->SPt (pathsT p t)
 |.mk _ _ _ ns ks,p,h=>by
  simp only[tas]at h
  rw[pathsT];exact srtK ks p ns h.1 h.2
theorem srtK:∀(ks:List Tr) (p ns:List Str),asc ns=true->tass ks->SPt (pathsK p ns ks)
 |k::ks,p,n::ns,h,hk=>by
  simp only[tass]at hk
  rw[pathsK]
  have later:∀q∈pathsK p ns ks,∀r,cmpP (p++n::r) q<0:=fun q hq r=>by
   obtain⟨m,hm,r',rfl⟩:=pathsK_form ks p ns q hq
   have hb:=asc_all h m hm
   have hc:cmpS n m<0:=cmpS_neg.2 hb
   rw[cmpP_pre,cmpP,if_pos (by omega)];exact hc
  refine List.pairwise_cons.2 ⟨fun q hq=>?_,List.pairwise_append.2 ⟨srtT k (p++[n]) hk.1,srtK ks p ns (asc_tl h) hk.2,fun a ha b hb=>?_⟩⟩
  ·rcases List.mem_append.1 hq with hq|hq
   ·obtain⟨m,r,rfl⟩:=pathsT_form k (p++[n]) q hq
    have:=cmpP_pre [] (m::r) (p++[n])
    rw[List.append_nil]at this
    rw[this];simp[cmpP]
   ·exact later q hq []
  ·obtain⟨m,r,rfl⟩:=pathsT_form k (p++[n]) a ha
   have:=later b hb (m::r)
   simpa using this
 |[],p,_::_,_,_=>by simp[pathsK,SPt]
 |_,p,[],_,_=>by simp[pathsK,SPt]
end
end Go.Proofs.YtkgflbkcdoeckaaGreatT
