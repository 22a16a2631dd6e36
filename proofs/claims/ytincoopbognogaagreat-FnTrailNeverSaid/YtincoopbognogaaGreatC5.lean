/- A part of the proof that FnTrailNever, on every slice of bytes, returns true (no conditions): rules of the walk, and what the functions compute. -/
import Derived.Carry
import Derived.ChangeSlices
import Derived.OpenShut
import Derived.ProofKit
import Derived.RowKit
import Derived.Test.YtincoopbognogaaGreatRows
import Derived.Test.YtincoopbognogaaGreatC4
set_option linter.unusedVariables false
set_option linter.unusedSimpArgs false
namespace Go.Proofs.YtincoopbognogaaGreatT
open Go Go.Proofs
set_option maxRecDepth 100000
theorem copyMO_ok (l:List Mk) (K:Nat) (hl:∀m∈l,wS m.path<2^40) (hn:l.length<2^20):DC G 22 [.sl 2 (l.map mkc)] [] (CmR l K):=by
 refine DC_nd fun hnd=>?_
 refine h_dc (F:=[(0,.sl 2 (l.map mkc))]) (ods_pur _ (by simp only[purs,pur,puress_mk,Bool.and_self])) trivial Tryz.func22 kr kr ?_ kr
 refine Rr (Fn0 [0] [] (Rr (Fn3 [0] [(3,.osl 0 2 0 0)] [(0,[])] 4 ((0*2<=16777216)/\·) ⟨dc,Sq fun K3 hK3=>?_⟩)))
 refine Rr (Fn0 [0,3] [(4,.i 0)] (Bl (h_l (fun(z:Nat×Option Unit)=>(match z with|(k,none)=>([(0,.sl 2 (l.map mkc)),(3,.osl 0 2 0 ((l.take k).length)),(4,.i k)]:Fr)|(k,some ())=>([(0,.sl 2 (l.map mkc)),(3,.osl 0 2 0 ((l.take k).length)),(4,.i k)]:Fr))) (fun(z:Nat×Option Unit)=>(match z with|(k,none)=>([(0,fl mkc (l.take k))]:Hp)|(k,some ())=>([(0,fl mkc (l.take K)++(.osl 4 1 0 ((l.getD K default).path.length)::.bool ((l.getD K default).sub)::fl mkc ((l.take k).drop (K+1)))),(4,fl sc ((l.getD K default).path))]:Hp))) (fun(z:Nat×Option Unit) cn=>(match z with|(k,none)=>(k<=l.length/\k<=K)/\cn=4|(k,some ())=>(K<k/\k<=l.length)/\cn=8)) (fun(z:Nat×Option Unit)=>l.length-z.1) (0,none) kr ?_ ?_ ?_ ?_)))
 refine⟨?_,rfl⟩;exact⟨Nat.zero_le _,Nat.zero_le _⟩
 exact⟨kr,kr,kr,trivial⟩
 exact(sub_c kr (List.nil_sublist _))
 rintro⟨k,_|⟨⟩⟩ n1 hI
 (try dsimp only at hI)
 obtain⟨⟨hi1,hi2⟩,rfl⟩:=hI
 dsimp only
 refine Sq fun K5 hK5=>?_
 refine Rr (Av0 (r:=.i ((l.map mkc).length:Nat)) (v:=.i l.length) 3 8 [(7,.sl 2 (l.map mkc)),(6,.i k)] lm (Cn1 (decide ((k:Int)<(l.length:Int))) [0,3,4] [] (Ki/\·) ⟨rfl,fun hc7 c7=>?_,fun hc7 c7=>?_⟩))
 refine Sk (Jn (hK5 (Kp [0,3,4] (Sq fun K8 hK8=>?_))))
 refine Bl ?_
 rcases Nat.lt_or_ge k K with hkK|hkK
 have hgm:=hl _ (getD_mem l k default om);have hgl:=wS_len (l.getD k default).path;have htk:(l.take k).length=k:=by rw[List.length_take];omega
 refine Qlb [0,0,0,0,12,28,60,126,0,0,768,1792,3840,8190,16382,32767] [(0,[]),(2,[]),(3,[]),(4,[]),(5,[]),(6,[]),(8,[]),(9,[]),(10,[]),(11,[]),(12,[]),(1,[6,12]),(7,[12]),(13,[]),(14,[]),(15,[])] (fun h=>Bn (Jn (hK8 h))) ?_
 refine qAv1 4 16 [(15,.i k),(14,.sl 2 (l.map mkc)),(12,.osl 0 2 0 ((l.take k).length))] (congrArg AV.pat (mg_mk l k om)) ((2=2/\(0:Int)<=(k:Int)/\(k:Int)<((l.map mkc).length:Int))/\·) ⟨⟨rfl,om,lmo⟩,qAv1 5 22 [(21,.i k),(20,.sl 2 (l.map mkc)),(18,pth ((l.getD k default).path)),(17,.pat (mkc (l.getD k default)))] (congrArg AV.pat (mg_mk l k om)) (((1:Nat)≠0)/\(1<=2/\0<2)/\(2=2/\(0:Int)<=(k:Int)/\(k:Int)<((l.map mkc).length:Int))/\·) ⟨dc,dc,⟨rfl,om,lmo⟩,qAn3 4 [(19,.osl 8 1 0 (0+(((l.getD k default).path).map (fun s=>[AV.str s])).length)),(13,.osl 4 1 0 0),(24,.bool ((l.getD k default).sub)),(23,.pat [.bool ((l.getD k default).sub)])] [(8,apd [] (0*1) ((((l.getD k default).path).map (fun s=>[AV.str s])).flatten)),(0,fl mkc (l.take k))] 12 (fun Z=>((1:Nat)≠0)/\(1<=1/\0<1)/\(0*1<=16777216)/\(((1<=2/\0<2)/\(pth ((l.getD k default).path)=pth ((l.getD k default).path)))/\((1<=1/\0<1)/\(AV.bool ((l.getD k default).sub)=(.bool ((l.getD k default).sub):AV)))/\True)/\True/\(1=1/\0*1<=0/\0<16/\(0+(((l.getD k default).path).map (fun s=>[AV.str s])).length)*16<=140737488355328)/\(((1<=1/\0<1)/\(AV.bool ((l.getD k default).sub)=(.bool ((l.getD k default).sub):AV)))/\True)/\Z) ⟨dc,dc,dc,⟨⟨dc,rfl⟩,⟨dc,rfl⟩,trivial⟩,trivial,⟨rfl,gl,dc,gl⟩,⟨⟨dc,rfl⟩,trivial⟩,runq_v (v':=.osl 8 1 0 (((l.getD k default).path).length)) (by rw[Nat.zero_add,List.length_map]) (runq_h (cs':=fl sc ((l.getD k default).path)) (app0_str _) ?_)⟩⟩⟩
 refine qAn3 3 [(27,.osl 16 2 0 ((l.take k).length+1)),(26,.osl 12 2 0 1),(25,.agg [.osl 8 1 0 (((l.getD k default).path).length),.bool ((l.getD k default).sub)])] [(16,apd (fl mkc (l.take k)) ((l.take k).length*2) ((([.osl 8 1 0 (((l.getD k default).path).length),.bool ((l.getD k default).sub)]:List AV).drop 0).take (1*2))),(12,[.osl 8 1 0 (((l.getD k default).path).length),.bool ((l.getD k default).sub)]),(8,fl sc ((l.getD k default).path))] 20 ((1*2<=16777216)/\(True)/\(0+1*2<=([.osl 8 1 0 (((l.getD k default).path).length),.bool ((l.getD k default).sub)]:List AV).length)/\(2=2/\(l.take k).length*2<=(fl mkc (l.take k)).length/\0<32/\((l.take k).length+1)*32<=140737488355328)/\(True)/\·) ⟨dc,trivial,(by first|decide|simp),⟨rfl,by(first|omega|(simp only[LL,flMl];omega)|(rw[ho_len];simp only[List.length_drop,List.length_take];omega)),dc,by(first|omega|(simp only[LL,flMl];omega)|(rw[ho_len];simp only[List.length_drop,List.length_take];omega))⟩,trivial,runq_H (H':=[(16,fl mkc (l.take k)++[.osl 8 1 0 (((l.getD k default).path).length),.bool ((l.getD k default).sub)]),(12,[.osl 8 1 0 (((l.getD k default).path).length),.bool ((l.getD k default).sub)]),(8,fl sc ((l.getD k default).path))]) (by rw[show apd (fl mkc (l.take k)) ((l.take k).length*2) ((([.osl 8 1 0 (((l.getD k default).path).length),.bool ((l.getD k default).sub)]:List AV).drop 0).take (1*2))=fl mkc (l.take k)++[.osl 8 1 0 (((l.getD k default).path).length),.bool ((l.getD k default).sub)]from(by unfold apd;rw[fl_full mkc_len (l.take k) rfl];rfl)]) (qGn0 [] (Lo 3 (.osl 16 2 0 ((l.take k).length+1)) (fun Z=>Z) (Cfi [0,3,4] ?_)))⟩
 refine FzM 8 16 (l.take k) ((l.getD k default).path) ((l.getD k default).sub) [(0,.sl 2 (l.map mkc)),(3,.osl 16 2 0 ((l.take k).length+1)),(4,.i k)] [] [] ?_
 refine Rn (Av1 2 11 [(10,.i k)] (cI (wn1 k om)) (Ki/\·) ⟨rfl,Gn0 [(4,.i ((k+1:Nat):Int))] (nk_n (Lr (k+1,none) [(16,0)] 4 [(0,.sl 2 (l.map mkc)),(3,.osl 16 2 0 ((l.take k).length+1)),(4,.i ((k+1:Nat):Int))] [(16,fl mkc (l.take k++[Mk.mk ((l.getD k default).path) ((l.getD k default).sub)]))] [false] ?_ ?_ (by(try ((try dsimp only);rw[take_snoc l k default om]));try kernel_rfl) (by(try ((try dsimp only);rw[take_snoc l k default om,List.length_append]));try kernel_rfl)))⟩)
 (try dsimp only);omega
 refine⟨?_,rfl⟩;(try dsimp only);omega
 have hke:k=K:=by omega
 have hgm:=hl _ (getD_mem l k default om);have hgl:=wS_len (l.getD k default).path;have htk:(l.take k).length=k:=by rw[List.length_take];omega
 refine Qlb [0,0,0,0,12,28,60,126,0,0,768,1792,3840,8190,16382,32767] [(0,[]),(2,[]),(3,[]),(4,[]),(5,[]),(6,[]),(8,[]),(9,[]),(10,[]),(11,[]),(12,[]),(1,[6,12]),(7,[12]),(13,[]),(14,[]),(15,[])] (fun h=>Bn (Jn (hK8 h))) ?_
 refine qAv1 4 16 [(15,.i k),(14,.sl 2 (l.map mkc)),(12,.osl 0 2 0 ((l.take k).length))] (congrArg AV.pat (mg_mk l k om)) ((2=2/\(0:Int)<=(k:Int)/\(k:Int)<((l.map mkc).length:Int))/\·) ⟨⟨rfl,om,lmo⟩,qAv1 5 22 [(21,.i k),(20,.sl 2 (l.map mkc)),(18,pth ((l.getD k default).path)),(17,.pat (mkc (l.getD k default)))] (congrArg AV.pat (mg_mk l k om)) (((1:Nat)≠0)/\(1<=2/\0<2)/\(2=2/\(0:Int)<=(k:Int)/\(k:Int)<((l.map mkc).length:Int))/\·) ⟨dc,dc,⟨rfl,om,lmo⟩,qAn3 4 [(19,.osl 8 1 0 (0+(((l.getD k default).path).map (fun s=>[AV.str s])).length)),(13,.osl 4 1 0 0),(24,.bool ((l.getD k default).sub)),(23,.pat [.bool ((l.getD k default).sub)])] [(8,apd [] (0*1) ((((l.getD k default).path).map (fun s=>[AV.str s])).flatten)),(0,fl mkc (l.take k))] 12 (fun Z=>((1:Nat)≠0)/\(1<=1/\0<1)/\(0*1<=16777216)/\(((1<=2/\0<2)/\(pth ((l.getD k default).path)=pth ((l.getD k default).path)))/\((1<=1/\0<1)/\(AV.bool ((l.getD k default).sub)=(.bool ((l.getD k default).sub):AV)))/\True)/\True/\(1=1/\0*1<=0/\0<16/\(0+(((l.getD k default).path).map (fun s=>[AV.str s])).length)*16<=140737488355328)/\(((1<=1/\0<1)/\(AV.bool ((l.getD k default).sub)=(.bool ((l.getD k default).sub):AV)))/\True)/\Z) ⟨dc,dc,dc,⟨⟨dc,rfl⟩,⟨dc,rfl⟩,trivial⟩,trivial,⟨rfl,gl,dc,gl⟩,⟨⟨dc,rfl⟩,trivial⟩,runq_v (v':=.osl 8 1 0 (((l.getD k default).path).length)) (by rw[Nat.zero_add,List.length_map]) (runq_h (cs':=fl sc ((l.getD k default).path)) (app0_str _) ?_)⟩⟩⟩
 refine qAn3 3 [(27,.osl 16 2 0 ((l.take k).length+1)),(26,.osl 12 2 0 1),(25,.agg [.osl 8 1 0 (((l.getD k default).path).length),.bool ((l.getD k default).sub)])] [(16,apd (fl mkc (l.take k)) ((l.take k).length*2) ((([.osl 8 1 0 (((l.getD k default).path).length),.bool ((l.getD k default).sub)]:List AV).drop 0).take (1*2))),(12,[.osl 8 1 0 (((l.getD k default).path).length),.bool ((l.getD k default).sub)]),(8,fl sc ((l.getD k default).path))] 20 ((1*2<=16777216)/\(True)/\(0+1*2<=([.osl 8 1 0 (((l.getD k default).path).length),.bool ((l.getD k default).sub)]:List AV).length)/\(2=2/\(l.take k).length*2<=(fl mkc (l.take k)).length/\0<32/\((l.take k).length+1)*32<=140737488355328)/\(True)/\·) ⟨dc,trivial,(by first|decide|simp),⟨rfl,by(first|omega|(simp only[LL,flMl];omega)|(rw[ho_len];simp only[List.length_drop,List.length_take];omega)),dc,by(first|omega|(simp only[LL,flMl];omega)|(rw[ho_len];simp only[List.length_drop,List.length_take];omega))⟩,trivial,runq_H (H':=[(16,fl mkc (l.take k)++[.osl 8 1 0 (((l.getD k default).path).length),.bool ((l.getD k default).sub)]),(12,[.osl 8 1 0 (((l.getD k default).path).length),.bool ((l.getD k default).sub)]),(8,fl sc ((l.getD k default).path))]) (by rw[show apd (fl mkc (l.take k)) ((l.take k).length*2) ((([.osl 8 1 0 (((l.getD k default).path).length),.bool ((l.getD k default).sub)]:List AV).drop 0).take (1*2))=fl mkc (l.take k)++[.osl 8 1 0 (((l.getD k default).path).length),.bool ((l.getD k default).sub)]from(by unfold apd;rw[fl_full mkc_len (l.take k) rfl];rfl)]) (qGn0 [] (Lo 3 (.osl 16 2 0 ((l.take k).length+1)) (fun Z=>Z) (Cfi [0,3,4] ?_)))⟩
 refine Rn (Av1 2 11 [(10,.i k)] (cI (wn1 k om)) (Ki/\·) ⟨rfl,Gn0 [(4,.i ((k+1:Nat):Int))] (nk_n (Lr (k+1,some ()) [(8,4),(16,0)] 8 [(0,.sl 2 (l.map mkc)),(3,.osl 16 2 0 ((l.take k).length+1)),(4,.i ((k+1:Nat):Int))] [(16,fl mkc (l.take k)++(.osl 8 1 0 (((l.getD k default).path).length)::.bool ((l.getD k default).sub)::fl mkc [])),(8,fl sc ((l.getD k default).path))] [true,false] ?_ ?_ (by(try ((try dsimp only);rw[hke,show(l.take (K+1)).drop (K+1)=[] by simp]));(try simp only[rnHm,cond_true,cond_false,rns_ho]);try kernel_rfl) (by(try ((try dsimp only);rw[take_snoc l k default om,List.length_append]));try kernel_rfl) (by simp only[slHm,slF,slp,slps,slps_ho,go_sem,and_self])))⟩)
 (try dsimp only);omega
 refine⟨?_,rfl⟩;(try dsimp only);omega
 refine Xt (Jx (Lx (Bh (Jn (hK3 (Kp [3] (Rr (Fn0 [] [(2,.osl 0 2 0 ((l.take k).length))] ?_))))))))
 have hkk:l.take k=l:=List.take_of_length_le om
 rw[hkk]
 refine h_pm (H':=((0,fl mkc l)::[])) (List.Perm.refl _) ?_
 refine h_k [2] (F':=[(2,.osl 0 2 0 l.length)]) kr ?_
 refine h_odd (H:=[(0,fl mkc l)]) 0 (fun ja=>[(2,.osl (2*ja+1) 2 0 l.length)]) (fun ja=>[((2*ja+1),fl mkc l)]) kr (show odH []from trivial) (fun ja=>⟨by simp only[slF,slp,slps,go_sem,and_self],kr⟩) (fun ja=>⟨rfl,.inl ⟨ods_flM _,rfl⟩,trivial⟩) (fun ja=>?_)
 refine Rt (.osl (2*ja+1) 2 0 l.length) ?_
 exact fin_dc (.osl (2*ja+1) 2 0 l.length) _ (List.Sublist.refl _) (lea_refl _) (by show(2*ja+1)%2=1;omega) ⟨om,ods_flM _,trivial⟩ ⟨ja,rfl,.inl ⟨om,rfl⟩⟩
 (try dsimp only at hI)
 obtain⟨⟨hi1,hi2⟩,rfl⟩:=hI
 dsimp only
 refine Sq fun K10 hK10=>?_
 refine Rr (Av0 (r:=.i ((l.map mkc).length:Nat)) (v:=.i l.length) 3 8 [(7,.sl 2 (l.map mkc)),(6,.i k)] lm (Cn1 (decide ((k:Int)<(l.length:Int))) [0,3,4] [] (Ki/\·) ⟨rfl,fun hc12 c12=>?_,fun hc12 c12=>?_⟩))
 refine Sk (Jn (hK10 (Kp [0,3,4] (Sq fun K13 hK13=>?_))))
 refine Bl ?_
 have hgm:=hl _ (getD_mem l k default om);have hgl:=wS_len (l.getD k default).path;have htk:(l.take k).length=k:=by rw[List.length_take];omega
 refine Qlb [0,0,0,0,12,28,60,126,0,0,768,1792,3840,8190,16382,32767] [(0,[]),(2,[]),(3,[]),(4,[]),(5,[]),(6,[]),(8,[]),(9,[]),(10,[]),(11,[]),(12,[]),(1,[6,12]),(7,[12]),(13,[]),(14,[]),(15,[])] (fun h=>Bn (Jn (hK13 h))) ?_
 refine qAv1 4 16 [(15,.i k),(14,.sl 2 (l.map mkc)),(12,.osl 0 2 0 ((l.take k).length))] (congrArg AV.pat (mg_mk l k om)) ((2=2/\(0:Int)<=(k:Int)/\(k:Int)<((l.map mkc).length:Int))/\·) ⟨⟨rfl,om,lmo⟩,qAv1 5 22 [(21,.i k),(20,.sl 2 (l.map mkc)),(18,pth ((l.getD k default).path)),(17,.pat (mkc (l.getD k default)))] (congrArg AV.pat (mg_mk l k om)) (((1:Nat)≠0)/\(1<=2/\0<2)/\(2=2/\(0:Int)<=(k:Int)/\(k:Int)<((l.map mkc).length:Int))/\·) ⟨dc,dc,⟨rfl,om,lmo⟩,qAn3 4 [(19,.osl 12 1 0 (0+(((l.getD k default).path).map (fun s=>[AV.str s])).length)),(13,.osl 8 1 0 0),(24,.bool ((l.getD k default).sub)),(23,.pat [.bool ((l.getD k default).sub)])] [(12,apd [] (0*1) ((((l.getD k default).path).map (fun s=>[AV.str s])).flatten)),(0,fl mkc (l.take K)++(.osl 4 1 0 ((l.getD K default).path.length)::.bool ((l.getD K default).sub)::fl mkc ((l.take k).drop (K+1)))),(4,fl sc ((l.getD K default).path))] 16 (fun Z=>((1:Nat)≠0)/\(1<=1/\0<1)/\(0*1<=16777216)/\(((1<=2/\0<2)/\(pth ((l.getD k default).path)=pth ((l.getD k default).path)))/\((1<=1/\0<1)/\(AV.bool ((l.getD k default).sub)=(.bool ((l.getD k default).sub):AV)))/\True)/\True/\(1=1/\0*1<=0/\0<16/\(0+(((l.getD k default).path).map (fun s=>[AV.str s])).length)*16<=140737488355328)/\(((1<=1/\0<1)/\(AV.bool ((l.getD k default).sub)=(.bool ((l.getD k default).sub):AV)))/\True)/\Z) ⟨dc,dc,dc,⟨⟨dc,rfl⟩,⟨dc,rfl⟩,trivial⟩,trivial,⟨rfl,gl,dc,gl⟩,⟨⟨dc,rfl⟩,trivial⟩,runq_v (v':=.osl 12 1 0 (((l.getD k default).path).length)) (by rw[Nat.zero_add,List.length_map]) (runq_h (cs':=fl sc ((l.getD k default).path)) (app0_str _) ?_)⟩⟩⟩
 refine qAn3 3 [(27,.osl 20 2 0 ((l.take k).length+1)),(26,.osl 16 2 0 1),(25,.agg [.osl 12 1 0 (((l.getD k default).path).length),.bool ((l.getD k default).sub)])] [(20,apd (fl mkc (l.take K)++(.osl 4 1 0 ((l.getD K default).path.length)::.bool ((l.getD K default).sub)::fl mkc ((l.take k).drop (K+1)))) ((l.take k).length*2) ((([.osl 12 1 0 (((l.getD k default).path).length),.bool ((l.getD k default).sub)]:List AV).drop 0).take (1*2))),(16,[.osl 12 1 0 (((l.getD k default).path).length),.bool ((l.getD k default).sub)]),(12,fl sc ((l.getD k default).path)),(4,fl sc ((l.getD K default).path))] 24 ((1*2<=16777216)/\(True)/\(0+1*2<=([.osl 12 1 0 (((l.getD k default).path).length),.bool ((l.getD k default).sub)]:List AV).length)/\(2=2/\(l.take k).length*2<=(fl mkc (l.take K)++(.osl 4 1 0 ((l.getD K default).path.length)::.bool ((l.getD K default).sub)::fl mkc ((l.take k).drop (K+1)))).length/\0<32/\((l.take k).length+1)*32<=140737488355328)/\(True)/\·) ⟨dc,trivial,(by first|decide|simp),⟨rfl,by(first|omega|(simp only[LL,flMl];omega)|(rw[ho_len];simp only[List.length_drop,List.length_take];omega)),dc,by(first|omega|(simp only[LL,flMl];omega)|(rw[ho_len];simp only[List.length_drop,List.length_take];omega))⟩,trivial,runq_H (H':=[(20,(fl mkc (l.take K)++(.osl 4 1 0 ((l.getD K default).path.length)::.bool ((l.getD K default).sub)::fl mkc ((l.take k).drop (K+1))))++[.osl 12 1 0 (((l.getD k default).path).length),.bool ((l.getD k default).sub)]),(16,[.osl 12 1 0 (((l.getD k default).path).length),.bool ((l.getD k default).sub)]),(12,fl sc ((l.getD k default).path)),(4,fl sc ((l.getD K default).path))]) (by rw[show apd (fl mkc (l.take K)++(.osl 4 1 0 ((l.getD K default).path.length)::.bool ((l.getD K default).sub)::fl mkc ((l.take k).drop (K+1)))) ((l.take k).length*2) ((([.osl 12 1 0 (((l.getD k default).path).length),.bool ((l.getD k default).sub)]:List AV).drop 0).take (1*2))=(fl mkc (l.take K)++(.osl 4 1 0 ((l.getD K default).path.length)::.bool ((l.getD K default).sub)::fl mkc ((l.take k).drop (K+1))))++[.osl 12 1 0 (((l.getD k default).path).length),.bool ((l.getD k default).sub)]from(by unfold apd;rw[List.take_of_length_le (by rw[ho_len];simp only[List.length_drop,List.length_take];omega)];rfl)]) (qGn0 [] (Lo 3 (.osl 20 2 0 ((l.take k).length+1)) (fun Z=>Z) (Cfi [0,3,4] ?_)))⟩
 refine FzP 12 20 (l.take K) 4 (l.getD K default).path.length (l.getD K default).sub ((l.take k).drop (K+1)) ((l.getD k default).path) ((l.getD k default).sub) [(0,.sl 2 (l.map mkc)),(3,.osl 20 2 0 ((l.take k).length+1)),(4,.i k)] [(4,fl sc ((l.getD K default).path))] [false] dc ?_
 refine Rn (Av1 2 11 [(10,.i k)] (cI (wn1 k om)) (Ki/\·) ⟨rfl,Gn0 [(4,.i ((k+1:Nat):Int))] (nk_n (Lr (k+1,some ()) [(4,4),(20,0)] 8 [(0,.sl 2 (l.map mkc)),(3,.osl 20 2 0 ((l.take k).length+1)),(4,.i ((k+1:Nat):Int))] [(20,fl mkc (l.take K)++(.osl 4 1 0 ((l.getD K default).path.length)::.bool ((l.getD K default).sub)::fl mkc ((l.take k).drop (K+1)++[Mk.mk ((l.getD k default).path) ((l.getD k default).sub)]))),(4,fl sc ((l.getD K default).path))] [true,false] ?_ ?_ (by(try ((try dsimp only);rw[show(l.take (k+1)).drop (K+1)=(l.take k).drop (K+1)++[l.getD k default] by rw[take_snoc l k default om,List.drop_append_of_le_length om]]));(try simp only[rnHm,cond_true,cond_false,rns_ho]);try kernel_rfl) (by(try ((try dsimp only);rw[take_snoc l k default om,List.length_append]));try kernel_rfl) (by simp only[slHm,slF,slp,slps,slps_ho,go_sem,and_self])))⟩)
 (try dsimp only);omega
 refine⟨?_,rfl⟩;(try dsimp only);omega
 refine Xt (Jx (Lx (Bh (Jn (hK3 (Kp [3] (Rr (Fn0 [] [(2,.osl 0 2 0 ((l.take k).length))] ?_))))))))
 have hkk:l.take k=l:=List.take_of_length_le om
 rw[hkk]
 refine h_pm (H':=((0,fl mkc (l.take K)++(.osl 4 1 0 ((l.getD K default).path.length)::.bool ((l.getD K default).sub)::fl mkc (l.drop (K+1))))::(4,fl sc ((l.getD K default).path))::[])) (List.Perm.refl _) ?_
 refine h_k [2] (F':=[(2,.osl 0 2 0 l.length)]) kr ?_
 refine h_odd (H:=[(0,fl mkc (l.take K)++(.osl 4 1 0 ((l.getD K default).path.length)::.bool ((l.getD K default).sub)::fl mkc (l.drop (K+1)))),(4,fl sc ((l.getD K default).path))]) 4 (fun jb=>[(2,.osl 0 2 0 l.length)]) (fun jb=>[(0,fl mkc (l.take K)++(.osl (2*jb+1) 1 0 ((l.getD K default).path.length)::.bool ((l.getD K default).sub)::fl mkc (l.drop (K+1)))),((2*jb+1),fl sc ((l.getD K default).path))]) kr (show odH []from trivial) (fun jb=>⟨by simp only[slF,slp,slps,go_sem,and_self],kr⟩) (fun jb=>⟨rfl,.inr ⟨slps_ho _ _ _ _ _,r1s_ho _ _ _ _ _ _⟩,rfl,.inl ⟨ods_flS _,rfl⟩,trivial⟩) (fun jb=>?_)
 refine h_k [2] (F':=[(2,.osl 0 2 0 l.length)]) kr ?_
 refine h_odd (H:=[(0,fl mkc (l.take K)++(.osl (2*jb+1) 1 0 ((l.getD K default).path.length)::.bool ((l.getD K default).sub)::fl mkc (l.drop (K+1))))]) 0 (fun ja=>[(2,.osl (2*ja+1) 2 0 l.length)]) (fun ja=>[((2*ja+1),fl mkc (l.take K)++(.osl (2*jb+1) 1 0 ((l.getD K default).path.length)::.bool ((l.getD K default).sub)::fl mkc (l.drop (K+1))))]) kr ⟨om,ods_flS _,(show odH []from trivial)⟩ (fun ja=>⟨by simp only[slF,slp,slps,go_sem,and_self],kr⟩) (fun ja=>⟨rfl,.inl ⟨ods_ho _ _ _ _ _,rfl⟩,trivial⟩) (fun ja=>?_)
 refine Rt (.osl (2*ja+1) 2 0 l.length) ?_
 exact fin_dc (.osl (2*ja+1) 2 0 l.length) _ (List.Sublist.refl _) (lea_refl _) (by show(2*ja+1)%2=1;omega) ⟨om,ods_ho _ _ _ _ _,om,ods_flS _,trivial⟩ ⟨ja,rfl,.inr ⟨om,jb,rfl⟩⟩
open Go Go.Proofs
set_option maxRecDepth 100000
theorem l13Mark_ok (b:Str) (p:Nat) (t:Tr) (hw:t.W<2^20) (hp:p<2^26) (hb:b.length<2^30):RC G 66 [.agg (tcs t)] b p (fun r p'=>∃m:Mk,wS m.path<2^31/\r=.agg (mkc m)/\p'<=p+20):=by
 refine h_rc (F:=[(0,.ptr 0 0),(1,.agg (tcs t))]) (by simp only[go_sem]) Tryz.func66 kr kr ?_ kr
 refine Rr (Fn2 [0] [(4,.ptr 8 0),(3,.ptr 4 0)] [(8,[.nils,.bool false]),(4,tcs t),(0,rdc b p)] 12 (Rr (Bc1 3 [(7,.agg (tcs t)),(6,.ptr 0 0)] 38 [.ptr 0 0,.agg (tcs t)] 8 ((0+5<=5/\0<5)/\·) ⟨dc,RC.use (l4Path_ok b p t om om om) kr fun r q4 hr=>?_⟩)));obtain⟨o3,h0o3,h1o3,h2o3,rfl,h3o3⟩:=hr
 refine Ke (Bc0 2 [(9,.ptr 0 0)] 32 [.ptr 0 0,.i 4] 10 (RC.use (pick_ok b q4 4 om om om om) kr fun r p1 hr=>?_));obtain⟨pk5,hpk5,rfl,rfl⟩:=hr
 refine Ke (Fn3 [0,4] [(5,.ptr 12 0)] [(12,[pth o3,.bool (decide ((pk5:Int)=0))]),(8,[.nils,.bool false]),(4,tcs t),(0,rdc b (q4+1))] 16 (Ki/\(true=true/\2=2/\0+2<=2)/\·) ⟨rfl,dc,Sq fun K6 hK6=>?_⟩)
 refine Rr (Bc0 2 [(13,.ptr 0 0)] 32 [.ptr 0 0,.i 20] 14 (RC.use (pick_ok b (q4+1) 20 om om om om) kr fun r p1 hr=>?_));obtain⟨pk8,hpk8,rfl,rfl⟩:=hr
 refine Ke (Fn0 [0,4,5,14] [] (Bl (Rr (Cn1 (decide ((pk8:Int)=0)) [0,4,5,14] [] (Ki/\·) ⟨rfl,fun hc10 c10=>?_,fun hc10 c10=>?_⟩))))
 refine Rb (fun h=>Bn (Jn (hK6 h))) (Fn3 [4,5] [] [(16,[]),(12,[.osl 16 1 0 0,.bool (decide ((pk5:Int)=0))]),(8,[.nils,.bool false]),(4,tcs t),(0,rdc b (q4+1+1))] 20 ((0*1<=16777216)/\((1:Nat)≠0)/\(true=true/\1=1/\0+1<=2)/\·) ⟨dc,dc,dc,Rr (Fn3 [4] [] [(16,[]),(12,[.osl 16 1 0 0,.bool (decide ((pk5:Int)=0))]),(8,[.osl 16 1 0 0,.bool (decide ((pk5:Int)=0))]),(4,tcs t),(0,rdc b (q4+1+1))] 20 ((0+2<=2/\0<2)/\(true=true/\2=2/\0+2<=2)/\·) ⟨dc,dc,Fz 16 1 0 ([]) ([]) [(4,.ptr 8 0)] [(8,[.osl 16 1 0 0,.bool (decide ((pk5:Int)=0))]),(0,rdc b (q4+1+1))] [true,true] kr dc ?_⟩)⟩)
 refine Rt1 ((0+2<=2/\0<2)/\·) (.agg [pth [],.bool (decide ((pk5:Int)=0))]) ⟨dc,?_⟩
 exact fin_rc (q4+1+1) (lea_refl _) (by simp only[go_sem]) kr ⟨Mk.mk [] (decide ((pk5:Int)=0)),(by show wS []<2^31;(try simp only[wS]);omega),rfl,om⟩
 refine Rr (Cn1 (decide ((pk8:Int)=1)) [0,4,5] [] (Ki/\·) ⟨rfl,fun hc13 c13=>?_,fun hc13 c13=>?_⟩)
 refine Rb (fun h=>Bn (Jn (hK6 h))) (Bc3 3 [(22,.osl 16 1 0 3),(21,.ptr 0 0)] 41 [.ptr 0 0,.osl 16 1 0 3] 23 [(16,[.str [],.str [65],.str [97]]),(12,[pth o3,.bool (decide ((pk5:Int)=0))]),(8,[.nils,.bool false]),(4,tcs t),(0,rdc b (q4+1+1))] 20 ((3*1<=16777216)/\·) ⟨dc,Tz 16 1 3 ([[.str []],[.str [65]],[.str [97]]]) ([.str [],.str [65],.str [97]]) [.ptr 0 0,pth [[],[65],[97]]] [(12,[pth o3,.bool (decide ((pk5:Int)=0))]),(8,[.nils,.bool false]),(4,tcs t),(0,rdc b (q4+1+1))] [true,true,true,true] kr (by first|decide|simp) (RC.use (of_ok b (q4+1+1) [[],[65],[97]] (by first|omega|decide|simp) (by first|omega|decide|simp) om om) kr fun r p1 hr=>?_)⟩);obtain⟨os14,hos14,rfl,rfl⟩:=hr
 refine Ke (Fn3 [4,5] [] [(20,[.str os14]),(12,[.osl 20 1 0 1,.bool (decide ((pk5:Int)=0))]),(8,[.nils,.bool false]),(4,tcs t),(0,rdc b (q4+1+1+1))] 24 ((1*1<=16777216)/\((1:Nat)≠0)/\(true=true/\1=1/\0+1<=2)/\·) ⟨dc,dc,dc,Rr (Fn3 [4] [] [(20,[.str os14]),(12,[.osl 20 1 0 1,.bool (decide ((pk5:Int)=0))]),(8,[.osl 20 1 0 1,.bool (decide ((pk5:Int)=0))]),(4,tcs t),(0,rdc b (q4+1+1+1))] 24 ((0+2<=2/\0<2)/\(true=true/\2=2/\0+2<=2)/\·) ⟨dc,dc,Fz 20 1 1 ([[.str os14]]) ([.str os14]) [(4,.ptr 8 0)] [(8,[.osl 20 1 0 1,.bool (decide ((pk5:Int)=0))]),(0,rdc b (q4+1+1+1))] [true,true] kr (by first|decide|simp) ?_⟩)⟩)
 refine Rt1 ((0+2<=2/\0<2)/\·) (.agg [pth [os14],.bool (decide ((pk5:Int)=0))]) ⟨dc,?_⟩
 have hl1:os14.length<=1:=by
   have hq:=hos14
   simp only[List.mem_cons,List.not_mem_nil,or_false]at hq
   rcases hq with h|h|h<;>rw[h]<;>decide
 exact fin_rc (q4+1+1+1) (lea_refl _) (by simp only[go_sem]) kr ⟨Mk.mk [os14] (decide ((pk5:Int)=0)),(by show wS [os14]<2^31;(try simp only[wS]);omega),rfl,om⟩
 refine Sk (Bn (Jn (hK6 (Kp [4,5] (Rr (Fn3 [4] [] [(12,[pth o3,.bool (decide ((pk5:Int)=0))]),(8,[pth o3,.bool (decide ((pk5:Int)=0))]),(4,tcs t),(0,rdc b (q4+1+1))] 16 ((0+2<=2/\0<2)/\(true=true/\2=2/\0+2<=2)/\·) ⟨dc,dc,Rt1 ((0+2<=2/\0<2)/\·) (.agg [pth o3,.bool (decide ((pk5:Int)=0))]) ⟨dc,?_⟩⟩))))))
 exact fin_rc (q4+1+1) (lea_refl _) (by simp only[go_sem]) kr ⟨Mk.mk o3 (decide ((pk5:Int)=0)),(by show wS o3<2^31;(try simp only[wS]);omega),rfl,om⟩
theorem l13Trail_ok (b:Str) (p:Nat) (t:Tr) (hw:t.W<2^20) (hp:p<2^25) (hb:b.length<2^30):RC G 36 [.agg (tcs t)] b p (fun r p'=>∃l:List Mk,Trl l/\l.length<=6/\r=.sl 2 (l.map mkc)/\p'<=p+200):=by
 refine h_rc (F:=[(0,.ptr 0 0),(1,.agg (tcs t))]) (by simp only[go_sem]) Tryz.func36 kr kr ?_ kr
 refine Rr (Fn2 [0] [(3,.ptr 4 0)] [(4,tcs t),(0,rdc b p)] 8 (Rr (Fn3 [0,3] [(5,.osl 8 2 0 0)] [(8,[]),(4,tcs t),(0,rdc b p)] 12 ((0*2<=16777216)/\·) ⟨dc,Sq fun K3 hK3=>?_⟩)))
 refine Rr (Bc0 2 [(8,.ptr 0 0)] 32 [.ptr 0 0,.i 9] 9 (RC.use (pick_ok b p 9 om om om om) kr fun r p1 hr=>?_));obtain⟨pk5,hpk5,rfl,rfl⟩:=hr
 refine Ke (Fn0 [0,3,5] [(6,.i pk5)] (Bl (Fz 8 2 0 ([]) ([]) [(0,.ptr 0 0),(3,.ptr 4 0),(5,.osl 8 2 0 0),(6,.i pk5)] [(4,tcs t),(0,rdc b (p+1))] [true,true] kr dc (h_l (fun(z:Nat×Nat×List Mk)=>(match z with|(k,q,o)=>([(0,.ptr 0 0),(3,.ptr 4 0),(5,.sl 2 (o.map mkc)),(6,.i k)]:Fr))) (fun(z:Nat×Nat×List Mk)=>(match z with|(k,q,o)=>([(4,tcs t),(0,rdc b q)]:Hp))) (fun(z:Nat×Nat×List Mk) cn=>(match z with|(k,q,o)=>(Trl o/\o.length<=6/\k<=9/\q+20*k<=p+190)/\cn=12)) (fun(z:Nat×Nat×List Mk)=>z.1) (pk5,p+1,[]) kr ?_ ?_ ?_ ?_))))
 refine⟨?_,rfl⟩;exact⟨Trl.nil,by simp,om,om⟩
 exact⟨kr,kr,kr,kr,trivial⟩
 exact(sub_c kr (sub_c kr (List.nil_sublist _)))
 rintro⟨k,q,o⟩ n1 hI
 (try dsimp only at hI)
 obtain⟨⟨ho,hi2,hi3,hi4⟩,rfl⟩:=hI
 refine Sq fun K6 hK6=>?_
 refine Rr (Cn1 (decide ((0:Int)<((k:Int):Int))) [0,3,5,6] [] (Ki/\·) ⟨rfl,fun hc8 c8=>?_,fun hc8 c8=>?_⟩)
 refine Sk (Jn (hK6 (Kp [0,3,5,6] (Sq fun K9 hK9=>?_))))
 refine Bl (Rb (fun h=>Bn (Jn (hK9 h))) (Bc1 4 [(16,.agg (tcs t)),(15,.ptr 0 0),(14,.sl 2 (o.map mkc))] 66 [.ptr 0 0,.agg (tcs t)] 17 ((0+5<=5/\0<5)/\·) ⟨dc,RC.use (l13Mark_ok b q t om om om) kr fun r q11 hr=>?_⟩));obtain⟨x10,h1x10,rfl,h3x10⟩:=hr
 refine Ke (Bc0 1 [] 24 [.sl 2 (o.map mkc),.agg (mkc x10)] 18 (PC.use (sAdd_ok o x10 ho.wS om om) fun r hr=>?_));obtain⟨ad12,rfl,had12⟩:=hr
 refine Ke (Fn0 [0,3,6] [(5,.sl 2 (ad12.map mkc))] (Rn (Av1 (r:=.i (IntKind.i64.wrap ((k:Int)-1))) (v:=.i ((k:Int)-1)) 2 13 [(12,.i k)] (cI (wrap64 om om)) (Ki/\·) ⟨rfl,Gn0 [(6,.i ((k:Int)-1))] ?_⟩)))
 refine nk_n (Lr (k-1,q11,ad12) [(0,0),(4,4)] 12 [(0,.ptr 0 0),(3,.ptr 4 0),(5,.sl 2 (ad12.map mkc)),(6,.i ((k:Int)-1))] [(4,tcs t),(0,rdc b q11)] [true,true] ?_ ?_ kr (by(try rw[show((k:Int)-1)=((k-1:Nat):Int) by omega]);try kernel_rfl))
 (try dsimp only);omega
 refine⟨?_,rfl⟩;(try dsimp only);obtain⟨u1,u2⟩:=had12.ok ho hi2;exact⟨u1,u2,om,om⟩
 refine Xt (Jx (Lx (Bh (Jn (hK3 (Kp [5] (Rr (Fn0 [] [(4,.sl 2 (o.map mkc))] (Rt (.sl 2 (o.map mkc)) ?_)))))))))
 exact fin_rc q (lea_refl _) (by simp only[pur,puress_mk]) kr ⟨o,ho,hi2,rfl,om⟩
theorem l13Spoil_ok (b:Str) (p:Nat) (l:List Mk) (ht:Trl l) (h6:l.length<=6) (hp:p<2^25) (hb:b.length<2^30):RC G 37 [.sl 2 (l.map mkc)] b p (fun r p'=>∃l2:List Mk,(∀m∈l2,wS m.path<2^31)/\l2.length<=10/\r=.sl 2 (l2.map mkc)/\p'<=p+40):=by
 have hl:=ht.wS
 refine h_rc (F:=[(0,.ptr 0 0),(1,.sl 2 (l.map mkc))]) (by simp only[go_sem]) Tryz.func37 kr kr ?_ kr
 refine Rr (Fn0 [0,1] [] (Rr (Bc0 2 [(8,.sl 2 (l.map mkc))] 22 [.sl 2 (l.map mkc)] 9 ?_)))
 obtain⟨K,hKd⟩:∃K,K=(if(l.length≠0/\pkF b p 4≠0/\pkF b (p+1+1) 4=1)then pkF b (p+1) l.length else l.length):=⟨_,rfl⟩
 refine cm_use (copyMO_ok l K hl om) (fun hk=>?_) (fun hk=>?_)
 have hA:¬(l.length≠0/\pkF b p 4≠0/\pkF b (p+1+1) 4=1):=by intro hc;rw[if_pos hc]at hKd;have:=pkF_lt b (p+1) (m:=l.length) om;omega
 refine Ke (Fn0 [0] [(5,.osl 4 2 0 l.length)] (Sq fun K3 hK3=>?_))
 refine Rr (An1 4 [(13,.bool (decide ((l.length:Int)=0))),(12,.bool (decide ((l.length:Int)=0))),(11,.i l.length),(10,.osl 4 2 0 l.length)] (Ki/\·) ⟨rfl,Rg (fun hg5 g5=>?_) (fun hg5 g5=>?_)⟩)
 refine Fn0 [0,5] [(17,.bool true)] (Ct (Sq fun K6 hK6=>?_))
 refine Rr (Fn0 [0,5] [(6,.i 0)] (Bl (h_l (fun(z:List Mk×Nat×Nat)=>(match z with|(o,i,q)=>([(0,.ptr 0 0),(5,.osl 4 2 0 o.length),(6,.i i)]:Fr))) (fun(z:List Mk×Nat×Nat)=>(match z with|(o,i,q)=>([(4,fl mkc o),(0,rdc b q)]:Hp))) (fun(z:List Mk×Nat×Nat) cn=>(match z with|(o,i,q)=>(o.length<=8/\i<=o.length/\q<=p+1+o.length/\∀m∈o,wS m.path<2^31)/\cn=8)) (fun(z:List Mk×Nat×Nat)=>9-z.1.length) (l,0,p) kr ?_ ?_ ?_ ?_)))
 refine⟨?_,rfl⟩;exact⟨om,Nat.zero_le _,om,fun m hm=>by have:=mk_wS (ht.ok m hm);omega⟩
 exact⟨kr,kr,kr,trivial⟩
 exact(sub_c kr (sub_c kr (List.nil_sublist _)))
 rintro⟨o,i,q⟩ n1 hI
 (try dsimp only at hI)
 obtain⟨⟨hi1,hi2,hi3,hi4⟩,rfl⟩:=hI
 refine Sq fun K8 hK8=>?_
 refine Rr (Bc0 4 [(20,.ptr 0 0),(19,.i o.length),(18,.osl 4 2 0 o.length)] 32 [.ptr 0 0,.i 2] 21 (RC.use (pick_ok b q 2 om om om om) kr fun r p1 hr=>?_));obtain⟨pk10,hpk10,rfl,rfl⟩:=hr
 refine Ke (Av1 1 22 [] (cI (wnn 6 pk10 om)) (Ki/\·) ⟨rfl,Cn1 (decide ((o.length:Int)<((6+pk10:Nat):Int))) [0,5,6] [] (Ki/\·) ⟨rfl,fun hc11 c11=>?_,fun hc11 c11=>?_⟩⟩)
 refine Sk (Jn (hK8 (Kp [0,5,6] (Sq fun K12 hK12=>?_))))
 refine Bl (Rb (fun h=>Bn (Jn (hK12 h))) (Av1 3 28 [(27,.i i),(26,.osl 4 2 0 o.length)] (cI (wnn 100 i om)) (Ki/\·) ⟨rfl,?_⟩))
 have hl13:=dec_len ((100+i:Nat):Int) om om
 refine Pc0 1 [] 29 (l1Dec_ok _ ((100+i:Nat):Int) rfl om om) (An3 5 [(34,.osl 16 2 0 (o.length+1)),(33,.osl 12 2 0 1),(32,.agg [.osl 8 1 0 1,.bool false]),(31,.osl 8 1 0 1),(30,.str ([122]++(dec ((100+i:Nat):Int))))] [(16,apd (fl mkc o) (o.length*2) ((([.osl 8 1 0 1,.bool false]:List AV).drop 0).take (1*2))),(12,[.osl 8 1 0 1,.bool false]),(8,[.str ([122]++(dec ((100+i:Nat):Int)))]),(0,rdc b (q+1))] 20 (([122].length+(dec ((100+i:Nat):Int)).length<=9223372036854775807)/\(1*1<=16777216)/\(1*2<=16777216)/\(0+1*2<=([.osl 8 1 0 1,.bool false]:List AV).length)/\(2=2/\o.length*2<=(fl mkc o).length/\0<32/\(o.length+1)*32<=140737488355328)/\·) ⟨(by simp only[List.length_cons,List.length_nil];omega),dc,dc,(by first|decide|simp),⟨rfl,by(first|omega|(simp only[LL,flMl];omega)|(rw[ho_len];simp only[List.length_drop,List.length_take];omega)),dc,by(first|omega|(simp only[LL,flMl];omega)|(rw[ho_len];simp only[List.length_drop,List.length_take];omega))⟩,run_H (H':=[(16,fl mkc (o)++[.osl 8 1 0 1,.bool false]),(12,[.osl 8 1 0 1,.bool false]),(8,[.str ([122]++(dec ((100+i:Nat):Int)))]),(0,rdc b (q+1))]) (by rw[show apd (fl mkc o) (o.length*2) ((([.osl 8 1 0 1,.bool false]:List AV).drop 0).take (1*2))=fl mkc (o)++[.osl 8 1 0 1,.bool false]from(by unfold apd;rw[fl_full mkc_len (o) rfl];rfl)]) (Fn0 [0,6] [(5,.osl 16 2 0 (o.length+1))] (FzM 8 16 o [[122]++(dec ((100+i:Nat):Int))] (false) [(0,.ptr 0 0),(5,.osl 16 2 0 (o.length+1)),(6,.i i)] [(0,rdc b (q+1))] [true] ?_))⟩)
 refine Rn (Av1 2 25 [(24,.i i)] (cI (wn1 i om)) (Ki/\·) ⟨rfl,Gn0 [(6,.i ((i+1:Nat):Int))] (nk_n (Lr (o++[Mk.mk [[122]++(dec ((100+i:Nat):Int))] false],i+1,q+1) [(0,0),(16,4)] 8 [(0,.ptr 0 0),(5,.osl 16 2 0 (o.length+1)),(6,.i ((i+1:Nat):Int))] [(16,fl mkc (o++[Mk.mk [[122]++(dec ((100+i:Nat):Int))] false])),(0,rdc b (q+1))] [false,true] ?_ ?_ kr (by(try ((try dsimp only);rw[List.length_append]));try kernel_rfl)))⟩)
 (try dsimp only);simp only[List.length_append,List.length_singleton];omega
 refine⟨?_,rfl⟩;(try dsimp only)
 refine⟨by simp only[List.length_append,List.length_singleton];omega,by simp only[List.length_append,List.length_singleton];omega,by simp only[List.length_append,List.length_singleton];omega,fun m hm=>?_⟩
 rcases List.mem_append.1 hm with h|h
 · exact hi4 m h
 · rw[List.mem_singleton]at h;subst h;simp only[wS,List.length_append,List.length_cons,List.length_nil];omega
 refine Xt (Jx (Lx (Bh (Jn (hK6 (Kp [5] (Rr (Fn0 [] [(4,.osl 4 2 0 o.length)] (Fz 4 2 o.length (o.map mkc) (fl mkc o) [(4,.osl 4 2 0 o.length)] [(0,rdc b (q+1))] [true] (chkM _) (flM_le _) (Rt (.sl 2 (o.map mkc)) ?_))))))))))
 have hb:∀m∈l,wS m.path<=24:=fun m hm=>mk_wS (ht.ok m hm)
 exact fin_rc (q+1) (lea_refl _) (by simp only[pur,puress_mk]) kr ⟨o,hi4,om,rfl,om⟩
 refine Bc0 2 [(14,.ptr 0 0)] 32 [.ptr 0 0,.i 4] 15 ?_
 have hpk15:=pkF_lt b p (m:=4) om
 refine RC.use (pickF_ok b p 4 om om om om) kr fun r p1 hr=>?_;obtain⟨rfl,rfl⟩:=hr
 refine Ke (Cn1 (decide (((pkF b p 4:Nat):Int)=0)) [0,5] [] (Ki/\·) ⟨rfl,fun hc16 c16=>?_,fun hc16 c16=>?_⟩)
 refine Sq fun K17 hK17=>?_
 refine Rr (Fn0 [0,5] [(6,.i 0)] (Bl (h_l (fun(z:List Mk×Nat×Nat)=>(match z with|(o,i,q)=>([(0,.ptr 0 0),(5,.osl 4 2 0 o.length),(6,.i i)]:Fr))) (fun(z:List Mk×Nat×Nat)=>(match z with|(o,i,q)=>([(4,fl mkc o),(0,rdc b q)]:Hp))) (fun(z:List Mk×Nat×Nat) cn=>(match z with|(o,i,q)=>(o.length<=8/\i<=o.length/\q<=p+1+o.length/\∀m∈o,wS m.path<2^31)/\cn=8)) (fun(z:List Mk×Nat×Nat)=>9-z.1.length) (l,0,p+1) kr ?_ ?_ ?_ ?_)))
 refine⟨?_,rfl⟩;exact⟨om,Nat.zero_le _,om,fun m hm=>by have:=mk_wS (ht.ok m hm);omega⟩
 exact⟨kr,kr,kr,trivial⟩
 exact(sub_c kr (sub_c kr (List.nil_sublist _)))
 rintro⟨o,i,q⟩ n1 hI
 (try dsimp only at hI)
 obtain⟨⟨hi1,hi2,hi3,hi4⟩,rfl⟩:=hI
 refine Sq fun K19 hK19=>?_
 refine Rr (Bc0 4 [(20,.ptr 0 0),(19,.i o.length),(18,.osl 4 2 0 o.length)] 32 [.ptr 0 0,.i 2] 21 (RC.use (pick_ok b q 2 om om om om) kr fun r p1 hr=>?_));obtain⟨pk21,hpk21,rfl,rfl⟩:=hr
 refine Ke (Av1 1 22 [] (cI (wnn 6 pk21 om)) (Ki/\·) ⟨rfl,Cn1 (decide ((o.length:Int)<((6+pk21:Nat):Int))) [0,5,6] [] (Ki/\·) ⟨rfl,fun hc22 c22=>?_,fun hc22 c22=>?_⟩⟩)
 refine Sk (Jn (hK19 (Kp [0,5,6] (Sq fun K23 hK23=>?_))))
 refine Bl (Rb (fun h=>Bn (Jn (hK23 h))) (Av1 3 28 [(27,.i i),(26,.osl 4 2 0 o.length)] (cI (wnn 100 i om)) (Ki/\·) ⟨rfl,?_⟩))
 have hl24:=dec_len ((100+i:Nat):Int) om om
 refine Pc0 1 [] 29 (l1Dec_ok _ ((100+i:Nat):Int) rfl om om) (An3 5 [(34,.osl 16 2 0 (o.length+1)),(33,.osl 12 2 0 1),(32,.agg [.osl 8 1 0 1,.bool false]),(31,.osl 8 1 0 1),(30,.str ([122]++(dec ((100+i:Nat):Int))))] [(16,apd (fl mkc o) (o.length*2) ((([.osl 8 1 0 1,.bool false]:List AV).drop 0).take (1*2))),(12,[.osl 8 1 0 1,.bool false]),(8,[.str ([122]++(dec ((100+i:Nat):Int)))]),(0,rdc b (q+1))] 20 (([122].length+(dec ((100+i:Nat):Int)).length<=9223372036854775807)/\(1*1<=16777216)/\(1*2<=16777216)/\(0+1*2<=([.osl 8 1 0 1,.bool false]:List AV).length)/\(2=2/\o.length*2<=(fl mkc o).length/\0<32/\(o.length+1)*32<=140737488355328)/\·) ⟨(by simp only[List.length_cons,List.length_nil];omega),dc,dc,(by first|decide|simp),⟨rfl,by(first|omega|(simp only[LL,flMl];omega)|(rw[ho_len];simp only[List.length_drop,List.length_take];omega)),dc,by(first|omega|(simp only[LL,flMl];omega)|(rw[ho_len];simp only[List.length_drop,List.length_take];omega))⟩,run_H (H':=[(16,fl mkc (o)++[.osl 8 1 0 1,.bool false]),(12,[.osl 8 1 0 1,.bool false]),(8,[.str ([122]++(dec ((100+i:Nat):Int)))]),(0,rdc b (q+1))]) (by rw[show apd (fl mkc o) (o.length*2) ((([.osl 8 1 0 1,.bool false]:List AV).drop 0).take (1*2))=fl mkc (o)++[.osl 8 1 0 1,.bool false]from(by unfold apd;rw[fl_full mkc_len (o) rfl];rfl)]) (Fn0 [0,6] [(5,.osl 16 2 0 (o.length+1))] (FzM 8 16 o [[122]++(dec ((100+i:Nat):Int))] (false) [(0,.ptr 0 0),(5,.osl 16 2 0 (o.length+1)),(6,.i i)] [(0,rdc b (q+1))] [true] ?_))⟩)
 refine Rn (Av1 2 25 [(24,.i i)] (cI (wn1 i om)) (Ki/\·) ⟨rfl,Gn0 [(6,.i ((i+1:Nat):Int))] (nk_n (Lr (o++[Mk.mk [[122]++(dec ((100+i:Nat):Int))] false],i+1,q+1) [(0,0),(16,4)] 8 [(0,.ptr 0 0),(5,.osl 16 2 0 (o.length+1)),(6,.i ((i+1:Nat):Int))] [(16,fl mkc (o++[Mk.mk [[122]++(dec ((100+i:Nat):Int))] false])),(0,rdc b (q+1))] [false,true] ?_ ?_ kr (by(try ((try dsimp only);rw[List.length_append]));try kernel_rfl)))⟩)
 (try dsimp only);simp only[List.length_append,List.length_singleton];omega
 refine⟨?_,rfl⟩;(try dsimp only)
 refine⟨by simp only[List.length_append,List.length_singleton];omega,by simp only[List.length_append,List.length_singleton];omega,by simp only[List.length_append,List.length_singleton];omega,fun m hm=>?_⟩
 rcases List.mem_append.1 hm with h|h
 · exact hi4 m h
 · rw[List.mem_singleton]at h;subst h;simp only[wS,List.length_append,List.length_cons,List.length_nil];omega
 refine Xt (Jx (Lx (Bh (Jn (hK17 (Kp [5] (Rr (Fn0 [] [(4,.osl 4 2 0 o.length)] (Fz 4 2 o.length (o.map mkc) (fl mkc o) [(4,.osl 4 2 0 o.length)] [(0,rdc b (q+1))] [true] (chkM _) (flM_le _) (Rt (.sl 2 (o.map mkc)) ?_))))))))))
 have hb:∀m∈l,wS m.path<=24:=fun m hm=>mk_wS (ht.ok m hm)
 exact fin_rc (q+1) (lea_refl _) (by simp only[pur,puress_mk]) kr ⟨o,hi4,om,rfl,om⟩
 refine Sk (Jn (hK3 (Kp [0,5] (Rr (Bc0 4 [(38,.i l.length),(37,.osl 4 2 0 l.length),(36,.ptr 0 0)] 32 [.ptr 0 0,.i l.length] 39 ?_)))))
 have hpk27:=pkF_lt b (p+1) (m:=l.length) om
 refine RC.use (pickF_ok b (p+1) l.length om om om om) kr fun r p1 hr=>?_;obtain⟨rfl,rfl⟩:=hr
 refine Ke (Fn0 [0,5] [(7,.i ((pkF b (p+1) l.length:Nat):Int))] (Sq fun K28 hK28=>?_))
 refine Rr (Bc0 2 [(40,.ptr 0 0)] 32 [.ptr 0 0,.i 4] 41 ?_)
 have hpk30:=pkF_lt b (p+1+1) (m:=4) om
 refine RC.use (pickF_ok b (p+1+1) 4 om om om om) kr fun r p1 hr=>?_;obtain⟨rfl,rfl⟩:=hr
 refine Ke (Fn0 [0,5,7,41] [] (Bl (Rr (Cn1 (decide (((pkF b (p+1+1) 4:Nat):Int)=0)) [0,5,7,41] [] (Ki/\·) ⟨rfl,fun hc32 c32=>?_,fun hc32 c32=>?_⟩))))
 refine Rb (fun h=>Bn (Jn (hK28 h))) (Av1 (r:=((fl mkc l).getD (0+(pkF b (p+1) l.length)*2+1) .dead)) (v:=.bool ((l.getD (pkF b (p+1) l.length) default).sub)) 7 55 [(54,.ptr 4 (0+(pkF b (p+1) l.length)*2+1)),(53,.ptr 4 (0+(pkF b (p+1) l.length)*2)),(52,.i ((pkF b (p+1) l.length:Nat):Int)),(51,.osl 4 2 0 l.length),(50,.i ((pkF b (p+1) l.length:Nat):Int)),(49,.osl 4 2 0 l.length)] (rowM_fld l (pkF b (p+1) l.length) 1 om dc) ((2=2/\(0:Int)<=((pkF b (p+1) l.length:Nat):Int)/\((pkF b (p+1) l.length:Nat):Int)<(l.length:Int))/\((1:Nat)≠0)/\(0+(pkF b (p+1) l.length)*2+1+1<=(fl mkc l).length/\0+(pkF b (p+1) l.length)*2+1<(fl mkc l).length)/\·) ⟨⟨rfl,om,om⟩,dc,⟨by rw[flMl];omega,by rw[flMl];omega⟩,An3 4 [(58,.ptr 4 (0+(pkF b (p+1) l.length)*2+1)),(57,.ptr 4 (0+(pkF b (p+1) l.length)*2)),(56,.bool (!((l.getD (pkF b (p+1) l.length) default).sub)))] [(4,(fl mkc l).take (0+(pkF b (p+1) l.length)*2+1)++[.bool (!((l.getD (pkF b (p+1) l.length) default).sub))]++(fl mkc l).drop (0+(pkF b (p+1) l.length)*2+1+1)),(0,rdc b (p+1+1+1))] 8 ((2=2/\(0:Int)<=((pkF b (p+1) l.length:Nat):Int)/\((pkF b (p+1) l.length:Nat):Int)<(l.length:Int))/\((1:Nat)≠0)/\(true=true/\1=1/\0+(pkF b (p+1) l.length)*2+1+1<=(fl mkc l).length)/\·) ⟨⟨rfl,om,om⟩,dc,⟨rfl,rfl,(by(try simp only[flMl,flTl,flSl,ints_len,List.length_set]);omega)⟩,run_H (H':=[(4,fl mkc (l.set (pkF b (p+1) l.length) ⟨(l.getD (pkF b (p+1) l.length) default).path,!((l.getD (pkF b (p+1) l.length) default).sub)⟩)),(0,rdc b (p+1+1+1))]) (by rw[ho_sub l (pkF b (p+1) l.length) (!((l.getD (pkF b (p+1) l.length) default).sub)) om]) (Fn0 [5] [] ?_)⟩⟩)
 refine Rr (Fn0 [] [(4,.osl 4 2 0 l.length)] (h_k [4] (F':=[(4,.osl 4 2 0 l.length)]) kr (h_st (F':=[(4,.osl 4 2 0 ((l.set (pkF b (p+1) l.length) ⟨(l.getD (pkF b (p+1) l.length) default).path,!((l.getD (pkF b (p+1) l.length) default).sub)⟩).length))]) (H':=[(4,fl mkc (l.set (pkF b (p+1) l.length) ⟨(l.getD (pkF b (p+1) l.length) default).path,!((l.getD (pkF b (p+1) l.length) default).sub)⟩)),(0,rdc b (p+1+1+1))]) (by rw[List.length_set]) rfl (Fz 4 2 ((l.set (pkF b (p+1) l.length) ⟨(l.getD (pkF b (p+1) l.length) default).path,!((l.getD (pkF b (p+1) l.length) default).sub)⟩).length) ((l.set (pkF b (p+1) l.length) ⟨(l.getD (pkF b (p+1) l.length) default).path,!((l.getD (pkF b (p+1) l.length) default).sub)⟩).map mkc) (fl mkc (l.set (pkF b (p+1) l.length) ⟨(l.getD (pkF b (p+1) l.length) default).path,!((l.getD (pkF b (p+1) l.length) default).sub)⟩)) [(4,.osl 4 2 0 ((l.set (pkF b (p+1) l.length) ⟨(l.getD (pkF b (p+1) l.length) default).path,!((l.getD (pkF b (p+1) l.length) default).sub)⟩).length))] [(0,rdc b (p+1+1+1))] [true] (chkM _) (flM_le _) ?_))))
 refine Rt (.sl 2 ((l.set (pkF b (p+1) l.length) ⟨(l.getD (pkF b (p+1) l.length) default).path,!((l.getD (pkF b (p+1) l.length) default).sub)⟩).map mkc)) ?_
 have hb:∀m∈l,wS m.path<=24:=fun m hm=>mk_wS (ht.ok m hm)
 exact fin_rc (p + 1 + 1 + 1) (lea_refl _) (by simp only [pur, puress_mk]) kr ⟨l.set (pkF b (p + 1) l.length) ⟨(l.getD (pkF b (p + 1) l.length) default).path, !((l.getD (pkF b (p + 1) l.length) default).sub)⟩, (fun m hm=>by
   rcases List.mem_or_eq_of_mem_set hm with h|rfl
   · have:=hb m h;omega
   · have:=hb _ (getD_mem l (pkF b (p+1) l.length) default om);(try dsimp only);omega),by rw[List.length_set];omega,rfl,om⟩
 refine Rr (Cn1 (decide (((pkF b (p+1+1) 4:Nat):Int)=1)) [0,5,7,41] [] (Ki/\·) ⟨rfl,fun hc35 c35=>?_,fun hc35 c35=>?_⟩)
 exfalso;omega
 refine Rr (Cn1 (decide (((pkF b (p+1+1) 4:Nat):Int)=2)) [5,7] [] (Ki/\·) ⟨rfl,fun hc37 c37=>?_,fun hc37 c37=>?_⟩)
 refine Rb (fun h=>Bn (Jn (hK28 h))) (Av1 (r:=.agg (((fl mkc l).drop (0+(pkF b (p+1) l.length)*2)).take 2)) (v:=.agg (mkc (l.getD (pkF b (p+1) l.length) default))) 5 81 [(80,.ptr 4 (0+(pkF b (p+1) l.length)*2)),(79,.i ((pkF b (p+1) l.length:Nat):Int)),(78,.osl 4 2 0 l.length),(77,.osl 4 2 0 l.length)] (congrArg AV.agg (rowM_get l (pkF b (p+1) l.length) om)) ((2=2/\(0:Int)<=((pkF b (p+1) l.length:Nat):Int)/\((pkF b (p+1) l.length:Nat):Int)<(l.length:Int))/\(0+(pkF b (p+1) l.length)*2+2<=(fl mkc l).length/\0+(pkF b (p+1) l.length)*2<(fl mkc l).length)/\·) ⟨⟨rfl,om,om⟩,⟨by rw[flMl];omega,by rw[flMl];omega⟩,An3 2 [(83,.osl 12 2 0 (l.length+1)),(82,.osl 8 2 0 1)] [(12,apd (fl mkc l) (l.length*2) (mkc (l.getD (pkF b (p+1) l.length) default))),(8,mkc (l.getD (pkF b (p+1) l.length) default)),(0,rdc b (p+1+1+1))] 16 ((1*2<=16777216)/\(0+1*2<=2)/\(2=2/\l.length*2<=(fl mkc l).length/\0<32/\(l.length+1)*32<=140737488355328)/\·) ⟨dc,dc,⟨rfl,by(first|omega|(simp only[LL,flMl];omega)),dc,by(first|omega|(simp only[LL,flMl];omega))⟩,run_v (v':=.osl 12 2 0 ((l++[(l.getD (pkF b (p+1) l.length) default)]).length)) (push_len _ _ _ _) (run_h (cs':=fl mkc (l++[(l.getD (pkF b (p+1) l.length) default)])) (push_mk l (l.getD (pkF b (p+1) l.length) default)) ?_)⟩⟩)
 refine Fn0 [] [(5,.osl 12 2 0 ((l++[(l.getD (pkF b (p+1) l.length) default)]).length))] (Rr (Fn0 [] [(4,.osl 12 2 0 ((l++[(l.getD (pkF b (p+1) l.length) default)]).length))] (Fz 12 2 ((l++[(l.getD (pkF b (p+1) l.length) default)]).length) ((l++[(l.getD (pkF b (p+1) l.length) default)]).map mkc) (fl mkc (l++[(l.getD (pkF b (p+1) l.length) default)])) [(4,.osl 12 2 0 ((l++[(l.getD (pkF b (p+1) l.length) default)]).length))] [(0,rdc b (p+1+1+1))] [true] (chkM _) (flM_le _) (Rt (.sl 2 ((l++[(l.getD (pkF b (p+1) l.length) default)]).map mkc)) ?_))))
 have hb:∀m∈l,wS m.path<=24:=fun m hm=>mk_wS (ht.ok m hm)
 exact fin_rc (p + 1 + 1 + 1) (lea_refl _) (by simp only [pur, puress_mk]) kr ⟨l ++ [(l.getD (pkF b (p + 1) l.length) default)], (fun m hm=>by
   rcases List.mem_append.1 hm with h|h
   · have:=hb m h;omega
   · rw[List.mem_singleton]at h;subst h;have:=hb _ (getD_mem l (pkF b (p+1) l.length) default om);omega),by simp only[List.length_append,List.length_singleton];omega,rfl,om⟩
 refine Rb (fun h=>Bn (Jn (hK28 h))) (An3 6 [(46,.ptr 4 (0+(pkF b (p+1) l.length)*2)),(45,.ptr 4 (0+(pkF b (p+1) l.length)*2)),(44,.osl 8 1 0 0),(43,.i ((pkF b (p+1) l.length:Nat):Int)),(42,.osl 4 2 0 l.length)] [(8,[]),(4,(fl mkc l).take (0+(pkF b (p+1) l.length)*2)++[.osl 8 1 0 0]++(fl mkc l).drop (0+(pkF b (p+1) l.length)*2+1)),(0,rdc b (p+1+1+1))] 12 ((0*1<=16777216)/\(2=2/\(0:Int)<=((pkF b (p+1) l.length:Nat):Int)/\((pkF b (p+1) l.length:Nat):Int)<(l.length:Int))/\((1:Nat)≠0)/\(true=true/\1=1/\0+(pkF b (p+1) l.length)*2+1<=(fl mkc l).length)/\·) ⟨dc,⟨rfl,om,om⟩,dc,⟨rfl,rfl,(by(try simp only[flMl,flTl,flSl,ints_len,List.length_set]);omega)⟩,run_H (H':=[(8,[]),(4,fl mkc (l.take (pkF b (p+1) l.length))++(.osl 8 1 0 0::.bool ((l.getD (pkF b (p+1) l.length) default).sub)::fl mkc (l.drop ((pkF b (p+1) l.length)+1)))),(0,rdc b (p+1+1+1))]) (by rw[ho_new l (pkF b (p+1) l.length) _ om]) (Fn0 [5] [] (Rr ?_))⟩)
 refine Fn0 [] [(4,.osl 4 2 0 l.length)] (FzH 8 4 (l.take (pkF b (p+1) l.length)) ([]) ((l.getD (pkF b (p+1) l.length) default).sub) (l.drop ((pkF b (p+1) l.length)+1)) [(4,.osl 4 2 0 l.length)] [(0,rdc b (p+1+1+1))] [true] (h_k [4] (F':=[(4,.osl 4 2 0 l.length)]) kr (Hn [(4,fl mkc (l.take (pkF b (p+1) l.length)++Mk.mk [] ((l.getD (pkF b (p+1) l.length) default).sub)::l.drop ((pkF b (p+1) l.length)+1))),(0,rdc b (p+1+1+1))] (h_st (F':=[(4,.osl 4 2 0 ((l.take (pkF b (p+1) l.length)++Mk.mk [] ((l.getD (pkF b (p+1) l.length) default).sub)::l.drop ((pkF b (p+1) l.length)+1)).length))]) (H':=[(4,fl mkc (l.take (pkF b (p+1) l.length)++Mk.mk [] ((l.getD (pkF b (p+1) l.length) default).sub)::l.drop ((pkF b (p+1) l.length)+1))),(0,rdc b (p+1+1+1))]) (by have e:(l.take (pkF b (p+1) l.length)++Mk.mk [] ((l.getD (pkF b (p+1) l.length) default).sub)::l.drop ((pkF b (p+1) l.length)+1)).length=l.length:=(by simp only[List.length_append,List.length_cons,List.length_take,List.length_drop];omega);rw[e]) rfl ?_))))
 refine Fz 4 2 ((l.take (pkF b (p+1) l.length)++Mk.mk [] ((l.getD (pkF b (p+1) l.length) default).sub)::l.drop ((pkF b (p+1) l.length)+1)).length) ((l.take (pkF b (p+1) l.length)++Mk.mk [] ((l.getD (pkF b (p+1) l.length) default).sub)::l.drop ((pkF b (p+1) l.length)+1)).map mkc) (fl mkc (l.take (pkF b (p+1) l.length)++Mk.mk [] ((l.getD (pkF b (p+1) l.length) default).sub)::l.drop ((pkF b (p+1) l.length)+1))) [(4,.osl 4 2 0 ((l.take (pkF b (p+1) l.length)++Mk.mk [] ((l.getD (pkF b (p+1) l.length) default).sub)::l.drop ((pkF b (p+1) l.length)+1)).length))] [(0,rdc b (p+1+1+1))] [true] (chkM _) (flM_le _) (Rt (.sl 2 ((l.take (pkF b (p+1) l.length)++Mk.mk [] ((l.getD (pkF b (p+1) l.length) default).sub)::l.drop ((pkF b (p+1) l.length)+1)).map mkc)) ?_)
 have hb:∀m∈l,wS m.path<=24:=fun m hm=>mk_wS (ht.ok m hm)
 exact fin_rc (p + 1 + 1 + 1) (lea_refl _) (by simp only [pur, puress_mk]) kr ⟨l.take (pkF b (p + 1) l.length) ++ Mk.mk [] ((l.getD (pkF b (p + 1) l.length) default).sub) :: l.drop ((pkF b (p + 1) l.length) + 1), (fun m hm=>by
   rcases List.mem_append.1 hm with h|h
   · have:=hb m (List.mem_of_mem_take h);omega
   · rcases List.mem_cons.1 h with rfl|h
     · have:=hb _ (getD_mem l (pkF b (p+1) l.length) default om);(try dsimp only);(try simp only[wS]);omega
     · have:=hb m (List.mem_of_mem_drop h);omega),by simp only[List.length_append,List.length_cons,List.length_take,List.length_drop];omega,rfl,om⟩
 have hB:(l.length≠0/\pkF b p 4≠0/\pkF b (p+1+1) 4=1)/\K=pkF b (p+1) l.length:=by
   by_cases hc:(l.length≠0/\pkF b p 4≠0/\pkF b (p+1+1) 4=1)
   · rw[if_pos hc]at hKd;exact⟨hc,hKd⟩
   · rw[if_neg hc]at hKd;omega
 obtain⟨hB,rfl⟩:=hB
 have hKl:=pkF_lt b (p+1) (m:=l.length) om
 have hgw:=hl _ (getD_mem l (pkF b (p+1) l.length) default om)
 have hgp:=wS_len (l.getD (pkF b (p+1) l.length) default).path
 have hho1:(l.take (pkF b (p+1) l.length)).length=pkF b (p+1) l.length:=(by rw[List.length_take];omega)
 have hho2:(l.drop (pkF b (p+1) l.length+1)).length=l.length-(pkF b (p+1) l.length+1):=List.length_drop ..
 refine Ke (Fn0 [0] [(5,.osl 4 2 0 l.length)] (Sq fun K40 hK40=>?_))
 refine Rr (An1 4 [(13,.bool (decide ((l.length:Int)=0))),(12,.bool (decide ((l.length:Int)=0))),(11,.i l.length),(10,.osl 4 2 0 l.length)] (Ki/\·) ⟨rfl,Rg (fun hg42 g42=>?_) (fun hg42 g42=>?_)⟩)
 exfalso;omega
 refine Bc0 2 [(14,.ptr 0 0)] 32 [.ptr 0 0,.i 4] 15 ?_
 have hpk43:=pkF_lt b p (m:=4) om
 refine RC.use (pickF_ok b p 4 om om om om) kr fun r p1 hr=>?_;obtain⟨rfl,rfl⟩:=hr
 refine Ke (Cn1 (decide (((pkF b p 4:Nat):Int)=0)) [0,5] [] (Ki/\·) ⟨rfl,fun hc44 c44=>?_,fun hc44 c44=>?_⟩)
 exfalso;omega
 refine Sk (Jn (hK40 (Kp [0,5] (Rr (Bc0 4 [(38,.i l.length),(37,.osl 4 2 0 l.length),(36,.ptr 0 0)] 32 [.ptr 0 0,.i l.length] 39 ?_)))))
 have hpk46:=pkF_lt b (p+1) (m:=l.length) om
 refine RC.use (pickF_ok b (p+1) l.length om om om om) kr fun r p1 hr=>?_;obtain⟨rfl,rfl⟩:=hr
 refine Ke (Fn0 [0,5] [(7,.i ((pkF b (p+1) l.length:Nat):Int))] (Sq fun K47 hK47=>?_))
 refine Rr (Bc0 2 [(40,.ptr 0 0)] 32 [.ptr 0 0,.i 4] 41 ?_)
 have hpk49:=pkF_lt b (p+1+1) (m:=4) om
 refine RC.use (pickF_ok b (p+1+1) 4 om om om om) kr fun r p1 hr=>?_;obtain⟨rfl,rfl⟩:=hr
 refine Ke (Fn0 [0,5,7,41] [] (Bl (Rr (Cn1 (decide (((pkF b (p+1+1) 4:Nat):Int)=0)) [0,5,7,41] [] (Ki/\·) ⟨rfl,fun hc51 c51=>?_,fun hc51 c51=>?_⟩))))
 exfalso;omega
 refine Rr (Cn1 (decide (((pkF b (p+1+1) 4:Nat):Int)=1)) [0,5,7,41] [] (Ki/\·) ⟨rfl,fun hc53 c53=>?_,fun hc53 c53=>?_⟩)
 refine Qb [0,0,0,0,12,28,60,0,0,384,896,2044,4095,8191,16383] [(0,[]),(1,[]),(2,[]),(3,[]),(4,[]),(5,[]),(6,[]),(7,[]),(8,[6]),(9,[6]),(10,[6]),(11,[]),(12,[]),(13,[]),(14,[])] (fun h=>Bn (Jn (hK47 h))) (qAv1 (r:=((fl mkc (l.take (pkF b (p+1) l.length))++(.osl 8 1 0 ((l.getD (pkF b (p+1) l.length) default).path.length)::.bool ((l.getD (pkF b (p+1) l.length) default).sub)::fl mkc (l.drop (pkF b (p+1) l.length+1)))).getD (0+(pkF b (p+1) l.length)*2) .dead)) (v:=.osl 8 1 0 ((l.getD (pkF b (p+1) l.length) default).path.length)) 7 67 [(66,.ptr 4 (0+(pkF b (p+1) l.length)*2)),(65,.ptr 4 (0+(pkF b (p+1) l.length)*2)),(64,.i ((pkF b (p+1) l.length:Nat):Int)),(63,.osl 4 2 0 l.length),(62,.i ((pkF b (p+1) l.length:Nat):Int)),(61,.osl 4 2 0 l.length)] (ho_get (l.take (pkF b (p+1) l.length)) (.osl 8 1 0 ((l.getD (pkF b (p+1) l.length) default).path.length)) (.bool ((l.getD (pkF b (p+1) l.length) default).sub)) (l.drop (pkF b (p+1) l.length+1)) 0 (by rw[List.length_take];omega) dc) (fun Z=>(2=2/\(0:Int)<=((pkF b (p+1) l.length:Nat):Int)/\((pkF b (p+1) l.length:Nat):Int)<(l.length:Int))/\((1:Nat)≠0)/\(0+(pkF b (p+1) l.length)*2+1<=(fl mkc (l.take (pkF b (p+1) l.length))++(.osl 8 1 0 ((l.getD (pkF b (p+1) l.length) default).path.length)::.bool ((l.getD (pkF b (p+1) l.length) default).sub)::fl mkc (l.drop (pkF b (p+1) l.length+1)))).length/\0+(pkF b (p+1) l.length)*2<(fl mkc (l.take (pkF b (p+1) l.length))++(.osl 8 1 0 ((l.getD (pkF b (p+1) l.length) default).path.length)::.bool ((l.getD (pkF b (p+1) l.length) default).sub)::fl mkc (l.drop (pkF b (p+1) l.length+1)))).length)/\Z) ⟨⟨rfl,om,om⟩,dc,⟨by rw[ho_len];omega,by rw[ho_len];omega⟩,qBc3 3 [(69,.osl 12 1 0 3),(68,.ptr 0 0)] [6] 41 [.ptr 0 0,.osl 12 1 0 3] 70 [(12,[.str [97],.str [],.str [120]]),(8,fl sc ((l.getD (pkF b (p+1) l.length) default).path)),(4,fl mkc (l.take (pkF b (p+1) l.length))++(.osl 8 1 0 ((l.getD (pkF b (p+1) l.length) default).path.length)::.bool ((l.getD (pkF b (p+1) l.length) default).sub)::fl mkc (l.drop (pkF b (p+1) l.length+1)))),(0,rdc b (p+1+1+1))] 16 (fun Z=>(3*1<=16777216)/\(((0+(pkF b (p+1) l.length)*2+1<=(fl mkc (l.take (pkF b (p+1) l.length))++(.osl 8 1 0 ((l.getD (pkF b (p+1) l.length) default).path.length)::.bool ((l.getD (pkF b (p+1) l.length) default).sub)::fl mkc (l.drop (pkF b (p+1) l.length+1)))).length/\0+(pkF b (p+1) l.length)*2<(fl mkc (l.take (pkF b (p+1) l.length))++(.osl 8 1 0 ((l.getD (pkF b (p+1) l.length) default).path.length)::.bool ((l.getD (pkF b (p+1) l.length) default).sub)::fl mkc (l.drop (pkF b (p+1) l.length+1)))).length)/\((((fl mkc (l.take (pkF b (p+1) l.length))++(.osl 8 1 0 ((l.getD (pkF b (p+1) l.length) default).path.length)::.bool ((l.getD (pkF b (p+1) l.length) default).sub)::fl mkc (l.drop (pkF b (p+1) l.length+1)))).getD (0+(pkF b (p+1) l.length)*2) .dead):AV)=(.osl 8 1 0 ((l.getD (pkF b (p+1) l.length) default).path.length):AV)))/\True)/\Z) ⟨dc,⟨⟨⟨by rw[ho_len];omega,by rw[ho_len];omega⟩,(ho_get (l.take (pkF b (p+1) l.length)) (.osl 8 1 0 ((l.getD (pkF b (p+1) l.length) default).path.length)) (.bool ((l.getD (pkF b (p+1) l.length) default).sub)) (l.drop (pkF b (p+1) l.length+1)) 0 (by rw[List.length_take];omega) dc)⟩,trivial⟩,Tz 12 1 3 ([[.str [97]],[.str []],[.str [120]]]) ([.str [97],.str [],.str [120]]) [.ptr 0 0,pth [[97],[],[120]]] [(8,fl sc ((l.getD (pkF b (p+1) l.length) default).path)),(4,fl mkc (l.take (pkF b (p+1) l.length))++(.osl 8 1 0 ((l.getD (pkF b (p+1) l.length) default).path.length)::.bool ((l.getD (pkF b (p+1) l.length) default).sub)::fl mkc (l.drop (pkF b (p+1) l.length+1)))),(0,rdc b (p+1+1+1))] [false,true,true] kr (by first|decide|simp) (TCall_H (H':=[(8,fl sc ((l.getD (pkF b (p+1) l.length) default).path)),(4,fl mkc (l.take (pkF b (p+1) l.length))++(.osl 8 1 0 ((l.getD (pkF b (p+1) l.length) default).path.length)::.bool ((l.getD (pkF b (p+1) l.length) default).sub)::fl mkc (l.drop (pkF b (p+1) l.length+1)))),(0,rdc b (p+1+1+1))]) (by simp only[fqH,fqs_ho];kernel_rfl) ?_)⟩⟩)
 refine RC.use (of_ok b (p+1+1+1) [[97],[],[120]] (by first|omega|decide|simp) (by first|omega|decide|simp) om om) kr fun r p1 hr=>?_;obtain⟨os54,hos54,rfl,rfl⟩:=hr
 refine Kq (p:=(((0+(pkF b (p+1) l.length)*2+1<=(fl mkc (l.take (pkF b (p+1) l.length))++(.osl 8 1 0 ((l.getD (pkF b (p+1) l.length) default).path.length)::.bool ((l.getD (pkF b (p+1) l.length) default).sub)::fl mkc (l.drop (pkF b (p+1) l.length+1)))).length/\0+(pkF b (p+1) l.length)*2<(fl mkc (l.take (pkF b (p+1) l.length))++(.osl 8 1 0 ((l.getD (pkF b (p+1) l.length) default).path.length)::.bool ((l.getD (pkF b (p+1) l.length) default).sub)::fl mkc (l.drop (pkF b (p+1) l.length+1)))).length)/\((((fl mkc (l.take (pkF b (p+1) l.length))++(.osl 8 1 0 ((l.getD (pkF b (p+1) l.length) default).path.length)::.bool ((l.getD (pkF b (p+1) l.length) default).sub)::fl mkc (l.drop (pkF b (p+1) l.length+1)))).getD (0+(pkF b (p+1) l.length)*2) .dead):AV)=(.osl 8 1 0 ((l.getD (pkF b (p+1) l.length) default).path.length):AV)))/\True)) ⟨⟨⟨by rw[ho_len];omega,by rw[ho_len];omega⟩,(ho_get (l.take (pkF b (p+1) l.length)) (.osl 8 1 0 ((l.getD (pkF b (p+1) l.length) default).path.length)) (.bool ((l.getD (pkF b (p+1) l.length) default).sub)) (l.drop (pkF b (p+1) l.length+1)) 0 (by rw[List.length_take];omega) dc)⟩,trivial⟩ ?_
 refine qAn3 2 [(72,.osl 20 1 0 ((l.getD (pkF b (p+1) l.length) default).path.length+1)),(71,.osl 16 1 0 1)] [(20,apd (fl sc ((l.getD (pkF b (p+1) l.length) default).path)) ((l.getD (pkF b (p+1) l.length) default).path.length*1) [.str os54]),(16,[.str os54]),(4,fl mkc (l.take (pkF b (p+1) l.length))++(.osl 8 1 0 ((l.getD (pkF b (p+1) l.length) default).path.length)::.bool ((l.getD (pkF b (p+1) l.length) default).sub)::fl mkc (l.drop (pkF b (p+1) l.length+1)))),(0,rdc b (p+1+1+1+1))] 24 (fun Z=>(1*1<=16777216)/\(((0+(pkF b (p+1) l.length)*2+1<=(fl mkc (l.take (pkF b (p+1) l.length))++(.osl 8 1 0 ((l.getD (pkF b (p+1) l.length) default).path.length)::.bool ((l.getD (pkF b (p+1) l.length) default).sub)::fl mkc (l.drop (pkF b (p+1) l.length+1)))).length/\0+(pkF b (p+1) l.length)*2<(fl mkc (l.take (pkF b (p+1) l.length))++(.osl 8 1 0 ((l.getD (pkF b (p+1) l.length) default).path.length)::.bool ((l.getD (pkF b (p+1) l.length) default).sub)::fl mkc (l.drop (pkF b (p+1) l.length+1)))).length)/\((((fl mkc (l.take (pkF b (p+1) l.length))++(.osl 8 1 0 ((l.getD (pkF b (p+1) l.length) default).path.length)::.bool ((l.getD (pkF b (p+1) l.length) default).sub)::fl mkc (l.drop (pkF b (p+1) l.length+1)))).getD (0+(pkF b (p+1) l.length)*2) .dead):AV)=(.osl 8 1 0 ((l.getD (pkF b (p+1) l.length) default).path.length):AV)))/\True)/\(0+1*1<=1)/\(1=1/\(l.getD (pkF b (p+1) l.length) default).path.length*1<=(fl sc ((l.getD (pkF b (p+1) l.length) default).path)).length/\0<16/\((l.getD (pkF b (p+1) l.length) default).path.length+1)*16<=140737488355328)/\(True)/\Z) ⟨dc,⟨⟨⟨by rw[ho_len];omega,by rw[ho_len];omega⟩,(ho_get (l.take (pkF b (p+1) l.length)) (.osl 8 1 0 ((l.getD (pkF b (p+1) l.length) default).path.length)) (.bool ((l.getD (pkF b (p+1) l.length) default).sub)) (l.drop (pkF b (p+1) l.length+1)) 0 (by rw[List.length_take];omega) dc)⟩,trivial⟩,dc,⟨rfl,gl,dc,gl⟩,trivial,runq_v (v':=.osl 20 1 0 (((l.getD (pkF b (p+1) l.length) default).path++[os54]).length)) (push_len _ _ _ _) (runq_h (cs':=fl sc ((l.getD (pkF b (p+1) l.length) default).path++[os54])) (push_str ((l.getD (pkF b (p+1) l.length) default).path) os54) (qAn3 3 [(74,.ptr 4 (0+(pkF b (p+1) l.length)*2)),(73,.ptr 4 (0+(pkF b (p+1) l.length)*2))] [(20,fl sc ((l.getD (pkF b (p+1) l.length) default).path++[os54])),(16,[.str os54]),(4,(fl mkc (l.take (pkF b (p+1) l.length))++(.osl 8 1 0 ((l.getD (pkF b (p+1) l.length) default).path.length)::.bool ((l.getD (pkF b (p+1) l.length) default).sub)::fl mkc (l.drop (pkF b (p+1) l.length+1)))).take (0+(pkF b (p+1) l.length)*2)++[.osl 20 1 0 (((l.getD (pkF b (p+1) l.length) default).path++[os54]).length)]++(fl mkc (l.take (pkF b (p+1) l.length))++(.osl 8 1 0 ((l.getD (pkF b (p+1) l.length) default).path.length)::.bool ((l.getD (pkF b (p+1) l.length) default).sub)::fl mkc (l.drop (pkF b (p+1) l.length+1)))).drop (0+(pkF b (p+1) l.length)*2+1)),(0,rdc b (p+1+1+1+1))] 24 (fun Z=>(2=2/\(0:Int)<=((pkF b (p+1) l.length:Nat):Int)/\((pkF b (p+1) l.length:Nat):Int)<(l.length:Int))/\((1:Nat)≠0)/\(true=true/\1=1/\0+(pkF b (p+1) l.length)*2+1<=(fl mkc (l.take (pkF b (p+1) l.length))++(.osl 8 1 0 ((l.getD (pkF b (p+1) l.length) default).path.length)::.bool ((l.getD (pkF b (p+1) l.length) default).sub)::fl mkc (l.drop (pkF b (p+1) l.length+1)))).length)/\(True)/\Z) ⟨⟨rfl,om,om⟩,dc,⟨rfl,rfl,(by(try simp only[ho_len,flTl,flSl,ints_len,List.length_set]);omega)⟩,trivial,runq_H (H':=[(20,fl sc ((l.getD (pkF b (p+1) l.length) default).path++[os54])),(16,[.str os54]),(4,fl mkc (l.take (pkF b (p+1) l.length))++(.osl 20 1 0 (((l.getD (pkF b (p+1) l.length) default).path++[os54]).length)::.bool ((l.getD (pkF b (p+1) l.length) default).sub)::fl mkc (l.drop (pkF b (p+1) l.length+1)))),(0,rdc b (p+1+1+1+1))]) (by rw[ho_set _ _ _ _ _ (by rw[List.length_take];omega)]) ?_⟩))⟩
 refine qFn0 [5] [] (Rr (Fn0 [] [(4,.osl 4 2 0 l.length)] (FzH 20 4 (l.take (pkF b (p+1) l.length)) ((l.getD (pkF b (p+1) l.length) default).path++[os54]) ((l.getD (pkF b (p+1) l.length) default).sub) (l.drop (pkF b (p+1) l.length+1)) [(4,.osl 4 2 0 l.length)] [(0,rdc b (p+1+1+1+1))] [true] (h_k [4] (F':=[(4,.osl 4 2 0 l.length)]) kr ?_))))
 refine Hn [(4,fl mkc (l.take (pkF b (p+1) l.length)++Mk.mk ((l.getD (pkF b (p+1) l.length) default).path++[os54]) ((l.getD (pkF b (p+1) l.length) default).sub)::l.drop (pkF b (p+1) l.length+1))),(0,rdc b (p+1+1+1+1))] (h_st (F':=[(4,.osl 4 2 0 ((l.take (pkF b (p+1) l.length)++Mk.mk ((l.getD (pkF b (p+1) l.length) default).path++[os54]) ((l.getD (pkF b (p+1) l.length) default).sub)::l.drop (pkF b (p+1) l.length+1)).length))]) (H':=[(4,fl mkc (l.take (pkF b (p+1) l.length)++Mk.mk ((l.getD (pkF b (p+1) l.length) default).path++[os54]) ((l.getD (pkF b (p+1) l.length) default).sub)::l.drop (pkF b (p+1) l.length+1))),(0,rdc b (p+1+1+1+1))]) (by have e:(l.take (pkF b (p+1) l.length)++Mk.mk ((l.getD (pkF b (p+1) l.length) default).path++[os54]) ((l.getD (pkF b (p+1) l.length) default).sub)::l.drop (pkF b (p+1) l.length+1)).length=l.length:=(by simp only[List.length_append,List.length_cons,List.length_take,List.length_drop];omega);rw[e]) rfl (Fz 4 2 ((l.take (pkF b (p+1) l.length)++Mk.mk ((l.getD (pkF b (p+1) l.length) default).path++[os54]) ((l.getD (pkF b (p+1) l.length) default).sub)::l.drop (pkF b (p+1) l.length+1)).length) ((l.take (pkF b (p+1) l.length)++Mk.mk ((l.getD (pkF b (p+1) l.length) default).path++[os54]) ((l.getD (pkF b (p+1) l.length) default).sub)::l.drop (pkF b (p+1) l.length+1)).map mkc) (fl mkc (l.take (pkF b (p+1) l.length)++Mk.mk ((l.getD (pkF b (p+1) l.length) default).path++[os54]) ((l.getD (pkF b (p+1) l.length) default).sub)::l.drop (pkF b (p+1) l.length+1))) [(4,.osl 4 2 0 ((l.take (pkF b (p+1) l.length)++Mk.mk ((l.getD (pkF b (p+1) l.length) default).path++[os54]) ((l.getD (pkF b (p+1) l.length) default).sub)::l.drop (pkF b (p+1) l.length+1)).length))] [(0,rdc b (p+1+1+1+1))] [true] (chkM _) (flM_le _) (Rt (.sl 2 ((l.take (pkF b (p+1) l.length)++Mk.mk ((l.getD (pkF b (p+1) l.length) default).path++[os54]) ((l.getD (pkF b (p+1) l.length) default).sub)::l.drop (pkF b (p+1) l.length+1)).map mkc)) ?_)))
 have hb:∀m∈l,wS m.path<=24:=fun m hm=>mk_wS (ht.ok m hm)
 exact fin_rc (p + 1 + 1 + 1 + 1) (lea_refl _) (by simp only [pur, puress_mk]) kr ⟨l.take (pkF b (p + 1) l.length) ++ Mk.mk ((l.getD (pkF b (p + 1) l.length) default).path ++ [os54]) ((l.getD (pkF b (p + 1) l.length) default).sub) :: l.drop (pkF b (p + 1) l.length + 1), (fun m hm=>by
   rcases List.mem_append.1 hm with h|h
   · have:=hb m (List.mem_of_mem_take h);omega
   · rcases List.mem_cons.1 h with rfl|h
     · have:=hb _ (getD_mem l (pkF b (p+1) l.length) default om);have e1:=wS_snoc (l.getD (pkF b (p+1) l.length) default).path os54;have e2:os54.length<=1:=(by have hq:=hos54;simp only[List.mem_cons,List.not_mem_nil,or_false]at hq;rcases hq with h|h|h<;>rw[h]<;>decide);(try dsimp only);(try simp only[wS]);omega
     · have:=hb m (List.mem_of_mem_drop h);omega),by simp only[List.length_append,List.length_cons,List.length_take,List.length_drop];omega,rfl,om⟩
 exfalso;omega
theorem l13Any_ok (b:Str) (p:Nat) (t:Tr) (hw:t.W<2^20) (hp:p<2^24) (hb:b.length<2^30):RC G 14 [.agg (tcs t)] b p (fun r p'=>∃l2:List Mk,(∀m∈l2,wS m.path<2^31)/\l2.length<=10/\r=.sl 2 (l2.map mkc)/\p'<=p+300):=by
 refine h_rc (F:=[(0,.ptr 0 0),(1,.agg (tcs t))]) (by simp only[go_sem]) Tryz.func14 kr kr ?_ kr
 refine Rr (Fn2 [0] [(3,.ptr 4 0)] [(4,tcs t),(0,rdc b p)] 8 (Rr (Bc1 3 [(7,.agg (tcs t)),(6,.ptr 0 0)] 36 [.ptr 0 0,.agg (tcs t)] 8 ((0+5<=5/\0<5)/\·) ⟨dc,RC.use (l13Trail_ok b p t om om om) kr fun r q4 hr=>?_⟩)));obtain⟨x3,h1x3,h2x3,rfl,h3x3⟩:=hr
 refine Ke (Fn0 [0] [(5,.sl 2 (x3.map mkc))] (Sq fun K5 hK5=>?_))
 refine Rr (Bc0 2 [(9,.ptr 0 0)] 32 [.ptr 0 0,.i 20] 10 (RC.use (pick_ok b q4 20 om om om om) kr fun r p1 hr=>?_));obtain⟨pk7,hpk7,rfl,rfl⟩:=hr
 refine Ke (Cn1 (decide ((pk7:Int)=0)) [0,5] [] (Ki/\·) ⟨rfl,fun hc8 c8=>?_,fun hc8 c8=>?_⟩)
 refine Rr (Bc0 3 [(13,.sl 2 (x3.map mkc)),(12,.ptr 0 0)] 37 [.ptr 0 0,.sl 2 (x3.map mkc)] 14 (RC.use (l13Spoil_ok b (q4+1) x3 h1x3 h2x3 om om) kr fun r q11 hr=>?_));obtain⟨x10,h1x10,h2x10,rfl,h3x10⟩:=hr
 refine Ke (Fn0 [] [(4,.sl 2 (x10.map mkc))] (Rt (.sl 2 (x10.map mkc)) ?_))
 exact fin_rc q11 (lea_refl _) (by simp only[pur,puress_mk]) kr ⟨x10,h1x10,om,rfl,om⟩
 refine Sk (Jn (hK5 (Kp [5] (Rr (Fn0 [] [(4,.sl 2 (x3.map mkc))] (Rt (.sl 2 (x3.map mkc)) ?_))))))
 exact fin_rc (q4+1) (lea_refl _) (by simp only[pur,puress_mk]) kr ⟨x3,(fun m hm=>by have:=mk_wS (h1x3.ok m hm);omega),om,rfl,om⟩
open Go Go.Proofs
set_option maxRecDepth 100000
theorem td_det {t:Tr} {l l2 l3:List Mk} {c:Cl} (h0:(tDo t l c).2=0->trOk l=true/\CoL l (mksOf t c) l2) (h1:(tDo t l c).2≠0->l2=if(tDo t l c).2=1 then[]else l) (k0:(tDo t l c).2=0->trOk l=true/\CoL l (mksOf t c) l3) (k1:(tDo t l c).2≠0->l3=if(tDo t l c).2=1 then[]else l):l2=l3:=by
  by_cases h:(tDo t l c).2=0
  · exact(h0 h).2.det (k0 h).2
  · rw[h1 h,k1 h]
theorem td_ok {t:Tr} {l l2:List Mk} {c:Cl} (ht:trOk l=true) (h0:(tDo t l c).2=0->trOk l=true/\CoL l (mksOf t c) l2) (h1:(tDo t l c).2≠0->l2=if(tDo t l c).2=1 then[]else l):trOk l2=true/\l2.length<=6:=by
  obtain⟨t1,t6⟩:=trOk_trl ht
  have htd:tDo t l c=sTreeDo t c:=by unfold tDo;rw[ht];rfl
  by_cases h:(tDo t l c).2=0
  · obtain⟨u1,u2⟩:=(h0 h).2.trl t1 t6 fun m hm=>mksOf_ok (sTD_ok (htd▸h)).2 hm
    exact⟨u1.trOk u2,u2⟩
  · rw[h1 h]
    split
    · exact⟨Trl.nil.trOk (by simp),by simp⟩
    · exact⟨ht,t6⟩
theorem td_bnd {t:Tr} {l l2:List Mk} {c:Cl} (h0:(tDo t l c).2=0->trOk l=true/\CoL l (mksOf t c) l2) (h1:(tDo t l c).2≠0->l2=if(tDo t l c).2=1 then[]else l) (hl:∀m∈l,wS m.path<2^40) (h10:l.length<=10):(∀m∈l2,wS m.path<2^40)/\l2.length<=10:=by
  cases ht:trOk l with
  |true=>
    obtain⟨u1,u2⟩:=td_ok ht h0 h1
    exact⟨(trOk_trl u1).1.wS,om⟩
  |false=>
    have htd:tDo t l c=(.none,1):=by unfold tDo;rw[ht];rfl
    rw[h1 (by rw[htd];decide),htd]
    exact⟨by simp,by simp⟩
theorem W_sT (t:Tr) (c:Cl) (B:Nat) (hB:2^10<=B) (ht:t.W<B):(sTreeDo t c).1.W<B:=by
  have hp:=W_pos t
  unfold sTreeDo
  cases h:treeOk t<;>simp only[Bool.not_true,Bool.not_false,cond_true,cond_false]
  · rw[W_none];omega
  · cases h2:callOk c<;>simp only[Bool.not_true,Bool.not_false,cond_true,cond_false]
    · exact ht
    · rw[<-aDo_sDo h h2]
      unfold aDo
      cases callOk c<;>simp only[Bool.not_true,Bool.not_false,cond_true,cond_false]
      · exact ht
      cases decide ((iDo t c).2=(0:Int))<;>simp only[Bool.not_true,Bool.not_false,cond_true,cond_false]
      · exact ht
      cases h3:treeOk (iDo t c).1<;>simp only[Bool.not_true,Bool.not_false,cond_true,cond_false]
      · exact ht
      · have:=W_ok h3;omega
theorem W_tDo (t:Tr) (l:List Mk) (c:Cl) (ht:t.W<2^13):(tDo t l c).1.W<2^13:=by
  unfold tDo
  cases trOk l with
  |true=>exact W_sT t c _ om ht
  |false=>rw[show(bif false then sTreeDo t c else(.none,(1:Int)))=(.none,1)from rfl,W_none];omega
theorem DrawTrailDo_ok (X:Str) (hX:X.length<2^40):PC G 4 [.sl 1 (X.map fun c=>[AV.int .u8 (c.toNat:Int)])] (fun r=>∃(t:Tr) (l:List Mk) (c:Cl),r=.tup [.agg (tcs t),.sl 2 (l.map mkc),.agg (clc c)]/\t.W<2^13/\(∀m∈l,wS m.path<2^40)/\l.length<=10/\wS c.path<2^40/\wS c.to<2^40/\c.data.length<2^20):=by
 refine h_pc (F:=[(0,.sl 1 (X.map fun c=>[AV.int .u8 (c.toNat:Int)]))]) (by simp only[go_sem]) Tryz.func4 kr kr ?_ kr
 refine Rr (Fn2 [0] [(4,.ptr 4 0),(2,.ptr 0 0)] [(4,[.i 0,.nils,.nils,.i 0,.str []]),(0,zt)] 8 (Rr (Bc0 2 [(7,.sl 1 (X.map fun c=>[AV.int .u8 (c.toNat:Int)]))] 12 [.sl 1 (X.map fun c=>[AV.int .u8 (c.toNat:Int)])] 8 (op_use (l1Open_ok X om) fun bb hbb=>?_))))
 refine Ke (Fn0 [2,4] [(5,.ptr 8 0)] (Rr (Bc0 2 [(9,.ptr 8 0)] 13 [.ptr 8 0] 10 (RC.use (l4Any_ok bb 0 om om) kr fun r q5 hr=>?_))));obtain⟨x4,h1x4,rfl,h3x4⟩:=hr
 refine Ke (Fn3 [2,4,5] [(6,.ptr 12 0)] [(12,tcs x4),(8,rdc bb q5),(4,[.i 0,.nils,.nils,.i 0,.str []]),(0,zt)] 16 ((true=true/\5=5/\0+5<=5)/\·) ⟨dc,Qr [0,0,0,6,0,0,62,127,255,511] [(0,[]),(1,[]),(2,[]),(4,[]),(5,[]),(3,[0,5]),(6,[0]),(7,[]),(8,[]),(9,[])] (qBc1 6 [(16,.agg (tcs x4)),(15,.ptr 8 0),(13,.agg (tcs x4)),(12,.ptr 8 0),(11,.agg (tcs x4))] [0,5] 14 [.ptr 8 0,.agg (tcs x4)] 14 ((0+5<=5/\0<5)/\(0+5<=5/\0<5)/\(0+5<=5/\0<5)/\·) ⟨dc,dc,dc,RC.use (l13Any_ok bb q5 x4 om om om) kr fun r q8 hr=>?_⟩)⟩);obtain⟨x7,h1x7,h2x7,rfl,h3x7⟩:=hr
 refine Kq (p:=(((0+5<=5/\0<5)/\(AV.agg (tcs x4)=(.agg (tcs x4):AV)))/\((0+5<=5/\0<5)/\(AV.agg (tcs x4)=(.agg (tcs x4):AV)))/\True)) ⟨⟨dc,rfl⟩,⟨dc,rfl⟩,trivial⟩ ?_
 refine qBc0 1 [] [0] 15 [.ptr 8 0,.agg (tcs x4)] 17 ?_
 refine RC.use (l4Call_ok bb q8 x4 om om om) kr fun r q10 hr=>?_;obtain⟨cl9,h0cl9,h1cl9,h2cl9,rfl,h3cl9⟩:=hr
 refine Kq (p:=(((0+5<=5/\0<5)/\(AV.agg (tcs x4)=(.agg (tcs x4):AV)))/\True)) ⟨⟨dc,rfl⟩,trivial⟩ ?_
 refine qFn3 [2,4] [(3,.sl 2 (x7.map mkc))] [(12,tcs x4),(8,rdc bb q10),(4,clc cl9),(0,tcs x4)] 16 ((true=true/\5=5/\0+5<=5)/\(True)/\(true=true/\5=5/\0+5<=5)/\(True)/\·) ⟨dc,trivial,dc,trivial,Rt1 ((0+5<=5/\0<5)/\(0+5<=5/\0<5)/\·) (.tup [.agg (tcs x4),.sl 2 (x7.map mkc),.agg (clc cl9)]) ⟨dc,dc,⟨[],List.nil_sublist _,_,lea_refl _,⟨x4,x7,cl9,rfl,om,fun m hm=>Nat.lt_trans (h1x7 m hm) om,om,om,om,om⟩,by simp only[go_sem,pur,purs,puress_mk,Bool.and_self]⟩⟩⟩
theorem wuMarks_ok (l:List Mk) (hl:∀m∈l,wS m.path<2^40) (hn:l.length<2^20):PE G 8 [.sl 2 (l.map mkc),.sl 2 (l.map mkc)] (.bool true):=by
 refine Pe Tryz.func8 ?_
 refine Rr (Fn0 [0,1] [] (Sq fun K2 hK2=>?_))
 refine Rr (Av0 (r:=.i ((l.map mkc).length:Nat)) (v:=.i l.length) 2 7 [(6,.sl 2 (l.map mkc))] lm (Av0 (r:=.i ((l.map mkc).length:Nat)) (v:=.i l.length) 2 9 [(8,.sl 2 (l.map mkc))] lm (Cn1 (!decide ((l.length:Int)=(l.length:Int))) [0,1] [] (Ki/\·) ⟨rfl,fun hc4 c4=>?_,fun hc4 c4=>?_⟩)))
 exfalso;simp at hc4
 refine Sk (Jn (hK2 (Kp [0,1] (Sq fun K5 hK5=>?_))))
 refine Rr (Fn0 [0,1] [(5,.i 0)] (Bl (h_l (fun(k:Nat)=>([(0,.sl 2 (l.map mkc)),(1,.sl 2 (l.map mkc)),(5,.i k)]:Fr)) (fun(k:Nat)=>([]:Hp)) (fun(k:Nat) cn=>(k<=l.length)/\cn=0) (fun(k:Nat)=>l.length-k) 0 kr ?_ ?_ ?_ ?_)))
 refine⟨?_,rfl⟩;exact Nat.zero_le _
 exact⟨kr,kr,kr,trivial⟩
 exact(List.nil_sublist _)
 rintro k n1 hI
 (try dsimp only at hI)
 obtain⟨hi1,rfl⟩:=hI
 refine Sq fun K7 hK7=>?_
 refine Rr (Av0 (r:=.i ((l.map mkc).length:Nat)) (v:=.i l.length) 3 13 [(12,.sl 2 (l.map mkc)),(11,.i k)] lm (Cn1 (decide ((k:Int)<(l.length:Int))) [0,1,5] [] (Ki/\·) ⟨rfl,fun hc9 c9=>?_,fun hc9 c9=>?_⟩))
 refine Sk (Jn (hK7 (Kp [0,1,5] (Sq fun K10 hK10=>?_))))
 refine Bl ?_
 have hgm:=hl _ (getD_mem l k default om);have hgl:=wS_len (l.getD k default).path
 refine Qr [0,0,3,7,15,0,0,96,224,480,1023,2047,4095,8191,8191,32767,65535,131071,8191,8191,794623,1843199,3940351,8388607,16777215] [(0,[]),(1,[]),(2,[]),(3,[]),(4,[]),(5,[]),(6,[]),(7,[]),(8,[]),(9,[]),(10,[]),(11,[]),(12,[]),(13,[]),(14,[]),(15,[]),(16,[]),(17,[]),(18,[]),(19,[]),(20,[]),(21,[]),(22,[]),(23,[]),(24,[])] (qAv1 3 19 [(18,.i k),(17,.sl 2 (l.map mkc))] (congrArg AV.pat (mg_mk l k om)) ((2=2/\(0:Int)<=(k:Int)/\(k:Int)<((l.map mkc).length:Int))/\·) ⟨⟨rfl,om,lmo⟩,qAv1 5 24 [(23,.i k),(22,.sl 2 (l.map mkc)),(21,pth ((l.getD k default).path)),(20,.pat (mkc (l.getD k default)))] (congrArg AV.pat (mg_mk l k om)) (((1:Nat)≠0)/\(1<=2/\0<2)/\(2=2/\(0:Int)<=(k:Int)/\(k:Int)<((l.map mkc).length:Int))/\·) ⟨dc,dc,⟨rfl,om,lmo⟩,qBc1 3 [(26,pth ((l.getD k default).path)),(25,.pat (mkc (l.getD k default)))] [] 25 [pth ((l.getD k default).path),pth ((l.getD k default).path)] 27 (((1:Nat)≠0)/\(1<=2/\0<2)/\·) ⟨dc,dc,PE.use (wtTexts_ok ((l.getD k default).path) ((l.getD k default).path) om om) ?_⟩⟩⟩)
 refine Kq (p:=(True)) trivial ?_
 refine qAn0 2 [(29,.bool (!(((l.getD k default).path)==((l.getD k default).path)))),(28,.bool (!(((l.getD k default).path)==((l.getD k default).path))))] (Qg (fun hg12 g12=>?_) (fun hg12 g12=>?_))
 exfalso;simp at hg12
 refine qAv1 3 32 [(31,.i k),(30,.sl 2 (l.map mkc))] (congrArg AV.pat (mg_mk l k om)) ((2=2/\(0:Int)<=(k:Int)/\(k:Int)<((l.map mkc).length:Int))/\·) ⟨⟨rfl,om,lmo⟩,qAv1 5 37 [(36,.i k),(35,.sl 2 (l.map mkc)),(34,.bool ((l.getD k default).sub)),(33,.pat [.bool ((l.getD k default).sub)])] (congrArg AV.pat (mg_mk l k om)) (((1:Nat)≠0)/\(1<=1/\0<1)/\(2=2/\(0:Int)<=(k:Int)/\(k:Int)<((l.map mkc).length:Int))/\·) ⟨dc,dc,⟨rfl,om,lmo⟩,qCn1 (!(((l.getD k default).sub)==((l.getD k default).sub))) [0,1,5] [] (((1:Nat)≠0)/\(1<=1/\0<1)/\(TK.bool=TK.bool)/\·) ⟨dc,dc,rfl,fun hc13 c13=>?_,fun hc13 c13=>?_⟩⟩⟩
 exfalso;simp at hc13
 refine Sk (Bn (Jn (hK10 (Kp [0,1,5] (Rn (Av1 2 16 [(15,.i k)] (cI (wn1 k om)) (Ki/\·) ⟨rfl,Gn0 [(5,.i ((k+1:Nat):Int))] (nk_n ?_)⟩))))))
 refine Lr (k+1) [] 0 [(0,.sl 2 (l.map mkc)),(1,.sl 2 (l.map mkc)),(5,.i ((k+1:Nat):Int))] [] [] ?_ ?_ kr kr
 (try dsimp only);omega
 refine⟨?_,rfl⟩;(try dsimp only);omega
 refine Xt (Jx (Lx (Bh (Jn (hK5 (Kp [] (Rr (Fn0 [] [(4,.bool true)] (Rt (.bool true) ?_)))))))))
 exact fin_lea (lea_refl _)
set_option maxHeartbeats 2000000 in
theorem FnTrailNever_ok (X:Str):PE G 3 [.sl 1 (X.map fun c=>[AV.int .u8 (c.toNat:Int)])] (.bool true):=by
 refine Pe Tryz.func3 ?_
 refine Rr (Fn0 [0] [] (Sq fun K2 hK2=>?_))
 refine Rr (Av0 (r:=.i ((X.map (fun c=>[AV.int .u8 (c.toNat:Int)])).length:Nat)) (v:=.i X.length) 2 15 [(14,.sl 1 (X.map fun c=>[AV.int .u8 (c.toNat:Int)]))] lm (Cn1 (decide ((1048576:Int)<((X.length:Int):Int))) [0] [] (Ki/\·) ⟨rfl,fun hc4 c4=>?_,fun hc4 c4=>?_⟩))
 refine Rr (Fn0 [] [(2,.bool true)] (Rt (.bool true) ?_))
 exact fin_lea (lea_refl _)
 refine Sk (Jn (hK2 (Kp [0] (Rr (Bc0 2 [(18,.sl 1 (X.map fun c=>[AV.int .u8 (c.toNat:Int)]))] 4 [.sl 1 (X.map fun c=>[AV.int .u8 (c.toNat:Int)])] 19 (PC.use (DrawTrailDo_ok X om) fun r hr=>?_))))))
 obtain⟨t,l,c,rfl,hw,hl,hl10,h1,h2,h3⟩:=hr
 refine Ke (Fn3 [] [(4,.sl 2 (l.map mkc)),(5,.ptr 4 0),(3,.ptr 0 0)] [(4,clc c),(0,tcs t)] 8 ((0<3)/\(1<3)/\(2<3)/\(true=true/\5=5/\0+5<=5)/\(true=true/\5=5/\0+5<=5)/\·) ⟨dc,dc,dc,dc,dc,Rr (Bc1 4 [(26,.agg (clc c)),(25,.sl 2 (l.map mkc)),(24,.agg (tcs t))] 5 [.agg (tcs t),.sl 2 (l.map mkc),.agg (clc c)] 27 ((0+5<=5/\0<5)/\(0+5<=5/\0<5)/\·) ⟨dc,dc,PC.use (TrailDo_ok t l c om h1 h2 h3 hl om) fun r hr=>?_⟩)⟩)
 obtain⟨l2,rfl,hc0,hc1⟩:=hr
 refine Ke (Fn3 [3,4,5] [(8,.i ((tDo t l c).2)),(7,.sl 2 (l2.map mkc)),(6,.ptr 8 0)] [(8,tcs ((tDo t l c).1)),(4,clc c),(0,tcs t)] 12 ((0<3)/\(1<3)/\(2<3)/\(true=true/\5=5/\0+5<=5)/\·) ⟨dc,dc,dc,dc,Rr (Bc1 4 [(34,.agg (clc c)),(33,.sl 2 (l.map mkc)),(32,.agg (tcs t))] 6 [.agg (tcs t),.sl 2 (l.map mkc),.agg (clc c)] 35 ((0+5<=5/\0<5)/\(0+5<=5/\0<5)/\·) ⟨dc,dc,PC.use (sTrailDo_ok t l c om h1 h2 h3 hl om) fun r hr=>?_⟩)⟩)
 obtain⟨l3,rfl,hd0,hd1⟩:=hr
 obtain rfl:l2=l3:=td_det hc0 hc1 hd0 hd1
 have hW2:=W_tDo t l c om
 obtain⟨hb2,hn2⟩:=td_bnd hc0 hc1 hl hl10
 refine Ke (Fn3 [3,4,5,6,7,8] [(11,.i ((tDo t l c).2)),(10,.sl 2 (l2.map mkc)),(9,.ptr 12 0)] [(12,tcs ((tDo t l c).1)),(8,tcs ((tDo t l c).1)),(4,clc c),(0,tcs t)] 16 ((0<3)/\(1<3)/\(2<3)/\(true=true/\5=5/\0+5<=5)/\·) ⟨dc,dc,dc,dc,Sq fun K9 hK9=>?_⟩)
 refine Rm 53 ((!decide (((tDo t l c).2:Int)=((tDo t l c).2:Int)))||(!(wtT ((tDo t l c).1) ((tDo t l c).1)))) [3,4,5,6,7,8] ?_ ?_
 refine An1 4 [(42,.bool (!decide (((tDo t l c).2:Int)=((tDo t l c).2:Int)))),(41,.bool (!decide (((tDo t l c).2:Int)=((tDo t l c).2:Int)))),(40,.i ((tDo t l c).2)),(39,.i ((tDo t l c).2))] (Ki/\·) ⟨rfl,Rg (fun hg11 g11=>?_) (fun hg11 g11=>?_)⟩
 refine Mn0 true (by rw[hg11];rfl)
 refine Bc1 3 [(44,.agg (tcs ((tDo t l c).1))),(43,.agg (tcs ((tDo t l c).1)))] 7 [.agg (tcs ((tDo t l c).1)),.agg (tcs ((tDo t l c).1))] 45 ((0+5<=5/\0<5)/\(0+5<=5/\0<5)/\·) ⟨dc,dc,?_⟩
 refine PE.use (wtTree_ok _ ((tDo t l c).1) ((tDo t l c).1) rfl om om) ?_
 refine Ke (An0 3 [(48,.bool (!(wtT ((tDo t l c).1) ((tDo t l c).1)))),(47,.bool (!(wtT ((tDo t l c).1) ((tDo t l c).1)))),(46,.bool (!(wtT ((tDo t l c).1) ((tDo t l c).1))))] (Rg (fun hg12 g12=>?_) (fun hg12 g12=>?_)))
 refine Mn0 true (by rw[hg11,hg12];rfl)
 refine Pc0 3 [(50,.sl 2 (l2.map mkc)),(49,.sl 2 (l2.map mkc))] 51 (wuMarks_ok l2 hb2 om) (Mn0 false (by rw[hg11,hg12];rfl))
 refine Cc ((!decide (((tDo t l c).2:Int)=((tDo t l c).2:Int)))||(!(wtT ((tDo t l c).1) ((tDo t l c).1)))) (fun hc13 c13=>?_) fun hc13 c13=>?_
 refine Rr (Fn0 [] [(2,.bool false)] (Rt (.bool false) ?_))
 have h:=hc13
 rw[wtT_iff.2 rfl]at h;simp at h
 refine Sk (Jn (hK9 (Kp [3,4,5,6,7,8] (Sq fun K15 hK15=>?_))))
 refine Rr (Pc0 2 [(54,.sl 2 (l.map mkc))] 55 (sTrailOk_ok l (by first|exact hl|exact hb2) om) (Cn0 (!(trOk l)) [3,5,6,7,8] [] ⟨fun hc17 c17=>?_,fun hc17 c17=>?_⟩))
 refine Rr (Fn1 [] [(2,.bool (decide (((tDo t l c).2:Int)=(1:Int))))] (Ki/\·) ⟨rfl,Rt (.bool (decide (((tDo t l c).2:Int)=(1:Int)))) (fin_lea ?_)⟩)
 have hr:(decide (((tDo t l c).2:Int)=(1:Int)))=true:=by
   have ht:trOk l=false:=by have h:=hc17;simpa using h
   unfold tDo;rw[ht];rfl
 rw[hr];exact lea_refl _
 refine Sk (Jn (hK15 (Kp [3,5,6,7,8] (Rr (Bc1 3 [(61,.agg (clc c)),(60,.agg (tcs t))] 10 [.agg (tcs t),.agg (clc c)] 62 ((0+5<=5/\0<5)/\(0+5<=5/\0<5)/\·) ⟨dc,dc,?_⟩)))))
 have hW3:=W_sT t c (2^13) om hw
 refine PE.use (by have:=iTreeDo_ok t c om h1 h2 h3;rwa[iTreeDo_eq]at this) ?_
 refine Ke (Fn3 [6,7,8] [(13,.i ((sTreeDo t c).2)),(12,.ptr 16 0)] [(16,tcs ((sTreeDo t c).1)),(12,tcs ((tDo t l c).1)),(8,tcs ((tDo t l c).1)),(4,clc c),(0,tcs t)] 20 ((0<2)/\(1<2)/\(true=true/\5=5/\0+5<=5)/\·) ⟨dc,dc,dc,Rm 2 ((decide (((tDo t l c).2:Int)=((sTreeDo t c).2:Int)))&&((wtT ((tDo t l c).1) ((sTreeDo t c).1))&&((trOk l2)&&(decide ((l2.length:Int)<=6))))) [] ?_ ?_⟩)
 refine An1 4 [(68,.bool (decide (((tDo t l c).2:Int)=((sTreeDo t c).2:Int)))),(67,.bool (decide (((tDo t l c).2:Int)=((sTreeDo t c).2:Int)))),(66,.i ((sTreeDo t c).2)),(65,.i ((tDo t l c).2))] (Ki/\·) ⟨rfl,Rg (fun hg21 g21=>?_) (fun hg21 g21=>?_)⟩
 refine Bc1 3 [(70,.agg (tcs ((sTreeDo t c).1))),(69,.agg (tcs ((tDo t l c).1)))] 7 [.agg (tcs ((tDo t l c).1)),.agg (tcs ((sTreeDo t c).1))] 71 ((0+5<=5/\0<5)/\(0+5<=5/\0<5)/\·) ⟨dc,dc,?_⟩
 refine PE.use (wtTree_ok _ ((tDo t l c).1) ((sTreeDo t c).1) rfl om om) ?_
 refine Ke (An0 2 [(73,.bool (wtT ((tDo t l c).1) ((sTreeDo t c).1))),(72,.bool (wtT ((tDo t l c).1) ((sTreeDo t c).1)))] (Rg (fun hg22 g22=>?_) (fun hg22 g22=>?_)))
 refine Pc0 2 [(74,.sl 2 (l2.map mkc))] 75 (TrailOk_ok l2 (by first|exact hl|exact hb2) om) (An0 2 [(77,.bool (trOk l2)),(76,.bool (trOk l2))] (Rg (fun hg23 g23=>?_) (fun hg23 g23=>?_)))
 refine Av0 (r:=.i ((l2.map mkc).length:Nat)) (v:=.i l2.length) 2 79 [(78,.sl 2 (l2.map mkc))] lm (Mn1 (decide ((l2.length:Int)<=6)) (Ki/\·) ⟨rfl,(by rw[hg21,hg22,hg23];rfl)⟩)
 refine Mn0 false (by rw[hg21,hg22,hg23];rfl)
 refine Mn0 false (by rw[hg21,hg22];rfl)
 refine Mn0 false (by rw[hg21];rfl)
 refine Rt (.bool ((decide (((tDo t l c).2:Int)=((sTreeDo t c).2:Int)))&&((wtT ((tDo t l c).1) ((sTreeDo t c).1))&&((trOk l2)&&(decide ((l2.length:Int)<=6)))))) (fin_lea ?_)
 have hr:((decide (((tDo t l c).2:Int)=((sTreeDo t c).2:Int)))&&((wtT ((tDo t l c).1) ((sTreeDo t c).1))&&((trOk l2)&&(decide ((l2.length:Int)<=6)))))=true:=by
   have ht:trOk l=true:=by have h:=hc17;simpa using h
   obtain⟨e1,e2⟩:=td_ok ht hc0 hc1
   rw[show tDo t l c=sTreeDo t c by unfold tDo;rw[ht];rfl,wtT_iff.2 rfl,e1];simp;omega
 rw[hr];exact lea_refl _
end Go.Proofs.YtincoopbognogaaGreatT
set_option maxRecDepth 100000
namespace Go.Proofs.YtincoopbognogaaGreat
open Go.ChangeShapes Go.WideShapes Go.ChangeAt Go.RowKit
theorem ext_below {w w':World} (h:YtincoopbognogaaGreatT.Ext (fun _=>False) w w'):Below w.heap.size w w':=⟨h.os,h.tape,h.output,h.size,fun k hk=>h.keep k hk fun x=>x⟩
theorem calls_of {P:Program} {f:Nat} {vs:Array Value} {w:World} {R:Ending->World->Prop} {fn:Func} {b:Code} (hf:P.funcs[f]?=some fn) (hb:fn.body=some b) (hnm:(fn.name== "runtime.NumGoroutine")=false) (h:YtincoopbognogaaGreatT.CallsX P f vs w R):Calls P f vs w R:=by
 have hnm':¬fn.name= "runtime.NumGoroutine" :=by simpa using hnm
 have henter:(callFunc f vs).run P w=.ok (.enter f vs) w:=by
  simp[callFunc,hf,hnm',hb]
 unfold YtincoopbognogaaGreatT.CallsX at h
 rw[henter]at h
 exact h.2
theorem callDone (zs:List Int) (hw:∀n∈zs,(Lit.int .u8 n).wf=true) (A:Option Addr) (c:Nat) (W:World) (hc:zs.length<=c)
  (ha:zs≠[]->∃a,A=some a/\a.block<W.heap.size/\∀i,i<zs.length->W.cell? (a.add i)=some (.int .u8 (zs.getD i 0))):
  YtincoopbognogaaGreatT.CallsX Tryz.prog 3 #[.slice A zs.length c] W fun e W'=>e=.returned (.bool true)/\Below W.heap.size W W':=by
 let X:YtincoopbognogaaGreatT.Str:=zs.map fun n=>UInt8.ofNat n.toNat
 have hX:X.map (fun c=>[YtincoopbognogaaGreatT.AV.int .u8 (c.toNat:Int)])=zs.map fun n=>[YtincoopbognogaaGreatT.AV.int .u8 n]:=by
  simp only[X,List.map_map]
  refine List.map_congr_left fun n hn=>?_
  have:=hw n hn
  simp only[Lit.wf,Bool.and_eq_true,decide_eq_true_eq]at this
  have h1:0<=n:=by have:=this.1;simpa[IntKind.min,IntKind.signed]using this
  have h2:n<=255:=by have:=this.2;simpa[IntKind.max,IntKind.signed,IntKind.bits]using this
  simp only[Function.comp]
  congr 2
  rw[UInt8.toNat_ofNat']
  omega
 have h:=YtincoopbognogaaGreatT.FnTrailNever_ok X
 rw[hX]at h
 refine YtincoopbognogaaGreatT.CallsX.mono (h (fun _=>none) 0 (fun _=>False) W #[.slice A zs.length c] ⟨rfl,fun _ _ _=>rfl,0,fun _ _=>rfl⟩ (fun _ hb=>hb.elim) ?_) ?_
 ·simp only[YtincoopbognogaaGreatT.VRs,YtincoopbognogaaGreatT.VR,and_true]
  refine⟨A,c,by rw[List.length_map],by rw[List.length_map];exact hc,fun hne=>?_⟩
  obtain⟨a,rfl,hb,hcell⟩:=ha (by rintro rfl;exact hne rfl)
  refine⟨a,rfl,fun x=>x,hb,?_⟩
  have key:∀(l:List Int) (k:Nat),(∀i,i<l.length->W.cell? (a.add (k+i))=some (.int .u8 (l.getD i 0)))->YtincoopbognogaaGreatT.PEs (fun _=>none) W (fun _=>False) 1 (l.map fun n=>[YtincoopbognogaaGreatT.AV.int .u8 n]) a k:=by
   intro l
   induction l with
   |nil=>intro k _;simp only[List.map_nil,YtincoopbognogaaGreatT.PEs]
   |cons n l ih=>
    intro k hl
    simp only[List.map_cons,YtincoopbognogaaGreatT.PEs,YtincoopbognogaaGreatT.PCs,YtincoopbognogaaGreatT.VR,List.length_cons,List.length_nil,Nat.mul_one,and_true]
    refine⟨trivial,⟨_,by simpa using hl 0 (by simp),rfl,rfl⟩,ih (k+1) fun i hi=>?_⟩
    have:=hl (i+1) (by simpa using hi)
    rw[show k+1+i=k+(i+1) by omega]
    simpa using this
  exact key zs 0 (fun i hi=>by rw[Nat.zero_add];exact hcell i hi)
 ·rintro e W' ⟨v,r,rfl,rfl,hv,hx⟩
  simp only[YtincoopbognogaaGreatT.VR]at hv
  exact⟨by rw[hv],ext_below hx⟩
theorem own:ownKnob Tryz.prog.godebug=none:=by kernel_rfl
theorem contract (H:Type) (enc:TypeId×Value->H) (W:World) (base:Nat) (args:Array Value) (ds gs:List (DataW H)) (before:List MemPlace)
  (hval:∀(j:Nat) t v,Tryz.f3.params[j]?=some t->args[j]?=some v->Value.okWide Tryz.prog W .any base t v)
  (hW:DataW.Whole enc Tryz.prog Tryz.f3.params.toList Rows.fnTrailNeverSpec.vars false W args.toList ds gs before):
  Calls Tryz.prog 3 args W fun e W'=>∃v,e=.returned v/\Rows.fnTrailNeverSpec.post enc Tryz.prog Tryz.f3 false true false false W args v W':=by
 have hW':=hW
 obtain⟨p,q,hA0,hV,rfl,hfz,hnd⟩:=hW
 have hA:DataW.TrodAll enc Tryz.prog W 0 (fun _=>true) true Tryz.f3.params.toList args.toList ds p:=hA0
 rw[Tryz.params3]at hA hval
 obtain⟨v0,vs0,d0,ds0,p0,q0,hargs,rfl,rfl,h0,r0⟩:=trodAll_cons hA
 obtain⟨rfl,rfl,rfl⟩:=trodAll_nil r0
 obtain rfl:args=#[v0]:=by cases args;simp_all
 obtain⟨rfl,rfl⟩:=trodVars_none hV
 simp only[List.append_nil]at hW'
 have hlt:∀x∈p0,x.block<W.heap.size:=fun x hx=>by simpa using hW'.lt x hx
 have hargs2:∀(W':World),Below W.heap.size W W'->DataW.Trod enc Tryz.prog W' 0 (fun b=>decide (b<W.heap.size)) true 22 v0 d0 p0:=
  fun W' hn=>Below.trod (by kernel_rfl) (by kernel_rfl) (of_decide_eq_true (by kernel_rfl)) h0 hn hlt
 have fin:∀W',Below W.heap.size W W'->Rows.fnTrailNeverSpec.post enc Tryz.prog Tryz.f3 false true false false W #[v0] (.bool true) W':=fun W' hb=>
  ⟨_,_,_,[],_,[],hW',trodAll_mk1 (shut_bool Tryz.underlying4 true),trodAll_mk1 (hargs2 W' hb),rfl,hb.frame _,fun h=>by cases h⟩
 obtain⟨fuel,hf⟩:=h0
 obtain⟨a0,len,cap,rfl⟩:=okWide_slice Tryz.underlying22 (hval 0 22 v0 rfl rfl)
 have go:∀(zs:List Int) (A:Option Addr) (c:Nat),(∀n∈zs,(Lit.int .u8 n).wf=true)->zs.length<=c->(zs≠[]->∃a,A=some a/\a.block<W.heap.size/\∀i,i<zs.length->W.cell? (a.add i)=some (.int .u8 (zs.getD i 0)))->Value.slice a0 len cap=.slice A zs.length c->
   Calls Tryz.prog 3 #[.slice a0 len cap] W fun e W'=>∃v,e=.returned v/\Rows.fnTrailNeverSpec.post enc Tryz.prog Tryz.f3 false true false false W #[.slice a0 len cap] v W':=by
  intro zs A c h1 h2 h3 h4
  rw[h4]
  rw[h4]at fin
  exact(calls_of (b:=YtincoopbognogaaGreatT.bd Tryz.f3) Tryz.func3 (by kernel_rfl) (by kernel_rfl) (callDone zs h1 A c W h2 h3)).mono fun e W' ⟨he,hb⟩=>⟨_,he,fin W' hb⟩
 rcases open_ints Tryz.underlying22 Tryz.underlying5 (by kernel_rfl) hf with ⟨hcs,hx⟩|⟨a,len',cap',zs,hcs,_,hl,hm,hz,hx,hcell,hwz⟩
 ·simp[Value.cells]at hcs
  obtain⟨rfl,rfl,rfl⟩:=hcs
  exact go [] none 0 (by simp) (Nat.le_refl _) (fun h=>absurd rfl h) rfl
 ·simp[Value.cells]at hcs
  obtain⟨rfl,rfl,rfl⟩:=hcs
  simp only[Prod.mk.injEq]at hx
  obtain⟨rfl,rfl⟩:=hx
  simp only[if_true]at hz
  have hl2:(zs.take len).length=len:=by rw[List.length_take];omega
  refine go (zs.take len) (some a) cap (fun n hn=>hwz n (List.mem_of_mem_take hn)) (by omega) (fun hne=>⟨a,rfl,?_,fun i hi=>?_⟩) (by rw[hl2])
  ·have:0<zs.length:=by
    rcases zs with _|⟨z,zs⟩
    ·simp at hne
    ·simp
   exact hlt (.cell a.block a.off) (MemPlace.mem_row.2 ⟨0,by simpa using this,by simp⟩)
  ·rw[hl2]at hi
   rw[hcell i (by omega)]
   simp[List.getD,hi]
set_option maxRecDepth 100000 in
theorem lifted (os:Os) (started:os.Started) (H:Type) (enc:TypeId×Value->H):
  ReturnsInHanded {} Tryz.checked os 3 .any (Rows.fnTrailNeverSpec.pre6 enc Tryz.prog Tryz.f3 Rows.fnTrailNeverRow.domain false) (Rows.fnTrailNeverSpec.post enc Tryz.prog Tryz.f3 false true false false):=by
 refine returnsInHanded_of_change (C:=Tryz.checked) own started (by kernel_rfl) Tryz.func3
  (ChangeSpec.witness6 (enc:=enc) (C:=Tryz.checked) false ⟨#[],#[.slice none 0 0],[]⟩ 8 (by kernel_rfl) (by kernel_rfl) (by kernel_rfl) (by kernel_rfl)) ?_
 intro W base args ds gs before hval hW _ _
 exact contract H enc W base args ds gs before hval hW
theorem fnTrailNever_holds:Rows.FnTrailNeverSaid:=
 OpenClaim.holds_of_wide 3 Tryz.f3 rfl rfl rfl rfl rfl rfl rfl ⟨rfl,rfl,rfl,rfl,rfl⟩ rfl rfl rfl rfl rfl (by kernel_rfl) Tryz.func3 (by kernel_rfl)
  (of_decide_eq_true (by kernel_rfl)) (by unfold Func.isWrapper;first|(rw[if_pos (by decide +kernel)];kernel_rfl)|(rw[if_neg (by decide +kernel)];exact⟨rfl,rfl⟩))
  (fun os started H enc _=>lifted os started H enc)
end Go.Proofs.YtincoopbognogaaGreat
