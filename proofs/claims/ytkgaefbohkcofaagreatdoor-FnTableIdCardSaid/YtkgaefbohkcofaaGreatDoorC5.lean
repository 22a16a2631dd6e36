/- A part of the proof that the tied card of FnTableId, on every two slices of bytes true, holds (no conditions): rules of the walk, and what the functions compute. -/
import Derived.Carry
import Derived.ChangeSlices
import Derived.LaidMore
import Derived.Lay
import Derived.OpenShut
import Derived.ProofKit
import Derived.RowKit
import Derived.SevenTiedAt
import Derived.Stop.Joined
import Derived.Test.YtkgaefbohkcofaaGreatDoorCards
import Derived.Test.YtkgaefbohkcofaaGreatDoorRows
import Derived.Test.YtkgaefbohkcofaaGreatDoorTie
import Derived.Test.YtkgaefbohkcofaaGreatDoorC4
set_option linter.unusedVariables false
set_option linter.unusedSimpArgs false
namespace Go.Proofs.YtkgaefbohkcofaaGreatDoorT
open Go Go.Proofs
set_option maxRecDepth 100000
theorem TreeOk1 {d:Tr} (hto:treeOk d=true) (hw:d.W<2^40):PE G 16 [.agg (tcs d)] (.bool true):=by have:=TreeOk_ok d hw;rwa[hto]at this
set_option maxHeartbeats 1000000 in
theorem TabT_ok {d:Tr} (hto:treeOk d=true) (hw:d.W<2^19):PE G 26 [.sl 5 ((rowsT [] d).map rwc)] (.tup [.agg (tcs d),.bool true]):=by
 have hl:=hl_rows hw;have hn:=hn_rows hto;have hin:=inb_rows hto;have hro:=rows_ok hto;have hwf:=treeOk_wfS hto;have hn2:((rowsT [] d).drop 1).length=(rowsT [] d).length-1:=by rw[List.length_drop]
 refine Pe Tryz.func26 ?_
 refine Rr (Fn2 [0] [(2,.ptr 0 0)] ([(0,zt)]++·) 4 (Sq fun K2 hK2=>?_))
 refine Rr (Av0 2 10 [(9,.sl 5 ((rowsT [] d).map rwc))] (lnm (rowsT [] d) rwc) (Pc0 1 [] 11 (within_ok ((rowsT [] d).length:Int) 1 31) (Cn0 (!(inb ((rowsT [] d).length:Int) 1 31)) [0,2] [] ⟨fun hc4 c4=>?_,fun hc4 c4=>?_⟩)))
 simp[inb_rows hto]at hc4
 refine Sk (Jn (hK2 (Kp [0,2] (Qr [0,1,3,7,0,16,48,112,0,256,768,1792,4095,0,16383] [(0,[]),(1,[]),(2,[]),(3,[]),(4,[]),(5,[]),(6,[]),(7,[]),(8,[]),(9,[]),(10,[]),(11,[]),(12,[]),(13,[3,7,11]),(14,[])] (qAv1 2 15 [(14,.sl 5 ((rowsT [] d).map rwc))] (congrArg AV.pat (mg_rw (rowsT [] d) 0 om)) ((5=5/\(0:Int)<=0/\0<(((rowsT [] d).map rwc).length:Int))/\·) ⟨⟨rfl,om,lmo⟩,qAv1 4 19 [(18,.sl 5 ((rowsT [] d).map rwc)),(17,.bool (((rowsT [] d).getD 0 default).dir)),(16,.pat [.bool (((rowsT [] d).getD 0 default).dir),.i (((rowsT [] d).getD 0 default).mode),.str (((rowsT [] d).getD 0 default).data),.i (((rowsT [] d).getD 0 default).id)])] (congrArg AV.pat (mg_rw (rowsT [] d) 0 om)) (((1:Nat)≠0)/\(1<=4/\0<4)/\(5=5/\(0:Int)<=0/\0<(((rowsT [] d).map rwc).length:Int))/\·) ⟨dc,dc,⟨rfl,om,lmo⟩,qAv1 4 23 [(22,.sl 5 ((rowsT [] d).map rwc)),(21,.i (((rowsT [] d).getD 0 default).mode)),(20,.pat [.i (((rowsT [] d).getD 0 default).mode),.str (((rowsT [] d).getD 0 default).data),.i (((rowsT [] d).getD 0 default).id)])] (congrArg AV.pat (mg_rw (rowsT [] d) 0 om)) (((1:Nat)≠0)/\(1<=3/\0<3)/\(5=5/\(0:Int)<=0/\0<(((rowsT [] d).map rwc).length:Int))/\·) ⟨dc,dc,⟨rfl,om,lmo⟩,?_⟩⟩⟩)))))
 refine qFn3 [0,2] [(4,.ptr 4 0)] ([(4,[.bool (((rowsT [] d).getD 0 default).dir),.i (((rowsT [] d).getD 0 default).mode),.str (((rowsT [] d).getD 0 default).data),.nils,.nils])]++·) 8 (fun Z=>((1:Nat)≠0)/\(1<=2/\0<2)/\(((1<=4/\0<4)/\(AV.bool (((rowsT [] d).getD 0 default).dir)=(.bool (((rowsT [] d).getD 0 default).dir):AV)))/\((1<=3/\0<3)/\(AV.int .i64 (((rowsT [] d).getD 0 default).mode)=(.i (((rowsT [] d).getD 0 default).mode):AV)))/\((1<=2/\0<2)/\(AV.str (((rowsT [] d).getD 0 default).data)=(.str (((rowsT [] d).getD 0 default).data):AV)))/\True)/\(true=true/\5=5/\0+5<=5)/\(True)/\Z) ⟨dc,dc,⟨⟨dc,rfl⟩,⟨dc,rfl⟩,⟨dc,rfl⟩,trivial⟩,dc,trivial,Sq fun K6 hK6=>?_⟩
 refine Rr (Av1 (r:=.sl 5 ((((rowsT [] d).map rwc).take (((rowsT [] d).map rwc).length)).drop 1)) (v:=.sl 5 (((rowsT [] d).drop 1).map rwc)) 2 28 [(27,.sl 5 ((rowsT [] d).map rwc))] (congrArg (AV.sl 5) (slm_all _ _ _)) ((5=5/\0<=(1:Int)/\(1:Int)<=(((rowsT [] d).map rwc).length:Int)/\(((rowsT [] d).map rwc).length:Int)<=(((rowsT [] d).map rwc).length:Int))/\·) ⟨⟨rfl,om,lmo,om⟩,Av0 1 29 [] (lnm ((rowsT [] d).drop 1) rwc) (Fn0 [0,2,4,28,29] [(30,.i 0)] (Bl ?_))⟩)
 refine Hn ((4,[.bool (((rowsT [] d).getD 0 default).dir),.i (((rowsT [] d).getD 0 default).mode),.str (((rowsT [] d).getD 0 default).data),.nils,.nils])::(0,zt)::[]) (h_pm (H':=((0,zt)::(4,[.bool (((rowsT [] d).getD 0 default).dir),.i (((rowsT [] d).getD 0 default).mode),.str (((rowsT [] d).getD 0 default).data),.nils,.nils])::[])) (List.Perm.swap _ _ _) (h_k [0,2,4,28,29,30] (F':=[(0,.sl 5 ((rowsT [] d).map rwc)),(2,.ptr 0 0),(4,.ptr 4 0),(28,.sl 5 (((rowsT [] d).drop 1).map rwc)),(29,.i (((rowsT [] d).drop 1).length:Int)),(30,.i 0)]) kr (h_odd (H:=[(0,zt),(4,[.bool (((rowsT [] d).getD 0 default).dir),.i (((rowsT [] d).getD 0 default).mode),.str (((rowsT [] d).getD 0 default).data),.nils,.nils])]) 4 (fun jr=>[(0,.sl 5 ((rowsT [] d).map rwc)),(2,.ptr 0 0),(4,.ptr (2*jr+1) 0),(28,.sl 5 (((rowsT [] d).drop 1).map rwc)),(29,.i (((rowsT [] d).drop 1).length:Int)),(30,.i 0)]) (fun jr=>[(0,zt),((2*jr+1),[.bool (((rowsT [] d).getD 0 default).dir),.i (((rowsT [] d).getD 0 default).mode),.str (((rowsT [] d).getD 0 default).data),.nils,.nils])]) kr trivial (fun jr=>⟨by simp only[slF,slp,slps,go_sem,and_self],kr⟩) (fun jr=>⟨rfl,.inr ⟨by simp only[tcs,slps,slp,go_sem,and_self],kr⟩,rfl,.inr ⟨by simp only[tcs,slps,slp,go_sem,and_self],kr⟩,trivial⟩) (fun jr=>?_))))
 have hL0:Lies [(2*jr+1,[.bool ((rowsT [] d).getD 0 default).dir,.i ((rowsT [] d).getD 0 default).mode,.str ((rowsT [] d).getD 0 default).data,.nils,.nils])] (2*jr+1) [] [] (.mk ((rowsT [] d).getD 0 default).dir ((rowsT [] d).getD 0 default).mode ((rowsT [] d).getD 0 default).data none [] []) []:=⟨⟨om,⟨trivial,trivial,trivial,trivial,trivial,trivial⟩,trivial⟩,om,List.Perm.refl _,rfl,(shp_eq _).2 ⟨fun _=>⟨rfl,rfl⟩,trivial⟩,(osm_eq _).2 ⟨by simp only[OT.names_mk,List.length_nil];omega,trivial⟩⟩
 have he0:er (.mk ((rowsT [] d).getD 0 default).dir ((rowsT [] d).getD 0 default).mode ((rowsT [] d).getD 0 default).data none [] [])=lf0 d:=by rw[row0];rfl
 refine h_ls (fun(x:Nat×OT×Hp×Hp)=>(match x with|(k,T,Z,W)=>([(0,.sl 5 ((rowsT [] d).map rwc)),(2,.ptr 0 0),(4,.ptr (2*jr+1) 0),(28,.sl 5 (((rowsT [] d).drop 1).map rwc)),(29,.i (((rowsT [] d).drop 1).length:Int)),(30,.i k)]:Fr))) (fun(x:Nat×OT×Hp×Hp)=>(match x with|(k,T,Z,W)=>(((0,zt)::Z):Hp))) (fun(x:Nat×OT×Hp×Hp) cn=>(match x with|(k,T,Z,W)=>(Lies Z (2*jr+1) [] [] T W/\okS (er T) (((rowsT [] d).drop 1).drop k)/\(((rowsT [] d).drop 1).drop k).foldl pst (er T)=d/\k<=((rowsT [] d).drop 1).length)/\cn=8)) (fun(x:Nat×OT×Hp×Hp)=>((rowsT [] d).drop 1).length-x.1) (0,OT.mk ((rowsT [] d).getD 0 default).dir ((rowsT [] d).getD 0 default).mode ((rowsT [] d).getD 0 default).data none [] [],[(2*jr+1,[.bool ((rowsT [] d).getD 0 default).dir,.i ((rowsT [] d).getD 0 default).mode,.str ((rowsT [] d).getD 0 default).data,.nils,.nils])],[]) kr ?_ ?_ ?_ ?_
 refine⟨?_,rfl⟩;exact⟨hL0,by rw[he0];exact hro.1,by rw[he0];exact hro.2,Nat.zero_le _⟩
 exact⟨kr,kr,kr,kr,kr,kr,trivial⟩
 exact(sub_c kr (List.Sublist.refl _))
 rintro⟨k,T,Z,W⟩ n1 hI
 (try dsimp only at hI)
 obtain⟨⟨hL,hS,hE,hk⟩,rfl⟩:=hI
 refine Rr (Fn1 [0,2,4,28,29,30] [(31,.bool (decide ((k:Int)<(((rowsT [] d).drop 1).length:Int))))] (Ki/\·) ⟨rfl,Sq fun K9 hK9=>?_⟩)
 refine Cc (decide ((k:Int)<(((rowsT [] d).drop 1).length:Int))) (fun hc10 c10=>?_) fun hc10 c10=>?_
 refine Sk (Jn (hK9 (Kp [0,2,4,28,29,30] (Sq fun K11 hK11=>?_))))
 refine Bl ?_
 have hgl:=hl _ (List.mem_of_mem_drop (getD_mem ((rowsT [] d).drop 1) k default om))
 obtain⟨⟨hne,u',hu',ha'⟩,hS2⟩:okS (er T) ((((rowsT [] d).drop 1).getD k default)::((rowsT [] d).drop 1).drop (k+1)):=by rw[<-dropR _ k om];exact hS
 have hE2:(((rowsT [] d).drop 1).drop (k+1)).foldl pst (pst (er T) (((rowsT [] d).drop 1).getD k default))=d:=by rw[dropR _ k om]at hE;exact hE
 have hpl:0<(((rowsT [] d).drop 1).getD k default).path.length:=List.length_pos_iff.2 hne
 refine Rr (Av1 1 32 [] (congrArg AV.pat (mg_rw ((rowsT [] d).drop 1) k om)) (fun Z=>(5=5/\(0:Int)<=(k:Int)/\(k:Int)<(((((rowsT [] d).drop 1).map rwc).length:Nat):Int))/\Z) ⟨⟨rfl,om,lmo⟩,Fn3 [0,2,4,28,29,30] [(6,.ptr 8 0)] ([(8,rwc (((rowsT [] d).drop 1).getD k default))]++·) 12 ((5<=5/\0<5)/\(true=true/\5=5/\0+5<=5)/\·) ⟨dc,dc,Sq fun K13 hK13=>?_⟩⟩)
 refine Rr (Av1 3 36 [(35,pth ((((rowsT [] d).drop 1).getD k default).path)),(34,.ptr 8 0)] (lnm ((((rowsT [] d).drop 1).getD k default).path) sc) (((1:Nat)≠0)/\(0+1<=5/\0<5)/\·) ⟨dc,dc,Cn1 (decide (((((((rowsT [] d).drop 1).getD k default).path).length:Nat):Int)=0)) [0,2,4,6,28,29,30] [] (Ki/\·) ⟨rfl,fun hc15 c15=>?_,fun hc15 c15=>?_⟩⟩)
 omega
 refine Sk (Jn (hK13 (Kp [0,2,4,6,28,29,30] (Rr (Av1 3 41 [(40,pth ((((rowsT [] d).drop 1).getD k default).path)),(39,.ptr 8 0)] (lnm ((((rowsT [] d).drop 1).getD k default).path) sc) (((1:Nat)≠0)/\(0+1<=5/\0<5)/\·) ⟨dc,dc,Av1 (r:=.i (IntKind.i64.wrap (((((((rowsT [] d).drop 1).getD k default).path).length:Nat):Int)-1))) (v:=.i (((((((rowsT [] d).drop 1).getD k default).path).length:Nat):Int)-1)) 1 42 [] (cI (wrap64 om om)) (Ki/\·) ⟨rfl,Fn0 [0,2,4,6,28,29,30] [(7,.i (((((((rowsT [] d).drop 1).getD k default).path).length:Nat):Int)-1))] ?_⟩⟩)))))
 refine Rr (Av1 (r:=.sl 1 (((((((rowsT [] d).drop 1).getD k default).path).map (fun s=>[AV.str s])).take ((((((((rowsT [] d).drop 1).getD k default).path).length:Nat):Int)-1).toNat)).drop 0)) (v:=pth (((((rowsT [] d).drop 1).getD k default).path).take ((((((((rowsT [] d).drop 1).getD k default).path).length:Nat):Int)-1).toNat))) 4 46 [(45,.i (((((((rowsT [] d).drop 1).getD k default).path).length:Nat):Int)-1)),(44,pth ((((rowsT [] d).drop 1).getD k default).path)),(43,.ptr 8 0)] (congrArg (AV.sl 1) (slm_0 _ _ _)) (fun Z=>((1:Nat)≠0)/\(0+1<=5/\0<5)/\(1=1/\0<=(0:Int)/\(0:Int)<=(((((((rowsT [] d).drop 1).getD k default).path).length:Nat):Int)-1)/\(((((((rowsT [] d).drop 1).getD k default).path).length:Nat):Int)-1)<=(((((((rowsT [] d).drop 1).getD k default).path).map (fun s=>[AV.str s])).length:Nat):Int))/\Z) ⟨dc,dc,⟨rfl,om,by(try rw[List.length_map]);omega,lmo⟩,Bc0 1 [] 53 [.ptr (2*jr+1) 0,pth (((((rowsT [] d).drop 1).getD k default).path).take ((((((((rowsT [] d).drop 1).getD k default).path).length:Nat):Int)-1).toNat))] 47 ?_⟩)
 have hq:(((((rowsT [] d).drop 1).getD k default).path).take ((((((((rowsT [] d).drop 1).getD k default).path).length:Nat):Int)-1).toNat))=upP (((rowsT [] d).drop 1).getD k default):=by unfold upP;congr 1;omega
 obtain⟨uo,huo,hue⟩:∃uo,oat T (upP (((rowsT [] d).drop 1).getD k default))=some uo/\er uo=u':=by
   rw[tat_er]at hu'
   cases hx:oat T (upP (((rowsT [] d).drop 1).getD k default))with
   |none=>rw[hx]at hu';cases hu'
   |some uo=>rw[hx]at hu';exact⟨uo,rfl,by simpa using hu'⟩
 obtain⟨io,Ao,Bo,Wo,ho,hio,hpo,hno,hso,hro⟩:=hL.foc huo
 rw[hq]
 refine DC.use (at_ok (A0:=[]) (B0:=[]) (upP (((rowsT [] d).drop 1).getD k default)) hL (by unfold upP;rw[List.length_take];omega)) [(8,rwc (((rowsT [] d).drop 1).getD k default)),(0,zt)] rfl ⟨rfl,⟨rfl,trivial⟩⟩ ?_
 rintro _ _ ⟨e1,rfl⟩
 rw[e1,ho,show oad (some (io,Ao.length))=.ptr io Ao.length from rfl]
 refine Ke (Fn0 [0,2,4,6,7,28,29,30] [(8,.ptr io Ao.length)] (Sq fun K18 hK18=>?_))
 refine Rr (Fn1 [0,2,4,6,7,8,28,29,30] [(49,.bool false)] ((∃e,TK.ptr 26=TK.ptr e)/\·) ⟨⟨_,rfl⟩,Cf (Sk (Jn (hK18 (Kp [0,2,4,6,7,8,28,29,30] (Qb [0,0,2,0,14,30,0,64,0,256,0,1024,4032,8191] [(0,[]),(1,[]),(2,[]),(3,[]),(4,[]),(5,[]),(6,[]),(7,[]),(8,[]),(9,[]),(10,[]),(11,[]),(12,[]),(13,[])] (fun h=>Bn (Jn (hK11 h))) ?_)))))⟩)
 refine qAv1 5 55 [(54,.i (((((((rowsT [] d).drop 1).getD k default).path).length:Nat):Int)-1)),(53,pth ((((rowsT [] d).drop 1).getD k default).path)),(52,.ptr 8 0),(51,.ptr io Ao.length)] (congrArg AV.pat (mg_str ((((rowsT [] d).drop 1).getD k default).path) ((((((((rowsT [] d).drop 1).getD k default).path).length:Nat):Int)-1).toNat) om)) (fun Z=>((1:Nat)≠0)/\(0+1<=5/\0<5)/\(1=1/\(0:Int)<=(((((((rowsT [] d).drop 1).getD k default).path).length:Nat):Int)-1)/\(((((((rowsT [] d).drop 1).getD k default).path).length:Nat):Int)-1)<(((((((rowsT [] d).drop 1).getD k default).path).map (fun s=>[AV.str s])).length:Nat):Int))/\Z) ⟨dc,dc,⟨rfl,om,lmo⟩,qBc1 9 [(63,.agg [.bool ((((rowsT [] d).drop 1).getD k default).dir),.i ((((rowsT [] d).drop 1).getD k default).mode),.str ((((rowsT [] d).drop 1).getD k default).data),.nils,.nils]),(62,.str ((((rowsT [] d).drop 1).getD k default).data)),(61,.ptr 8 3),(60,.i ((((rowsT [] d).drop 1).getD k default).mode)),(59,.ptr 8 2),(58,.bool ((((rowsT [] d).drop 1).getD k default).dir)),(57,.ptr 8 1),(56,.str (((((rowsT [] d).drop 1).getD k default).path).getD ((((((((rowsT [] d).drop 1).getD k default).path).length:Nat):Int)-1).toNat) default))] [] 54 [.ptr io Ao.length,.str (((((rowsT [] d).drop 1).getD k default).path).getD ((((((((rowsT [] d).drop 1).getD k default).path).length:Nat):Int)-1).toNat) default),.agg [.bool ((((rowsT [] d).drop 1).getD k default).dir),.i ((((rowsT [] d).drop 1).getD k default).mode),.str ((((rowsT [] d).drop 1).getD k default).data),.nils,.nils]] 64 ((1<=1/\0<1)/\((1:Nat)≠0)/\(1+1<=5/\1<5)/\((1:Nat)≠0)/\(2+1<=5/\2<5)/\((1:Nat)≠0)/\(3+1<=5/\3<5)/\·) ⟨dc,dc,dc,dc,dc,dc,dc,?_⟩⟩
 have hnm:(((((rowsT [] d).drop 1).getD k default).path).getD ((((((((rowsT [] d).drop 1).getD k default).path).length:Nat):Int)-1).toNat) default)=lastP (((rowsT [] d).drop 1).getD k default):=by unfold lastP;congr 1;omega
 refine DC.use (putA (A0:=[]) (B0:=[]) (((((rowsT [] d).drop 1).getD k default).path).getD ((((((((rowsT [] d).drop 1).getD k default).path).length:Nat):Int)-1).toNat) default) ((((rowsT [] d).drop 1).getD k default).dir) ((((rowsT [] d).drop 1).getD k default).mode) ((((rowsT [] d).drop 1).getD k default).data) hL huo ho (by rw[hnm,<-er_names,hue];exact ha')) [(8,rwc (((rowsT [] d).drop 1).getD k default)),(0,zt)] rfl ⟨rfl,⟨rfl,trivial⟩⟩ ?_
 rintro rr Z1 ⟨T1,hZ1,he1,hs1⟩
 have hpk:=pst_ok hL.wf hu'
 have he2:er T1=pst (er T) (((rowsT [] d).drop 1).getD k default):=by rw[he1,hpk.1,hue,hnm];rfl
 have hW2:=okS_W _ _ hpk.2.1 hS2
 rw[hE2]at hW2
 have hL1:Lies Z1 (2*jr+1) [] [] T1 W:=hZ1.lies hL.r1 (by unfold owf;rw[he2];exact hpk.2.1) hs1 (by rw[he2];omega)
 refine Kq (p:=(True)) trivial ?_
 refine qFn0 [0,2,4,28,29,30] [] (Rn (Av1 1 65 [] (cI (wn1 k om)) (Ki/\·) ⟨rfl,Gn0 [(30,.i ((k+1:Nat):Int))] (nk_n ?_)⟩))
 refine lsz_mk3 (k+1,T1,Z1,W) [(0,0)] 8 [(0,.sl 5 ((rowsT [] d).map rwc)),(2,.ptr 0 0),(4,.ptr (2*jr+1) 0),(28,.sl 5 (((rowsT [] d).drop 1).map rwc)),(29,.i (((rowsT [] d).drop 1).length:Int)),(30,.i ((k+1:Nat):Int))] [(0,zt)] [(0,zt)] Z1 ?_ ?_ ⟨kr,kr⟩ ⟨kr,kr,kr,kr,kr,kr,trivial⟩ ⟨_,List.Perm.refl _,(List.Sublist.cons _ (List.Sublist.cons_cons _ (List.Sublist.refl _)))⟩ ⟨rfl,.inl ⟨kr,by simp only[slF,slp,slps,go_sem,and_self]⟩,rfl,.inl ⟨kr,by simp only[slF,slp,slps,go_sem,and_self]⟩,rfl,.inr ⟨kr,(show(2*jr+1)%2=1 by omega)⟩,rfl,.inl ⟨kr,by simp only[slF,slp,slps,go_sem,and_self]⟩,rfl,.inl ⟨kr,by simp only[slF,slp,slps,go_sem,and_self]⟩,rfl,.inl ⟨kr,by simp only[slF,slp,slps,go_sem,and_self]⟩,trivial⟩ ⟨rfl,.inl (.inr ⟨by simp only[slps,slp,go_sem,and_self],kr⟩),trivial⟩ kr hL1.odd
 (try dsimp only);omega
 refine⟨?_,rfl⟩;exact⟨hL1,by rw[he2];exact hS2,by rw[he2];exact hE2,om⟩
 refine Xt (Jx (Lsx (Bh (Jn (hK6 (Kp [0,2,4] (Sq fun K20 hK20=>?_)))))))
 refine h_k [4,0,2] (F':=[(4,.ptr (2*jr+1) 0),(0,.sl 5 ((rowsT [] d).map rwc)),(2,.ptr 0 0)]) kr ?_
 have hTd:er T=d:=by rw[List.drop_eq_nil_of_le om]at hE;exact hE
 refine h_dfz (k:=4) (H':=[(0,zt)]) (Z:=Z) hL.perm hL.shp ?_
 rw[hTd]
 refine Rr (Pc1 2 [(66,.agg (tcs d))] 67 (5<=5/\0<5) dc (TreeOk1 hto om) (Pc1 4 [(70,.agg (tcs d)),(69,.bool false),(68,.bool false)] 71 (5<=5/\0<5) dc (table_ok d hwf om) (Pc0 2 [(72,.sl 5 ((rowsT [] d).map rwc))] 73 (eqR_ok (rowsT [] d) hl om) (Fn0 [2,4] [(75,.bool false)] ?_))))
 refine Cf (Sk (Jn (hK20 (Kp [2,4] (Rr (Pc1 2 [(77,.agg (tcs d))] 78 (5<=5/\0<5) dc (clonep_ok _ d rfl om) (Fn3 [2] [(3,.bool true)] (Hw [(0,tcs d)] [] ·) 8 ((true=true/\5=5/\0+5<=5)/\·) ⟨dc,?_⟩)))))))
 refine Rt1 ((0+5<=5/\0<5)/\·) (.tup [.agg (tcs d),.bool true]) ⟨dc,?_⟩
 exact fin_lea (lea_refl _)
theorem TabF_ok {d:Tr} (p:List Str) (hto:treeOk d=true) (hw:d.W<2^19) (hp:p.length<2^40):PE G 13 [.sl 5 ((rowsT [] d).map rwc),pth p] (.i (idxR p 0 (rowsT [] d))):=by
 have hl:=hl_rows hw;have hn:=hn_rows hto
 refine Pe Tryz.func13 ?_
 refine Rr (Fn2 [0] [(3,.ptr 0 0)] ([(0,[pth p])]++·) 4 (Sq fun K2 hK2=>?_))
 refine Rr (Pc0 2 [(8,.sl 5 ((rowsT [] d).map rwc))] 9 (TabT_ok hto hw) (Fn3 [0,3] [(6,.bool true)] ([(4,tcs d)]++·) 8 ((0<2)/\(1<2)/\(true=true/\5=5/\0+5<=5)/\·) ⟨dc,dc,dc,Rr (Fn0 [0,3] [(13,.bool false)] ?_)⟩))
 refine Cf (Sk (Jn (hK2 (Kp [0,3] (Rr (Bc0 3 [(15,.fn (.func 28) [.ptr 0 0]),(14,.sl 5 ((rowsT [] d).map rwc))] 27 [.sl 5 ((rowsT [] d).map rwc),.fn (.func 28) [.ptr 0 0]] 16 (Tz 0 1 1 ([[pth p]]) ([pth p]) [.sl 5 ((rowsT [] d).map rwc),.fn (.func 28) [.pat [pth p]]] [(4,tcs d)] [true] kr (by first|decide|simp) ?_)))))))
 refine PE.use (idR_ok p (rowsT [] d) hl om hp) ?_
 refine Ke (Fn0 [] [(4,.i (idxR p 0 (rowsT [] d)))] (Rt (.i (idxR p 0 (rowsT [] d))) ?_))
 exact fin_lea (lea_refl _)
theorem rowsK_in {q:List Str} {r:Rw}:∀(ns:List Str) (ks:List Tr) (k:Nat),k<ns.length->k<ks.length->r∈rowsT (q++[ns.getD k default]) (ks.getD k default)->r∈rowsK q ns ks
 |n::ns,t::ks,0,_,_,h=>by rw[rowsK];exact List.mem_append_left _ h
 |n::ns,t::ks,k+1,h1,h2,h=>by
  rw[rowsK];exact List.mem_append_right _ (rowsK_in ns ks k (by simpa using h1) (by simpa using h2) h)
 |[],_,_,h1,_,_=>by simp at h1
 |_::_,[],_,_,h2,_=>by simp at h2
theorem rowsK_of {q:List Str} {r:Rw}:∀(ns:List Str) (ks:List Tr),r∈rowsK q ns ks->∃k,k<ns.length/\k<ks.length/\r∈rowsT (q++[ns.getD k default]) (ks.getD k default)
 |n::ns,t::ks,h=>by
  rw[rowsK]at h
  rcases List.mem_append.1 h with h|h
  ·exact⟨0,by simp,by simp,h⟩
  ·obtain⟨k,h1,h2,h3⟩:=rowsK_of ns ks h
   exact⟨k+1,by simpa using h1,by simpa using h2,h3⟩
 |[],_,h=>by simp[rowsK]at h
 |_::_,[],h=>by simp[rowsK]at h
theorem rows_has:∀(p q:List Str) (t x:Tr),t.wf=true->tat t p=some x->rowOf (q++p) x∈rowsT q t
 |[],q,t,x,_,h=>by
  simp only[tat,Option.some.injEq]at h
  subst h;rw[rowsT_eq,List.append_nil];simp
 |n::p,q,t,x,hw,h=>by
  rw[tat_cons]at h
  cases hf:fnd n t.names with
  |none=>rw[hf]at h;cases h
  |some k=>
   rw[hf]at h
   have h1:=fnd_lt hf
   have hk:k<t.kids.length:=by rw[<-wf_len hw];exact h1
   have:=rows_has p (q++[n]) _ x (wf_kid hw hk _) h
   rw[rowsT_eq]
   refine List.mem_append_right _ (rowsK_in _ _ k h1 hk ?_)
   rw[fnd_some hf]
   rwa[List.append_assoc]at this
theorem rows_of:∀(N:Nat) (q:List Str) (t:Tr) (r:Rw),t.W=N->srt t->r∈rowsT q t->∃p x,r=rowOf (q++p) x/\tat t p=some x:=by
 intro N
 refine Nat.strongRecOn N fun N ih=>?_
 intro q t r hN hs h
 rw[rowsT_eq]at h
 rcases List.mem_append.1 h with h|h
 ·simp only[List.mem_singleton]at h
  exact⟨[],t,by rw[h,List.append_nil],rfl⟩
 ·obtain⟨k,h1,h2,h3⟩:=rowsK_of _ _ h
  have hn:=asc_nd (hs.2 [] t rfl)
  have hW:(t.kids.getD k .none).W<=Tr.Ws t.kids:=Ws_get t.kids k h2
  have hW2:=W_eq t
  obtain⟨p,x,e1,e2⟩:=ih _ (by omega) _ _ r rfl (srt_kid hs hn h2) h3
  refine⟨t.names.getD k default::p,x,by rw[e1,List.append_assoc];rfl,?_⟩
  rw[tat_cons,fnd_at hn h1]
  exact e2
theorem idxR_is:∀(l:List Rw) (p:List Str) (i:Nat),(∃r∈l,r.path=p)->∃k,k<l.length/\idxR p i l=((i+k:Nat):Int)/\(l.getD k default).path=p
 |[],_,_,⟨_,h,_⟩=>by simp at h
 |x::l,p,i,h=>by
  cases hx:x.path==p with
  |true=>exact⟨0,by simp,by rw[idxR,hx];rfl,by simpa using hx⟩
  |false=>
   obtain⟨r,hr,hp⟩:=h
   have:r∈l:=by
    rcases List.mem_cons.1 hr with rfl|h
    ·rw[hp]at hx;simp at hx
    ·exact h
   obtain⟨k,h1,h2,h3⟩:=idxR_is l p (i+1) ⟨r,this,hp⟩
   exact⟨k+1,by simpa using h1,by rw[idxR,hx,cond_false,h2];congr 1;omega,h3⟩
theorem idx_id {t x:Tr} {p:List Str} (ht:treeOk t=true) (h:tat t p=some x):0<=idxR p 0 (rowsT [] t)/\idxR p 0 (rowsT [] t)<(((rowsT [] t).length:Nat):Int)/\((rowsT [] t).getD (idxR p 0 (rowsT [] t)).toNat default).id=((idF (shwT [] x):Nat):Int):=by
 have hs:=srt_ok ht
 have hm:=rows_has p [] t x hs.1 h
 obtain⟨k,h1,h2,h3⟩:=idxR_is (rowsT [] t) p 0 ⟨_,hm,rfl⟩
 rw[Nat.zero_add]at h2
 rw[h2]
 refine⟨by omega,by omega,?_⟩
 rw[Int.toNat_natCast]
 obtain⟨p',x',e1,e2⟩:=rows_of _ [] t _ rfl hs (getD_mem (rowsT [] t) k default h1)
 rw[e1]at h3⊢
 simp only[rowOf,List.nil_append]at h3⊢
 subst h3
 rw[h]at e2;cases e2;rfl
theorem ren_at {t:Tr} {c:Cl} (ht:treeOk t=true) (hc:callOk c=true) (h:(sDo t c).2=0) (hk:c.kind=5):∃x,tat t c.path=some x/\tat (sDo t c).1 c.to=some x/\treeOk (sDo t c).1=true:=by
 obtain⟨_,d2,d3⟩:=done5 ht hc h hk
 have hP:=par0 h
 have es:sDo t c=sRename t c:=by unfold sDo;rw[decide_eq_true hP,hk];rfl
 cases hx:tat t c.path with
 |none=>rw[es]at h;unfold sRename at h;rw[hx]at h;cases h
 |some x=>
  rw[tAt_some ht hx]at d3
  unfold tAt at d2 d3
  cases hy:treeOk (sDo t c).1 with
  |false=>rw[hy]at d2;cases d2
  |true=>
   rw[hy]at d2 d3
   simp only[cond_true]at d2 d3
   cases hz:tat (sDo t c).1 c.to with
   |none=>rw[hz]at d2;cases d2
   |some z=>
    unfold xat at d3
    rw[hz]at d3
    exact⟨x,rfl,by rw[<-d3];rfl,rfl⟩
theorem tab_ok {t:Tr} (h:treeOk t=true):tabOf t=rowsT [] t/\tidOf t=((idF (shwT [] t):Nat):Int):=by
 unfold tabOf tidOf;rw[h];exact⟨rfl,rfl⟩
theorem tab_hl {t:Tr} (hw:t.W<2^19):(∀x∈tabOf t,x.path.length<2^40)/\(tabOf t).length<2^40:=by
 unfold tabOf
 cases h:treeOk t with
 |false=>exact⟨fun x hx=>by simp at hx,by simp⟩
 |true=>exact⟨hl_rows hw,by have:=hn_rows h;simp only[cond_true];omega⟩
theorem law_id {t:Tr} {c:Cl} (ht:treeOk t=true) (hc:callOk c=true) (h:(sDo t c).2=0) (hk:c.kind=5):
  treeOk (sDo t c).1=true/\(0<=idxR c.path 0 (rowsT [] t)/\idxR c.path 0 (rowsT [] t)<(((rowsT [] t).length:Nat):Int))/\(0<=idxR c.to 0 (rowsT [] (sDo t c).1)/\idxR c.to 0 (rowsT [] (sDo t c).1)<(((rowsT [] (sDo t c).1).length:Nat):Int))/\
   ((rowsT [] t).getD (idxR c.path 0 (rowsT [] t)).toNat default).id=((rowsT [] (sDo t c).1).getD (idxR c.to 0 (rowsT [] (sDo t c).1)).toNat default).id:=by
 obtain⟨x,h1,h2,h3⟩:=ren_at ht hc h hk
 obtain⟨a1,a2,a3⟩:=idx_id ht h1
 obtain⟨b1,b2,b3⟩:=idx_id h3 h2
 exact⟨h3,⟨a1,a2⟩,⟨b1,b2⟩,by rw[a3,b3]⟩
theorem W_sT (t:Tr) (c:Cl) (B:Nat) (hB:2^10<=B) (ht:t.W<B):(sTreeDo t c).1.W<B:=by
 have hp:=W_pos t
 unfold sTreeDo
 cases h:treeOk t<;>simp only[Bool.not_true,Bool.not_false,cond_true,cond_false]
 ·rw[W_none];omega
 ·cases h2:callOk c<;>simp only[Bool.not_true,Bool.not_false,cond_true,cond_false]
  ·exact ht
  ·rw[<-aDo_sDo h h2]
   unfold aDo
   cases callOk c<;>simp only[Bool.not_true,Bool.not_false,cond_true,cond_false]
   ·exact ht
   cases decide ((iDo t c).2=(0:Int))<;>simp only[Bool.not_true,Bool.not_false,cond_true,cond_false]
   ·exact ht
   cases h3:treeOk (iDo t c).1<;>simp only[Bool.not_true,Bool.not_false,cond_true,cond_false]
   ·exact ht
   ·have:=W_ok h3;omega
theorem done0 {t:Tr} {c:Cl} (h:(sTreeDo t c).2=0):(sTreeDo t c).2=0/\treeOk t=true/\callOk c=true/\sTreeDo t c=sDo t c:=by
 have h0:=h
 unfold sTreeDo at h
 cases h1:treeOk t with
 |false=>rw[h1]at h;simp at h
 |true=>
  cases h2:callOk c with
  |false=>rw[h1,h2]at h;simp at h
  |true=>exact⟨h0,rfl,rfl,by unfold sTreeDo;rw[h1,h2];rfl⟩
open Go Go.Proofs
set_option maxRecDepth 100000
theorem TabM1 {d:Tr} (hto:treeOk d=true) (hw:d.W<2^19):PE G 6 [.agg (tcs d)] (.sl 5 ((rowsT [] d).map rwc)):=by have:=iTM_ok d hw;rwa[(tab_ok hto).1]at this
theorem tab_z {d:Tr} (h:treeOk d=true):0<(tabOf d).length/\((tabOf d).getD 0 default).id=tidOf d:=by
  obtain⟨e1,e2⟩:=tab_ok h
  rw[e1,e2,row0]
  exact⟨(hn_rows h).1,rfl⟩
theorem DrawTableId_ok (X:Str) (hX:X.length<2^40):PC G 4 [.sl 1 (X.map fun c=>[AV.int .u8 (c.toNat:Int)])] (fun r=>∃t:Tr,r=.agg (tcs t)/\t.W<2^13):=by
 refine h_pc (F:=[(0,.sl 1 (X.map fun c=>[AV.int .u8 (c.toNat:Int)]))]) (by simp only[go_sem]) Tryz.func4 kr kr ?_ kr
 refine Rr (Fn2 [0] [(2,.ptr 0 0)] ([(0,zt)]++·) 4 (Rr (Bc0 2 [(3,.sl 1 (X.map fun c=>[AV.int .u8 (c.toNat:Int)]))] 15 [.sl 1 (X.map fun c=>[AV.int .u8 (c.toNat:Int)])] 4 (op_use (l1Open_ok X om) fun bb hbb=>?_))))
 refine Ke (Bc0 1 [] 14 [.ptr 4 0] 5 (RC.use (l4Any_ok bb 0 om om) kr fun r q4 hr=>?_));obtain⟨x3,h1x3,rfl,h3x3⟩:=hr
 refine Ke (Fn3 [2] [] (Hw [(0,tcs x3)] [] ·) 8 ((true=true/\5=5/\0+5<=5)/\·) ⟨dc,Rt1 ((0+5<=5/\0<5)/\·) (.agg (tcs x3)) ⟨dc,⟨[],List.nil_sublist _,_,lea_refl _,⟨x3,rfl,om⟩,by simp only[go_sem]⟩⟩⟩)
set_option maxHeartbeats 2000000 in
theorem FnTableId_ok (X Y:Str):PE G 3 [.sl 1 (X.map fun c=>[AV.int .u8 (c.toNat:Int)]),.sl 1 (Y.map fun c=>[AV.int .u8 (c.toNat:Int)])] (.bool true):=by
 refine Pe Tryz.func3 ?_
 refine Rr (Fn0 [0,1] [] (Sq fun K2 hK2=>?_))
 refine Rm 23 ((decide ((1048576:Int)<((X.length:Int):Int)))||(decide ((1048576:Int)<((Y.length:Int):Int)))) [0,1] ?_ ?_
 refine Av0 2 17 [(16,.sl 1 (X.map fun c=>[AV.int .u8 (c.toNat:Int)]))] (lnm X uc) (An1 2 [(19,.bool (decide ((1048576:Int)<((X.length:Int):Int)))),(18,.bool (decide ((1048576:Int)<((X.length:Int):Int))))] (Ki/\·) ⟨rfl,Rg (fun hg4 g4=>?_) (fun hg4 g4=>?_)⟩)
 refine Mn0 true (by rw[hg4];rfl)
 refine Av0 2 21 [(20,.sl 1 (Y.map fun c=>[AV.int .u8 (c.toNat:Int)]))] (lnm Y uc) (Mn1 (decide ((1048576:Int)<((Y.length:Int):Int))) (Ki/\·) ⟨rfl,(by rw[hg4];rfl)⟩)
 refine Cc ((decide ((1048576:Int)<((X.length:Int):Int)))||(decide ((1048576:Int)<((Y.length:Int):Int)))) (fun hc5 c5=>?_) fun hc5 c5=>?_
 refine Rr (Fn0 [] [(4,.bool true)] (Rt (.bool true) ?_))
 exact fin_lea (lea_refl _)
 refine Sk (Jn (hK2 (Kp [0,1] (Rr (Bc0 2 [(24,.sl 1 (X.map fun c=>[AV.int .u8 (c.toNat:Int)]))] 4 [.sl 1 (X.map fun c=>[AV.int .u8 (c.toNat:Int)])] 25 (PC.use (DrawTableId_ok X om) fun r hr=>?_))))))
 obtain⟨d,rfl,hd⟩:=hr
 obtain⟨hl,hn⟩:=tab_hl (t:=d) om
 refine Ke (Fn3 [1] [(5,.ptr 0 0)] ([(0,tcs d)]++·) 4 ((true=true/\5=5/\0+5<=5)/\·) ⟨dc,Rr (Pc1 2 [(26,.agg (tcs d))] 27 (0+5<=5/\0<5) dc (iTI_ok d om) (Fn0 [1,5] [(6,.i (tidOf d))] ?_))⟩)
 refine Rr (Pc1 2 [(28,.agg (tcs d))] 29 (0+5<=5/\0<5) dc (iTM_ok d om) (Fn0 [1,5,6] [(7,.sl 5 ((tabOf d).map rwc))] (Sq fun K10 hK10=>?_)))
 refine Rj [(1,.sl 1 (Y.map fun c=>[AV.int .u8 (c.toNat:Int)])),(57,.bool false)] [(0,tcs d)] 4 (fun K11 hK11=>?_) ?_
 refine Pc1 3 [(31,.agg (tcs d)),(30,.i (tidOf d))] 32 (0+5<=5/\0<5) dc (sTI_ok d om) (Av1 (r:=.bool (!decide ((tidOf d:Int)=(tidOf d:Int)))) (v:=.bool false) 1 33 [] (congrArg AV.bool (by simp)) (Ki/\·) ⟨rfl,Pc1 4 [(36,.agg (tcs d)),(35,.sl 5 ((tabOf d).map rwc)),(34,.bool false)] 37 (0+5<=5/\0<5) dc (sTM_ok d om) (Pc0 1 [] 38 (wxR_ok (tabOf d) hl hn) (Pc1 5 [(42,.agg (tcs d)),(41,.bool false),(40,.bool false),(39,.bool false)] 43 (0+5<=5/\0<5) dc (sTreeOk_c d om) ?_))⟩)
 refine An0 1 [(44,.bool (treeOk d))] (Rg (fun hg12 g12=>?_) (fun hg12 g12=>?_))
 refine Av0 2 46 [(45,.sl 5 ((tabOf d).map rwc))] (lnm (tabOf d) rwc) (Av1 (r:=.bool (decide (((tabOf d).length:Int)=0))) (v:=.bool false) 1 47 [] (congrArg AV.bool (by have:=(tab_z hg12).1;exact decide_eq_false om)) (Ki/\·) ⟨rfl,?_⟩)
 have hz:=(tab_z hg12).1
 refine Av1 3 50 [(49,.sl 5 ((tabOf d).map rwc)),(48,.bool false)] (congrArg AV.pat (mg_rw (tabOf d) 0 om)) ((5=5/\(0:Int)<=0/\0<(((tabOf d).map rwc).length:Int))/\·) ⟨⟨rfl,om,lmo⟩,Av1 (r:=.bool (!decide ((((tabOf d).getD 0 default).id:Int)=(tidOf d:Int)))) (v:=.bool false) 4 54 [(53,.i (tidOf d)),(52,.i (((tabOf d).getD 0 default).id)),(51,.pat [.i (((tabOf d).getD 0 default).id)])] (congrArg AV.bool (by rw[(tab_z hg12).2];simp)) (((1:Nat)≠0)/\(1<=1/\0<1)/\Ki/\·) ⟨dc,dc,rfl,Gn0 [(57,.bool false),(56,.bool false),(55,.bool false)] (hK11 _ _ _ ⟨rfl,rfl,trivial⟩ rfl rfl)⟩⟩
 refine Gn0 [(57,.bool false),(56,.bool false),(55,.tup []),(54,.tup []),(53,.tup []),(52,.tup []),(51,.tup []),(50,.tup []),(49,.tup []),(48,.tup []),(47,.tup []),(46,.tup []),(45,.tup [])] (hK11 _ _ _ ⟨rfl,rfl,trivial⟩ rfl rfl)
 refine Cf (Sk (Jn (hK10 (Kp [1] (Rr (Bc0 2 [(59,.sl 1 (Y.map fun c=>[AV.int .u8 (c.toNat:Int)]))] 11 [.sl 1 (Y.map fun c=>[AV.int .u8 (c.toNat:Int)])] 60 (PC.use (DrawTreeDo_ok Y om) fun r hr=>?_)))))))
 obtain⟨t,c,rfl,hw,h1,h2,h3⟩:=hr
 have hyW:=W_sT t c (2^13) om hw
 have hl1:=wS_len c.path
 have hl2:=wS_len c.to
 refine Ke (Fn3 [] [(9,.ptr 8 0),(8,.ptr 4 0)] ([(8,clc c),(4,tcs t)]++·) 12 ((0<2)/\(1<2)/\(true=true/\5=5/\0+5<=5)/\(true=true/\5=5/\0+5<=5)/\·) ⟨dc,dc,dc,dc,Rr (Bc1 3 [(65,.agg (clc c)),(64,.agg (tcs t))] 12 [.agg (tcs t),.agg (clc c)] 66 ((0+5<=5/\0<5)/\(0+5<=5/\0<5)/\·) ⟨dc,dc,PE.use (by have:=iTreeDo_ok t c om h1 h2 h3;rwa[iTreeDo_eq]at this) ?_⟩)⟩)
 refine Ke (Fn3 [8,9] [(11,.i ((sTreeDo t c).2)),(10,.ptr 12 0)] ([(12,tcs ((sTreeDo t c).1))]++·) 16 ((0<2)/\(1<2)/\(true=true/\5=5/\0+5<=5)/\·) ⟨dc,dc,dc,Sq fun K15 hK15=>?_⟩)
 refine Rm 75 ((!decide (((sTreeDo t c).2:Int)=(0:Int)))||(!decide ((c.kind:Int)=(5:Int)))) [8,9,10] ?_ ?_
 refine An1 3 [(71,.bool (!decide (((sTreeDo t c).2:Int)=(0:Int)))),(70,.bool (!decide (((sTreeDo t c).2:Int)=(0:Int)))),(69,.i ((sTreeDo t c).2))] (Ki/\·) ⟨rfl,Rg (fun hg17 g17=>?_) (fun hg17 g17=>?_)⟩
 refine Mn0 true (by rw[hg17];rfl)
 refine Mn1 (!decide ((c.kind:Int)=(5:Int))) (((1:Nat)≠0)/\(0+1<=5/\0<5)/\Ki/\·) ⟨dc,dc,rfl,(by rw[hg17];rfl)⟩
 refine Cc ((!decide (((sTreeDo t c).2:Int)=(0:Int)))||(!decide ((c.kind:Int)=(5:Int)))) (fun hc18 c18=>?_) fun hc18 c18=>?_
 refine Rr (Fn0 [] [(4,.bool true)] (Rt (.bool true) ?_))
 exact fin_lea (lea_refl _)
 refine Sk (Jn (hK15 (Kp [8,9,10] ?_)))
 have hkk:(sTreeDo t c).2=0/\c.kind=5:=by have h:=hc18;simpa using h
 obtain⟨hk0,hto,hco,hA⟩:=done0 (t:=t) (c:=c) hkk.1
 obtain⟨hyo,⟨i1,i2⟩,⟨j1,j2⟩,hij⟩:=law_id hto hco (hA▸hk0) hkk.2
 rw[<-hA]at hyo j1 j2 hij
 refine Rr (Pc1 2 [(76,.agg (tcs t))] 77 (0+5<=5/\0<5) dc (TabM1 hto om) (Fn0 [9,10] [(12,.sl 5 ((rowsT [] t).map rwc))] (Rr (Pc1 2 [(78,.agg (tcs ((sTreeDo t c).1)))] 79 (0+5<=5/\0<5) dc (TabM1 hyo om) ?_))))
 refine Fn0 [9,12] [(13,.sl 5 ((rowsT [] ((sTreeDo t c).1)).map rwc))] (Rr (Bc1 4 [(82,pth c.path),(81,.ptr 8 1),(80,.sl 5 ((rowsT [] t).map rwc))] 13 [.sl 5 ((rowsT [] t).map rwc),pth c.path] 83 (((1:Nat)≠0)/\(1+1<=5/\1<5)/\·) ⟨dc,dc,PE.use (TabF_ok c.path hto om om) (Ke ?_)⟩))
 refine Fn0 [9,12,13] [(14,.i (idxR c.path 0 (rowsT [] t)))] (Rr (Bc1 4 [(86,pth c.to),(85,.ptr 8 2),(84,.sl 5 ((rowsT [] ((sTreeDo t c).1)).map rwc))] 13 [.sl 5 ((rowsT [] ((sTreeDo t c).1)).map rwc),pth c.to] 87 (((1:Nat)≠0)/\(2+1<=5/\2<5)/\·) ⟨dc,dc,PE.use (TabF_ok c.to hyo om om) (Ke ?_)⟩))
 refine Fn0 [12,13,14] [(15,.i (idxR c.to 0 (rowsT [] ((sTreeDo t c).1))))] (Sl [0,1,3,7,15,31,63,127,127,511,1023,2047,127,127,12415,28799,61567,131071,262143] [(0,[]),(1,[]),(2,[]),(3,[]),(4,[]),(5,[]),(6,[]),(7,[]),(8,[]),(9,[]),(10,[]),(11,[]),(12,[]),(13,[]),(14,[]),(15,[]),(16,[]),(17,[]),(18,[])] fun K24 hK24=>?_)
 refine qAv1 (r:=.bool (decide ((0:Int)<=(idxR c.path 0 (rowsT [] t):Int)))) (v:=.bool true) 2 89 [(88,.i (idxR c.path 0 (rowsT [] t)))] (congrArg AV.bool (by simpa using i1)) (Ki/\·) ⟨rfl,qAv1 (r:=.bool (decide ((0:Int)<=(idxR c.to 0 (rowsT [] ((sTreeDo t c).1)):Int)))) (v:=.bool true) 3 92 [(91,.i (idxR c.to 0 (rowsT [] ((sTreeDo t c).1)))),(90,.bool true)] (congrArg AV.bool (by simpa using j1)) (Ki/\·) ⟨rfl,qAv1 5 97 [(96,.i (idxR c.path 0 (rowsT [] t))),(95,.sl 5 ((rowsT [] t).map rwc)),(94,.bool true),(93,.bool true)] (congrArg AV.pat (mg_rw (rowsT [] t) ((idxR c.path 0 (rowsT [] t)).toNat) om)) ((5=5/\(0:Int)<=idxR c.path 0 (rowsT [] t)/\idxR c.path 0 (rowsT [] t)<(((rowsT [] t).map rwc).length:Int))/\·) ⟨⟨rfl,om,lmo⟩,qAv1 5 102 [(101,.i (idxR c.to 0 (rowsT [] ((sTreeDo t c).1)))),(100,.sl 5 ((rowsT [] ((sTreeDo t c).1)).map rwc)),(99,.i (((rowsT [] t).getD ((idxR c.path 0 (rowsT [] t)).toNat) default).id)),(98,.pat [.i (((rowsT [] t).getD ((idxR c.path 0 (rowsT [] t)).toNat) default).id)])] (congrArg AV.pat (mg_rw (rowsT [] ((sTreeDo t c).1)) ((idxR c.to 0 (rowsT [] ((sTreeDo t c).1))).toNat) om)) (fun Z=>((1:Nat)≠0)/\(1<=1/\0<1)/\(5=5/\(0:Int)<=idxR c.to 0 (rowsT [] ((sTreeDo t c).1))/\idxR c.to 0 (rowsT [] ((sTreeDo t c).1))<((((rowsT [] ((sTreeDo t c).1)).map rwc).length:Nat):Int))/\Z) ⟨dc,dc,⟨rfl,om,lmo⟩,qAv1 (r:=.bool (decide ((((rowsT [] t).getD ((idxR c.path 0 (rowsT [] t)).toNat) default).id:Int)=(((rowsT [] ((sTreeDo t c).1)).getD ((idxR c.to 0 (rowsT [] ((sTreeDo t c).1))).toNat) default).id:Int)))) (v:=.bool true) 3 105 [(104,.i (((rowsT [] ((sTreeDo t c).1)).getD ((idxR c.to 0 (rowsT [] ((sTreeDo t c).1))).toNat) default).id)),(103,.pat [.i (((rowsT [] ((sTreeDo t c).1)).getD ((idxR c.to 0 (rowsT [] ((sTreeDo t c).1))).toNat) default).id)])] (congrArg AV.bool (by rw[hij];simp)) (((1:Nat)≠0)/\(1<=1/\0<1)/\Ki/\·) ⟨dc,dc,rfl,?_⟩⟩⟩⟩⟩
 refine qGn0 [(106,.bool true)] (Lo 4 (.bool true) (fun Z=>Z) (hK24 _ _ _ (Kp [4] (Rt (.bool true) ?_))))
 exact fin_lea (lea_refl _)
end Go.Proofs.YtkgaefbohkcofaaGreatDoorT
set_option maxRecDepth 100000
namespace Go.Proofs.YtkgaefbohkcofaaGreatDoor
open Go.ChangeShapes Go.WideShapes Go.ChangeAt Go.RowKit
theorem ext_below {w w':World} (h:YtkgaefbohkcofaaGreatDoorT.Ext (fun _=>False) w w'):Below w.heap.size w w':=⟨h.os,h.tape,h.output,h.size,fun k hk=>h.keep k hk fun x=>x⟩
theorem calls_of {P:Program} {f:Nat} {vs:Array Value} {w:World} {R:Ending->World->Prop} {fn:Func} {b:Code} (hf:P.funcs[f]?=some fn) (hb:fn.body=some b) (hnm:(fn.name== "runtime.NumGoroutine")=false) (h:YtkgaefbohkcofaaGreatDoorT.CallsX P f vs w R):Calls P f vs w R:=by
 have hnm':¬fn.name= "runtime.NumGoroutine" :=by simpa using hnm
 have henter:(callFunc f vs).run P w=.ok (.enter f vs) w:=by
  simp[callFunc,hf,hnm',hb]
 unfold YtkgaefbohkcofaaGreatDoorT.CallsX at h
 rw[henter]at h
 exact h.2
theorem bytesX (zs:List Int) (hw:∀n∈zs,(Lit.int .u8 n).wf=true):(zs.map fun n=>UInt8.ofNat n.toNat).map (fun c=>[YtkgaefbohkcofaaGreatDoorT.AV.int .u8 (c.toNat:Int)])=zs.map fun n=>[YtkgaefbohkcofaaGreatDoorT.AV.int .u8 n]:=by
 simp only[List.map_map]
 refine List.map_congr_left fun n hn=>?_
 have:=hw n hn
 simp only[Lit.wf,Bool.and_eq_true,decide_eq_true_eq]at this
 have h1:0<=n:=by have:=this.1;simpa[IntKind.min,IntKind.signed]using this
 have h2:n<=255:=by have:=this.2;simpa[IntKind.max,IntKind.signed,IntKind.bits]using this
 simp only[Function.comp]
 congr 2
 rw[UInt8.toNat_ofNat']
 omega
def Sl (W:World) (zs:List Int) (A:Option Addr) (c:Nat):Prop:=(∀n∈zs,(Lit.int .u8 n).wf=true)/\zs.length<=c/\(zs≠[]->∃a,A=some a/\a.block<W.heap.size/\∀i,i<zs.length->W.cell? (a.add i)=some (.int .u8 (zs.getD i 0)))
theorem slVR {W:World} {zs:List Int} {A:Option Addr} {c:Nat} (h:Sl W zs A c):YtkgaefbohkcofaaGreatDoorT.VR (fun _=>none) W (YtkgaefbohkcofaaGreatDoorT.OX (fun _=>False) (fun _=>none) []) (.sl 1 (zs.map fun n=>[YtkgaefbohkcofaaGreatDoorT.AV.int .u8 n])) (.slice A zs.length c):=by
 obtain⟨_,hc,ha⟩:=h
 simp only[YtkgaefbohkcofaaGreatDoorT.VR]
 refine⟨A,c,by rw[List.length_map],by rw[List.length_map];exact hc,fun hne=>?_⟩
 obtain⟨a,rfl,hb,hcell⟩:=ha (by rintro rfl;exact hne rfl)
 refine⟨a,rfl,fun x=>by rcases x with x|⟨i,hi,_⟩;exact x;simp[YtkgaefbohkcofaaGreatDoorT.ids]at hi,hb,?_⟩
 have key:∀(l:List Int) (k:Nat),(∀i,i<l.length->W.cell? (a.add (k+i))=some (.int .u8 (l.getD i 0)))->YtkgaefbohkcofaaGreatDoorT.PEs (fun _=>none) W (YtkgaefbohkcofaaGreatDoorT.OX (fun _=>False) (fun _=>none) []) 1 (l.map fun n=>[YtkgaefbohkcofaaGreatDoorT.AV.int .u8 n]) a k:=by
  intro l
  induction l with
  |nil=>intro k _;simp only[List.map_nil,YtkgaefbohkcofaaGreatDoorT.PEs]
  |cons n l ih=>
   intro k hl
   simp only[List.map_cons,YtkgaefbohkcofaaGreatDoorT.PEs,YtkgaefbohkcofaaGreatDoorT.PCs,YtkgaefbohkcofaaGreatDoorT.VR,List.length_cons,List.length_nil,Nat.mul_one,and_true]
   refine⟨trivial,⟨_,by simpa using hl 0 (by simp),rfl,rfl⟩,ih (k+1) fun i hi=>?_⟩
   have:=hl (i+1) (by simpa using hi)
   rw[show k+1+i=k+(i+1) by omega]
   simpa using this
 exact key zs 0 (fun i hi=>by rw[Nat.zero_add];exact hcell i hi)
theorem callDone (zs ys:List Int) (A B:Option Addr) (c e:Nat) (W:World) (h1:Sl W zs A c) (h2:Sl W ys B e):
  YtkgaefbohkcofaaGreatDoorT.CallsX Tryz.prog 3 #[.slice A zs.length c,.slice B ys.length e] W fun e W'=>e=.returned (.bool true)/\Below W.heap.size W W':=by
 have h:=YtkgaefbohkcofaaGreatDoorT.FnTableId_ok (zs.map fun n=>UInt8.ofNat n.toNat) (ys.map fun n=>UInt8.ofNat n.toNat)
 rw[bytesX zs h1.1,bytesX ys h2.1]at h
 refine YtkgaefbohkcofaaGreatDoorT.CallsX.mono (h (fun _=>none) 0 (fun _=>False) W #[.slice A zs.length c,.slice B ys.length e] ⟨rfl,fun _ _ _=>rfl,0,fun _ _=>rfl⟩ (fun _ hb=>hb.elim) ?_) ?_
 ·simp only[YtkgaefbohkcofaaGreatDoorT.VRs,and_true]
  have k1:=slVR h1
  have k2:=slVR h2
  rw[YtkgaefbohkcofaaGreatDoorT.OX_nil]at k1 k2
  exact⟨k1,k2⟩
 ·rintro e W' ⟨v,r,rfl,rfl,hv,hx⟩
  simp only[YtkgaefbohkcofaaGreatDoorT.VR]at hv
  exact⟨by rw[hv],ext_below hx⟩
theorem own:ownKnob Tryz.prog.godebug=none:=by kernel_rfl
theorem open_arg {H:Type} {enc:TypeId×Value->H} {W:World} {base:Nat} {v:Value} {d:DataW H} {p:List MemPlace} (h0:DataW.Trod enc Tryz.prog W 0 (fun _=>true) true 22 v d p) (hv:Value.okWide Tryz.prog W .any base 22 v) (hlt:∀x∈p,x.block<W.heap.size):
  ∃zs A c,Sl W zs A c/\v=.slice A zs.length c:=by
 obtain⟨fuel,hf⟩:=h0
 obtain⟨a0,len,cap,rfl⟩:=okWide_slice Tryz.underlying22 hv
 rcases open_ints Tryz.underlying22 Tryz.underlying5 (by kernel_rfl) hf with ⟨hcs,hx⟩|⟨a,len',cap',zs,hcs,_,hl,hm,hz,hx,hcell,hwz⟩
 ·simp[Value.cells]at hcs
  obtain⟨rfl,rfl,rfl⟩:=hcs
  exact⟨[],none,0,⟨by simp,Nat.le_refl _,fun h=>absurd rfl h⟩,rfl⟩
 ·simp[Value.cells]at hcs
  obtain⟨rfl,rfl,rfl⟩:=hcs
  simp only[Prod.mk.injEq]at hx
  obtain⟨rfl,rfl⟩:=hx
  simp only[if_true]at hz
  have hl2:(zs.take len).length=len:=by rw[List.length_take];omega
  refine⟨zs.take len,some a,cap,⟨fun n hn=>hwz n (List.mem_of_mem_take hn),by omega,fun hne=>⟨a,rfl,?_,fun i hi=>?_⟩⟩,by rw[hl2]⟩
  ·have:0<zs.length:=by
    rcases zs with _|⟨z,zs⟩
    ·simp at hne
    ·simp
   exact hlt (.cell a.block a.off) (MemPlace.mem_row.2 ⟨0,by simpa using this,by simp⟩)
  ·rw[hl2]at hi
   rw[hcell i (by omega)]
   simp[List.getD,hi]
theorem contract (H:Type) (enc:TypeId×Value->H) (W:World) (base:Nat) (args:Array Value) (ds gs:List (DataW H)) (before:List MemPlace)
  (hval:∀(j:Nat) t v,Tryz.f3.params[j]?=some t->args[j]?=some v->Value.okWide Tryz.prog W .any base t v)
  (hW:DataW.Whole enc Tryz.prog Tryz.f3.params.toList Rows.fnTableIdSpec.vars false W args.toList ds gs before):
  Calls Tryz.prog 3 args W fun e W'=>∃v,e=.returned v/\Rows.fnTableIdSpec.post enc Tryz.prog Tryz.f3 false true false false W args v W':=by
 have hW':=hW
 obtain⟨p,q,hA0,hV,rfl,hfz,hnd⟩:=hW
 have hA:DataW.TrodAll enc Tryz.prog W 0 (fun _=>true) true Tryz.f3.params.toList args.toList ds p:=hA0
 rw[Tryz.params3]at hA hval
 obtain⟨v0,v1,d0,d1,p0,p1,rfl,rfl,rfl,h0,h1⟩:=trodAll_two hA
 obtain⟨rfl,rfl⟩:=trodVars_none hV
 simp only[List.append_nil]at hW'
 have hlt0:∀x∈p0,x.block<W.heap.size:=fun x hx=>hW'.lt x (List.mem_append_left _ hx)
 have hlt1:∀x∈p1,x.block<W.heap.size:=fun x hx=>hW'.lt x (List.mem_append_right _ hx)
 have hb0:∀(W':World),Below W.heap.size W W'->DataW.Trod enc Tryz.prog W' 0 (fun b=>decide (b<W.heap.size)) true 22 v0 d0 p0:=
  fun W' hn=>Below.trod (by kernel_rfl) (by kernel_rfl) (of_decide_eq_true (by kernel_rfl)) h0 hn hlt0
 have hb1:∀(W':World),Below W.heap.size W W'->DataW.Trod enc Tryz.prog W' 0 (fun b=>decide (b<W.heap.size)) true 22 v1 d1 p1:=
  fun W' hn=>Below.trod (by kernel_rfl) (by kernel_rfl) (of_decide_eq_true (by kernel_rfl)) h1 hn hlt1
 have fin:∀W',Below W.heap.size W W'->Rows.fnTableIdSpec.post enc Tryz.prog Tryz.f3 false true false false W #[v0,v1] (.bool true) W':=fun W' hb=>
  ⟨_,_,_,[],_,[],hW',trodAll_mk1 (shut_bool Tryz.underlying4 true),trodAll_mk2 (hb0 W' hb) (hb1 W' hb),rfl,hb.frame _,fun h=>by cases h⟩
 obtain⟨zs,A,c,k0,e0⟩:=open_arg h0 (hval 0 22 v0 rfl rfl) hlt0
 obtain⟨ys,B,e,k1,e1⟩:=open_arg h1 (hval 1 22 v1 rfl rfl) hlt1
 subst e0;subst e1
 exact(calls_of (b:=YtkgaefbohkcofaaGreatDoorT.bd Tryz.f3) Tryz.func3 (by kernel_rfl) (by kernel_rfl) (callDone zs ys A B c e W k0 k1)).mono fun e W' ⟨he,hb⟩=>⟨_,he,fin W' hb⟩
set_option maxRecDepth 100000 in
theorem lifted (os:Os) (started:os.Started) (H:Type) (enc:TypeId×Value->H):
  ReturnsInHanded {} Tryz.checked os 3 .any (fun w args=>(Rows.fnTableIdSpec.pre enc Tryz.prog Tryz.f3 Rows.fnTableIdRow.domain false w args/\laidMetH Tryz.prog Rows.fnTableIdRow.laid w)/\sizedMet enc Tryz.prog Tryz.f3 (OpenSpec.ofChange Rows.fnTableIdSpec) false w args)
   (Rows.fnTableIdSpec.post enc Tryz.prog Tryz.f3 false true false false):=by
 refine returnsInHanded_of_change_and (C:=Tryz.checked) (X:=fun w _=>laidMetH Tryz.prog Rows.fnTableIdRow.laid w) (fun _ _ _ hh h=>h.of_heap hh) own started (by kernel_rfl) Tryz.func3
  (ChangeSpec.witness_shaped (enc:=enc) (C:=Tryz.checked) (os:=os) (X:=fun w _=>laidMetH Tryz.prog Rows.fnTableIdRow.laid w) false (World.laidAll Tryz.prog os Rows.fnTableIdRow.laid) #[.slice none 0 0,.slice none 0 0] 8 (World.laidAll_os _ _ _)
   (World.shaped_of_ZipB (by kernel_rfl) (by kernel_rfl)) (by kernel_rfl) (by kernel_rfl) (by kernel_rfl)
   (by rw[MakeChecks.laidMetH_plain _ _ _ (by kernel_rfl)];exact laidMet_laidAll _ (by kernel_rfl) (by kernel_rfl))) ?_
 intro W base args ds gs before hval0 hW _ _ _ _
 exact contract H enc W base args ds gs before hval0 hW
theorem fnTableId_holds:Rows.FnTableIdSaid:=
 OpenClaim.holds_of_wide 3 Tryz.f3 rfl rfl rfl rfl rfl rfl rfl ⟨rfl,rfl,rfl,rfl,rfl⟩ rfl rfl rfl rfl rfl (by kernel_rfl) Tryz.func3 (by kernel_rfl)
  (of_decide_eq_true (by kernel_rfl)) (by unfold Func.isWrapper;first|(rw[if_pos (by decide +kernel)];kernel_rfl)|(rw[if_neg (by decide +kernel)];exact⟨rfl,rfl⟩))
  (fun os started H enc _=>lifted os started H enc)
theorem fnTableIdCard_holds:Rows.FnTableIdCardSaid:=
 Claim7.holds_tied_plain_at .later [] [.data,.data,.data] true (true, "ed3e5b90959e4f9183c8cc0eb99f4db8d4ee760401dfe0d115031d7d0ad4ea21") false
  fnTableId_holds (fun _ h=>by cases h) (by kernel_rfl) (fun _ h=>by cases h) fnTableId_row_tie rfl ⟨rfl,rfl⟩ (by kernel_rfl) rfl
  (fun f fn hf hfn=>by
   obtain rfl:f=3:=Option.some.inj ((show Tryz.prog.funcNamed "loop.example/changetrail/laws.FnTableId" =some 3 by kernel_rfl).symm.trans hf)|>.symm
   obtain rfl:fn=Tryz.f3:=(Option.some.inj (Tryz.func3.symm.trans hfn)).symm
   exact ⟨by kernel_rfl,fun j t ht=>by
    rw[Tryz.params3]at ht
    have hm:t∈[22,22]:=by simpa using Array.mem_of_getElem? ht
    have hall:([22,22].all fun u=> !Tryz.prog.wantsStandIn u)=true:=by kernel_rfl
    exact(show Tryz.prog.wantsStandIn t=false by simpa using List.all_eq_true.1 hall t hm)⟩)
  (by kernel_rfl)
end Go.Proofs.YtkgaefbohkcofaaGreatDoor
