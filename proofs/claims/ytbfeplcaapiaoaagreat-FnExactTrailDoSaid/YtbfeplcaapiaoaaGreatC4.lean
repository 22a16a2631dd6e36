/- A part of the proof that FnExactTrailDo, on every tree, list of marks and call, returns true (no conditions): rules of the walk, and what the functions compute. -/
import Derived.Carry
import Derived.ChangeArms
import Derived.ChangeSlices
import Derived.OpenShut
import Derived.ProofKit
import Derived.RowKit
import Derived.Test.YtbfeplcaapiaoaaGreatRows
import Derived.Test.YtbfeplcaapiaoaaGreatC3
set_option linter.unusedVariables false
set_option linter.unusedSimpArgs false
namespace Go.Proofs.YtbfeplcaapiaoaaGreatT
open Go Go.Proofs
set_option maxRecDepth 100000
def tDo (t:Tr) (l:List Mk) (c:Cl):Tr×Int:=bif trOk l then sTreeDo t c else(.none,1)
def TDoR (t:Tr) (l:List Mk) (c:Cl) (r:AV):Prop:=∃l2,r=.tup [.agg (tcs (tDo t l c).1),.sl 2 (l2.map mkc),.i (tDo t l c).2]/\((tDo t l c).2=0->trOk l=true/\CoL l (mksOf t c) l2)/\((tDo t l c).2≠0->l2=if(tDo t l c).2=1 then[]else l)
theorem parC_ne (t:Tr) (p:List Str):parC t p≠1:=by unfold parC;split<;>(try split)<;>decide
theorem fits_ne (y t:Tr):(fits y t).2≠1:=by unfold fits;dsimp only;split<;>decide
theorem sFile_ne (t:Tr) (c:Cl):(sFile t c).2≠1:=by
  unfold sFile
  repeat' first|exact fits_ne _ _|(rw[cond_eq_ite];split)|(dsimp only;decide)
theorem sRename_ne (t:Tr) (c:Cl):(sRename t c).2≠1:=by
  unfold sRename
  repeat' first|exact fits_ne _ _|exact parC_ne _ _|(rw[cond_eq_ite];split)|(dsimp only;decide)
theorem sDo_ne (t:Tr) (c:Cl):(sDo t c).2≠1:=by
  unfold sDo
  repeat' first|exact fits_ne _ _|exact parC_ne _ _|exact sFile_ne _ _|exact sRename_ne _ _|(rw[cond_eq_ite];split)|(dsimp only;decide)
theorem sT_none {t:Tr} {c:Cl} (h:(sTreeDo t c).2=1):(sTreeDo t c).1=.none:=by
  unfold sTreeDo at h⊢
  cases ht:treeOk t with
  |false=>rfl
  |true=>
    rw[ht]at h
    cases hc:callOk c with
    |false=>rw[hc]at h;exact absurd (show(2:Int)=1 from h) dc
    |true=>rw[hc]at h;exact absurd h (sDo_ne t c)
theorem sTD_ok {t:Tr} {c:Cl} (h:(sTreeDo t c).2=0):treeOk t=true/\callOk c=true:=by
  unfold sTreeDo at h
  cases ht:treeOk t with
  |false=>rw[ht]at h;cases h
  |true=>
    cases hc:callOk c with
    |false=>rw[ht,hc]at h;cases h
    |true=>exact⟨rfl,rfl⟩
theorem mksOf_ok {t:Tr} {c:Cl} (hc:callOk c=true) {m:Mk} (h:m∈mksOf t c):mkOk m=true:=by
  have key:pthOk m.path 1=true:=by
    unfold mksOf at h
    rw[hc]at h
    unfold callOk at hc
    cases hk:decide (c.kind=(5:Int))with
    |false=>
      rw[hk]at h
      simp only[Bool.not_true,cond_false,List.mem_cons,List.not_mem_nil,or_false]at h
      subst h
      (repeat' split at hc)<;>simp_all
    |true=>
      rw[hk]at h
      have hk5:c.kind=5:=of_decide_eq_true hk
      simp only[Bool.not_true,cond_false,cond_true,List.mem_cons,List.not_mem_nil,or_false]at h
      rcases h with rfl|rfl<;>(repeat' split at hc)<;>simp_all
  unfold mkOk
  unfold pthOk inb at key⊢
  simp only[Bool.and_eq_true,Bool.or_eq_true,decide_eq_true_eq]at key⊢
  exact⟨⟨key.1,om,key.2.2⟩,.inl om⟩
theorem TrailOf_ok (t:Tr) (c:Cl) (hw:t.W<2^40) (hto:treeOk t=true) (h1:wS c.path<2^40) (h2:wS c.to<2^40):PE G 55 [.agg (tcs t),.agg (clc c)] (.sl 2 ((mksOf t c).map mkc)):=by
 have hl1:=wS_len c.path;have hl2:=wS_len c.to;have hwf:=wf_ok hto
 refine Pe Tryz.func55 ?_
 refine Rr (Fn2 [] [(3,.ptr 4 0),(2,.ptr 0 0)] ([(4,clc c),(0,tcs t)]++·) 8 (Sq fun K2 hK2=>?_))
 refine Rm 15 ((!(treeOk t))||(!(callOk c))) [2,3] ?_ ?_
 refine Pc1 2 [(8,.agg (tcs t))] 9 (0+5<=5/\0<5) dc (sTreeOk_c t om) (An0 2 [(11,.bool (!(treeOk t))),(10,.bool (!(treeOk t)))] (Rg (fun hg4 g4=>?_) (fun hg4 g4=>?_)))
 refine Mn0 true (by rw[hg4];rfl)
 refine Pc1 2 [(12,.agg (clc c))] 13 (0+5<=5/\0<5) dc (l2CallOk_ok c om (fun s hs=>Nat.lt_trans (wS_mem hs) om) om (fun s hs=>Nat.lt_trans (wS_mem hs) om)) (Mn0 (!(callOk c)) (by rw[hg4];rfl))
 refine Cc ((!(treeOk t))||(!(callOk c))) (fun hc5 c5=>?_) fun hc5 c5=>?_
 refine Rr (Fn3 [] [(4,.osl 8 2 0 0)] ([(8,[])]++·) 12 ((0*2<=16777216)/\·) ⟨dc,Fz 8 2 0 ([]) ([]) [(4,.osl 8 2 0 0)] [] [] kr dc (Rt (.sl 2 ([].map mkc)) (fin_lea ?_))⟩)
 have hc:callOk c=false:=by have h:=hc5;rw[hto]at h;simpa using h
 rw[show mksOf t c=[] by unfold mksOf;rw[hc];rfl];simp[lea,leas]
 refine Sk (Jn (hK2 (Kp [2,3] ?_)))
 have hco:callOk c=true:=by have h:=hc5;rw[hto]at h;simpa using h
 refine Rr (An3 4 [(20,.osl 12 1 0 (0+(c.path.map (fun s=>[AV.str s])).length)),(19,pth c.path),(18,.ptr 4 1),(17,.osl 8 1 0 0)] ([(12,apd [] (0*1) ((c.path.map (fun s=>[AV.str s])).flatten))]++·) 16 ((0*1<=16777216)/\((1:Nat)≠0)/\(1+1<=5/\1<5)/\True/\(1=1/\0*1<=0/\0<16/\(0+(c.path.map (fun s=>[AV.str s])).length)*16<=140737488355328)/\·) ⟨dc,dc,dc,trivial,⟨rfl,gl,dc,gl⟩,run_v (v':=.osl 12 1 0 c.path.length) (by rw[Nat.zero_add,List.length_map]) (run_h (cs':=fl sc c.path) (app0_str _) (Fn0 [2,3] [(5,.osl 12 1 0 c.path.length)] ?_))⟩)
 refine Sq fun K8 hK8=>?_
 refine Rr (Cn1 (!decide ((c.kind:Int)=(5:Int))) [2,3,5] [] (((1:Nat)≠0)/\(0+1<=5/\0<5)/\Ki/\·) ⟨dc,dc,rfl,fun hc10 c10=>?_,fun hc10 c10=>?_⟩)
 refine Rr (Fn3 [] [(4,.osl 16 2 0 1)] ([(16,[.osl 12 1 0 c.path.length,.bool false])]++·) 20 ((1*2<=16777216)/\·) ⟨dc,FzS 12 c.path [(4,.osl 16 2 0 1)] [(16,[.osl 12 1 0 c.path.length,.bool false])] [true] (Fz 16 2 1 ([[pth c.path,.bool false]]) ([pth c.path,.bool false]) [(4,.osl 16 2 0 1)] [] [] kr (by first|decide|simp) (Rt (.sl 2 ([Mk.mk c.path false].map mkc)) ?_))⟩)
 refine fin_lea ?_
 have hk:decide (c.kind=(5:Int))=false:=by have h:=hc10;simpa using h
 rw[show mksOf t c=[⟨c.path,false⟩] by unfold mksOf;rw[hco,hk];rfl];exact lea_refl _
 refine Sk (Jn (hK8 (Kp [2,3,5] (Rr (Bc1 4 [(30,pth c.path),(29,.ptr 4 1),(28,.agg (tcs t))] 91 [.agg (tcs t),pth c.path] 31 ((0+5<=5/\0<5)/\((1:Nat)≠0)/\(1+1<=5/\1<5)/\·) ⟨dc,dc,dc,PE.use (l1At_c c.path t om hwf om) (Ke ?_)⟩)))))
 refine Fn3 [3,5] [(6,.ptr 16 0)] ([(16,tcs ((tat t c.path).getD .none))]++·) 20 ((0<2)/\(1<2)/\(true=true/\5=5/\0+5<=5)/\·) ⟨dc,dc,dc,Qr [0,0,2,7,0,0,32,112,0,256,1008,2047,4095] [(0,[]),(1,[]),(2,[]),(3,[]),(5,[]),(6,[]),(8,[]),(9,[]),(4,[2,6,9]),(7,[2,9]),(10,[]),(11,[]),(12,[])] (qAn3 10 [(41,.osl 24 1 0 (0+(c.to.map (fun s=>[AV.str s])).length)),(38,.osl 20 1 0 0),(43,.bool (((tat t c.path).getD .none).dir)),(42,.ptr 16 0),(40,pth c.to),(39,.ptr 4 2),(37,.agg [.osl 12 1 0 c.path.length,.bool (((tat t c.path).getD .none).dir)]),(36,.bool (((tat t c.path).getD .none).dir)),(35,.ptr 16 0),(34,.osl 12 1 0 c.path.length)] ([(24,apd [] (0*1) ((c.to.map (fun s=>[AV.str s])).flatten))]++·) 28 (fun Z=>((1:Nat)≠0)/\(0+1<=5/\0<5)/\((1:Nat)≠0)/\(2+1<=5/\2<5)/\((1:Nat)≠0)/\(0+1<=5/\0<5)/\(0*1<=16777216)/\(((0+1<=5/\0<5)/\(AV.bool (((tat t c.path).getD .none).dir)=(.bool (((tat t c.path).getD .none).dir):AV)))/\((2+1<=5/\2<5)/\(pth c.to=pth c.to))/\((0+1<=5/\0<5)/\(AV.bool (((tat t c.path).getD .none).dir)=(.bool (((tat t c.path).getD .none).dir):AV)))/\True)/\True/\(1=1/\0*1<=0/\0<16/\(0+(c.to.map (fun s=>[AV.str s])).length)*16<=140737488355328)/\(((0+1<=5/\0<5)/\(AV.bool (((tat t c.path).getD .none).dir)=(.bool (((tat t c.path).getD .none).dir):AV)))/\((0+1<=5/\0<5)/\(AV.bool (((tat t c.path).getD .none).dir)=(.bool (((tat t c.path).getD .none).dir):AV)))/\True)/\Z) ⟨dc,dc,dc,dc,dc,dc,dc,⟨⟨dc,rfl⟩,⟨dc,rfl⟩,⟨dc,rfl⟩,trivial⟩,trivial,⟨rfl,gl,dc,gl⟩,⟨⟨dc,rfl⟩,⟨dc,rfl⟩,trivial⟩,runq_v (v':=.osl 24 1 0 c.to.length) (by rw[Nat.zero_add,List.length_map]) (runq_h (cs':=fl sc c.to) (app0_str _) ?_)⟩)⟩
 refine qFn3 [] [(4,.osl 28 2 0 2)] ([(28,[.osl 12 1 0 c.path.length,.bool (((tat t c.path).getD .none).dir),.osl 24 1 0 c.to.length,.bool (((tat t c.path).getD .none).dir)])]++·) 32 ((2*2<=16777216)/\(True)/\·) ⟨dc,trivial,FzS 24 c.to [(4,.osl 28 2 0 2)] [(28,[.osl 12 1 0 c.path.length,.bool (((tat t c.path).getD .none).dir),.osl 24 1 0 c.to.length,.bool (((tat t c.path).getD .none).dir)]),(12,fl sc c.path)] [true,false] (FzS 12 c.path [(4,.osl 28 2 0 2)] [(28,[.osl 12 1 0 c.path.length,.bool (((tat t c.path).getD .none).dir),pth c.to,.bool (((tat t c.path).getD .none).dir)])] [true] (Fz 28 2 2 ([[pth c.path,.bool (((tat t c.path).getD .none).dir)],[pth c.to,.bool (((tat t c.path).getD .none).dir)]]) ([pth c.path,.bool (((tat t c.path).getD .none).dir),pth c.to,.bool (((tat t c.path).getD .none).dir)]) [(4,.osl 28 2 0 2)] [] [] kr (by first|decide|simp) (Rt (.sl 2 ([Mk.mk c.path (((tat t c.path).getD .none).dir),Mk.mk c.to (((tat t c.path).getD .none).dir)].map mkc)) ?_)))⟩
 refine fin_lea ?_
 have hk:decide (c.kind=(5:Int))=true:=by have h:=hc10;simpa using h
 have hda:dirAt t c.path=((tat t c.path).getD .none).dir:=by unfold dirAt;cases tat t c.path<;>rfl
 rw[show mksOf t c=[⟨c.path,dirAt t c.path⟩,⟨c.to,dirAt t c.path⟩] by unfold mksOf;rw[hco,hk];rfl,hda];exact lea_refl _
theorem sTrailDo_ok (t:Tr) (l:List Mk) (c:Cl) (hw:t.W<2^40) (h1:wS c.path<2^40) (h2:wS c.to<2^40) (h3:c.data.length<2^21) (hl:∀m∈l,wS m.path<2^40) (hn:l.length<2^21):PC G 21 [.agg (tcs t),.sl 2 (l.map mkc),.agg (clc c)] (fun r=>TDoR t l c r):=by
 refine h_pc (F:=[(0,.agg (tcs t)),(1,.sl 2 (l.map mkc)),(2,.agg (clc c))]) (by simp only[go_sem]) Tryz.func21 kr kr ?_ kr
 refine Rr (Fn2 [1] [(6,.ptr 8 0),(5,.ptr 4 0),(3,.ptr 0 0)] ([(8,zt),(4,clc c),(0,tcs t)]++·) 12 (Sq fun K2 hK2=>?_))
 refine Rr (Pc0 2 [(14,.sl 2 (l.map mkc))] 15 (sTrailOk_ok l hl om) (Cn0 (!(trOk l)) [1,3,5,6] [] ⟨fun hc4 c4=>?_,fun hc4 c4=>?_⟩))
 refine Rr (Fn3 [6] [(8,.i 1),(7,.osl 12 2 0 0)] ([(12,[])]++·) 16 ((0*2<=16777216)/\(true=true/\5=5/\0+5<=5)/\·) ⟨dc,dc,Fz 12 2 0 ([]) ([]) [(6,.ptr 8 0),(7,.osl 12 2 0 0),(8,.i 1)] [(8,zt)] [true] kr dc (Rt1 ((0+5<=5/\0<5)/\·) (.tup [.agg zt,.sl 2 ([].map mkc),.i 1]) ⟨dc,?_⟩)⟩)
 have htr:trOk l=false:=by have h:=hc4;simpa using h
 have htd:tDo t l c=(.none,1):=by unfold tDo;rw[htr];rfl
 refine⟨[],List.nil_sublist _,_,?_,⟨[],by rw[htd],by rw[htd];simp,by rw[htd];simp⟩,by simp only[go_sem,pur,purs,puress_mk,Bool.and_self]⟩
 simp[lea,leas,Tr.none,tcs,pth]
 refine Sk (Jn (hK2 (Kp [1,3,5,6] ?_)))
 have htr:trOk l=true:=by have h:=hc4;simpa using h
 obtain⟨ht,h6⟩:=trOk_trl htr
 refine Rr (Bc1 3 [(21,.agg (clc c)),(20,.agg (tcs t))] 32 [.agg (tcs t),.agg (clc c)] 22 ((0+5<=5/\0<5)/\(0+5<=5/\0<5)/\·) ⟨dc,dc,PE.use (sTreeDo_ok t c om h1 h2 h3) (Ke (Fn3 [1,3,5,6] [(10,.i ((sTreeDo t c).2)),(9,.ptr 12 0)] ([(12,tcs ((sTreeDo t c).1))]++·) 16 ((0<2)/\(1<2)/\(true=true/\5=5/\0+5<=5)/\·) ⟨dc,dc,dc,?_⟩))⟩)
 refine Sq fun K7 hK7=>?_
 refine Rr (Cn1 (decide (((sTreeDo t c).2:Int)=(1:Int))) [1,3,5,6,9,10] [] (Ki/\·) ⟨rfl,fun hc9 c9=>?_,fun hc9 c9=>?_⟩)
 refine Rr (Fn3 [6] [(8,.i 1),(7,.osl 16 2 0 0)] ([(16,[])]++·) 20 ((0*2<=16777216)/\(true=true/\5=5/\0+5<=5)/\·) ⟨dc,dc,Fz 16 2 0 ([]) ([]) [(6,.ptr 8 0),(7,.osl 16 2 0 0),(8,.i 1)] [(8,zt)] [true] kr dc (Rt1 ((0+5<=5/\0<5)/\·) (.tup [.agg zt,.sl 2 ([].map mkc),.i 1]) ⟨dc,?_⟩)⟩)
 have htd:tDo t l c=sTreeDo t c:=by unfold tDo;rw[htr];rfl
 have hc1:(sTreeDo t c).2=1:=by have h:=c9;omega
 have htn:(sTreeDo t c).1=.none:=sT_none hc1
 refine⟨[],List.nil_sublist _,_,?_,⟨[],by rw[htd,htn,hc1],by rw[htd,hc1];simp,by rw[htd,hc1];simp⟩,by simp only[go_sem,pur,purs,puress_mk,Bool.and_self]⟩
 simp[lea,leas,Tr.none,tcs,pth]
 refine Sk (Jn (hK7 (Kp [1,3,5,6,9,10] (Sq fun K11 hK11=>?_))))
 refine Rr (Cn1 (!decide (((sTreeDo t c).2:Int)=(0:Int))) [1,3,5,6,9,10] [] (Ki/\·) ⟨rfl,fun hc13 c13=>?_,fun hc13 c13=>?_⟩)
 refine Qr [0,0,2,0,7,23,63] [(0,[]),(1,[]),(3,[]),(2,[0]),(4,[]),(5,[]),(6,[])] (qBc1 4 [(34,.i ((sTreeDo t c).2)),(32,.sl 2 (l.map mkc)),(31,.agg (tcs ((sTreeDo t c).1)))] [0] 54 [.sl 2 (l.map mkc)] 33 ((0+5<=5/\0<5)/\·) ⟨dc,PE.use (copyM_ok l hl om) (Kq (p:=(((0+5<=5/\0<5)/\(AV.agg (tcs ((sTreeDo t c).1))=(.agg (tcs ((sTreeDo t c).1)):AV)))/\True)) ⟨⟨dc,rfl⟩,trivial⟩ (qFn3 [6] [(8,.i ((sTreeDo t c).2)),(7,.sl 2 (l.map mkc))] (Hw [(8,tcs ((sTreeDo t c).1))] [] ·) 16 ((true=true/\5=5/\0+5<=5)/\(True)/\·) ⟨dc,trivial,?_⟩))⟩)
 refine Rt1 ((0+5<=5/\0<5)/\·) (.tup [.agg (tcs ((sTreeDo t c).1)),.sl 2 (l.map mkc),.i ((sTreeDo t c).2)]) ⟨dc,?_⟩
 have htd:tDo t l c=sTreeDo t c:=by unfold tDo;rw[htr];rfl
 exact⟨[],List.nil_sublist _,_,lea_refl _,⟨l,by rw[htd],fun h=>absurd (htd▸h) c13,fun h=>by rw[htd]at h⊢;rw[if_neg c9]⟩,by simp only[go_sem,pur,purs,puress_mk,Bool.and_self]⟩
 refine Sk (Jn (hK11 (Kp [1,3,5,6,9] ?_)))
 obtain⟨hto,hco⟩:=sTD_ok (t:=t) (c:=c) (by have h:=c13;omega)
 have hml0:=mksOf_len t c
 refine Rr (Bc1 3 [(36,.agg (clc c)),(35,.agg (tcs t))] 55 [.agg (tcs t),.agg (clc c)] 37 ((0+5<=5/\0<5)/\(0+5<=5/\0<5)/\·) ⟨dc,dc,PE.use (TrailOf_ok t c hw (by have:=hto;assumption) h1 h2) (Ke (Fn0 [1,6,9] [(11,.sl 2 ((mksOf t c).map mkc))] ?_))⟩)
 refine Rr (Pc0 2 [(38,.sl 2 (l.map mkc))] 39 (copyM_ok l hl om) (Fn0 [6,9,11] [(12,.sl 2 (l.map mkc))] (Sq fun K17 hK17=>?_)))
 refine Rr (Fn0 [6,9,11,12] [(13,.i 0)] (Bl (h_l (fun(z:Nat×List Mk)=>(match z with|(k,o)=>([(6,.ptr 8 0),(9,.ptr 12 0),(11,.sl 2 ((mksOf t c).map mkc)),(12,.sl 2 (o.map mkc)),(13,.i k)]:Fr))) (fun(z:Nat×List Mk)=>(match z with|(k,o)=>([(12,tcs ((sTreeDo t c).1)),(8,zt),(4,clc c),(0,tcs t)]:Hp))) (fun(z:Nat×List Mk) cn=>(match z with|(k,o)=>(k<=(mksOf t c).length/\CoL l ((mksOf t c).take k) o)/\cn=16)) (fun(z:Nat×List Mk)=>(mksOf t c).length-z.1) (0,l) kr ?_ ?_ ?_ ?_)))
 refine⟨?_,rfl⟩;exact⟨Nat.zero_le _,.nil l⟩
 exact⟨kr,kr,kr,kr,kr,trivial⟩
 exact(sub_c kr (sub_c kr (sub_c kr (sub_c kr (List.nil_sublist _)))))
 rintro⟨k,o⟩ n1 hI
 (try dsimp only at hI)
 obtain⟨⟨hi1,hi2⟩,rfl⟩:=hI
 refine Sq fun K19 hK19=>?_
 refine Rr (Av0 3 42 [(41,.sl 2 ((mksOf t c).map mkc)),(40,.i k)] (lnm (mksOf t c) mkc) (Cn1 (decide ((k:Int)<((mksOf t c).length:Int))) [6,9,11,12,13] [] (Ki/\·) ⟨rfl,fun hc21 c21=>?_,fun hc21 c21=>?_⟩))
 refine Sk (Jn (hK19 (Kp [6,9,11,12,13] (Sq fun K22 hK22=>?_))))
 refine Bl ?_
 have hmk:=getD_mem (mksOf t c) k default om
 have hok:=mksOf_ok (by assumption) hmk
 have hcl:=hi2.trl ht h6 fun m hm=>mksOf_ok (by assumption) (List.mem_of_mem_take hm)
 refine Rb (fun h=>Bn (Jn (hK22 h))) (Av1 4 49 [(48,.i k),(47,.sl 2 ((mksOf t c).map mkc)),(46,.sl 2 (o.map mkc))] (congrArg AV.pat (mg_mk (mksOf t c) k om)) ((2=2/\(0:Int)<=(k:Int)/\(k:Int)<(((mksOf t c).map mkc).length:Int))/\·) ⟨⟨rfl,om,lmo⟩,Bc1 2 [(50,.agg (mkc ((mksOf t c).getD k default)))] 56 [.sl 2 (o.map mkc),.agg (mkc ((mksOf t c).getD k default))] 51 ((2<=2/\0<2)/\·) ⟨dc,PC.use (sAdd_ok o ((mksOf t c).getD k default) hcl.1.wS om (by have:=mk_wS hok;omega)) fun r hr=>?_⟩⟩);obtain⟨ad23,rfl,had23⟩:=hr
 refine Ke (Fn0 [6,9,11,13] [(12,.sl 2 (ad23.map mkc))] (Rn (Av1 2 45 [(44,.i k)] (cI (wn1 k om)) (Ki/\·) ⟨rfl,Gn0 [(13,.i ((k+1:Nat):Int))] ?_⟩)))
 refine nk_n (Lr (k+1,ad23) [(0,0),(4,4),(8,8),(12,12)] 16 [(6,.ptr 8 0),(9,.ptr 12 0),(11,.sl 2 ((mksOf t c).map mkc)),(12,.sl 2 (ad23.map mkc)),(13,.i ((k+1:Nat):Int))] [(12,tcs ((sTreeDo t c).1)),(8,zt),(4,clc c),(0,tcs t)] [true,true,true,true] ?_ ?_ kr kr)
 (try dsimp only);omega
 refine ⟨?_, rfl⟩; (try dsimp only); exact ⟨om, by rw [take_snoc (mksOf t c) k default om]; exact .snoc hi2 (by
 rcases had23 with ⟨h,_⟩|⟨_,h,_⟩|⟨_,_,h⟩
 · rw[hcl.1.trOk hcl.2]at h;cases h
 · rw[hok]at h;cases h
 · exact h)⟩
 refine Xt (Jx (Lx (Bh (Jn (hK17 (Kp [6,9,12] (Rr (Fn3 [6] [(8,.i 0),(7,.sl 2 (o.map mkc))] (Hw [(8,tcs ((sTreeDo t c).1))] [] ·) 16 ((0+5<=5/\0<5)/\(true=true/\5=5/\0+5<=5)/\·) ⟨dc,dc,Rt1 ((0+5<=5/\0<5)/\·) (.tup [.agg (tcs ((sTreeDo t c).1)),.sl 2 (o.map mkc),.i 0]) ⟨dc,?_⟩⟩))))))))
 have htd:tDo t l c=sTreeDo t c:=by unfold tDo;rw[htr];rfl
 have hc0:(sTreeDo t c).2=0:=by have h:=c13;omega
 obtain rfl:k=(mksOf t c).length:=by omega
 rw[List.take_length]at hi2
 exact⟨[],List.nil_sublist _,_,lea_refl _,⟨o,by rw[htd,hc0],fun _=>⟨htr,hi2⟩,fun h=>absurd (by rw[htd,hc0]) h⟩,by simp only[go_sem,pur,purs,puress_mk,Bool.and_self]⟩
open Go Go.Proofs
set_option maxRecDepth 100000
theorem delM {α:Type} {fc:α->List AV} (hf:∀x,(fc x).length=2) (X:List α) (i c:Nat) (hi:i<X.length) (hX:X.length<2^36) (hc:X.length<=c):TCw 1 G 102 [.ocl 0 2 0 X.length c,.i i,.i ((i+1:Nat):Int)] [(0,fl fc X)] 4 (fun r H1 _=>∃tl,unc r=.osl 0 2 0 (X.take i++X.drop (i+1)).length/\hgt H1 0=some (fl fc (X.take i++X.drop (i+1))++tl)):=by
 have hfl:=fun l:List α=>fl_len' hf l
 refine TCw_enter (c:=bd Tryz.f102) Tryz.func102 kr kr (tt_eq (F:=[(0,.ocl 0 2 0 X.length c),(1,.i i),(2,.i ((i+1:Nat):Int))]) kr ?_)
 refine Rr (Fn0 [0,1,2] [] (Rr (Fn1 [0,1,2] [] ((2=2/\(0:Int)<=(i:Int)/\(i:Int)<=((i+1:Nat):Int)/\((i+1:Nat):Int)<=(X.length:Int)/\(X.length:Int)<=(c:Int))/\·) ⟨⟨rfl,om,om,om,om⟩,Sq fun K3 hK3=>?_⟩)))
 refine Rr (Cn1 (decide ((i:Int)=((i+1:Nat):Int))) [0,1,2] [] (Ki/\·) ⟨rfl,fun hc5 c5=>?_,fun hc5 c5=>?_⟩)
 exfalso;omega
 refine Sk (Jn (hK3 (Kp [0,1,2] (Rr (Fn0 [0,1,2] [(7,.i X.length)] (Sl [0,0,3,0,0,24,63] [(0,[]),(1,[]),(2,[]),(3,[]),(4,[]),(5,[]),(6,[])] fun K7 hK7=>?_))))))
 refine qAn3 7 [(26,.ocl 0 2 0 (i+(X.length-(i+1))) c),(25,.ocl 0 2 (0+(i+1)*2) (X.length-(i+1)) (c-(i+1))),(24,.i ((i+1:Nat):Int)),(23,.ocl 0 2 0 X.length c),(22,.ocl 0 2 0 i c),(21,.i i),(20,.ocl 0 2 0 X.length c)] (fun _=>[(0,spl (fl fc X) (i*2) (((fl fc X).drop (0+(i+1)*2)).take ((X.length-(i+1))*2)))]) 4 ((2=2/\0<=(0:Int)/\(0:Int)<=(i:Int)/\(i:Int)<=(c:Int))/\(2=2/\0<=(((i+1:Nat):Int):Int)/\(((i+1:Nat):Int):Int)<=(X.length:Int)/\(X.length:Int)<=(c:Int))/\(0+(i+1)*2+(X.length-(i+1))*2<=(fl fc X).length)/\(2=2/\i+(X.length-(i+1))<=c/\(i+(X.length-(i+1)))*2<=(fl fc X).length)/\(True)/\·) ⟨⟨rfl,om,om,om⟩,⟨rfl,om,om,om⟩,(by(first|omega|(simp only[LL,hfl,zrs_len'];omega))),⟨rfl,by(first|omega|(simp only[LL,hfl,zrs_len'];omega)),by(first|omega|(simp only[LL,hfl,zrs_len'];omega))⟩,trivial,runq_H (H':=[(0,fl fc (X.take i++X.drop (i+1))++fl fc (X.drop (X.length-1)))]) (by rw[show spl (fl fc X) (i*2) (((fl fc X).drop (0+(i+1)*2)).take ((X.length-(i+1))*2))=fl fc (X.take i++X.drop (i+1))++fl fc (X.drop (X.length-1))from(by rw[<-id1 hf X i om,Nat.zero_add,fl_drop hf,List.take_of_length_le (by rw[hfl,List.length_drop];omega)])]) (qGn0 [] (Lo 0 (.ocl 0 2 0 (i+(X.length-(i+1))) c) (fun Z=>Z) (hK7 _ _ _ ?_)))⟩
 refine Kp [0,7] (Rr (An3 6 [(31,.ocl 0 2 (0+(i+(X.length-(i+1)))*2) (X.length-(i+(X.length-(i+1)))) (c-(i+(X.length-(i+1))))),(30,.i X.length),(29,.i ((i+(X.length-(i+1)):Nat):Int)),(28,.ocl 0 2 0 (i+(X.length-(i+1))) c),(27,.ocl 0 2 0 (i+(X.length-(i+1))) c)] (fun _=>[(0,spl (fl fc (X.take i++X.drop (i+1))++fl fc (X.drop (X.length-1))) (0+(i+(X.length-(i+1)))*2) (zrs (X.length-(i+(X.length-(i+1)))) [.nils,.bool false]))]) 4 (fun Z=>(2=2/\0<=(((i+(X.length-(i+1)):Nat):Int):Int)/\(((i+(X.length-(i+1)):Nat):Int):Int)<=(X.length:Int)/\(X.length:Int)<=(c:Int))/\(2=2/\0+(i+(X.length-(i+1)))*2+(X.length-(i+(X.length-(i+1))))*2<=(fl fc (X.take i++X.drop (i+1))++fl fc (X.drop (X.length-1))).length)/\Z) ⟨⟨rfl,om,om,om⟩,⟨rfl,by(first|omega|(simp only[LL,hfl,zrs_len'];omega))⟩,run_H (H':=[(0,fl fc (X.take i++X.drop (i+1))++zrs 1 [.nils,.bool false])]) (by rw[show spl (fl fc (X.take i++X.drop (i+1))++fl fc (X.drop (X.length-1))) (0+(i+(X.length-(i+1)))*2) (zrs (X.length-(i+(X.length-(i+1)))) [.nils,.bool false])=fl fc (X.take i++X.drop (i+1))++zrs 1 [.nils,.bool false]from(by rw[<-id2 hf X i [.nils,.bool false] rfl om];congr 1<;>first|omega|(congr 1;omega))]) (Fn0 [0] [] ?_)⟩))
 refine Rr (Fn0 [] [(6,.ocl 0 2 0 (i+(X.length-(i+1))) c)] (Rt (.ocl 0 2 0 (i+(X.length-(i+1))) c) (⟨_,List.Sublist.refl _,zrs 1 [.nils,.bool false],?_,?_⟩)))
 · show AV.osl _ _ _ _=AV.osl _ _ _ _
   congr 1
   simp only[List.length_append,List.length_take,List.length_drop];omega
 · kernel_rfl
theorem addM_ok:∀(N:Nat) (l:List Mk) (m:Mk),lenM l+m.path.length=N->Trl l->mkOk m=true->l.length<=6->PC G 62 [.sl 2 (l.map mkc),.agg (mkc m)] (fun r=>∃l2,r=.sl 2 (l2.map mkc)/\Coar (putM l m) l2):=by
 intro N;refine Nat.strongRecOn N fun N ih=>?_;intro l m hN ht hmk hn;have hl:=ht.wS;have hm:wS m.path<2^40:=(by have:=mk_wS hmk;omega);have hml:=wS_len m.path
 refine h_pc (F:=[(0,.sl 2 (l.map mkc)),(1,.agg (mkc m))]) (by simp only[go_sem]) Tryz.func62 kr kr ?_ kr
 refine Rr (Fn2 [0] [(3,.ptr 0 0)] ([(0,mkc m)]++·) 4 (Sq fun K2 hK2=>?_))
 refine Rm 26 (addC l m) [0,3] ?_ ?_
 refine Bc1 4 [(14,pth m.path),(13,.ptr 0 0),(12,.sl 2 (l.map mkc))] 97 [.sl 2 (l.map mkc),pth m.path] 15 (((1:Nat)≠0)/\(0+1<=2/\0<2)/\·) ⟨dc,dc,?_⟩
 refine PE.use (under_ok l m.path hl om om) ?_
 refine Ke (An0 1 [(16,.bool (undM l m.path))] (Rg (fun hg4 g4=>?_) (fun hg4 g4=>?_)))
 refine Mn0 true (by unfold addC;first|(simp_all;done)|(rw[Bool.eq_iff_iff];simp_all;done))
 refine An1 4 [(20,.bool (!m.sub)),(19,.bool (!m.sub)),(18,.bool m.sub),(17,.ptr 0 1)] (((1:Nat)≠0)/\(1+1<=2/\1<2)/\·) ⟨dc,dc,Rg (fun hg5 g5=>?_) (fun hg5 g5=>?_)⟩
 refine Bc1 4 [(23,pth m.path),(22,.ptr 0 0),(21,.sl 2 (l.map mkc))] 99 [.sl 2 (l.map mkc),pth m.path] 24 (((1:Nat)≠0)/\(0+1<=2/\0<2)/\·) ⟨dc,dc,?_⟩
 refine PE.use (marked_ok l m.path hl om om) ?_
 refine Ke (Mn0 (mrkM l m.path) (by unfold addC;first|(simp_all;done)|(rw[Bool.eq_iff_iff];simp_all;done)))
 refine Mn0 false (by unfold addC;first|(simp_all;done)|(rw[Bool.eq_iff_iff];simp_all;done))
 refine Cc (addC l m) (fun hc6 c6=>?_) fun hc6 c6=>?_
 refine Rr (Fn0 [] [(4,.sl 2 (l.map mkc))] (Rt (.sl 2 (l.map mkc)) ?_))
 · have hp:putM l m=l:=if_pos hc6
   exact⟨[],List.nil_sublist _,_,lea_refl _,⟨l,rfl,(by rw[hp];exact .done hn)⟩,by simp only[pur,puress_mk]⟩
 refine Sk (Jn (hK2 (Kp [0,3] (Rr (Fn3 [0,3] [(5,.osl 4 2 0 0)] ([(4,[])]++·) 8 ((0*2<=16777216)/\·) ⟨dc,Sq fun K9 hK9=>?_⟩)))))
 refine Rr (Av0 2 30 [(29,.sl 2 (l.map mkc))] (lnm l mkc) (Fn0 [3,5,29,30] [(31,.i 0)] (Bl (h_l (fun(k:Nat)=>([(3,.ptr 0 0),(5,.osl 4 2 0 (((l.take k).filter (keepM m)).length)),(29,.sl 2 (l.map mkc)),(30,.i l.length),(31,.i k)]:Fr)) (fun(k:Nat)=>([(4,fl mkc ((l.take k).filter (keepM m))),(0,mkc m)]:Hp)) (fun(k:Nat) cn=>(k<=l.length)/\cn=8) (fun(k:Nat)=>l.length-k) 0 kr ?_ ?_ ?_ ?_))))
 refine⟨?_,rfl⟩;exact Nat.zero_le _
 exact⟨kr,kr,kr,kr,kr,trivial⟩
 exact(sub_c kr (sub_c kr (List.nil_sublist _)))
 rintro k n1 hI
 (try dsimp only at hI)
 obtain⟨hi1,rfl⟩:=hI
 refine Rr (Fn1 [3,5,29,30,31] [(32,.bool (decide ((k:Int)<(l.length:Int))))] (Ki/\·) ⟨rfl,Sq fun K12 hK12=>?_⟩)
 refine Cc (decide ((k:Int)<(l.length:Int))) (fun hc13 c13=>?_) fun hc13 c13=>?_
 refine Sk (Jn (hK12 (Kp [3,5,29,30,31] (Sq fun K14 hK14=>?_))))
 refine Bl (Rr (Av1 1 33 [] (congrArg AV.pat (mg_mk l k om)) ((2=2/\(0:Int)<=(k:Int)/\(k:Int)<((l.map mkc).length:Int))/\·) ⟨⟨rfl,om,lmo⟩,Fn3 [3,5,29,30,31] [(7,.ptr 8 0)] ([(8,mkc (l.getD k default))]++·) 12 ((2<=2/\0<2)/\(true=true/\2=2/\0+2<=2)/\·) ⟨dc,dc,?_⟩⟩))
 have hgm:=hl _ (getD_mem l k default om);have hgl:=wS_len (l.getD k default).path
 refine Rm 45 (keepM m (l.getD k default)) [3,5,7,29,30,31] ?_ ?_
 refine An1 4 [(38,.bool (!m.sub)),(37,.bool (!m.sub)),(36,.bool m.sub),(35,.ptr 0 1)] (((1:Nat)≠0)/\(1+1<=2/\1<2)/\·) ⟨dc,dc,Rg (fun hg17 g17=>?_) (fun hg17 g17=>?_)⟩
 refine Mn0 true (by unfold keepM;first|(simp_all;done)|(rw[Bool.eq_iff_iff];simp_all;done))
 refine Bc1 5 [(42,pth m.path),(41,.ptr 0 0),(40,pth ((l.getD k default).path)),(39,.ptr 8 0)] 84 [pth ((l.getD k default).path),pth m.path] 43 (((1:Nat)≠0)/\(0+1<=2/\0<2)/\((1:Nat)≠0)/\(0+1<=2/\0<2)/\·) ⟨dc,dc,dc,dc,?_⟩
 refine PE.use (begins_ok ((l.getD k default).path) m.path om om) ?_
 refine Ke (Mn0 (!(m.path.isPrefixOf ((l.getD k default).path))) (by unfold keepM;first|(simp_all;done)|(rw[Bool.eq_iff_iff];simp_all;done)))
 refine Cc (keepM m (l.getD k default)) (fun hc18 c18=>?_) fun hc18 c18=>?_
 have hflt:=List.length_filter_le (keepM m) (l.take k);have htk:(l.take k).length<=l.length:=by rw[List.length_take];omega
 refine Rb (fun h=>Bn (Jn (hK14 h))) (An3 4 [(49,.osl 16 2 0 (((l.take k).filter (keepM m)).length+1)),(48,.osl 12 2 0 1),(47,.agg (mkc (l.getD k default))),(46,.osl 4 2 0 (((l.take k).filter (keepM m)).length))] ([(16,apd (fl mkc ((l.take k).filter (keepM m))) (((l.take k).filter (keepM m)).length*2) (mkc (l.getD k default))),(12,mkc (l.getD k default))]++Hw [] [4] ·) 20 ((0+2<=2/\0<2)/\(1*2<=16777216)/\(0+1*2<=2)/\(2=2/\((l.take k).filter (keepM m)).length*2<=(fl mkc ((l.take k).filter (keepM m))).length/\0<32/\(((l.take k).filter (keepM m)).length+1)*32<=140737488355328)/\·) ⟨dc,dc,dc,⟨rfl,by(first|omega|(simp only[LL,flMl];omega)),dc,by(first|omega|(simp only[LL,flMl];omega))⟩,run_v (v':=.osl 16 2 0 (((l.take k).filter (keepM m)++[(l.getD k default)]).length)) (push_len _ _ _ _) (run_h (cs':=fl mkc ((l.take k).filter (keepM m)++[(l.getD k default)])) (push_mk ((l.take k).filter (keepM m)) (l.getD k default)) (Fn0 [3,29,30,31] [(5,.osl 16 2 0 (((l.take k).filter (keepM m)++[(l.getD k default)]).length))] ?_))⟩)
 refine Rn (Av1 1 50 [] (cI (wn1 k om)) (Ki/\·) ⟨rfl,Gn0 [(31,.i ((k+1:Nat):Int))] (nk_n (Lr (k+1) [(0,0),(16,4)] 8 [(3,.ptr 0 0),(5,.osl 16 2 0 (((l.take k).filter (keepM m)++[(l.getD k default)]).length)),(29,.sl 2 (l.map mkc)),(30,.i l.length),(31,.i ((k+1:Nat):Int))] [(16,fl mkc ((l.take k).filter (keepM m)++[(l.getD k default)])),(0,mkc m)] [false,true] ?_ ?_ (by(try ((try dsimp only);rw[filt_t om hc18]));try kernel_rfl) (by(try ((try dsimp only);rw[filt_t om hc18]));try kernel_rfl)))⟩)
 (try dsimp only);omega
 refine⟨?_,rfl⟩;(try dsimp only);omega
 refine Sk (Bn (Jn (hK14 (Kp [3,5,29,30,31] (Rn (Av1 1 50 [] (cI (wn1 k om)) (Ki/\·) ⟨rfl,Gn0 [(31,.i ((k+1:Nat):Int))] (nk_n ?_)⟩))))))
 refine Lr (k+1) [(0,0),(4,4)] 8 [(3,.ptr 0 0),(5,.osl 4 2 0 (((l.take k).filter (keepM m)).length)),(29,.sl 2 (l.map mkc)),(30,.i l.length),(31,.i ((k+1:Nat):Int))] [(4,fl mkc ((l.take k).filter (keepM m))),(0,mkc m)] [false,true] ?_ ?_ (by(try ((try dsimp only);rw[filt_f om hc18]));try kernel_rfl) (by(try ((try dsimp only);rw[filt_f om hc18]));try kernel_rfl)
 (try dsimp only);omega
 refine⟨?_,rfl⟩;(try dsimp only);omega
 refine Xt (Jx (Lx (Bh (Jn (hK9 (Kp [3,5] ?_))))))
 have hlA:∀q∈(l.take k).filter (keepM m)++[m],wS q.path<2^40:=by
   intro q hq
   rcases List.mem_append.1 hq with h|h
   · exact hl _ (List.mem_of_mem_take (List.mem_filter.1 h).1)
   · rw[List.mem_singleton]at h;subst h;exact hm
 have hflt:=List.length_filter_le (keepM m) (l.take k)
 have htk:(l.take k).length<=l.length:=by rw[List.length_take];omega
 have hall:((l.take k).filter (keepM m)++[m]).length<=12:=by rw[List.length_append,List.length_singleton];omega
 refine Rr (An3 4 [(54,.osl 12 2 0 (((l.take k).filter (keepM m)).length+1)),(53,.osl 8 2 0 1),(52,.agg (mkc m)),(51,.osl 4 2 0 (((l.take k).filter (keepM m)).length))] ([(12,apd (fl mkc ((l.take k).filter (keepM m))) (((l.take k).filter (keepM m)).length*2) (mkc m)),(8,mkc m)]++Hw [] [4] ·) 16 ((0+2<=2/\0<2)/\(1*2<=16777216)/\(0+1*2<=2)/\(2=2/\((l.take k).filter (keepM m)).length*2<=(fl mkc ((l.take k).filter (keepM m))).length/\0<32/\(((l.take k).filter (keepM m)).length+1)*32<=140737488355328)/\·) ⟨dc,dc,dc,⟨rfl,by(first|omega|(simp only[LL,flMl];omega)),dc,by(first|omega|(simp only[LL,flMl];omega))⟩,run_v (v':=.osl 12 2 0 (((l.take k).filter (keepM m)++[m]).length)) (push_len _ _ _ _) (run_h (cs':=fl mkc ((l.take k).filter (keepM m)++[m])) (push_mk ((l.take k).filter (keepM m)) m) (Fn0 [] [(5,.osl 12 2 0 (((l.take k).filter (keepM m)++[m]).length))] ?_))⟩)
 refine Rr (Bc0 2 [(55,.osl 12 2 0 (((l.take k).filter (keepM m)++[m]).length))] 100 [.osl 12 2 0 (((l.take k).filter (keepM m)++[m]).length),.fn (.func 101) []] 56 (XC.use (a:=fun i=>.osl i 2 0 ((l.take k).filter (keepM m)++[m]).length) (SortM_ok ((l.take k).filter (keepM m)++[m]) hlA om) kr fun r cs hr=>?_));obtain⟨Y21,rfl,hpY21,hsY21⟩:=hr.2;obtain rfl:=hr.1
 refine Ke (Fn0 [5] [] (h_k [5] (F':=[(5,.osl 12 2 0 (((l.take k).filter (keepM m)++[m]).length))]) kr (h_st (F':=[(5,.osl 12 2 0 Y21.length)]) (H':=[(12,fl mkc Y21),(8,mkc m),(0,mkc m)]) (by rw[hpY21.length_eq]) rfl ?_)))
 have hY:Y21=putM l m:=AddR.put ht hmk (.inr ⟨hc6,by have h:=hpY21;rw[List.take_of_length_le om]at h;exact h,hsY21⟩)
 subst hY
 have hpl:=putM_len l m;have hTp:=putM_trl ht hmk;have hlp:=hTp.wS;have hpm:=lenM_put l m
 refine Sq fun K22 hK22=>?_
 refine Bl (h_l (fun(z:Option (List Mk))=>(match z with|none=>([(5,.osl 12 2 0 ((putM l m).length))]:Fr)|some r=>([(5,.sl 2 (r.map mkc))]:Fr))) (fun(z:Option (List Mk))=>(match z with|none=>([(12,fl mkc (putM l m)),(0,mkc m)]:Hp)|some r=>([(0,mkc m)]:Hp))) (fun(z:Option (List Mk)) cn=>(match z with|none=>(True)/\cn=16|some r=>(Coar (putM l m) r/\r.length<=6)/\cn=4)) (fun(z:Option (List Mk))=>(match z with|none=>1|some _=>0)) none kr ?_ ?_ ?_ ?_)
 refine⟨?_,rfl⟩;trivial
 exact⟨kr,trivial⟩
 exact(sub_c kr (List.Sublist.cons _ (sub_c kr (List.nil_sublist _))))
 rintro(_|r) n1 hI
 (try dsimp only at hI)
 obtain⟨-,rfl⟩:=hI
 dsimp only
 refine Sq fun K23 hK23=>?_
 refine Rr (Cn1 (decide ((6:Int)<(((putM l m).length:Int):Int))) [5] [] (Ki/\·) ⟨rfl,fun hc25 c25=>?_,fun hc25 c25=>?_⟩)
 refine Sk (Jn (hK23 (Kp [5] (Bl (Rr (Fn0 [5] [(8,.i 0)] (Sq fun K27 hK27=>?_)))))))
 refine Rr (Fn0 [5,8] [(62,.i 0),(61,.i ((putM l m).length:Int)),(60,.osl 12 2 0 ((putM l m).length))] (Bl (h_l (fun(k:Nat)=>([(5,.osl 12 2 0 ((putM l m).length)),(8,.i ((bestF (putM l m) k:Nat):Int)),(60,.osl 12 2 0 ((putM l m).length)),(61,.i ((putM l m).length:Int)),(62,.i k)]:Fr)) (fun(k:Nat)=>([(12,fl mkc (putM l m)),(0,mkc m)]:Hp)) (fun(k:Nat) cn=>(k<=(putM l m).length)/\cn=16) (fun(k:Nat)=>(putM l m).length-k) 0 kr ?_ ?_ ?_ ?_)))
 refine⟨?_,rfl⟩;exact Nat.zero_le _
 exact⟨kr,kr,kr,kr,kr,trivial⟩
 exact(sub_c kr (sub_c kr (List.nil_sublist _)))
 rintro k n1 hI
 (try dsimp only at hI)
 obtain⟨hb1,rfl⟩:=hI
 refine Rr (Fn1 [5,8,60,61,62] [(63,.bool (decide ((k:Int)<((putM l m).length:Int))))] (Ki/\·) ⟨rfl,Sq fun K30 hK30=>?_⟩)
 refine Cc (decide ((k:Int)<((putM l m).length:Int))) (fun hc31 c31=>?_) fun hc31 c31=>?_
 refine Sk (Jn (hK30 (Kp [5,8,60,61,62] (Sq fun K32 hK32=>?_))))
 refine Bl (Rr (Av1 (r:=.agg (((fl mkc (putM l m)).drop (0+k*2)).take 2)) (v:=.agg (mkc ((putM l m).getD k default))) 3 66 [(65,.ptr 12 (0+k*2)),(64,.i k)] (congrArg AV.agg (rowM_get (putM l m) k om)) ((2=2/\(0:Int)<=(k:Int)/\(k:Int)<((putM l m).length:Int))/\(0+k*2+2<=(fl mkc (putM l m)).length/\0+k*2<(fl mkc (putM l m)).length)/\·) ⟨⟨rfl,om,om⟩,⟨by rw[flMl];omega,by rw[flMl];omega⟩,Fn3 [5,8,60,61,62] [(9,.i k),(10,.ptr 16 0)] ([(16,mkc ((putM l m).getD k default))]++·) 20 ((true=true/\2=2/\0+2<=2)/\·) ⟨dc,?_⟩⟩))
 have hbb:bestF (putM l m) k<(putM l m).length:=by
   rcases Nat.eq_zero_or_pos k with rfl|h
   · simp[bestF];omega
   · have:=bestF_lt (putM l m) k h;omega
 have hg1:=hlp _ (getD_mem (putM l m) k default om);have hg2:=hlp _ (getD_mem (putM l m) (bestF (putM l m) k) default hbb);have hg3:=wS_len ((putM l m).getD k default).path;have hg4:=wS_len ((putM l m).getD (bestF (putM l m) k) default).path
 refine Qr [0,1,3,0,0,24,56,120,248,511] [(0,[]),(1,[]),(2,[]),(3,[]),(4,[]),(5,[]),(6,[]),(7,[]),(8,[]),(9,[])] (qAv1 3 69 [(68,pth (((putM l m).getD k default).path)),(67,.ptr 16 0)] (lnm (((putM l m).getD k default).path) sc) (((1:Nat)≠0)/\(0+1<=2/\0<2)/\·) ⟨dc,dc,qAv1 (r:=((fl mkc (putM l m)).getD (0+(bestF (putM l m) k)*2) .dead)) (v:=pth (((putM l m).getD (bestF (putM l m) k) default).path)) 5 74 [(73,.ptr 12 (0+(bestF (putM l m) k)*2)),(72,.ptr 12 (0+(bestF (putM l m) k)*2)),(71,.i ((bestF (putM l m) k:Nat):Int)),(70,.osl 12 2 0 ((putM l m).length))] (rowM_fld (putM l m) (bestF (putM l m) k) 0 om dc) ((2=2/\(0:Int)<=((bestF (putM l m) k:Nat):Int)/\((bestF (putM l m) k:Nat):Int)<((putM l m).length:Int))/\((1:Nat)≠0)/\(0+(bestF (putM l m) k)*2+1<=(fl mkc (putM l m)).length/\0+(bestF (putM l m) k)*2<(fl mkc (putM l m)).length)/\·) ⟨⟨rfl,om,om⟩,dc,⟨by rw[flMl];omega,by rw[flMl];omega⟩,qAv0 1 75 [] (lnm (((putM l m).getD (bestF (putM l m) k) default).path) sc) (qCn1 (decide ((((((putM l m).getD (bestF (putM l m) k) default).path).length:Nat):Int)<=(((((putM l m).getD k default).path).length:Nat):Int))) [5,8,9,60,61,62] [] (Ki/\·) ⟨rfl,fun hc35 c35=>?_,fun hc35 c35=>?_⟩)⟩⟩)
 refine Rb (fun h=>Bn (Jn (hK32 h))) (Fn0 [5,60,61,62] [(8,.i k)] (Rn (Av1 1 78 [] (cI (wn1 k om)) (Ki/\·) ⟨rfl,Gn0 [(62,.i ((k+1:Nat):Int))] ?_⟩)))
 refine nk_n (Lr (k+1) [(0,0),(12,12)] 16 [(5,.osl 12 2 0 ((putM l m).length)),(8,.i k),(60,.osl 12 2 0 ((putM l m).length)),(61,.i ((putM l m).length:Int)),(62,.i ((k+1:Nat):Int))] [(12,fl mkc (putM l m)),(0,mkc m)] [false,true] ?_ ?_ kr (by(try ((try dsimp only);rw[show bestF (putM l m) (k+1)=k by rw[bestF_suc,if_pos om]]));try kernel_rfl))
 (try dsimp only);omega
 refine⟨?_,rfl⟩;(try dsimp only);omega
 refine Sk (Bn (Jn (hK32 (Kp [5,8,60,61,62] (Rn (Av1 1 78 [] (cI (wn1 k om)) (Ki/\·) ⟨rfl,Gn0 [(62,.i ((k+1:Nat):Int))] (nk_n ?_)⟩))))))
 refine Lr (k+1) [(0,0),(12,12)] 16 [(5,.osl 12 2 0 ((putM l m).length)),(8,.i ((bestF (putM l m) k:Nat):Int)),(60,.osl 12 2 0 ((putM l m).length)),(61,.i ((putM l m).length:Int)),(62,.i ((k+1:Nat):Int))] [(12,fl mkc (putM l m)),(0,mkc m)] [false,true] ?_ ?_ kr (by(try ((try dsimp only);rw[show bestF (putM l m) (k+1)=bestF (putM l m) k by rw[bestF_suc,if_neg om]]));try kernel_rfl)
 (try dsimp only);omega
 refine⟨?_,rfl⟩;(try dsimp only);omega
 refine Xt (Jx (Lx (Bh (Jn (hK27 (Kp [5,8] ?_))))))
 have hbb:=bestF_lt (putM l m) k om;have hg2:=hlp _ (getD_mem (putM l m) (bestF (putM l m) k) default om);have hg4:=wS_len ((putM l m).getD (bestF (putM l m) k) default).path
 refine Rr (Av1 (r:=((fl mkc (putM l m)).getD (0+(bestF (putM l m) k)*2) .dead)) (v:=pth (((putM l m).getD (bestF (putM l m) k) default).path)) 5 83 [(82,.ptr 12 (0+(bestF (putM l m) k)*2)),(81,.ptr 12 (0+(bestF (putM l m) k)*2)),(80,.i ((bestF (putM l m) k:Nat):Int)),(79,.osl 12 2 0 ((putM l m).length))] (rowM_fld (putM l m) (bestF (putM l m) k) 0 om dc) ((2=2/\(0:Int)<=((bestF (putM l m) k:Nat):Int)/\((bestF (putM l m) k:Nat):Int)<((putM l m).length:Int))/\((1:Nat)≠0)/\(0+(bestF (putM l m) k)*2+1<=(fl mkc (putM l m)).length/\0+(bestF (putM l m) k)*2<(fl mkc (putM l m)).length)/\·) ⟨⟨rfl,om,om⟩,dc,⟨by rw[flMl];omega,by rw[flMl];omega⟩,Fn0 [5,8] [(11,pth (((putM l m).getD (bestF (putM l m) k) default).path))] (Rr (Av1 4 87 [(86,.i ((bestF (putM l m) k:Nat):Int)),(85,.i ((bestF (putM l m) k:Nat):Int)),(84,.osl 12 2 0 ((putM l m).length))] (cI (wn1 (bestF (putM l m) k) om)) (Ki/\·) ⟨rfl,?_⟩))⟩)
 refine Bc0 1 [] 102 [.osl 12 2 0 ((putM l m).length),.i ((bestF (putM l m) k:Nat):Int),.i (((bestF (putM l m) k)+1:Nat):Int)] 88 ?_
 refine xd_use (X:=(putM l m)) (Y:=(putM l m).take (bestF (putM l m) k)++(putM l m).drop ((bestF (putM l m) k)+1)) (by simp only[go_sem,purs,pur,Bool.and_self]) (purs_flM _) (purs_flM _) (fun c hc=>delM mkc_len (putM l m) (bestF (putM l m) k) c om om hc) kr ?_
 refine Ke (Fn0 [11] [(5,.osl 12 2 0 (((putM l m).take (bestF (putM l m) k)++(putM l m).drop ((bestF (putM l m) k)+1)).length))] ?_)
 have hke:k=(putM l m).length:=by omega
 have hpos:=best_pos hTp om
 have hbk:bestM (putM l m)=(putM l m).getD (bestF (putM l m) k) default:=by rw[hke];rfl
 have hbb:=bestF_lt (putM l m) k om
 have hp2:0<((putM l m).getD (bestF (putM l m) k) default).path.length:=hbk▸hpos
 refine Rn (Av0 4 92 [(91,pth (((putM l m).getD (bestF (putM l m) k) default).path)),(90,pth (((putM l m).getD (bestF (putM l m) k) default).path)),(89,.osl 12 2 0 (((putM l m).take (bestF (putM l m) k)++(putM l m).drop ((bestF (putM l m) k)+1)).length))] (lnm (((putM l m).getD (bestF (putM l m) k) default).path) sc) (Av1 (r:=.i (IntKind.i64.wrap ((((((putM l m).getD (bestF (putM l m) k) default).path).length:Nat):Int)-1))) (v:=.i ((((((putM l m).getD (bestF (putM l m) k) default).path).length:Nat):Int)-1)) 1 93 [] (cI (wrap64 om om)) (Ki/\·) ⟨rfl,Av1 (r:=.sl 1 ((((((putM l m).getD (bestF (putM l m) k) default).path).map (fun s=>[AV.str s])).take (((((((putM l m).getD (bestF (putM l m) k) default).path).length:Nat):Int)-1).toNat)).drop 0)) (v:=pth ((((putM l m).getD (bestF (putM l m) k) default).path).take (((((((putM l m).getD (bestF (putM l m) k) default).path).length:Nat):Int)-1).toNat))) 1 94 [] (congrArg (AV.sl 1) (slm_0 _ _ _)) (fun Z=>(1=1/\0<=(0:Int)/\(0:Int)<=((((((putM l m).getD (bestF (putM l m) k) default).path).length:Nat):Int)-1)/\((((((putM l m).getD (bestF (putM l m) k) default).path).length:Nat):Int)-1)<=((((((putM l m).getD (bestF (putM l m) k) default).path).map (fun s=>[AV.str s])).length:Nat):Int))/\Z) ⟨⟨rfl,om,by(try rw[List.length_map]);omega,lmo⟩,Bc0 2 [(95,.agg [pth ((((putM l m).getD (bestF (putM l m) k) default).path).take (((((((putM l m).getD (bestF (putM l m) k) default).path).length:Nat):Int)-1).toNat)),.bool true])] 62 [.osl 12 2 0 (((putM l m).take (bestF (putM l m) k)++(putM l m).drop ((bestF (putM l m) k)+1)).length),.agg [pth ((((putM l m).getD (bestF (putM l m) k) default).path).take (((((((putM l m).getD (bestF (putM l m) k) default).path).length:Nat):Int)-1).toNat)),.bool true]] 96 ?_⟩⟩))
 refine Tz 12 2 (((putM l m).take (bestF (putM l m) k)++(putM l m).drop ((bestF (putM l m) k)+1)).length) (((putM l m).take (bestF (putM l m) k)++(putM l m).drop ((bestF (putM l m) k)+1)).map mkc) (fl mkc ((putM l m).take (bestF (putM l m) k)++(putM l m).drop ((bestF (putM l m) k)+1))) [.sl 2 (((putM l m).take (bestF (putM l m) k)++(putM l m).drop ((bestF (putM l m) k)+1)).map mkc),.agg [pth ((((putM l m).getD (bestF (putM l m) k) default).path).take (((((((putM l m).getD (bestF (putM l m) k) default).path).length:Nat):Int)-1).toNat)),.bool true]] [(0,mkc m)] [true] (chkM _) (flM_le _) ?_
 have heM:(Mk.mk ((((putM l m).getD (bestF (putM l m) k) default).path).take (((((((putM l m).getD (bestF (putM l m) k) default).path).length:Nat):Int)-1).toNat)) true)=parM (bestM (putM l m)):=by rw[hbk]at hpos⊢;unfold parM;congr 2;omega
 have hlt:lenM ((putM l m).take (bestF (putM l m) k)++(putM l m).drop ((bestF (putM l m) k)+1))+(parM (bestM (putM l m))).path.length<N:=by have h:=lenM_erase (l:=putM l m) om hpos;rw[<-hke]at h;omega
 have hpk:mkOk (parM (bestM (putM l m)))=true:=par_ok (hTp.ok _ (best_mem om))
 have hl6:((putM l m).take (bestF (putM l m) k)++(putM l m).drop ((bestF (putM l m) k)+1)).length<=6:=by rw[List.length_append,List.length_take,List.length_drop];omega
 refine PC.use (ih _ (by rw[heM];exact hlt) ((putM l m).take (bestF (putM l m) k)++(putM l m).drop ((bestF (putM l m) k)+1)) (Mk.mk ((((putM l m).getD (bestF (putM l m) k) default).path).take (((((((putM l m).getD (bestF (putM l m) k) default).path).length:Nat):Int)-1).toNat)) true) rfl (erase_trl hTp _) (by rw[heM];exact hpk) hl6) fun r hr=>?_
 obtain⟨ad38,rfl,had38⟩:=hr
 refine Ke (Gn0 [(5,.sl 2 (ad38.map mkc))] (nk_n (Bn (Lr (some ad38) [(0,0)] 4 [(5,.sl 2 (ad38.map mkc))] [(0,mkc m)] [true] ?_ ?_ kr kr))))
 (try dsimp only);omega
 refine⟨?_,rfl⟩;(try dsimp only)
 have e:=putM_erase hTp om hpos;rw[<-hke,<-heM]at e
 rw[e,heM]at had38
 exact⟨.step om had38,(had38.trl (putM_trl hTp hpk)).2⟩
 refine Xt (Jx (Lx (Bh (Jn (hK22 (Kp [5] (Rr (Fn0 [] [(4,.osl 12 2 0 ((putM l m).length))] (Fz 12 2 ((putM l m).length) ((putM l m).map mkc) (fl mkc (putM l m)) [(4,.osl 12 2 0 ((putM l m).length))] [] [] (chkM _) (flM_le _) (Rt (.sl 2 ((putM l m).map mkc)) ?_))))))))))
 · exact⟨[],List.nil_sublist _,_,lea_refl _,⟨(putM l m),rfl,(.done om)⟩,by simp only[pur,puress_mk]⟩
 (try dsimp only at hI)
 obtain⟨⟨hi1,hi2⟩,rfl⟩:=hI
 dsimp only
 refine Sq fun K40 hK40=>?_
 refine Rr (Av0 2 58 [(57,.sl 2 (r.map mkc))] (lnm r mkc) (Cn1 (decide ((6:Int)<((r.length:Int):Int))) [5] [] (Ki/\·) ⟨rfl,fun hc42 c42=>?_,fun hc42 c42=>?_⟩))
 omega
 refine Xt (Jx (Lx (Bh (Jn (hK22 (Kp [5] (Rr (Fn0 [] [(4,.sl 2 (r.map mkc))] (Rt (.sl 2 (r.map mkc)) ?_)))))))))
 exact⟨[],List.nil_sublist _,_,lea_refl _,⟨r,rfl,hi1⟩,by simp only[pur,puress_mk]⟩
open Go Go.Proofs
set_option maxRecDepth 100000
theorem sT_ne {t:Tr} {c:Cl} (h:treeOk t=true):(sTreeDo t c).2≠1:=by
  intro hc;have:=sT_none hc
  unfold sTreeDo at hc
  rw[h]at hc
  cases hk:callOk c with
  |false=>rw[hk]at hc;exact absurd (show(2:Int)=1 from hc) dc
  |true=>rw[hk]at hc;exact absurd hc (sDo_ne t c)
def rnF3 (m:List (Nat×Nat)):Fr->Fr->Prop
 |[],[]=>True
 |(k,v)::F,(k',v')::F'=>k=k'/\((rn m v=v'/\slp v)\/(v=v'/\od v))/\rnF3 m F F'
 |_,_=>False
theorem rnF3_gt {m:List (Nat×Nat)}:∀{F F':Fr},rnF3 m F F'->∀t,(rn m (gt F t)=gt F' t/\slp (gt F t))\/(gt F t=gt F' t/\od (gt F t))
 |[],[],_,t=>.inl ⟨by simp[gt,rn],by simp[gt,slp]⟩
 |(k,v)::F,(k',v')::F',h,t=>by
  obtain⟨rfl,h1,h2⟩:=h
  simp only[gt]
  cases k==t
  ·exact rnF3_gt h2 t
  ·exact h1
 |[],_::_,h,_=>by simp only[rnF3]at h
 |_::_,[],h,_=>by simp only[rnF3]at h
theorem lsz_mk3 {np:Nat} {σ:Type} {Fi:σ->Fr} {Hi:σ->Hp} {I:σ->Nat->Prop} {m:σ->Nat} {x:σ} {Q:Post} {F:Fr} {H:Hp} {n:Nat} (y:σ) (mp:List (Nat×Nat)) (n':Nat) (F1:Fr) (H1 Hf Z:Hp)
  (h1:m y<m x) (h2:I y n') (h3:okm mp n'=true/\okp mp np=true) (h4:fsub F1 F) (h5:∃H0:Hp,H0.Perm H/\(H1++Z).Sublist H0) (h6:rnF3 mp F1 (Fi y)) (h7:rnR3 mp H1 Hf) (h8:Hf++Z=Hi y) (h9:odH Z):LS np Fi Hi I m x Q .normal F H n:=by
 refine⟨y,h1,n',h2,fun X N ρ a w hs=>?_⟩
 obtain⟨H0,hpm,hsub⟩:=h5
 have hs1:=(hs.perm hpm).sub hsub h4
 obtain⟨k1,k2,k3⟩:=S.rnz (F:=[]) (F':=[]) (np:=np) h3.1 h3.2 ⟨trivial,rfl⟩ h7 h9 (hs1.sub (List.Sublist.refl _) trivial)
 rw[h8]at k1 k2
 have hO:∀b,OX X (rnr mp ρ) (Hi y) b->OX X ρ (H1++Z) b:=fun b hb=>hb.imp id (k2 b)
 refine⟨_,⟨k1.fresh,k1.hr,fun t=>?_,k1.df,k1.sz⟩,fun b hb=>by obtain⟨i,hi,hb⟩:=Own.sub hsub (k2 b hb);exact⟨i,(ids_perm hpm i).1 hi,hb⟩,k3⟩
 rcases rnF3_gt h6 t with ⟨e,h⟩|⟨e,h⟩
 ·rw[<-e];exact rn_vr h3.1 hO _ _ h (hs1.fr t)
 ·rw[<-e];exact od_vr (fun i b hi hb=>by unfold rnr;rw[if_pos hi];exact hb) hO _ _ h (hs1.fr t)
set_option maxRecDepth 100000
def Rd (Z:Hp) (a a':AV):Prop:=∀(H:Hp) (X:Nat->Prop) (ρ:Rho) (w:World) (v:Value) (X':Nat->Prop),HR X ρ w H->(∀p,p∈Z->p∈H)->(∀b,X' b->OX X ρ H b)->(∀i b,i∈ids Z->ρ i=some b->¬X' b)->VR ρ w (OX X ρ H) a v->VR ρ w X' a' v
def Rds (Z:Hp):List AV->List AV->Prop
 |[],[]=>True
 |a::xs,b::bs=>Rd Z a b/\Rds Z xs bs
 |_,_=>False
theorem Rds_vr {Z H:Hp} {X:Nat->Prop} {ρ:Rho} {w:World} {X':Nat->Prop} (hr:HR X ρ w H) (h1:∀p,p∈Z->p∈H) (h2:∀b,X' b->OX X ρ H b) (h3:∀i b,i∈ids Z->ρ i=some b->¬X' b):∀(xs bs:List AV) (vs:List Value),Rds Z xs bs->VRs ρ w (OX X ρ H) xs vs->VRs ρ w X' bs vs
 |[],[],vs,_,hv=>by cases vs with|nil=>exact hv|cons _ _=>simp only[VRs]at hv
 |a::xs,b::bs,v::vs,h,hv=>by
  simp only[VRs]at hv⊢
  exact⟨h.1 H X ρ w v X' hr h1 h2 h3 hv.1,Rds_vr hr h1 h2 h3 xs bs vs h.2 hv.2⟩
 |_::_,_::_,[],_,hv=>by simp only[VRs]at hv
 |[],_::_,_,h,_=>by simp only[Rds]at h
 |_::_,[],_,h,_=>by simp only[Rds]at h
theorem Rd.sub {Z Z':Hp} {a b:AV} (h:Rd Z a b) (hs:∀p,p∈Z->p∈Z'):Rd Z' a b:=fun H X ρ w v X' hr h1 h2 h3 hv=>
 h H X ρ w v X' hr (fun p hp=>h1 p (hs p hp)) h2 (fun i b hi hb=>h3 i b (by obtain⟨p,hp,rfl⟩:=List.mem_map.1 hi;exact List.mem_map.2 ⟨p,hs p hp,rfl⟩) hb) hv
theorem Rd_pur {Z:Hp} {a:AV} (h:pur a=true):Rd Z a a:=fun H X ρ w v X' hr h1 h2 h3 hv=>pur_vr a v h (VR_carry (Carry.less h2) _ _ hv)
theorem Rds_pur {Z:Hp}:∀{xs:List AV},purs xs=true->Rds Z xs xs
 |[],_=>trivial
 |a::xs,h=>by simp only[purs,Bool.and_eq_true]at h;exact⟨Rd_pur h.1,Rds_pur h.2⟩
theorem Rds_app {Z:Hp}:∀{xs bs xs' bs':List AV},Rds Z xs bs->Rds Z xs' bs'->Rds Z (xs++xs') (bs++bs')
 |[],[],_,_,_,h=>h
 |_::_,_::_,_,_,h,k=>⟨h.1,Rds_app h.2 k⟩
 |[],_::_,_,_,h,_=>by simp only[Rds]at h
 |_::_,[],_,_,h,_=>by simp only[Rds]at h
theorem Rds_len {Z:Hp}:∀{xs bs:List AV},Rds Z xs bs->xs.length=bs.length
 |[],[],_=>rfl
 |_::_,_::_,h=>by simp only[List.length_cons,Rds_len h.2]
 |[],_::_,h=>by simp only[Rds]at h
 |_::_,[],h=>by simp only[Rds]at h
theorem Rd_agg {Z:Hp} {xs bs:List AV} (h:Rds Z xs bs):Rd Z (.agg xs) (.agg bs):=fun H X ρ w v X' hr h1 h2 h3 hv=>by
 simp only[VR]at hv⊢
 obtain⟨us,e,h0,k⟩:=hv
 exact⟨us,e,h0,Rds_vr hr h1 h2 h3 _ _ _ h k⟩
theorem Rd_tup {Z:Hp} {xs bs:List AV} (h:Rds Z xs bs):Rd Z (.tup xs) (.tup bs):=fun H X ρ w v X' hr h1 h2 h3 hv=>by
 simp only[VR]at hv⊢
 obtain⟨us,e,k⟩:=hv
 exact⟨us,e,Rds_vr hr h1 h2 h3 _ _ _ h k⟩
theorem Rd_tree {Z:Hp} {T:OT} (hs:shp T) (hm:∀p,p∈objs T->p∈Z):Rd Z (.agg (otc T)) (.agg (tcs (er T))):=fun H X ρ w v X' hr h1 h2 h3 hv=>by
 simp only[VR]at hv⊢
 obtain⟨us,e,h0,k⟩:=hv
 refine⟨us,e,h0,?_⟩
 rw[show tcs (er T)=trc (er T)from(trc_eq _).symm]
 exact deep_vr hr h2 T _ _ hs (fun p hp=>h1 p (hm p hp)) (fun i b hi hb=>h3 i b (by obtain⟨p,hp,rfl⟩:=List.mem_map.1 hi;exact List.mem_map.2 ⟨p,hm p hp,rfl⟩) hb) k
theorem Rd_osl {Z:Hp} {i s l:Nat} {cs ds:List AV} {es:List (List AV)} (hm:(i,cs)∈Z) (h:Rds Z cs ds) (he:chk s l ds=es) (hl:l*s<=ds.length) (hes:es.length=l):Rd Z (.osl i s 0 l) (.sl s es):=fun H X ρ w v X' hr h1 h2 h3 hv=>by
 simp only[VR]at hv
 obtain⟨bk,c,o',cs',e,f,k1,rfl,k2,k3,k4,k5⟩:=hv
 obtain⟨b',c',e',f',q1,q2,q3,q4,q5,q6⟩:=hr.obj _ _ (h1 _ hm)
 rw[k1]at q1;cases q1
 rw[k4]at q2;cases q2
 simp only[VR,hes]
 refine⟨_,c,rfl,k2,fun hne=>?_⟩
 have hl0:0<l:=by rw[<-hes];exact List.length_pos_iff.2 hne
 have ho:=k3 (by omega)
 subst ho
 refine⟨_,rfl,h3 _ _ (List.mem_map.2 ⟨_,hm,rfl⟩) k1,(Array.getElem?_eq_some_iff.1 k4).1,?_⟩
 have hlen:=Rds_len h
 have hd:=Rds_vr hr h1 h2 h3 _ _ _ h q6
 have:=PEs_of (ρ:=ρ) (O:=X') (s:=s) k4 q4 l ds 0 0 hl (by rw[<-hlen];omega) (by rw[<-hlen,Nat.zero_mul,List.drop_zero];exact hd)
 rw[he]at this
 exact this
theorem Rd_pth {Z:Hp} {i:Nat} {X:List Str} (hm:(i,fl sc X)∈Z):Rd Z (.osl i 1 0 X.length) (pth X):=by
 refine Rd_osl hm (Rds_pur (purs_fl (fun s=>by simp only[sc,purs,pur,Bool.and_self]) X)) (chkS X) (flS_le X) (by rw[List.length_map])
theorem vw_rd {H Z:Hp} {xs bs:List AV} (h:Rds Z xs bs) (hs:∀p,p∈Z->p∈H):View H xs bs:=fun X ρ w vs hr hv=>
 ⟨fun b=>OX X ρ H b/\¬Own ρ Z b,fun b h=>h.1,Rds_vr hr hs (fun b h=>h.1) (fun i b hi hb k=>k.2 ⟨i,hi,hb⟩) xs bs vs h hv⟩
theorem mk_use {G:Prg} {f:Nat} {args args':List AV} {H:Hp} {n:Nat} {R:AV->Hp->Prop} (hv:View H args args') (h:DC G f args' [] R) (hR:∀r Z',R r Z'->nsl r/\nslH Z'/\odH Z'):
  TCall G f args H n fun r H' n'=>n'=n/\∃Z',H'=H++Z'/\R r Z':=by
 refine TCall.mono (lend_own (R:=R) hv ((h [] n trivial).mono ?_)) ?_
 ·rintro r H' n' _ ⟨rfl,Z',rfl,q⟩
  obtain⟨a,b,c⟩:=hR _ _ q
  exact⟨rfl,a,b,c,q⟩
 ·rintro r H' n' _ ⟨rfl,Z',rfl,_,q⟩
  exact⟨rfl,Z',rfl,q⟩
theorem pc_dc {G:Prg} {f:Nat} {args:List AV} {R:AV->Hp->Prop} {R':AV->Prop} (h:DC G f args [] R) (hR:∀r Z',R r Z'->∃a',R' a'/\pur a'=true/\Rd Z' r a'):PC G f args R':=by
 intro ρ n X w vs hf hx hv
 have hr:HR X ρ w []:=⟨by simp[ids],by simp[ids],by simp[ids],hx,by simp⟩
 refine(h [] n trivial X ρ w vs hf hr (by rw[List.nil_append,OX_nil];exact hv)).mono ?_
 rintro e w' ⟨v,r,ρ',H',n',rfl,k1,k2,k3,k4,rfl,Z',rfl,q⟩
 obtain⟨a',h1,h2,h3⟩:=hR _ _ q
 refine⟨v,a',rfl,h1,pur_vr a' v h2 (h3 _ X ρ' w' v X k2 (fun p hp=>hp) (fun b hb=>.inl hb) (fun i b hi hb hX=>k2.notX i b hi hb hX) k3),?_⟩
 exact k4.ext.mono fun b _ hb=>by obtain⟨i,hi,_⟩:=hb;simp[ids]at hi
def PR (p:List Str) (r:AV) (Z:Hp):Prop:=∃j:Nat,r=.osl (2*j+1) 1 0 p.length/\Z=[(2*j+1,fl sc p)]
theorem nsl_flS (p:List Str):nsls (fl sc p):=nsls_fl (f:=sc) (fun s=>⟨trivial,trivial⟩) _
theorem PR.nsl {p:List Str} {r:AV} {Z:Hp} (h:PR p r Z):nsl r/\nslH Z/\odH Z:=by
 obtain⟨j,rfl,rfl⟩:=h
 exact⟨trivial,⟨nsl_flS p,trivial⟩,⟨by omega,ods_flS p,trivial⟩⟩
structure OM where
 path:List Str
 sub:Bool
 id:Option Nat
instance:Inhabited OM:=⟨⟨[],false,none⟩⟩
def slo:Option Nat->Nat->AV|none,_=>.nils|some a,l=>.osl (2*a+1) 1 0 l
def omc (m:OM):List AV:=[slo m.id m.path.length,.bool m.sub]
def omo (m:OM):Hp:=match m.id with|none=>[]|some a=>[(2*a+1,fl sc m.path)]
def omos:List OM->Hp|[]=>[]|m::l=>omo m++omos l
def erM (m:OM):Mk:=⟨m.path,m.sub⟩
def zM:OM:=⟨[],false,none⟩
theorem omos_app:∀(a b:List OM),omos (a++b)=omos a++omos b
 |[],b=>by simp[omos]
 |x::a,b=>by simp only[List.cons_append,omos,omos_app a b,List.append_assoc]
theorem omc_len (m:OM):(omc m).length=2:=rfl
theorem flOMl (X:List OM):(fl omc X).length=X.length*2:=fl_len omc_len X
theorem ods_omc (m:OM):ods (omc m):=by
 obtain⟨p,s,i⟩:=m
 cases i with
 |none=>exact⟨trivial,trivial,trivial⟩
 |some a=>exact⟨by simp only[slo,od];omega,trivial,trivial⟩
theorem nsl_omc (m:OM):nsls (omc m):=by
 obtain⟨p,s,i⟩:=m
 cases i with
 |none=>exact⟨trivial,trivial,trivial⟩
 |some a=>exact⟨trivial,trivial,trivial⟩
theorem ods_flOM (X:List OM):ods (fl omc X):=ods_fl ods_omc X
theorem odH_omo (m:OM):odH (omo m):=by
 obtain⟨p,s,i⟩:=m
 cases i with
 |none=>trivial
 |some a=>exact⟨by omega,ods_flS _,trivial⟩
theorem odH_omos:∀l:List OM,odH (omos l)
 |[]=>trivial
 |m::l=>odH_app.2 ⟨odH_omo m,odH_omos l⟩
theorem nslH_omo (m:OM):nslH (omo m):=by
 obtain⟨p,s,i⟩:=m
 cases i with
 |none=>trivial
 |some a=>exact⟨nsl_flS _,trivial⟩
theorem nslH_omos:∀l:List OM,nslH (omos l)
 |[]=>trivial
 |m::l=>nslH_app.2 ⟨nslH_omo m,nslH_omos l⟩
def shM (m:OM):Prop:=m.id=none->m.path=[]
theorem Rds_om {Z:Hp} {m:OM} (hs:shM m) (h:∀p,p∈omo m->p∈Z):Rds Z (omc m) (mkc (erM m)):=by
 obtain⟨p,s,i⟩:=m
 cases i with
 |none=>
  have:p=[]:=hs rfl
  subst this
  refine⟨fun H X ρ w v X' hr h1 h2 h3 hv=>?_,Rd_pur rfl,trivial⟩
  simp only[slo,VR]at hv
  simp only[erM,pth,VR,List.map_nil]
  exact⟨Option.none,0,hv,Nat.le_refl _,fun h=>absurd rfl h⟩
 |some a=>exact⟨Rd_pth (h _ (by simp[omo])),Rd_pur rfl,trivial⟩
theorem Rds_oms {Z:Hp}:∀{l:List OM},(∀m,m∈l->shM m)->(∀p,p∈omos l->p∈Z)->Rds Z (fl omc l) (fl mkc (l.map erM))
 |[],_,_=>trivial
 |m::l,hs,h=>by
  have e1:fl omc (m::l)=omc m++fl omc l:=by simp[fl]
  have e2:fl mkc ((m::l).map erM)=mkc (erM m)++fl mkc (l.map erM):=by simp[fl]
  rw[e1,e2]
  exact Rds_app (Rds_om (hs m (by simp)) fun p hp=>h p (List.mem_append_left _ hp)) (Rds_oms (fun x hx=>hs x (by simp[hx])) fun p hp=>h p (List.mem_append_right _ hp))
theorem Rd_marks {Z:Hp} {j:Nat} {l:List OM} (hs:∀m,m∈l->shM m) (h0:(2*j+1,fl omc l)∈Z) (h:∀p,p∈omos l->p∈Z):Rd Z (.osl (2*j+1) 2 0 l.length) (.sl 2 ((l.map erM).map mkc)):=by
 have e:=chkM (l.map erM)
 rw[List.length_map]at e
 exact Rd_osl h0 (Rds_oms hs h) e (by rw[flMl,List.length_map];exact Nat.le_refl _) (by rw[List.length_map,List.length_map])
def MR (l:List Mk) (r:AV) (Z:Hp):Prop:=∃(j:Nat) (L:List OM),L.map erM=l/\(∀m,m∈L->m.id.isSome=true)/\r=.osl (2*j+1) 2 0 L.length/\Z=(2*j+1,fl omc L)::omos L
theorem sh_some {m:OM} (h:m.id.isSome=true):shM m:=fun e=>by rw[e]at h;cases h
theorem MR.nsl {l:List Mk} {r:AV} {Z:Hp} (h:MR l r Z):nsl r/\nslH Z/\odH Z:=by
 obtain⟨j,L,_,_,rfl,rfl⟩:=h
 exact⟨trivial,⟨nsls_fl nsl_omc L,nslH_omos L⟩,⟨by omega,ods_flOM L,odH_omos L⟩⟩
theorem MR.rd {l:List Mk} {r:AV} {Z:Hp} (h:MR l r Z):∃a',a'=.sl 2 (l.map mkc)/\pur a'=true/\Rd Z r a':=by
 obtain⟨j,L,rfl,h2,rfl,rfl⟩:=h
 exact⟨_,rfl,by simp only[pur,puress_mk],Rd_marks (fun m hm=>sh_some (h2 m hm)) (by simp) (fun p hp=>by simp[hp])⟩
theorem ClR.nsl {t:Tr} {r:AV} {Z:Hp} (h:ClR t r Z):nsl r/\nslH Z/\odH Z:=by
 obtain⟨T,_,_,_,rfl,rfl⟩:=h
 exact⟨nsls_otc T,nslH_objs T,odH_objs T⟩
theorem ClR.rd {t:Tr} {r:AV} {Z:Hp} (h:ClR t r Z):∃a',a'=.agg (tcs t)/\pur a'=true/\Rd Z r a':=by
 obtain⟨T,rfl,h2,_,rfl,rfl⟩:=h
 refine⟨_,rfl,by simp only[pur];rw[show tcs (er T)=trc (er T)from(trc_eq _).symm];exact purs_trc _,Rd_tree h2 fun p hp=>hp⟩
def occ (c:Cl) (a b:Nat):List AV:=[.int .i64 c.kind,.osl (2*a+1) 1 0 c.path.length,.osl (2*b+1) 1 0 c.to.length,.int .i64 c.at_,.str c.data]
def CR (c:Cl) (r:AV) (Z:Hp):Prop:=∃a b:Nat,r=.agg (occ c a b)/\Z=[(2*a+1,fl sc c.path),(2*b+1,fl sc c.to)]
theorem CR.nsl {c:Cl} {r:AV} {Z:Hp} (h:CR c r Z):nsl r/\nslH Z/\odH Z:=by
 obtain⟨a,b,rfl,rfl⟩:=h
 exact⟨⟨trivial,trivial,trivial,trivial,trivial,trivial⟩,⟨nsl_flS _,nsl_flS _,trivial⟩,⟨by omega,ods_flS _,by omega,ods_flS _,trivial⟩⟩
theorem CR.rd {c:Cl} {r:AV} {Z:Hp} (h:CR c r Z):∃a',a'=.agg (clc c)/\pur a'=true/\Rd Z r a':=by
 obtain⟨a,b,rfl,rfl⟩:=h
 refine⟨_,rfl,by simp only[pur,clc,purs,purs_pth,Bool.and_self],Rd_agg ⟨Rd_pur rfl,Rd_pth (by simp),Rd_pth (by simp),Rd_pur rfl,Rd_pur rfl,trivial⟩⟩
set_option maxRecDepth 100000
theorem zrs_fl {α:Type} (f:α->List AV) (z:α) (n:Nat):zrs n (f z)=fl f (List.replicate n z):=by
 unfold zrs fl;rw[List.map_replicate]
theorem rowG_set {α:Type} [Inhabited α] {f:α->List AV} {s:Nat} (hf:∀x,(f x).length=s) (X:List α) (i:Nat) (y:α) (h:i<X.length):(fl f X).take (0+i*s)++f y++(fl f X).drop (0+i*s+s)=fl f (X.set i y):=by
 rw[Nat.zero_add]
 have e:X=X.take i++X.getD i default::X.drop (i+1):=get_split X i h default
 have h1:(fl f (X.take i)).length=i*s:=by rw[fl_len hf,List.length_take,Nat.min_eq_left (Nat.le_of_lt h)]
 have e2:fl f X=fl f (X.take i)++(f (X.getD i default)++fl f (X.drop (i+1))):=by
  rw[<-fl_one f (X.getD i default),<-fl_app,<-fl_app];exact congrArg (fl f) (by simpa using e)
 have h2:(fl f (X.take i)++f (X.getD i default)).length=i*s+s:=by rw[List.length_append,h1,hf]
 rw[List.set_eq_take_append_cons_drop,if_pos h,fl_app,show fl f (y::X.drop (i+1))=f y++fl f (X.drop (i+1)) by rw[<-fl_one f y,<-fl_app];rfl]
 rw[e2,List.take_left' h1,<-List.append_assoc,List.drop_left' h2,List.append_assoc]
theorem rowS_set (X:List Str) (i:Nat) (y:Str) (h:i<X.length):(fl sc X).take (0+i*1)++[.str y]++(fl sc X).drop (0+i*1+1)=fl sc (X.set i y):=rowG_set sc_len X i y h
theorem rowO_set (X:List OT) (i:Nat) (y:OT) (h:i<X.length):(fl otc X).take (0+i*5)++otc y++(fl otc X).drop (0+i*5+5)=fl otc (X.set i y):=rowG_set otc_len X i y h
theorem rowOM_set (X:List OM) (i:Nat) (y:OM) (h:i<X.length):(fl omc X).take (0+i*2)++omc y++(fl omc X).drop (0+i*2+2)=fl omc (X.set i y):=rowG_set omc_len X i y h
theorem flOl (X:List OT):(fl otc X).length=X.length*5:=fl_len otc_len X
theorem set_rep {α:Type} {A:List α} {y z:α} {n k:Nat} (hA:A.length=k) (hk:k<n):(A++List.replicate (n-k) z).set k y=(A++[y])++List.replicate (n-(k+1)) z:=by
 rw[show n-k=n-(k+1)+1 by omega,List.replicate_succ,List.set_append_right _ _ (by omega),hA,Nat.sub_self,List.set_cons_zero,List.append_assoc];rfl
theorem rep0 {α:Type} {A:List α} {z:α} {n k:Nat} (h:n<=k):A++List.replicate (n-k) z=A:=by rw[Nat.sub_eq_zero_of_le h,List.replicate_zero,List.append_nil]
theorem tk_rep {p:List Str} {k:Nat} (hk:k<p.length):(p.take k++List.replicate (p.length-k) []).set k (p.getD k default)=p.take (k+1)++List.replicate (p.length-(k+1)) []:=by
 rw[set_rep (by rw[List.length_take];omega) hk,<-take_snoc p k default hk]
def TSR (ks:List Tr) (r:AV) (Z:Hp):Prop:=∃(b:Nat) (Ts:List OT),Ts.map er=ks/\shps Ts/\asms Ts/\r=.osl (2*b+1) 5 0 Ts.length/\Z=(2*b+1,fl otc Ts)::objss Ts
theorem TSR.nsl {ks:List Tr} {r:AV} {Z:Hp} (h:TSR ks r Z):nsl r/\nslH Z/\odH Z:=by
 obtain⟨b,Ts,_,_,_,rfl,rfl⟩:=h
 exact⟨trivial,⟨nsls_fl nsls_otc _,nslH_objss Ts⟩,⟨by omega,ods_flO _,odH_objss Ts⟩⟩
def MkR (m:Mk) (r:AV) (Z:Hp):Prop:=∃M:OM,erM M=m/\M.id.isSome=true/\r=.agg (omc M)/\Z=omo M
theorem MkR.nsl {m:Mk} {r:AV} {Z:Hp} (h:MkR m r Z):nsl r/\nslH Z/\odH Z:=by
 obtain⟨M,_,_,rfl,rfl⟩:=h
 exact⟨nsl_omc M,nslH_omo M,odH_omo M⟩
open Go Go.Proofs
set_option maxRecDepth 100000
def sb (l:Int) (n:Nat):Int:=if l<(n:Int)then-1 else l-(n:Int)
theorem sb_mk1 {l:Int} {n:Nat} (h:l<(n:Int)):sb l n= -1:=if_pos h
theorem sb_mk2 {l:Int} {n:Nat} (h:¬l<(n:Int)):sb l n=l-(n:Int):=if_neg h
theorem sb_ge {l:Int} {n:Nat} (h:0<=sb l n):(n:Int)<=l/\sb l n=l-(n:Int):=by
  by_cases k:l<(n:Int)
  · rw[sb_mk1 k]at h;omega
  · exact⟨om,sb_mk2 k⟩
theorem sb_lt {l:Int} {n:Nat} (h0:0<=l) (h:sb l n<0):l<(n:Int):=by
  by_cases k:l<(n:Int)
  · exact k
  · rw[sb_mk2 k]at h;omega
def bP (p:List Str):Prop:=p.length<2^63/\∀x∈p,x.length<2^63
mutual
def bT:Tr->Prop|.mk _ _ s ns ks=>s.length<2^63/\bP ns/\ks.length<2^63/\bTs ks
def bTs:List Tr->Prop|[]=>True|t::ts=>bT t/\bTs ts
end
theorem bT_eq (t:Tr):bT t↔t.data.length<2^63/\bP t.names/\t.kids.length<2^63/\bTs t.kids:=by cases t;simp only[bT,Tr.data,Tr.names,Tr.kids]
theorem bTs_mem:∀{ks:List Tr},bTs ks->∀{k:Tr},k∈ks->bT k
  |t::ts,h,k,hk=>by
    rcases List.mem_cons.1 hk with rfl|hk
    · exact h.1
    · exact bTs_mem h.2 hk
theorem wS_tk (p:List Str) (k:Nat) (h:k<p.length):wS (p.take (k+1))=wS (p.take k)+(p.getD k default).length+1:=by
  have key:∀(a:List Str) (x:Str),wS (a++[x])=wS a+x.length+1:=fun a x=>by
    induction a with
    |nil=>simp[wS]
    |cons y a ih=>simp only[List.cons_append,wS,ih];omega
  rw[take_snoc p k default h,key]
theorem wS_tl:∀(p:List Str) (k:Nat),wS (p.take k)+(p.length-k)<=wS p
  |[],k=>by simp[wS]
  |x::p,0=>by have:=wS_len p;simp only[List.take_zero,wS,List.length_cons];omega
  |x::p,k+1=>by have:=wS_tl p k;simp only[List.take_succ_cons,wS,List.length_cons];omega
theorem Ws_tk (p:List Tr) (k:Nat) (h:k<p.length):Tr.Ws (p.take (k+1))=Tr.Ws (p.take k)+(p.getD k default).W:=by
  have key:∀(a:List Tr) (x:Tr),Tr.Ws (a++[x])=Tr.Ws a+x.W:=fun a x=>by
    induction a with
    |nil=>simp[Tr.Ws]
    |cons y a ih=>simp only[List.cons_append,Tr.Ws,ih];omega
  rw[take_snoc p k default h,key]
theorem Ws_tl:∀(p:List Tr) (k:Nat),Tr.Ws (p.take k)+(p.length-k)<=Tr.Ws p
  |[],k=>by simp[Tr.Ws]
  |x::p,0=>by have:=Ws_len p;have:=W_pos x;simp only[List.take_zero,Tr.Ws,List.length_cons];omega
  |x::p,k+1=>by have:=Ws_tl p k;simp only[List.take_succ_cons,Tr.Ws,List.length_cons];omega
def wM:List Mk->Nat
  |[]=>0
  |m::l=>1+wS m.path+wM l
theorem wM_tk (p:List Mk) (k:Nat) (h:k<p.length):wM (p.take (k+1))=wM (p.take k)+wS (p.getD k default).path+1:=by
  have key:∀(a:List Mk) (x:Mk),wM (a++[x])=wM a+wS x.path+1:=fun a x=>by
    induction a with
    |nil=>simp[wM];omega
    |cons y a ih=>simp only[List.cons_append,wM,ih];omega
  rw[take_snoc p k default h,key]
theorem wM_len:∀p:List Mk,p.length<=wM p
  |[]=>by simp[wM]
  |x::p=>by have:=wM_len p;simp only[wM,List.length_cons];omega
theorem wM_tl:∀(p:List Mk) (k:Nat),wM (p.take k)+(p.length-k)<=wM p
  |[],k=>by simp[wM]
  |x::p,0=>by have:=wM_len p;simp only[List.take_zero,wM,List.length_cons];omega
  |x::p,k+1=>by have:=wM_tl p k;simp only[List.take_succ_cons,wM,List.length_cons];omega
theorem szS_ok (p:List Str) (hb:bP p) (l:Int) (h0:0<=l) (h1:l<=2^20):PE G 29 [pth p,.i l] (.i (sb l (wS p))):=by
 obtain⟨hp,hs⟩:=hb;have hpl:=wS_len p
 refine Pe Tryz.func29 ?_
 refine Rr (Fn0 [0,1] [] (Rr (Av0 3 8 [(7,pth p),(6,.i l)] (lnm p sc) (Av1 (r:=.i (IntKind.i64.wrap (l-(p.length:Int)))) (v:=.i (l-(p.length:Int))) 1 9 [] (cI (wrap64 om om)) (Ki/\·) ⟨rfl,?_⟩))))
 refine Fn0 [0] [(1,.i (l-(p.length:Int)))] (Sq fun K3 hK3=>?_)
 refine Rr (Cn1 (decide (((l-(p.length:Int)):Int)<(0:Int))) [0,1] [] (Ki/\·) ⟨rfl,fun hc5 c5=>?_,fun hc5 c5=>?_⟩)
 refine Rr (Fn0 [] [(4,.i (-1))] (Rt (.i (-1)) (fin_lea ?_)))
 have ht:=wS_tl p;
 have e:(-1)=sb l (wS p):=(sb_mk1 om).symm
 rw[e];exact lea_refl _
 refine Sk (Jn (hK3 (Kp [0,1] (Sq fun K7 hK7=>?_))))
 refine Rr (Fn0 [0,1] [(5,.i 0)] (Bl (h_l (fun(z:Nat×Int)=>(match z with|(k,r)=>([(0,pth p),(1,.i r),(5,.i k)]:Fr))) (fun(z:Nat×Int)=>(match z with|(k,r)=>([]:Hp))) (fun(z:Nat×Int) cn=>(match z with|(k,r)=>(k<=p.length/\0<=r/\r+(p.length:Int)+((wS (p.take k):Nat):Int)=l+(k:Int))/\cn=0)) (fun(z:Nat×Int)=>p.length-z.1) (0,l-(p.length:Int)) kr ?_ ?_ ?_ ?_)))
 refine⟨?_,rfl⟩;exact⟨Nat.zero_le _,om,by simp[wS]⟩
 exact⟨kr,kr,kr,trivial⟩
 exact(List.nil_sublist _)
 rintro⟨k,r⟩ n1 hI
 (try dsimp only at hI)
 obtain⟨⟨hk,hr0,hr⟩,rfl⟩:=hI
 refine Sq fun K9 hK9=>?_
 refine Rr (Av0 3 14 [(13,pth p),(12,.i k)] (lnm p sc) (Cn1 (decide ((k:Int)<(p.length:Int))) [0,1,5] [] (Ki/\·) ⟨rfl,fun hc11 c11=>?_,fun hc11 c11=>?_⟩))
 refine Sk (Jn (hK9 (Kp [0,1,5] (Sq fun K12 hK12=>?_))))
 refine Bl ?_
 have hx:=hs _ (getD_mem p k default om)
 refine Rr (Av1 4 21 [(20,.i k),(19,pth p),(18,.i r)] (congrArg AV.pat (mg_str p k om)) ((1=1/\(0:Int)<=(k:Int)/\(k:Int)<((p.map (fun s=>[AV.str s])).length:Int))/\·) ⟨⟨rfl,om,lmo⟩,Av1 (r:=.i (IntKind.i64.wrap (r-((p.getD k default).length:Int)))) (v:=.i (r-((p.getD k default).length:Int))) 3 24 [(23,.i ((p.getD k default).length:Int)),(22,.str (p.getD k default))] (cI (wrap64 om om)) ((1<=1/\0<1)/\Ki/\·) ⟨dc,rfl,Fn0 [0,5] [(1,.i (r-((p.getD k default).length:Int)))] (Rr ?_)⟩⟩)
 refine Cn1 (decide (((r-((p.getD k default).length:Int)):Int)<(0:Int))) [0,1,5] [] (Ki/\·) ⟨rfl,fun hc15 c15=>?_,fun hc15 c15=>?_⟩
 refine Rr (Fn0 [] [(4,.i (-1))] (Rt (.i (-1)) (fin_lea ?_)))
 have ht:=wS_tl p;have hk1:=ht (k+1);have hk2:=wS_tk p k om
 have e:(-1)=sb l (wS p):=(sb_mk1 om).symm
 rw[e];exact lea_refl _
 refine Sk (Bn (Jn (hK12 (Kp [0,1,5] (Rn (Av1 2 17 [(16,.i k)] (cI (wn1 k om)) (Ki/\·) ⟨rfl,Gn0 [(5,.i ((k+1:Nat):Int))] (nk_n ?_)⟩))))))
 refine Lr (k+1,(r-((p.getD k default).length:Int))) [] 0 [(0,pth p),(1,.i (r-((p.getD k default).length:Int))),(5,.i ((k+1:Nat):Int))] [] [] ?_ ?_ kr kr
 (try dsimp only);omega
 refine⟨?_,rfl⟩;(try dsimp only)
 have hz:=wS_tk p k om
 exact⟨om,om,by rw[hz];omega⟩
 refine Xt (Jx (Lx (Bh (Jn (hK7 (Kp [1] (Rr (Fn0 [] [(4,.i r)] (Rt (.i r) (fin_lea ?_))))))))))
 have ht:=wS_tl p;obtain rfl:k=p.length:=by omega
 rw[List.take_length]at hr
 have e:r=sb l (wS p):=by first|rfl|(rw[sb_mk2 (l:=l) (n:=wS p) om];omega)
 rw[e];exact lea_refl _
theorem szTs_ok (ks:List Tr) (hb:ks.length<2^63) (ih:∀k∈ks,∀l:Int,0<=l->l<=2^20->PE G 6 [.agg (tcs k),.i l] (.i (sb l (k.W-1)))) (l:Int) (h0:0<=l) (h1:l<=2^20):PE G 30 [.sl 5 (ks.map trc),.i l] (.i (sb l (Tr.Ws ks))):=by
 refine Pe Tryz.func30 ?_
 refine Rr (Fn0 [0,1] [] (Rr (Av0 3 8 [(7,.sl 5 (ks.map trc)),(6,.i l)] (lnm ks trc) (Av1 (r:=.i (IntKind.i64.wrap (l-(ks.length:Int)))) (v:=.i (l-(ks.length:Int))) 1 9 [] (cI (wrap64 om om)) (Ki/\·) ⟨rfl,?_⟩))))
 refine Fn0 [0] [(1,.i (l-(ks.length:Int)))] (Sq fun K3 hK3=>?_)
 refine Rr (Cn1 (decide (((l-(ks.length:Int)):Int)<(0:Int))) [0,1] [] (Ki/\·) ⟨rfl,fun hc5 c5=>?_,fun hc5 c5=>?_⟩)
 refine Rr (Fn0 [] [(4,.i (-1))] (Rt (.i (-1)) (fin_lea ?_)))
 have ht:=Ws_tl ks;have hk0:=ht 0;simp[Tr.Ws]at hk0
 have e:(-1)=sb l (Tr.Ws ks):=(sb_mk1 om).symm
 rw[e];exact lea_refl _
 refine Sk (Jn (hK3 (Kp [0,1] (Sq fun K7 hK7=>?_))))
 refine Rr (Fn0 [0,1] [(5,.i 0)] (Bl (h_l (fun(z:Nat×Int)=>(match z with|(k,r)=>([(0,.sl 5 (ks.map trc)),(1,.i r),(5,.i k)]:Fr))) (fun(z:Nat×Int)=>(match z with|(k,r)=>([]:Hp))) (fun(z:Nat×Int) cn=>(match z with|(k,r)=>(k<=ks.length/\0<=r/\r+(ks.length:Int)+((Tr.Ws (ks.take k):Nat):Int)=l+(k:Int))/\cn=0)) (fun(z:Nat×Int)=>ks.length-z.1) (0,l-(ks.length:Int)) kr ?_ ?_ ?_ ?_)))
 refine⟨?_,rfl⟩;exact⟨Nat.zero_le _,om,by simp[Tr.Ws]⟩
 exact⟨kr,kr,kr,trivial⟩
 exact(List.nil_sublist _)
 rintro⟨k,r⟩ n1 hI
 (try dsimp only at hI)
 obtain⟨⟨hk,hr0,hr⟩,rfl⟩:=hI
 refine Sq fun K9 hK9=>?_
 refine Rr (Av0 3 14 [(13,.sl 5 (ks.map trc)),(12,.i k)] (lnm ks trc) (Cn1 (decide ((k:Int)<(ks.length:Int))) [0,1,5] [] (Ki/\·) ⟨rfl,fun hc11 c11=>?_,fun hc11 c11=>?_⟩))
 refine Sk (Jn (hK9 (Kp [0,1,5] (Sq fun K12 hK12=>?_))))
 refine Bl ?_
 have hx:=W_pos (ks.getD k default)
 refine Rr (Av1 3 20 [(19,.i k),(18,.sl 5 (ks.map trc))] (congrArg AV.pat (mg_trc ks k om)) ((5=5/\(0:Int)<=(k:Int)/\(k:Int)<((ks.map trc).length:Int))/\·) ⟨⟨rfl,om,lmo⟩,Pc1 3 [(22,.i r),(21,.agg (tcs (ks.getD k default)))] 23 (5<=5/\0<5) dc (ih _ (getD_mem ks k default om) _ om om) (Fn0 [0,5] [(1,.i (sb r ((ks.getD k default).W-1)))] (Rr ?_))⟩)
 refine Cn1 (decide ((sb r ((ks.getD k default).W-1):Int)<(0:Int))) [0,1,5] [] (Ki/\·) ⟨rfl,fun hc15 c15=>?_,fun hc15 c15=>?_⟩
 refine Rr (Fn0 [] [(4,.i (-1))] (Rt (.i (-1)) (fin_lea ?_)))
 have ht:=Ws_tl ks;have hk1:=ht (k+1);have hk2:=Ws_tk ks k om
 have qc15:=sb_lt (l:=r) (n:=((ks.getD k default).W-1)) om (by have h:=c15;omega)
 have e:(-1)=sb l (Tr.Ws ks):=(sb_mk1 om).symm
 rw[e];exact lea_refl _
 refine Sk (Bn (Jn (hK12 (Kp [0,1,5] (Rn (Av1 2 17 [(16,.i k)] (cI (wn1 k om)) (Ki/\·) ⟨rfl,Gn0 [(5,.i ((k+1:Nat):Int))] (nk_n ?_)⟩))))))
 refine Lr (k+1,sb r ((ks.getD k default).W-1)) [] 0 [(0,.sl 5 (ks.map trc)),(1,.i (sb r ((ks.getD k default).W-1))),(5,.i ((k+1:Nat):Int))] [] [] ?_ ?_ kr kr
 (try dsimp only);omega
 refine⟨?_,rfl⟩;(try dsimp only)
 have qc15:=sb_ge (l:=r) (n:=((ks.getD k default).W-1)) (by have h:=c15;omega)
 have hz:=Ws_tk ks k om
 exact⟨om,om,by rw[hz];omega⟩
 refine Xt (Jx (Lx (Bh (Jn (hK7 (Kp [1] (Rr (Fn0 [] [(4,.i r)] (Rt (.i r) (fin_lea ?_))))))))))
 have ht:=Ws_tl ks;obtain rfl:k=ks.length:=by omega
 rw[List.take_length]at hr
 have e:r=sb l (Tr.Ws ks):=by first|rfl|(rw[sb_mk2 (l:=l) (n:=Tr.Ws ks) om];omega)
 rw[e];exact lea_refl _
theorem szT_ok:∀(N:Nat) (t:Tr),t.W=N->bT t->∀l:Int,0<=l->l<=2^20->PE G 6 [.agg (tcs t),.i l] (.i (sb l (t.W-1))):=by
 intro N;refine Nat.strongRecOn N fun N ih=>?_;intro t hN hbt l h0 h1;rw[W_eq]at hN;have hWe:=W_eq t;have hb:=(bT_eq t).1 hbt;have hb0:=hb.1
 refine Pe Tryz.func6 ?_
 refine Rr (Fn2 [1] [(2,.ptr 0 0)] ([(0,tcs t)]++·) 4 (Rr (Av1 (r:=.i (IntKind.i64.wrap (l-(t.data.length:Int)))) (v:=.i (l-(t.data.length:Int))) 5 9 [(8,.i t.data.length),(7,.str t.data),(6,.ptr 0 2),(5,.i l)] (cI (wrap64 om om)) (((1:Nat)≠0)/\(2+1<=5/\2<5)/\Ki/\·) ⟨dc,dc,rfl,Fn0 [2] [(1,.i (l-(t.data.length:Int)))] ?_⟩)))
 refine Sq fun K3 hK3=>?_
 refine Rr (Cn1 (decide (((l-(t.data.length:Int)):Int)<(0:Int))) [1,2] [] (Ki/\·) ⟨rfl,fun hc5 c5=>?_,fun hc5 c5=>?_⟩)
 refine Rr (Fn0 [] [(4,.i (-1))] (Rt (.i (-1)) (fin_lea ?_)))
 have e:(-1)=sb l (t.W-1):=(sb_mk1 om).symm
 rw[e];exact lea_refl _
 refine Sk (Jn (hK3 (Kp [1,2] ?_)))
 have hk0:0<=l-(t.data.length:Int):=by omega
 refine Rr (Bc1 4 [(14,.i (l-(t.data.length:Int))),(13,pth t.names),(12,.ptr 0 3)] 29 [pth t.names,.i (l-(t.data.length:Int))] 15 (((1:Nat)≠0)/\(3+1<=5/\3<5)/\·) ⟨dc,dc,PE.use (szS_ok t.names hb.2.1 (l-(t.data.length:Int)) om om) (Ke (Fn0 [2] [(1,.i (sb (l-(t.data.length:Int)) (wS t.names)))] ?_))⟩)
 refine Sq fun K8 hK8=>?_
 refine Rr (Cn1 (decide ((sb (l-(t.data.length:Int)) (wS t.names):Int)<(0:Int))) [1,2] [] (Ki/\·) ⟨rfl,fun hc10 c10=>?_,fun hc10 c10=>?_⟩)
 refine Rr (Fn0 [] [(4,.i (-1))] (Rt (.i (-1)) (fin_lea ?_)))
 have qc10:=sb_lt (l:=(l-(t.data.length:Int))) (n:=(wS t.names)) om (by have h:=c10;omega)
 have e:(-1)=sb l (t.W-1):=(sb_mk1 om).symm
 rw[e];exact lea_refl _
 refine Sk (Jn (hK8 (Kp [1,2] ?_)))
 have qc10:=sb_ge (l:=(l-(t.data.length:Int))) (n:=(wS t.names)) (by have h:=c10;omega)
 
 refine Rr (Bc1 4 [(20,.i (sb (l-(t.data.length:Int)) (wS t.names))),(19,.sl 5 (t.kids.map trc)),(18,.ptr 0 4)] 30 [.sl 5 (t.kids.map trc),.i (sb (l-(t.data.length:Int)) (wS t.names))] 21 (((1:Nat)≠0)/\(4+1<=5/\4<5)/\·) ⟨dc,dc,PE.use (szTs_ok t.kids hb.2.2.1 (fun k hk l h0 h1=>ih _ (by have:=Ws_mem hk;omega) k rfl (bTs_mem hb.2.2.2 hk) l h0 h1) (sb (l-(t.data.length:Int)) (wS t.names)) om om) (Ke (Fn0 [] [(1,.i (sb (sb (l-(t.data.length:Int)) (wS t.names)) (Tr.Ws t.kids)))] ?_))⟩)
 refine Sq fun K13 hK13=>?_
 refine Rr (Cn1 (decide ((sb (sb (l-(t.data.length:Int)) (wS t.names)) (Tr.Ws t.kids):Int)<(0:Int))) [1] [] (Ki/\·) ⟨rfl,fun hc15 c15=>?_,fun hc15 c15=>?_⟩)
 refine Rr (Fn0 [] [(4,.i (-1))] (Rt (.i (-1)) (fin_lea ?_)))
 have qc10:=sb_ge (l:=(l-(t.data.length:Int))) (n:=(wS t.names)) (by have h:=c10;omega)
 have qc15:=sb_lt (l:=(sb (l-(t.data.length:Int)) (wS t.names))) (n:=(Tr.Ws t.kids)) om (by have h:=c15;omega)
 have e:(-1)=sb l (t.W-1):=(sb_mk1 om).symm
 rw[e];exact lea_refl _
 refine Sk (Jn (hK13 (Kp [1] (Rr (Fn0 [] [(4,.i (sb (sb (l-(t.data.length:Int)) (wS t.names)) (Tr.Ws t.kids)))] (Rt (.i (sb (sb (l-(t.data.length:Int)) (wS t.names)) (Tr.Ws t.kids))) (fin_lea ?_)))))))
 have qc10:=sb_ge (l:=(l-(t.data.length:Int))) (n:=(wS t.names)) (by have h:=c10;omega)
 have qc15:=sb_ge (l:=(sb (l-(t.data.length:Int)) (wS t.names))) (n:=(Tr.Ws t.kids)) (by have h:=c15;omega)
 have e:(sb (sb (l-(t.data.length:Int)) (wS t.names)) (Tr.Ws t.kids))=sb l (t.W-1):=by first|rfl|(rw[sb_mk2 (l:=l) (n:=t.W-1) om];omega)
 rw[e];exact lea_refl _
theorem szM_ok (m:Mk) (hb:bP m.path) (l:Int) (h0:0<=l) (h1:l<=2^20):PE G 52 [.agg (mkc m),.i l] (.i (sb l (wS m.path))):=by
 refine Pe Tryz.func52 ?_
 refine Rr (Fn2 [1] [(2,.ptr 0 0)] ([(0,mkc m)]++·) 4 (Rr (Bc1 4 [(7,.i l),(6,pth m.path),(5,.ptr 0 0)] 29 [pth m.path,.i l] 8 (((1:Nat)≠0)/\(0+1<=2/\0<2)/\·) ⟨dc,dc,PE.use (szS_ok m.path hb l om om) ?_⟩)))
 refine Ke (Fn0 [] [(1,.i (sb l (wS m.path)))] (Sq fun K3 hK3=>?_))
 refine Rr (Cn1 (decide ((sb l (wS m.path):Int)<(0:Int))) [1] [] (Ki/\·) ⟨rfl,fun hc5 c5=>?_,fun hc5 c5=>?_⟩)
 refine Rr (Fn0 [] [(4,.i (-1))] (Rt (.i (-1)) (fin_lea ?_)))
 have qc5:=sb_lt (l:=l) (n:=(wS m.path)) om (by have h:=c5;omega)
 have e:(-1)=sb l (wS m.path):=(sb_mk1 om).symm
 rw[e];exact lea_refl _
 refine Sk (Jn (hK3 (Kp [1] (Rr (Fn0 [] [(4,.i (sb l (wS m.path)))] (Rt (.i (sb l (wS m.path))) (fin_lea ?_)))))))
 have qc5:=sb_ge (l:=l) (n:=(wS m.path)) (by have h:=c5;omega)
 have e:(sb l (wS m.path))=sb l (wS m.path):=by first|rfl|(rw[sb_mk2 (l:=l) (n:=wS m.path) om];omega)
 rw[e];exact lea_refl _
theorem szMs_ok (ml:List Mk) (hml:ml.length<2^63) (hm:∀m∈ml,bP m.path) (l:Int) (h0:0<=l) (h1:l<=2^20):PE G 20 [.sl 2 (ml.map mkc),.i l] (.i (sb l (wM ml))):=by
 refine Pe Tryz.func20 ?_
 refine Rr (Fn0 [0,1] [] (Rr (Av0 3 8 [(7,.sl 2 (ml.map mkc)),(6,.i l)] (lnm ml mkc) (Av1 (r:=.i (IntKind.i64.wrap (l-(ml.length:Int)))) (v:=.i (l-(ml.length:Int))) 1 9 [] (cI (wrap64 om om)) (Ki/\·) ⟨rfl,?_⟩))))
 refine Fn0 [0] [(1,.i (l-(ml.length:Int)))] (Sq fun K3 hK3=>?_)
 refine Rr (Cn1 (decide (((l-(ml.length:Int)):Int)<(0:Int))) [0,1] [] (Ki/\·) ⟨rfl,fun hc5 c5=>?_,fun hc5 c5=>?_⟩)
 refine Rr (Fn0 [] [(4,.i (-1))] (Rt (.i (-1)) (fin_lea ?_)))
 have ht:=wM_tl ml;have hk0:=ht 0;simp[wM]at hk0
 have e:(-1)=sb l (wM ml):=(sb_mk1 om).symm
 rw[e];exact lea_refl _
 refine Sk (Jn (hK3 (Kp [0,1] (Sq fun K7 hK7=>?_))))
 refine Rr (Fn0 [0,1] [(5,.i 0)] (Bl (h_l (fun(z:Nat×Int)=>(match z with|(k,r)=>([(0,.sl 2 (ml.map mkc)),(1,.i r),(5,.i k)]:Fr))) (fun(z:Nat×Int)=>(match z with|(k,r)=>([]:Hp))) (fun(z:Nat×Int) cn=>(match z with|(k,r)=>(k<=ml.length/\0<=r/\r+(ml.length:Int)+((wM (ml.take k):Nat):Int)=l+(k:Int))/\cn=0)) (fun(z:Nat×Int)=>ml.length-z.1) (0,l-(ml.length:Int)) kr ?_ ?_ ?_ ?_)))
 refine⟨?_,rfl⟩;exact⟨Nat.zero_le _,om,by simp[wM]⟩
 exact⟨kr,kr,kr,trivial⟩
 exact(List.nil_sublist _)
 rintro⟨k,r⟩ n1 hI
 (try dsimp only at hI)
 obtain⟨⟨hk,hr0,hr⟩,rfl⟩:=hI
 refine Sq fun K9 hK9=>?_
 refine Rr (Av0 3 14 [(13,.sl 2 (ml.map mkc)),(12,.i k)] (lnm ml mkc) (Cn1 (decide ((k:Int)<(ml.length:Int))) [0,1,5] [] (Ki/\·) ⟨rfl,fun hc11 c11=>?_,fun hc11 c11=>?_⟩))
 refine Sk (Jn (hK9 (Kp [0,1,5] (Sq fun K12 hK12=>?_))))
 refine Bl (Rr (Av1 3 20 [(19,.i k),(18,.sl 2 (ml.map mkc))] (congrArg AV.pat (mg_mk ml k om)) ((2=2/\(0:Int)<=(k:Int)/\(k:Int)<((ml.map mkc).length:Int))/\·) ⟨⟨rfl,om,lmo⟩,Pc1 3 [(22,.i r),(21,.agg (mkc (ml.getD k default)))] 23 (2<=2/\0<2) dc (szM_ok (ml.getD k default) (hm _ (getD_mem ml k default om)) r om om) (Fn0 [0,5] [(1,.i (sb r (wS (ml.getD k default).path)))] ?_)⟩))
 refine Rr (Cn1 (decide ((sb r (wS (ml.getD k default).path):Int)<(0:Int))) [0,1,5] [] (Ki/\·) ⟨rfl,fun hc15 c15=>?_,fun hc15 c15=>?_⟩)
 refine Rr (Fn0 [] [(4,.i (-1))] (Rt (.i (-1)) (fin_lea ?_)))
 have ht:=wM_tl ml;have hk1:=ht (k+1);have hk2:=wM_tk ml k om
 have qc15:=sb_lt (l:=r) (n:=(wS (ml.getD k default).path)) om (by have h:=c15;omega)
 have e:(-1)=sb l (wM ml):=(sb_mk1 om).symm
 rw[e];exact lea_refl _
 refine Sk (Bn (Jn (hK12 (Kp [0,1,5] (Rn (Av1 2 17 [(16,.i k)] (cI (wn1 k om)) (Ki/\·) ⟨rfl,Gn0 [(5,.i ((k+1:Nat):Int))] (nk_n ?_)⟩))))))
 refine Lr (k+1,sb r (wS (ml.getD k default).path)) [] 0 [(0,.sl 2 (ml.map mkc)),(1,.i (sb r (wS (ml.getD k default).path))),(5,.i ((k+1:Nat):Int))] [] [] ?_ ?_ kr kr
 (try dsimp only);omega
 refine⟨?_,rfl⟩;(try dsimp only)
 have qc15:=sb_ge (l:=r) (n:=(wS (ml.getD k default).path)) (by have h:=c15;omega)
 have hz:=wM_tk ml k om
 exact⟨om,om,by rw[hz];omega⟩
 refine Xt (Jx (Lx (Bh (Jn (hK7 (Kp [1] (Rr (Fn0 [] [(4,.i r)] (Rt (.i r) (fin_lea ?_))))))))))
 have ht:=wM_tl ml;obtain rfl:k=ml.length:=by omega
 rw[List.take_length]at hr
 have e:r=sb l (wM ml):=by first|rfl|(rw[sb_mk2 (l:=l) (n:=wM ml) om];omega)
 rw[e];exact lea_refl _
theorem szC_ok (c:Cl) (hbc:bP c.path/\bP c.to/\c.data.length<2^63) (l:Int) (h0:0<=l) (h1:l<=2^20):PE G 7 [.agg (clc c),.i l] (.i (sb l (wS c.path+wS c.to+c.data.length))):=by
 obtain⟨hq1,hq2,hq3⟩:=hbc
 refine Pe Tryz.func7 ?_
 refine Rr (Fn2 [1] [(2,.ptr 0 0)] ([(0,clc c)]++·) 4 (Rr (Bc1 4 [(7,.i l),(6,pth c.path),(5,.ptr 0 1)] 29 [pth c.path,.i l] 8 (((1:Nat)≠0)/\(1+1<=5/\1<5)/\·) ⟨dc,dc,PE.use (szS_ok c.path hq1 l om om) ?_⟩)))
 refine Ke (Fn0 [2] [(1,.i (sb l (wS c.path)))] (Sq fun K3 hK3=>?_))
 refine Rr (Cn1 (decide ((sb l (wS c.path):Int)<(0:Int))) [1,2] [] (Ki/\·) ⟨rfl,fun hc5 c5=>?_,fun hc5 c5=>?_⟩)
 refine Rr (Fn0 [] [(4,.i (-1))] (Rt (.i (-1)) (fin_lea ?_)))
 have qc5:=sb_lt (l:=l) (n:=(wS c.path)) om (by have h:=c5;omega)
 have e:(-1)=sb l (wS c.path+wS c.to+c.data.length):=(sb_mk1 om).symm
 rw[e];exact lea_refl _
 refine Sk (Jn (hK3 (Kp [1,2] ?_)))
 have qc5:=sb_ge (l:=l) (n:=(wS c.path)) (by have h:=c5;omega)
 
 refine Rr (Bc1 4 [(13,.i (sb l (wS c.path))),(12,pth c.to),(11,.ptr 0 2)] 29 [pth c.to,.i (sb l (wS c.path))] 14 (((1:Nat)≠0)/\(2+1<=5/\2<5)/\·) ⟨dc,dc,PE.use (szS_ok c.to hq2 (sb l (wS c.path)) om om) (Ke (Fn0 [2] [(1,.i (sb (sb l (wS c.path)) (wS c.to)))] ?_))⟩)
 refine Sq fun K8 hK8=>?_
 refine Rr (Cn1 (decide ((sb (sb l (wS c.path)) (wS c.to):Int)<(0:Int))) [1,2] [] (Ki/\·) ⟨rfl,fun hc10 c10=>?_,fun hc10 c10=>?_⟩)
 refine Rr (Fn0 [] [(4,.i (-1))] (Rt (.i (-1)) (fin_lea ?_)))
 have qc5:=sb_ge (l:=l) (n:=(wS c.path)) (by have h:=c5;omega)
 have qc10:=sb_lt (l:=(sb l (wS c.path))) (n:=(wS c.to)) om (by have h:=c10;omega)
 have e:(-1)=sb l (wS c.path+wS c.to+c.data.length):=(sb_mk1 om).symm
 rw[e];exact lea_refl _
 refine Sk (Jn (hK8 (Kp [1,2] ?_)))
 have qc5:=sb_ge (l:=l) (n:=(wS c.path)) (by have h:=c5;omega)
 have qc10:=sb_ge (l:=(sb l (wS c.path))) (n:=(wS c.to)) (by have h:=c10;omega)
 
 refine Rr (Av1 (r:=.i (IntKind.i64.wrap ((sb (sb l (wS c.path)) (wS c.to))-(c.data.length:Int)))) (v:=.i ((sb (sb l (wS c.path)) (wS c.to))-(c.data.length:Int))) 5 21 [(20,.i c.data.length),(19,.str c.data),(18,.ptr 0 4),(17,.i (sb (sb l (wS c.path)) (wS c.to)))] (cI (wrap64 om om)) (((1:Nat)≠0)/\(4+1<=5/\4<5)/\Ki/\·) ⟨dc,dc,rfl,Fn0 [] [(1,.i ((sb (sb l (wS c.path)) (wS c.to))-(c.data.length:Int)))] (Sq fun K13 hK13=>?_)⟩)
 refine Rr (Cn1 (decide ((((sb (sb l (wS c.path)) (wS c.to))-(c.data.length:Int)):Int)<(0:Int))) [1] [] (Ki/\·) ⟨rfl,fun hc15 c15=>?_,fun hc15 c15=>?_⟩)
 refine Rr (Fn0 [] [(4,.i (-1))] (Rt (.i (-1)) (fin_lea ?_)))
 have qc5:=sb_ge (l:=l) (n:=(wS c.path)) (by have h:=c5;omega)
 have qc10:=sb_ge (l:=(sb l (wS c.path))) (n:=(wS c.to)) (by have h:=c10;omega)
 have e:(-1)=sb l (wS c.path+wS c.to+c.data.length):=(sb_mk1 om).symm
 rw[e];exact lea_refl _
 refine Sk (Jn (hK13 (Kp [1] (Rr (Fn0 [] [(4,.i ((sb (sb l (wS c.path)) (wS c.to))-(c.data.length:Int)))] (Rt (.i ((sb (sb l (wS c.path)) (wS c.to))-(c.data.length:Int))) (fin_lea ?_)))))))
 have qc5:=sb_ge (l:=l) (n:=(wS c.path)) (by have h:=c5;omega)
 have qc10:=sb_ge (l:=(sb l (wS c.path))) (n:=(wS c.to)) (by have h:=c10;omega)
 have e:((sb (sb l (wS c.path)) (wS c.to))-(c.data.length:Int))=sb l (wS c.path+wS c.to+c.data.length):=by first|rfl|(rw[sb_mk2 (l:=l) (n:=wS c.path+wS c.to+c.data.length) om];omega)
 rw[e];exact lea_refl _
open Go Go.Proofs
set_option maxRecDepth 100000
theorem toS_ok (p:List Str) (hp:p.length<2^40):DC G 39 [pth p] [] (PR p):=by
 refine DC_nd fun hnd=>?_
 refine h_dc (F:=[(0,pth p)]) ⟨purs_pth p,trivial⟩ trivial Tryz.func39 kr kr ?_ kr
 refine Rr (Fn0 [0] [] (Rr (Av0 2 6 [(5,pth p)] (lnm p sc) (An3 1 [(7,.osl 0 1 0 (p.length:Int).toNat)] ([(0,zrs (p.length:Int).toNat [.str []])]++·) 4 (((p.length:Int)=(p.length:Int)/\(0:Int)<=(p.length:Int)/\(p.length:Int).toNat*16<=140737488355328/\(p.length:Int)<=140737488355328)/\·) ⟨⟨rfl,om,om,om⟩,?_⟩))))
 refine run_v (v':=.osl 0 1 0 p.length) rfl ?_
 refine run_h (cs':=fl sc (List.replicate p.length ([]:Str))) (zrs_fl sc ([]:Str) p.length) ?_
 refine Fn0 [0] [(3,.osl 0 1 0 p.length)] (Sq fun K3 hK3=>?_)
 refine Rr (Fn0 [0,3] [(4,.i 0)] (Bl (h_l (fun(k:Nat)=>([(0,pth p),(3,.osl 0 1 0 p.length),(4,.i k)]:Fr)) (fun(k:Nat)=>(((0,fl sc (p.take k++List.replicate (p.length-k) ([]:Str)))::[]):Hp)) (fun(k:Nat) cn=>(k<=p.length)/\cn=4) (fun(k:Nat)=>p.length-k) 0 kr ?_ ?_ ?_ ?_)))
 refine⟨?_,rfl⟩;exact Nat.zero_le _
 exact⟨kr,kr,kr,trivial⟩
 exact(List.Sublist.refl _)
 rintro k n1 hI
 (try dsimp only at hI)
 obtain⟨hk,rfl⟩:=hI
 refine Sq fun K5 hK5=>?_
 refine Rr (Av0 3 10 [(9,pth p),(8,.i k)] (lnm p sc) (Cn1 (decide ((k:Int)<(p.length:Int))) [0,3,4] [] (Ki/\·) ⟨rfl,fun hc7 c7=>?_,fun hc7 c7=>?_⟩))
 refine Sk (Jn (hK5 (Kp [0,3,4] (Sq fun K8 hK8=>?_))))
 refine Bl (Rb (fun h=>Bn (Jn (hK8 h))) (Av1 5 18 [(17,.i k),(16,pth p),(15,.i k),(14,.osl 0 1 0 p.length)] (congrArg AV.pat (mg_str p k om)) ((1=1/\(0:Int)<=(k:Int)/\(k:Int)<((p.map (fun s=>[AV.str s])).length:Int))/\·) ⟨⟨rfl,om,lmo⟩,An3 3 [(20,.ptr 0 (0+k*1)),(19,.str (p.getD k default))] (fun _=>((0,(fl sc (p.take k++List.replicate (p.length-k) ([]:Str))).take (0+k*1)++[.str (p.getD k default)]++(fl sc (p.take k++List.replicate (p.length-k) ([]:Str))).drop (0+k*1+1))::[])) 4 ((1<=1/\0<1)/\(1=1/\(0:Int)<=(k:Int)/\(k:Int)<(p.length:Int))/\(true=true/\1=1/\0+k*1+1<=(fl sc (p.take k++List.replicate (p.length-k) ([]:Str))).length)/\·) ⟨dc,⟨rfl,om,om⟩,⟨rfl,rfl,(by(try simp only[List.length_append,List.length_replicate,List.length_take,flTl,flSl,ints_len,List.length_set]);omega)⟩,run_H (H':=((0,fl sc ((p.take k++List.replicate (p.length-k) ([]:Str)).set k (p.getD k default)))::[])) (by rw[rowS_set (p.take k++List.replicate (p.length-k) ([]:Str)) k (p.getD k default) (by first|omega|(rw[List.length_set];omega)|(simp only[List.length_append,List.length_replicate,List.length_take];omega))]) ?_⟩⟩))
 refine Fn0 [0,3,4] [] (h_k [0,3,4] (F':=[(0,pth p),(3,.osl 0 1 0 p.length),(4,.i k)]) kr (Hn ((0,fl sc ((p.take k++List.replicate (p.length-k) ([]:Str)).set k (p.getD k default)))::[]) (h_st (F':=[(0,pth p),(3,.osl 0 1 0 p.length),(4,.i k)]) (H':=((0,fl sc (p.take (k+1)++List.replicate (p.length-(k+1)) ([]:Str)))::[])) rfl (by rw[tk_rep om]) (Rn ?_))))
 refine Av1 2 13 [(12,.i k)] (cI (wn1 k om)) (Ki/\·) ⟨rfl,Gn0 [(4,.i ((k+1:Nat):Int))] (nk_n (Lr (k+1) [(0,0)] 4 [(0,pth p),(3,.osl 0 1 0 p.length),(4,.i ((k+1:Nat):Int))] [(0,fl sc (p.take (k+1)++List.replicate (p.length-(k+1)) ([]:Str)))] [false] ?_ ?_ kr kr))⟩
 (try dsimp only);omega
 refine⟨?_,rfl⟩;(try dsimp only);omega
 refine Xt (Jx (Lx (Bh (Jn (hK3 (Kp [3] (h_k [3] (F':=[(3,.osl 0 1 0 p.length)]) kr (Hn ((0,fl sc (p.take k++List.replicate (p.length-k) ([]:Str)))::[]) (h_st (F':=[(3,.osl 0 1 0 p.length)]) (H':=((0,fl sc p)::[])) rfl (by rw[rep0 om,List.take_of_length_le om]) (h_k [3] (F':=[(3,.osl 0 1 0 p.length)]) kr ?_))))))))))
 refine Hn ((0,fl sc p)::[]) (h_odd (H:=[(0,fl sc p)]) 0 (fun jn=>[(3,.osl (2*jn+1) 1 0 p.length)]) (fun jn=>[((2*jn+1),fl sc p)]) kr trivial (fun jn=>⟨by simp only[slF,slp,slps,go_sem,and_self],kr⟩) (fun jn=>⟨rfl,.inl ⟨ods_flS _,rfl⟩,trivial⟩) (fun jn=>(Rr (Fn0 [] [(2,.osl (2*jn+1) 1 0 p.length)] (Rt (.osl (2*jn+1) 1 0 p.length) ?_)))))
 exact fin_dc (.osl (2*jn+1) 1 0 p.length) [(2*jn+1,fl sc p)] (List.Sublist.refl _) (lea_refl _) (show(2*jn+1)%2=1 by omega) ⟨om,ods_flS p,trivial⟩ ⟨jn,rfl,rfl⟩
theorem toTs_ok (ks:List Tr) (hn:ks.length<2^40) (ih:∀k∈ks,DC G 10 [.agg (tcs k)] [] (ClR k)):DC G 40 [.sl 5 (ks.map trc)] [] (TSR ks):=by
 refine DC_nd fun hnd=>?_
 refine h_dc (F:=[(0,.sl 5 (ks.map trc))]) ⟨puress_trc ks,trivial⟩ trivial Tryz.func40 kr kr ?_ kr
 refine Rr (Fn0 [0] [] (Rr (Av0 2 6 [(5,.sl 5 (ks.map trc))] (lnm ks trc) (An3 1 [(7,.osl 0 5 0 (ks.length:Int).toNat)] ([(0,zrs (ks.length:Int).toNat zt)]++·) 4 (((ks.length:Int)=(ks.length:Int)/\(0:Int)<=(ks.length:Int)/\(ks.length:Int).toNat*80<=140737488355328/\(ks.length:Int)<=140737488355328)/\·) ⟨⟨rfl,om,om,om⟩,?_⟩))))
 refine run_v (v':=.osl 0 5 0 ks.length) rfl ?_
 refine run_h (cs':=fl otc (List.replicate ks.length (default:OT))) (zrs_fl otc (default:OT) ks.length) ?_
 refine Fn0 [0] [(3,.osl 0 5 0 ks.length)] (Sq fun K3 hK3=>?_)
 refine Rr (Fn0 [0,3] [(4,.i 0)] (Bl (h_ls (fun(x:Nat×List OT)=>(match x with|(k,Ts)=>([(0,.sl 5 (ks.map trc)),(3,.osl 0 5 0 ks.length),(4,.i k)]:Fr))) (fun(x:Nat×List OT)=>(match x with|(k,Ts)=>(((0,fl otc (Ts++List.replicate (ks.length-k) (default:OT)))::(objss Ts)):Hp))) (fun(x:Nat×List OT) cn=>(match x with|(k,Ts)=>(Ts.map er=ks.take k/\shps Ts/\asms Ts/\k<=ks.length)/\cn=4)) (fun(x:Nat×List OT)=>ks.length-x.1) (0,[]) kr ?_ ?_ ?_ ?_)))
 refine⟨?_,rfl⟩;exact⟨rfl,trivial,trivial,Nat.zero_le _⟩
 exact⟨kr,kr,kr,trivial⟩
 exact(sub_c (by show _=fl otc ([]++List.replicate (ks.length-0) default);rw[List.nil_append,Nat.sub_zero]) (List.Sublist.refl _))
 rintro⟨k,Ts⟩ n1 hI
 (try dsimp only at hI)
 obtain⟨⟨h1,h2,h3,hk⟩,rfl⟩:=hI
 have hkl:Ts.length=k:=by have:=congrArg List.length h1;rw[List.length_map,tkl hk]at this;exact this
 refine Sq fun K5 hK5=>?_
 refine Rr (Av0 3 10 [(9,.sl 5 (ks.map trc)),(8,.i k)] (lnm ks trc) (Cn1 (decide ((k:Int)<(ks.length:Int))) [0,3,4] [] (Ki/\·) ⟨rfl,fun hc7 c7=>?_,fun hc7 c7=>?_⟩))
 refine Sk (Jn (hK5 (Kp [0,3,4] (Sq fun K8 hK8=>?_))))
 refine Bl (Rb (fun h=>Bn (Jn (hK8 h))) (Av1 5 18 [(17,.i k),(16,.sl 5 (ks.map trc)),(15,.i k),(14,.osl 0 5 0 ks.length)] (congrArg AV.pat (mg_trc ks k om)) ((5=5/\(0:Int)<=(k:Int)/\(k:Int)<((ks.map trc).length:Int))/\·) ⟨⟨rfl,om,lmo⟩,Bc1 2 [(19,.agg (tcs (ks.getD k default)))] 10 [.agg (tcs (ks.getD k default))] 20 ((5<=5/\0<5)/\·) ⟨dc,TCall.mono (mk_use (View.refl _ _) (ih _ (getD_mem ks k default om)) fun r Z h=>h.nsl) ?_⟩⟩))
 rintro _ H1 _ _ ⟨rfl,Z1,hH1,T,he,hs,ha,rfl,rfl⟩
 have hH2:H1=((0,fl otc (Ts++List.replicate (ks.length-k) (default:OT)))::objss (Ts++[T])):=by rw[hH1];simp only[objss_app,objss,List.append_nil,List.nil_append,List.cons_append]
 clear hH1;subst hH2
 refine Ke (An3 2 [(21,.ptr 0 (0+k*5))] (fun _=>((0,(fl otc (Ts++List.replicate (ks.length-k) (default:OT))).take (0+k*5)++otc T++(fl otc (Ts++List.replicate (ks.length-k) (default:OT))).drop (0+k*5+5))::(objss (Ts++[T])))) 4 ((5=5/\(0:Int)<=(k:Int)/\(k:Int)<(ks.length:Int))/\(true=true/\5=5/\0+k*5+5<=(fl otc (Ts++List.replicate (ks.length-k) (default:OT))).length)/\·) ⟨⟨rfl,om,om⟩,⟨rfl,rfl,(by(try simp only[flOl,List.length_append,List.length_replicate,flTl,flSl,ints_len,List.length_set]);omega)⟩,run_H (H':=((0,fl otc ((Ts++List.replicate (ks.length-k) (default:OT)).set k T))::(objss (Ts++[T])))) (by rw[rowO_set (Ts++List.replicate (ks.length-k) (default:OT)) k T (by first|omega|(rw[List.length_set];omega)|(simp only[List.length_append,List.length_replicate,List.length_take];omega))]) (Fn0 [0,3,4] [] (h_k [0,3,4] (F':=[(0,.sl 5 (ks.map trc)),(3,.osl 0 5 0 ks.length),(4,.i k)]) kr ?_))⟩)
 refine Hn ((0,fl otc ((Ts++List.replicate (ks.length-k) (default:OT)).set k T))::(objss (Ts++[T]))) (h_st (F':=[(0,.sl 5 (ks.map trc)),(3,.osl 0 5 0 ks.length),(4,.i k)]) (H':=((0,fl otc ((Ts++[T])++List.replicate (ks.length-(k+1)) (default:OT)))::(objss (Ts++[T])))) rfl (by rw[set_rep hkl om]) (Rn (Av1 2 13 [(12,.i k)] (cI (wn1 k om)) (Ki/\·) ⟨rfl,Gn0 [(4,.i ((k+1:Nat):Int))] ?_⟩)))
 refine nk_n (lsz_mk (k+1,Ts++[T]) [(0,0)] 4 [(0,.sl 5 (ks.map trc)),(3,.osl 0 5 0 ks.length),(4,.i ((k+1:Nat):Int))] [(0,fl otc ((Ts++[T])++List.replicate (ks.length-(k+1)) (default:OT)))] [(0,fl otc ((Ts++[T])++List.replicate (ks.length-(k+1)) (default:OT)))] (objss (Ts++[T])) ?_ ?_ ⟨kr,kr⟩ ⟨kr,kr,kr,trivial⟩ ⟨_,List.Perm.refl _,(List.Sublist.cons_cons _ (List.Sublist.refl _))⟩ ⟨?_,?_⟩ ⟨rfl,.inr ⟨ods_flO _,kr⟩,trivial⟩ kr (odH_objss _))
 (try dsimp only);omega
 refine⟨?_,rfl⟩;exact⟨by rw[List.map_append,h1,List.map_cons,List.map_nil,he,take_snoc ks k default om],shps_app.2 ⟨h2,hs,trivial⟩,asms_app.2 ⟨h3,ha,trivial⟩,om⟩
 simp only[slF,slp,slps,go_sem,and_self]
 kernel_rfl
 refine Xt (Jx (Lsx (Bh (Jn (hK3 (Kp [3] (h_k [3] (F':=[(3,.osl 0 5 0 ks.length)]) kr (Hn ((0,fl otc (Ts++List.replicate (ks.length-k) (default:OT)))::(objss Ts)) (h_st (F':=[(3,.osl 0 5 0 ks.length)]) (H':=((0,fl otc Ts)::(objss Ts))) rfl (by rw[rep0 om];(try rw[show ks.length=Ts.length by omega])) (h_k [3] (F':=[(3,.osl 0 5 0 ks.length)]) kr ?_))))))))))
 refine Hn ((0,fl otc Ts)::(objss Ts)) (h_odd (H:=[(0,fl otc Ts)]) 0 (fun jk=>[(3,.osl (2*jk+1) 5 0 ks.length)]) (fun jk=>[((2*jk+1),fl otc Ts)]) kr (odH_objss Ts) (fun jk=>⟨by simp only[slF,slp,slps,go_sem,and_self],kr⟩) (fun jk=>⟨rfl,.inl ⟨ods_flO _,rfl⟩,trivial⟩) (fun jk=>(Rr (Fn0 [] [(2,.osl (2*jk+1) 5 0 ks.length)] (Rt (.osl (2*jk+1) 5 0 ks.length) ?_)))))
 refine fin_dc (.osl (2*jk+1) 5 0 Ts.length) ((2*jk+1,fl otc Ts)::objss Ts) (List.Sublist.refl _) ?_ (show(2*jk+1)%2=1 by omega) ⟨om,ods_flO _,odH_objss Ts⟩ ⟨jk,Ts,?_,h2,h3,rfl,rfl⟩
 · rw[show ks.length=Ts.length by omega];exact lea_refl _
 · rw[h1,List.take_of_length_le om]
theorem toT_ok:∀(N:Nat) (t:Tr),t.W=N->t.W<2^40->DC G 10 [.agg (tcs t)] [] (ClR t):=by
 intro N;refine Nat.strongRecOn N fun N ih=>?_;intro t hN hw;rw[W_eq]at hN hw;have hks:=Ws_len t.kids;have hns:=wS_len t.names
 refine DC_nd fun hnd=>?_
 refine h_dc (F:=[(0,.agg (tcs t))]) (ods_tcs t) trivial Tryz.func10 kr kr ?_ kr
 refine Rr (Fn2 [] [(2,.ptr 4 0),(1,.ptr 0 0)] ([(4,zt),(0,tcs t)]++·) 8 (Rr (Fn2 [1,2] [(3,.ptr 8 0)] ([(8,zt)]++·) 12 (Rr ?_))))
 refine Fn3 [1,2,3] [] (fun _=>((8,[.bool t.dir,.i 0,.str [],.nils,.nils])::(4,zt)::(0,tcs t)::[])) 12 (((1:Nat)≠0)/\(0+1<=5/\0<5)/\((1:Nat)≠0)/\(true=true/\1=1/\0+1<=5)/\·) ⟨dc,dc,dc,dc,Rr (Fn3 [1,2,3] [] (fun _=>((8,[.bool t.dir,.i t.mode,.str [],.nils,.nils])::(4,zt)::(0,tcs t)::[])) 12 (((1:Nat)≠0)/\(1+1<=5/\1<5)/\((1:Nat)≠0)/\(true=true/\1=1/\1+1<=5)/\·) ⟨dc,dc,dc,dc,Rr (Fn3 [1,2,3] [] (fun _=>((8,[.bool t.dir,.i t.mode,.str t.data,.nils,.nils])::(4,zt)::(0,tcs t)::[])) 12 (((1:Nat)≠0)/\(2+1<=5/\2<5)/\((1:Nat)≠0)/\(true=true/\1=1/\2+1<=5)/\·) ⟨dc,dc,dc,dc,?_⟩)⟩)⟩
 refine Rr (Bc1 3 [(14,pth t.names),(13,.ptr 0 3)] 39 [pth t.names] 15 (((1:Nat)≠0)/\(3+1<=5/\3<5)/\·) ⟨dc,dc,TCall.mono (mk_use (View.refl _ _) (toS_ok t.names om) fun r Z h=>h.nsl) ?_⟩)
 rintro _ H1 _ _ ⟨rfl,Z1,hH1,⟨j7,rfl,rfl⟩⟩
 have hH2:H1=((8,[.bool t.dir,.i t.mode,.str t.data,.nils,.nils])::(4,zt)::(0,tcs t)::[(2*j7+1,fl sc t.names)]):=by rw[hH1];(try simp only[List.cons_append,List.nil_append,List.append_assoc])
 clear hH1;subst hH2
 refine Ke (Fn3 [1,2,3] [] (fun _=>((8,[.bool t.dir,.i t.mode,.str t.data,.osl (2*j7+1) 1 0 t.names.length,.nils])::(4,zt)::(0,tcs t)::[(2*j7+1,fl sc t.names)])) 12 (((1:Nat)≠0)/\(true=true/\1=1/\3+1<=5)/\·) ⟨dc,dc,Rr (Bc1 3 [(18,.sl 5 (t.kids.map trc)),(17,.ptr 0 4)] 40 [.sl 5 (t.kids.map trc)] 19 (((1:Nat)≠0)/\(4+1<=5/\4<5)/\·) ⟨dc,dc,TCall.mono (mk_use (View.refl _ _) (toTs_ok t.kids om (fun k hk=>ih _ (by have:=Ws_mem hk;omega) k rfl (by have:=Ws_mem hk;omega))) fun r Z h=>h.nsl) ?_⟩)⟩)
 rintro _ H1 _ _ ⟨rfl,Z1,hH1,⟨b11,Ts12,h1Ts12,h2Ts12,h3Ts12,rfl,rfl⟩⟩
 have hH2:H1=((8,[.bool t.dir,.i t.mode,.str t.data,.osl (2*j7+1) 1 0 t.names.length,.nils])::(4,zt)::(0,tcs t)::([(2*j7+1,fl sc t.names)]++((2*b11+1,fl otc Ts12)::objss Ts12))):=by rw[hH1];(try simp only[List.cons_append,List.nil_append,List.append_assoc])
 clear hH1;subst hH2
 refine Ke (Fn3 [2,3] [] (fun _=>((8,[.bool t.dir,.i t.mode,.str t.data,.osl (2*j7+1) 1 0 t.names.length,.osl (2*b11+1) 5 0 Ts12.length])::(4,zt)::(0,tcs t)::([(2*j7+1,fl sc t.names)]++((2*b11+1,fl otc Ts12)::objss Ts12)))) 12 (((1:Nat)≠0)/\(true=true/\1=1/\4+1<=5)/\·) ⟨dc,dc,Rr (Fn3 [2] [] (fun _=>((8,[.bool t.dir,.i t.mode,.str t.data,.osl (2*j7+1) 1 0 t.names.length,.osl (2*b11+1) 5 0 Ts12.length])::(4,[.bool t.dir,.i t.mode,.str t.data,.osl (2*j7+1) 1 0 t.names.length,.osl (2*b11+1) 5 0 Ts12.length])::(0,tcs t)::([(2*j7+1,fl sc t.names)]++((2*b11+1,fl otc Ts12)::objss Ts12)))) 12 ((0+5<=5/\0<5)/\(true=true/\5=5/\0+5<=5)/\·) ⟨dc,dc,Rt1 ((0+5<=5/\0<5)/\·) (.agg [.bool t.dir,.i t.mode,.str t.data,.osl (2*j7+1) 1 0 t.names.length,.osl (2*b11+1) 5 0 Ts12.length]) ⟨dc,?_⟩⟩)⟩)
 refine fin_dc (.agg (otc (.mk t.dir t.mode t.data (some (j7,b11)) t.names Ts12))) (objs (.mk t.dir t.mode t.data (some (j7,b11)) t.names Ts12)) ?_ ?_ (ods_otc _) (odH_objs _) ⟨_,?_,?_,?_,rfl,rfl⟩
 · simp only[objs,own,OT.ids_mk,OT.names_mk,OT.kids_mk]
   exact List.Sublist.cons _ (List.Sublist.cons _ (List.Sublist.cons _ (List.Sublist.refl _)))
 · exact lea_refl _
 · rw[er_eq];simp only[OT.dir_mk,OT.mode_mk,OT.data_mk,OT.names_mk,OT.kids_mk];rw[h1Ts12];cases t;rfl
 · exact(shp_eq _).2 ⟨fun h=>by simp at h,h2Ts12⟩
 · exact(asm_eq _).2 ⟨rfl,h3Ts12⟩
theorem toMk_ok (m:Mk) (hm:m.path.length<2^40):DC G 57 [.agg (mkc m)] [] (MkR m):=by
 refine DC_nd fun hnd=>?_
 refine h_dc (F:=[(0,.agg (mkc m))]) ⟨⟨purs_pth _,trivial,trivial⟩,trivial⟩ trivial Tryz.func57 kr kr ?_ kr
 refine Rr (Fn2 [] [(2,.ptr 4 0),(1,.ptr 0 0)] ([(4,[.nils,.bool false]),(0,mkc m)]++·) 8 (Rr (Fn2 [1,2] [(3,.ptr 8 0)] ([(8,[.nils,.bool false])]++·) 12 (Rr ?_))))
 refine Bc1 3 [(5,pth m.path),(4,.ptr 0 0)] 39 [pth m.path] 6 (((1:Nat)≠0)/\(0+1<=2/\0<2)/\·) ⟨dc,dc,?_⟩
 refine TCall.mono (mk_use (View.refl _ _) (toS_ok m.path om) fun r Z h=>h.nsl) ?_
 rintro _ H1 _ _ ⟨rfl,Z1,hH1,⟨j4,rfl,rfl⟩⟩
 have hH2:H1=((8,[.nils,.bool false])::(4,[.nils,.bool false])::(0,mkc m)::[(2*j4+1,fl sc m.path)]):=by rw[hH1];(try simp only[List.cons_append,List.nil_append,List.append_assoc])
 clear hH1;subst hH2
 refine Ke (Fn3 [1,2,3] [] (fun _=>((8,[.osl (2*j4+1) 1 0 m.path.length,.bool false])::(4,[.nils,.bool false])::(0,mkc m)::[(2*j4+1,fl sc m.path)])) 12 (((1:Nat)≠0)/\(true=true/\1=1/\0+1<=2)/\·) ⟨dc,dc,Rr (Fn3 [2,3] [] (fun _=>((8,[.osl (2*j4+1) 1 0 m.path.length,.bool m.sub])::(4,[.nils,.bool false])::(0,mkc m)::[(2*j4+1,fl sc m.path)])) 12 (((1:Nat)≠0)/\(1+1<=2/\1<2)/\((1:Nat)≠0)/\(true=true/\1=1/\1+1<=2)/\·) ⟨dc,dc,dc,dc,Rr ?_⟩)⟩)
 refine Fn3 [2] [] (fun _=>((8,[.osl (2*j4+1) 1 0 m.path.length,.bool m.sub])::(4,[.osl (2*j4+1) 1 0 m.path.length,.bool m.sub])::(0,mkc m)::[(2*j4+1,fl sc m.path)])) 12 ((0+2<=2/\0<2)/\(true=true/\2=2/\0+2<=2)/\·) ⟨dc,dc,Rt1 ((0+2<=2/\0<2)/\·) (.agg [.osl (2*j4+1) 1 0 m.path.length,.bool m.sub]) ⟨dc,fin_dc (.agg (omc ⟨m.path,m.sub,some j4⟩)) (omo ⟨m.path,m.sub,some j4⟩) (List.Sublist.cons _ (List.Sublist.cons _ (List.Sublist.cons _ (List.Sublist.refl _)))) (lea_refl _) (ods_omc _) (odH_omo _) ⟨_,rfl,rfl,rfl,rfl⟩⟩⟩
theorem toMs_ok (ml:List Mk) (hn:ml.length<2^40) (hm:∀m∈ml,m.path.length<2^40):DC G 22 [.sl 2 (ml.map mkc)] [] (MR ml):=by
 refine DC_nd fun hnd=>?_
 refine h_dc (F:=[(0,.sl 2 (ml.map mkc))]) ⟨puress_mk ml,trivial⟩ trivial Tryz.func22 kr kr ?_ kr
 refine Rr (Fn0 [0] [] (Rr (Av0 2 6 [(5,.sl 2 (ml.map mkc))] (lnm ml mkc) (An3 1 [(7,.osl 0 2 0 (ml.length:Int).toNat)] ([(0,zrs (ml.length:Int).toNat [.nils,.bool false])]++·) 4 (((ml.length:Int)=(ml.length:Int)/\(0:Int)<=(ml.length:Int)/\(ml.length:Int).toNat*32<=140737488355328/\(ml.length:Int)<=140737488355328)/\·) ⟨⟨rfl,om,om,om⟩,?_⟩))))
 refine run_v (v':=.osl 0 2 0 ml.length) rfl ?_
 refine run_h (cs':=fl omc (List.replicate ml.length zM)) (zrs_fl omc zM ml.length) ?_
 refine Fn0 [0] [(3,.osl 0 2 0 ml.length)] (Sq fun K3 hK3=>?_)
 refine Rr (Fn0 [0,3] [(4,.i 0)] (Bl (h_ls (fun(x:Nat×List OM)=>(match x with|(k,Ms)=>([(0,.sl 2 (ml.map mkc)),(3,.osl 0 2 0 ml.length),(4,.i k)]:Fr))) (fun(x:Nat×List OM)=>(match x with|(k,Ms)=>(((0,fl omc (Ms++List.replicate (ml.length-k) zM))::(omos Ms)):Hp))) (fun(x:Nat×List OM) cn=>(match x with|(k,Ms)=>(Ms.map erM=ml.take k/\(∀m,m∈Ms->m.id.isSome=true)/\k<=ml.length)/\cn=4)) (fun(x:Nat×List OM)=>ml.length-x.1) (0,[]) kr ?_ ?_ ?_ ?_)))
 refine⟨?_,rfl⟩;exact⟨rfl,fun m hm=>(by simp at hm),Nat.zero_le _⟩
 exact⟨kr,kr,kr,trivial⟩
 exact(sub_c (by show _=fl omc ([]++List.replicate (ml.length-0) zM);rw[List.nil_append,Nat.sub_zero]) (List.Sublist.refl _))
 rintro⟨k,Ms⟩ n1 hI
 (try dsimp only at hI)
 obtain⟨⟨h1,h2,hk⟩,rfl⟩:=hI
 have hkl:Ms.length=k:=by have:=congrArg List.length h1;rw[List.length_map,tkl hk]at this;exact this
 refine Sq fun K5 hK5=>?_
 refine Rr (Av0 3 10 [(9,.sl 2 (ml.map mkc)),(8,.i k)] (lnm ml mkc) (Cn1 (decide ((k:Int)<(ml.length:Int))) [0,3,4] [] (Ki/\·) ⟨rfl,fun hc7 c7=>?_,fun hc7 c7=>?_⟩))
 refine Sk (Jn (hK5 (Kp [0,3,4] (Sq fun K8 hK8=>?_))))
 refine Bl (Rb (fun h=>Bn (Jn (hK8 h))) (Av1 5 18 [(17,.i k),(16,.sl 2 (ml.map mkc)),(15,.i k),(14,.osl 0 2 0 ml.length)] (congrArg AV.pat (mg_mk ml k om)) ((2=2/\(0:Int)<=(k:Int)/\(k:Int)<((ml.map mkc).length:Int))/\·) ⟨⟨rfl,om,lmo⟩,Bc1 2 [(19,.agg (mkc (ml.getD k default)))] 57 [.agg (mkc (ml.getD k default))] 20 ((2<=2/\0<2)/\·) ⟨dc,TCall.mono (mk_use (View.refl _ _) (toMk_ok (ml.getD k default) (by have:=hm _ (getD_mem ml k default om);omega)) fun r Z h=>h.nsl) ?_⟩⟩))
 rintro _ H1 _ _ ⟨rfl,Z1,hH1,M,he,hs,rfl,rfl⟩
 have hH2:H1=((0,fl omc (Ms++List.replicate (ml.length-k) zM))::omos (Ms++[M])):=by rw[hH1];simp only[omos_app,omos,List.append_nil,List.nil_append,List.cons_append]
 clear hH1;subst hH2
 refine Ke (An3 2 [(21,.ptr 0 (0+k*2))] (fun _=>((0,(fl omc (Ms++List.replicate (ml.length-k) zM)).take (0+k*2)++omc M++(fl omc (Ms++List.replicate (ml.length-k) zM)).drop (0+k*2+2))::(omos (Ms++[M])))) 4 ((2=2/\(0:Int)<=(k:Int)/\(k:Int)<(ml.length:Int))/\(true=true/\2=2/\0+k*2+2<=(fl omc (Ms++List.replicate (ml.length-k) zM)).length)/\·) ⟨⟨rfl,om,om⟩,⟨rfl,rfl,(by(try simp only[flOMl,List.length_append,List.length_replicate,flTl,flSl,ints_len,List.length_set]);omega)⟩,run_H (H':=((0,fl omc ((Ms++List.replicate (ml.length-k) zM).set k M))::(omos (Ms++[M])))) (by rw[rowOM_set (Ms++List.replicate (ml.length-k) zM) k M (by first|omega|(rw[List.length_set];omega)|(simp only[List.length_append,List.length_replicate,List.length_take];omega))]) (Fn0 [0,3,4] [] (h_k [0,3,4] (F':=[(0,.sl 2 (ml.map mkc)),(3,.osl 0 2 0 ml.length),(4,.i k)]) kr ?_))⟩)
 refine Hn ((0,fl omc ((Ms++List.replicate (ml.length-k) zM).set k M))::(omos (Ms++[M]))) (h_st (F':=[(0,.sl 2 (ml.map mkc)),(3,.osl 0 2 0 ml.length),(4,.i k)]) (H':=((0,fl omc ((Ms++[M])++List.replicate (ml.length-(k+1)) zM))::(omos (Ms++[M])))) rfl (by rw[set_rep hkl om]) (Rn (Av1 2 13 [(12,.i k)] (cI (wn1 k om)) (Ki/\·) ⟨rfl,Gn0 [(4,.i ((k+1:Nat):Int))] ?_⟩)))
 refine nk_n (lsz_mk (k+1,Ms++[M]) [(0,0)] 4 [(0,.sl 2 (ml.map mkc)),(3,.osl 0 2 0 ml.length),(4,.i ((k+1:Nat):Int))] [(0,fl omc ((Ms++[M])++List.replicate (ml.length-(k+1)) zM))] [(0,fl omc ((Ms++[M])++List.replicate (ml.length-(k+1)) zM))] (omos (Ms++[M])) ?_ ?_ ⟨kr,kr⟩ ⟨kr,kr,kr,trivial⟩ ⟨_,List.Perm.refl _,(List.Sublist.cons_cons _ (List.Sublist.refl _))⟩ ⟨?_,?_⟩ ⟨rfl,.inr ⟨ods_flOM _,kr⟩,trivial⟩ kr (odH_omos _))
 (try dsimp only);omega
 refine⟨?_,rfl⟩;exact⟨by rw[List.map_append,h1,List.map_cons,List.map_nil,he,take_snoc ml k default om],fun m hm=>(List.mem_append.1 hm).elim (h2 m) fun h=>by rw[List.mem_singleton]at h;rw[h];exact hs,om⟩
 simp only[slF,slp,slps,go_sem,and_self]
 kernel_rfl
 refine Xt (Jx (Lsx (Bh (Jn (hK3 (Kp [3] (h_k [3] (F':=[(3,.osl 0 2 0 ml.length)]) kr (Hn ((0,fl omc (Ms++List.replicate (ml.length-k) zM))::(omos Ms)) (h_st (F':=[(3,.osl 0 2 0 ml.length)]) (H':=((0,fl omc Ms)::(omos Ms))) rfl (by rw[rep0 om]) (h_k [3] (F':=[(3,.osl 0 2 0 ml.length)]) kr ?_))))))))))
 refine Hn ((0,fl omc Ms)::(omos Ms)) (h_odd (H:=[(0,fl omc Ms)]) 0 (fun jk=>[(3,.osl (2*jk+1) 2 0 ml.length)]) (fun jk=>[((2*jk+1),fl omc Ms)]) kr (odH_omos Ms) (fun jk=>⟨by simp only[slF,slp,slps,go_sem,and_self],kr⟩) (fun jk=>⟨rfl,.inl ⟨ods_flOM _,rfl⟩,trivial⟩) (fun jk=>(Rr (Fn0 [] [(2,.osl (2*jk+1) 2 0 ml.length)] (Rt (.osl (2*jk+1) 2 0 ml.length) ?_)))))
 refine fin_dc (.osl (2*jk+1) 2 0 Ms.length) ((2*jk+1,fl omc Ms)::omos Ms) (List.Sublist.refl _) ?_ (show(2*jk+1)%2=1 by omega) ⟨om,ods_flOM _,odH_omos Ms⟩ ⟨jk,Ms,?_,h2,rfl,rfl⟩
 · rw[show ml.length=Ms.length by omega];exact lea_refl _
 · rw[h1,List.take_of_length_le om]
theorem toC_ok (c:Cl) (h1:c.path.length<2^40) (h2:c.to.length<2^40):DC G 11 [.agg (clc c)] [] (CR c):=by
 refine DC_nd fun hnd=>?_
 refine h_dc (F:=[(0,.agg (clc c))]) ⟨(ods_clc c).1,trivial⟩ trivial Tryz.func11 kr kr ?_ kr
 refine Rr (Fn2 [] [(2,.ptr 4 0),(1,.ptr 0 0)] ([(4,[.i 0,.nils,.nils,.i 0,.str []]),(0,clc c)]++·) 8 (Rr (Fn2 [1,2] [(3,.ptr 8 0)] ([(8,[.i 0,.nils,.nils,.i 0,.str []])]++·) 12 (Rr ?_))))
 refine Fn3 [1,2,3] [] (fun _=>((8,[.i c.kind,.nils,.nils,.i 0,.str []])::(4,[.i 0,.nils,.nils,.i 0,.str []])::(0,clc c)::[])) 12 (((1:Nat)≠0)/\(0+1<=5/\0<5)/\((1:Nat)≠0)/\(true=true/\1=1/\0+1<=5)/\·) ⟨dc,dc,dc,dc,Rr (Bc1 3 [(8,pth c.path),(7,.ptr 0 1)] 39 [pth c.path] 9 (((1:Nat)≠0)/\(1+1<=5/\1<5)/\·) ⟨dc,dc,TCall.mono (mk_use (View.refl _ _) (toS_ok c.path om) fun r Z h=>h.nsl) ?_⟩)⟩
 rintro _ H1 _ _ ⟨rfl,Z1,hH1,⟨j5,rfl,rfl⟩⟩
 have hH2:H1=((8,[.i c.kind,.nils,.nils,.i 0,.str []])::(4,[.i 0,.nils,.nils,.i 0,.str []])::(0,clc c)::[(2*j5+1,fl sc c.path)]):=by rw[hH1];(try simp only[List.cons_append,List.nil_append,List.append_assoc])
 clear hH1;subst hH2
 refine Ke (Fn3 [1,2,3] [] (fun _=>((8,[.i c.kind,.osl (2*j5+1) 1 0 c.path.length,.nils,.i 0,.str []])::(4,[.i 0,.nils,.nils,.i 0,.str []])::(0,clc c)::[(2*j5+1,fl sc c.path)])) 12 (((1:Nat)≠0)/\(true=true/\1=1/\1+1<=5)/\·) ⟨dc,dc,Rr (Bc1 3 [(12,pth c.to),(11,.ptr 0 2)] 39 [pth c.to] 13 (((1:Nat)≠0)/\(2+1<=5/\2<5)/\·) ⟨dc,dc,TCall.mono (mk_use (View.refl _ _) (toS_ok c.to om) fun r Z h=>h.nsl) ?_⟩)⟩)
 rintro _ H1 _ _ ⟨rfl,Z1,hH1,⟨j9,rfl,rfl⟩⟩
 have hH2:H1=((8,[.i c.kind,.osl (2*j5+1) 1 0 c.path.length,.nils,.i 0,.str []])::(4,[.i 0,.nils,.nils,.i 0,.str []])::(0,clc c)::([(2*j5+1,fl sc c.path)]++[(2*j9+1,fl sc c.to)])):=by rw[hH1];(try simp only[List.cons_append,List.nil_append,List.append_assoc])
 clear hH1;subst hH2
 refine Ke (Fn3 [1,2,3] [] (fun _=>((8,[.i c.kind,.osl (2*j5+1) 1 0 c.path.length,.osl (2*j9+1) 1 0 c.to.length,.i 0,.str []])::(4,[.i 0,.nils,.nils,.i 0,.str []])::(0,clc c)::([(2*j5+1,fl sc c.path)]++[(2*j9+1,fl sc c.to)]))) 12 (((1:Nat)≠0)/\(true=true/\1=1/\2+1<=5)/\·) ⟨dc,dc,Rr (Fn3 [1,2,3] [] (fun _=>((8,[.i c.kind,.osl (2*j5+1) 1 0 c.path.length,.osl (2*j9+1) 1 0 c.to.length,.i c.at_,.str []])::(4,[.i 0,.nils,.nils,.i 0,.str []])::(0,clc c)::([(2*j5+1,fl sc c.path)]++[(2*j9+1,fl sc c.to)]))) 12 (((1:Nat)≠0)/\(3+1<=5/\3<5)/\((1:Nat)≠0)/\(true=true/\1=1/\3+1<=5)/\·) ⟨dc,dc,dc,dc,Rr ?_⟩)⟩)
 refine Fn3 [2,3] [] (fun _=>((8,[.i c.kind,.osl (2*j5+1) 1 0 c.path.length,.osl (2*j9+1) 1 0 c.to.length,.i c.at_,.str c.data])::(4,[.i 0,.nils,.nils,.i 0,.str []])::(0,clc c)::([(2*j5+1,fl sc c.path)]++[(2*j9+1,fl sc c.to)]))) 12 (((1:Nat)≠0)/\(4+1<=5/\4<5)/\((1:Nat)≠0)/\(true=true/\1=1/\4+1<=5)/\·) ⟨dc,dc,dc,dc,Rr (Fn3 [2] [] (fun _=>((8,[.i c.kind,.osl (2*j5+1) 1 0 c.path.length,.osl (2*j9+1) 1 0 c.to.length,.i c.at_,.str c.data])::(4,[.i c.kind,.osl (2*j5+1) 1 0 c.path.length,.osl (2*j9+1) 1 0 c.to.length,.i c.at_,.str c.data])::(0,clc c)::([(2*j5+1,fl sc c.path)]++[(2*j9+1,fl sc c.to)]))) 12 ((0+5<=5/\0<5)/\(true=true/\5=5/\0+5<=5)/\·) ⟨dc,dc,Rt1 ((0+5<=5/\0<5)/\·) (.agg [.i c.kind,.osl (2*j5+1) 1 0 c.path.length,.osl (2*j9+1) 1 0 c.to.length,.i c.at_,.str c.data]) ⟨dc,fin_dc (.agg (occ c j5 j9)) [(2*j5+1,fl sc c.path),(2*j9+1,fl sc c.to)] (List.Sublist.cons _ (List.Sublist.cons _ (List.Sublist.cons _ (List.Sublist.refl _)))) (lea_refl _) ⟨trivial,show(2*j5+1)%2=1 by omega,show(2*j9+1)%2=1 by omega,trivial,trivial,trivial⟩ ⟨om,ods_flS _,om,ods_flS _,trivial⟩ ⟨_,_,rfl,rfl⟩⟩⟩)⟩
open Go Go.Proofs
set_option maxRecDepth 100000
theorem toT_pe (t:Tr) (hw:t.W<2^40):PE G 10 [.agg (tcs t)] (.agg (tcs t)):=pc_dc (toT_ok _ t rfl hw) fun r Z h=>h.rd
theorem toMs_pe (ml:List Mk) (hn:ml.length<2^40) (hm:∀m∈ml,m.path.length<2^40):PE G 22 [.sl 2 (ml.map mkc)] (.sl 2 (ml.map mkc)):=pc_dc (toMs_ok ml hn hm) fun r Z h=>h.rd
theorem toC_pe (c:Cl) (h1:c.path.length<2^40) (h2:c.to.length<2^40):PE G 11 [.agg (clc c)] (.agg (clc c)):=pc_dc (toC_ok c h1 h2) fun r Z h=>h.rd
theorem eqS_ok (p:List Str) (hp:p.length<2^40):PE G 46 [pth p,pth p] (.bool true):=by
 refine Pe Tryz.func46 ?_
 refine Rr (Fn0 [0,1] [] (Sq fun K2 hK2=>?_))
 refine Rr (Av0 2 7 [(6,pth p)] (lnm p sc) (Av0 2 9 [(8,pth p)] (lnm p sc) (Cn1 (!decide ((p.length:Int)=(p.length:Int))) [0,1] [] (Ki/\·) ⟨rfl,fun hc4 c4=>?_,fun hc4 c4=>?_⟩)))
 simp at hc4
 refine Sk (Jn (hK2 (Kp [0,1] (Sq fun K5 hK5=>?_))))
 refine Rr (Fn0 [0,1] [(5,.i 0)] (Bl (h_l (fun(k:Nat)=>([(0,pth p),(1,pth p),(5,.i k)]:Fr)) (fun(k:Nat)=>([]:Hp)) (fun(k:Nat) cn=>(k<=p.length)/\cn=0) (fun(k:Nat)=>p.length-k) 0 kr ?_ ?_ ?_ ?_)))
 refine⟨?_,rfl⟩;exact Nat.zero_le _
 exact⟨kr,kr,kr,trivial⟩
 exact(List.nil_sublist _)
 rintro k n1 hI
 (try dsimp only at hI)
 obtain⟨hk,rfl⟩:=hI
 refine Sq fun K7 hK7=>?_
 refine Rr (Av0 3 13 [(12,pth p),(11,.i k)] (lnm p sc) (Cn1 (decide ((k:Int)<(p.length:Int))) [0,1,5] [] (Ki/\·) ⟨rfl,fun hc9 c9=>?_,fun hc9 c9=>?_⟩))
 refine Sk (Jn (hK7 (Kp [0,1,5] (Sq fun K10 hK10=>?_))))
 refine Bl (Qr [0,0,3,7,0,0,48,112,255] [(0,[]),(1,[]),(2,[]),(3,[]),(4,[]),(5,[]),(6,[]),(7,[]),(8,[])] (qAv1 3 19 [(18,.i k),(17,pth p)] (congrArg AV.pat (mg_str p k om)) ((1=1/\(0:Int)<=(k:Int)/\(k:Int)<((p.map (fun s=>[AV.str s])).length:Int))/\·) ⟨⟨rfl,om,lmo⟩,qAv1 4 23 [(22,.i k),(21,pth p),(20,.str (p.getD k default))] (congrArg AV.pat (mg_str p k om)) ((1<=1/\0<1)/\(1=1/\(0:Int)<=(k:Int)/\(k:Int)<((p.map (fun s=>[AV.str s])).length:Int))/\·) ⟨dc,⟨rfl,om,lmo⟩,qCn1 (!((p.getD k default)==(p.getD k default))) [0,1,5] [] ((1<=1/\0<1)/\·) ⟨dc,fun hc12 c12=>?_,fun hc12 c12=>?_⟩⟩⟩))
 simp at hc12
 refine Sk (Bn (Jn (hK10 (Kp [0,1,5] (Rn (Av1 2 16 [(15,.i k)] (cI (wn1 k om)) (Ki/\·) ⟨rfl,Gn0 [(5,.i ((k+1:Nat):Int))] (nk_n ?_)⟩))))))
 refine Lr (k+1) [] 0 [(0,pth p),(1,pth p),(5,.i ((k+1:Nat):Int))] [] [] ?_ ?_ kr kr
 (try dsimp only);omega
 refine⟨?_,rfl⟩;(try dsimp only);omega
 refine Xt (Jx (Lx (Bh (Jn (hK5 (Kp [] (Rr (Fn0 [] [(4,.bool true)] (Rt (.bool true) ?_)))))))))
 exact fin_lea (lea_refl _)
theorem eqTs_ok (ks:List Tr) (hn:ks.length<2^40) (ih:∀k∈ks,PE G 14 [.agg (tcs k),.agg (tcs k)] (.bool true)):PE G 47 [.sl 5 (ks.map trc),.sl 5 (ks.map trc)] (.bool true):=by
 refine Pe Tryz.func47 ?_
 refine Rr (Fn0 [0,1] [] (Sq fun K2 hK2=>?_))
 refine Rr (Av0 2 7 [(6,.sl 5 (ks.map trc))] (lnm ks trc) (Av0 2 9 [(8,.sl 5 (ks.map trc))] (lnm ks trc) (Cn1 (!decide ((ks.length:Int)=(ks.length:Int))) [0,1] [] (Ki/\·) ⟨rfl,fun hc4 c4=>?_,fun hc4 c4=>?_⟩)))
 simp at hc4
 refine Sk (Jn (hK2 (Kp [0,1] (Sq fun K5 hK5=>?_))))
 refine Rr (Fn0 [0,1] [(5,.i 0)] (Bl (h_l (fun(k:Nat)=>([(0,.sl 5 (ks.map trc)),(1,.sl 5 (ks.map trc)),(5,.i k)]:Fr)) (fun(k:Nat)=>([]:Hp)) (fun(k:Nat) cn=>(k<=ks.length)/\cn=0) (fun(k:Nat)=>ks.length-k) 0 kr ?_ ?_ ?_ ?_)))
 refine⟨?_,rfl⟩;exact Nat.zero_le _
 exact⟨kr,kr,kr,trivial⟩
 exact(List.nil_sublist _)
 rintro k n1 hI
 (try dsimp only at hI)
 obtain⟨hk,rfl⟩:=hI
 refine Sq fun K7 hK7=>?_
 refine Rr (Av0 3 13 [(12,.sl 5 (ks.map trc)),(11,.i k)] (lnm ks trc) (Cn1 (decide ((k:Int)<(ks.length:Int))) [0,1,5] [] (Ki/\·) ⟨rfl,fun hc9 c9=>?_,fun hc9 c9=>?_⟩))
 refine Sk (Jn (hK7 (Kp [0,1,5] (Sq fun K10 hK10=>?_))))
 refine Bl (Qr [0,0,3,7,0,0,48,112,255,511] [(0,[]),(1,[]),(2,[]),(3,[]),(4,[]),(5,[]),(6,[]),(7,[]),(8,[]),(9,[])] (qAv1 3 19 [(18,.i k),(17,.sl 5 (ks.map trc))] (congrArg AV.pat (mg_trc ks k om)) ((5=5/\(0:Int)<=(k:Int)/\(k:Int)<((ks.map trc).length:Int))/\·) ⟨⟨rfl,om,lmo⟩,qAv1 4 23 [(22,.i k),(21,.sl 5 (ks.map trc)),(20,.agg (tcs (ks.getD k default)))] (congrArg AV.pat (mg_trc ks k om)) ((5<=5/\0<5)/\(5=5/\(0:Int)<=(k:Int)/\(k:Int)<((ks.map trc).length:Int))/\·) ⟨dc,⟨rfl,om,lmo⟩,qBc1 2 [(24,.agg (tcs (ks.getD k default)))] [] 14 [.agg (tcs (ks.getD k default)),.agg (tcs (ks.getD k default))] 25 ((5<=5/\0<5)/\·) ⟨dc,?_⟩⟩⟩))
 refine PE.use (ih _ (getD_mem ks k default om)) ?_
 refine Kq (p:=(True)) trivial ?_
 refine qFn0 [0,1,5] [(26,.bool false)] (Cf (Sk (Bn (Jn (hK10 (Kp [0,1,5] (Rn (Av1 2 16 [(15,.i k)] (cI (wn1 k om)) (Ki/\·) ⟨rfl,?_⟩))))))))
 refine Gn0 [(5,.i ((k+1:Nat):Int))] (nk_n (Lr (k+1) [] 0 [(0,.sl 5 (ks.map trc)),(1,.sl 5 (ks.map trc)),(5,.i ((k+1:Nat):Int))] [] [] ?_ ?_ kr kr))
 (try dsimp only);omega
 refine⟨?_,rfl⟩;(try dsimp only);omega
 refine Xt (Jx (Lx (Bh (Jn (hK5 (Kp [] (Rr (Fn0 [] [(4,.bool true)] (Rt (.bool true) ?_)))))))))
 exact fin_lea (lea_refl _)
theorem eqT_ok:∀(N:Nat) (t:Tr),t.W=N->t.W<2^40->PE G 14 [.agg (tcs t),.agg (tcs t)] (.bool true):=by
 intro N;refine Nat.strongRecOn N fun N ih=>?_;intro t hN hw;rw[W_eq]at hN hw;have hks:=Ws_len t.kids;have hns:=wS_len t.names
 refine Pe Tryz.func14 ?_
 refine Rr (Fn2 [] [(3,.ptr 4 0),(2,.ptr 0 0)] ([(4,tcs t),(0,tcs t)]++·) 8 (Sq fun K2 hK2=>?_))
 refine Rr (Cn1 (!(t.dir==t.dir)) [2,3] [] (((1:Nat)≠0)/\(0+1<=5/\0<5)/\((1:Nat)≠0)/\(0+1<=5/\0<5)/\(TK.bool=TK.bool)/\·) ⟨dc,dc,dc,dc,rfl,fun hc4 c4=>?_,fun hc4 c4=>?_⟩)
 simp at hc4
 refine Sk (Jn (hK2 (Kp [2,3] (Sq fun K5 hK5=>?_))))
 refine Rr (Cn1 (!decide ((t.mode:Int)=(t.mode:Int))) [2,3] [] (((1:Nat)≠0)/\(1+1<=5/\1<5)/\((1:Nat)≠0)/\(1+1<=5/\1<5)/\Ki/\·) ⟨dc,dc,dc,dc,rfl,fun hc7 c7=>?_,fun hc7 c7=>?_⟩)
 simp at hc7
 refine Sk (Jn (hK5 (Kp [2,3] (Sq fun K8 hK8=>?_))))
 refine Rr (Cn1 (!(t.data==t.data)) [2,3] [] (((1:Nat)≠0)/\(2+1<=5/\2<5)/\((1:Nat)≠0)/\(2+1<=5/\2<5)/\·) ⟨dc,dc,dc,dc,fun hc10 c10=>?_,fun hc10 c10=>?_⟩)
 simp at hc10
 refine Sk (Jn (hK8 (Kp [2,3] (Sq fun K11 hK11=>?_))))
 refine Rr (Bc1 5 [(23,pth t.names),(22,.ptr 4 3),(21,pth t.names),(20,.ptr 0 3)] 46 [pth t.names,pth t.names] 24 (((1:Nat)≠0)/\(3+1<=5/\3<5)/\((1:Nat)≠0)/\(3+1<=5/\3<5)/\·) ⟨dc,dc,dc,dc,PE.use (eqS_ok t.names om) (Ke (Fn0 [2,3] [(25,.bool false)] ?_))⟩)
 refine Cf (Sk (Jn (hK11 (Kp [2,3] (Sq fun K13 hK13=>?_)))))
 refine Rr (Bc1 5 [(29,.sl 5 (t.kids.map trc)),(28,.ptr 4 4),(27,.sl 5 (t.kids.map trc)),(26,.ptr 0 4)] 47 [.sl 5 (t.kids.map trc),.sl 5 (t.kids.map trc)] 30 (((1:Nat)≠0)/\(4+1<=5/\4<5)/\((1:Nat)≠0)/\(4+1<=5/\4<5)/\·) ⟨dc,dc,dc,dc,PE.use (eqTs_ok t.kids om (fun k hk=>ih _ (by have:=Ws_mem hk;omega) k rfl (by have:=Ws_mem hk;omega))) (Ke (Fn0 [] [(31,.bool false)] ?_))⟩)
 refine Cf (Sk (Jn (hK13 (Kp [] (Rr (Fn0 [] [(4,.bool true)] (Rt (.bool true) ?_)))))))
 exact fin_lea (lea_refl _)
theorem eqMk_ok (m:Mk) (hm:m.path.length<2^40):PE G 63 [.agg (mkc m),.agg (mkc m)] (.bool true):=by
 refine Pe Tryz.func63 ?_
 refine Rr (Fn2 [] [(3,.ptr 4 0),(2,.ptr 0 0)] ([(4,mkc m),(0,mkc m)]++·) 8 (Sq fun K2 hK2=>?_))
 refine Rr (Bc1 5 [(8,pth m.path),(7,.ptr 4 0),(6,pth m.path),(5,.ptr 0 0)] 46 [pth m.path,pth m.path] 9 (((1:Nat)≠0)/\(0+1<=2/\0<2)/\((1:Nat)≠0)/\(0+1<=2/\0<2)/\·) ⟨dc,dc,dc,dc,PE.use (eqS_ok m.path om) (Ke (Fn0 [2,3] [(10,.bool false)] ?_))⟩)
 refine Cf (Sk (Jn (hK2 (Kp [2,3] (Sq fun K4 hK4=>?_)))))
 refine Rr (Cn1 (!(m.sub==m.sub)) [] [] (((1:Nat)≠0)/\(1+1<=2/\1<2)/\((1:Nat)≠0)/\(1+1<=2/\1<2)/\(TK.bool=TK.bool)/\·) ⟨dc,dc,dc,dc,rfl,fun hc6 c6=>?_,fun hc6 c6=>?_⟩)
 simp at hc6
 refine Sk (Jn (hK4 (Kp [] (Rr (Fn0 [] [(4,.bool true)] (Rt (.bool true) ?_))))))
 exact fin_lea (lea_refl _)
theorem eqMs_ok (ml:List Mk) (hn:ml.length<2^40) (hm:∀m∈ml,m.path.length<2^40):PE G 24 [.sl 2 (ml.map mkc),.sl 2 (ml.map mkc)] (.bool true):=by
 refine Pe Tryz.func24 ?_
 refine Rr (Fn0 [0,1] [] (Sq fun K2 hK2=>?_))
 refine Rr (Av0 2 7 [(6,.sl 2 (ml.map mkc))] (lnm ml mkc) (Av0 2 9 [(8,.sl 2 (ml.map mkc))] (lnm ml mkc) (Cn1 (!decide ((ml.length:Int)=(ml.length:Int))) [0,1] [] (Ki/\·) ⟨rfl,fun hc4 c4=>?_,fun hc4 c4=>?_⟩)))
 simp at hc4
 refine Sk (Jn (hK2 (Kp [0,1] (Sq fun K5 hK5=>?_))))
 refine Rr (Fn0 [0,1] [(5,.i 0)] (Bl (h_l (fun(k:Nat)=>([(0,.sl 2 (ml.map mkc)),(1,.sl 2 (ml.map mkc)),(5,.i k)]:Fr)) (fun(k:Nat)=>([]:Hp)) (fun(k:Nat) cn=>(k<=ml.length)/\cn=0) (fun(k:Nat)=>ml.length-k) 0 kr ?_ ?_ ?_ ?_)))
 refine⟨?_,rfl⟩;exact Nat.zero_le _
 exact⟨kr,kr,kr,trivial⟩
 exact(List.nil_sublist _)
 rintro k n1 hI
 (try dsimp only at hI)
 obtain⟨hk,rfl⟩:=hI
 refine Sq fun K7 hK7=>?_
 refine Rr (Av0 3 13 [(12,.sl 2 (ml.map mkc)),(11,.i k)] (lnm ml mkc) (Cn1 (decide ((k:Int)<(ml.length:Int))) [0,1,5] [] (Ki/\·) ⟨rfl,fun hc9 c9=>?_,fun hc9 c9=>?_⟩))
 refine Sk (Jn (hK7 (Kp [0,1,5] (Sq fun K10 hK10=>?_))))
 refine Bl (Qr [0,0,3,7,0,0,48,112,255,511] [(0,[]),(1,[]),(2,[]),(3,[]),(4,[]),(5,[]),(6,[]),(7,[]),(8,[]),(9,[])] (qAv1 3 19 [(18,.i k),(17,.sl 2 (ml.map mkc))] (congrArg AV.pat (mg_mk ml k om)) ((2=2/\(0:Int)<=(k:Int)/\(k:Int)<((ml.map mkc).length:Int))/\·) ⟨⟨rfl,om,lmo⟩,qAv1 4 23 [(22,.i k),(21,.sl 2 (ml.map mkc)),(20,.agg (mkc (ml.getD k default)))] (congrArg AV.pat (mg_mk ml k om)) ((2<=2/\0<2)/\(2=2/\(0:Int)<=(k:Int)/\(k:Int)<((ml.map mkc).length:Int))/\·) ⟨dc,⟨rfl,om,lmo⟩,qBc1 2 [(24,.agg (mkc (ml.getD k default)))] [] 63 [.agg (mkc (ml.getD k default)),.agg (mkc (ml.getD k default))] 25 ((2<=2/\0<2)/\·) ⟨dc,?_⟩⟩⟩))
 refine PE.use (eqMk_ok (ml.getD k default) (hm _ (getD_mem ml k default om))) ?_
 refine Kq (p:=(True)) trivial ?_
 refine qFn0 [0,1,5] [(26,.bool false)] (Cf (Sk (Bn (Jn (hK10 (Kp [0,1,5] (Rn (Av1 2 16 [(15,.i k)] (cI (wn1 k om)) (Ki/\·) ⟨rfl,?_⟩))))))))
 refine Gn0 [(5,.i ((k+1:Nat):Int))] (nk_n (Lr (k+1) [] 0 [(0,.sl 2 (ml.map mkc)),(1,.sl 2 (ml.map mkc)),(5,.i ((k+1:Nat):Int))] [] [] ?_ ?_ kr kr))
 (try dsimp only);omega
 refine⟨?_,rfl⟩;(try dsimp only);omega
 refine Xt (Jx (Lx (Bh (Jn (hK5 (Kp [] (Rr (Fn0 [] [(4,.bool true)] (Rt (.bool true) ?_)))))))))
 exact fin_lea (lea_refl _)
theorem eqC_ok (c:Cl) (h1:c.path.length<2^40) (h2:c.to.length<2^40):PE G 15 [.agg (clc c),.agg (clc c)] (.bool true):=by
 refine Pe Tryz.func15 ?_
 refine Rr (Fn2 [] [(3,.ptr 4 0),(2,.ptr 0 0)] ([(4,clc c),(0,clc c)]++·) 8 (Sq fun K2 hK2=>?_))
 refine Rr (Cn1 (!decide ((c.kind:Int)=(c.kind:Int))) [2,3] [] (((1:Nat)≠0)/\(0+1<=5/\0<5)/\((1:Nat)≠0)/\(0+1<=5/\0<5)/\Ki/\·) ⟨dc,dc,dc,dc,rfl,fun hc4 c4=>?_,fun hc4 c4=>?_⟩)
 simp at hc4
 refine Sk (Jn (hK2 (Kp [2,3] (Sq fun K5 hK5=>?_))))
 refine Rr (Bc1 5 [(13,pth c.path),(12,.ptr 4 1),(11,pth c.path),(10,.ptr 0 1)] 46 [pth c.path,pth c.path] 14 (((1:Nat)≠0)/\(1+1<=5/\1<5)/\((1:Nat)≠0)/\(1+1<=5/\1<5)/\·) ⟨dc,dc,dc,dc,PE.use (eqS_ok c.path om) (Ke (Fn0 [2,3] [(15,.bool false)] ?_))⟩)
 refine Cf (Sk (Jn (hK5 (Kp [2,3] (Sq fun K7 hK7=>?_)))))
 refine Rr (Bc1 5 [(19,pth c.to),(18,.ptr 4 2),(17,pth c.to),(16,.ptr 0 2)] 46 [pth c.to,pth c.to] 20 (((1:Nat)≠0)/\(2+1<=5/\2<5)/\((1:Nat)≠0)/\(2+1<=5/\2<5)/\·) ⟨dc,dc,dc,dc,PE.use (eqS_ok c.to om) (Ke (Fn0 [2,3] [(21,.bool false)] ?_))⟩)
 refine Cf (Sk (Jn (hK7 (Kp [2,3] (Sq fun K9 hK9=>?_)))))
 refine Rr (Cn1 (!decide ((c.at_:Int)=(c.at_:Int))) [2,3] [] (((1:Nat)≠0)/\(3+1<=5/\3<5)/\((1:Nat)≠0)/\(3+1<=5/\3<5)/\Ki/\·) ⟨dc,dc,dc,dc,rfl,fun hc11 c11=>?_,fun hc11 c11=>?_⟩)
 simp at hc11
 refine Sk (Jn (hK9 (Kp [2,3] (Sq fun K12 hK12=>?_))))
 refine Rr (Cn1 (!(c.data==c.data)) [] [] (((1:Nat)≠0)/\(4+1<=5/\4<5)/\((1:Nat)≠0)/\(4+1<=5/\4<5)/\·) ⟨dc,dc,dc,dc,fun hc14 c14=>?_,fun hc14 c14=>?_⟩)
 simp at hc14
 refine Sk (Jn (hK12 (Kp [] (Rr (Fn0 [] [(4,.bool true)] (Rt (.bool true) ?_))))))
 exact fin_lea (lea_refl _)
set_option maxRecDepth 100000
def mtd (n:Nat) (o:Str):Str:=if h:n=0 then o else mtd (n/10) (UInt8.ofNat (48+n%10)::o)
theorem mtd0 (o:Str):mtd 0 o=o:=by rw[mtd];simp
theorem mtd1 {n:Nat} (h:n≠0) (o:Str):mtd n o=mtd (n/10) (UInt8.ofNat (48+n%10)::o):=by rw[mtd,dif_neg h]
def mtx (n:Nat):Str:=if n=0 then[109,48]else 109::mtd n []
theorem w8m (n:Nat):AV.int .u8 (IntKind.u8.wrap ((48+n%10:Nat):Int))=.int .u8 (((UInt8.ofNat (48+n%10)).toNat:Nat):Int):=by
 rw[wrap8 (by omega) (by omega)]
 congr 1
 rw[UInt8.toNat_ofNat']
 omega
def mks:Nat->List Str->List Str
 |_,[]=>[]
 |k,_::p=>mtx k::mks (k+1) p
theorem mks_len:∀(p:List Str) (k:Nat),(mks k p).length=p.length
 |[],_=>rfl
 |_::p,k=>by simp only[mks,List.length_cons,mks_len p]
theorem mks_get:∀(p:List Str) (k i:Nat),i<p.length->(mks k p).getD i default=mtx (k+i)
 |[],_,_,h=>by simp at h
 |_::p,k,0,_=>rfl
 |_::p,k,i+1,h=>by
  have:=mks_get p (k+1) i (by simpa using h)
  simp only[mks,List.getD_cons_succ]
  rw[this];congr 1;omega
theorem mks_set (p:List Str) (k i:Nat) (h:i<p.length):((mks k p).take i++p.drop i).set i (mtx (k+i))=(mks k p).take (i+1)++p.drop (i+1):=by
 have hl:((mks k p).take i).length=i:=by rw[List.length_take,mks_len];omega
 rw[List.set_append_right _ _ (by omega),hl,Nat.sub_self,take_snoc (mks k p) i default (by rw[mks_len];exact h),mks_get p k i h]
 rw[List.drop_eq_getElem_cons h,List.set_cons_zero,List.append_assoc];rfl
def mdir (k:Nat):Bool:=decide (((k%3:Nat):Int)=0)
mutual
def mkT:Nat->Tr->Tr×Nat
 |k,.mk _ _ _ ns ks=>(.mk (mdir k) ((k+1:Nat):Int) (mtx (k+2)) (mks (k+3) ns) (mkTs (k+3+ns.length) ks).1,(mkTs (k+3+ns.length) ks).2)
def mkTs:Nat->List Tr->List Tr×Nat
 |k,[]=>([],k)
 |k,t::ts=>((mkT k t).1::(mkTs (mkT k t).2 ts).1,(mkTs (mkT k t).2 ts).2)
end
theorem mkT_eq (k:Nat) (t:Tr):mkT k t=(.mk (mdir k) ((k+1:Nat):Int) (mtx (k+2)) (mks (k+3) t.names) (mkTs (k+3+t.names.length) t.kids).1,(mkTs (k+3+t.names.length) t.kids).2):=by
 cases t;rw[mkT];rfl
theorem mkTs_len:∀(ks:List Tr) (k:Nat),(mkTs k ks).1.length=ks.length
 |[],k=>by rw[mkTs]
 |t::ts,k=>by rw[mkTs];simp only[List.length_cons,mkTs_len ts]
theorem mkTs_snoc:∀(l:List Tr) (x:Tr) (k:Nat),mkTs k (l++[x])=((mkTs k l).1++[(mkT (mkTs k l).2 x).1],(mkT (mkTs k l).2 x).2)
 |[],x,k=>by simp only[List.nil_append,mkTs]
 |t::l,x,k=>by
  rw[List.cons_append,mkTs,mkTs_snoc l x,mkTs];rfl
theorem mkTs_tk (ks:List Tr) (k i:Nat) (h:i<ks.length):(mkTs k (ks.take (i+1))).2=(mkT (mkTs k (ks.take i)).2 (ks.getD i default)).2:=by
 rw[take_snoc ks i default h,mkTs_snoc]
theorem mkTs_get:∀(ks:List Tr) (k i:Nat),i<ks.length->(mkTs k ks).1.getD i default=(mkT (mkTs k (ks.take i)).2 (ks.getD i default)).1
 |[],_,_,h=>by simp at h
 |t::ts,k,0,_=>by simp only[List.take_zero,mkTs,List.getD_cons_zero]
 |t::ts,k,i+1,h=>by
  simp only[mkTs,List.getD_cons_succ,List.take_succ_cons]
  exact mkTs_get ts _ i (by simpa using h)
mutual
theorem mkT_le:∀(t:Tr) (k:Nat),k<=(mkT k t).2/\(mkT k t).2+0<=k+3*t.W
 |.mk _ _ s ns ks,k=>by
  rw[mkT]
  have:=mkTs_le ks (k+3+ns.length)
  have:=wS_len ns
  simp only[Tr.W];omega
theorem mkTs_le:∀(ks:List Tr) (k:Nat),k<=(mkTs k ks).2/\(mkTs k ks).2+0<=k+3*Tr.Ws ks
 |[],k=>by rw[mkTs];simp only[Tr.Ws];omega
 |t::ts,k=>by
  have h1:=mkT_le t k
  have h2:=mkTs_le ts (mkT k t).2
  rw[mkTs];simp only[Tr.Ws];omega
end
def mkMs:Nat->List Mk->List Mk×Nat
 |k,[]=>([],k)
 |k,m::l=>(⟨mks k m.path,mdir (k+m.path.length)⟩::(mkMs (k+m.path.length+1) l).1,(mkMs (k+m.path.length+1) l).2)
theorem mkMs_len:∀(l:List Mk) (k:Nat),(mkMs k l).1.length=l.length
 |[],k=>rfl
 |m::l,k=>by simp only[mkMs,List.length_cons,mkMs_len l]
theorem mkMs_tk:∀(l:List Mk) (k i:Nat),i<l.length->(mkMs k (l.take (i+1))).2=(mkMs k (l.take i)).2+(l.getD i default).path.length+1
 |[],_,_,h=>by simp at h
 |m::l,k,0,_=>by simp only[List.take_zero,List.take_succ_cons,mkMs,List.getD_cons_zero]
 |m::l,k,i+1,h=>by
  rw[List.take_succ_cons,List.take_succ_cons,mkMs,mkMs]
  exact mkMs_tk l _ i (by simpa using h)
theorem mkMs_get:∀(l:List Mk) (k i:Nat),i<l.length->(mkMs k l).1.getD i default=⟨mks (mkMs k (l.take i)).2 (l.getD i default).path,mdir ((mkMs k (l.take i)).2+(l.getD i default).path.length)⟩
 |[],_,_,h=>by simp at h
 |m::l,k,0,_=>by simp only[List.take_zero,mkMs,List.getD_cons_zero]
 |m::l,k,i+1,h=>by
  simp only[mkMs,List.getD_cons_succ,List.take_succ_cons]
  exact mkMs_get l _ i (by simpa using h)
theorem mkMs_le:∀(l:List Mk) (k:Nat),k<=(mkMs k l).2/\(mkMs k l).2+0<=k+wM l
 |[],k=>by simp only[mkMs,wM];omega
 |m::l,k=>by
  have h:=mkMs_le l (k+m.path.length+1)
  have:=wS_len m.path
  simp only[mkMs,wM];omega
theorem mkMs_mono (l:List Mk) (k i:Nat) (h:i<=l.length):(mkMs k (l.take i)).2<=k+wM l:=by
 have h1:=mkMs_le (l.take i) k
 have h2:=wM_tl l i
 omega
theorem mkTs_mono (l:List Tr) (k i:Nat):(mkTs k (l.take i)).2<=k+3*Tr.Ws l:=by
 have h1:=mkTs_le (l.take i) k
 have h2:=Ws_tl l i
 omega
theorem mkTs_at (l:List Tr) (k i:Nat) (h:i<l.length):(mkTs k (l.take i)).2+3*(l.getD i default).W<=k+3*Tr.Ws l:=by
 have h1:=mkTs_le (l.take i) k
 have h2:=Ws_tl l (i+1)
 rw[Ws_tk l i h]at h2
 omega
open Go Go.Proofs
set_option maxRecDepth 100000
theorem mtx_ok (n:Nat) (hn:n<2^40):PE G 89 [.i n] (.str (mtx n)):=by
 refine Pe Tryz.func89 ?_
 refine Rr (Fn0 [0] [] (Sq fun K2 hK2=>?_))
 refine Rr (Cn1 (decide ((n:Int)<=0)) [0] [] (Ki/\·) ⟨rfl,fun hc4 c4=>?_,fun hc4 c4=>?_⟩)
 refine Rr (Fn0 [] [(2,.str [109,48])] (Rt (.str [109,48]) (fin_lea ?_)))
 unfold mtx
 rw[if_pos om];exact lea_refl _
 refine Sk (Jn (hK2 (Kp [0] (Rr (Fn0 [0] [(3,.str [])] (Sq fun K7 hK7=>?_))))))
 refine Bl (h_l (fun(z:Nat×Str)=>(match z with|(m,o)=>([(0,.i m),(3,.str o)]:Fr))) (fun(z:Nat×Str)=>(match z with|(m,o)=>([]:Hp))) (fun(z:Nat×Str) cn=>(match z with|(m,o)=>(mtd m o=mtd n []/\o.length+m<=n)/\cn=0)) (fun(z:Nat×Str)=>z.1) (n,[]) kr ?_ ?_ ?_ ?_)
 refine⟨?_,rfl⟩;exact⟨rfl,by simp⟩
 exact⟨kr,kr,trivial⟩
 exact(List.nil_sublist _)
 rintro⟨m,o⟩ n1 hI
 (try dsimp only at hI)
 obtain⟨⟨h1,h2⟩,rfl⟩:=hI
 refine Sq fun K8 hK8=>?_
 refine Rr (Cn1 (decide ((0:Int)<((m:Int):Int))) [0,3] [] (Ki/\·) ⟨rfl,fun hc10 c10=>?_,fun hc10 c10=>?_⟩)
 refine Sk (Jn (hK8 (Kp [0,3] (Bl (Rr ?_)))))
 have hm12:=Nat.mod_lt m (show 0<10 by omega)
 refine Av1 2 9 [(8,.i m)] (cI (nmod m 10)) ((IntKind.i64=IntKind.i64/\(10:Int)≠0)/\·) ⟨⟨rfl,om⟩,Av1 1 10 [] (cI (wnn 48 (m%10) om)) (Ki/\·) ⟨rfl,?_⟩⟩
 have hu13:=UInt8.toNat_lt (UInt8.ofNat (48+m%10))
 refine Av0 (r:=.int .u8 (IntKind.u8.wrap ((48+(m%10):Nat):Int))) (v:=.int .u8 ((UInt8.ofNat (48+m%10)).toNat:Int)) 1 11 [] (w8m m) (Av3 (r:=.str ((((ints [(UInt8.ofNat (48+m%10))]).drop 0).take [(UInt8.ofNat (48+m%10))].length).map unu)) (v:=.str [(UInt8.ofNat (48+m%10))]) 2 13 [(12,.osl 0 1 0 1)] (congrArg AV.str (unu_ints _)) ([(0,[.int .u8 ((UInt8.ofNat (48+m%10)).toNat:Int)])]++·) 4 (fun Z=>(1*1<=16777216)/\(1=1/\0+[(UInt8.ofNat (48+m%10))].length<=(ints [(UInt8.ofNat (48+m%10))]).length/\allu (((ints [(UInt8.ofNat (48+m%10))]).drop 0).take [(UInt8.ofNat (48+m%10))].length))/\Z) ⟨dc,⟨rfl,by rw[ints_len];omega,allu_ints _⟩,Fn1 [0] [(3,.str ([(UInt8.ofNat (48+m%10))]++o))] (([(UInt8.ofNat (48+m%10))].length+o.length<=9223372036854775807)/\·) ⟨(by simp only[List.length_cons,List.length_nil];omega),Rn ?_⟩⟩)
 have hm14:=Nat.div_le_self m 10
 refine Av1 2 17 [(16,.i m)] (cI (ndiv m 10 om)) ((IntKind.i64=IntKind.i64/\(10:Int)≠0)/\·) ⟨⟨rfl,om⟩,Gn0 [(0,.i ((m/10:Nat):Int))] (nk_n (Bn (Lr (m/10,UInt8.ofNat (48+m%10)::o) [] 0 [(0,.i ((m/10:Nat):Int)),(3,.str ([(UInt8.ofNat (48+m%10))]++o))] [] [] ?_ ?_ kr (by(try (try dsimp only));try kernel_rfl))))⟩
 (try dsimp only);omega
 refine⟨?_,rfl⟩;(try dsimp only);exact⟨by rw[<-h1,mtd1 (n:=m) om],by simp only[List.length_cons];omega⟩
 refine Xt (Jx (Lx (Bh (Jn (hK7 (Kp [3] (Rr (Fn1 [] [(2,.str ([109]++o))] (([109].length+o.length<=9223372036854775807)/\·) ⟨(by simp only[List.length_cons,List.length_nil];omega),Rt (.str ([109]++o)) (fin_lea ?_)⟩))))))))
 unfold mtx
 obtain rfl:m=0:=by omega
 rw[if_neg om,<-h1,mtd0];exact lea_refl _
theorem mkS_ok (p:List Str) (k:Nat) (hp:p.length<2^40) (hk:k+p.length<2^40):XC G 49 (fun i=>.osl i 1 0 p.length) [.i k] (fl sc p) (fun r cs=>r=.i ((k+p.length:Nat):Int)/\cs=fl sc (mks k p)):=by
 have hml:=mks_len p k
 refine h_xc (F:=[(0,.osl 0 1 0 p.length),(1,.i k)]) (by simp only[go_sem]) (by simp only[go_sem]) Tryz.func49 kr kr ?_ kr
 refine Rr (Fn0 [0,1] [] (Sq fun K2 hK2=>?_))
 refine Rr (Fn0 [0,1] [(5,.i 0)] (Bl (h_l (fun(i:Nat)=>([(0,.osl 0 1 0 p.length),(1,.i ((k+i:Nat):Int)),(5,.i i)]:Fr)) (fun(i:Nat)=>([(0,fl sc ((mks k p).take i++p.drop i))]:Hp)) (fun(i:Nat) cn=>(i<=p.length)/\cn=4) (fun(i:Nat)=>p.length-i) 0 kr ?_ ?_ ?_ ?_)))
 refine⟨?_,rfl⟩;exact Nat.zero_le _
 exact⟨kr,kr,kr,trivial⟩
 exact(sub_c kr (List.nil_sublist _))
 rintro i n1 hI
 (try dsimp only at hI)
 obtain⟨hi1,rfl⟩:=hI
 refine Sq fun K4 hK4=>?_
 refine Rr (Cn1 (decide ((i:Int)<(p.length:Int))) [0,1,5] [] (Ki/\·) ⟨rfl,fun hc6 c6=>?_,fun hc6 c6=>?_⟩)
 refine Sk (Jn (hK4 (Kp [0,1,5] (Sq fun K7 hK7=>?_))))
 refine Bl ?_
 have hdl:(p.drop i).length=p.length-i:=List.length_drop
 refine Rr (Pc0 4 [(14,.i ((k+i:Nat):Int)),(13,.i i),(12,.osl 0 1 0 p.length)] 15 (mtx_ok (k+i) om) (An3 2 [(16,.ptr 0 (0+i*1))] (fun _=>[(0,(fl sc ((mks k p).take i++p.drop i)).take (0+i*1)++[.str (mtx (k+i))]++(fl sc ((mks k p).take i++p.drop i)).drop (0+i*1+1))]) 4 ((1=1/\(0:Int)<=(i:Int)/\(i:Int)<(p.length:Int))/\(true=true/\1=1/\0+i*1+1<=(fl sc ((mks k p).take i++p.drop i)).length)/\·) ⟨⟨rfl,om,om⟩,⟨rfl,rfl,(by(try simp only[List.length_append,List.length_replicate,List.length_take,flTl,flSl,ints_len,List.length_set]);omega)⟩,run_H (H':=[(0,fl sc (((mks k p).take i++p.drop i).set i (mtx (k+i))))]) (by rw[rowS_set ((mks k p).take i++p.drop i) i (mtx (k+i)) (by first|omega|(rw[List.length_set];omega)|(simp only[List.length_append,List.length_replicate,List.length_take];omega))]) (Fn0 [0,1,5] [] ?_)⟩))
 refine h_k [0,1,5] (F':=[(0,.osl 0 1 0 p.length),(1,.i ((k+i:Nat):Int)),(5,.i i)]) kr ?_
 refine h_st (F':=[(0,.osl 0 1 0 p.length),(1,.i ((k+i:Nat):Int)),(5,.i i)]) (H':=[(0,fl sc ((mks k p).take (i+1)++p.drop (i+1)))]) rfl (by rw[mks_set p k i om]) ?_
 refine Rb (fun h=>Bn (Jn (hK7 h))) (Av1 2 18 [(17,.i ((k+i:Nat):Int))] (cI (wn1 (k+i) om)) (Ki/\·) ⟨rfl,Fn0 [0,5] [(1,.i ((k+i+1:Nat):Int))] (Rn (Av1 2 11 [(10,.i i)] (cI (wn1 i om)) (Ki/\·) ⟨rfl,?_⟩))⟩)
 refine Gn0 [(5,.i ((i+1:Nat):Int))] (nk_n (Lr (i+1) [(0,0)] 4 [(0,.osl 0 1 0 p.length),(1,.i ((k+i+1:Nat):Int)),(5,.i ((i+1:Nat):Int))] [(0,fl sc ((mks k p).take (i+1)++p.drop (i+1)))] [false] ?_ ?_ kr kr))
 (try dsimp only);omega
 refine⟨?_,rfl⟩;(try dsimp only);omega
 refine Xt (Jx (Lx (Bh (Jn (hK2 (Kp [1] (Rr (Fn0 [] [(4,.i ((k+i:Nat):Int))] (h_k [4] (F':=[(4,.i ((k+i:Nat):Int))]) kr (Rt (.i ((k+i:Nat):Int)) ?_))))))))))
 obtain rfl:i=p.length:=by omega
 exact fin_xc (fl sc (mks k p)) (lea_refl _) rfl (purs_fl (fun s=>by simp only[sc,purs,pur,Bool.and_self]) _) (by rw[List.drop_length,List.append_nil,List.take_of_length_le (by rw[mks_len];exact Nat.le_refl _)];rfl) ⟨rfl,rfl⟩
theorem heS_ok (p:List Str) (k:Nat) (hp:p.length<2^40) (hk:k+p.length<2^40):PE G 64 [pth (mks k p),.i k] (.i ((k+p.length:Nat):Int)):=by
 have hml:=mks_len p k
 refine Pe Tryz.func64 ?_
 refine Rr (Fn0 [0,1] [] (Sq fun K2 hK2=>?_))
 refine Rr (Fn0 [0,1] [(5,.i 0)] (Bl (h_l (fun(i:Nat)=>([(0,pth (mks k p)),(1,.i ((k+i:Nat):Int)),(5,.i i)]:Fr)) (fun(i:Nat)=>([]:Hp)) (fun(i:Nat) cn=>(i<=p.length)/\cn=0) (fun(i:Nat)=>p.length-i) 0 kr ?_ ?_ ?_ ?_)))
 refine⟨?_,rfl⟩;exact Nat.zero_le _
 exact⟨kr,kr,kr,trivial⟩
 exact(List.nil_sublist _)
 rintro i n1 hI
 (try dsimp only at hI)
 obtain⟨hi1,rfl⟩:=hI
 refine Sq fun K4 hK4=>?_
 refine Rr (Av0 3 8 [(7,pth (mks k p)),(6,.i i)] (lnm (mks k p) sc) (Cn1 (decide ((i:Int)<((mks k p).length:Int))) [0,1,5] [] (Ki/\·) ⟨rfl,fun hc6 c6=>?_,fun hc6 c6=>?_⟩))
 refine Sk (Jn (hK4 (Kp [0,1,5] (Sq fun K7 hK7=>?_))))
 refine Bl (Sq fun K8 hK8=>?_)
 refine Qr [0,0,3,7,0,16,63] [(0,[]),(1,[]),(2,[]),(3,[]),(4,[]),(5,[3]),(6,[])] (qAv1 3 14 [(13,.i i),(12,pth (mks k p))] (congrArg AV.pat (mg_str (mks k p) i om)) ((1=1/\(0:Int)<=(i:Int)/\(i:Int)<(((mks k p).map (fun s=>[AV.str s])).length:Int))/\·) ⟨⟨rfl,om,lmo⟩,qBc1 3 [(16,.i ((k+i:Nat):Int)),(15,.str ((mks k p).getD i default))] [3] 89 [.i ((k+i:Nat):Int)] 17 ((1<=1/\0<1)/\·) ⟨dc,PE.use (mtx_ok (k+i) om) (Kq (p:=(((1<=1/\0<1)/\(AV.str ((mks k p).getD i default)=(.str ((mks k p).getD i default):AV)))/\True)) ⟨⟨dc,rfl⟩,trivial⟩ ?_)⟩⟩)
 refine qCn0 (!(((mks k p).getD i default)==(mtx (k+i)))) [0,1,5] [] ⟨fun hc10 c10=>?_,fun hc10 c10=>?_⟩
 exfalso
 have h:=hc10
 rw[mks_get p k i om]at h;simp at h
 refine Sk (Jn (hK8 (Kp [0,1,5] (Rb (fun h=>Bn (Jn (hK7 h))) (Av1 2 20 [(19,.i ((k+i:Nat):Int))] (cI (wn1 (k+i) om)) (Ki/\·) ⟨rfl,Fn0 [0,5] [(1,.i ((k+i+1:Nat):Int))] (Rn ?_)⟩)))))
 refine Av1 2 11 [(10,.i i)] (cI (wn1 i om)) (Ki/\·) ⟨rfl,Gn0 [(5,.i ((i+1:Nat):Int))] (nk_n (Lr (i+1) [] 0 [(0,pth (mks k p)),(1,.i ((k+i+1:Nat):Int)),(5,.i ((i+1:Nat):Int))] [] [] ?_ ?_ kr kr))⟩
 (try dsimp only);omega
 refine⟨?_,rfl⟩;(try dsimp only);omega
 refine Xt (Jx (Lx (Bh (Jn (hK2 (Kp [1] (Rr (Fn0 [] [(4,.i ((k+i:Nat):Int))] (Rt (.i ((k+i:Nat):Int)) (fin_lea ?_))))))))))
 obtain rfl:i=p.length:=by omega
 exact lea_refl _
set_option maxHeartbeats 1000000 in
theorem heTs_ok:∀(N:Nat) (ks:List Tr) (k:Nat),Tr.Ws ks=N->k+3*Tr.Ws ks<2^40->PE G 65 [.sl 5 ((mkTs k ks).1.map trc),.i k] (.i ((mkTs k ks).2:Int)):=by
 intro N;refine Nat.strongRecOn N fun N ih=>?_;intro ks k hN hk;have hml:=mkTs_len ks k;have hks:=Ws_len ks;have hwl:=mkTs_le ks k
 refine Pe Tryz.func65 ?_
 refine Rr (Fn0 [0,1] [] (Sq fun K2 hK2=>?_))
 refine Rr (Fn0 [0,1] [(5,.i 0)] (Bl (h_l (fun(i:Nat)=>([(0,.sl 5 (((mkTs k ks).1).map trc)),(1,.i ((mkTs k (ks.take i)).2:Int)),(5,.i i)]:Fr)) (fun(i:Nat)=>([]:Hp)) (fun(i:Nat) cn=>(i<=ks.length)/\cn=0) (fun(i:Nat)=>ks.length-i) 0 kr ?_ ?_ ?_ ?_)))
 refine⟨?_,rfl⟩;exact Nat.zero_le _
 exact⟨kr,kr,kr,trivial⟩
 exact(List.nil_sublist _)
 rintro i n1 hI
 (try dsimp only at hI)
 obtain⟨hi1,rfl⟩:=hI
 refine Sq fun K4 hK4=>?_
 refine Rr (Av0 3 8 [(7,.sl 5 (((mkTs k ks).1).map trc)),(6,.i i)] (lnm ((mkTs k ks).1) trc) (Cn1 (decide ((i:Int)<(((mkTs k ks).1).length:Int))) [0,1,5] [] (Ki/\·) ⟨rfl,fun hc6 c6=>?_,fun hc6 c6=>?_⟩))
 refine Sk (Jn (hK4 (Kp [0,1,5] (Sq fun K7 hK7=>?_))))
 refine Bl (Sq fun K8 hK8=>?_)
 have hW:=Ws_get ks i om
 have hKm:=mkTs_mono ks k (i+1)
 have hKa:=mkTs_at ks k i om
 rw[mkTs_tk ks k i om,mkT_eq]at hKm
 have hKl:=mkTs_le (ks.getD i default).kids ((mkTs k (ks.take i)).2+3+(ks.getD i default).names.length)
 have hWe:=W_eq (ks.getD i default)
 have hg:=mkTs_get ks k i om
 rw[mkT_eq]at hg
 have hd1:((mkTs k ks).1.getD i default).dir=mdir (mkTs k (ks.take i)).2:=by rw[hg];rfl
 have hd2:((mkTs k ks).1.getD i default).mode=(((mkTs k (ks.take i)).2+1:Nat):Int):=by rw[hg];rfl
 have hd3:((mkTs k ks).1.getD i default).data=mtx ((mkTs k (ks.take i)).2+2):=by rw[hg];rfl
 have hd4:((mkTs k ks).1.getD i default).names=mks ((mkTs k (ks.take i)).2+3) (ks.getD i default).names:=by rw[hg];rfl
 have hd5:((mkTs k ks).1.getD i default).kids=(mkTs ((mkTs k (ks.take i)).2+3+(ks.getD i default).names.length) (ks.getD i default).kids).1:=by rw[hg];rfl
 have hnl:=wS_len (ks.getD i default).names
 refine Rr (Av1 3 14 [(13,.i i),(12,.sl 5 (((mkTs k ks).1).map trc))] (congrArg AV.pat (mg_trc ((mkTs k ks).1) i om)) (fun Z=>(5=5/\(0:Int)<=(i:Int)/\(i:Int)<(((((mkTs k ks).1).map trc).length:Nat):Int))/\Z) ⟨⟨rfl,om,lmo⟩,?_⟩)
 have hm10:=Nat.mod_lt ((mkTs k (ks.take i)).2) (show 0<3 by omega)
 refine Av1 4 18 [(17,.i ((mkTs k (ks.take i)).2:Int)),(16,.bool ((((mkTs k ks).1).getD i default).dir)),(15,.pat (tcs (((mkTs k ks).1).getD i default)))] (cI (nmod ((mkTs k (ks.take i)).2) 3)) (((1:Nat)≠0)/\(1<=5/\0<5)/\(IntKind.i64=IntKind.i64/\(3:Int)≠0)/\·) ⟨dc,dc,⟨rfl,om⟩,Cn1 (!(((((mkTs k ks).1).getD i default).dir)==(decide (((((mkTs k (ks.take i)).2)%3:Nat):Int)=0)))) [0,1,5] [] (Ki/\(TK.bool=TK.bool)/\·) ⟨rfl,rfl,fun hc11 c11=>?_,fun hc11 c11=>?_⟩⟩
 exfalso
 have h:=hc11
 rw[hd1]at h;simp[mdir]at h
 refine Sk (Jn (hK8 (Kp [0,1,5] (Rr (Av1 2 22 [(21,.i ((mkTs k (ks.take i)).2:Int))] (cI (wn1 ((mkTs k (ks.take i)).2) om)) (Ki/\·) ⟨rfl,Fn0 [0,5] [(1,.i ((((mkTs k (ks.take i)).2)+1:Nat):Int))] (Sq fun K13 hK13=>?_)⟩)))))
 refine Rr (Av1 3 25 [(24,.i i),(23,.sl 5 (((mkTs k ks).1).map trc))] (congrArg AV.pat (mg_trc ((mkTs k ks).1) i om)) (fun Z=>(5=5/\(0:Int)<=(i:Int)/\(i:Int)<(((((mkTs k ks).1).map trc).length:Nat):Int))/\Z) ⟨⟨rfl,om,lmo⟩,Cn1 (!decide (((((mkTs k ks).1).getD i default).mode:Int)=(((((mkTs k (ks.take i)).2)+1:Nat):Int):Int))) [0,1,5] [] (((1:Nat)≠0)/\(1<=4/\0<4)/\Ki/\·) ⟨dc,dc,rfl,fun hc15 c15=>?_,fun hc15 c15=>?_⟩⟩)
 exfalso
 have h:=hc15
 rw[hd2]at h;simp[mdir]at h
 refine Sk (Jn (hK13 (Kp [0,1,5] (Rr (Av1 2 31 [(30,.i ((((mkTs k (ks.take i)).2)+1:Nat):Int))] (cI (wn1 (((mkTs k (ks.take i)).2)+1) om)) (Ki/\·) ⟨rfl,Fn0 [0,5] [(1,.i ((((mkTs k (ks.take i)).2)+2:Nat):Int))] (Sq fun K17 hK17=>?_)⟩)))))
 refine Qr [0,0,3,7,15,0,32,127] [(0,[]),(1,[]),(2,[]),(3,[]),(4,[]),(5,[]),(6,[4]),(7,[])] (qAv1 3 34 [(33,.i i),(32,.sl 5 (((mkTs k ks).1).map trc))] (congrArg AV.pat (mg_trc ((mkTs k ks).1) i om)) (fun Z=>(5=5/\(0:Int)<=(i:Int)/\(i:Int)<(((((mkTs k ks).1).map trc).length:Nat):Int))/\Z) ⟨⟨rfl,om,lmo⟩,qBc1 4 [(37,.i ((((mkTs k (ks.take i)).2)+2:Nat):Int)),(36,.str ((((mkTs k ks).1).getD i default).data)),(35,.pat [.str ((((mkTs k ks).1).getD i default).data),pth ((((mkTs k ks).1).getD i default).names),.sl 5 (((((mkTs k ks).1).getD i default).kids).map trc)])] [4] 89 [.i ((((mkTs k (ks.take i)).2)+2:Nat):Int)] 38 (((1:Nat)≠0)/\(1<=3/\0<3)/\·) ⟨dc,dc,PE.use (mtx_ok (((mkTs k (ks.take i)).2)+2) om) (Kq (p:=(((1<=3/\0<3)/\(AV.str ((((mkTs k ks).1).getD i default).data)=(.str ((((mkTs k ks).1).getD i default).data):AV)))/\True)) ⟨⟨dc,rfl⟩,trivial⟩ ?_)⟩⟩)
 refine qCn0 (!(((((mkTs k ks).1).getD i default).data)==(mtx (((mkTs k (ks.take i)).2)+2)))) [0,1,5] [] ⟨fun hc19 c19=>?_,fun hc19 c19=>?_⟩
 exfalso
 have h:=hc19
 rw[hd3]at h;simp[mdir]at h
 refine Sk (Jn (hK17 (Kp [0,1,5] (Rr (Av1 2 41 [(40,.i ((((mkTs k (ks.take i)).2)+2:Nat):Int))] (cI (wn1 (((mkTs k (ks.take i)).2)+2) om)) (Ki/\·) ⟨rfl,Fn0 [0,5] [(1,.i ((((mkTs k (ks.take i)).2)+3:Nat):Int))] (Rr ?_)⟩)))))
 refine Av1 3 44 [(43,.i i),(42,.sl 5 (((mkTs k ks).1).map trc))] (congrArg AV.pat (mg_trc ((mkTs k ks).1) i om)) (fun Z=>(5=5/\(0:Int)<=(i:Int)/\(i:Int)<(((((mkTs k ks).1).map trc).length:Nat):Int))/\Z) ⟨⟨rfl,om,lmo⟩,Bc1 4 [(47,.i ((((mkTs k (ks.take i)).2)+3:Nat):Int)),(46,pth ((((mkTs k ks).1).getD i default).names)),(45,.pat [pth ((((mkTs k ks).1).getD i default).names),.sl 5 (((((mkTs k ks).1).getD i default).kids).map trc)])] 64 [pth ((((mkTs k ks).1).getD i default).names),.i ((((mkTs k (ks.take i)).2)+3:Nat):Int)] 48 (((1:Nat)≠0)/\(1<=2/\0<2)/\·) ⟨dc,dc,PE.use (by rw[hd4];exact heS_ok _ _ om om) (Ke (Fn0 [0,5] [(1,.i ((((mkTs k (ks.take i)).2)+3+(ks.getD i default).names.length:Nat):Int))] ?_))⟩⟩
 refine Sq fun K22 hK22=>?_
 refine Rr (Cn1 (decide (((((mkTs k (ks.take i)).2)+3+(ks.getD i default).names.length:Nat):Int)<0)) [0,1,5] [] (Ki/\·) ⟨rfl,fun hc24 c24=>?_,fun hc24 c24=>?_⟩)
 omega
 refine Sk (Jn (hK22 (Kp [0,1,5] (Rr (Av1 3 53 [(52,.i i),(51,.sl 5 (((mkTs k ks).1).map trc))] (congrArg AV.pat (mg_trc ((mkTs k ks).1) i om)) (fun Z=>(5=5/\(0:Int)<=(i:Int)/\(i:Int)<(((((mkTs k ks).1).map trc).length:Nat):Int))/\Z) ⟨⟨rfl,om,lmo⟩,Bc1 4 [(56,.i ((((mkTs k (ks.take i)).2)+3+(ks.getD i default).names.length:Nat):Int)),(55,.sl 5 (((((mkTs k ks).1).getD i default).kids).map trc)),(54,.pat [.sl 5 (((((mkTs k ks).1).getD i default).kids).map trc)])] 65 [.sl 5 (((((mkTs k ks).1).getD i default).kids).map trc),.i ((((mkTs k (ks.take i)).2)+3+(ks.getD i default).names.length:Nat):Int)] 57 (((1:Nat)≠0)/\(1<=1/\0<1)/\·) ⟨dc,dc,PE.use (by rw[hd5];exact ih _ om _ _ rfl om) ?_⟩⟩)))))
 refine Ke (Fn0 [0,5] [(1,.i (((mkTs (((mkTs k (ks.take i)).2)+3+(ks.getD i default).names.length) (ks.getD i default).kids).2:Nat):Int))] (Rr (Cn1 (decide ((((mkTs (((mkTs k (ks.take i)).2)+3+(ks.getD i default).names.length) (ks.getD i default).kids).2:Nat):Int)<0)) [0,1,5] [] (Ki/\·) ⟨rfl,fun hc27 c27=>?_,fun hc27 c27=>?_⟩)))
 omega
 refine Sk (Bn (Jn (hK7 (Kp [0,1,5] (Rn (Av1 2 11 [(10,.i i)] (cI (wn1 i om)) (Ki/\·) ⟨rfl,Gn0 [(5,.i ((i+1:Nat):Int))] (nk_n ?_)⟩))))))
 refine Lr (i+1) [] 0 [(0,.sl 5 (((mkTs k ks).1).map trc)),(1,.i (((mkTs (((mkTs k (ks.take i)).2)+3+(ks.getD i default).names.length) (ks.getD i default).kids).2:Nat):Int)),(5,.i ((i+1:Nat):Int))] [] [] ?_ ?_ kr (by(try ((try dsimp only);rw[mkTs_tk ks k i om,mkT_eq]));try kernel_rfl)
 (try dsimp only);omega
 refine⟨?_,rfl⟩;(try dsimp only);omega
 refine Xt (Jx (Lx (Bh (Jn (hK2 (Kp [1] (Rr (Fn0 [] [(4,.i ((mkTs k (ks.take i)).2:Int))] (Rt (.i ((mkTs k (ks.take i)).2:Int)) (fin_lea ?_))))))))))
 obtain rfl:i=ks.length:=by omega
 rw[List.take_length];exact lea_refl _
theorem heT_ok (t:Tr) (k:Nat) (hk:k+3*t.W<2^40):PE G 26 [.agg (tcs (.mk t.dir t.mode t.data (mks k t.names) (mkTs (k+t.names.length) t.kids).1)),.i k] (.i ((mkTs (k+t.names.length) t.kids).2:Int)):=by
 have hWe:=W_eq t;have hnl:=wS_len t.names;have hKl:=mkTs_le t.kids (k+t.names.length)
 refine Pe Tryz.func26 ?_
 refine Rr (Fn2 [1] [(2,.ptr 0 0)] ([(0,tcs (Tr.mk t.dir t.mode t.data (mks k t.names) (mkTs (k+t.names.length) t.kids).1))]++·) 4 (Rr (Bc1 4 [(7,.i k),(6,pth ((Tr.mk t.dir t.mode t.data (mks k t.names) (mkTs (k+t.names.length) t.kids).1).names)),(5,.ptr 0 3)] 64 [pth ((Tr.mk t.dir t.mode t.data (mks k t.names) (mkTs (k+t.names.length) t.kids).1).names),.i k] 8 (((1:Nat)≠0)/\(3+1<=5/\3<5)/\·) ⟨dc,dc,PE.use (heS_ok t.names k om om) ?_⟩)))
 refine Ke (Fn0 [2] [(1,.i ((k+t.names.length:Nat):Int))] (Sq fun K3 hK3=>?_))
 refine Rr (Cn1 (decide (((k+t.names.length:Nat):Int)<0)) [1,2] [] (Ki/\·) ⟨rfl,fun hc5 c5=>?_,fun hc5 c5=>?_⟩)
 omega
 refine Sk (Jn (hK3 (Kp [1,2] (Rr (Bc1 4 [(13,.i ((k+t.names.length:Nat):Int)),(12,.sl 5 (((Tr.mk t.dir t.mode t.data (mks k t.names) (mkTs (k+t.names.length) t.kids).1).kids).map trc)),(11,.ptr 0 4)] 65 [.sl 5 (((Tr.mk t.dir t.mode t.data (mks k t.names) (mkTs (k+t.names.length) t.kids).1).kids).map trc),.i ((k+t.names.length:Nat):Int)] 14 (((1:Nat)≠0)/\(4+1<=5/\4<5)/\·) ⟨dc,dc,PE.use (heTs_ok _ t.kids (k+t.names.length) rfl om) (Ke ?_)⟩)))))
 refine Fn0 [] [(1,.i ((mkTs (k+t.names.length) t.kids).2:Int))] (Sq fun K7 hK7=>?_)
 refine Rr (Cn1 (decide (((mkTs (k+t.names.length) t.kids).2:Int)<0)) [1] [] (Ki/\·) ⟨rfl,fun hc9 c9=>?_,fun hc9 c9=>?_⟩)
 omega
 refine Sk (Jn (hK7 (Kp [1] (Rr (Fn0 [] [(4,.i ((mkTs (k+t.names.length) t.kids).2:Int))] (Rt (.i ((mkTs (k+t.names.length) t.kids).2:Int)) ?_))))))
 exact fin_lea (lea_refl _)
theorem heMs_ok (l:List Mk) (k:Nat) (hk:k+wM l<2^40):PE G 27 [.sl 2 ((mkMs k l).1.map mkc),.i k] (.i ((mkMs k l).2:Int)):=by
 have hml:=mkMs_len l k;have hwl:=wM_len l;have hmm:=mkMs_le l k
 refine Pe Tryz.func27 ?_
 refine Rr (Fn0 [0,1] [] (Sq fun K2 hK2=>?_))
 refine Rr (Fn0 [0,1] [(5,.i 0)] (Bl (h_l (fun(i:Nat)=>([(0,.sl 2 (((mkMs k l).1).map mkc)),(1,.i ((mkMs k (l.take i)).2:Int)),(5,.i i)]:Fr)) (fun(i:Nat)=>([]:Hp)) (fun(i:Nat) cn=>(i<=l.length)/\cn=0) (fun(i:Nat)=>l.length-i) 0 kr ?_ ?_ ?_ ?_)))
 refine⟨?_,rfl⟩;exact Nat.zero_le _
 exact⟨kr,kr,kr,trivial⟩
 exact(List.nil_sublist _)
 rintro i n1 hI
 (try dsimp only at hI)
 obtain⟨hi1,rfl⟩:=hI
 refine Sq fun K4 hK4=>?_
 refine Rr (Av0 3 8 [(7,.sl 2 (((mkMs k l).1).map mkc)),(6,.i i)] (lnm ((mkMs k l).1) mkc) (Cn1 (decide ((i:Int)<(((mkMs k l).1).length:Int))) [0,1,5] [] (Ki/\·) ⟨rfl,fun hc6 c6=>?_,fun hc6 c6=>?_⟩))
 refine Sk (Jn (hK4 (Kp [0,1,5] (Sq fun K7 hK7=>?_))))
 refine Bl ?_
 have hKm:=mkMs_mono l k (i+1) om
 rw[mkMs_tk l k i om]at hKm
 have hg:=mkMs_get l k i om
 have hd1:((mkMs k l).1.getD i default).path=mks (mkMs k (l.take i)).2 (l.getD i default).path:=by rw[hg]
 have hd2:((mkMs k l).1.getD i default).sub=mdir ((mkMs k (l.take i)).2+(l.getD i default).path.length):=by rw[hg]
 refine Rr (Av1 3 14 [(13,.i i),(12,.sl 2 (((mkMs k l).1).map mkc))] (congrArg AV.pat (mg_mk ((mkMs k l).1) i om)) (fun Z=>(2=2/\(0:Int)<=(i:Int)/\(i:Int)<(((((mkMs k l).1).map mkc).length:Nat):Int))/\Z) ⟨⟨rfl,om,lmo⟩,Bc1 4 [(17,.i ((mkMs k (l.take i)).2:Int)),(16,pth ((((mkMs k l).1).getD i default).path)),(15,.pat (mkc (((mkMs k l).1).getD i default)))] 64 [pth ((((mkMs k l).1).getD i default).path),.i ((mkMs k (l.take i)).2:Int)] 18 (((1:Nat)≠0)/\(1<=2/\0<2)/\·) ⟨dc,dc,PE.use (by rw[hd1];exact heS_ok _ _ om om) (Ke ?_)⟩⟩)
 refine Fn0 [0,5] [(1,.i ((((mkMs k (l.take i)).2)+(l.getD i default).path.length:Nat):Int))] (Sq fun K9 hK9=>?_)
 refine Rr (Cn1 (decide (((((mkMs k (l.take i)).2)+(l.getD i default).path.length:Nat):Int)<0)) [0,1,5] [] (Ki/\·) ⟨rfl,fun hc11 c11=>?_,fun hc11 c11=>?_⟩)
 omega
 refine Sk (Jn (hK9 (Kp [0,1,5] (Sq fun K12 hK12=>?_))))
 refine Rr (Av1 3 23 [(22,.i i),(21,.sl 2 (((mkMs k l).1).map mkc))] (congrArg AV.pat (mg_mk ((mkMs k l).1) i om)) (fun Z=>(2=2/\(0:Int)<=(i:Int)/\(i:Int)<(((((mkMs k l).1).map mkc).length:Nat):Int))/\Z) ⟨⟨rfl,om,lmo⟩,?_⟩)
 have hm14:=Nat.mod_lt (((mkMs k (l.take i)).2)+(l.getD i default).path.length) (show 0<3 by omega)
 refine Av1 4 27 [(26,.i ((((mkMs k (l.take i)).2)+(l.getD i default).path.length:Nat):Int)),(25,.bool ((((mkMs k l).1).getD i default).sub)),(24,.pat [.bool ((((mkMs k l).1).getD i default).sub)])] (cI (nmod (((mkMs k (l.take i)).2)+(l.getD i default).path.length) 3)) (((1:Nat)≠0)/\(1<=1/\0<1)/\(IntKind.i64=IntKind.i64/\(3:Int)≠0)/\·) ⟨dc,dc,⟨rfl,om⟩,Cn1 (!(((((mkMs k l).1).getD i default).sub)==(decide ((((((mkMs k (l.take i)).2)+(l.getD i default).path.length)%3:Nat):Int)=0)))) [0,1,5] [] (Ki/\(TK.bool=TK.bool)/\·) ⟨rfl,rfl,fun hc15 c15=>?_,fun hc15 c15=>?_⟩⟩
 exfalso
 have h:=hc15
 rw[hd2]at h;simp[mdir]at h
 refine Sk (Jn (hK12 (Kp [0,1,5] (Rb (fun h=>Bn (Jn (hK7 h))) (Av1 2 31 [(30,.i ((((mkMs k (l.take i)).2)+(l.getD i default).path.length:Nat):Int))] (cI (wn1 (((mkMs k (l.take i)).2)+(l.getD i default).path.length) om)) (Ki/\·) ⟨rfl,Fn0 [0,5] [(1,.i (((((mkMs k (l.take i)).2)+(l.getD i default).path.length)+1:Nat):Int))] (Rn ?_)⟩)))))
 refine Av1 2 11 [(10,.i i)] (cI (wn1 i om)) (Ki/\·) ⟨rfl,Gn0 [(5,.i ((i+1:Nat):Int))] (nk_n (Lr (i+1) [] 0 [(0,.sl 2 (((mkMs k l).1).map mkc)),(1,.i (((((mkMs k (l.take i)).2)+(l.getD i default).path.length)+1:Nat):Int)),(5,.i ((i+1:Nat):Int))] [] [] ?_ ?_ kr (by(try ((try dsimp only);rw[mkMs_tk l k i om]));try kernel_rfl)))⟩
 (try dsimp only);omega
 refine⟨?_,rfl⟩;(try dsimp only);omega
 refine Xt (Jx (Lx (Bh (Jn (hK2 (Kp [1] (Rr (Fn0 [] [(4,.i ((mkMs k (l.take i)).2:Int))] (Rt (.i ((mkMs k (l.take i)).2:Int)) (fin_lea ?_))))))))))
 obtain rfl:i=l.length:=by omega
 rw[List.take_length];exact lea_refl _
set_option maxRecDepth 100000
section
variable {G:Prg} {L:List Oper} {k:Nat} {F:Fr} {H:Hp} {n:Nat} {K:RK} {A B M:List AV} {s:Nat}
theorem midx_in {ti:TI} (hM:M.length=s) (h:ok1 ti=true) (j:Nat) (hj:j<s):A.length+j+ti.size<=(A++M++B).length/\A.length+j<(A++M++B).length:=by
 rw[(ok1_at h).1];simp only[List.length_append,hM];omega
theorem gelx (hM:M.length=s) (d tn:Nat) (i j:Nat) (v:AV) (e:∀J:RK,runE G L ((L.drop k).take 1) F H n J=runR G J (some d) F H n (ldr (tiq G tn) (.ptr i (A.length+j)) H n)) (hg:hgt H i=some (A++M++B)) (h1:(ok1 (tiq G tn)&&Nat.blt j s)=true) (hv:M.getD j .dead=v)
  (h:runE G L (L.drop (k+1)) ((d,v)::F) H n K):runE G L (L.drop k) F H n K:=by
 rw[Bool.and_eq_true,Nat.blt_eq]at h1
 refine gel d (tiq G tn) i (A.length+j) v e hg (midx_in hM h1.1 j h1.2) ?_ h
 simp only[ldo,(ok1_at h1.1).2,cond_false,<-hv,List.getD]
 rw[List.append_assoc,List.getElem?_append_right (by omega),Nat.add_sub_cancel_left,List.getElem?_append_left (by omega)]
theorem gesx (hM:M.length=s) (tn:Nat) (i j:Nat) (v:AV) (M':List AV) (H':Hp) (e:∀J:RK,runE G L ((L.drop k).take 1) F H n J=runR G J none F H n (str (tiq G tn) (.ptr i (A.length+j)) v H n)) (hg:hgt H i=some (A++M++B)) (h1:(ok1 (tiq G tn)&&(Nat.blt j s&&okc v))=true) (hc:cl v=[v]) (hv:M.take j++[v]++M.drop (j+1)=M') (hH:hset H i (A++M'++B)=H')
  (h:runE G L (L.drop (k+1)) F H' n K):runE G L (L.drop k) F H n K:=by
 rw[Bool.and_eq_true,Bool.and_eq_true,Nat.blt_eq]at h1
 obtain⟨h2,h3,h4⟩:=h1
 refine ges (tiq G tn) i (A.length+j) v H' e hg ⟨h4,by rw[hc,(ok1_at h2).1];rfl,(midx_in hM h2 j h3).1⟩ ?_ h
 have e1:(A++M++B).take (A.length+j)=A++M.take j:=by
  rw[List.append_assoc,List.take_append,List.take_of_length_le (by omega),Nat.add_sub_cancel_left,List.take_append_of_le_length (by omega)]
 have e2:(A++M++B).drop (A.length+j+1)=M.drop (j+1)++B:=by
  rw[List.append_assoc,List.drop_append,List.drop_of_length_le (by omega),List.nil_append,show A.length+j+1-A.length=j+1 by omega,List.drop_append_of_le_length (by omega)]
 rw[hc,(ok1_at h2).1,e1,e2,<-hH,<-hv]
 simp only[List.append_assoc]
end
mutual
def mkO:Nat->OT->OT
 |k,.mk _ _ _ i ns ks=>.mk (mdir k) ((k+1:Nat):Int) (mtx (k+2)) i (mks (k+3) ns) (mkOs (k+3+ns.length) ks)
def mkOs:Nat->List OT->List OT
 |_,[]=>[]
 |k,t::ts=>mkO k t::mkOs (mkT k (er t)).2 ts
end
theorem mkO_eq (k:Nat) (t:OT):mkO k t=.mk (mdir k) ((k+1:Nat):Int) (mtx (k+2)) t.ids (mks (k+3) t.names) (mkOs (k+3+t.names.length) t.kids):=by
 cases t;rw[mkO];rfl
theorem mkOs_len:∀(ks:List OT) (k:Nat),(mkOs k ks).length=ks.length
 |[],k=>by rw[mkOs]
 |t::ts,k=>by rw[mkOs];simp only[List.length_cons,mkOs_len ts]
mutual
theorem mkO_er:∀(t:OT) (k:Nat),er (mkO k t)=(mkT k (er t)).1
 |.mk d m s i ns ks,k=>by
  rw[mkO,er,er,mkT,mkOs_er ks]
theorem mkOs_er:∀(ks:List OT) (k:Nat),ers (mkOs k ks)=(mkTs k (ers ks)).1
 |[],k=>by rw[mkOs,ers,mkTs]
 |t::ts,k=>by rw[mkOs,ers,ers,mkTs,mkO_er t,mkOs_er ts]
end
mutual
theorem mkO_shp:∀(t:OT) (k:Nat),asm t->asm (mkO k t)
 |.mk d m s i ns ks,k,h=>by
  rw[mkO];exact⟨h.1,mkOs_shp ks _ h.2⟩
theorem mkOs_shp:∀(ks:List OT) (k:Nat),asms ks->asms (mkOs k ks)
 |[],k,_=>by rw[mkOs];trivial
 |t::ts,k,h=>by rw[mkOs];exact⟨mkO_shp t k h.1,mkOs_shp ts _ h.2⟩
end
mutual
theorem asm_shp:∀t:OT,asm t->shp t
 |.mk d m s i ns ks,h=>⟨fun e=>by have:=h.1;rw[e]at this;simp at this,asms_shps ks h.2⟩
theorem asms_shps:∀ks:List OT,asms ks->shps ks
 |[],_=>trivial
 |t::ts,h=>⟨asm_shp t h.1,asms_shps ts h.2⟩
end
theorem mkOs_snoc:∀(l:List OT) (x:OT) (k:Nat),mkOs k (l++[x])=mkOs k l++[mkO (mkTs k (ers l)).2 x]
 |[],x,k=>by simp only[List.nil_append,mkOs,ers,mkTs]
 |t::l,x,k=>by rw[List.cons_append,mkOs,mkOs_snoc l x,mkOs,ers,mkTs];rfl
theorem ers_take (l:List OT) (i:Nat):ers (l.take i)=(ers l).take i:=by rw[ers_map,ers_map,List.map_take]
theorem ers_get (l:List OT) (i:Nat):(ers l).getD i default=er (l.getD i default):=by rw[ers_map];exact getD_er l i
theorem ers_len (l:List OT):(ers l).length=l.length:=by rw[ers_map,List.length_map]
def mrk (k i:Nat) (Ks:List OT):List OT:=mkOs k (Ks.take i)++Ks.drop i
theorem mrk_split (k i:Nat) (Ks:List OT) (h:i<Ks.length):mrk k i Ks=mkOs k (Ks.take i)++(Ks.getD i default::Ks.drop (i+1)):=by
 unfold mrk;rw[List.drop_eq_getElem_cons h];simp[List.getD,h]
theorem mrk_next (k i:Nat) (Ks:List OT) (h:i<Ks.length):mrk k (i+1) Ks=mkOs k (Ks.take i)++(mkO (mkTs k ((ers Ks).take i)).2 (Ks.getD i default)::Ks.drop (i+1)):=by
 unfold mrk;rw[take_snoc Ks i default h,mkOs_snoc,ers_take,List.append_assoc];rfl
theorem mrk_0 (k:Nat) (Ks:List OT):mrk k 0 Ks=Ks:=by simp[mrk,mkOs]
theorem mrk_all (k:Nat) (Ks:List OT):mrk k Ks.length Ks=mkOs k Ks:=by simp[mrk]
theorem objss_mid (A B:List OT) (t:OT):(objss (A++(t::B))).Perm (objs t++(objss A++objss B)):=by
 rw[objss_app]
 simp only[objss]
 rw[<-List.append_assoc,<-List.append_assoc]
 exact List.perm_append_comm.append_right _
theorem fl_mid (A B:List OT) (t:OT):fl otc (A++(t::B))=fl otc A++otc t++fl otc B:=by
 rw[fl_app,show t::B=[t]++B from rfl,fl_app,fl_one,List.append_assoc]
theorem row_in {Z W:Hp} {b k i:Nat} {Ks:List OT} (h:i<Ks.length) (hp:Z.Perm ((2*b+1,fl otc (mrk k i Ks))::(objss (mrk k i Ks)++W))):
  Z.Perm ((2*b+1,fl otc (mkOs k (Ks.take i))++otc (Ks.getD i default)++fl otc (Ks.drop (i+1)))::(objs (Ks.getD i default)++(objss (mkOs k (Ks.take i))++objss (Ks.drop (i+1))++W))):=by
 rw[mrk_split k i Ks h,fl_mid]at hp
 refine hp.trans (List.Perm.cons _ ?_)
 rw[<-List.append_assoc (objs _)]
 exact(objss_mid _ _ _).append_right W
theorem row_out {Z W:Hp} {b k i:Nat} {Ks:List OT} (h:i<Ks.length)
  (hp:Z.Perm ((2*b+1,fl otc (mkOs k (Ks.take i))++otc (mkO (mkTs k ((ers Ks).take i)).2 (Ks.getD i default))++fl otc (Ks.drop (i+1)))::(objs (mkO (mkTs k ((ers Ks).take i)).2 (Ks.getD i default))++(objss (mkOs k (Ks.take i))++objss (Ks.drop (i+1))++W)))):
  Z.Perm ((2*b+1,fl otc (mrk k (i+1) Ks))::(objss (mrk k (i+1) Ks)++W)):=by
 rw[mrk_next k i Ks h,fl_mid]
 refine hp.trans (List.Perm.cons _ ?_)
 rw[<-List.append_assoc (objs _)]
 exact((objss_mid _ _ _).append_right W).symm
theorem otc_mark {t:OT} {k a c:Nat} (hi:t.ids=some (a,c)):otc (mkO k t)=otc (.mk (mdir k) ((k+1:Nat):Int) (mtx (k+2)) t.ids t.names t.kids)/\objs (mkO k t)=(2*a+1,fl sc (mks (k+3) t.names))::(2*c+1,fl otc (mkOs (k+3+t.names.length) t.kids))::objss (mkOs (k+3+t.names.length) t.kids):=by
 rw[mkO_eq]
 constructor
 ·simp only[otc,OT.dir_mk,OT.mode_mk,OT.data_mk,OT.ids_mk,OT.names_mk,OT.kids_mk,mks_len,mkOs_len]
 ·rw[objs_eq];simp only[own,OT.ids_mk,hi,OT.names_mk,OT.kids_mk,List.cons_append,List.nil_append]
theorem objs_ids {t:OT} {a c:Nat} (hi:t.ids=some (a,c)):objs t=(2*a+1,fl sc t.names)::(2*c+1,fl otc t.kids)::objss t.kids:=by
 rw[objs_eq];simp only[own,hi,List.cons_append,List.nil_append]
open Go Go.Proofs
set_option maxRecDepth 100000
theorem odMid {Z W:Hp} {i:Nat} {A B M N:List AV} (hz:odH Z) (hp:Z.Perm ((i,A++M++B)::W)) (hN:ods N):ods (A++N++B):=by
  have h:=(odH_mem hz (hp.mem_iff.2 List.mem_cons_self)).2
  rw[ods_app,ods_app]at h⊢
  exact⟨⟨h.1.1,hN⟩,h.2⟩
theorem prot (x y z:Nat×List AV) (S W:Hp):(x::y::(z::(S++W))).Perm (z::(S++(y::x::W))):=by
  refine List.Perm.trans ?_ (List.Perm.cons z (List.perm_middle (l₁:=S) (a:=y) (l₂:=x::W)).symm)
  refine List.Perm.trans ?_ (List.Perm.cons z (List.Perm.cons y (List.perm_middle (l₁:=S) (a:=x) (l₂:=W)).symm))
  exact(List.Perm.swap _ _ _).trans ((List.Perm.cons y (List.Perm.swap _ _ _)).trans (List.Perm.swap _ _ _))
theorem prot2 (z y x:Nat×List AV) (S W:Hp):(z::(S++(y::x::W))).Perm (y::((x::z::S)++W)):=by
  refine(prot x y z S W).symm.trans ?_
  exact List.Perm.swap _ _ _
set_option maxHeartbeats 2000000 in
theorem mkTs_ok:∀(N:Nat) (Ks:List OT) (k b:Nat) {Z W:Hp},Tr.Ws (ers Ks)=N->asms Ks->k+3*Tr.Ws (ers Ks)<2^40->odH Z->Z.Perm ((2*b+1,fl otc Ks)::(objss Ks++W))->DC G 50 [.osl (2*b+1) 5 0 Ks.length,.i k] Z (fun r Z'=>r=.i ((mkTs k (ers Ks)).2:Int)/\Z'.Perm ((2*b+1,fl otc (mkOs k Ks))::(objss (mkOs k Ks)++W))/\odH Z'):=by
 intro N;refine Nat.strongRecOn N fun N ih=>?_;intro Ks k b Z W hN ha hk hz hp;have hks:=Ws_len (ers Ks);rw[ers_len]at hks
 refine DC_nd fun hnd=>?_
 refine h_dc (F:=[(0,.osl (2*b+1) 5 0 Ks.length),(1,.i k)]) ⟨(show(2*b+1)%2=1 by omega),trivial,trivial⟩ hz Tryz.func50 kr kr ?_ kr
 refine Rr (Fn0 [0,1] [] (Sq fun K2 hK2=>?_))
 refine Rr (Fn0 [0,1] [(5,.i 0)] (Bl (h_ls (fun(x:Nat×Hp)=>(match x with|(i,Z)=>([(0,.osl (2*b+1) 5 0 Ks.length),(1,.i (((mkTs k ((ers Ks).take i)).2:Nat):Int)),(5,.i i)]:Fr))) (fun(x:Nat×Hp)=>(match x with|(i,Z)=>(Z:Hp))) (fun(x:Nat×Hp) cn=>(match x with|(i,Z)=>(odH Z/\Z.Perm ((2*b+1,fl otc (mrk k i Ks))::(objss (mrk k i Ks)++W))/\i<=Ks.length)/\cn=0)) (fun(x:Nat×Hp)=>Ks.length-x.1) (0,Z) kr ?_ ?_ ?_ ?_)))
 refine⟨?_,rfl⟩;exact⟨hz,by rw[mrk_0];exact hp,Nat.zero_le _⟩
 exact⟨kr,kr,kr,trivial⟩
 exact(List.Sublist.refl _)
 rintro⟨i,Z⟩ n1 hI
 (try dsimp only at hI)
 obtain⟨⟨hz,hp,hi1⟩,rfl⟩:=hI
 refine Sq fun K4 hK4=>?_
 refine Rr (Cn1 (decide ((i:Int)<(Ks.length:Int))) [0,1,5] [] (Ki/\·) ⟨rfl,fun hc6 c6=>?_,fun hc6 c6=>?_⟩)
 refine Sk (Jn (hK4 (Kp [0,1,5] (Sq fun K7 hK7=>?_))))
 refine Bl ?_
 have hil:i<Ks.length:=by omega
 refine TT_nd fun hnd=>?_
 obtain⟨t,ht⟩:∃t,t=Ks.getD i default:=⟨_,rfl⟩
 have hat:=(asm_eq t).1 (by rw[ht];exact asms_get ha hil)
 obtain⟨⟨a,c⟩,hids⟩:=Option.isSome_iff_exists.1 hat.1
 have hr0:=row_in hil hp
 have hAl:0+i*5=(fl otc (mkOs k (Ks.take i))).length:=by rw[flOl,mkOs_len,List.length_take];omega
 have hro:=fun Z'=>row_out (Z:=Z') (W:=W) (b:=b) (k:=k) hil
 rw[<-ht]at hr0 hro
 generalize fl otc (mkOs k (Ks.take i))=A at hr0 hAl hro
 generalize fl otc (Ks.drop (i+1))=B at hr0 hro
 generalize objss (mkOs k (Ks.take i))++objss (Ks.drop (i+1))++W=W1 at hr0 hro
 rw[objs_ids hids,show otc t=[.bool t.dir,.i t.mode,.str t.data,.osl (2*a+1) 1 0 t.names.length,.osl (2*c+1) 5 0 t.kids.length] by simp only[otc,hids];rfl]at hr0
 have hg0:hgt Z (2*b+1)=some (A++[.bool t.dir,.i t.mode,.str t.data,.osl (2*a+1) 1 0 t.names.length,.osl (2*c+1) 5 0 t.kids.length]++B):=hgt_perm hnd hr0 (by simp)
 have hWt:=Ws_get (ers Ks) i (by rw[ers_len];exact hil)
 have hKa:=mkTs_at (ers Ks) k i (by rw[ers_len];exact hil)
 rw[ers_get,<-ht]at hWt hKa
 have hWe:=W_eq (er t)
 rw[er_names,er_kids,er_data,<-ers_map]at hWe
 have hnl:=wS_len t.names
 have hkl:=Ws_len (ers t.kids)
 rw[ers_len]at hkl
 have hKm:=mkTs_le (ers t.kids) ((mkTs k ((ers Ks).take i)).2+3+t.names.length)
 refine Rr ?_
 have hm9:=Nat.mod_lt ((mkTs k ((ers Ks).take i)).2) (show 0<3 by omega)
 refine Av1 4 15 [(14,.i (((mkTs k ((ers Ks).take i)).2:Nat):Int)),(13,.i i),(12,.osl (2*b+1) 5 0 Ks.length)] (cI (nmod ((mkTs k ((ers Ks).take i)).2) 3)) ((IntKind.i64=IntKind.i64/\(3:Int)≠0)/\·) ⟨⟨rfl,om⟩,Av1 (r:=.ptr (2*b+1) (0+i*5)) (v:=.ptr (2*b+1) A.length) 2 17 [(16,.bool (decide (((((mkTs k ((ers Ks).take i)).2)%3:Nat):Int)=0)))] (congrArg (AV.ptr _) hAl) (Ki/\(5=5/\(0:Int)<=(i:Int)/\(i:Int)<(Ks.length:Int))/\·) ⟨rfl,⟨rfl,om,om⟩,An1 1 [(18,.ptr (2*b+1) A.length)] (((1:Nat)≠0)/\·) ⟨dc,gesx (M:=[.bool t.dir,.i t.mode,.str t.data,.osl (2*a+1) 1 0 t.names.length,.osl (2*c+1) 5 0 t.kids.length]) rfl 4 (2*b+1) 0 (.bool (decide (((((mkTs k ((ers Ks).take i)).2)%3:Nat):Int)=0))) [.bool (mdir (mkTs k ((ers Ks).take i)).2),.i t.mode,.str t.data,.osl (2*a+1) 1 0 t.names.length,.osl (2*c+1) 5 0 t.kids.length] (hset Z (2*b+1) (A++[.bool (mdir (mkTs k ((ers Ks).take i)).2),.i t.mode,.str t.data,.osl (2*a+1) 1 0 t.names.length,.osl (2*c+1) 5 0 t.kids.length]++B)) (fun J=>by kernel_rfl) hg0 kr rfl rfl rfl ?_⟩⟩⟩
 have hr1:=hset_perm (ds:=A++[.bool (mdir (mkTs k ((ers Ks).take i)).2),.i t.mode,.str t.data,.osl (2*a+1) 1 0 t.names.length,.osl (2*c+1) 5 0 t.kids.length]++B) hnd hr0
 have hnd1:(ids (hset Z (2*b+1) (A++[.bool (mdir (mkTs k ((ers Ks).take i)).2),.i t.mode,.str t.data,.osl (2*a+1) 1 0 t.names.length,.osl (2*c+1) 5 0 t.kids.length]++B))).Nodup:=by rw[hset_ids];exact hnd
 have hz1:odH (hset Z (2*b+1) (A++[.bool (mdir (mkTs k ((ers Ks).take i)).2),.i t.mode,.str t.data,.osl (2*a+1) 1 0 t.names.length,.osl (2*c+1) 5 0 t.kids.length]++B)):=odH_hset hz (odMid hz hr0 ⟨trivial,trivial,trivial,(show(2*a+1)%2=1 by omega),(show(2*c+1)%2=1 by omega),trivial⟩) hnd
 generalize (hset Z (2*b+1) (A++[.bool (mdir (mkTs k ((ers Ks).take i)).2),.i t.mode,.str t.data,.osl (2*a+1) 1 0 t.names.length,.osl (2*c+1) 5 0 t.kids.length]++B))=Z1 at hr1 hnd1 hz1⊢
 have hg1:hgt Z1 (2*b+1)=some (A++[.bool (mdir (mkTs k ((ers Ks).take i)).2),.i t.mode,.str t.data,.osl (2*a+1) 1 0 t.names.length,.osl (2*c+1) 5 0 t.kids.length]++B):=hgt_perm hnd1 hr1 (by simp)
 refine Fn0 [0,1,5] [] (Rr (Av1 2 20 [(19,.i (((mkTs k ((ers Ks).take i)).2:Nat):Int))] (cI (wn1 ((mkTs k ((ers Ks).take i)).2) om)) (Ki/\·) ⟨rfl,Fn0 [0,5] [(1,.i ((((mkTs k ((ers Ks).take i)).2)+1:Nat):Int))] (Rr ?_)⟩))
 refine Av1 (r:=.ptr (2*b+1) (0+i*5)) (v:=.ptr (2*b+1) A.length) 4 24 [(23,.i ((((mkTs k ((ers Ks).take i)).2)+1:Nat):Int)),(22,.i i),(21,.osl (2*b+1) 5 0 Ks.length)] (congrArg (AV.ptr _) hAl) ((5=5/\(0:Int)<=(i:Int)/\(i:Int)<(Ks.length:Int))/\·) ⟨⟨rfl,om,om⟩,An1 1 [(25,.ptr (2*b+1) (A.length+1))] (((1:Nat)≠0)/\·) ⟨dc,gesx (M:=[.bool (mdir (mkTs k ((ers Ks).take i)).2),.i t.mode,.str t.data,.osl (2*a+1) 1 0 t.names.length,.osl (2*c+1) 5 0 t.kids.length]) rfl 3 (2*b+1) 1 (.i ((((mkTs k ((ers Ks).take i)).2)+1:Nat):Int)) [.bool (mdir (mkTs k ((ers Ks).take i)).2),.i (((mkTs k ((ers Ks).take i)).2+1:Nat):Int),.str t.data,.osl (2*a+1) 1 0 t.names.length,.osl (2*c+1) 5 0 t.kids.length] (hset Z1 (2*b+1) (A++[.bool (mdir (mkTs k ((ers Ks).take i)).2),.i (((mkTs k ((ers Ks).take i)).2+1:Nat):Int),.str t.data,.osl (2*a+1) 1 0 t.names.length,.osl (2*c+1) 5 0 t.kids.length]++B)) (fun J=>by kernel_rfl) hg1 kr rfl rfl rfl ?_⟩⟩
 have hr2:=hset_perm (ds:=A++[.bool (mdir (mkTs k ((ers Ks).take i)).2),.i (((mkTs k ((ers Ks).take i)).2+1:Nat):Int),.str t.data,.osl (2*a+1) 1 0 t.names.length,.osl (2*c+1) 5 0 t.kids.length]++B) hnd1 hr1
 have hnd2:(ids (hset Z1 (2*b+1) (A++[.bool (mdir (mkTs k ((ers Ks).take i)).2),.i (((mkTs k ((ers Ks).take i)).2+1:Nat):Int),.str t.data,.osl (2*a+1) 1 0 t.names.length,.osl (2*c+1) 5 0 t.kids.length]++B))).Nodup:=by rw[hset_ids];exact hnd1
 have hz2:odH (hset Z1 (2*b+1) (A++[.bool (mdir (mkTs k ((ers Ks).take i)).2),.i (((mkTs k ((ers Ks).take i)).2+1:Nat):Int),.str t.data,.osl (2*a+1) 1 0 t.names.length,.osl (2*c+1) 5 0 t.kids.length]++B)):=odH_hset hz1 (odMid hz1 hr1 ⟨trivial,trivial,trivial,(show(2*a+1)%2=1 by omega),(show(2*c+1)%2=1 by omega),trivial⟩) hnd1
 generalize (hset Z1 (2*b+1) (A++[.bool (mdir (mkTs k ((ers Ks).take i)).2),.i (((mkTs k ((ers Ks).take i)).2+1:Nat):Int),.str t.data,.osl (2*a+1) 1 0 t.names.length,.osl (2*c+1) 5 0 t.kids.length]++B))=Z2 at hr2 hnd2 hz2⊢
 have hg2:hgt Z2 (2*b+1)=some (A++[.bool (mdir (mkTs k ((ers Ks).take i)).2),.i (((mkTs k ((ers Ks).take i)).2+1:Nat):Int),.str t.data,.osl (2*a+1) 1 0 t.names.length,.osl (2*c+1) 5 0 t.kids.length]++B):=hgt_perm hnd2 hr2 (by simp)
 refine Fn0 [0,1,5] [] (Rr (Av1 2 27 [(26,.i ((((mkTs k ((ers Ks).take i)).2)+1:Nat):Int))] (cI (wn1 (((mkTs k ((ers Ks).take i)).2)+1) om)) (Ki/\·) ⟨rfl,Fn0 [0,5] [(1,.i ((((mkTs k ((ers Ks).take i)).2)+2:Nat):Int))] (Rr ?_)⟩))
 refine Pc0 4 [(30,.i ((((mkTs k ((ers Ks).take i)).2)+2:Nat):Int)),(29,.i i),(28,.osl (2*b+1) 5 0 Ks.length)] 31 (mtx_ok (((mkTs k ((ers Ks).take i)).2)+2) om) (Av1 (r:=.ptr (2*b+1) (0+i*5)) (v:=.ptr (2*b+1) A.length) 1 32 [] (congrArg (AV.ptr _) hAl) ((5=5/\(0:Int)<=(i:Int)/\(i:Int)<(Ks.length:Int))/\·) ⟨⟨rfl,om,om⟩,An1 1 [(33,.ptr (2*b+1) (A.length+2))] (((1:Nat)≠0)/\·) ⟨dc,gesx (M:=[.bool (mdir (mkTs k ((ers Ks).take i)).2),.i (((mkTs k ((ers Ks).take i)).2+1:Nat):Int),.str t.data,.osl (2*a+1) 1 0 t.names.length,.osl (2*c+1) 5 0 t.kids.length]) rfl 9 (2*b+1) 2 (.str (mtx (((mkTs k ((ers Ks).take i)).2)+2))) [.bool (mdir (mkTs k ((ers Ks).take i)).2),.i (((mkTs k ((ers Ks).take i)).2+1:Nat):Int),.str (mtx ((mkTs k ((ers Ks).take i)).2+2)),.osl (2*a+1) 1 0 t.names.length,.osl (2*c+1) 5 0 t.kids.length] (hset Z2 (2*b+1) (A++[.bool (mdir (mkTs k ((ers Ks).take i)).2),.i (((mkTs k ((ers Ks).take i)).2+1:Nat):Int),.str (mtx ((mkTs k ((ers Ks).take i)).2+2)),.osl (2*a+1) 1 0 t.names.length,.osl (2*c+1) 5 0 t.kids.length]++B)) (fun J=>by kernel_rfl) hg2 kr rfl rfl rfl ?_⟩⟩)
 have hr3:=hset_perm (ds:=A++[.bool (mdir (mkTs k ((ers Ks).take i)).2),.i (((mkTs k ((ers Ks).take i)).2+1:Nat):Int),.str (mtx ((mkTs k ((ers Ks).take i)).2+2)),.osl (2*a+1) 1 0 t.names.length,.osl (2*c+1) 5 0 t.kids.length]++B) hnd2 hr2
 have hnd3:(ids (hset Z2 (2*b+1) (A++[.bool (mdir (mkTs k ((ers Ks).take i)).2),.i (((mkTs k ((ers Ks).take i)).2+1:Nat):Int),.str (mtx ((mkTs k ((ers Ks).take i)).2+2)),.osl (2*a+1) 1 0 t.names.length,.osl (2*c+1) 5 0 t.kids.length]++B))).Nodup:=by rw[hset_ids];exact hnd2
 have hz3:odH (hset Z2 (2*b+1) (A++[.bool (mdir (mkTs k ((ers Ks).take i)).2),.i (((mkTs k ((ers Ks).take i)).2+1:Nat):Int),.str (mtx ((mkTs k ((ers Ks).take i)).2+2)),.osl (2*a+1) 1 0 t.names.length,.osl (2*c+1) 5 0 t.kids.length]++B)):=odH_hset hz2 (odMid hz2 hr2 ⟨trivial,trivial,trivial,(show(2*a+1)%2=1 by omega),(show(2*c+1)%2=1 by omega),trivial⟩) hnd2
 generalize (hset Z2 (2*b+1) (A++[.bool (mdir (mkTs k ((ers Ks).take i)).2),.i (((mkTs k ((ers Ks).take i)).2+1:Nat):Int),.str (mtx ((mkTs k ((ers Ks).take i)).2+2)),.osl (2*a+1) 1 0 t.names.length,.osl (2*c+1) 5 0 t.kids.length]++B))=Z3 at hr3 hnd3 hz3⊢
 have hg3:hgt Z3 (2*b+1)=some (A++[.bool (mdir (mkTs k ((ers Ks).take i)).2),.i (((mkTs k ((ers Ks).take i)).2+1:Nat):Int),.str (mtx ((mkTs k ((ers Ks).take i)).2+2)),.osl (2*a+1) 1 0 t.names.length,.osl (2*c+1) 5 0 t.kids.length]++B):=hgt_perm hnd3 hr3 (by simp)
 refine Fn0 [0,1,5] [] (Rr (Av1 2 35 [(34,.i ((((mkTs k ((ers Ks).take i)).2)+2:Nat):Int))] (cI (wn1 (((mkTs k ((ers Ks).take i)).2)+2) om)) (Ki/\·) ⟨rfl,Fn0 [0,5] [(1,.i ((((mkTs k ((ers Ks).take i)).2)+3:Nat):Int))] (Rr ?_)⟩))
 refine Av1 (r:=.ptr (2*b+1) (0+i*5)) (v:=.ptr (2*b+1) A.length) 3 38 [(37,.i i),(36,.osl (2*b+1) 5 0 Ks.length)] (congrArg (AV.ptr _) hAl) ((5=5/\(0:Int)<=(i:Int)/\(i:Int)<(Ks.length:Int))/\·) ⟨⟨rfl,om,om⟩,An1 1 [(39,.ptr (2*b+1) (A.length+3))] (((1:Nat)≠0)/\·) ⟨dc,gelx (M:=[.bool (mdir (mkTs k ((ers Ks).take i)).2),.i (((mkTs k ((ers Ks).take i)).2+1:Nat):Int),.str (mtx ((mkTs k ((ers Ks).take i)).2+2)),.osl (2*a+1) 1 0 t.names.length,.osl (2*c+1) 5 0 t.kids.length]) rfl 40 25 (2*b+1) 3 (.osl (2*a+1) 1 0 t.names.length) (fun J=>by kernel_rfl) hg3 kr rfl (Bc0 2 [(41,.i ((((mkTs k ((ers Ks).take i)).2)+3:Nat):Int))] 49 [.osl (2*a+1) 1 0 t.names.length,.i ((((mkTs k ((ers Ks).take i)).2)+3:Nat):Int)] 42 ?_)⟩⟩
 have hgn:hgt Z3 (2*a+1)=some (fl sc t.names):=hgt_perm hnd3 hr3 (by simp)
 refine XC.use (a:=fun i=>.osl i 1 0 t.names.length) (mkS_ok t.names ((mkTs k ((ers Ks).take i)).2+3) om om) hgn (fun r cs hr=>?_) om
 obtain⟨rfl,rfl⟩:=hr
 have hr4:=hset_perm (ds:=fl sc (mks ((mkTs k ((ers Ks).take i)).2+3) t.names)) hnd3 (hr3.trans (List.Perm.swap _ _ _))
 have hnd4:(ids (hset Z3 (2*a+1) (fl sc (mks ((mkTs k ((ers Ks).take i)).2+3) t.names)))).Nodup:=by rw[hset_ids];exact hnd3
 have hz4:odH (hset Z3 (2*a+1) (fl sc (mks ((mkTs k ((ers Ks).take i)).2+3) t.names))):=odH_hset hz3 (ods_flS _) hnd3
 generalize (hset Z3 (2*a+1) (fl sc (mks ((mkTs k ((ers Ks).take i)).2+3) t.names)))=Z4 at hr4 hnd4 hz4⊢
 have hg4:hgt Z4 (2*b+1)=some (A++[.bool (mdir (mkTs k ((ers Ks).take i)).2),.i (((mkTs k ((ers Ks).take i)).2+1:Nat):Int),.str (mtx ((mkTs k ((ers Ks).take i)).2+2)),.osl (2*a+1) 1 0 t.names.length,.osl (2*c+1) 5 0 t.kids.length]++B):=hgt_perm hnd4 hr4 (by simp)
 refine Ke (Fn0 [0,5] [(1,.i (((mkTs k ((ers Ks).take i)).2+3+t.names.length:Nat):Int))] (Rb (fun h=>Bn (Jn (hK7 h))) (Av1 (r:=.ptr (2*b+1) (0+i*5)) (v:=.ptr (2*b+1) A.length) 3 45 [(44,.i i),(43,.osl (2*b+1) 5 0 Ks.length)] (congrArg (AV.ptr _) hAl) ((5=5/\(0:Int)<=(i:Int)/\(i:Int)<(Ks.length:Int))/\·) ⟨⟨rfl,om,om⟩,An1 1 [(46,.ptr (2*b+1) (A.length+4))] (((1:Nat)≠0)/\·) ⟨dc,?_⟩⟩)))
 refine gelx (M:=[.bool (mdir (mkTs k ((ers Ks).take i)).2),.i (((mkTs k ((ers Ks).take i)).2+1:Nat):Int),.str (mtx ((mkTs k ((ers Ks).take i)).2+2)),.osl (2*a+1) 1 0 t.names.length,.osl (2*c+1) 5 0 t.kids.length]) rfl 47 40 (2*b+1) 4 (.osl (2*c+1) 5 0 t.kids.length) (fun J=>by kernel_rfl) hg4 kr rfl ?_
 refine Bc0 2 [(48,.i (((mkTs k ((ers Ks).take i)).2+3+t.names.length:Nat):Int))] 50 [.osl (2*c+1) 5 0 t.kids.length,.i (((mkTs k ((ers Ks).take i)).2+3+t.names.length:Nat):Int)] 49 ?_
 refine DC.use (ih (Tr.Ws (ers t.kids)) om t.kids ((mkTs k ((ers Ks).take i)).2+3+t.names.length) c (W:=(2*b+1,A++[.bool (mdir (mkTs k ((ers Ks).take i)).2),.i (((mkTs k ((ers Ks).take i)).2+1:Nat):Int),.str (mtx ((mkTs k ((ers Ks).take i)).2+2)),.osl (2*a+1) 1 0 t.names.length,.osl (2*c+1) 5 0 t.kids.length]++B)::(2*a+1,fl sc (mks ((mkTs k ((ers Ks).take i)).2+3) t.names))::W1) rfl hat.2 om hz4 (hr4.trans (prot _ _ _ _ _))) [] rfl trivial ?_
 rintro _ Z5 ⟨rfl,hp5,hz5⟩
 have hp6:=hro Z5 (by rw[(otc_mark hids).1,(otc_mark hids).2];simp only[otc,OT.dir_mk,OT.mode_mk,OT.data_mk,OT.ids_mk,OT.names_mk,OT.kids_mk,hids,sln,slk];exact hp5.trans (prot2 _ _ _ _ _))
 refine Ke (Fn0 [0,5] [(1,.i (((mkTs ((mkTs k ((ers Ks).take i)).2+3+t.names.length) (ers t.kids)).2:Nat):Int))] (Rn (Av1 2 11 [(10,.i i)] (cI (wn1 i om)) (Ki/\·) ⟨rfl,Gn0 [(5,.i ((i+1:Nat):Int))] ?_⟩)))
 refine nk_n (lsz_mk3 (i+1,Z5) [] 0 [(0,.osl (2*b+1) 5 0 Ks.length),(1,.i (((mkTs ((mkTs k ((ers Ks).take i)).2+3+t.names.length) (ers t.kids)).2:Nat):Int)),(5,.i ((i+1:Nat):Int))] [] [] Z5 ?_ ?_ ⟨kr,kr⟩ ⟨kr,kr,kr,trivial⟩ ⟨_,List.Perm.refl _,(List.Sublist.refl _)⟩ ⟨rfl,.inr ⟨kr,(show(2*b+1)%2=1 by omega)⟩,rfl,.inl ⟨by(try (rw[mkTs_tk (ers Ks) k i (by rw[ers_len];exact hil),ers_get,<-ht,mkT_eq,er_names,er_kids,<-ers_map]));kernel_rfl,by simp only[slF,slp,slps,go_sem,and_self]⟩,rfl,.inl ⟨kr,by simp only[slF,slp,slps,go_sem,and_self]⟩,trivial⟩ trivial kr hz5)
 (try dsimp only);omega
 refine⟨?_,rfl⟩;exact⟨hz5,hp6,om⟩
 refine Xt (Jx (Lsx (Bh (Jn (hK2 (Kp [1] (Rr (Fn0 [] [(4,.i (((mkTs k ((ers Ks).take i)).2:Nat):Int))] (Rt (.i (((mkTs k ((ers Ks).take i)).2:Nat):Int)) ?_)))))))))
 obtain rfl:i=Ks.length:=by omega
 rw[mrk_all]at hp
 refine fin_dc _ Z (List.Sublist.refl _) (lea_refl _) trivial hz ⟨?_,hp,hz⟩
 rw[show(ers Ks).take Ks.length=ers Ks by rw[<-ers_len Ks,List.take_length]]
def mk1 (k:Nat) (T:OT):OT:=.mk T.dir T.mode T.data T.ids (mks k T.names) (mkOs (k+T.names.length) T.kids)
theorem mkT_ok {Z W:Hp} {T:OT} {a c:Nat} (k:Nat) (hids:T.ids=some (a,c)) (ha:asms T.kids) (hk:k+3*(er T).W<2^40) (hz:odH Z) (hp:Z.Perm (objs T++W)):DC G 17 [.agg [.bool T.dir,.i T.mode,.str T.data,.osl (2*a+1) 1 0 T.names.length,.osl (2*c+1) 5 0 T.kids.length],.i k] Z (fun r Z'=>r=.i ((mkTs (k+T.names.length) (ers T.kids)).2:Int)/\Z'.Perm (objs (mk1 k T)++W)/\odH Z'):=by
 refine DC_nd fun hnd=>?_
 have hWe:=W_eq (er T)
 rw[er_names,er_kids,er_data,<-ers_map]at hWe
 have hnl:=wS_len T.names
 have hKm:=mkTs_le (ers T.kids) (k+T.names.length)
 rw[objs_ids hids]at hp
 refine h_dc (F:=[(0,.agg [.bool T.dir,.i T.mode,.str T.data,.osl (2*a+1) 1 0 T.names.length,.osl (2*c+1) 5 0 T.kids.length]),(1,.i k)]) ⟨⟨trivial,trivial,trivial,(show(2*a+1)%2=1 by omega),(show(2*c+1)%2=1 by omega),trivial⟩,trivial,trivial⟩ hz Tryz.func17 kr kr ?_ kr
 refine Rr (Fn2 [1] [(2,.ptr 0 0)] ([(0,[.bool T.dir,.i T.mode,.str T.data,.osl (2*a+1) 1 0 T.names.length,.osl (2*c+1) 5 0 T.kids.length])]++·) 4 (Rr (Bc1 4 [(7,.i k),(6,.osl (2*a+1) 1 0 T.names.length),(5,.ptr 0 3)] 49 [.osl (2*a+1) 1 0 T.names.length,.i k] 8 (((1:Nat)≠0)/\(3+1<=5/\3<5)/\·) ⟨dc,dc,?_⟩)))
 have hgnZ1:hgt Z (2*a+1)=some (fl sc T.names):=hgt_perm hnd hp (by simp)
 refine XC.use (a:=fun i=>.osl i 1 0 T.names.length) (mkS_ok T.names k om om) ((hgt_ev (E:=[(0,[.bool T.dir,.i T.mode,.str T.data,.osl (2*a+1) 1 0 T.names.length,.osl (2*c+1) 5 0 T.kids.length])]) ⟨rfl,trivial⟩ (show(2*a+1)%2=1 by omega)).trans hgnZ1) (fun r cs hr=>?_) om
 obtain⟨rfl,rfl⟩:=hr
 rw[show hset ([(0,[.bool T.dir,.i T.mode,.str T.data,.osl (2*a+1) 1 0 T.names.length,.osl (2*c+1) 5 0 T.kids.length])]++Z) (2*a+1) (fl sc (mks k T.names))=[(0,[.bool T.dir,.i T.mode,.str T.data,.osl (2*a+1) 1 0 T.names.length,.osl (2*c+1) 5 0 T.kids.length])]++(hset Z (2*a+1) (fl sc (mks k T.names)))from hset_ev (E:=[(0,[.bool T.dir,.i T.mode,.str T.data,.osl (2*a+1) 1 0 T.names.length,.osl (2*c+1) 5 0 T.kids.length])]) ⟨rfl,trivial⟩ (show(2*a+1)%2=1 by omega)]
 have hrZ1:=hset_perm (ds:=fl sc (mks k T.names)) hnd hp
 have hndZ1:(ids (hset Z (2*a+1) (fl sc (mks k T.names)))).Nodup:=by rw[hset_ids];exact hnd
 have hzZ1:odH (hset Z (2*a+1) (fl sc (mks k T.names))):=odH_hset hz (ods_flS _) hnd
 generalize (hset Z (2*a+1) (fl sc (mks k T.names)))=Z1 at hrZ1 hndZ1 hzZ1⊢
 refine Ke (Fn0 [2] [(1,.i ((k+T.names.length:Nat):Int))] (Rr (Bc1 4 [(11,.i ((k+T.names.length:Nat):Int)),(10,.osl (2*c+1) 5 0 T.kids.length),(9,.ptr 0 4)] 50 [.osl (2*c+1) 5 0 T.kids.length,.i ((k+T.names.length:Nat):Int)] 12 (((1:Nat)≠0)/\(4+1<=5/\4<5)/\·) ⟨dc,dc,DC.use (mkTs_ok _ T.kids (k+T.names.length) c (W:=(2*a+1,fl sc (mks k T.names))::W) rfl ha om hzZ1 (hrZ1.trans ((List.Perm.swap _ _ _).trans (List.Perm.cons _ (List.perm_middle (l₁:=objss T.kids)).symm)))) [(0,[.bool T.dir,.i T.mode,.str T.data,.osl (2*a+1) 1 0 T.names.length,.osl (2*c+1) 5 0 T.kids.length])] rfl ⟨rfl,trivial⟩ ?_⟩)))
 rintro _ Z2 ⟨rfl,hp2,hz2⟩
 refine Ke (Fn0 [] [(1,.i ((mkTs (k+T.names.length) (ers T.kids)).2:Int))] (Rr (Fn0 [] [(4,.i ((mkTs (k+T.names.length) (ers T.kids)).2:Int))] (Rt (.i ((mkTs (k+T.names.length) (ers T.kids)).2:Int)) ?_))))
 refine fin_dc _ Z2 (List.Sublist.cons _ (List.Sublist.refl _)) (lea_refl _) trivial hz2 ⟨rfl,?_,hz2⟩
 have e:objs (mk1 k T)=(2*a+1,fl sc (mks k T.names))::(2*c+1,fl otc (mkOs (k+T.names.length) T.kids))::objss (mkOs (k+T.names.length) T.kids):=by
   unfold mk1;rw[objs_eq];simp only[own,OT.ids_mk,hids,OT.names_mk,OT.kids_mk,List.cons_append,List.nil_append]
 rw[e]
 exact hp2.trans ((List.Perm.cons _ (List.perm_middle (l₁:=objss _))).trans (List.Perm.swap _ _ _))
theorem mkS0_ok (k:Nat):PE G 49 [.nils,.i k] (.i k):=by
 refine Pe Tryz.func49 ?_
 refine Rr (Fn0 [0,1] [] (Sq fun K2 hK2=>?_))
 refine Rr (Fn0 [0,1] [(5,.i 0)] (Bl (h_l (fun(u:Unit)=>([(0,.nils),(1,.i k),(5,.i 0)]:Fr)) (fun(u:Unit)=>([]:Hp)) (fun(u:Unit) cn=>(True)/\cn=0) (fun(u:Unit)=>0) () kr ?_ ?_ ?_ ?_)))
 refine⟨?_,rfl⟩;trivial
 exact⟨kr,kr,kr,trivial⟩
 exact(List.nil_sublist _)
 rintro u n1 hI
 (try dsimp only at hI)
 obtain⟨hu,rfl⟩:=hI
 refine Sq fun K4 hK4=>?_
 refine Rr (Fn1 [0,1,5] [(9,.bool false)] (Ki/\·) ⟨rfl,Cf (Xt (Jx (Lx (Bh (Jn (hK2 (Kp [1] (Rr ?_))))))))⟩)
 refine Fn0 [] [(4,.i k)] (Rt (.i k) ?_)
 exact fin_lea (lea_refl _)
theorem mkTs0_ok (k:Nat):PE G 50 [.nils,.i k] (.i k):=by
 refine Pe Tryz.func50 ?_
 refine Rr (Fn0 [0,1] [] (Sq fun K2 hK2=>?_))
 refine Rr (Fn0 [0,1] [(5,.i 0)] (Bl (h_l (fun(u:Unit)=>([(0,.nils),(1,.i k),(5,.i 0)]:Fr)) (fun(u:Unit)=>([]:Hp)) (fun(u:Unit) cn=>(True)/\cn=0) (fun(u:Unit)=>0) () kr ?_ ?_ ?_ ?_)))
 refine⟨?_,rfl⟩;trivial
 exact⟨kr,kr,kr,trivial⟩
 exact(List.nil_sublist _)
 rintro u n1 hI
 (try dsimp only at hI)
 obtain⟨hu,rfl⟩:=hI
 refine Sq fun K4 hK4=>?_
 refine Rr (Fn1 [0,1,5] [(9,.bool false)] (Ki/\·) ⟨rfl,Cf (Xt (Jx (Lx (Bh (Jn (hK2 (Kp [1] (Rr ?_))))))))⟩)
 refine Fn0 [] [(4,.i k)] (Rt (.i k) ?_)
 exact fin_lea (lea_refl _)
theorem mkT0_ok (k:Nat):PE G 17 [.agg zt,.i k] (.i k):=by
 refine Pe Tryz.func17 ?_
 refine Rr (Fn2 [1] [(2,.ptr 0 0)] ([(0,zt)]++·) 4 (Rr (Bc1 4 [(7,.i k),(6,.nils),(5,.ptr 0 3)] 49 [.nils,.i k] 8 (((1:Nat)≠0)/\(3+1<=5/\3<5)/\·) ⟨dc,dc,PE.use (mkS0_ok k) ?_⟩)))
 refine Ke (Fn0 [2] [(1,.i k)] (Rr (Bc1 4 [(11,.i k),(10,.nils),(9,.ptr 0 4)] 50 [.nils,.i k] 12 (((1:Nat)≠0)/\(4+1<=5/\4<5)/\·) ⟨dc,dc,PE.use (mkTs0_ok k) ?_⟩)))
 refine Ke (Fn0 [] [(1,.i k)] (Rr (Fn0 [] [(4,.i k)] (Rt (.i k) ?_))))
 exact fin_lea (lea_refl _)
theorem mkC_ok {Z W:Hp} {cc:Cl} {a c:Nat} (k:Nat) (hk:k+cc.path.length+cc.to.length<2^40) (hz:odH Z) (hp:Z.Perm ((2*a+1,fl sc cc.path)::((2*c+1,fl sc cc.to)::W))):DC G 18 [.agg [.i cc.kind,.osl (2*a+1) 1 0 cc.path.length,.osl (2*c+1) 1 0 cc.to.length,.i cc.at_,.str cc.data],.i k] Z (fun r Z'=>r=.i ((k+cc.path.length+cc.to.length:Nat):Int)/\Z'.Perm ((2*c+1,fl sc (mks (k+cc.path.length) cc.to))::((2*a+1,fl sc (mks k cc.path))::W))/\odH Z'):=by
 refine DC_nd fun hnd=>?_
 refine h_dc (F:=[(0,.agg [.i cc.kind,.osl (2*a+1) 1 0 cc.path.length,.osl (2*c+1) 1 0 cc.to.length,.i cc.at_,.str cc.data]),(1,.i k)]) ⟨⟨trivial,(show(2*a+1)%2=1 by omega),(show(2*c+1)%2=1 by omega),trivial,trivial,trivial⟩,trivial,trivial⟩ hz Tryz.func18 kr kr ?_ kr
 refine Rr (Fn2 [1] [(2,.ptr 0 0)] ([(0,[.i cc.kind,.osl (2*a+1) 1 0 cc.path.length,.osl (2*c+1) 1 0 cc.to.length,.i cc.at_,.str cc.data])]++·) 4 (Rr (Bc1 4 [(7,.i k),(6,.osl (2*a+1) 1 0 cc.path.length),(5,.ptr 0 1)] 49 [.osl (2*a+1) 1 0 cc.path.length,.i k] 8 (((1:Nat)≠0)/\(1+1<=5/\1<5)/\·) ⟨dc,dc,?_⟩)))
 have hgnZ1:hgt Z (2*a+1)=some (fl sc cc.path):=hgt_perm hnd hp (by simp)
 refine XC.use (a:=fun i=>.osl i 1 0 cc.path.length) (mkS_ok cc.path k om om) ((hgt_ev (E:=[(0,[.i cc.kind,.osl (2*a+1) 1 0 cc.path.length,.osl (2*c+1) 1 0 cc.to.length,.i cc.at_,.str cc.data])]) ⟨rfl,trivial⟩ (show(2*a+1)%2=1 by omega)).trans hgnZ1) (fun r cs hr=>?_) om
 obtain⟨rfl,rfl⟩:=hr
 rw[show hset ([(0,[.i cc.kind,.osl (2*a+1) 1 0 cc.path.length,.osl (2*c+1) 1 0 cc.to.length,.i cc.at_,.str cc.data])]++Z) (2*a+1) (fl sc (mks k cc.path))=[(0,[.i cc.kind,.osl (2*a+1) 1 0 cc.path.length,.osl (2*c+1) 1 0 cc.to.length,.i cc.at_,.str cc.data])]++(hset Z (2*a+1) (fl sc (mks k cc.path)))from hset_ev (E:=[(0,[.i cc.kind,.osl (2*a+1) 1 0 cc.path.length,.osl (2*c+1) 1 0 cc.to.length,.i cc.at_,.str cc.data])]) ⟨rfl,trivial⟩ (show(2*a+1)%2=1 by omega)]
 have hrZ1:=hset_perm (ds:=fl sc (mks k cc.path)) hnd hp
 have hndZ1:(ids (hset Z (2*a+1) (fl sc (mks k cc.path)))).Nodup:=by rw[hset_ids];exact hnd
 have hzZ1:odH (hset Z (2*a+1) (fl sc (mks k cc.path))):=odH_hset hz (ods_flS _) hnd
 generalize (hset Z (2*a+1) (fl sc (mks k cc.path)))=Z1 at hrZ1 hndZ1 hzZ1⊢
 refine Ke (Fn0 [2] [(1,.i ((k+cc.path.length:Nat):Int))] (Rr (Bc1 4 [(11,.i ((k+cc.path.length:Nat):Int)),(10,.osl (2*c+1) 1 0 cc.to.length),(9,.ptr 0 2)] 49 [.osl (2*c+1) 1 0 cc.to.length,.i ((k+cc.path.length:Nat):Int)] 12 (((1:Nat)≠0)/\(2+1<=5/\2<5)/\·) ⟨dc,dc,?_⟩)))
 have hgnZ2:hgt Z1 (2*c+1)=some (fl sc cc.to):=hgt_perm hndZ1 (hrZ1.trans (List.Perm.swap _ _ _)) (by simp)
 refine XC.use (a:=fun i=>.osl i 1 0 cc.to.length) (mkS_ok cc.to (k+cc.path.length) om om) ((hgt_ev (E:=[(0,[.i cc.kind,.osl (2*a+1) 1 0 cc.path.length,.osl (2*c+1) 1 0 cc.to.length,.i cc.at_,.str cc.data])]) ⟨rfl,trivial⟩ (show(2*c+1)%2=1 by omega)).trans hgnZ2) (fun r cs hr=>?_) om
 obtain⟨rfl,rfl⟩:=hr
 rw[show hset ([(0,[.i cc.kind,.osl (2*a+1) 1 0 cc.path.length,.osl (2*c+1) 1 0 cc.to.length,.i cc.at_,.str cc.data])]++Z1) (2*c+1) (fl sc (mks (k+cc.path.length) cc.to))=[(0,[.i cc.kind,.osl (2*a+1) 1 0 cc.path.length,.osl (2*c+1) 1 0 cc.to.length,.i cc.at_,.str cc.data])]++(hset Z1 (2*c+1) (fl sc (mks (k+cc.path.length) cc.to)))from hset_ev (E:=[(0,[.i cc.kind,.osl (2*a+1) 1 0 cc.path.length,.osl (2*c+1) 1 0 cc.to.length,.i cc.at_,.str cc.data])]) ⟨rfl,trivial⟩ (show(2*c+1)%2=1 by omega)]
 have hrZ2:=hset_perm (ds:=fl sc (mks (k+cc.path.length) cc.to)) hndZ1 (hrZ1.trans (List.Perm.swap _ _ _))
 have hndZ2:(ids (hset Z1 (2*c+1) (fl sc (mks (k+cc.path.length) cc.to)))).Nodup:=by rw[hset_ids];exact hndZ1
 have hzZ2:odH (hset Z1 (2*c+1) (fl sc (mks (k+cc.path.length) cc.to))):=odH_hset hzZ1 (ods_flS _) hndZ1
 generalize (hset Z1 (2*c+1) (fl sc (mks (k+cc.path.length) cc.to)))=Z2 at hrZ2 hndZ2 hzZ2⊢
 refine Ke (Fn0 [] [(1,.i ((k+cc.path.length+cc.to.length:Nat):Int))] (Rr (Fn0 [] [(4,.i ((k+cc.path.length+cc.to.length:Nat):Int))] (Rt (.i ((k+cc.path.length+cc.to.length:Nat):Int)) ?_))))
 exact fin_dc _ Z2 (List.Sublist.cons _ (List.Sublist.refl _)) (lea_refl _) trivial hzZ2 ⟨rfl,hrZ2,hzZ2⟩
def mkOM:Nat->List OM->List OM
  |_,[]=>[]
  |k,m::l=>⟨mks k m.path,mdir (k+m.path.length),m.id⟩::mkOM (k+m.path.length+1) l
theorem mkOM_len:∀(l:List OM) (k:Nat),(mkOM k l).length=l.length
  |[],_=>rfl
  |m::l,k=>by simp only[mkOM,List.length_cons,mkOM_len l]
theorem mkOM_er:∀(l:List OM) (k:Nat),(mkOM k l).map erM=(mkMs k (l.map erM)).1
  |[],_=>rfl
  |m::l,k=>by
    have:=mkOM_er l (k+m.path.length+1)
    simp only[mkOM,List.map_cons,mkMs]
    rw[this];rfl
theorem mkOM_id:∀(l:List OM) (k:Nat),(∀m∈l,m.id.isSome=true)->∀m∈mkOM k l,m.id.isSome=true
  |[],_,_,m,h=>by simp[mkOM]at h
  |x::l,k,hs,m,h=>by
    simp only[mkOM,List.mem_cons]at h
    rcases h with rfl|h
    · exact hs x (by simp)
    · exact mkOM_id l _ (fun y hy=>hs y (by simp[hy])) m h
theorem mkOM_snoc:∀(l:List OM) (x:OM) (k:Nat),mkOM k (l++[x])=mkOM k l++[⟨mks (mkMs k (l.map erM)).2 x.path,mdir ((mkMs k (l.map erM)).2+x.path.length),x.id⟩]
  |[],x,k=>rfl
  |m::l,x,k=>by
    rw[List.cons_append,mkOM,mkOM_snoc l x,mkOM,List.map_cons,mkMs];rfl
def mrkM_ (k i:Nat) (Ms:List OM):List OM:=mkOM k (Ms.take i)++Ms.drop i
def mkm1 (k i:Nat) (Ms:List OM) (m:OM):OM:=⟨mks (mkMs k ((Ms.map erM).take i)).2 m.path,mdir ((mkMs k ((Ms.map erM).take i)).2+m.path.length),m.id⟩
theorem mrkM_split (k i:Nat) (Ms:List OM) (h:i<Ms.length):mrkM_ k i Ms=mkOM k (Ms.take i)++(Ms.getD i default::Ms.drop (i+1)):=by
  unfold mrkM_;rw[List.drop_eq_getElem_cons h];simp[List.getD,h]
theorem mrkM_next (k i:Nat) (Ms:List OM) (h:i<Ms.length):mrkM_ k (i+1) Ms=mkOM k (Ms.take i)++(mkm1 k i Ms (Ms.getD i default)::Ms.drop (i+1)):=by
  unfold mrkM_ mkm1;rw[take_snoc Ms i default h,mkOM_snoc,List.map_take,List.append_assoc];rfl
theorem mrkM_0 (k:Nat) (Ms:List OM):mrkM_ k 0 Ms=Ms:=by simp[mrkM_,mkOM]
theorem mrkM_all (k:Nat) (Ms:List OM):mrkM_ k Ms.length Ms=mkOM k Ms:=by simp[mrkM_]
theorem omos_mid (A B:List OM) (t:OM):(omos (A++(t::B))).Perm (omo t++(omos A++omos B)):=by
  rw[omos_app]
  simp only[omos]
  rw[<-List.append_assoc,<-List.append_assoc]
  exact List.perm_append_comm.append_right _
theorem flM_mid (A B:List OM) (t:OM):fl omc (A++(t::B))=fl omc A++omc t++fl omc B:=by
  rw[fl_app,show t::B=[t]++B from rfl,fl_app,fl_one,List.append_assoc]
theorem rowM_in {Z W:Hp} {b k i:Nat} {Ms:List OM} (h:i<Ms.length) (hp:Z.Perm ((2*b+1,fl omc (mrkM_ k i Ms))::(omos (mrkM_ k i Ms)++W))):
    Z.Perm ((2*b+1,fl omc (mkOM k (Ms.take i))++omc (Ms.getD i default)++fl omc (Ms.drop (i+1)))::(omo (Ms.getD i default)++(omos (mkOM k (Ms.take i))++omos (Ms.drop (i+1))++W))):=by
  rw[mrkM_split k i Ms h,flM_mid]at hp
  refine hp.trans (List.Perm.cons _ ?_)
  rw[<-List.append_assoc (omo _)]
  exact(omos_mid _ _ _).append_right W
theorem rowM_out {Z W:Hp} {b k i:Nat} {Ms:List OM} (h:i<Ms.length)
    (hp:Z.Perm ((2*b+1,fl omc (mkOM k (Ms.take i))++omc (mkm1 k i Ms (Ms.getD i default))++fl omc (Ms.drop (i+1)))::(omo (mkm1 k i Ms (Ms.getD i default))++(omos (mkOM k (Ms.take i))++omos (Ms.drop (i+1))++W)))):
    Z.Perm ((2*b+1,fl omc (mrkM_ k (i+1) Ms))::(omos (mrkM_ k (i+1) Ms)++W)):=by
  rw[mrkM_next k i Ms h,flM_mid]
  refine hp.trans (List.Perm.cons _ ?_)
  rw[<-List.append_assoc (omo _)]
  exact((omos_mid _ _ _).append_right W).symm
theorem omc_mark {m:OM} {Ms:List OM} {k i a:Nat} (hi:m.id=some a):omc (mkm1 k i Ms m)=[.osl (2*a+1) 1 0 m.path.length,.bool (mdir ((mkMs k ((Ms.map erM).take i)).2+m.path.length))]/\omo (mkm1 k i Ms m)=[(2*a+1,fl sc (mks (mkMs k ((Ms.map erM).take i)).2 m.path))]:=by
  unfold mkm1
  exact⟨by simp only[omc,hi,slo,mks_len],by simp only[omo,hi]⟩
theorem erM_get (l:List OM) (i:Nat):(l.map erM).getD i default=erM (l.getD i default):=by
  simp only[List.getD,List.getElem?_map]
  cases l[i]?<;>rfl
set_option maxHeartbeats 2000000 in
theorem mkMs_ok (Ms:List OM) (k b:Nat) {Z W:Hp} (h2:∀m∈Ms,m.id.isSome=true) (hk:k+wM (Ms.map erM)<2^40) (hz:odH Z) (hp:Z.Perm ((2*b+1,fl omc Ms)::(omos Ms++W))):DC G 25 [.osl (2*b+1) 2 0 Ms.length,.i k] Z (fun r Z'=>r=.i ((mkMs k (Ms.map erM)).2:Int)/\Z'.Perm ((2*b+1,fl omc (mkOM k Ms))::(omos (mkOM k Ms)++W))/\odH Z'):=by
 refine DC_nd fun hnd=>?_
 have hks:=wM_len (Ms.map erM);rw[List.length_map]at hks;clear hnd
 refine h_dc (F:=[(0,.osl (2*b+1) 2 0 Ms.length),(1,.i k)]) ⟨(show(2*b+1)%2=1 by omega),trivial,trivial⟩ hz Tryz.func25 kr kr ?_ kr
 refine Rr (Fn0 [0,1] [] (Sq fun K2 hK2=>?_))
 refine Rr (Fn0 [0,1] [(5,.i 0)] (Bl (h_ls (fun(x:Nat×Hp)=>(match x with|(i,Z)=>([(0,.osl (2*b+1) 2 0 Ms.length),(1,.i (((mkMs k ((Ms.map erM).take i)).2:Nat):Int)),(5,.i i)]:Fr))) (fun(x:Nat×Hp)=>(match x with|(i,Z)=>(Z:Hp))) (fun(x:Nat×Hp) cn=>(match x with|(i,Z)=>(odH Z/\Z.Perm ((2*b+1,fl omc (mrkM_ k i Ms))::(omos (mrkM_ k i Ms)++W))/\i<=Ms.length)/\cn=0)) (fun(x:Nat×Hp)=>Ms.length-x.1) (0,Z) kr ?_ ?_ ?_ ?_)))
 refine⟨?_,rfl⟩;exact⟨hz,by rw[mrkM_0];exact hp,Nat.zero_le _⟩
 exact⟨kr,kr,kr,trivial⟩
 exact(List.Sublist.refl _)
 rintro⟨i,Z⟩ n1 hI
 (try dsimp only at hI)
 obtain⟨⟨hz,hp,hi1⟩,rfl⟩:=hI
 refine Sq fun K4 hK4=>?_
 refine Rr (Cn1 (decide ((i:Int)<(Ms.length:Int))) [0,1,5] [] (Ki/\·) ⟨rfl,fun hc6 c6=>?_,fun hc6 c6=>?_⟩)
 refine Sk (Jn (hK4 (Kp [0,1,5] (Sq fun K7 hK7=>?_))))
 refine Bl ?_
 have hil:i<Ms.length:=by omega
 refine TT_nd fun hnd=>?_
 obtain⟨m,ht⟩:∃m,m=Ms.getD i default:=⟨_,rfl⟩
 obtain⟨a,hids⟩:=Option.isSome_iff_exists.1 (h2 m (by rw[ht];exact getD_mem Ms i default hil))
 have hr0:=rowM_in hil hp
 have hAl:0+i*2=(fl omc (mkOM k (Ms.take i))).length:=by rw[flOMl,mkOM_len,List.length_take];omega
 have hro:=fun Z'=>rowM_out (Z:=Z') (W:=W) (b:=b) (k:=k) hil
 rw[<-ht]at hr0 hro
 generalize fl omc (mkOM k (Ms.take i))=A at hr0 hAl hro
 generalize fl omc (Ms.drop (i+1))=B at hr0 hro
 generalize omos (mkOM k (Ms.take i))++omos (Ms.drop (i+1))++W=W1 at hr0 hro
 rw[show omo m=[(2*a+1,fl sc m.path)] by unfold omo;rw[hids],show omc m=[.osl (2*a+1) 1 0 m.path.length,.bool m.sub] by simp only[omc,hids];rfl]at hr0
 have hg0:hgt Z (2*b+1)=some (A++[.osl (2*a+1) 1 0 m.path.length,.bool m.sub]++B):=hgt_perm hnd hr0 (by simp)
 have hmt:(mkMs k ((Ms.map erM).take (i+1))).2=(mkMs k ((Ms.map erM).take i)).2+m.path.length+1:=by
   rw[mkMs_tk _ _ _ (by rw[List.length_map];exact hil),erM_get,<-ht];rfl
 have hKm:=mkMs_mono (Ms.map erM) k (i+1) lmo
 rw[hmt]at hKm
 refine Rr (Av1 (r:=.ptr (2*b+1) (0+i*2)) (v:=.ptr (2*b+1) A.length) 3 14 [(13,.i i),(12,.osl (2*b+1) 2 0 Ms.length)] (congrArg (AV.ptr _) hAl) ((2=2/\(0:Int)<=(i:Int)/\(i:Int)<(Ms.length:Int))/\·) ⟨⟨rfl,om,om⟩,An1 1 [(15,.ptr (2*b+1) A.length)] (((1:Nat)≠0)/\·) ⟨dc,gelx (M:=[.osl (2*a+1) 1 0 m.path.length,.bool m.sub]) rfl 16 25 (2*b+1) 0 (.osl (2*a+1) 1 0 m.path.length) (fun J=>by kernel_rfl) hg0 kr rfl (Bc0 2 [(17,.i (((mkMs k ((Ms.map erM).take i)).2:Nat):Int))] 49 [.osl (2*a+1) 1 0 m.path.length,.i (((mkMs k ((Ms.map erM).take i)).2:Nat):Int)] 18 ?_)⟩⟩)
 have hgn:hgt Z (2*a+1)=some (fl sc m.path):=hgt_perm hnd hr0 (by simp)
 refine XC.use (a:=fun i=>.osl i 1 0 m.path.length) (mkS_ok m.path (mkMs k ((Ms.map erM).take i)).2 om om) hgn (fun r cs hr=>?_) om
 obtain⟨rfl,rfl⟩:=hr
 have hr1:=hset_perm (ds:=fl sc (mks (mkMs k ((Ms.map erM).take i)).2 m.path)) hnd (hr0.trans (List.Perm.swap _ _ _))
 have hnd1:(ids (hset Z (2*a+1) (fl sc (mks (mkMs k ((Ms.map erM).take i)).2 m.path)))).Nodup:=by rw[hset_ids];exact hnd
 have hz1:odH (hset Z (2*a+1) (fl sc (mks (mkMs k ((Ms.map erM).take i)).2 m.path))):=odH_hset hz (ods_flS _) hnd
 generalize (hset Z (2*a+1) (fl sc (mks (mkMs k ((Ms.map erM).take i)).2 m.path)))=Z1 at hr1 hnd1 hz1⊢
 have hg1:hgt Z1 (2*b+1)=some (A++[.osl (2*a+1) 1 0 m.path.length,.bool m.sub]++B):=hgt_perm hnd1 hr1 (by simp)
 refine Ke (Fn0 [0,5] [(1,.i (((mkMs k ((Ms.map erM).take i)).2+m.path.length:Nat):Int))] (Rr ?_))
 have hm10:=Nat.mod_lt ((mkMs k ((Ms.map erM).take i)).2+m.path.length) (show 0<3 by omega)
 refine Av1 4 22 [(21,.i (((mkMs k ((Ms.map erM).take i)).2+m.path.length:Nat):Int)),(20,.i i),(19,.osl (2*b+1) 2 0 Ms.length)] (cI (nmod ((mkMs k ((Ms.map erM).take i)).2+m.path.length) 3)) ((IntKind.i64=IntKind.i64/\(3:Int)≠0)/\·) ⟨⟨rfl,om⟩,Av1 (r:=.ptr (2*b+1) (0+i*2)) (v:=.ptr (2*b+1) A.length) 2 24 [(23,.bool (decide (((((mkMs k ((Ms.map erM).take i)).2+m.path.length)%3:Nat):Int)=0)))] (congrArg (AV.ptr _) hAl) (Ki/\(2=2/\(0:Int)<=(i:Int)/\(i:Int)<(Ms.length:Int))/\·) ⟨rfl,⟨rfl,om,om⟩,An1 1 [(25,.ptr (2*b+1) (A.length+1))] (((1:Nat)≠0)/\·) ⟨dc,gesx (M:=[.osl (2*a+1) 1 0 m.path.length,.bool m.sub]) rfl 4 (2*b+1) 1 (.bool (decide (((((mkMs k ((Ms.map erM).take i)).2+m.path.length)%3:Nat):Int)=0))) [.osl (2*a+1) 1 0 m.path.length,.bool (mdir ((mkMs k ((Ms.map erM).take i)).2+m.path.length))] (hset Z1 (2*b+1) (A++[.osl (2*a+1) 1 0 m.path.length,.bool (mdir ((mkMs k ((Ms.map erM).take i)).2+m.path.length))]++B)) (fun J=>by kernel_rfl) hg1 kr rfl rfl rfl ?_⟩⟩⟩
 have hr2:=hset_perm (ds:=A++[.osl (2*a+1) 1 0 m.path.length,.bool (mdir ((mkMs k ((Ms.map erM).take i)).2+m.path.length))]++B) hnd1 (hr1.trans (List.Perm.swap _ _ _))
 have hz2:odH (hset Z1 (2*b+1) (A++[.osl (2*a+1) 1 0 m.path.length,.bool (mdir ((mkMs k ((Ms.map erM).take i)).2+m.path.length))]++B)):=odH_hset hz1 (odMid hz1 (hr1.trans (List.Perm.swap _ _ _)) ⟨(show(2*a+1)%2=1 by omega),trivial,trivial⟩) hnd1
 generalize (hset Z1 (2*b+1) (A++[.osl (2*a+1) 1 0 m.path.length,.bool (mdir ((mkMs k ((Ms.map erM).take i)).2+m.path.length))]++B))=Z2 at hr2 hz2⊢
 have hp6:=hro Z2 (by rw[(omc_mark hids).1,(omc_mark hids).2];exact hr2)
 refine Fn0 [0,1,5] [] (Rb (fun h=>Bn (Jn (hK7 h))) (Av1 2 27 [(26,.i (((mkMs k ((Ms.map erM).take i)).2+m.path.length:Nat):Int))] (cI (wn1 ((mkMs k ((Ms.map erM).take i)).2+m.path.length) om)) (Ki/\·) ⟨rfl,Fn0 [0,5] [(1,.i ((((mkMs k ((Ms.map erM).take i)).2+m.path.length)+1:Nat):Int))] (Rn ?_)⟩))
 refine Av1 2 11 [(10,.i i)] (cI (wn1 i om)) (Ki/\·) ⟨rfl,Gn0 [(5,.i ((i+1:Nat):Int))] (nk_n (lsz_mk3 (i+1,Z2) [] 0 [(0,.osl (2*b+1) 2 0 Ms.length),(1,.i ((((mkMs k ((Ms.map erM).take i)).2+m.path.length)+1:Nat):Int)),(5,.i ((i+1:Nat):Int))] [] [] Z2 ?_ ?_ ⟨kr,kr⟩ ⟨kr,kr,kr,trivial⟩ ⟨_,List.Perm.refl _,(List.Sublist.refl _)⟩ ⟨rfl,.inr ⟨kr,(show(2*b+1)%2=1 by omega)⟩,rfl,.inl ⟨by(try (rw[hmt]));kernel_rfl,by simp only[slF,slp,slps,go_sem,and_self]⟩,rfl,.inl ⟨kr,by simp only[slF,slp,slps,go_sem,and_self]⟩,trivial⟩ trivial kr hz2))⟩
 (try dsimp only);omega
 refine⟨?_,rfl⟩;exact⟨hz2,hp6,om⟩
 refine Xt (Jx (Lsx (Bh (Jn (hK2 (Kp [1] (Rr (Fn0 [] [(4,.i (((mkMs k ((Ms.map erM).take i)).2:Nat):Int))] (Rt (.i (((mkMs k ((Ms.map erM).take i)).2:Nat):Int)) ?_)))))))))
 obtain rfl:i=Ms.length:=by omega
 rw[mrkM_all]at hp
 refine fin_dc _ Z (List.Sublist.refl _) (lea_refl _) trivial hz ⟨?_,hp,hz⟩
 rw[show(Ms.map erM).take Ms.length=Ms.map erM by rw[<-List.length_map (f:=erM),List.take_length]]
open Go Go.Proofs
set_option maxRecDepth 100000
theorem slps_om (Ms:List OM) (i n:Nat) (b:Bool):slps (fl omc Ms++[.osl i 1 0 n,.bool b]):=by
  induction Ms with
  |nil=>exact⟨trivial,trivial,trivial⟩
  |cons m l ih=>
    obtain⟨p,s,o⟩:=m
    cases o<;>exact⟨trivial,trivial,ih⟩
theorem r1s_om (Ms:List OM) (i:Nat) (p:List Str) (b:Bool) (j:Nat) (hi:i%2=0):r1s i (2*j+1) (fl omc Ms++[.osl i 1 0 p.length,.bool b])=fl omc (Ms++[⟨p,b,some j⟩]):=by
  induction Ms with
  |nil=>simp[fl,r1s,r1,omc,slo]
  |cons m l ih=>
    have e1:fl omc (m::l)=omc m++fl omc l:=by simp[fl]
    have e2:fl omc (m::l++[⟨p,b,some j⟩])=omc m++fl omc (l++[⟨p,b,some j⟩]):=by simp[fl]
    rw[e1,e2,List.append_assoc]
    obtain⟨q,s,o⟩:=m
    cases o with
    |none=>simp only[omc,slo,List.cons_append,List.nil_append,r1s,r1,ih]
    |some a=>
      have:Nat.beq (2*a+1) i=false:=nbq om
      simp only[omc,slo,List.cons_append,List.nil_append,r1s,r1,ih,this,cond_false]
theorem omos_pr (Ms:List OM) (x:Nat×List AV) {M:OM} (h:omo M=[x]:=by rfl):(omos (Ms++[M])).Perm (x::omos Ms):=by
  rw[omos_app];simp only[omos,h,List.append_nil]
  exact List.perm_append_comm
theorem cloneMd_ok (l:List Mk) (hl:∀m∈l,wS m.path<2^40) (hn:l.length<2^21):DC G 60 [.sl 2 (l.map mkc)] [] (MR l):=by
 refine DC_nd fun hnd=>?_
 refine h_dc (F:=[(0,.sl 2 (l.map mkc))]) ⟨puress_mk l,trivial⟩ trivial Tryz.func60 kr kr ?_ kr
 refine Rr (Fn0 [0] [] (Rr (Fn3 [0] [(3,.osl 0 2 0 0)] ([(0,[])]++·) 4 ((0*2<=16777216)/\·) ⟨dc,Sq fun K3 hK3=>?_⟩)))
 refine Rr (Av0 2 8 [(7,.sl 2 (l.map mkc))] (lnm l mkc) (Fn0 [3,7,8] [(9,.i 0)] (Bl (h_ls (fun(x:Nat×List OM)=>(match x with|(k,Ms)=>([(3,.osl 0 2 0 Ms.length),(7,.sl 2 (l.map mkc)),(8,.i l.length),(9,.i k)]:Fr))) (fun(x:Nat×List OM)=>(match x with|(k,Ms)=>(((0,fl omc Ms)::(omos Ms)):Hp))) (fun(x:Nat×List OM) cn=>(match x with|(k,Ms)=>(Ms.map erM=l.take k/\(∀m,m∈Ms->m.id.isSome=true)/\k<=l.length)/\cn=4)) (fun(x:Nat×List OM)=>l.length-x.1) (0,[]) kr ?_ ?_ ?_ ?_))))
 refine⟨?_,rfl⟩;exact⟨rfl,fun m hm=>(by simp at hm),Nat.zero_le _⟩
 exact⟨kr,kr,kr,kr,trivial⟩
 exact(sub_c kr (List.Sublist.refl _))
 rintro⟨k,Ms⟩ n1 hI
 (try dsimp only at hI)
 obtain⟨⟨h1,h2,hk⟩,rfl⟩:=hI
 have hkl:Ms.length=k:=by have:=congrArg List.length h1;rw[List.length_map,tkl hk]at this;exact this
 refine Rr (Fn1 [3,7,8,9] [(10,.bool (decide ((k:Int)<(l.length:Int))))] (Ki/\·) ⟨rfl,Sq fun K6 hK6=>?_⟩)
 refine Cc (decide ((k:Int)<(l.length:Int))) (fun hc7 c7=>?_) fun hc7 c7=>?_
 refine Sk (Jn (hK6 (Kp [3,7,8,9] (Sq fun K8 hK8=>?_))))
 refine Bl (Rr (Av1 1 11 [] (congrArg AV.pat (mg_mk l k om)) ((2=2/\(0:Int)<=(k:Int)/\(k:Int)<((l.map mkc).length:Int))/\·) ⟨⟨rfl,om,lmo⟩,Fn3 [3,7,8,9] [(5,.ptr 4 0)] ([(4,mkc (l.getD k default))]++·) 8 ((2<=2/\0<2)/\(true=true/\2=2/\0+2<=2)/\·) ⟨dc,dc,?_⟩⟩))
 have hgm:=hl _ (getD_mem l k default om);have hgl:=wS_len (l.getD k default).path
 refine Qlb [0,0,0,4,14,0,32,126,254,511] [(0,[]),(2,[]),(3,[]),(5,[]),(6,[]),(1,[3,6]),(4,[6]),(7,[]),(8,[]),(9,[])] (fun h=>Bn (Jn (hK8 h))) ?_
 refine qAn3 7 [(17,.osl 12 1 0 (0+(((l.getD k default).path).map (fun s=>[AV.str s])).length)),(14,.osl 8 1 0 0),(19,.bool ((l.getD k default).sub)),(18,.ptr 4 1),(16,pth ((l.getD k default).path)),(15,.ptr 4 0),(13,.osl 0 2 0 Ms.length)] ([(12,apd [] (0*1) ((((l.getD k default).path).map (fun s=>[AV.str s])).flatten))]++·) 16 (fun Z=>((1:Nat)≠0)/\(0+1<=2/\0<2)/\((1:Nat)≠0)/\(1+1<=2/\1<2)/\(0*1<=16777216)/\(((0+1<=2/\0<2)/\(pth ((l.getD k default).path)=pth ((l.getD k default).path)))/\((1+1<=2/\1<2)/\(AV.bool ((l.getD k default).sub)=(.bool ((l.getD k default).sub):AV)))/\True)/\True/\(1=1/\0*1<=0/\0<16/\(0+(((l.getD k default).path).map (fun s=>[AV.str s])).length)*16<=140737488355328)/\(((1+1<=2/\1<2)/\(AV.bool ((l.getD k default).sub)=(.bool ((l.getD k default).sub):AV)))/\True)/\Z) ⟨dc,dc,dc,dc,dc,⟨⟨dc,rfl⟩,⟨dc,rfl⟩,trivial⟩,trivial,⟨rfl,gl,dc,gl⟩,⟨⟨dc,rfl⟩,trivial⟩,runq_v (v':=.osl 12 1 0 (((l.getD k default).path).length)) (by rw[Nat.zero_add,List.length_map]) (runq_h (cs':=fl sc ((l.getD k default).path)) (app0_str _) (qAn3 3 [(22,.osl 20 2 0 (Ms.length+1)),(21,.osl 16 2 0 1),(20,.agg [.osl 12 1 0 (((l.getD k default).path).length),.bool ((l.getD k default).sub)])] (fun _=>((20,apd (fl omc Ms) (Ms.length*2) ((([.osl 12 1 0 (((l.getD k default).path).length),.bool ((l.getD k default).sub)]:List AV).drop 0).take (1*2)))::(16,[.osl 12 1 0 (((l.getD k default).path).length),.bool ((l.getD k default).sub)])::(12,fl sc ((l.getD k default).path))::(4,mkc (l.getD k default))::(omos Ms))) 24 ((1*2<=16777216)/\(True)/\(0+1*2<=([.osl 12 1 0 (((l.getD k default).path).length),.bool ((l.getD k default).sub)]:List AV).length)/\(2=2/\Ms.length*2<=(fl omc Ms).length/\0<32/\(Ms.length+1)*32<=140737488355328)/\(True)/\·) ⟨dc,trivial,(by first|decide|simp),⟨rfl,by(first|omega|(simp only[LL,flOMl];omega)),dc,by(first|omega|(simp only[LL,flOMl];omega))⟩,trivial,runq_H (H':=((20,fl omc Ms++[.osl 12 1 0 (((l.getD k default).path).length),.bool ((l.getD k default).sub)])::(16,[.osl 12 1 0 (((l.getD k default).path).length),.bool ((l.getD k default).sub)])::(12,fl sc ((l.getD k default).path))::(4,mkc (l.getD k default))::(omos Ms))) (by rw[show apd (fl omc Ms) (Ms.length*2) ((([.osl 12 1 0 (((l.getD k default).path).length),.bool ((l.getD k default).sub)]:List AV).drop 0).take (1*2))=fl omc Ms++[.osl 12 1 0 (((l.getD k default).path).length),.bool ((l.getD k default).sub)]from(by unfold apd;rw[fl_full omc_len Ms rfl];rfl)]) ?_⟩))⟩
 refine qGn0 [] (Lo 3 (.osl 20 2 0 (Ms.length+1)) (fun Z=>Z) (Cfi [3,7,8,9] (h_k [3,7,8,9] (F':=[(3,.osl 20 2 0 (Ms.length+1)),(7,.sl 2 (l.map mkc)),(8,.i l.length),(9,.i k)]) kr (Hn ((20,fl omc Ms++[.osl 12 1 0 (((l.getD k default).path).length),.bool ((l.getD k default).sub)])::(16,[.osl 12 1 0 (((l.getD k default).path).length),.bool ((l.getD k default).sub)])::(12,fl sc ((l.getD k default).path))::(4,mkc (l.getD k default))::(omos Ms)) ?_))))
 refine h_pm (H':=((20,fl omc Ms++[.osl 12 1 0 (((l.getD k default).path).length),.bool ((l.getD k default).sub)])::(16,[.osl 12 1 0 (((l.getD k default).path).length),.bool ((l.getD k default).sub)])::(4,mkc (l.getD k default))::(12,fl sc ((l.getD k default).path))::(omos Ms))) (List.Perm.cons _ (List.Perm.cons _ (List.Perm.swap _ _ _))) ?_
 refine h_odd (F:=[(3,.osl 20 2 0 (Ms.length+1)),(7,.sl 2 (l.map mkc)),(8,.i l.length),(9,.i k)]) (Z:=omos Ms) (H:=[(20,fl omc Ms++[.osl 12 1 0 (((l.getD k default).path).length),.bool ((l.getD k default).sub)]),(16,[.osl 12 1 0 (((l.getD k default).path).length),.bool ((l.getD k default).sub)]),(4,mkc (l.getD k default)),(12,fl sc ((l.getD k default).path))]) 12 (fun jm=>[(3,.osl 20 2 0 (Ms.length+1)),(7,.sl 2 (l.map mkc)),(8,.i l.length),(9,.i k)]) (fun jm=>[(20,fl omc (Ms++[OM.mk ((l.getD k default).path) ((l.getD k default).sub) (some jm)])),(16,[.osl (2*jm+1) 1 0 (((l.getD k default).path).length),.bool ((l.getD k default).sub)]),(4,[pth ((l.getD k default).path),.bool ((l.getD k default).sub)]),((2*jm+1),fl sc ((l.getD k default).path))]) kr (odH_omos Ms) (fun jm=>⟨by simp only[slF,slp,slps,go_sem,and_self],kr⟩) (fun jm=>⟨rfl,.inr ⟨slps_om Ms _ _ _,r1s_om Ms 12 ((l.getD k default).path) ((l.getD k default).sub)  jm dc⟩,rfl,.inr ⟨by simp only[slps,slp,go_sem,and_self],kr⟩,rfl,.inl ⟨⟨purs_pth _,trivial,trivial⟩,rfl⟩,rfl,.inl ⟨ods_flS _,rfl⟩,trivial⟩) (fun jm=>?_)
 refine h_pm (H':=((20,fl omc (Ms++[OM.mk ((l.getD k default).path) ((l.getD k default).sub) (some jm)]))::(16,[.osl (2*jm+1) 1 0 (((l.getD k default).path).length),.bool ((l.getD k default).sub)])::(4,[pth ((l.getD k default).path),.bool ((l.getD k default).sub)])::(omos (Ms++[OM.mk ((l.getD k default).path) ((l.getD k default).sub) (some jm)])))) (List.Perm.cons _ (List.Perm.cons _ (List.Perm.cons _ (omos_pr Ms _ (M:=OM.mk ((l.getD k default).path) ((l.getD k default).sub) (some jm)))))) ?_
 refine h_st (F':=[(3,.osl 20 2 0 ((Ms++[OM.mk ((l.getD k default).path) ((l.getD k default).sub) (some jm)]).length)),(7,.sl 2 (l.map mkc)),(8,.i l.length),(9,.i k)]) (H':=((20,fl omc (Ms++[OM.mk ((l.getD k default).path) ((l.getD k default).sub) (some jm)]))::(16,[.osl (2*jm+1) 1 0 (((l.getD k default).path).length),.bool ((l.getD k default).sub)])::(4,[pth ((l.getD k default).path),.bool ((l.getD k default).sub)])::(omos (Ms++[OM.mk ((l.getD k default).path) ((l.getD k default).sub) (some jm)])))) (by rw[List.length_append];rfl) rfl ?_
 refine Rn (Av1 1 23 [] (cI (wn1 k om)) (Ki/\·) ⟨rfl,Gn0 [(9,.i ((k+1:Nat):Int))] (nk_n (lsz_mk (k+1,Ms++[OM.mk ((l.getD k default).path) ((l.getD k default).sub) (some jm)]) [(20,0)] 4 [(3,.osl 20 2 0 ((Ms++[OM.mk ((l.getD k default).path) ((l.getD k default).sub) (some jm)]).length)),(7,.sl 2 (l.map mkc)),(8,.i l.length),(9,.i ((k+1:Nat):Int))] [(20,fl omc (Ms++[OM.mk ((l.getD k default).path) ((l.getD k default).sub) (some jm)]))] [(0,fl omc (Ms++[OM.mk ((l.getD k default).path) ((l.getD k default).sub) (some jm)]))] (omos (Ms++[OM.mk ((l.getD k default).path) ((l.getD k default).sub) (some jm)])) ?_ ?_ ⟨kr,kr⟩ ⟨kr,kr,kr,kr,trivial⟩ ⟨_,List.Perm.refl _,(List.Sublist.cons_cons _ (List.Sublist.cons _ (List.Sublist.cons _ (List.Sublist.refl _))))⟩ ⟨?_,?_⟩ ⟨rfl,.inr ⟨ods_flOM _,kr⟩,trivial⟩ kr (odH_omos _)))⟩)
 (try dsimp only);omega
 refine⟨?_,rfl⟩;exact⟨by rw[List.map_append,h1,List.map_cons,List.map_nil,take_snoc l k default om];rfl,fun m hm=>(List.mem_append.1 hm).elim (h2 m) fun h=>by rw[List.mem_singleton]at h;rw[h];rfl,om⟩
 simp only[slF,slp,slps,go_sem,and_self]
 kernel_rfl
 refine Xt (Jx (Lsx (Bh (Jn (hK3 (Kp [3] (h_k [3] (F':=[(3,.osl 0 2 0 Ms.length)]) kr (Hn ((0,fl omc Ms)::(omos Ms)) (h_odd (H:=[(0,fl omc Ms)]) 0 (fun jk=>[(3,.osl (2*jk+1) 2 0 Ms.length)]) (fun jk=>[((2*jk+1),fl omc Ms)]) kr (odH_omos Ms) (fun jk=>⟨by simp only[slF,slp,slps,go_sem,and_self],kr⟩) (fun jk=>⟨rfl,.inl ⟨ods_flOM _,rfl⟩,trivial⟩) (fun jk=>(Rr ?_)))))))))))
 refine Fn0 [] [(2,.osl (2*jk+1) 2 0 Ms.length)] (Rt (.osl (2*jk+1) 2 0 Ms.length) (fin_dc (.osl (2*jk+1) 2 0 Ms.length) ((2*jk+1,fl omc Ms)::omos Ms) (List.Sublist.refl _) (lea_refl _) (show(2*jk+1)%2=1 by omega) ⟨om,ods_flOM _,odH_omos Ms⟩ ⟨jk,Ms,?_,h2,rfl,rfl⟩))
 rw[h1,List.take_of_length_le om]
set_option maxRecDepth 100000
theorem h_rdz {np:Nat} {G:Prg} {c:Code} {F0:Fr} {H' Z:Hp} {n:Nat} {Q:Post} {k:Nat} {a a':AV} (hr:Rd Z a a') (h:TT np G.P c ((k,a')::F0) H' n Q):TT np G.P c ((k,a)::F0) (H'++Z) n Q:=by
 refine TT_conv h fun X N ρ ac w hs=>?_
 have hsub:H'.Sublist (H'++Z):=List.sublist_append_left _ _
 have hO:∀b,OX X ρ H' b->OX X ρ (H'++Z) b:=fun b hb=>hb.imp id (Own.sub hsub)
 have hnd:=hs.hr.nodup
 simp only[ids,List.map_append]at hnd
 have hno:∀i b,i∈ids Z->ρ i=some b->¬OX X ρ H' b:=by
  intro i b hi hb hx
  have hi2:i∈ids (H'++Z):=by simp only[ids,List.map_append,List.mem_append];exact .inr hi
  rcases hx with hx|⟨j,hj,hb'⟩
  ·exact hs.hr.notX i b hi2 hb hx
  ·have:=hs.hr.inj i j b hi2 (by simp only[ids,List.map_append,List.mem_append];exact .inl hj) hb hb'
   subst this
   exact(List.nodup_append.1 hnd).2.2 _ hj _ hi rfl
 refine⟨ρ,⟨hs.fresh,hs.hr.sub hsub,fun t=>?_,hs.df,hs.sz⟩,fun b hb=>Own.sub hsub hb,fun _ _ _ h=>h⟩
 have ht:=hs.fr t
 simp only[gt]at ht⊢
 cases hk:k==t with
 |false=>rw[hk]at ht;exact VR_carry (Carry.less hO) _ _ ht
 |true=>rw[hk]at ht;exact hr _ X ρ w _ _ hs.hr (fun p hp=>List.mem_append_right _ hp) hO hno ht
theorem Rd_mks {j:Nat} {L:List OM} {l:List Mk} (he:L.map erM=l) (h2:∀m,m∈L->m.id.isSome=true):Rd ((2*j+1,fl omc L)::omos L) (.osl (2*j+1) 2 0 L.length) (.sl 2 (l.map mkc)):=by
 subst he
 exact Rd_marks (fun m hm=>sh_some (h2 m hm)) (by simp) (fun p hp=>by simp[hp])
def AfD (t:Tr) (c:Cl) (r:AV) (Z:Hp):Prop:=∃T:OT,er T=(aDo t c).1/\shp T/\asm T/\r=.tup [.agg (otc T),.int .i64 (aDo t c).2]/\Z=objs T
theorem AfD.nsl {t:Tr} {c:Cl} {r:AV} {Z:Hp} (h:AfD t c r Z):nsl r/\nslH Z/\odH Z:=by
 obtain⟨T,_,_,_,rfl,rfl⟩:=h
 exact⟨⟨nsls_otc T,trivial,trivial⟩,nslH_objs T,odH_objs T⟩
def zOT:OT:=.mk false 0 [] none [] []
def TdR (t:Tr) (l:List Mk) (c:Cl) (r:AV) (Z:Hp):Prop:=∃(T:OT) (j:Nat) (L:List OM),er T=(tDo t l c).1/\shp T/\(asm T\/T=zOT)/\(∀m∈L,m.id.isSome=true)/\r=.tup [.agg (otc T),.osl (2*j+1) 2 0 L.length,.int .i64 (tDo t l c).2]/\Z=objs T++((2*j+1,fl omc L)::omos L)/\((tDo t l c).2=0->trOk l=true/\CoL l (mksOf t c) (L.map erM))/\((tDo t l c).2≠0->L.map erM=if(tDo t l c).2=1 then[]else l)
theorem TdR.nsl {t:Tr} {l:List Mk} {c:Cl} {r:AV} {Z:Hp} (h:TdR t l c r Z):nsl r/\nslH Z/\odH Z:=by
 obtain⟨T,j,L,_,_,_,_,rfl,rfl,_⟩:=h
 exact⟨⟨nsls_otc T,trivial,trivial,trivial⟩,nslH_app.2 ⟨nslH_objs T,nsls_fl nsl_omc L,nslH_omos L⟩,odH_app.2 ⟨odH_objs T,by omega,ods_flOM L,odH_omos L⟩⟩
theorem TdR.rd {t:Tr} {l:List Mk} {c:Cl} {r:AV} {Z:Hp} (h:TdR t l c r Z):∃a',TDoR t l c a'/\pur a'=true/\Rd Z r a':=by
 obtain⟨T,j,L,e1,hs,_,h2,rfl,rfl,k1,k2⟩:=h
 refine⟨_,⟨L.map erM,rfl,k1,k2⟩,by simp only[pur,purs,puress_mk,Bool.and_true,Bool.true_and,purs_pth,puress_trc,Bool.and_self],Rd_tup ⟨?_,?_,Rd_pur rfl,trivial⟩⟩
 ·rw[<-e1];exact Rd_tree hs fun p hp=>List.mem_append_left _ hp
 ·exact(Rd_mks rfl h2).sub fun p hp=>List.mem_append_right _ hp
open Go Go.Proofs
set_option maxRecDepth 100000
set_option maxHeartbeats 2000000 in
theorem afterd_ok (t:Tr) (c:Cl) (hto:treeOk t=true) (h1:wS c.path<2^40) (h2:wS c.to<2^40) (h3:c.data.length<2^21):DC G 42 [.agg (tcs t),.agg (clc c)] [] (AfD t c):=by
 refine DC_nd fun hnd=>?_
 have hl1:=wS_len c.path;have hl2:=wS_len c.to;have hWT:=W_ok hto
 refine h_dc (F:=[(0,.agg (tcs t)),(1,.agg (clc c))]) ⟨(ods_tcs t).1,(ods_clc c).1,trivial⟩ trivial Tryz.func42 kr kr ?_ kr
 refine Rr (Fn2 [] [(4,.ptr 8 0),(3,.ptr 4 0),(2,.ptr 0 0)] ([(8,zt),(4,clc c),(0,tcs t)]++·) 12 (Sq fun K2 hK2=>?_))
 refine Rr (Pc1 2 [(8,.agg (clc c))] 9 (0+5<=5/\0<5) dc (isCall_ok c om om) (Cn0 (!(callOk c)) [2,3,4] [] ⟨fun hc4 c4=>?_,fun hc4 c4=>?_⟩))
 refine Rr (Bc1 2 [(11,.agg (tcs t))] 82 [.agg (tcs t)] 12 ((0+5<=5/\0<5)/\·) ⟨dc,TCall.mono (cl_use (View.refl _ _) (clone_ok _ t rfl om)) ?_⟩)
 rintro _ H1 _ _ ⟨rfl,Tr6,hH1,heTr6,hsTr6,haTr6,rfl⟩
 have hH2:H1=((8,zt)::(4,clc c)::(0,tcs t)::(objs Tr6)):=by rw[hH1];(try simp only[List.cons_append,List.nil_append,List.append_assoc])
 clear hH1;subst hH2
 refine Ke (Fn3 [4] [(5,.i 2)] (fun _=>((8,otc Tr6)::(4,clc c)::(0,tcs t)::(objs Tr6))) 12 ((true=true/\5=5/\0+5<=5)/\·) ⟨dc,Rt1 ((0+5<=5/\0<5)/\·) (.tup [.agg (otc Tr6),.i 2]) ⟨dc,?_⟩⟩)
 have e:aDo t c=(t,2):=by
   unfold aDo
   simp only[hc4,cond_true,cond_false]
 refine fin_dc (.tup [.agg (otc Tr6),.i 2]) (objs Tr6) (List.Sublist.cons _ (List.Sublist.cons _ (List.Sublist.cons _ (List.Sublist.refl _)))) (lea_refl _) ⟨ods_otc _,trivial,trivial⟩ (odH_objs _) ⟨Tr6,by rw[e,heTr6],hsTr6,haTr6,by rw[e],rfl⟩
 refine Sk (Jn (hK2 (Kp [2,3,4] ?_)))
 have hco:callOk c=true:=by simpa using hc4
 obtain⟨f1,f2,f3,f4⟩:=callOk_facts hco
 refine Rr (Bc1 2 [(13,.agg (tcs t))] 82 [.agg (tcs t)] 14 ((0+5<=5/\0<5)/\·) ⟨dc,TCall.mono (cl_use (View.refl _ _) (clone_ok _ t rfl om)) ?_⟩)
 rintro _ H1 _ _ ⟨rfl,Tn,hH1,he,hs,ha,rfl⟩
 have hH2:H1=((8,zt)::(4,clc c)::(0,tcs t)::objs Tn):=by rw[hH1];simp only[List.cons_append,List.nil_append]
 clear hH1;subst hH2
 refine Ke (Fn3 [2,3,4] [(6,.ptr 12 0)] ([(12,otc Tn)]++·) 16 ((true=true/\5=5/\0+5<=5)/\·) ⟨dc,Sq fun K8 hK8=>?_⟩)
 refine h_pm (H':=((8,zt)::(4,clc c)::(0,tcs t)::(12,otc Tn)::(objs Tn))) (List.Perm.trans (List.Perm.cons _ (List.Perm.cons _ (List.Perm.swap _ _ _))) (List.Perm.trans (List.Perm.cons _ (List.Perm.swap _ _ _)) (List.Perm.swap _ _ _))) ?_
 refine h_k [2,3,4,6] (F':=[(2,.ptr 0 0),(3,.ptr 4 0),(4,.ptr 8 0),(6,.ptr 12 0)]) kr ?_
 refine Hn ((8,zt)::(4,clc c)::(0,tcs t)::(12,otc Tn)::(objs Tn)) (h_odd (H:=[(8,zt),(4,clc c),(0,tcs t),(12,otc Tn)]) 12 (fun jr=>[(2,.ptr 0 0),(3,.ptr 4 0),(4,.ptr 8 0),(6,.ptr (2*jr+1) 0)]) (fun jr=>[(8,zt),(4,clc c),(0,tcs t),((2*jr+1),otc Tn)]) kr (odH_objs Tn) (fun jr=>⟨by simp only[slF,slp,slps,go_sem,and_self],kr⟩) (fun jr=>⟨rfl,.inr ⟨by simp only[tcs,slps,slp,go_sem,and_self],kr⟩,rfl,.inr ⟨by simp only[tcs,slps,slp,go_sem,and_self],kr⟩,rfl,.inr ⟨by simp only[tcs,slps,slp,go_sem,and_self],kr⟩,rfl,.inl ⟨ods_otc _,rfl⟩,trivial⟩) (fun jr=>(Rr (Bc1 2 [(15,.agg (clc c))] 83 [.ptr (2*jr+1) 0,.agg (clc c)] 16 ((0+5<=5/\0<5)/\·) ⟨dc,?_⟩))))
 have hL:Lies ((2*jr+1,otc Tn)::objs Tn) (2*jr+1) [] [] Tn []:=⟨⟨om,ods_otc Tn,odH_objs Tn⟩,om,by simp,by unfold owf;rw[he];exact wf_ok hto,hs,osm_W Tn (by rw[he];omega)⟩
 refine DC.use (do_ok (A0:=[]) (B0:=[]) c hL ha (by rw[he];exact hto) f1 f2 f3 f4 h3) [(8,zt),(4,clc c),(0,tcs t)] rfl ⟨rfl,⟨rfl,⟨rfl,trivial⟩⟩⟩ ?_
 rintro _ Z1 ⟨T1,W1,rfl,hZ1,he1,hs1⟩
 rw[he]at he1⊢
 have hWi:=W_iDo (c:=c) hWT f2 f3 (fun h=>(f4 h).2)
 refine Ke (Fn0 [2,4,6] [(7,.i ((iDo t c).2))] (Rr (Cn1 (!decide (((iDo t c).2:Int)=(0:Int))) [2,4,6,7] [] (Ki/\·) ⟨rfl,fun hc11 c11=>?_,fun hc11 c11=>?_⟩)))
 refine Rr (Bc1 2 [(19,.agg (tcs t))] 82 [.agg (tcs t)] 20 ((0+5<=5/\0<5)/\·) ⟨dc,TCall.mono (cl_use (View.refl _ _) (clone_ok _ t rfl om)) ?_⟩)
 rintro _ H1 _ _ ⟨rfl,Tr13,hH1,heTr13,hsTr13,haTr13,rfl⟩
 have hH2:H1=((8,zt)::(4,clc c)::(0,tcs t)::(Z1++objs Tr13)):=by rw[hH1];(try simp only[List.cons_append,List.nil_append,List.append_assoc])
 clear hH1;subst hH2
 refine Ke (Fn3 [4] [(5,.i ((iDo t c).2))] (fun _=>((8,otc Tr13)::(4,clc c)::(0,tcs t)::(Z1++objs Tr13))) 16 ((true=true/\5=5/\0+5<=5)/\·) ⟨dc,Rt1 ((0+5<=5/\0<5)/\·) (.tup [.agg (otc Tr13),.i ((iDo t c).2)]) ⟨dc,?_⟩⟩)
 have e:aDo t c=(t,(iDo t c).2):=by
   unfold aDo
   simp only[hc4,hc11,cond_true,cond_false]
 refine fin_dc (.tup [.agg (otc Tr13),.i ((iDo t c).2)]) (objs Tr13) (List.Sublist.cons _ (List.Sublist.cons _ (List.Sublist.cons _ (List.sublist_append_right _ _)))) (lea_refl _) ⟨ods_otc _,trivial,trivial⟩ (odH_objs _) ⟨Tr13,by rw[e,heTr13],hsTr13,haTr13,by rw[e],rfl⟩
 refine Sk (Jn (hK8 (Kp [2,4,6] (Sq fun K14 hK14=>?_))))
 refine h_k [6,2,4] (F':=[(6,.ptr (2*jr+1) 0),(2,.ptr 0 0),(4,.ptr 8 0)]) kr ?_
 refine h_dfz (k:=6) (H':=[(8,zt),(4,clc c),(0,tcs t)]) (Z:=Z1) hZ1.1 hs1 ?_
 rw[he1]
 refine Rr (Pc1 2 [(22,.agg (tcs ((iDo t c).1)))] 23 (5<=5/\0<5) dc (TreeOk_ok ((iDo t c).1) om) (Cn0 (!(treeOk ((iDo t c).1))) [2,4,6] [] ⟨fun hc16 c16=>?_,fun hc16 c16=>?_⟩))
 refine Rr (Bc1 2 [(25,.agg (tcs t))] 82 [.agg (tcs t)] 26 ((0+5<=5/\0<5)/\·) ⟨dc,TCall.mono (cl_use (View.refl _ _) (clone_ok _ t rfl om)) ?_⟩)
 rintro _ H1 _ _ ⟨rfl,Tr18,hH1,heTr18,hsTr18,haTr18,rfl⟩
 have hH2:H1=((8,zt)::(4,clc c)::(0,tcs t)::(objs Tr18)):=by rw[hH1];(try simp only[List.cons_append,List.nil_append,List.append_assoc])
 clear hH1;subst hH2
 refine Ke (Fn3 [4] [(5,.i 6)] (fun _=>((8,otc Tr18)::(4,clc c)::(0,tcs t)::(objs Tr18))) 16 ((true=true/\5=5/\0+5<=5)/\·) ⟨dc,Rt1 ((0+5<=5/\0<5)/\·) (.tup [.agg (otc Tr18),.i 6]) ⟨dc,?_⟩⟩)
 have e:aDo t c=(t,6):=by
   unfold aDo
   simp only[hc4,hc11,hc16,cond_true,cond_false]
 refine fin_dc (.tup [.agg (otc Tr18),.i 6]) (objs Tr18) (List.Sublist.cons _ (List.Sublist.cons _ (List.Sublist.cons _ (List.Sublist.refl _)))) (lea_refl _) ⟨ods_otc _,trivial,trivial⟩ (odH_objs _) ⟨Tr18,by rw[e,heTr18],hsTr18,haTr18,by rw[e],rfl⟩
 refine Sk (Jn (hK14 (Kp [4,6] (Rr (Bc1 2 [(27,.agg (tcs ((iDo t c).1)))] 82 [.agg (tcs ((iDo t c).1))] 28 ((5<=5/\0<5)/\·) ⟨dc,TCall.mono (cl_use (View.refl _ _) (clone_ok _ ((iDo t c).1) rfl om)) ?_⟩)))))
 rintro _ H1 _ _ ⟨rfl,Tr20,hH1,heTr20,hsTr20,haTr20,rfl⟩
 have hH2:H1=((8,zt)::(4,clc c)::(0,tcs t)::(objs Tr20)):=by rw[hH1];(try simp only[List.cons_append,List.nil_append,List.append_assoc])
 clear hH1;subst hH2
 refine Ke (Fn3 [4] [(5,.i 0)] (fun _=>((8,otc Tr20)::(4,clc c)::(0,tcs t)::(objs Tr20))) 16 ((true=true/\5=5/\0+5<=5)/\·) ⟨dc,Rt1 ((0+5<=5/\0<5)/\·) (.tup [.agg (otc Tr20),.i 0]) ⟨dc,?_⟩⟩)
 have e:aDo t c=(((iDo t c).1),0):=by
   unfold aDo
   simp only[hc4,hc11,hc16,cond_true,cond_false]
 refine fin_dc (.tup [.agg (otc Tr20),.i 0]) (objs Tr20) (List.Sublist.cons _ (List.Sublist.cons _ (List.Sublist.cons _ (List.Sublist.refl _)))) (lea_refl _) ⟨ods_otc _,trivial,trivial⟩ (odH_objs _) ⟨Tr20,by rw[e,heTr20],hsTr20,haTr20,by rw[e],rfl⟩
set_option maxHeartbeats 2000000 in
theorem TrailDod_ok (t:Tr) (l:List Mk) (c:Cl) (hw:t.W<2^40) (h1:wS c.path<2^40) (h2:wS c.to<2^40) (h3:c.data.length<2^21) (hl:∀m∈l,wS m.path<2^40) (hn:l.length<2^21):DC G 23 [.agg (tcs t),.sl 2 (l.map mkc),.agg (clc c)] [] (TdR t l c):=by
 refine DC_nd fun hnd=>?_
 refine h_dc (F:=[(0,.agg (tcs t)),(1,.sl 2 (l.map mkc)),(2,.agg (clc c))]) ⟨(ods_tcs t).1,puress_mk l,(ods_clc c).1,trivial⟩ trivial Tryz.func23 kr kr ?_ kr
 refine Rr (Fn2 [1] [(6,.ptr 8 0),(5,.ptr 4 0),(3,.ptr 0 0)] ([(8,zt),(4,clc c),(0,tcs t)]++·) 12 (Sq fun K2 hK2=>?_))
 refine Rm 21 ((!(treeOk t))||(!(trOk l))) [1,3,5,6] ?_ ?_
 refine Pc1 2 [(14,.agg (tcs t))] 15 (0+5<=5/\0<5) dc (TreeOk_ok t om) (An0 2 [(17,.bool (!(treeOk t))),(16,.bool (!(treeOk t)))] (Rg (fun hg4 g4=>?_) (fun hg4 g4=>?_)))
 refine Mn0 true (by rw[hg4];rfl)
 refine Pc0 2 [(18,.sl 2 (l.map mkc))] 19 (TrailOk_ok l hl om) (Mn0 (!(trOk l)) (by rw[hg4];rfl))
 refine Cc ((!(treeOk t))||(!(trOk l))) (fun hc5 c5=>?_) fun hc5 c5=>?_
 refine Rr (Fn3 [6] [(8,.i 1),(7,.osl 12 2 0 0)] ([(12,[])]++·) 16 ((0*2<=16777216)/\(true=true/\5=5/\0+5<=5)/\·) ⟨dc,dc,h_k [6,7,8] (F':=[(6,.ptr 8 0),(7,.osl 12 2 0 0),(8,.i 1)]) kr (Hn ((12,[])::(8,zt)::(4,clc c)::(0,tcs t)::[]) (h_pm (H':=((8,zt)::(4,clc c)::(0,tcs t)::(12,[])::[])) (List.Perm.trans (List.Perm.cons _ (List.Perm.cons _ (List.Perm.swap _ _ _))) (List.Perm.trans (List.Perm.cons _ (List.Perm.swap _ _ _)) (List.Perm.swap _ _ _))) ?_))⟩)
 refine h_k [6,7,8] (F':=[(6,.ptr 8 0),(7,.osl 12 2 0 0),(8,.i 1)]) kr ?_
 refine h_odd (H:=[(8,zt),(4,clc c),(0,tcs t),(12,[])]) 12 (fun jz=>[(6,.ptr 8 0),(7,.osl (2*jz+1) 2 0 0),(8,.i 1)]) (fun jz=>[(8,zt),(4,clc c),(0,tcs t),((2*jz+1),[])]) kr trivial (fun jz=>⟨by simp only[slF,slp,slps,go_sem,and_self],kr⟩) (fun jz=>⟨rfl,.inr ⟨by simp only[tcs,slps,slp,go_sem,and_self],kr⟩,rfl,.inr ⟨by simp only[tcs,slps,slp,go_sem,and_self],kr⟩,rfl,.inr ⟨by simp only[tcs,slps,slp,go_sem,and_self],kr⟩,rfl,.inr ⟨by simp only[tcs,slps,slp,go_sem,and_self],kr⟩,trivial⟩) (fun jz=>?_)
 refine Rt1 ((0+5<=5/\0<5)/\·) (.tup [.agg zt,.osl (2*jz+1) 2 0 0,.i 1]) ⟨dc,?_⟩
 have htd:tDo t l c=(.none,1):=by
   have h:=hc5
   unfold tDo
   cases htr:trOk l with
   |false=>rfl
   |true=>rw[htr]at h;unfold sTreeDo;rw[show treeOk t=false by simpa using h];rfl
 refine fin_dc (.tup [.agg (otc zOT),.osl (2*jz+1) 2 0 0,.i 1]) [(2*jz+1,[])] (List.Sublist.cons _ (List.Sublist.cons _ (List.Sublist.cons _ (List.Sublist.refl _)))) (lea_refl _) ⟨ods_otc _,(show(2*jz+1)%2=1 by omega),trivial,trivial⟩ ⟨om,trivial,trivial⟩ ⟨zOT,jz,[],by rw[htd];rfl,(shp_eq _).2 ⟨fun _=>⟨rfl,rfl⟩,trivial⟩,.inr rfl,(by simp),by rw[htd];rfl,rfl,by rw[htd];simp,by rw[htd];simp⟩
 refine Sk (Jn (hK2 (Kp [1,3,5,6] ?_)))
 obtain⟨hto,htr⟩:treeOk t=true/\trOk l=true:=by have h:=hc5;simpa using h
 have hwf:=wf_ok hto
 obtain⟨ht,h6⟩:=trOk_trl htr
 have hsd:sTreeDo t c=aDo t c:=by rw[<-iTreeDo_eq];unfold iTreeDo;rw[hto];rfl
 have htd:tDo t l c=aDo t c:=by unfold tDo;rw[htr,hsd];rfl
 refine Rr (Bc1 3 [(26,.agg (clc c)),(25,.agg (tcs t))] 42 [.agg (tcs t),.agg (clc c)] 27 ((0+5<=5/\0<5)/\(0+5<=5/\0<5)/\·) ⟨dc,dc,TCall.mono (mk_use (View.refl _ _) (afterd_ok t c hto h1 h2 h3) fun r Z h=>h.nsl) ?_⟩)
 rintro _ H1 _ _ ⟨rfl,Z1,hH1,Ta1,heTa1,hsTa1,haTa1,rfl,rfl⟩
 have hH2:H1=((8,zt)::(4,clc c)::(0,tcs t)::objs Ta1):=by rw[hH1];(try simp only[List.cons_append,List.nil_append,List.append_assoc])
 clear hH1;subst hH2
 refine Ke (Fn3 [1,3,5,6] [(10,.i ((aDo t c).2)),(9,.ptr 12 0)] ([(12,otc Ta1)]++·) 16 ((0<2)/\(1<2)/\(true=true/\5=5/\0+5<=5)/\·) ⟨dc,dc,dc,Rr (Bc0 2 [(30,.sl 2 (l.map mkc))] 60 [.sl 2 (l.map mkc)] 31 (TCall.mono (mk_use (View.refl _ _) (cloneMd_ok l hl om) fun r Z h=>h.nsl) ?_))⟩)
 rintro _ H1 _ _ ⟨rfl,Z1,hH1,j9,L10,hmL10,hiL10,rfl,rfl⟩
 have hH2:H1=((12,otc Ta1)::(8,zt)::(4,clc c)::(0,tcs t)::(objs Ta1++((2*j9+1,fl omc L10)::omos L10))):=by rw[hH1];(try simp only[List.cons_append,List.nil_append,List.append_assoc])
 clear hH1;subst hH2
 refine Ke (Fn0 [3,5,6,9,10] [(11,.osl (2*j9+1) 2 0 L10.length)] (Sq fun K11 hK11=>?_))
 refine Rr (Cn1 (!decide (((aDo t c).2:Int)=(0:Int))) [3,5,6,9,10,11] [] (Ki/\·) ⟨rfl,fun hc13 c13=>?_,fun hc13 c13=>?_⟩)
 refine Rr (Fn3 [6] [(8,.i ((aDo t c).2)),(7,.osl (2*j9+1) 2 0 L10.length)] (fun _=>((12,otc Ta1)::(8,otc Ta1)::(4,clc c)::(0,tcs t)::(objs Ta1++((2*j9+1,fl omc L10)::omos L10)))) 16 ((0+5<=5/\0<5)/\(true=true/\5=5/\0+5<=5)/\·) ⟨dc,dc,Rt1 ((0+5<=5/\0<5)/\·) (.tup [.agg (otc Ta1),.osl (2*j9+1) 2 0 L10.length,.i ((aDo t c).2)]) ⟨dc,?_⟩⟩)
 have hc1:(aDo t c).2≠1:=by rw[<-hsd];intro h;exact sT_ne hto h
 refine fin_dc (.tup [.agg (otc Ta1),.osl (2*j9+1) 2 0 L10.length,.i ((aDo t c).2)]) (objs Ta1++((2*j9+1,fl omc L10)::omos L10)) (List.Sublist.cons _ (List.Sublist.cons _ (List.Sublist.cons _ (List.Sublist.cons _ (List.Sublist.refl _))))) (lea_refl _) ⟨ods_otc _,(show(2*j9+1)%2=1 by omega),trivial,trivial⟩ (odH_app.2 ⟨odH_objs _,om,ods_flOM _,odH_omos _⟩) ⟨Ta1,j9,L10,by rw[htd,heTa1],hsTa1,.inl haTa1,hiL10,by rw[htd],rfl,fun h=>absurd (htd▸h) c13,fun h=>by rw[htd,if_neg hc1,hmL10]⟩
 refine Sk (Jn (hK11 (Kp [3,5,6,9,11] (Sq fun K15 hK15=>?_))))
 obtain⟨_,hco⟩:=sTD_ok (t:=t) (c:=c) (by rw[hsd];have h:=c13;omega)
 refine Rr (Bc1 3 [(38,.agg (clc c)),(37,.agg (tcs t))] 61 [.agg (tcs t),.agg (clc c)] 39 ((0+5<=5/\0<5)/\(0+5<=5/\0<5)/\·) ⟨dc,dc,?_⟩)
 have hmo:=mksOf_len t c
 refine PE.use (marksOf_ok t c hw hwf h1 h2) ?_
 refine Ke (Av0 1 40 [] (lnm (mksOf t c) mkc) (Fn0 [6,9,11,39,40] [(41,.i 0)] (Bl (h_k [6,9,11,39,40,41] (F':=[(6,.ptr 8 0),(9,.ptr 12 0),(11,.osl (2*j9+1) 2 0 L10.length),(39,.sl 2 ((mksOf t c).map mkc)),(40,.i ((mksOf t c).length:Int)),(41,.i 0)]) kr ?_))))
 refine Hn ((12,otc Ta1)::(8,zt)::(4,clc c)::(0,tcs t)::(objs Ta1++((2*j9+1,fl omc L10)::omos L10))) (h_k [11,6,9,39,40,41] (F':=[(11,.osl (2*j9+1) 2 0 L10.length),(6,.ptr 8 0),(9,.ptr 12 0),(39,.sl 2 ((mksOf t c).map mkc)),(40,.i ((mksOf t c).length:Int)),(41,.i 0)]) kr (h_rdz (k:=11) (Z:=(2*j9+1,fl omc L10)::omos L10) (H':=[(12,otc Ta1),(8,zt),(4,clc c),(0,tcs t)]++objs Ta1) (Rd_mks hmL10 hiL10) (h_st (F':=[(11,.sl 2 (l.map mkc)),(6,.ptr 8 0),(9,.ptr 12 0),(39,.sl 2 ((mksOf t c).map mkc)),(40,.i ((mksOf t c).length:Int)),(41,.i 0)]) (H':=((12,otc Ta1)::(8,zt)::(4,clc c)::(0,tcs t)::(objs Ta1))) rfl rfl (h_ls (fun(z:Nat×List Mk)=>(match z with|(k,o)=>([(6,.ptr 8 0),(9,.ptr 12 0),(11,.sl 2 (o.map mkc)),(39,.sl 2 ((mksOf t c).map mkc)),(40,.i ((mksOf t c).length:Int)),(41,.i k)]:Fr))) (fun(z:Nat×List Mk)=>(match z with|(k,o)=>(((12,otc Ta1)::(8,zt)::(4,clc c)::(0,tcs t)::(objs Ta1)):Hp))) (fun(z:Nat×List Mk) cn=>(match z with|(k,o)=>(k<=(mksOf t c).length/\CoL l ((mksOf t c).take k) o)/\cn=16)) (fun(z:Nat×List Mk)=>(mksOf t c).length-z.1) (0,l) kr ?_ ?_ ?_ ?_))))
 refine⟨?_,rfl⟩;exact⟨Nat.zero_le _,.nil l⟩
 exact⟨kr,kr,kr,kr,kr,kr,trivial⟩
 exact(sub_c kr (sub_c kr (sub_c kr (sub_c kr (List.Sublist.refl _)))))
 rintro⟨k,o⟩ n1 hI
 (try dsimp only at hI)
 obtain⟨⟨hi1,hi2⟩,rfl⟩:=hI
 have hml0:=mksOf_len t c
 refine Rr (Fn1 [6,9,11,39,40,41] [(42,.bool (decide ((k:Int)<((mksOf t c).length:Int))))] (Ki/\·) ⟨rfl,Sq fun K18 hK18=>?_⟩)
 refine Cc (decide ((k:Int)<((mksOf t c).length:Int))) (fun hc19 c19=>?_) fun hc19 c19=>?_
 refine Sk (Jn (hK18 (Kp [6,9,11,39,40,41] (Sq fun K20 hK20=>?_))))
 refine Bl (Rr (Av1 1 43 [] (congrArg AV.pat (mg_mk (mksOf t c) k om)) ((2=2/\(0:Int)<=(k:Int)/\(k:Int)<(((mksOf t c).map mkc).length:Int))/\·) ⟨⟨rfl,om,lmo⟩,Fn3 [6,9,11,39,40,41] [(13,.ptr 16 0)] ([(16,mkc ((mksOf t c).getD k default))]++·) 20 ((2<=2/\0<2)/\(true=true/\2=2/\0+2<=2)/\·) ⟨dc,dc,?_⟩⟩))
 have hmk:=getD_mem (mksOf t c) k default om
 have hok:=mksOf_ok (by assumption) hmk
 have hcl:=hi2.trl ht h6 fun m hm=>mksOf_ok (by assumption) (List.mem_of_mem_take hm)
 refine Rb (fun h=>Bn (Jn (hK20 h))) (Bc1 3 [(46,.agg (mkc ((mksOf t c).getD k default))),(45,.sl 2 (o.map mkc))] 62 [.sl 2 (o.map mkc),.agg (mkc ((mksOf t c).getD k default))] 47 ((0+2<=2/\0<2)/\·) ⟨dc,PC.use (addM_ok _ o ((mksOf t c).getD k default) rfl hcl.1 hok hcl.2) fun r hr=>?_⟩);obtain⟨ad22,rfl,had22⟩:=hr
 refine Ke (Fn0 [6,9,39,40,41] [(11,.sl 2 (ad22.map mkc))] (Rn (Av1 1 48 [] (cI (wn1 k om)) (Ki/\·) ⟨rfl,Gn0 [(41,.i ((k+1:Nat):Int))] ?_⟩)))
 refine nk_n (lsz_mk (k+1,ad22) [(0,0),(4,4),(8,8),(12,12)] 16 [(6,.ptr 8 0),(9,.ptr 12 0),(11,.sl 2 (ad22.map mkc)),(39,.sl 2 ((mksOf t c).map mkc)),(40,.i ((mksOf t c).length:Int)),(41,.i ((k+1:Nat):Int))] [(12,otc Ta1),(8,zt),(4,clc c),(0,tcs t)] [(12,otc Ta1),(8,zt),(4,clc c),(0,tcs t)] (objs Ta1) ?_ ?_ ⟨kr,kr⟩ ⟨kr,kr,kr,kr,kr,kr,trivial⟩ ⟨_,List.Perm.refl _,(List.Sublist.cons _ (List.Sublist.cons_cons _ (List.Sublist.cons_cons _ (List.Sublist.cons_cons _ (List.Sublist.cons_cons _ (List.Sublist.refl _))))))⟩ ⟨?_,?_⟩ ⟨rfl,.inr ⟨ods_otc _,rfl⟩,rfl,.inl (.inr ⟨by simp only[slps,slp,go_sem,and_self],kr⟩),rfl,.inl (.inr ⟨by simp only[slps,slp,go_sem,and_self],kr⟩),rfl,.inl (.inr ⟨by simp only[tcs,slps,slp,go_sem,and_self],kr⟩),trivial⟩ kr (odH_objs _))
 (try dsimp only);omega
 refine⟨?_,rfl⟩;(try dsimp only);exact⟨om,by rw[take_snoc (mksOf t c) k default om];exact .snoc hi2 had22⟩
 simp only[slF,slp,slps,go_sem,and_self]
 kernel_rfl
 refine Xt (Jx (Lsx (Bh (Jn (hK15 (Kp [6,9,11] ?_))))))
 have hcl:=hi2.trl ht h6 fun m hm=>mksOf_ok (by assumption) (List.mem_of_mem_take hm)
 refine Qr [0,0,2,7,15,31] [(0,[]),(1,[]),(2,[0]),(3,[]),(4,[]),(5,[])] (qBc1 3 [(50,.sl 2 (o.map mkc)),(49,.agg (otc Ta1))] [0] 60 [.sl 2 (o.map mkc)] 51 ((0+5<=5/\0<5)/\·) ⟨dc,TCall.mono (mk_use (View.refl _ _) (cloneMd_ok o hcl.1.wS om) fun r Z h=>h.nsl) ?_⟩)
 rintro _ H1 _ _ ⟨rfl,Z1,hH1,j24,L25,hmL25,hiL25,rfl,rfl⟩
 have hH2:H1=((12,otc Ta1)::(8,zt)::(4,clc c)::(0,tcs t)::(objs Ta1++((2*j24+1,fl omc L25)::omos L25))):=by rw[hH1];(try simp only[List.cons_append,List.nil_append,List.append_assoc])
 clear hH1;subst hH2
 refine Kq (p:=(((0+5<=5/\0<5)/\(AV.agg (otc Ta1)=(.agg (otc Ta1):AV)))/\True)) ⟨⟨dc,rfl⟩,trivial⟩ ?_
 refine qFn3 [6] [(8,.i 0),(7,.osl (2*j24+1) 2 0 L25.length)] (fun _=>((12,otc Ta1)::(8,otc Ta1)::(4,clc c)::(0,tcs t)::(objs Ta1++((2*j24+1,fl omc L25)::omos L25)))) 16 ((true=true/\5=5/\0+5<=5)/\(True)/\·) ⟨dc,trivial,Rt1 ((0+5<=5/\0<5)/\·) (.tup [.agg (otc Ta1),.osl (2*j24+1) 2 0 L25.length,.i 0]) ⟨dc,?_⟩⟩
 have hc0:(aDo t c).2=0:=by have h:=c13;omega
 obtain rfl:k=(mksOf t c).length:=by omega
 rw[List.take_length]at hi2
 refine fin_dc (.tup [.agg (otc Ta1),.osl (2*j24+1) 2 0 L25.length,.i 0]) (objs Ta1++((2*j24+1,fl omc L25)::omos L25)) (List.Sublist.cons _ (List.Sublist.cons _ (List.Sublist.cons _ (List.Sublist.cons _ (List.Sublist.refl _))))) (lea_refl _) ⟨ods_otc _,(show(2*j24+1)%2=1 by omega),trivial,trivial⟩ (odH_app.2 ⟨odH_objs _,om,ods_flOM _,odH_omos _⟩) ⟨Ta1,j24,L25,by rw[htd,heTa1],hsTa1,.inl haTa1,hiL25,by rw[htd,hc0],rfl,fun _=>⟨htr,by rw[hmL25];exact hi2⟩,fun h=>absurd (by rw[htd,hc0]) h⟩
set_option maxRecDepth 100000
theorem td_det {t:Tr} {l l2 l3:List Mk} {c:Cl} (h0:(tDo t l c).2=0->trOk l=true/\CoL l (mksOf t c) l2) (h1:(tDo t l c).2≠0->l2=if(tDo t l c).2=1 then[]else l) (k0:(tDo t l c).2=0->trOk l=true/\CoL l (mksOf t c) l3) (k1:(tDo t l c).2≠0->l3=if(tDo t l c).2=1 then[]else l):l2=l3:=by
 by_cases h:(tDo t l c).2=0
 ·exact(h0 h).2.det (k0 h).2
 ·rw[h1 h,k1 h]
theorem td_ok {t:Tr} {l l2:List Mk} {c:Cl} (ht:trOk l=true) (h0:(tDo t l c).2=0->trOk l=true/\CoL l (mksOf t c) l2) (h1:(tDo t l c).2≠0->l2=if(tDo t l c).2=1 then[]else l):trOk l2=true/\l2.length<=6:=by
 obtain⟨t1,t6⟩:=trOk_trl ht
 have htd:tDo t l c=sTreeDo t c:=by unfold tDo;rw[ht];rfl
 by_cases h:(tDo t l c).2=0
 ·obtain⟨u1,u2⟩:=(h0 h).2.trl t1 t6 fun m hm=>mksOf_ok (sTD_ok (htd▸h)).2 hm
  exact⟨u1.trOk u2,u2⟩
 ·rw[h1 h]
  split
  ·exact⟨Trl.nil.trOk (by simp),by simp⟩
  ·exact⟨ht,t6⟩
theorem W_sT (t:Tr) (c:Cl) (B:Nat) (hB:2^10<=B) (ht:t.W<B):(sTreeDo t c).1.W<B:=by
 have hp:=W_pos t
 unfold sTreeDo
 cases h:treeOk t<;>simp only[Bool.not_true,Bool.not_false,cond_true,cond_false]
 ·rw[W_none];omega
 ·cases h2:callOk c<;>simp only[Bool.not_true,Bool.not_false,cond_true,cond_false]
  ·exact ht
  ·rw[<-aDo_sDo h h2]
   unfold aDo
   cases callOk c<;>simp only[Bool.not_true,Bool.not_false,cond_true,cond_false]
   ·exact ht
   cases decide ((iDo t c).2=(0:Int))<;>simp only[Bool.not_true,Bool.not_false,cond_true,cond_false]
   ·exact ht
   cases h3:treeOk (iDo t c).1<;>simp only[Bool.not_true,Bool.not_false,cond_true,cond_false]
   ·exact ht
   ·have:=W_ok h3;omega
theorem W_tDo (t:Tr) (l:List Mk) (c:Cl) (ht:t.W<2^22):(tDo t l c).1.W<2^22:=by
 unfold tDo
 cases trOk l with
 |true=>exact W_sT t c _ (by omega) ht
 |false=>rw[show(bif false then sTreeDo t c else(.none,(1:Int)))=(.none,1)from rfl,W_none];omega
theorem wM_trl:∀{l:List Mk},(∀m∈l,wS m.path<=24)->wM l<=25*l.length
 |[],_=>by simp[wM]
 |m::l,h=>by
  have h1:=h m (by simp)
  have h2:=wM_trl (l:=l) fun x hx=>h x (by simp[hx])
  simp only[wM,List.length_cons];omega
theorem td_sm {t:Tr} {l l2:List Mk} {c:Cl} (h0:(tDo t l c).2=0->trOk l=true/\CoL l (mksOf t c) l2) (h1:(tDo t l c).2≠0->l2=if(tDo t l c).2=1 then[]else l):wM l2<=150:=by
 cases ht:trOk l with
 |true=>
  obtain⟨u1,u2⟩:=td_ok ht h0 h1
  have:=wM_trl (l:=l2) fun m hm=>mk_wS ((trOk_trl u1).1.ok m hm)
  omega
 |false=>
  have htd:tDo t l c=(.none,1):=by unfold tDo;rw[ht];rfl
  rw[h1 (by rw[htd];decide),htd]
  simp[wM]
theorem wM_mem:∀{l:List Mk} {m:Mk},m∈l->wS m.path<wM l
 |x::l,m,h=>by
  simp only[wM]
  rcases List.mem_cons.1 h with rfl|h
  ·omega
  ·have:=wM_mem h;omega
theorem Rd_tr {Z:Hp} {T:OT} {t:Tr} (he:er T=t) (hs:shp T) (hm:∀p,p∈objs T->p∈Z):Rd Z (.agg (otc T)) (.agg (tcs t)):=he▸Rd_tree hs hm
theorem Rd_mk2 {Z:Hp} {j:Nat} {L:List OM} {l:List Mk} (he:L.map erM=l) (h2:∀m,m∈L->m.id.isSome=true) (hm:∀p,p∈((2*j+1,fl omc L)::omos L)->p∈Z):Rd Z (.osl (2*j+1) 2 0 L.length) (.sl 2 (l.map mkc)):=(Rd_mks he h2).sub hm
theorem Rd_call {Z:Hp} {c:Cl} {a b:Nat} (hm:∀p,p∈[(2*a+1,fl sc c.path),(2*b+1,fl sc c.to)]->p∈Z):Rd Z (.agg (occ c a b)) (.agg (clc c)):=
 Rd_agg ⟨Rd_pur rfl,(Rd_pth (Z:=Z) (hm _ (by simp))),Rd_pth (hm _ (by simp)),Rd_pur rfl,Rd_pur rfl,trivial⟩
theorem dc_pe {G:Prg} {f:Nat} {args:List AV} {Z:Hp} {r:AV} {R:AV->Hp->Prop} (h:PE G f args r) (hr:R r Z):DC G f args Z R:=fun E n hE=>PE.use h ⟨rfl,Z,rfl,hr⟩
theorem mkTa_ok {Z W:Hp} {T:OT} (k:Nat) (ha:asm T\/T=zOT) (hk:k+3*(er T).W<2^40) (hz:odH Z) (hp:Z.Perm (objs T++W)):DC G 17 [.agg (otc T),.int .i64 ((k:Nat):Int)] Z (fun r Z'=>r=.int .i64 (((mkTs (k+(er T).names.length) (er T).kids).2:Nat):Int)/\Z'.Perm (objs (mk1 k T)++W)/\odH Z'):=by
 rcases ha with ha|rfl
 ·obtain⟨⟨a,c⟩,hids⟩:=Option.isSome_iff_exists.1 ((asm_eq T).1 ha).1
  have h:=mkT_ok (a:=a) (c:=c) k hids ((asm_eq T).1 ha).2 hk hz hp
  rw[show otc T=[.bool T.dir,.int .i64 T.mode,.str T.data,.osl (2*a+1) 1 0 T.names.length,.osl (2*c+1) 5 0 T.kids.length] by simp only[otc,hids];rfl,er_names,er_kids,<-ers_map]
  exact h
 ·refine dc_pe (mkT0_ok k) ⟨?_,hp,hz⟩
  rw[show(er zOT).names=[]from rfl,show(er zOT).kids=[] by simp[zOT,er,Tr.kids,ers],mkTs];rfl
theorem mk1_otc (k:Nat) (T:OT):otc (mk1 k T)=otc T:=by
 unfold mk1;simp only[otc,OT.dir_mk,OT.mode_mk,OT.data_mk,OT.ids_mk,OT.names_mk,OT.kids_mk,mks_len,mkOs_len]
theorem mk1_er (k:Nat) (T:OT):er (mk1 k T)=.mk (er T).dir (er T).mode (er T).data (mks k (er T).names) (mkTs (k+(er T).names.length) (er T).kids).1:=by
 unfold mk1
 rw[er_dir,er_mode,er_data,er_names,er_kids,<-ers_map,<-mkOs_er,er]
theorem mk1_shp (k:Nat) {T:OT} (ha:asm T\/T=zOT):shp (mk1 k T):=by
 rcases ha with ha|rfl
 ·unfold mk1
  exact(shp_eq _).2 ⟨fun e=>by have:=((asm_eq T).1 ha).1;simp only[OT.ids_mk]at e;rw[e]at this;simp at this,asms_shps _ (mkOs_shp _ _ ((asm_eq T).1 ha).2)⟩
 ·exact(shp_eq _).2 ⟨fun _=>⟨rfl,by simp[mk1,zOT,mkOs]⟩,by simp[mk1,zOT,mkOs,shps]⟩
theorem pur_t (t:Tr):pur (.agg (tcs t))=true:=by simp only[pur];rw[show tcs t=trc t from(trc_eq _).symm];exact purs_trc _
theorem pur_m (l:List Mk):pur (.sl 2 (l.map mkc))=true:=by simp only[pur,puress_mk]
theorem pur_c (c:Cl):pur (.agg (clc c))=true:=by simp only[pur,clc,purs,purs_pth,Bool.and_self]
theorem rot3 (A B C:Hp):(A++(B++C)).Perm (B++(A++C)):=by
 rw[<-List.append_assoc,<-List.append_assoc];exact List.perm_append_comm.append_right C
theorem rot4 (M A C R:Hp):(M++(A++(C++R))).Perm (C++(R++(M++A))):=by
 rw[<-List.append_assoc,<-List.append_assoc C]
 exact List.perm_append_comm
theorem rot5 (C G N Q:Hp):(C++((G++N)++Q)).Perm (G++(N++(C++Q))):=by
 rw[List.append_assoc]
 refine(rot3 C G (N++Q)).trans (List.Perm.append_left G ?_)
 exact rot3 C N Q
theorem Rd_held {Z:Hp} {T:OT} {k:Nat} (ha:asm T\/T=zOT) (hm:∀p,p∈objs (mk1 k T)->p∈Z):Rd Z (.agg (otc T)) (.agg (tcs (er (mk1 k T)))):=by
 rw[<-mk1_otc k T];exact Rd_tree (mk1_shp k ha) hm
theorem Rd_heldM {Z:Hp} {L:List OM} {l:List Mk} {j k:Nat} (he:L.map erM=l) (h2:∀m,m∈L->m.id.isSome=true) (hm:∀p,p∈((2*j+1,fl omc (mkOM k L))::omos (mkOM k L))->p∈Z):Rd Z (.osl (2*j+1) 2 0 L.length) (.sl 2 ((mkMs k l).1.map mkc)):=by
 have h:=Rd_mk2 (mkOM_er L k) (mkOM_id L k h2) hm
 rw[mkOM_len,he]at h
 exact h
open Go Go.Proofs
set_option maxRecDepth 100000
set_option maxHeartbeats 8000000 in
theorem FnExactTrailDo_ok (t:Tr) (l:List Mk) (c:Cl) (hbt:bT t) (hml:l.length<2^63) (hm:∀m∈l,bP m.path) (hbc:bP c.path/\bP c.to/\c.data.length<2^63):PE G 4 [.agg (tcs t),.sl 2 (l.map mkc),.agg (clc c)] (.bool true):=by
 refine Pe Tryz.func4 ?_
 refine h_k [0,1,2] (F':=[(0,.agg (tcs t)),(1,.sl 2 (l.map mkc)),(2,.agg (clc c))]) kr ?_
 refine Rr (Fn2 [1] [(5,.ptr 4 0),(3,.ptr 0 0)] ([(4,clc c),(0,tcs t)]++·) 8 (h_k [1,3,5] (F':=[(1,.sl 2 (l.map mkc)),(3,.ptr 0 0),(5,.ptr 4 0)]) kr (Hn [(4,clc c),(0,tcs t)] (Rr ?_))))
 refine Fn0 [1,3,5] [(7,.i 1048576)] (h_k [1,3,5,7] (F':=[(1,.sl 2 (l.map mkc)),(3,.ptr 0 0),(5,.ptr 4 0),(7,.i 1048576)]) kr (Rr (Pc1 3 [(24,.i 1048576),(23,.agg (tcs t))] 25 (0+5<=5/\0<5) dc (szT_ok _ t rfl hbt 1048576 om om) (Fn0 [1,3,5] [(7,.i (sb 1048576 (t.W-1)))] ?_))))
 refine Sq fun K4 hK4=>?_
 refine h_k [1,3,5,7] (F':=[(1,.sl 2 (l.map mkc)),(3,.ptr 0 0),(5,.ptr 4 0),(7,.i (sb 1048576 (t.W-1)))]) kr ?_
 refine Rr (Cn1 (decide ((sb 1048576 (t.W-1):Int)<(0:Int))) [1,3,5,7] [] (Ki/\·) ⟨rfl,fun hc6 c6=>?_,fun hc6 c6=>?_⟩)
 refine h_k [1,3,5,7] (F':=[(1,.sl 2 (l.map mkc)),(3,.ptr 0 0),(5,.ptr 4 0),(7,.i (sb 1048576 (t.W-1)))]) kr ?_
 refine Rr (Fn0 [] [(6,.bool true)] (Rt (.bool true) ?_))
 exact fin_lea (lea_refl _)
 refine Sk (Jn (hK4 (Kp [1,3,5,7] (h_k [1,3,5,7] (F':=[(1,.sl 2 (l.map mkc)),(3,.ptr 0 0),(5,.ptr 4 0),(7,.i (sb 1048576 (t.W-1)))]) kr ?_))))
 have qc6:=sb_ge (l:=1048576) (n:=(t.W-1)) (by have h:=c6;omega)
 
 refine Rr (Pc0 3 [(29,.i (sb 1048576 (t.W-1))),(28,.sl 2 (l.map mkc))] 30 (szMs_ok l hml hm (sb 1048576 (t.W-1)) om om) (Fn0 [1,3,5] [(7,.i (sb (sb 1048576 (t.W-1)) (wM l)))] (Sq fun K9 hK9=>?_)))
 refine h_k [1,3,5,7] (F':=[(1,.sl 2 (l.map mkc)),(3,.ptr 0 0),(5,.ptr 4 0),(7,.i (sb (sb 1048576 (t.W-1)) (wM l)))]) kr ?_
 refine Rr (Cn1 (decide ((sb (sb 1048576 (t.W-1)) (wM l):Int)<(0:Int))) [1,3,5,7] [] (Ki/\·) ⟨rfl,fun hc11 c11=>?_,fun hc11 c11=>?_⟩)
 refine h_k [1,3,5,7] (F':=[(1,.sl 2 (l.map mkc)),(3,.ptr 0 0),(5,.ptr 4 0),(7,.i (sb (sb 1048576 (t.W-1)) (wM l)))]) kr ?_
 refine Rr (Fn0 [] [(6,.bool true)] (Rt (.bool true) ?_))
 exact fin_lea (lea_refl _)
 refine Sk (Jn (hK9 (Kp [1,3,5,7] (h_k [1,3,5,7] (F':=[(1,.sl 2 (l.map mkc)),(3,.ptr 0 0),(5,.ptr 4 0),(7,.i (sb (sb 1048576 (t.W-1)) (wM l)))]) kr ?_))))
 have qc6:=sb_ge (l:=1048576) (n:=(t.W-1)) (by have h:=c6;omega)
 have qc11:=sb_ge (l:=(sb 1048576 (t.W-1))) (n:=(wM l)) (by have h:=c11;omega)
 
 refine Rr (Pc1 3 [(34,.i (sb (sb 1048576 (t.W-1)) (wM l))),(33,.agg (clc c))] 35 (0+5<=5/\0<5) dc (szC_ok c hbc (sb (sb 1048576 (t.W-1)) (wM l)) om om) (Fn0 [1,3,5] [(7,.i (sb (sb (sb 1048576 (t.W-1)) (wM l)) (wS c.path+wS c.to+c.data.length)))] (Sq fun K14 hK14=>?_)))
 refine h_k [1,3,5,7] (F':=[(1,.sl 2 (l.map mkc)),(3,.ptr 0 0),(5,.ptr 4 0),(7,.i (sb (sb (sb 1048576 (t.W-1)) (wM l)) (wS c.path+wS c.to+c.data.length)))]) kr ?_
 refine Rr (Cn1 (decide ((sb (sb (sb 1048576 (t.W-1)) (wM l)) (wS c.path+wS c.to+c.data.length):Int)<(0:Int))) [1,3,5] [] (Ki/\·) ⟨rfl,fun hc16 c16=>?_,fun hc16 c16=>?_⟩)
 refine h_k [1,3,5] (F':=[(1,.sl 2 (l.map mkc)),(3,.ptr 0 0),(5,.ptr 4 0)]) kr ?_
 refine Rr (Fn0 [] [(6,.bool true)] (Rt (.bool true) ?_))
 exact fin_lea (lea_refl _)
 refine Sk (Jn (hK14 (Kp [1,3,5] (h_k [1,3,5] (F':=[(1,.sl 2 (l.map mkc)),(3,.ptr 0 0),(5,.ptr 4 0)]) kr ?_))))
 have qc6:=sb_ge (l:=1048576) (n:=(t.W-1)) (by have h:=c6;omega)
 have qc11:=sb_ge (l:=(sb 1048576 (t.W-1))) (n:=(wM l)) (by have h:=c11;omega)
 have qc16:=sb_ge (l:=(sb (sb 1048576 (t.W-1)) (wM l))) (n:=(wS c.path+wS c.to+c.data.length)) (by have h:=c16;omega)
 have hWp:=W_pos t
 have hWt:t.W<2^21:=by omega
 have hwl:wM l<2^21:=by omega
 have hwc:wS c.path+wS c.to+c.data.length<2^21:=by omega
 have hnl:=wM_len l
 have hl:∀m∈l,wS m.path<2^40:=fun m hm=>by have:=wM_mem hm;omega
 have hbl:∀m∈l,m.path.length<2^40:=fun m hm=>by have:=hl m hm;have:=wS_len m.path;omega
 have hp1:=wS_len c.path
 have hp2:=wS_len c.to
 have hWd:=W_tDo t l c om
 refine Qr [0,1,0,7,0,31,63,127,255,255,255,0,2559,7167,16383] [(0,[]),(2,[]),(4,[]),(1,[4]),(3,[4]),(5,[]),(6,[]),(7,[]),(8,[]),(9,[]),(10,[]),(11,[0,4]),(12,[]),(13,[]),(14,[])] (qBc1 4 [(43,.agg (clc c)),(41,.sl 2 (l.map mkc)),(39,.agg (tcs t))] [4] 10 [.agg (tcs t)] 40 ((0+5<=5/\0<5)/\(0+5<=5/\0<5)/\·) ⟨dc,dc,PE.use (toT_pe t om) (Kq (p:=(((0+5<=5/\0<5)/\(AV.agg (clc c)=(.agg (clc c):AV)))/\True)) ⟨⟨dc,rfl⟩,trivial⟩ (qBc0 1 [] [4] 22 [.sl 2 (l.map mkc)] 42 ?_))⟩)
 refine PE.use (toMs_pe l om hbl) ?_
 refine Kq (p:=(((0+5<=5/\0<5)/\(AV.agg (clc c)=(.agg (clc c):AV)))/\True)) ⟨⟨dc,rfl⟩,trivial⟩ ?_
 refine qBc0 1 [] [] 11 [.agg (clc c)] 44 ?_
 refine PE.use (toC_pe c om om) ?_
 refine Kq (p:=(True)) trivial ?_
 refine qBc0 1 [] [] 21 [.agg (tcs t),.sl 2 (l.map mkc),.agg (clc c)] 45 ?_
 refine PC.use (sTrailDo_ok t l c om om om om hl om) fun r hr=>?_
 obtain⟨l2,rfl,k0,k1⟩:=hr
 have hw2:=td_sm k0 k1
 have hb2:∀m∈l2,m.path.length<2^40:=fun m hm=>by have:=wM_mem hm;have:=wS_len m.path;omega
 have hn2:=wM_len l2
 refine Kq (p:=(True)) trivial ?_
 refine qFn3 [1,3,5] [(10,.i ((tDo t l c).2)),(9,.sl 2 (l2.map mkc)),(8,.ptr 8 0)] ([(8,tcs ((tDo t l c).1))]++·) 12 ((0<3)/\(1<3)/\(2<3)/\(((0+5<=5/\0<5)/\(AV.agg (tcs t)=(.agg (tcs t):AV)))/\((0+5<=5/\0<5)/\(AV.agg (clc c)=(.agg (clc c):AV)))/\True)/\(true=true/\5=5/\0+5<=5)/\(True)/\·) ⟨dc,dc,dc,⟨⟨dc,rfl⟩,⟨dc,rfl⟩,trivial⟩,dc,trivial,h_k [1,3,5,8,9,10] (F':=[(1,.sl 2 (l.map mkc)),(3,.ptr 0 0),(5,.ptr 4 0),(8,.ptr 8 0),(9,.sl 2 (l2.map mkc)),(10,.i ((tDo t l c).2))]) kr (Hn [(8,tcs ((tDo t l c).1)),(4,clc c),(0,tcs t)] (Rr (Bc1 2 [(49,.agg (tcs t))] 10 [.agg (tcs t)] 50 ((0+5<=5/\0<5)/\·) ⟨dc,?_⟩)))⟩
 refine TCall.mono (mk_use (View.refl _ _) (toT_ok _ t rfl om) fun r Z h=>h.nsl) ?_
 rintro _ H1 _ _ ⟨rfl,Z1,hH1,T0,he0,hs0,ha0,rfl,rfl⟩
 have hH2:H1=((8,tcs ((tDo t l c).1))::(4,clc c)::(0,tcs t)::(objs T0)):=by rw[hH1];(try simp only[List.cons_append,List.nil_append,List.append_assoc])
 clear hH1;subst hH2
 refine Ke (Fn3 [1,3,5,8,9,10] [(11,.ptr 12 0)] ([(12,otc T0)]++·) 16 ((true=true/\5=5/\0+5<=5)/\·) ⟨dc,h_k [1,3,5,8,9,10,11] (F':=[(1,.sl 2 (l.map mkc)),(3,.ptr 0 0),(5,.ptr 4 0),(8,.ptr 8 0),(9,.sl 2 (l2.map mkc)),(10,.i ((tDo t l c).2)),(11,.ptr 12 0)]) kr (Hn ((12,otc T0)::(8,tcs ((tDo t l c).1))::(4,clc c)::(0,tcs t)::(objs T0)) (Rr ?_))⟩)
 refine Bc0 2 [(51,.sl 2 (l.map mkc))] 22 [.sl 2 (l.map mkc)] 52 ?_
 refine TCall.mono (mk_use (View.refl _ _) (toMs_ok l om hbl) fun r Z h=>h.nsl) ?_
 rintro _ H1 _ _ ⟨rfl,Z1,hH1,j1,L1,hm1,hi1,rfl,rfl⟩
 have hH2:H1=((12,otc T0)::(8,tcs ((tDo t l c).1))::(4,clc c)::(0,tcs t)::(objs T0++((2*j1+1,fl omc L1)::omos L1))):=by rw[hH1];(try simp only[List.cons_append,List.nil_append,List.append_assoc])
 clear hH1;subst hH2
 refine Ke (Fn0 [1,3,5,8,9,10,11] [(12,.osl (2*j1+1) 2 0 L1.length)] (h_k [1,3,5,8,9,10,11,12] (F':=[(1,.sl 2 (l.map mkc)),(3,.ptr 0 0),(5,.ptr 4 0),(8,.ptr 8 0),(9,.sl 2 (l2.map mkc)),(10,.i ((tDo t l c).2)),(11,.ptr 12 0),(12,.osl (2*j1+1) 2 0 L1.length)]) kr (Rr (Bc1 2 [(53,.agg (clc c))] 11 [.agg (clc c)] 54 ((0+5<=5/\0<5)/\·) ⟨dc,?_⟩))))
 refine TCall.mono (mk_use (View.refl _ _) (toC_ok c om om) fun r Z h=>h.nsl) ?_
 rintro _ H1 _ _ ⟨rfl,Z1,hH1,a2,b2,rfl,rfl⟩
 have hH2:H1=((12,otc T0)::(8,tcs ((tDo t l c).1))::(4,clc c)::(0,tcs t)::(objs T0++(((2*j1+1,fl omc L1)::omos L1)++[(2*a2+1,fl sc c.path),(2*b2+1,fl sc c.to)]))):=by rw[hH1];(try simp only[List.cons_append,List.nil_append,List.append_assoc])
 clear hH1;subst hH2
 refine Ke (Fn3 [1,3,5,8,9,10,11,12] [(13,.ptr 16 0)] ([(16,occ c a2 b2)]++·) 20 ((true=true/\5=5/\0+5<=5)/\·) ⟨dc,h_k [1,3,5,8,9,10,11,12,13] (F':=[(1,.sl 2 (l.map mkc)),(3,.ptr 0 0),(5,.ptr 4 0),(8,.ptr 8 0),(9,.sl 2 (l2.map mkc)),(10,.i ((tDo t l c).2)),(11,.ptr 12 0),(12,.osl (2*j1+1) 2 0 L1.length),(13,.ptr 16 0)]) kr (Hn ((16,occ c a2 b2)::(12,otc T0)::(8,tcs ((tDo t l c).1))::(4,clc c)::(0,tcs t)::(objs T0++(((2*j1+1,fl omc L1)::omos L1)++[(2*a2+1,fl sc c.path),(2*b2+1,fl sc c.to)]))) (Rr ?_))⟩)
 refine Bc1 4 [(58,.agg (occ c a2 b2)),(57,.osl (2*j1+1) 2 0 L1.length),(56,.agg (otc T0))] 23 [.agg (otc T0),.osl (2*j1+1) 2 0 L1.length,.agg (occ c a2 b2)] 59 ((0+5<=5/\0<5)/\(0+5<=5/\0<5)/\·) ⟨dc,dc,?_⟩
 refine TCall.mono (mk_use (vw_rd (Z:=(objs T0++(((2*j1+1,fl omc L1)::omos L1)++[(2*a2+1,fl sc c.path),(2*b2+1,fl sc c.to)]))) (show Rds (objs T0++(((2*j1+1,fl omc L1)::omos L1)++[(2*a2+1,fl sc c.path),(2*b2+1,fl sc c.to)])) _ [.agg (tcs t),.sl 2 (l.map mkc),.agg (clc c)]from⟨Rd_tr he0 hs0 (fun p hp=>by simp only[List.mem_append,hp,true_or,or_true]),Rd_mk2 hm1 hi1 (fun p hp=>by simp only[List.mem_append,hp,true_or,or_true]),Rd_call (fun p hp=>by simp only[List.mem_append,hp,true_or,or_true]),trivial⟩) (fun p hp=>List.mem_append_right [(16,occ c a2 b2),(12,otc T0),(8,tcs ((tDo t l c).1)),(4,clc c),(0,tcs t)] hp)) (TrailDod_ok t l c om om om om hl om) fun r Z h=>h.nsl) ?_
 rintro _ H1 _ _ ⟨rfl,Z1,hH1,Tg,jg,Lg,heg,hsg,hag,hig,rfl,rfl,g0,g1⟩
 have hH2:H1=((16,occ c a2 b2)::(12,otc T0)::(8,tcs ((tDo t l c).1))::(4,clc c)::(0,tcs t)::(objs T0++(((2*j1+1,fl omc L1)::omos L1)++([(2*a2+1,fl sc c.path),(2*b2+1,fl sc c.to)]++(objs Tg++((2*jg+1,fl omc Lg)::omos Lg)))))):=by rw[hH1];(try simp only[List.cons_append,List.nil_append,List.append_assoc])
 clear hH1;subst hH2
 have hLg:Lg.map erM=l2:=td_det g0 g1 k0 k1
 have hzA:odH (objs T0++(((2*j1+1,fl omc L1)::omos L1)++([(2*a2+1,fl sc c.path),(2*b2+1,fl sc c.to)]++(objs Tg++((2*jg+1,fl omc Lg)::omos Lg))))):=odH_app.2 ⟨odH_objs _,odH_app.2 ⟨⟨om,ods_flOM _,odH_omos _⟩,odH_app.2 ⟨⟨om,ods_flS _,om,ods_flS _,trivial⟩,odH_app.2 ⟨odH_objs _,om,ods_flOM _,odH_omos _⟩⟩⟩⟩
 have m0:∀p,p∈objs T0->p∈(objs T0++(((2*j1+1,fl omc L1)::omos L1)++([(2*a2+1,fl sc c.path),(2*b2+1,fl sc c.to)]++(objs Tg++((2*jg+1,fl omc Lg)::omos Lg))))):=fun p hp=>List.mem_append_left _ hp
 have m1:∀p,p∈((2*j1+1,fl omc L1)::omos L1)->p∈(objs T0++(((2*j1+1,fl omc L1)::omos L1)++([(2*a2+1,fl sc c.path),(2*b2+1,fl sc c.to)]++(objs Tg++((2*jg+1,fl omc Lg)::omos Lg))))):=fun p hp=>List.mem_append_right _ (List.mem_append_left _ hp)
 have m2:∀p,p∈[(2*a2+1,fl sc c.path),(2*b2+1,fl sc c.to)]->p∈(objs T0++(((2*j1+1,fl omc L1)::omos L1)++([(2*a2+1,fl sc c.path),(2*b2+1,fl sc c.to)]++(objs Tg++((2*jg+1,fl omc Lg)::omos Lg))))):=fun p hp=>List.mem_append_right _ (List.mem_append_right _ (List.mem_append_left _ hp))
 have mg:∀p,p∈objs Tg->p∈(objs T0++(((2*j1+1,fl omc L1)::omos L1)++([(2*a2+1,fl sc c.path),(2*b2+1,fl sc c.to)]++(objs Tg++((2*jg+1,fl omc Lg)::omos Lg))))):=fun p hp=>List.mem_append_right _ (List.mem_append_right _ (List.mem_append_right _ (List.mem_append_left _ hp)))
 have mm:∀p,p∈((2*jg+1,fl omc Lg)::omos Lg)->p∈(objs T0++(((2*j1+1,fl omc L1)::omos L1)++([(2*a2+1,fl sc c.path),(2*b2+1,fl sc c.to)]++(objs Tg++((2*jg+1,fl omc Lg)::omos Lg))))):=fun p hp=>List.mem_append_right _ (List.mem_append_right _ (List.mem_append_right _ (List.mem_append_right _ hp)))
 obtain⟨ZA,hZA⟩:∃Y:Hp,Y=(objs T0++(((2*j1+1,fl omc L1)::omos L1)++([(2*a2+1,fl sc c.path),(2*b2+1,fl sc c.to)]++(objs Tg++((2*jg+1,fl omc Lg)::omos Lg))))):=⟨_,rfl⟩
 have pA:List.Perm ZA (objs T0++(((2*j1+1,fl omc L1)::omos L1)++([(2*a2+1,fl sc c.path),(2*b2+1,fl sc c.to)]++(objs Tg++((2*jg+1,fl omc Lg)::omos Lg))))):=hZA▸List.Perm.refl _
 rw[<-hZA]at hzA m0 m1 m2 mg mm⊢
 clear hZA
 refine Ke (Fn3 [1,3,5,8,9,10,11,12,13] [(16,.i ((tDo t l c).2)),(15,.osl (2*jg+1) 2 0 Lg.length),(14,.ptr 20 0)] ([(20,otc Tg)]++·) 24 ((0<3)/\(1<3)/\(2<3)/\(true=true/\5=5/\0+5<=5)/\·) ⟨dc,dc,dc,dc,Sq fun K23 hK23=>?_⟩)
 refine h_k [1,3,5,8,9,10,11,12,13,14,15,16] (F':=[(1,.sl 2 (l.map mkc)),(3,.ptr 0 0),(5,.ptr 4 0),(8,.ptr 8 0),(9,.sl 2 (l2.map mkc)),(10,.i ((tDo t l c).2)),(11,.ptr 12 0),(12,.osl (2*j1+1) 2 0 L1.length),(13,.ptr 16 0),(14,.ptr 20 0),(15,.osl (2*jg+1) 2 0 Lg.length),(16,.i ((tDo t l c).2))]) kr ?_
 refine Hn ((20,otc Tg)::(16,occ c a2 b2)::(12,otc T0)::(8,tcs ((tDo t l c).1))::(4,clc c)::(0,tcs t)::ZA) (Rr (Bc1 3 [(64,.agg (tcs ((tDo t l c).1))),(63,.agg (otc Tg))] 14 [.agg (otc Tg),.agg (tcs ((tDo t l c).1))] 65 ((0+5<=5/\0<5)/\(0+5<=5/\0<5)/\·) ⟨dc,dc,PE.useB (vw_rd (Z:=ZA) (show Rds ZA _ [.agg (tcs ((tDo t l c).1)),.agg (tcs ((tDo t l c).1))]from⟨Rd_tr heg hsg mg,Rd_pur (pur_t _),trivial⟩) (fun p hp=>List.mem_append_right [(20,otc Tg),(16,occ c a2 b2),(12,otc T0),(8,tcs ((tDo t l c).1)),(4,clc c),(0,tcs t)] hp)) (eqT_ok _ ((tDo t l c).1) rfl om) rfl (Ke ?_)⟩))
 refine Bc0 5 [(69,.sl 2 (l2.map mkc)),(68,.osl (2*jg+1) 2 0 Lg.length),(67,.bool false),(66,.bool false)] 24 [.osl (2*jg+1) 2 0 Lg.length,.sl 2 (l2.map mkc)] 70 ?_
 refine PE.useB (vw_rd (Z:=ZA) (show Rds ZA _ [.sl 2 (l2.map mkc),.sl 2 (l2.map mkc)]from⟨Rd_mk2 hLg hig mm,Rd_pur (pur_m _),trivial⟩) (fun p hp=>List.mem_append_right [(20,otc Tg),(16,occ c a2 b2),(12,otc T0),(8,tcs ((tDo t l c).1)),(4,clc c),(0,tcs t)] hp)) (eqMs_ok l2 om hb2) rfl ?_
 refine Ke (Av1 (r:=.bool (!decide (((tDo t l c).2:Int)=((tDo t l c).2:Int)))) (v:=.bool false) 6 76 [(75,.i ((tDo t l c).2)),(74,.i ((tDo t l c).2)),(73,.bool false),(72,.bool false),(71,.bool false)] (congrArg AV.bool (by simp)) (Ki/\·) ⟨rfl,Fn0 [1,3,5,8,9,10,11,12,13,14,15,16] [(77,.bool false)] (Cf (Sk (Jn (hK23 (Kp [1,3,5,8,9,10,11,12,13,14,15,16] ?_)))))⟩)
 refine Sq fun K25 hK25=>?_
 refine h_k [1,3,5,8,9,10,11,12,13,14,15,16] (F':=[(1,.sl 2 (l.map mkc)),(3,.ptr 0 0),(5,.ptr 4 0),(8,.ptr 8 0),(9,.sl 2 (l2.map mkc)),(10,.i ((tDo t l c).2)),(11,.ptr 12 0),(12,.osl (2*j1+1) 2 0 L1.length),(13,.ptr 16 0),(14,.ptr 20 0),(15,.osl (2*jg+1) 2 0 Lg.length),(16,.i ((tDo t l c).2))]) kr ?_
 refine Qr [0,0,2,7,15] [(0,[]),(1,[]),(2,[0]),(3,[]),(4,[])] (qBc1 3 [(79,.agg (tcs t)),(78,.agg (otc T0))] [0] 10 [.agg (tcs t)] 80 ((0+5<=5/\0<5)/\(0+5<=5/\0<5)/\·) ⟨dc,dc,PE.use (toT_pe t om) (Kq (p:=(((0+5<=5/\0<5)/\(AV.agg (otc T0)=(.agg (otc T0):AV)))/\True)) ⟨⟨dc,rfl⟩,trivial⟩ (qBc0 1 [] [] 14 [.agg (otc T0),.agg (tcs t)] 81 ?_))⟩)
 refine PE.useB (vw_rd (Z:=ZA) (show Rds ZA _ [.agg (tcs t),.agg (tcs t)]from⟨Rd_tr he0 hs0 m0,Rd_pur (pur_t _),trivial⟩) (fun p hp=>List.mem_append_right [(20,otc Tg),(16,occ c a2 b2),(12,otc T0),(8,tcs ((tDo t l c).1)),(4,clc c),(0,tcs t)] hp)) (eqT_ok _ t rfl om) rfl ?_
 refine Kq (p:=(True)) trivial ?_
 refine qFn0 [1,3,5,8,9,10,11,12,13,14,15,16] [(82,.bool false)] (Cf (Sk (Jn (hK25 (Kp [1,3,5,8,9,10,11,12,13,14,15,16] (Sq fun K27 hK27=>?_))))))
 refine h_k [1,3,5,8,9,10,11,12,13,14,15,16] (F':=[(1,.sl 2 (l.map mkc)),(3,.ptr 0 0),(5,.ptr 4 0),(8,.ptr 8 0),(9,.sl 2 (l2.map mkc)),(10,.i ((tDo t l c).2)),(11,.ptr 12 0),(12,.osl (2*j1+1) 2 0 L1.length),(13,.ptr 16 0),(14,.ptr 20 0),(15,.osl (2*jg+1) 2 0 Lg.length),(16,.i ((tDo t l c).2))]) kr ?_
 refine Rr (Pc0 3 [(84,.sl 2 (l.map mkc)),(83,.osl (2*j1+1) 2 0 L1.length)] 85 (toMs_pe l om hbl) (Bc0 1 [] 24 [.osl (2*j1+1) 2 0 L1.length,.sl 2 (l.map mkc)] 86 (PE.useB (vw_rd (Z:=ZA) (show Rds ZA _ [.sl 2 (l.map mkc),.sl 2 (l.map mkc)]from⟨Rd_mk2 hm1 hi1 m1,Rd_pur (pur_m _),trivial⟩) (fun p hp=>List.mem_append_right [(20,otc Tg),(16,occ c a2 b2),(12,otc T0),(8,tcs ((tDo t l c).1)),(4,clc c),(0,tcs t)] hp)) (eqMs_ok l om hbl) rfl (Ke ?_))))
 refine Fn0 [1,3,5,8,9,10,11,12,13,14,15,16] [(87,.bool false)] (Cf (Sk (Jn (hK27 (Kp [1,3,5,8,9,10,11,12,13,14,15,16] (Sq fun K29 hK29=>?_))))))
 refine h_k [1,3,5,8,9,10,11,12,13,14,15,16] (F':=[(1,.sl 2 (l.map mkc)),(3,.ptr 0 0),(5,.ptr 4 0),(8,.ptr 8 0),(9,.sl 2 (l2.map mkc)),(10,.i ((tDo t l c).2)),(11,.ptr 12 0),(12,.osl (2*j1+1) 2 0 L1.length),(13,.ptr 16 0),(14,.ptr 20 0),(15,.osl (2*jg+1) 2 0 Lg.length),(16,.i ((tDo t l c).2))]) kr ?_
 refine Qr [0,0,2,7,15] [(0,[]),(1,[]),(2,[0]),(3,[]),(4,[])] (qBc1 3 [(89,.agg (clc c)),(88,.agg (occ c a2 b2))] [0] 11 [.agg (clc c)] 90 ((0+5<=5/\0<5)/\(0+5<=5/\0<5)/\·) ⟨dc,dc,PE.use (toC_pe c om om) (Kq (p:=(((0+5<=5/\0<5)/\(AV.agg (occ c a2 b2)=(.agg (occ c a2 b2):AV)))/\True)) ⟨⟨dc,rfl⟩,trivial⟩ (qBc0 1 [] [] 15 [.agg (occ c a2 b2),.agg (clc c)] 91 ?_))⟩)
 refine PE.useB (vw_rd (Z:=ZA) (show Rds ZA _ [.agg (clc c),.agg (clc c)]from⟨Rd_call m2,Rd_pur (pur_c _),trivial⟩) (fun p hp=>List.mem_append_right [(20,otc Tg),(16,occ c a2 b2),(12,otc T0),(8,tcs ((tDo t l c).1)),(4,clc c),(0,tcs t)] hp)) (eqC_ok c om om) rfl ?_
 refine Kq (p:=(True)) trivial ?_
 refine qFn0 [1,3,5,8,9,10,11,12,13,14,15,16] [(92,.bool false)] (Cf (Sk (Jn (hK29 (Kp [1,3,5,8,9,10,11,12,13,14,15,16] (h_k [1,3,5,8,9,10,11,12,13,14,15,16] (F':=[(1,.sl 2 (l.map mkc)),(3,.ptr 0 0),(5,.ptr 4 0),(8,.ptr 8 0),(9,.sl 2 (l2.map mkc)),(10,.i ((tDo t l c).2)),(11,.ptr 12 0),(12,.osl (2*j1+1) 2 0 L1.length),(13,.ptr 16 0),(14,.ptr 20 0),(15,.osl (2*jg+1) 2 0 Lg.length),(16,.i ((tDo t l c).2))]) kr (Rr ?_)))))))
 refine Fn0 [1,3,5,8,9,10,11,12,13,14,15,16] [(17,.i 1)] (h_k [1,3,5,8,9,10,11,12,13,14,15,16,17] (F':=[(1,.sl 2 (l.map mkc)),(3,.ptr 0 0),(5,.ptr 4 0),(8,.ptr 8 0),(9,.sl 2 (l2.map mkc)),(10,.i ((tDo t l c).2)),(11,.ptr 12 0),(12,.osl (2*j1+1) 2 0 L1.length),(13,.ptr 16 0),(14,.ptr 20 0),(15,.osl (2*jg+1) 2 0 Lg.length),(16,.i ((tDo t l c).2)),(17,.i 1)]) kr ?_)
 have hW0:(er T0).W=t.W:=by rw[he0]
 have hWe:=W_eq (er T0)
 have hnl0:=wS_len (er T0).names
 have hk0:=mkTs_le (er T0).kids (1+(er T0).names.length)
 have hk1:=mkMs_le l (mkTs (1+(er T0).names.length) (er T0).kids).2
 have hWg:(er Tg).W=(tDo t l c).1.W:=by rw[heg]
 have hWge:=W_eq (er Tg)
 have hnlg:=wS_len (er Tg).names
 have hkg:=mkTs_le (er Tg).kids (1+(er Tg).names.length)
 have hkm:=mkMs_le l2 (mkTs (1+(er Tg).names.length) (er Tg).kids).2
 refine Rr (Bc1 3 [(94,.i 1),(93,.agg (otc T0))] 17 [.agg (otc T0),.i 1] 95 ((0+5<=5/\0<5)/\·) ⟨dc,TCall_le [.agg (otc T0),.i 1] (leas_refl _) (DC.use (mkTa_ok 1 (.inl ha0) om hzA pA) [(20,otc Tg),(16,occ c a2 b2),(12,otc T0),(8,tcs ((tDo t l c).1)),(4,clc c),(0,tcs t)] rfl ⟨rfl,⟨rfl,⟨rfl,⟨rfl,⟨rfl,⟨rfl,trivial⟩⟩⟩⟩⟩⟩ ?_)⟩)
 rintro _ Z1 ⟨rfl,hp1,hz1⟩
 refine Ke (Fn0 [1,3,5,8,9,10,12,13,14,15,16] [(17,.i (((mkTs (1+(er T0).names.length) (er T0).kids).2:Nat):Int))] (h_k [1,3,5,8,9,10,12,13,14,15,16,17] (F':=[(1,.sl 2 (l.map mkc)),(3,.ptr 0 0),(5,.ptr 4 0),(8,.ptr 8 0),(9,.sl 2 (l2.map mkc)),(10,.i ((tDo t l c).2)),(12,.osl (2*j1+1) 2 0 L1.length),(13,.ptr 16 0),(14,.ptr 20 0),(15,.osl (2*jg+1) 2 0 Lg.length),(16,.i ((tDo t l c).2)),(17,.i (((mkTs (1+(er T0).names.length) (er T0).kids).2:Nat):Int))]) kr (Rr (Bc0 3 [(97,.i (((mkTs (1+(er T0).names.length) (er T0).kids).2:Nat):Int)),(96,.osl (2*j1+1) 2 0 L1.length)] 25 [.osl (2*j1+1) 2 0 L1.length,.i (((mkTs (1+(er T0).names.length) (er T0).kids).2:Nat):Int)] 98 ?_))))
 refine DC.use (mkMs_ok L1 (mkTs (1+(er T0).names.length) (er T0).kids).2 j1 hi1 (by rw[hm1];omega) hz1 (hp1.trans (rot3 _ _ _))) [(20,otc Tg),(16,occ c a2 b2),(12,otc T0),(8,tcs ((tDo t l c).1)),(4,clc c),(0,tcs t)] rfl ⟨rfl,⟨rfl,⟨rfl,⟨rfl,⟨rfl,⟨rfl,trivial⟩⟩⟩⟩⟩⟩ ?_
 rintro _ Z2 ⟨rfl,hp2,hz2⟩
 rw[hm1]
 refine Ke (Fn0 [1,3,5,8,9,10,13,14,15,16] [(17,.i (((mkMs (mkTs (1+(er T0).names.length) (er T0).kids).2 l).2:Nat):Int))] (h_k [1,3,5,8,9,10,13,14,15,16,17] (F':=[(1,.sl 2 (l.map mkc)),(3,.ptr 0 0),(5,.ptr 4 0),(8,.ptr 8 0),(9,.sl 2 (l2.map mkc)),(10,.i ((tDo t l c).2)),(13,.ptr 16 0),(14,.ptr 20 0),(15,.osl (2*jg+1) 2 0 Lg.length),(16,.i ((tDo t l c).2)),(17,.i (((mkMs (mkTs (1+(er T0).names.length) (er T0).kids).2 l).2:Nat):Int))]) kr (Rr (Bc1 3 [(100,.i (((mkMs (mkTs (1+(er T0).names.length) (er T0).kids).2 l).2:Nat):Int)),(99,.agg (occ c a2 b2))] 18 [.agg (occ c a2 b2),.i (((mkMs (mkTs (1+(er T0).names.length) (er T0).kids).2 l).2:Nat):Int)] 101 ((0+5<=5/\0<5)/\·) ⟨dc,?_⟩))))
 have hpc:Z2.Perm ([(2*a2+1,fl sc c.path),(2*b2+1,fl sc c.to)]++((objs Tg++((2*jg+1,fl omc Lg)::omos Lg))++(((2*j1+1,fl omc (mkOM (mkTs (1+(er T0).names.length) (er T0).kids).2 L1))::omos (mkOM (mkTs (1+(er T0).names.length) (er T0).kids).2 L1))++objs (mk1 1 T0)))):=hp2.trans (rot4 ((2*j1+1,fl omc (mkOM (mkTs (1+(er T0).names.length) (er T0).kids).2 L1))::omos (mkOM (mkTs (1+(er T0).names.length) (er T0).kids).2 L1)) (objs (mk1 1 T0)) [(2*a2+1,fl sc c.path),(2*b2+1,fl sc c.to)] (objs Tg++((2*jg+1,fl omc Lg)::omos Lg)))
 refine DC.use (mkC_ok (cc:=c) (a:=a2) (c:=b2) (W:=(objs Tg++((2*jg+1,fl omc Lg)::omos Lg))++(((2*j1+1,fl omc (mkOM (mkTs (1+(er T0).names.length) (er T0).kids).2 L1))::omos (mkOM (mkTs (1+(er T0).names.length) (er T0).kids).2 L1))++objs (mk1 1 T0))) (mkMs (mkTs (1+(er T0).names.length) (er T0).kids).2 l).2 om hz2 hpc) [(20,otc Tg),(16,occ c a2 b2),(12,otc T0),(8,tcs ((tDo t l c).1)),(4,clc c),(0,tcs t)] rfl ⟨rfl,⟨rfl,⟨rfl,⟨rfl,⟨rfl,⟨rfl,trivial⟩⟩⟩⟩⟩⟩ ?_
 rintro _ Z3 ⟨rfl,hp3,hz3⟩
 refine Ke (Fn0 [1,3,5,8,9,10,14,15,16] [(17,.i (((mkMs (mkTs (1+(er T0).names.length) (er T0).kids).2 l).2+c.path.length+c.to.length:Nat):Int))] (Sq fun K35 hK35=>?_))
 refine h_k [1,3,5,8,9,10,14,15,16,17] (F':=[(1,.sl 2 (l.map mkc)),(3,.ptr 0 0),(5,.ptr 4 0),(8,.ptr 8 0),(9,.sl 2 (l2.map mkc)),(10,.i ((tDo t l c).2)),(14,.ptr 20 0),(15,.osl (2*jg+1) 2 0 Lg.length),(16,.i ((tDo t l c).2)),(17,.i (((mkMs (mkTs (1+(er T0).names.length) (er T0).kids).2 l).2+c.path.length+c.to.length:Nat):Int))]) kr ?_
 refine Rr (Av1 (r:=.bool (decide ((((mkMs (mkTs (1+(er T0).names.length) (er T0).kids).2 l).2+c.path.length+c.to.length:Nat):Int)<0))) (v:=.bool false) 2 103 [(102,.i (((mkMs (mkTs (1+(er T0).names.length) (er T0).kids).2 l).2+c.path.length+c.to.length:Nat):Int))] (congrArg AV.bool (decide_eq_false om)) (Ki/\·) ⟨rfl,Bc1 4 [(106,.agg (tcs ((tDo t l c).1))),(105,.agg (otc Tg)),(104,.bool false)] 14 [.agg (otc Tg),.agg (tcs ((tDo t l c).1))] 107 ((0+5<=5/\0<5)/\(0+5<=5/\0<5)/\·) ⟨dc,dc,PE.useB (vw_rd (Z:=Z3) (show Rds Z3 _ [.agg (tcs ((tDo t l c).1)),.agg (tcs ((tDo t l c).1))]from⟨Rd_tr heg hsg (fun p hp=>hp3.mem_iff.2 (by simp only[List.mem_cons,List.mem_append,hp,true_or,or_true])),Rd_pur (pur_t _),trivial⟩) (fun p hp=>List.mem_append_right [(20,otc Tg),(16,occ c a2 b2),(12,otc T0),(8,tcs ((tDo t l c).1)),(4,clc c),(0,tcs t)] hp)) (eqT_ok _ ((tDo t l c).1) rfl om) rfl (Ke ?_)⟩⟩)
 refine Bc0 6 [(112,.sl 2 (l2.map mkc)),(111,.osl (2*jg+1) 2 0 Lg.length),(110,.bool false),(109,.bool false),(108,.bool false)] 24 [.osl (2*jg+1) 2 0 Lg.length,.sl 2 (l2.map mkc)] 113 ?_
 refine PE.useB (vw_rd (Z:=Z3) (show Rds Z3 _ [.sl 2 (l2.map mkc),.sl 2 (l2.map mkc)]from⟨Rd_mk2 hLg hig (fun p hp=>hp3.mem_iff.2 (List.mem_cons_of_mem _ (List.mem_cons_of_mem _ (List.mem_append_left _ (List.mem_append_right _ hp))))),Rd_pur (pur_m _),trivial⟩) (fun p hp=>List.mem_append_right [(20,otc Tg),(16,occ c a2 b2),(12,otc T0),(8,tcs ((tDo t l c).1)),(4,clc c),(0,tcs t)] hp)) (eqMs_ok l2 om hb2) rfl ?_
 refine Ke (Av1 (r:=.bool (!decide (((tDo t l c).2:Int)=((tDo t l c).2:Int)))) (v:=.bool false) 6 119 [(118,.i ((tDo t l c).2)),(117,.i ((tDo t l c).2)),(116,.bool false),(115,.bool false),(114,.bool false)] (congrArg AV.bool (by simp)) (Ki/\·) ⟨rfl,Fn0 [1,3,5,8,9,10,14,15] [(120,.bool false)] (Cf (Sk (Jn (hK35 (Kp [1,3,5,8,9,10,14,15] ?_)))))⟩)
 refine h_k [1,3,5,8,9,10,14,15] (F':=[(1,.sl 2 (l.map mkc)),(3,.ptr 0 0),(5,.ptr 4 0),(8,.ptr 8 0),(9,.sl 2 (l2.map mkc)),(10,.i ((tDo t l c).2)),(14,.ptr 20 0),(15,.osl (2*jg+1) 2 0 Lg.length)]) kr ?_
 refine Rr (Fn0 [1,3,5,8,9,10,14,15] [(18,.i 1)] (h_k [1,3,5,8,9,10,14,15,18] (F':=[(1,.sl 2 (l.map mkc)),(3,.ptr 0 0),(5,.ptr 4 0),(8,.ptr 8 0),(9,.sl 2 (l2.map mkc)),(10,.i ((tDo t l c).2)),(14,.ptr 20 0),(15,.osl (2*jg+1) 2 0 Lg.length),(18,.i 1)]) kr (Rr (Bc1 3 [(122,.i 1),(121,.agg (otc Tg))] 17 [.agg (otc Tg),.i 1] 123 ((0+5<=5/\0<5)/\·) ⟨dc,?_⟩))))
 refine TCall_le [.agg (otc Tg),.i 1] (leas_refl _) ?_
 refine DC.use (mkTa_ok 1 hag om hz3 (hp3.trans (rot5 [_,_] _ _ _))) [(20,otc Tg),(16,occ c a2 b2),(12,otc T0),(8,tcs ((tDo t l c).1)),(4,clc c),(0,tcs t)] rfl ⟨rfl,⟨rfl,⟨rfl,⟨rfl,⟨rfl,⟨rfl,trivial⟩⟩⟩⟩⟩⟩ ?_
 rintro _ Z4 ⟨rfl,hp4,hz4⟩
 refine Ke (Fn0 [1,3,5,8,9,10,14,15] [(18,.i (((mkTs (1+(er Tg).names.length) (er Tg).kids).2:Nat):Int))] (h_k [1,3,5,8,9,10,14,15,18] (F':=[(1,.sl 2 (l.map mkc)),(3,.ptr 0 0),(5,.ptr 4 0),(8,.ptr 8 0),(9,.sl 2 (l2.map mkc)),(10,.i ((tDo t l c).2)),(14,.ptr 20 0),(15,.osl (2*jg+1) 2 0 Lg.length),(18,.i (((mkTs (1+(er Tg).names.length) (er Tg).kids).2:Nat):Int))]) kr (Rr (Bc0 3 [(125,.i (((mkTs (1+(er Tg).names.length) (er Tg).kids).2:Nat):Int)),(124,.osl (2*jg+1) 2 0 Lg.length)] 25 [.osl (2*jg+1) 2 0 Lg.length,.i (((mkTs (1+(er Tg).names.length) (er Tg).kids).2:Nat):Int)] 126 ?_))))
 refine DC.use (mkMs_ok Lg (mkTs (1+(er Tg).names.length) (er Tg).kids).2 jg hig (by rw[hLg];omega) hz4 (hp4.trans (rot3 _ _ _))) [(20,otc Tg),(16,occ c a2 b2),(12,otc T0),(8,tcs ((tDo t l c).1)),(4,clc c),(0,tcs t)] rfl ⟨rfl,⟨rfl,⟨rfl,⟨rfl,⟨rfl,⟨rfl,trivial⟩⟩⟩⟩⟩⟩ ?_
 rintro _ Z5 ⟨rfl,hp5,hz5⟩
 rw[hLg]
 refine Ke (Fn0 [1,3,5,8,9,10,14,15] [(18,.i (((mkMs (mkTs (1+(er Tg).names.length) (er Tg).kids).2 l2).2:Nat):Int))] (h_k [1,3,5,8,9,10,14,15,18] (F':=[(1,.sl 2 (l.map mkc)),(3,.ptr 0 0),(5,.ptr 4 0),(8,.ptr 8 0),(9,.sl 2 (l2.map mkc)),(10,.i ((tDo t l c).2)),(14,.ptr 20 0),(15,.osl (2*jg+1) 2 0 Lg.length),(18,.i (((mkMs (mkTs (1+(er Tg).names.length) (er Tg).kids).2 l2).2:Nat):Int))]) kr (Rr (Fn0 [1,3,5,8,9,10,14,15,18] [(19,.i 1)] ?_))))
 refine h_k [1,3,5,8,9,10,14,15,18,19] (F':=[(1,.sl 2 (l.map mkc)),(3,.ptr 0 0),(5,.ptr 4 0),(8,.ptr 8 0),(9,.sl 2 (l2.map mkc)),(10,.i ((tDo t l c).2)),(14,.ptr 20 0),(15,.osl (2*jg+1) 2 0 Lg.length),(18,.i (((mkMs (mkTs (1+(er Tg).names.length) (er Tg).kids).2 l2).2:Nat):Int)),(19,.i 1)]) kr ?_
 refine Rr (Bc1 3 [(128,.i 1),(127,.agg (otc Tg))] 26 [.agg (otc Tg),.i 1] 129 ((0+5<=5/\0<5)/\·) ⟨dc,TCall_le [.agg (otc Tg),.i 1] (leas_refl _) (PE.useB (vw_rd (Z:=Z5) (show Rds Z5 _ [.agg (tcs (er (mk1 1 Tg))),.i 1]from⟨Rd_held hag (fun p hp=>hp5.mem_iff.2 (by simp only[List.mem_cons,List.mem_append,hp,true_or,or_true])),Rd_pur rfl,trivial⟩) (fun p hp=>List.mem_append_right [(20,otc Tg),(16,occ c a2 b2),(12,otc T0),(8,tcs ((tDo t l c).1)),(4,clc c),(0,tcs t)] hp)) (by rw[mk1_er];exact heT_ok (er Tg) 1 om) rfl (Ke ?_))⟩)
 refine Fn0 [1,3,5,8,9,10,14,15,18] [(19,.i (((mkTs (1+(er Tg).names.length) (er Tg).kids).2:Nat):Int))] (Sq fun K42 hK42=>?_)
 refine h_k [1,3,5,8,9,10,14,15,18,19] (F':=[(1,.sl 2 (l.map mkc)),(3,.ptr 0 0),(5,.ptr 4 0),(8,.ptr 8 0),(9,.sl 2 (l2.map mkc)),(10,.i ((tDo t l c).2)),(14,.ptr 20 0),(15,.osl (2*jg+1) 2 0 Lg.length),(18,.i (((mkMs (mkTs (1+(er Tg).names.length) (er Tg).kids).2 l2).2:Nat):Int)),(19,.i (((mkTs (1+(er Tg).names.length) (er Tg).kids).2:Nat):Int))]) kr ?_
 refine Rr (Av1 (r:=.bool (decide ((((mkTs (1+(er Tg).names.length) (er Tg).kids).2:Nat):Int)<0))) (v:=.bool false) 2 131 [(130,.i (((mkTs (1+(er Tg).names.length) (er Tg).kids).2:Nat):Int))] (congrArg AV.bool (decide_eq_false om)) (Ki/\·) ⟨rfl,Fn0 [1,3,5,8,9,10,14,15,18,19,131] [] (Cf (Sk (Jn (hK42 (Kp [1,3,5,8,9,10,14,15,18,19] ?_)))))⟩)
 refine h_k [1,3,5,8,9,10,14,15,18,19] (F':=[(1,.sl 2 (l.map mkc)),(3,.ptr 0 0),(5,.ptr 4 0),(8,.ptr 8 0),(9,.sl 2 (l2.map mkc)),(10,.i ((tDo t l c).2)),(14,.ptr 20 0),(15,.osl (2*jg+1) 2 0 Lg.length),(18,.i (((mkMs (mkTs (1+(er Tg).names.length) (er Tg).kids).2 l2).2:Nat):Int)),(19,.i (((mkTs (1+(er Tg).names.length) (er Tg).kids).2:Nat):Int))]) kr ?_
 refine Rr (Bc0 3 [(133,.i (((mkTs (1+(er Tg).names.length) (er Tg).kids).2:Nat):Int)),(132,.osl (2*jg+1) 2 0 Lg.length)] 27 [.osl (2*jg+1) 2 0 Lg.length,.i (((mkTs (1+(er Tg).names.length) (er Tg).kids).2:Nat):Int)] 134 (PE.useB (vw_rd (Z:=Z5) (show Rds Z5 _ [.sl 2 ((mkMs (mkTs (1+(er Tg).names.length) (er Tg).kids).2 l2).1.map mkc),.i (((mkTs (1+(er Tg).names.length) (er Tg).kids).2:Nat):Int)]from⟨Rd_heldM hLg hig (fun p hp=>hp5.mem_iff.2 (by rcases List.mem_cons.1 hp with rfl|hp;exact List.mem_cons_self;exact List.mem_cons_of_mem _ (List.mem_append_left _ hp))),Rd_pur rfl,trivial⟩) (fun p hp=>List.mem_append_right [(20,otc Tg),(16,occ c a2 b2),(12,otc T0),(8,tcs ((tDo t l c).1)),(4,clc c),(0,tcs t)] hp)) (heMs_ok l2 (mkTs (1+(er Tg).names.length) (er Tg).kids).2 om) rfl (Ke (Fn0 [1,3,5,8,9,10,14,15,18] [(19,.i (((mkMs (mkTs (1+(er Tg).names.length) (er Tg).kids).2 l2).2:Nat):Int))] ?_))))
 refine Sq fun K45 hK45=>?_
 refine h_k [1,3,5,8,9,10,14,15,18,19] (F':=[(1,.sl 2 (l.map mkc)),(3,.ptr 0 0),(5,.ptr 4 0),(8,.ptr 8 0),(9,.sl 2 (l2.map mkc)),(10,.i ((tDo t l c).2)),(14,.ptr 20 0),(15,.osl (2*jg+1) 2 0 Lg.length),(18,.i (((mkMs (mkTs (1+(er Tg).names.length) (er Tg).kids).2 l2).2:Nat):Int)),(19,.i (((mkMs (mkTs (1+(er Tg).names.length) (er Tg).kids).2 l2).2:Nat):Int))]) kr ?_
 refine Rr (Av1 (r:=.bool (decide ((((mkMs (mkTs (1+(er Tg).names.length) (er Tg).kids).2 l2).2:Nat):Int)<0))) (v:=.bool false) 2 136 [(135,.i (((mkMs (mkTs (1+(er Tg).names.length) (er Tg).kids).2 l2).2:Nat):Int))] (congrArg AV.bool (decide_eq_false om)) (Ki/\·) ⟨rfl,Fn0 [1,3,5,8,9,10,14,15,18,19,136] [] (Cf (Sk (Jn (hK45 (Kp [1,3,5,8,9,10,14,15,18,19] ?_)))))⟩)
 refine Sq fun K47 hK47=>?_
 refine h_k [1,3,5,8,9,10,14,15,18,19] (F':=[(1,.sl 2 (l.map mkc)),(3,.ptr 0 0),(5,.ptr 4 0),(8,.ptr 8 0),(9,.sl 2 (l2.map mkc)),(10,.i ((tDo t l c).2)),(14,.ptr 20 0),(15,.osl (2*jg+1) 2 0 Lg.length),(18,.i (((mkMs (mkTs (1+(er Tg).names.length) (er Tg).kids).2 l2).2:Nat):Int)),(19,.i (((mkMs (mkTs (1+(er Tg).names.length) (er Tg).kids).2 l2).2:Nat):Int))]) kr ?_
 refine Rr (Av1 (r:=.bool (!decide ((((mkMs (mkTs (1+(er Tg).names.length) (er Tg).kids).2 l2).2:Nat):Int)=(((mkMs (mkTs (1+(er Tg).names.length) (er Tg).kids).2 l2).2:Nat):Int)))) (v:=.bool false) 3 139 [(138,.i (((mkMs (mkTs (1+(er Tg).names.length) (er Tg).kids).2 l2).2:Nat):Int)),(137,.i (((mkMs (mkTs (1+(er Tg).names.length) (er Tg).kids).2 l2).2:Nat):Int))] (congrArg AV.bool (by simp)) (Ki/\·) ⟨rfl,Fn0 [1,3,5,8,9,10,14,15,18,139] [] (Cf (Sk (Jn (hK47 (Kp [1,3,5,8,9,10,14,15,18] ?_)))))⟩)
 refine h_k [1,3,5,8,9,10,14,15,18] (F':=[(1,.sl 2 (l.map mkc)),(3,.ptr 0 0),(5,.ptr 4 0),(8,.ptr 8 0),(9,.sl 2 (l2.map mkc)),(10,.i ((tDo t l c).2)),(14,.ptr 20 0),(15,.osl (2*jg+1) 2 0 Lg.length),(18,.i (((mkMs (mkTs (1+(er Tg).names.length) (er Tg).kids).2 l2).2:Nat):Int))]) kr ?_
 refine Qr [0,1,0,7,0,31,63,127,255,255,255,0,2559,7167,16383] [(0,[]),(2,[]),(4,[]),(1,[4]),(3,[4]),(5,[]),(6,[]),(7,[]),(8,[]),(9,[]),(10,[]),(11,[0,4]),(12,[]),(13,[]),(14,[])] (qBc1 4 [(145,.agg (clc c)),(143,.sl 2 (l.map mkc)),(141,.agg (tcs t))] [4] 10 [.agg (tcs t)] 142 ((0+5<=5/\0<5)/\(0+5<=5/\0<5)/\·) ⟨dc,dc,PE.use (toT_pe t om) (Kq (p:=(((0+5<=5/\0<5)/\(AV.agg (clc c)=(.agg (clc c):AV)))/\True)) ⟨⟨dc,rfl⟩,trivial⟩ (qBc0 1 [] [4] 22 [.sl 2 (l.map mkc)] 144 ?_))⟩)
 refine PE.use (toMs_pe l om hbl) ?_
 refine Kq (p:=(((0+5<=5/\0<5)/\(AV.agg (clc c)=(.agg (clc c):AV)))/\True)) ⟨⟨dc,rfl⟩,trivial⟩ ?_
 refine qBc0 1 [] [] 11 [.agg (clc c)] 146 ?_
 refine PE.use (toC_pe c om om) ?_
 refine Kq (p:=(True)) trivial ?_
 refine qBc0 1 [] [] 23 [.agg (tcs t),.sl 2 (l.map mkc),.agg (clc c)] 147 ?_
 refine PC.use (pc_dc (TrailDod_ok t l c om om om om hl om) fun r Z h=>h.rd) fun r hr=>?_
 obtain⟨l3,rfl,i0,i1⟩:=hr
 obtain rfl:l2=l3:=td_det k0 k1 i0 i1
 refine Kq (p:=(True)) trivial ?_
 refine qFn3 [8,9,10,14,15,18] [(22,.i ((tDo t l c).2)),(21,.sl 2 (l2.map mkc)),(20,.ptr 24 0)] ([(24,tcs ((tDo t l c).1))]++·) 28 ((0<3)/\(1<3)/\(2<3)/\(((0+5<=5/\0<5)/\(AV.agg (tcs t)=(.agg (tcs t):AV)))/\((0+5<=5/\0<5)/\(AV.agg (clc c)=(.agg (clc c):AV)))/\True)/\(true=true/\5=5/\0+5<=5)/\(True)/\·) ⟨dc,dc,dc,⟨⟨dc,rfl⟩,⟨dc,rfl⟩,trivial⟩,dc,trivial,Sq fun K50 hK50=>?_⟩
 refine h_k [8,9,10,14,15,18,20,21,22] (F':=[(8,.ptr 8 0),(9,.sl 2 (l2.map mkc)),(10,.i ((tDo t l c).2)),(14,.ptr 20 0),(15,.osl (2*jg+1) 2 0 Lg.length),(18,.i (((mkMs (mkTs (1+(er Tg).names.length) (er Tg).kids).2 l2).2:Nat):Int)),(20,.ptr 24 0),(21,.sl 2 (l2.map mkc)),(22,.i ((tDo t l c).2))]) kr ?_
 refine Hn ((24,tcs ((tDo t l c).1))::(20,otc Tg)::(16,occ c a2 b2)::(12,otc T0)::(8,tcs ((tDo t l c).1))::(4,clc c)::(0,tcs t)::Z5) (Rr (Bc1 3 [(152,.agg (tcs ((tDo t l c).1))),(151,.agg (tcs ((tDo t l c).1)))] 14 [.agg (tcs ((tDo t l c).1)),.agg (tcs ((tDo t l c).1))] 153 ((0+5<=5/\0<5)/\(0+5<=5/\0<5)/\·) ⟨dc,dc,PE.use (eqT_ok _ ((tDo t l c).1) rfl om) (Ke ?_)⟩))
 refine Pc0 5 [(157,.sl 2 (l2.map mkc)),(156,.sl 2 (l2.map mkc)),(155,.bool false),(154,.bool false)] 158 (eqMs_ok l2 om hb2) (Av1 (r:=.bool (!decide (((tDo t l c).2:Int)=((tDo t l c).2:Int)))) (v:=.bool false) 6 164 [(163,.i ((tDo t l c).2)),(162,.i ((tDo t l c).2)),(161,.bool false),(160,.bool false),(159,.bool false)] (congrArg AV.bool (by simp)) (Ki/\·) ⟨rfl,Fn0 [14,15,18] [(165,.bool false)] (Cf (Sk (Jn (hK50 (Kp [14,15,18] ?_)))))⟩)
 refine h_k [14,15,18] (F':=[(14,.ptr 20 0),(15,.osl (2*jg+1) 2 0 Lg.length),(18,.i (((mkMs (mkTs (1+(er Tg).names.length) (er Tg).kids).2 l2).2:Nat):Int))]) kr ?_
 refine Rr (Fn0 [14,15,18] [(19,.i 1)] (h_k [14,15,18,19] (F':=[(14,.ptr 20 0),(15,.osl (2*jg+1) 2 0 Lg.length),(18,.i (((mkMs (mkTs (1+(er Tg).names.length) (er Tg).kids).2 l2).2:Nat):Int)),(19,.i 1)]) kr (Rr (Bc1 3 [(167,.i 1),(166,.agg (otc Tg))] 26 [.agg (otc Tg),.i 1] 168 ((0+5<=5/\0<5)/\·) ⟨dc,?_⟩))))
 refine TCall_le [.agg (otc Tg),.i 1] (leas_refl _) ?_
 refine PE.useB (vw_rd (Z:=Z5) (show Rds Z5 _ [.agg (tcs (er (mk1 1 Tg))),.i 1]from⟨Rd_held hag (fun p hp=>hp5.mem_iff.2 (by simp only[List.mem_cons,List.mem_append,hp,true_or,or_true])),Rd_pur rfl,trivial⟩) (fun p hp=>List.mem_append_right [(24,tcs ((tDo t l c).1)),(20,otc Tg),(16,occ c a2 b2),(12,otc T0),(8,tcs ((tDo t l c).1)),(4,clc c),(0,tcs t)] hp)) (by rw[mk1_er];exact heT_ok (er Tg) 1 om) rfl ?_
 refine Ke (Fn0 [15,18] [(19,.i (((mkTs (1+(er Tg).names.length) (er Tg).kids).2:Nat):Int))] (Sq fun K54 hK54=>?_))
 refine h_k [15,18,19] (F':=[(15,.osl (2*jg+1) 2 0 Lg.length),(18,.i (((mkMs (mkTs (1+(er Tg).names.length) (er Tg).kids).2 l2).2:Nat):Int)),(19,.i (((mkTs (1+(er Tg).names.length) (er Tg).kids).2:Nat):Int))]) kr ?_
 refine Rr (Av1 (r:=.bool (decide ((((mkTs (1+(er Tg).names.length) (er Tg).kids).2:Nat):Int)<0))) (v:=.bool false) 2 170 [(169,.i (((mkTs (1+(er Tg).names.length) (er Tg).kids).2:Nat):Int))] (congrArg AV.bool (decide_eq_false om)) (Ki/\·) ⟨rfl,Fn0 [15,18,19,170] [] (Cf (Sk (Jn (hK54 (Kp [15,18,19] ?_)))))⟩)
 refine h_k [15,18,19] (F':=[(15,.osl (2*jg+1) 2 0 Lg.length),(18,.i (((mkMs (mkTs (1+(er Tg).names.length) (er Tg).kids).2 l2).2:Nat):Int)),(19,.i (((mkTs (1+(er Tg).names.length) (er Tg).kids).2:Nat):Int))]) kr ?_
 refine Rr (Bc0 3 [(172,.i (((mkTs (1+(er Tg).names.length) (er Tg).kids).2:Nat):Int)),(171,.osl (2*jg+1) 2 0 Lg.length)] 27 [.osl (2*jg+1) 2 0 Lg.length,.i (((mkTs (1+(er Tg).names.length) (er Tg).kids).2:Nat):Int)] 173 (PE.useB (vw_rd (Z:=Z5) (show Rds Z5 _ [.sl 2 ((mkMs (mkTs (1+(er Tg).names.length) (er Tg).kids).2 l2).1.map mkc),.i (((mkTs (1+(er Tg).names.length) (er Tg).kids).2:Nat):Int)]from⟨Rd_heldM hLg hig (fun p hp=>hp5.mem_iff.2 (by rcases List.mem_cons.1 hp with rfl|hp;exact List.mem_cons_self;exact List.mem_cons_of_mem _ (List.mem_append_left _ hp))),Rd_pur rfl,trivial⟩) (fun p hp=>List.mem_append_right [(24,tcs ((tDo t l c).1)),(20,otc Tg),(16,occ c a2 b2),(12,otc T0),(8,tcs ((tDo t l c).1)),(4,clc c),(0,tcs t)] hp)) (heMs_ok l2 (mkTs (1+(er Tg).names.length) (er Tg).kids).2 om) rfl (Ke (Fn0 [18] [(19,.i (((mkMs (mkTs (1+(er Tg).names.length) (er Tg).kids).2 l2).2:Nat):Int))] ?_))))
 refine Sq fun K57 hK57=>?_
 refine h_k [18,19] (F':=[(18,.i (((mkMs (mkTs (1+(er Tg).names.length) (er Tg).kids).2 l2).2:Nat):Int)),(19,.i (((mkMs (mkTs (1+(er Tg).names.length) (er Tg).kids).2 l2).2:Nat):Int))]) kr ?_
 refine Rr (Av1 (r:=.bool (decide ((((mkMs (mkTs (1+(er Tg).names.length) (er Tg).kids).2 l2).2:Nat):Int)<0))) (v:=.bool false) 2 175 [(174,.i (((mkMs (mkTs (1+(er Tg).names.length) (er Tg).kids).2 l2).2:Nat):Int))] (congrArg AV.bool (decide_eq_false om)) (Ki/\·) ⟨rfl,Fn0 [18,19,175] [] (Cf (Sk (Jn (hK57 (Kp [18,19] ?_)))))⟩)
 refine Sq fun K59 hK59=>?_
 refine h_k [18,19] (F':=[(18,.i (((mkMs (mkTs (1+(er Tg).names.length) (er Tg).kids).2 l2).2:Nat):Int)),(19,.i (((mkMs (mkTs (1+(er Tg).names.length) (er Tg).kids).2 l2).2:Nat):Int))]) kr ?_
 refine Rr (Av1 (r:=.bool (!decide ((((mkMs (mkTs (1+(er Tg).names.length) (er Tg).kids).2 l2).2:Nat):Int)=(((mkMs (mkTs (1+(er Tg).names.length) (er Tg).kids).2 l2).2:Nat):Int)))) (v:=.bool false) 3 178 [(177,.i (((mkMs (mkTs (1+(er Tg).names.length) (er Tg).kids).2 l2).2:Nat):Int)),(176,.i (((mkMs (mkTs (1+(er Tg).names.length) (er Tg).kids).2 l2).2:Nat):Int))] (congrArg AV.bool (by simp)) (Ki/\·) ⟨rfl,Fn0 [178] [] (Cf (Sk (Jn (hK59 (Kp [] ?_)))))⟩)
 refine h_k [] (F':=[]) kr ?_
 refine Rr (Fn0 [] [(6,.bool true)] (Rt (.bool true) ?_))
 exact fin_lea (lea_refl _)
end Go.Proofs.YtbfeplcaapiaoaaGreatT
namespace Go.Proofs.YtbfeplcaapiaoaaGreat
open Go Go.Proofs
set_option maxRecDepth 100000
section
variable {H:Type} {enc:TypeId×Value->H} {P:Program} {w:World} {spare:Nat->Bool} {held:Bool}
abbrev NoX:Nat->Prop:=fun _=>False
abbrev NoR:YtbfeplcaapiaoaaGreatT.Rho:=fun _=>none
def Rdc (w:World) (xs:List YtbfeplcaapiaoaaGreatT.AV) (cs:List Value):Prop:=YtbfeplcaapiaoaaGreatT.VRs NoR w NoX xs cs/\∀c∈cs,YtbfeplcaapiaoaaGreatT.one c=true
theorem cell_lt {a:Addr} {v:Value} (h:w.cell? a=some v):a.block<w.heap.size:=by
 unfold World.cell? at h
 split at h
 ·rename_i hb;exact(Array.getElem?_eq_some_iff.1 hb).1
 ·cases h
theorem add_add (a:Addr) (m n:Nat) (h:a.spot=none):(a.add m).add n=a.add (m+n):=by
 obtain⟨b,o,s⟩:=a
 simp only at h
 subst h
 unfold Addr.add
 by_cases hm:m=0<;>by_cases hn:n=0<;>simp[hm,hn,Nat.add_assoc]
theorem pcs_of:∀(xs:List YtbfeplcaapiaoaaGreatT.AV) (vs:List Value) (a:Addr) (j:Nat),YtbfeplcaapiaoaaGreatT.VRs NoR w NoX xs vs->(∀c∈vs,YtbfeplcaapiaoaaGreatT.one c=true)->(∀k,k<vs.length->w.cell? (a.add (j+k))=vs[k]?)->YtbfeplcaapiaoaaGreatT.PCs NoR w NoX xs a j
 |[],_,_,_,_,_,_=>by simp only[YtbfeplcaapiaoaaGreatT.PCs]
 |c::xs,v::vs,a,j,h1,h2,h3=>by
  simp only[YtbfeplcaapiaoaaGreatT.VRs,YtbfeplcaapiaoaaGreatT.PCs]at h1⊢
  refine⟨⟨v,by have:=h3 0 (by simp);simpa using this,h2 v (by simp),h1.1⟩,pcs_of xs vs a (j+1) h1.2 (fun c hc=>h2 c (by simp[hc])) fun k hk=>?_⟩
  have:=h3 (k+1) (by simpa using hk)
  rw[show j+1+k=j+(k+1) by omega]
  simpa using this
 |_::_,[],_,_,h1,_,_=>by simp only[YtbfeplcaapiaoaaGreatT.VRs]at h1
theorem list_of {α:Type} [Inhabited α] (n:Nat) (Q:Nat->α->Prop) (h:∀i,i<n->∃b,Q i b):∃l:List α,l.length=n/\∀i,i<n->Q i (l.getD i default):=by
 induction n with
 |zero=>exact⟨[],rfl,fun i hi=>by omega⟩
 |succ n ih=>
  obtain⟨l,h1,h2⟩:=ih fun i hi=>h i (by omega)
  obtain⟨b,hb⟩:=h n (by omega)
  refine⟨l++[b],by simp[h1],fun i hi=>?_⟩
  rcases Nat.lt_or_ge i n with hlt|hge
  ·have:=h2 i hlt
   simpa[List.getD,List.getElem?_append_left (show i<l.length by omega)]using this
  ·obtain rfl:i=n:=by omega
   simpa[List.getD,List.getElem?_append_right (show l.length<=i by omega),h1]using hb
theorem rd_slice {α:Type} [Inhabited α] {f:α->List YtbfeplcaapiaoaaGreatT.AV} {B:α->Prop} {s:Nat} {t e:TypeId} (hf:∀x,(f x).length=s) (hs:0<s) (ht:P.underlying t=some (.slice e)) (hc:P.cellsOf e=s) {fuel:Nat} {cs:List Value} {x:DataW H×List MemPlace}
  (he:∀n,n<fuel->∀cs y,DataW.trod enc P w 0 spare held n e cs=some y->∃a:α,Rdc w (f a) cs/\B a) (h:DataW.trod enc P w 0 spare held fuel t cs=some x):
  ∃(l:List α) (v:Value),cs=[v]/\YtbfeplcaapiaoaaGreatT.one v=true/\YtbfeplcaapiaoaaGreatT.VR NoR w NoX (.sl s (l.map f)) v/\l.length<2^63/\∀a∈l,B a:=by
 rcases DataW.trod_slice ht h with ⟨rfl,rfl⟩|⟨a,len,cap,elems,rest,n,rfl,rfl,rfl,hb,hl,hm,hlen,hel,_⟩
 ·exact⟨[],_,rfl,rfl,by simp only[YtbfeplcaapiaoaaGreatT.VR,List.map_nil];exact⟨none,0,rfl,Nat.le_refl _,fun h=>absurd rfl h⟩,by simp,by simp⟩
 ·have each:∀i,i<len->∃b:α,B b/\∃cs',w.cells? 0 (a.add (i*s)) s=some cs'/\Rdc w (f b) cs':=fun i hi=>by
   have k:=hel i hi
   rw[List.getElem?_eq_getElem (by omega),hc]at k
   obtain⟨cs',h1,h2⟩:=Option.bind_eq_some_iff.1 k
   obtain⟨b,hb1,hb2⟩:=he n (by omega) cs' _ h2
   exact⟨b,hb2,cs',h1,hb1⟩
  obtain⟨l,hll,hl2⟩:=list_of len _ each
  have hml:maxLen<2^63:=by decide
  have hcell:∀i,i<len->∀k,k<s->∃v,w.cell? ((a.add (i*s)).add k)=some v:=fun i hi k hk=>by
   obtain⟨_,cs',h1,_⟩:=hl2 i hi
   unfold World.cells? at h1
   rw[if_pos (Nat.zero_le _)]at h1
   have h3:=mapM_some_get h1 k k (by rw[List.getElem?_range hk])
   have h4:=mapM_some_length h1
   rw[List.length_range]at h4
   rw[List.getElem?_eq_getElem (by omega)]at h3
   exact⟨_,h3⟩
  have hsp:0<len->a.spot=none:=fun h0=>by
   obtain⟨v,hv⟩:=hcell 0 h0 0 hs
   have e0:(a.add (0*s)).add 0=a:=by simp[Addr.add]
   rw[e0]at hv
   unfold World.cell? at hv
   split at hv
   ·split at hv
    ·cases hv
    ·rename_i h;simpa using h
   ·cases hv
  refine⟨l,_,rfl,rfl,?_,by omega,fun b hb=>?_⟩
  ·simp only[YtbfeplcaapiaoaaGreatT.VR,List.length_map]
   refine⟨some a,cap,by rw[hll],by omega,fun hne=>⟨a,rfl,fun h=>h,?_,?_⟩⟩
   ·have h0:0<len:=by rw[<-hll];exact List.length_pos_iff.2 fun h=>hne (by rw[h];rfl)
    obtain⟨v,hv⟩:=hcell 0 h0 0 hs
    have e0:(a.add (0*s)).add 0=a:=by simp[Addr.add]
    rw[e0]at hv
    exact cell_lt hv
   ·have key:∀(m:List α) (i:Nat),(∀k,k<m.length->i+k<len/\m.getD k default=l.getD (i+k) default)->YtbfeplcaapiaoaaGreatT.PEs NoR w NoX s (m.map f) a i:=by
     intro m
     induction m with
     |nil=>intro i _;simp only[List.map_nil,YtbfeplcaapiaoaaGreatT.PEs]
     |cons y m ih=>
      intro i hm
      simp only[List.map_cons,YtbfeplcaapiaoaaGreatT.PEs]
      have h0:i<len:=(hm 0 (by simp)).1
      have h1:y=l.getD i default:=(hm 0 (by simp)).2
      obtain⟨_,cs',h2,h3,h4⟩:=hl2 i h0
      rw[<-h1]at h3
      refine⟨hf y,pcs_of _ cs' a (i*s) h3 h4 fun k hk=>?_,ih (i+1) fun k hk=>?_⟩
      ·unfold World.cells? at h2
       rw[if_pos (Nat.zero_le _)]at h2
       have h5:=mapM_some_length h2
       rw[List.length_range]at h5
       have h6:=mapM_some_get h2 k k (by rw[List.getElem?_range (by omega)])
       rw[add_add a _ _ (hsp (by omega))]at h6
       exact h6
      ·have:=hm (k+1) (by simpa using hk)
       rw[show i+1+k=i+(k+1) by omega]
       simpa using this
    exact key l 0 fun k hk=>⟨by omega,by rw[Nat.zero_add]⟩
  ·obtain⟨i,hi,rfl⟩:=List.getElem_of_mem hb
   have:=(hl2 i (by omega)).1
   simpa[List.getD,hi]using this
theorem bstr_of (s:ByteArray):YtbfeplcaapiaoaaGreatT.bstr s.data.toList=s:=by
 cases s with
 |mk d=>exact congrArg ByteArray.mk (Array.toArray_toList (xs:=d))
theorem rd_str {t:TypeId} (ht:P.underlying t=some .string) {fuel:Nat} {cs:List Value} {x:DataW H×List MemPlace} (h:DataW.trod enc P w 0 spare held fuel t cs=some x):∃s:YtbfeplcaapiaoaaGreatT.Str,Rdc w [.str s] cs/\s.length<2^63:=by
 obtain⟨s,rfl,_,hs⟩:=DataW.trod_string ht h
 have hml:maxLen<2^63:=by decide
 refine⟨s.data.toList,⟨by simp only[YtbfeplcaapiaoaaGreatT.VRs,YtbfeplcaapiaoaaGreatT.VR,and_true];rw[bstr_of],by simp[YtbfeplcaapiaoaaGreatT.one]⟩,?_⟩
 have:s.data.toList.length=s.size:=Array.length_toList
 omega
theorem rd_strs {t e:TypeId} (ht:P.underlying t=some (.slice e)) (he:P.underlying e=some .string) (hc:P.cellsOf e=1) {fuel:Nat} {cs:List Value} {x:DataW H×List MemPlace} (h:DataW.trod enc P w 0 spare held fuel t cs=some x):
  ∃p:List YtbfeplcaapiaoaaGreatT.Str,Rdc w [YtbfeplcaapiaoaaGreatT.pth p] cs/\YtbfeplcaapiaoaaGreatT.bP p:=by
 obtain⟨l,v,rfl,h1,h2,h3,h4⟩:=rd_slice (α:=YtbfeplcaapiaoaaGreatT.Str) (f:=fun s=>[YtbfeplcaapiaoaaGreatT.AV.str s]) (B:=fun s=>s.length<2^63) (s:=1) (fun _=>rfl) (by omega) ht hc (fun n _ cs y hy=>rd_str he hy) h
 exact⟨l,⟨by simp only[YtbfeplcaapiaoaaGreatT.VRs,and_true];exact h2,by simp[h1]⟩,h3,h4⟩
theorem rd_bool {t:TypeId} (ht:P.underlying t=some .bool) {fuel:Nat} {cs:List Value} {x:DataW H×List MemPlace} (h:DataW.trod enc P w 0 spare held fuel t cs=some x):∃b:Bool,Rdc w [.bool b] cs:=by
 obtain⟨b,rfl,_⟩:=DataW.trod_bool ht h
 exact⟨b,by simp only[YtbfeplcaapiaoaaGreatT.VRs,YtbfeplcaapiaoaaGreatT.VR,and_true],by simp[YtbfeplcaapiaoaaGreatT.one]⟩
theorem rd_int {t:TypeId} (ht:P.underlying t=some (.int .i64)) {fuel:Nat} {cs:List Value} {x:DataW H×List MemPlace} (h:DataW.trod enc P w 0 spare held fuel t cs=some x):∃n:Int,Rdc w [.int .i64 n] cs:=by
 obtain⟨n,rfl,_⟩:=DataW.trod_int ht h
 exact⟨n,by simp only[YtbfeplcaapiaoaaGreatT.VRs,YtbfeplcaapiaoaaGreatT.VR,and_true],by simp[YtbfeplcaapiaoaaGreatT.one]⟩
theorem VRs_app:∀{xs bs:List YtbfeplcaapiaoaaGreatT.AV} {cs ds:List Value},YtbfeplcaapiaoaaGreatT.VRs NoR w NoX xs cs->YtbfeplcaapiaoaaGreatT.VRs NoR w NoX bs ds->YtbfeplcaapiaoaaGreatT.VRs NoR w NoX (xs++bs) (cs++ds)
 |[],_,[],_,_,h=>h
 |a::xs,_,c::cs,_,h,k=>by
  simp only[YtbfeplcaapiaoaaGreatT.VRs,List.cons_append]at h⊢
  exact⟨h.1,VRs_app h.2 k⟩
 |[],_,_::_,_,h,_=>by simp only[YtbfeplcaapiaoaaGreatT.VRs]at h
 |_::_,_,[],_,h,_=>by simp only[YtbfeplcaapiaoaaGreatT.VRs]at h
theorem Rdc.app {xs bs:List YtbfeplcaapiaoaaGreatT.AV} {cs ds:List Value} (h:Rdc w xs cs) (k:Rdc w bs ds):Rdc w (xs++bs) (cs++ds):=⟨VRs_app h.1 k.1,fun c hc=>(List.mem_append.1 hc).elim (h.2 c) (k.2 c)⟩
theorem fields {t:TypeId} {fs:Array Field} (ht:P.underlying t=some (.struct fs)) {fuel:Nat} {cs:List Value} {x:DataW H×List MemPlace} (h:DataW.trod enc P w 0 spare held fuel t cs=some x):
  ∃n,fuel=n+1/\cs.length=P.cellsOf t/\∀(i:Nat) (f:Field),fs[i]?=some f->∃y,DataW.trod enc P w 0 spare held n f.type ((cs.drop f.offset).take (P.cellsOf f.type))=some y:=by
 obtain⟨ys,n,rfl,rfl,hlen,hxl,hfs⟩:=DataW.trod_struct ht h
 refine⟨n,rfl,hlen,fun i f hf=>?_⟩
 have hi:i<fs.size:=(Array.getElem?_eq_some_iff.1 hf).1
 have:=hfs i f hf
 rw[List.getElem?_eq_getElem (by omega)]at this
 exact⟨_,this⟩
end
end Go.Proofs.YtbfeplcaapiaoaaGreat
set_option maxRecDepth 100000
namespace Go.Proofs.YtbfeplcaapiaoaaGreat
open Go.ChangeShapes Go.WideShapes Go.ChangeAt Go.RowKit
theorem ext_below {w w':World} (h:YtbfeplcaapiaoaaGreatT.Ext (fun _=>False) w w'):Below w.heap.size w w':=⟨h.os,h.tape,h.output,h.size,fun k hk=>h.keep k hk fun x=>x⟩
theorem calls_of {P:Program} {f:Nat} {vs:Array Value} {w:World} {R:Ending->World->Prop} {fn:Func} {b:Code} (hf:P.funcs[f]?=some fn) (hb:fn.body=some b) (hnm:(fn.name== "runtime.NumGoroutine")=false) (h:YtbfeplcaapiaoaaGreatT.CallsX P f vs w R):Calls P f vs w R:=by
 have hnm':¬fn.name= "runtime.NumGoroutine" :=by simpa using hnm
 have henter:(callFunc f vs).run P w=.ok (.enter f vs) w:=by
  simp[callFunc,hf,hnm',hb]
 unfold YtbfeplcaapiaoaaGreatT.CallsX at h
 rw[henter]at h
 exact h.2
section
variable {H:Type} {enc:TypeId×Value->H} {w:World} {spare:Nat->Bool} {held:Bool}
theorem c4:Tryz.prog.cellsOf 4=1:=by kernel_rfl
theorem c3:Tryz.prog.cellsOf 3=1:=by kernel_rfl
theorem c9:Tryz.prog.cellsOf 9=1:=by kernel_rfl
theorem c25:Tryz.prog.cellsOf 25=1:=by kernel_rfl
theorem c26:Tryz.prog.cellsOf 26=1:=by kernel_rfl
theorem c28:Tryz.prog.cellsOf 28=5:=by kernel_rfl
theorem c30:Tryz.prog.cellsOf 30=5:=by kernel_rfl
theorem c86:Tryz.prog.cellsOf 86=2:=by kernel_rfl
theorem bTs_all:∀{ks:List YtbfeplcaapiaoaaGreatT.Tr},(∀k∈ks,YtbfeplcaapiaoaaGreatT.bT k)->YtbfeplcaapiaoaaGreatT.bTs ks
 |[],_=>trivial
 |t::ts,h=>⟨h t (by simp),bTs_all fun k hk=>h k (by simp[hk])⟩
theorem rd_tree:∀(fuel:Nat) (cs:List Value) (x:DataW H×List MemPlace),DataW.trod enc Tryz.prog w 0 spare held fuel 28 cs=some x->∃t:YtbfeplcaapiaoaaGreatT.Tr,Rdc w (YtbfeplcaapiaoaaGreatT.trc t) cs/\YtbfeplcaapiaoaaGreatT.bT t:=by
 intro fuel
 induction fuel using Nat.strongRecOn with
 |_ fuel ih=>
 intro cs x h
 obtain⟨n,rfl,hl,hf⟩:=fields Tryz.underlying28 h
 rw[c28]at hl
 obtain⟨y0,h0⟩:=hf 0 _ rfl
 replace h0:DataW.trod enc Tryz.prog w 0 spare held n 4 ((cs.drop 0).take (Tryz.prog.cellsOf 4))=some y0:=h0
 obtain⟨y1,h1⟩:=hf 1 _ rfl
 replace h1:DataW.trod enc Tryz.prog w 0 spare held n 3 ((cs.drop 1).take (Tryz.prog.cellsOf 3))=some y1:=h1
 obtain⟨y2,h2⟩:=hf 2 _ rfl
 replace h2:DataW.trod enc Tryz.prog w 0 spare held n 9 ((cs.drop 2).take (Tryz.prog.cellsOf 9))=some y2:=h2
 obtain⟨y3,h3⟩:=hf 3 _ rfl
 replace h3:DataW.trod enc Tryz.prog w 0 spare held n 25 ((cs.drop 3).take (Tryz.prog.cellsOf 25))=some y3:=h3
 obtain⟨y4,h4⟩:=hf 4 _ rfl
 replace h4:DataW.trod enc Tryz.prog w 0 spare held n 26 ((cs.drop 4).take (Tryz.prog.cellsOf 26))=some y4:=h4
 rw[c4]at h0
 rw[c3]at h1
 rw[c9]at h2
 rw[c25]at h3
 rw[c26]at h4
 obtain⟨d,k0⟩:=rd_bool Tryz.underlying4 h0
 obtain⟨m,k1⟩:=rd_int Tryz.underlying3 h1
 obtain⟨s,k2,b2⟩:=rd_str Tryz.underlying9 h2
 obtain⟨p,k3,b3⟩:=rd_strs Tryz.underlying25 Tryz.underlying9 c9 h3
 obtain⟨ks,v,e4,o4,k4,b4,b5⟩:=rd_slice (f:=YtbfeplcaapiaoaaGreatT.trc) (B:=YtbfeplcaapiaoaaGreatT.bT) (s:=5) YtbfeplcaapiaoaaGreatT.trc_len (by omega) Tryz.underlying26 c28 (fun n' hn cs y hy=>ih n' (by omega) cs y hy) h4
 match cs,hl with
 |[a0,a1,a2,a3,a4],_=>
  refine⟨.mk d m s p ks,?_,⟨b2,b3,b4,bTs_all b5⟩⟩
  have k5:Rdc w [YtbfeplcaapiaoaaGreatT.AV.sl 5 (ks.map YtbfeplcaapiaoaaGreatT.trc)] [a4]:=by
   obtain rfl:a4=v:=by simpa using e4
   exact⟨by simp only[YtbfeplcaapiaoaaGreatT.VRs,and_true];exact k4,by simp[o4]⟩
  rw[YtbfeplcaapiaoaaGreatT.trc_mk]
  exact k0.app (k1.app (k2.app (k3.app k5)))
theorem rd_mark {fuel:Nat} {cs:List Value} {x:DataW H×List MemPlace} (h:DataW.trod enc Tryz.prog w 0 spare held fuel 86 cs=some x):∃m:YtbfeplcaapiaoaaGreatT.Mk,Rdc w (YtbfeplcaapiaoaaGreatT.mkc m) cs/\YtbfeplcaapiaoaaGreatT.bP m.path:=by
 obtain⟨n,rfl,hl,hf⟩:=fields Tryz.underlying86 h
 rw[c86]at hl
 obtain⟨y0,h0⟩:=hf 0 _ rfl
 replace h0:DataW.trod enc Tryz.prog w 0 spare held n 25 ((cs.drop 0).take (Tryz.prog.cellsOf 25))=some y0:=h0
 obtain⟨y1,h1⟩:=hf 1 _ rfl
 replace h1:DataW.trod enc Tryz.prog w 0 spare held n 4 ((cs.drop 1).take (Tryz.prog.cellsOf 4))=some y1:=h1
 rw[c25]at h0
 rw[c4]at h1
 obtain⟨p,k0,b0⟩:=rd_strs Tryz.underlying25 Tryz.underlying9 c9 h0
 obtain⟨d,k1⟩:=rd_bool Tryz.underlying4 h1
 match cs,hl with
 |[a0,a1],_=>exact⟨⟨p,d⟩,k0.app k1,b0⟩
theorem rd_call {fuel:Nat} {cs:List Value} {x:DataW H×List MemPlace} (h:DataW.trod enc Tryz.prog w 0 spare held fuel 30 cs=some x):∃c:YtbfeplcaapiaoaaGreatT.Cl,Rdc w (YtbfeplcaapiaoaaGreatT.clc c) cs/\YtbfeplcaapiaoaaGreatT.bP c.path/\YtbfeplcaapiaoaaGreatT.bP c.to/\c.data.length<2^63:=by
 obtain⟨n,rfl,hl,hf⟩:=fields Tryz.underlying30 h
 rw[c30]at hl
 obtain⟨y0,h0⟩:=hf 0 _ rfl
 replace h0:DataW.trod enc Tryz.prog w 0 spare held n 3 ((cs.drop 0).take (Tryz.prog.cellsOf 3))=some y0:=h0
 obtain⟨y1,h1⟩:=hf 1 _ rfl
 replace h1:DataW.trod enc Tryz.prog w 0 spare held n 25 ((cs.drop 1).take (Tryz.prog.cellsOf 25))=some y1:=h1
 obtain⟨y2,h2⟩:=hf 2 _ rfl
 replace h2:DataW.trod enc Tryz.prog w 0 spare held n 25 ((cs.drop 2).take (Tryz.prog.cellsOf 25))=some y2:=h2
 obtain⟨y3,h3⟩:=hf 3 _ rfl
 replace h3:DataW.trod enc Tryz.prog w 0 spare held n 3 ((cs.drop 3).take (Tryz.prog.cellsOf 3))=some y3:=h3
 obtain⟨y4,h4⟩:=hf 4 _ rfl
 replace h4:DataW.trod enc Tryz.prog w 0 spare held n 9 ((cs.drop 4).take (Tryz.prog.cellsOf 9))=some y4:=h4
 rw[c3]at h0
 rw[c25]at h1
 rw[c25]at h2
 rw[c3]at h3
 rw[c9]at h4
 obtain⟨kd,k0⟩:=rd_int Tryz.underlying3 h0
 obtain⟨p,k1,b1⟩:=rd_strs Tryz.underlying25 Tryz.underlying9 c9 h1
 obtain⟨q,k2,b2⟩:=rd_strs Tryz.underlying25 Tryz.underlying9 c9 h2
 obtain⟨a,k3⟩:=rd_int Tryz.underlying3 h3
 obtain⟨s,k4,b4⟩:=rd_str Tryz.underlying9 h4
 match cs,hl with
 |[a0,a1,a2,a3,a4],_=>exact⟨⟨kd,p,q,a,s⟩,k0.app (k1.app (k2.app (k3.app k4))),b1,b2,b4⟩
theorem agg_vr {xs:List YtbfeplcaapiaoaaGreatT.AV} {cs:Array Value} (h:Rdc w xs cs.toList):YtbfeplcaapiaoaaGreatT.VR NoR w NoX (.agg xs) (.agg cs):=by
 simp only[YtbfeplcaapiaoaaGreatT.VR];exact⟨cs,rfl,h.2,h.1⟩
end
theorem own:ownKnob Tryz.prog.godebug=none:=by kernel_rfl
theorem contract (H:Type) (enc:TypeId×Value->H) (W:World) (base:Nat) (args:Array Value) (ds gs:List (DataW H)) (before:List MemPlace)
  (hval:∀(j:Nat) t v,Tryz.f4.params[j]?=some t->args[j]?=some v->Value.okWide Tryz.prog W .any base t v)
  (hW:DataW.Whole enc Tryz.prog Tryz.f4.params.toList Rows.fnExactTrailDoSpec.vars false W args.toList ds gs before):
  Calls Tryz.prog 4 args W fun e W'=>∃v,e=.returned v/\Rows.fnExactTrailDoSpec.post enc Tryz.prog Tryz.f4 false true false false W args v W':=by
 have hW':=hW
 obtain⟨p,q,hA0,hV,rfl,hfz,hnd⟩:=hW
 have hA:DataW.TrodAll enc Tryz.prog W 0 (fun _=>true) true Tryz.f4.params.toList args.toList ds p:=hA0
 rw[Tryz.params4]at hA hval
 obtain⟨v0,v1,v2,d0,d1,d2,p0,p1,p2,rfl,rfl,rfl,h0,h1,h2⟩:=trodAll_three hA
 obtain⟨rfl,rfl⟩:=trodVars_none hV
 simp only[List.append_nil]at hW'
 have hlt0:∀x∈p0,x.block<W.heap.size:=fun x hx=>hW'.lt x (List.mem_append_left _ (List.mem_append_left _ hx))
 have hlt1:∀x∈p1,x.block<W.heap.size:=fun x hx=>hW'.lt x (List.mem_append_left _ (List.mem_append_right _ hx))
 have hlt2:∀x∈p2,x.block<W.heap.size:=fun x hx=>hW'.lt x (List.mem_append_right _ hx)
 have hb0:∀(W':World),Below W.heap.size W W'->DataW.Trod enc Tryz.prog W' 0 (fun b=>decide (b<W.heap.size)) true 28 v0 d0 p0:=
  fun W' hn=>Below.trod (by kernel_rfl) (by kernel_rfl) (of_decide_eq_true (by kernel_rfl)) h0 hn hlt0
 have hb1:∀(W':World),Below W.heap.size W W'->DataW.Trod enc Tryz.prog W' 0 (fun b=>decide (b<W.heap.size)) true 53 v1 d1 p1:=
  fun W' hn=>Below.trod (by kernel_rfl) (by kernel_rfl) (of_decide_eq_true (by kernel_rfl)) h1 hn hlt1
 have hb2:∀(W':World),Below W.heap.size W W'->DataW.Trod enc Tryz.prog W' 0 (fun b=>decide (b<W.heap.size)) true 30 v2 d2 p2:=
  fun W' hn=>Below.trod (by kernel_rfl) (by kernel_rfl) (of_decide_eq_true (by kernel_rfl)) h2 hn hlt2
 have fin:∀W',Below W.heap.size W W'->Rows.fnExactTrailDoSpec.post enc Tryz.prog Tryz.f4 false true false false W #[v0,v1,v2] (.bool true) W':=fun W' hb=>
  ⟨_,_,_,[],_,[],hW',trodAll_mk1 (shut_bool Tryz.underlying4 true),trodAll_mk3 (hb0 W' hb) (hb1 W' hb) (hb2 W' hb),rfl,hb.frame _,fun h=>by cases h⟩
 obtain⟨n0,g0⟩:=h0
 obtain⟨n1,g1⟩:=h1
 obtain⟨n2,g2⟩:=h2
 obtain⟨cs0,rfl,_,_⟩:∃cs,v0=.agg cs/\cs.size=Tryz.prog.cellsOf 28/\Row.okWide Tryz.prog W .any base 28 cs:=by
  have:=hval 0 28 v0 rfl rfl;unfold Value.okWide at this;rw[Tryz.underlying28]at this;exact this
 obtain⟨cs2,rfl,_,_⟩:∃cs,v2=.agg cs/\cs.size=Tryz.prog.cellsOf 30/\Row.okWide Tryz.prog W .any base 30 cs:=by
  have:=hval 2 30 v2 rfl rfl;unfold Value.okWide at this;rw[Tryz.underlying30]at this;exact this
 obtain⟨a1,l1,c1,rfl⟩:=okWide_slice Tryz.underlying53 (hval 1 53 v1 rfl rfl)
 obtain⟨t,k0,b0⟩:=rd_tree _ _ _ g0
 obtain⟨c,k2,b2⟩:=rd_call g2
 obtain⟨l,v,e1,o1,k1,b1,b1'⟩:=rd_slice (f:=YtbfeplcaapiaoaaGreatT.mkc) (B:=fun m=>YtbfeplcaapiaoaaGreatT.bP m.path) (s:=2) YtbfeplcaapiaoaaGreatT.mkc_len (by omega) Tryz.underlying53 c86 (fun n _ cs y hy=>rd_mark hy) g1
 obtain rfl:v=.slice a1 l1 c1:=by simpa[Value.cells]using e1.symm
 refine(calls_of (b:=YtbfeplcaapiaoaaGreatT.bd Tryz.f4) Tryz.func4 (by kernel_rfl) (by kernel_rfl) (YtbfeplcaapiaoaaGreatT.CallsX.mono (YtbfeplcaapiaoaaGreatT.FnExactTrailDo_ok t l c b0 b1 b1' b2 NoR 0 NoX W #[.agg cs0,.slice a1 l1 c1,.agg cs2] ⟨rfl,fun _ _ _=>rfl,0,fun _ _=>rfl⟩ (fun _ hb=>hb.elim) ?_) (R':=fun e W'=>e=.returned (.bool true)/\Below W.heap.size W W') ?_)).mono fun e W' ⟨he,hb⟩=>⟨_,he,fin W' hb⟩
 ·simp only[YtbfeplcaapiaoaaGreatT.VRs,and_true]
  exact⟨by rw[show YtbfeplcaapiaoaaGreatT.tcs t=YtbfeplcaapiaoaaGreatT.trc t from(YtbfeplcaapiaoaaGreatT.trc_eq t).symm];exact agg_vr k0,k1,agg_vr k2⟩
 ·rintro e W' ⟨v,r,rfl,rfl,hv,hx⟩
  simp only[YtbfeplcaapiaoaaGreatT.VR]at hv
  exact⟨by rw[hv],ext_below hx⟩
set_option maxRecDepth 100000 in
theorem lifted (os:Os) (started:os.Started) (H:Type) (enc:TypeId×Value->H):
  ReturnsInHanded {} Tryz.checked os 4 .any (Rows.fnExactTrailDoSpec.pre6 enc Tryz.prog Tryz.f4 Rows.fnExactTrailDoRow.domain false) (Rows.fnExactTrailDoSpec.post enc Tryz.prog Tryz.f4 false true false false):=by
 refine returnsInHanded_of_change (C:=Tryz.checked) own started (by kernel_rfl) Tryz.func4
  (ChangeSpec.witness6 (enc:=enc) (C:=Tryz.checked) false ⟨#[],#[.agg #[.bool false,.int .i64 0,.string ByteArray.empty,.slice none 0 0,.slice none 0 0],.slice none 0 0,.agg #[.int .i64 0,.slice none 0 0,.slice none 0 0,.int .i64 0,.string ByteArray.empty]],[]⟩ 8 (by kernel_rfl) (by kernel_rfl) (by kernel_rfl) (by kernel_rfl)) ?_
 intro W base args ds gs before hval hW _ _
 exact contract H enc W base args ds gs before hval hW
theorem fnExactTrailDo_holds:Rows.FnExactTrailDoSaid:=
 OpenClaim.holds_of_wide 4 Tryz.f4 rfl rfl rfl rfl rfl rfl rfl ⟨rfl,rfl,rfl,rfl,rfl⟩ rfl rfl rfl rfl rfl (by kernel_rfl) Tryz.func4 (by kernel_rfl)
  (of_decide_eq_true (by kernel_rfl)) (by unfold Func.isWrapper;first|(rw[if_pos (by decide +kernel)];kernel_rfl)|(rw[if_neg (by decide +kernel)];exact⟨rfl,rfl⟩))
  (fun os started H enc _=>lifted os started H enc)
end Go.Proofs.YtbfeplcaapiaoaaGreat
