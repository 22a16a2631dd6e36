/- A part of the proof that the tied card of FnTableId, on every two slices of bytes true, holds (no conditions): rules of the walk, and what the functions compute. -/
import Derived.Test.YtkgaefbohkcofaaGreatDoorC2
set_option linter.unusedVariables false
set_option linter.unusedSimpArgs false
namespace Go.Proofs.YtkgaefbohkcofaaGreatDoorT
open Go Go.Proofs
set_option maxRecDepth 100000
theorem ig5 {α:Type} {f:α->List AV} {s:Nat} (hf:∀x,(f x).length=s) (X:List α) (D:List AV) (i:Nat) (hi:i<=X.length):
    (((fl f X++D).drop (0+i*s)).take ((X.length-i)*s)).take (min (X.length-i) (X.length-i)*s)=fl f (X.drop i):=by
  have h1:i*s<=X.length*s:=Nat.mul_le_mul_right _ hi
  rw[Nat.min_self,List.take_take,Nat.min_self,Nat.zero_add,List.drop_append_of_le_length (by rw[fl_len hf];exact h1),fl_drop hf,List.take_append_of_le_length (by rw[fl_len hf,List.length_drop];omega),List.take_of_length_le (by rw[fl_len hf,List.length_drop];omega)]
theorem ig6 {α:Type} {f:α->List AV} {s:Nat} (hf:∀x,(f x).length=s) (X:List α) (D:List AV) (i m:Nat) (hi:i<X.length) (hm:m=X.length-i):
    (((fl f X++D).drop (0+i*s)).take ((X.length+1-i)*s)).take (min (X.length+1-i) m*s)=fl f (X.drop i):=by
  have h1:i*s<=X.length*s:=Nat.mul_le_mul_right _ om
  have h2:(X.length-i)*s<=(X.length+1-i)*s:=Nat.mul_le_mul_right _ om
  rw[List.take_take,hm,show min (X.length+1-i) (X.length-i)=X.length-i by omega,Nat.min_eq_left h2,Nat.zero_add,List.drop_append_of_le_length (by rw[fl_len hf];exact h1),fl_drop hf,List.take_append_of_le_length (by rw[fl_len hf,List.length_drop];omega),List.take_of_length_le (by rw[fl_len hf,List.length_drop];omega)]
set_option maxHeartbeats 4000000 in
theorem insS {α:Type} {fc:α->List AV} (hf:∀x,(fc x).length=1) (X:List α) (y:α) (i c:Nat) (hi:i<=X.length) (hX:X.length<2^36) (hc:X.length<=c):TCw 0 G 80 [.ocl 0 1 0 X.length c,.i i,.osl 4 1 0 1] [(0,fl fc X++List.replicate ((c-X.length)*1) AV.dead),(4,fc y)] 8 (fun r H1 _=>∃j tl,j%4=0/\unc r=.osl j 1 0 (X.take i++[y]++X.drop i).length/\hgt H1 j=some (fl fc (X.take i++[y]++X.drop i)++tl)):=by
 have hfl:=fun l:List α=>fl_len' hf l;have hfy:=hf y
 refine TCw_enter (c:=bd Tryz.f80) Tryz.func80 kr kr (tt_eq (F:=[(0,.ocl 0 1 0 X.length c),(1,.i i),(2,.osl 4 1 0 1)]) kr ?_)
 refine Rr (Fn0 [0,1,2] [] (Rr (Fn1 [0,1,2] [] ((1=1/\0<=((i:Int):Int)/\((i:Int):Int)<=(X.length:Int)/\(X.length:Int)<=(c:Int))/\·) ⟨⟨rfl,om,om,om⟩,Rr ?_⟩)))
 refine Fn0 [0,1,2] [(7,.i 1)] (Sq fun K4 hK4=>?_)
 refine Rr (Fn1 [0,1,2,7] [(16,.bool false)] (Ki/\·) ⟨rfl,Cf (Sk (Jn (hK4 (Kp [0,1,2,7] (Rr ?_)))))⟩)
 refine Fn0 [0,1,2,7] [(8,.i X.length)] (Sq fun K7 hK7=>?_)
 refine Rr (Cn1 (decide ((i:Int)=(X.length:Int))) [0,1,2,7,8] [] (Ki/\·) ⟨rfl,fun hc9 c9=>?_,fun hc9 c9=>?_⟩)
 refine h_unc (F':=[(0,.osl 0 1 0 X.length),(1,.i i),(2,.osl 4 1 0 1),(7,.i 1),(8,.i X.length)]) kr ?_
 refine Rr (An3 3 [(25,.osl 8 1 0 (X.length+1)),(24,.osl 4 1 0 1),(23,.osl 0 1 0 X.length)] (fun _=>[(8,apd (fl fc X++List.replicate ((c-X.length)*1) AV.dead) (X.length*1) (((fc y).drop 0).take (1*1))),(4,fc y)]) 12 ((0+1*1<=(fc y).length)/\(1=1/\X.length*1<=(fl fc X++List.replicate ((c-X.length)*1) AV.dead).length/\0<16/\(X.length+1)*16<=140737488355328)/\·) ⟨(by(first|omega|(simp only[LL,hfl,hfy,zrs_len'];omega))),⟨rfl,by(first|omega|(simp only[LL,hfl,hfy,zrs_len'];omega)),dc,by(first|omega|(simp only[LL,hfl,hfy,zrs_len'];omega))⟩,run_H (H':=[(8,fl fc (X++[y])),(4,fc y)]) (by rw[show apd (fl fc X++List.replicate ((c-X.length)*1) AV.dead) (X.length*1) (((fc y).drop 0).take (1*1))=fl fc (X++[y])from(by unfold apd;rw[ig1 hf X _ X.length (Nat.le_refl _),List.take_length,fl_app,fl_one,List.drop_zero,List.take_of_length_le (by rw[hfy];omega)])]) (Fn0 [] [(6,.osl 8 1 0 (X.length+1))] (Rt (.osl 8 1 0 (X.length+1)) ?_))⟩)
 · refine⟨_,List.Sublist.refl _,8,[],rfl,?_,?_⟩
   · show AV.osl _ _ _ _=AV.osl _ _ _ _
     congr 1
     simp only[List.length_append,List.length_take,List.length_drop,List.length_cons,List.length_nil];omega
   · refine Eq.trans (b:=some (fl fc (X++[y]))) kr ?_
     first
       |rfl
       |(rw[List.append_nil];done)
       |(rw[List.append_nil,show i=X.length by omega,List.take_length,List.drop_length,List.append_nil,fl_app,fl_one])
 refine Sk (Jn (hK7 (Kp [0,1,2,7,8] (Sq fun K11 hK11=>?_))))
 refine Rr (Av1 3 28 [(27,.i 1),(26,.i X.length)] (cI (wn1 X.length om)) (Ki/\·) ⟨rfl,Cn1 (decide ((c:Int)<((X.length+1:Nat):Int))) [0,1,2,7,8] [] (Ki/\·) ⟨rfl,fun hc13 c13=>?_,fun hc13 c13=>?_⟩⟩)
 refine Rr (Av1 6 37 [(36,.i 1),(35,.i X.length),(34,.ocl 0 1 0 i c),(33,.i i),(32,.ocl 0 1 0 X.length c)] (cI (wn1 X.length om)) ((1=1/\0<=(0:Int)/\(0:Int)<=(i:Int)/\(i:Int)<=(c:Int))/\Ki/\·) ⟨⟨rfl,om,om,om⟩,rfl,Av1 (r:=.i (IntKind.i64.wrap (((X.length+1:Nat):Int)-(i:Int)))) (v:=.i (((X.length+1:Nat):Int)-(i:Int))) 2 39 [(38,.i i)] (cI (wrap64 om om)) (Ki/\·) ⟨rfl,An3 1 [(40,.osl 8 1 0 (i+((((X.length+1:Nat):Int)-(i:Int)).toNat)))] (fun _=>[(8,(fl fc X++List.replicate ((c-X.length)*1) AV.dead).take (i*1)++zrs ((((X.length+1:Nat):Int)-(i:Int)).toNat) [.str []]),(0,fl fc X++List.replicate ((c-X.length)*1) AV.dead),(4,fc y)]) 12 (fun Z=>(1=1/\(0:Int)<=(((X.length+1:Nat):Int)-(i:Int))/\(((X.length+1:Nat):Int)-(i:Int))<=1099511627776/\c<i+((((X.length+1:Nat):Int)-(i:Int)).toNat)/\i*1<=(fl fc X++List.replicate ((c-X.length)*1) AV.dead).length/\0<16/\(i+((((X.length+1:Nat):Int)-(i:Int)).toNat))*16<=140737488355328)/\Z) ⟨⟨rfl,om,om,by(first|omega|(simp only[LL,hfl,hfy,zrs_len'];omega)),by(first|omega|(simp only[LL,hfl,hfy,zrs_len'];omega)),dc,om⟩,run_H (H':=[(8,fl fc (X.take i)++zrs (X.length+1-i) [.str []]),(0,fl fc X++List.replicate ((c-X.length)*1) AV.dead),(4,fc y)]) (by rw[show(fl fc X++List.replicate ((c-X.length)*1) AV.dead).take (i*1)++zrs ((((X.length+1:Nat):Int)-(i:Int)).toNat) [.str []]=fl fc (X.take i)++zrs (X.length+1-i) [.str []]from(by rw[ig1 hf X _ i om];congr 2;omega)]) ?_⟩⟩⟩)
 refine Fn0 [0,1,2,7] [(9,.osl 8 1 0 (i+((((X.length+1:Nat):Int)-(i:Int)).toNat)))] (Rr (An3 5 [(45,.i ((min 1 ((i+((((X.length+1:Nat):Int)-(i:Int)).toNat))-i):Nat):Int)),(44,.osl 4 1 0 1),(43,.osl 8 1 (0+i*1) ((i+((((X.length+1:Nat):Int)-(i:Int)).toNat))-i)),(42,.i i),(41,.osl 8 1 0 (i+((((X.length+1:Nat):Int)-(i:Int)).toNat)))] (fun _=>[(8,spl (fl fc (X.take i)++zrs (X.length+1-i) [.str []]) (0+i*1) ((((fc y).drop 0).take (1*1)).take (min 1 ((i+((((X.length+1:Nat):Int)-(i:Int)).toNat))-i)*1))),(0,fl fc X++List.replicate ((c-X.length)*1) AV.dead),(4,fc y)]) 12 (fun Z=>(1=1/\0<=((i:Int):Int)/\((i:Int):Int)<=((i+((((X.length+1:Nat):Int)-(i:Int)).toNat):Nat):Int)/\((i+((((X.length+1:Nat):Int)-(i:Int)).toNat):Nat):Int)<=((i+((((X.length+1:Nat):Int)-(i:Int)).toNat):Nat):Int))/\(0+1*1<=(fc y).length)/\(1=1/\0+i*1+min 1 ((i+((((X.length+1:Nat):Int)-(i:Int)).toNat))-i)*1<=(fl fc (X.take i)++zrs (X.length+1-i) [.str []]).length)/\Z) ⟨⟨rfl,om,om,om⟩,(by(first|omega|(simp only[LL,hfl,hfy,zrs_len'];omega))),⟨rfl,by(first|omega|(simp only[LL,hfl,hfy,zrs_len'];omega))⟩,run_H (H':=[(8,fl fc (X.take i++[y])++zrs (X.length-i) [.str []]),(0,fl fc X++List.replicate ((c-X.length)*1) AV.dead),(4,fc y)]) (by rw[show spl (fl fc (X.take i)++zrs (X.length+1-i) [.str []]) (0+i*1) ((((fc y).drop 0).take (1*1)).take (min 1 ((i+((((X.length+1:Nat):Int)-(i:Int)).toNat))-i)*1))=fl fc (X.take i++[y])++zrs (X.length-i) [.str []]from(by have e:=ig2 hf X y i (X.length+1-i) [.str []] rfl om om;rw[show X.length+1-i-1=X.length-i by omega]at e;rw[<-e];congr 1<;>first|omega|(rw[List.drop_zero,List.take_take,List.take_of_length_le (by rw[hfy];omega)]))]) (Fn0 [0,1,7,9] [] ?_)⟩))
 refine Qr [0,0,0,6,15,0,0,96,255] [(0,[]),(1,[]),(2,[]),(3,[]),(4,[]),(5,[]),(6,[]),(7,[]),(8,[])] (qAv1 4 49 [(48,.i 1),(47,.i i),(46,.osl 8 1 0 (i+((((X.length+1:Nat):Int)-(i:Int)).toNat)))] (cI (wn1 i om)) (Ki/\·) ⟨rfl,qAn3 5 [(54,.i ((min (X.length-i) ((i+((((X.length+1:Nat):Int)-(i:Int)).toNat))-(i+1)):Nat):Int)),(53,.ocl 0 1 (0+i*1) (X.length-i) (c-i)),(52,.i i),(51,.ocl 0 1 0 X.length c),(50,.osl 8 1 (0+(i+1)*1) ((i+((((X.length+1:Nat):Int)-(i:Int)).toNat))-(i+1)))] (fun _=>[(8,spl (fl fc (X.take i++[y])++zrs (X.length-i) [.str []]) (0+(i+1)*1) ((((fl fc X++List.replicate ((c-X.length)*1) AV.dead).drop (0+i*1)).take ((X.length-i)*1)).take (min (X.length-i) ((i+((((X.length+1:Nat):Int)-(i:Int)).toNat))-(i+1))*1))),(0,fl fc X++List.replicate ((c-X.length)*1) AV.dead),(4,fc y)]) 12 (fun Z=>(1=1/\0<=(((i+1:Nat):Int):Int)/\(((i+1:Nat):Int):Int)<=((i+((((X.length+1:Nat):Int)-(i:Int)).toNat):Nat):Int)/\((i+((((X.length+1:Nat):Int)-(i:Int)).toNat):Nat):Int)<=((i+((((X.length+1:Nat):Int)-(i:Int)).toNat):Nat):Int))/\(1=1/\0<=((i:Int):Int)/\((i:Int):Int)<=(X.length:Int)/\(X.length:Int)<=(c:Int))/\(0+i*1+(X.length-i)*1<=(fl fc X++List.replicate ((c-X.length)*1) AV.dead).length)/\(1=1/\0+(i+1)*1+min (X.length-i) ((i+((((X.length+1:Nat):Int)-(i:Int)).toNat))-(i+1))*1<=(fl fc (X.take i++[y])++zrs (X.length-i) [.str []]).length)/\(True)/\Z) ⟨⟨rfl,om,om,om⟩,⟨rfl,om,om,om⟩,(by(first|omega|(simp only[LL,hfl,hfy,zrs_len'];omega))),⟨rfl,by(first|omega|(simp only[LL,hfl,hfy,zrs_len'];omega))⟩,trivial,runq_H (H':=[(8,fl fc (X.take i++[y]++X.drop i)),(0,fl fc X++List.replicate ((c-X.length)*1) AV.dead),(4,fc y)]) (by rw[show spl (fl fc (X.take i++[y])++zrs (X.length-i) [.str []]) (0+(i+1)*1) ((((fl fc X++List.replicate ((c-X.length)*1) AV.dead).drop (0+i*1)).take ((X.length-i)*1)).take (min (X.length-i) ((i+((((X.length+1:Nat):Int)-(i:Int)).toNat))-(i+1))*1))=fl fc (X.take i++[y]++X.drop i)from(by rw[<-ig3 hf X y i [.str []] rfl om];congr 1<;>first|omega|(rw[<-ig5 hf X _ i om];congr 1;omega))]) (qFn0 [9] [] ?_)⟩⟩)
 refine Rr (Fn0 [] [(6,.osl 8 1 0 (i+((((X.length+1:Nat):Int)-(i:Int)).toNat)))] (Rt (.osl 8 1 0 (i+((((X.length+1:Nat):Int)-(i:Int)).toNat))) ?_))
 · refine⟨_,List.Sublist.refl _,8,[],rfl,?_,?_⟩
   · show AV.osl _ _ _ _=AV.osl _ _ _ _
     congr 1
     simp only[List.length_append,List.length_take,List.length_drop,List.length_cons,List.length_nil];omega
   · refine Eq.trans (b:=some (fl fc (X.take i++[y]++X.drop i))) kr ?_
     first
       |rfl
       |(rw[List.append_nil];done)
       |(rw[List.append_nil,show i=X.length by omega,List.take_length,List.drop_length,List.append_nil,fl_app,fl_one])
 refine Sk (Jn (hK11 (Kp [0,1,2,7,8] (Rr (Av1 4 59 [(58,.i 1),(57,.i X.length),(56,.ocl 0 1 0 X.length c)] (cI (wn1 X.length om)) (Ki/\·) ⟨rfl,Fn1 [1,2,7,8] [(0,.ocl 0 1 0 (X.length+1) c)] ((1=1/\0<=(0:Int)/\(0:Int)<=((X.length+1:Nat):Int)/\((X.length+1:Nat):Int)<=(c:Int))/\·) ⟨⟨rfl,om,om,om⟩,Sq fun K19 hK19=>?_⟩⟩)))))
 refine Rr (Av1 5 65 [(64,.i 1),(63,.i i),(62,.ocl 0 1 0 (X.length+1) c),(61,.osl 4 1 0 1)] (cI (wn1 i om)) (Ki/\·) ⟨rfl,Bc1 2 [(66,.ocl 0 1 (0+(i+1)*1) ((X.length+1)-(i+1)) (c-(i+1)))] 94 [.osl 4 1 0 1,.ocl 0 1 (0+(i+1)*1) ((X.length+1)-(i+1)) (c-(i+1))] 67 ((1=1/\0<=(((i+1:Nat):Int):Int)/\(((i+1:Nat):Int):Int)<=((X.length+1:Nat):Int)/\((X.length+1:Nat):Int)<=(c:Int))/\·) ⟨⟨rfl,om,om,om⟩,ov_use (t:=23) (e:=9) (tR:=4) (ca:=fc y) (cb':=fl fc X++List.replicate ((c-X.length)*1) AV.dead) (Ke ?_) kr kr kr kr om rfl dc t23 rfl t9 Tryz.func94 kr kr kr kr⟩⟩)
 refine Fn0 [0,1,2,7,8] [(68,.bool true)] (Ct (Qr [0,0,0,6,15,0,0,96,255] [(0,[]),(1,[]),(2,[]),(3,[]),(4,[]),(5,[]),(6,[]),(7,[]),(8,[])] (qAv1 4 72 [(71,.i 1),(70,.i i),(69,.ocl 0 1 0 (X.length+1) c)] (cI (wn1 i om)) (Ki/\·) ⟨rfl,qAn3 5 [(77,.i ((min ((X.length+1)-i) ((X.length+1)-(i+1)):Nat):Int)),(76,.ocl 0 1 (0+i*1) ((X.length+1)-i) (c-i)),(75,.i i),(74,.ocl 0 1 0 (X.length+1) c),(73,.ocl 0 1 (0+(i+1)*1) ((X.length+1)-(i+1)) (c-(i+1)))] (fun _=>[(0,spl (fl fc X++List.replicate ((c-X.length)*1) AV.dead) (0+(i+1)*1) ((((fl fc X++List.replicate ((c-X.length)*1) AV.dead).drop (0+i*1)).take (((X.length+1)-i)*1)).take (min ((X.length+1)-i) ((X.length+1)-(i+1))*1))),(4,fc y)]) 8 ((1=1/\0<=(((i+1:Nat):Int):Int)/\(((i+1:Nat):Int):Int)<=((X.length+1:Nat):Int)/\((X.length+1:Nat):Int)<=(c:Int))/\(1=1/\0<=((i:Int):Int)/\((i:Int):Int)<=((X.length+1:Nat):Int)/\((X.length+1:Nat):Int)<=(c:Int))/\(0+i*1+((X.length+1)-i)*1<=(fl fc X++List.replicate ((c-X.length)*1) AV.dead).length)/\(1=1/\0+(i+1)*1+min ((X.length+1)-i) ((X.length+1)-(i+1))*1<=(fl fc X++List.replicate ((c-X.length)*1) AV.dead).length)/\(True)/\·) ⟨⟨rfl,om,om,om⟩,⟨rfl,om,om,om⟩,(by(first|omega|(simp only[LL,hfl,hfy,zrs_len'];omega))),⟨rfl,by(first|omega|(simp only[LL,hfl,hfy,zrs_len'];omega))⟩,trivial,?_⟩⟩)))
 refine runq_H (H':=[(0,fl fc (X.take (i+1)++X.drop i)++(List.replicate ((c-X.length)*1) AV.dead).drop 1),(4,fc y)]) (by rw[show spl (fl fc X++List.replicate ((c-X.length)*1) AV.dead) (0+(i+1)*1) ((((fl fc X++List.replicate ((c-X.length)*1) AV.dead).drop (0+i*1)).take (((X.length+1)-i)*1)).take (min ((X.length+1)-i) ((X.length+1)-(i+1))*1))=fl fc (X.take (i+1)++X.drop i)++(List.replicate ((c-X.length)*1) AV.dead).drop 1 from(by rw[<-is1 hf X _ i om (by rw[List.length_replicate];omega),ig6 hf X _ i (X.length+1-(i+1)) om om,show 0+(i+1)*1=(i+1)*1 by omega])]) ?_
 refine qFn0 [0,1,2] [] (Rr (An3 5 [(82,.i ((min 1 ((X.length+1)-i):Nat):Int)),(81,.osl 4 1 0 1),(80,.ocl 0 1 (0+i*1) ((X.length+1)-i) (c-i)),(79,.i i),(78,.ocl 0 1 0 (X.length+1) c)] (fun _=>[(0,spl (fl fc (X.take (i+1)++X.drop i)++(List.replicate ((c-X.length)*1) AV.dead).drop 1) (0+i*1) ((((fc y).drop 0).take (1*1)).take (min 1 ((X.length+1)-i)*1))),(4,fc y)]) 8 ((1=1/\0<=((i:Int):Int)/\((i:Int):Int)<=((X.length+1:Nat):Int)/\((X.length+1:Nat):Int)<=(c:Int))/\(0+1*1<=(fc y).length)/\(1=1/\0+i*1+min 1 ((X.length+1)-i)*1<=(fl fc (X.take (i+1)++X.drop i)++(List.replicate ((c-X.length)*1) AV.dead).drop 1).length)/\·) ⟨⟨rfl,om,om,om⟩,(by(first|omega|(simp only[LL,hfl,hfy,zrs_len'];omega))),⟨rfl,by(first|omega|(simp only[LL,hfl,hfy,zrs_len'];omega))⟩,run_H (H':=[(0,fl fc (X.take i++[y]++X.drop i)++(List.replicate ((c-X.length)*1) AV.dead).drop 1),(4,fc y)]) (by rw[show spl (fl fc (X.take (i+1)++X.drop i)++(List.replicate ((c-X.length)*1) AV.dead).drop 1) (0+i*1) ((((fc y).drop 0).take (1*1)).take (min 1 ((X.length+1)-i)*1))=fl fc (X.take i++[y]++X.drop i)++(List.replicate ((c-X.length)*1) AV.dead).drop 1 from(by rw[<-is2 hf X _ y i om];congr 1<;>first|omega|(rw[List.drop_zero,List.take_take,List.take_of_length_le (by rw[hfy];omega)]))]) (Fn0 [0] [] ?_)⟩))
 refine Rr (Fn0 [] [(6,.ocl 0 1 0 (X.length+1) c)] (Rt (.ocl 0 1 0 (X.length+1) c) ?_))
 · refine⟨_,List.Sublist.refl _,0,(List.replicate ((c-X.length)*1) AV.dead).drop 1,rfl,?_,?_⟩
   · show AV.osl _ _ _ _=AV.osl _ _ _ _
     congr 1
     simp only[List.length_append,List.length_take,List.length_drop,List.length_cons,List.length_nil];omega
   · refine Eq.trans (b:=some (fl fc (X.take i++[y]++X.drop i)++(List.replicate ((c-X.length)*1) AV.dead).drop 1)) kr ?_
     first
       |rfl
       |(rw[List.append_nil];done)
       |(rw[List.append_nil,show i=X.length by omega,List.take_length,List.drop_length,List.append_nil,fl_app,fl_one])
set_option maxHeartbeats 4000000 in
theorem insT {α:Type} {fc:α->List AV} (hf:∀x,(fc x).length=5) (X:List α) (y:α) (i c:Nat) (hi:i<=X.length) (hX:X.length<2^36) (hc:X.length<=c):TCw 0 G 81 [.ocl 0 5 0 X.length c,.i i,.osl 4 5 0 1] [(0,fl fc X++List.replicate ((c-X.length)*5) AV.dead),(4,fc y)] 8 (fun r H1 _=>∃j tl,j%4=0/\unc r=.osl j 5 0 (X.take i++[y]++X.drop i).length/\hgt H1 j=some (fl fc (X.take i++[y]++X.drop i)++tl)):=by
 have hfl:=fun l:List α=>fl_len' hf l;have hfy:=hf y
 refine TCw_enter (c:=bd Tryz.f81) Tryz.func81 kr kr (tt_eq (F:=[(0,.ocl 0 5 0 X.length c),(1,.i i),(2,.osl 4 5 0 1)]) kr ?_)
 refine Rr (Fn0 [0,1,2] [] (Rr (Fn1 [0,1,2] [] ((5=5/\0<=((i:Int):Int)/\((i:Int):Int)<=(X.length:Int)/\(X.length:Int)<=(c:Int))/\·) ⟨⟨rfl,om,om,om⟩,Rr ?_⟩)))
 refine Fn0 [0,1,2] [(7,.i 1)] (Sq fun K4 hK4=>?_)
 refine Rr (Fn1 [0,1,2,7] [(16,.bool false)] (Ki/\·) ⟨rfl,Cf (Sk (Jn (hK4 (Kp [0,1,2,7] (Rr ?_)))))⟩)
 refine Fn0 [0,1,2,7] [(8,.i X.length)] (Sq fun K7 hK7=>?_)
 refine Rr (Cn1 (decide ((i:Int)=(X.length:Int))) [0,1,2,7,8] [] (Ki/\·) ⟨rfl,fun hc9 c9=>?_,fun hc9 c9=>?_⟩)
 refine h_unc (F':=[(0,.osl 0 5 0 X.length),(1,.i i),(2,.osl 4 5 0 1),(7,.i 1),(8,.i X.length)]) kr ?_
 refine Rr (An3 3 [(25,.osl 8 5 0 (X.length+1)),(24,.osl 4 5 0 1),(23,.osl 0 5 0 X.length)] (fun _=>[(8,apd (fl fc X++List.replicate ((c-X.length)*5) AV.dead) (X.length*5) (((fc y).drop 0).take (1*5))),(4,fc y)]) 12 ((0+1*5<=(fc y).length)/\(5=5/\X.length*5<=(fl fc X++List.replicate ((c-X.length)*5) AV.dead).length/\0<80/\(X.length+1)*80<=140737488355328)/\·) ⟨(by(first|omega|(simp only[LL,hfl,hfy,zrs_len'];omega))),⟨rfl,by(first|omega|(simp only[LL,hfl,hfy,zrs_len'];omega)),dc,by(first|omega|(simp only[LL,hfl,hfy,zrs_len'];omega))⟩,run_H (H':=[(8,fl fc (X++[y])),(4,fc y)]) (by rw[show apd (fl fc X++List.replicate ((c-X.length)*5) AV.dead) (X.length*5) (((fc y).drop 0).take (1*5))=fl fc (X++[y])from(by unfold apd;rw[ig1 hf X _ X.length (Nat.le_refl _),List.take_length,fl_app,fl_one,List.drop_zero,List.take_of_length_le (by rw[hfy];omega)])]) (Fn0 [] [(6,.osl 8 5 0 (X.length+1))] (Rt (.osl 8 5 0 (X.length+1)) ?_))⟩)
 · refine⟨_,List.Sublist.refl _,8,[],rfl,?_,?_⟩
   · show AV.osl _ _ _ _=AV.osl _ _ _ _
     congr 1
     simp only[List.length_append,List.length_take,List.length_drop,List.length_cons,List.length_nil];omega
   · refine Eq.trans (b:=some (fl fc (X++[y]))) kr ?_
     first
       |rfl
       |(rw[List.append_nil];done)
       |(rw[List.append_nil,show i=X.length by omega,List.take_length,List.drop_length,List.append_nil,fl_app,fl_one])
 refine Sk (Jn (hK7 (Kp [0,1,2,7,8] (Sq fun K11 hK11=>?_))))
 refine Rr (Av1 3 28 [(27,.i 1),(26,.i X.length)] (cI (wn1 X.length om)) (Ki/\·) ⟨rfl,Cn1 (decide ((c:Int)<((X.length+1:Nat):Int))) [0,1,2,7,8] [] (Ki/\·) ⟨rfl,fun hc13 c13=>?_,fun hc13 c13=>?_⟩⟩)
 refine Rr (Av1 6 37 [(36,.i 1),(35,.i X.length),(34,.ocl 0 5 0 i c),(33,.i i),(32,.ocl 0 5 0 X.length c)] (cI (wn1 X.length om)) ((5=5/\0<=(0:Int)/\(0:Int)<=(i:Int)/\(i:Int)<=(c:Int))/\Ki/\·) ⟨⟨rfl,om,om,om⟩,rfl,Av1 (r:=.i (IntKind.i64.wrap (((X.length+1:Nat):Int)-(i:Int)))) (v:=.i (((X.length+1:Nat):Int)-(i:Int))) 2 39 [(38,.i i)] (cI (wrap64 om om)) (Ki/\·) ⟨rfl,An3 1 [(40,.osl 8 5 0 (i+((((X.length+1:Nat):Int)-(i:Int)).toNat)))] (fun _=>[(8,(fl fc X++List.replicate ((c-X.length)*5) AV.dead).take (i*5)++zrs ((((X.length+1:Nat):Int)-(i:Int)).toNat) zt),(0,fl fc X++List.replicate ((c-X.length)*5) AV.dead),(4,fc y)]) 12 (fun Z=>(5=5/\(0:Int)<=(((X.length+1:Nat):Int)-(i:Int))/\(((X.length+1:Nat):Int)-(i:Int))<=1099511627776/\c<i+((((X.length+1:Nat):Int)-(i:Int)).toNat)/\i*5<=(fl fc X++List.replicate ((c-X.length)*5) AV.dead).length/\0<80/\(i+((((X.length+1:Nat):Int)-(i:Int)).toNat))*80<=140737488355328)/\Z) ⟨⟨rfl,om,om,by(first|omega|(simp only[LL,hfl,hfy,zrs_len'];omega)),by(first|omega|(simp only[LL,hfl,hfy,zrs_len'];omega)),dc,om⟩,run_H (H':=[(8,fl fc (X.take i)++zrs (X.length+1-i) zt),(0,fl fc X++List.replicate ((c-X.length)*5) AV.dead),(4,fc y)]) (by rw[show(fl fc X++List.replicate ((c-X.length)*5) AV.dead).take (i*5)++zrs ((((X.length+1:Nat):Int)-(i:Int)).toNat) zt=fl fc (X.take i)++zrs (X.length+1-i) zt from(by rw[ig1 hf X _ i om];congr 2;omega)]) ?_⟩⟩⟩)
 refine Fn0 [0,1,2,7] [(9,.osl 8 5 0 (i+((((X.length+1:Nat):Int)-(i:Int)).toNat)))] (Rr (An3 5 [(45,.i ((min 1 ((i+((((X.length+1:Nat):Int)-(i:Int)).toNat))-i):Nat):Int)),(44,.osl 4 5 0 1),(43,.osl 8 5 (0+i*5) ((i+((((X.length+1:Nat):Int)-(i:Int)).toNat))-i)),(42,.i i),(41,.osl 8 5 0 (i+((((X.length+1:Nat):Int)-(i:Int)).toNat)))] (fun _=>[(8,spl (fl fc (X.take i)++zrs (X.length+1-i) zt) (0+i*5) ((((fc y).drop 0).take (1*5)).take (min 1 ((i+((((X.length+1:Nat):Int)-(i:Int)).toNat))-i)*5))),(0,fl fc X++List.replicate ((c-X.length)*5) AV.dead),(4,fc y)]) 12 (fun Z=>(5=5/\0<=((i:Int):Int)/\((i:Int):Int)<=((i+((((X.length+1:Nat):Int)-(i:Int)).toNat):Nat):Int)/\((i+((((X.length+1:Nat):Int)-(i:Int)).toNat):Nat):Int)<=((i+((((X.length+1:Nat):Int)-(i:Int)).toNat):Nat):Int))/\(0+1*5<=(fc y).length)/\(5=5/\0+i*5+min 1 ((i+((((X.length+1:Nat):Int)-(i:Int)).toNat))-i)*5<=(fl fc (X.take i)++zrs (X.length+1-i) zt).length)/\Z) ⟨⟨rfl,om,om,om⟩,(by(first|omega|(simp only[LL,hfl,hfy,zrs_len'];omega))),⟨rfl,by(first|omega|(simp only[LL,hfl,hfy,zrs_len'];omega))⟩,run_H (H':=[(8,fl fc (X.take i++[y])++zrs (X.length-i) zt),(0,fl fc X++List.replicate ((c-X.length)*5) AV.dead),(4,fc y)]) (by rw[show spl (fl fc (X.take i)++zrs (X.length+1-i) zt) (0+i*5) ((((fc y).drop 0).take (1*5)).take (min 1 ((i+((((X.length+1:Nat):Int)-(i:Int)).toNat))-i)*5))=fl fc (X.take i++[y])++zrs (X.length-i) zt from(by have e:=ig2 hf X y i (X.length+1-i) zt rfl om om;rw[show X.length+1-i-1=X.length-i by omega]at e;rw[<-e];congr 1<;>first|omega|(rw[List.drop_zero,List.take_take,List.take_of_length_le (by rw[hfy];omega)]))]) (Fn0 [0,1,7,9] [] ?_)⟩))
 refine Qr [0,0,0,6,15,0,0,96,255] [(0,[]),(1,[]),(2,[]),(3,[]),(4,[]),(5,[]),(6,[]),(7,[]),(8,[])] (qAv1 4 49 [(48,.i 1),(47,.i i),(46,.osl 8 5 0 (i+((((X.length+1:Nat):Int)-(i:Int)).toNat)))] (cI (wn1 i om)) (Ki/\·) ⟨rfl,qAn3 5 [(54,.i ((min (X.length-i) ((i+((((X.length+1:Nat):Int)-(i:Int)).toNat))-(i+1)):Nat):Int)),(53,.ocl 0 5 (0+i*5) (X.length-i) (c-i)),(52,.i i),(51,.ocl 0 5 0 X.length c),(50,.osl 8 5 (0+(i+1)*5) ((i+((((X.length+1:Nat):Int)-(i:Int)).toNat))-(i+1)))] (fun _=>[(8,spl (fl fc (X.take i++[y])++zrs (X.length-i) zt) (0+(i+1)*5) ((((fl fc X++List.replicate ((c-X.length)*5) AV.dead).drop (0+i*5)).take ((X.length-i)*5)).take (min (X.length-i) ((i+((((X.length+1:Nat):Int)-(i:Int)).toNat))-(i+1))*5))),(0,fl fc X++List.replicate ((c-X.length)*5) AV.dead),(4,fc y)]) 12 (fun Z=>(5=5/\0<=(((i+1:Nat):Int):Int)/\(((i+1:Nat):Int):Int)<=((i+((((X.length+1:Nat):Int)-(i:Int)).toNat):Nat):Int)/\((i+((((X.length+1:Nat):Int)-(i:Int)).toNat):Nat):Int)<=((i+((((X.length+1:Nat):Int)-(i:Int)).toNat):Nat):Int))/\(5=5/\0<=((i:Int):Int)/\((i:Int):Int)<=(X.length:Int)/\(X.length:Int)<=(c:Int))/\(0+i*5+(X.length-i)*5<=(fl fc X++List.replicate ((c-X.length)*5) AV.dead).length)/\(5=5/\0+(i+1)*5+min (X.length-i) ((i+((((X.length+1:Nat):Int)-(i:Int)).toNat))-(i+1))*5<=(fl fc (X.take i++[y])++zrs (X.length-i) zt).length)/\(True)/\Z) ⟨⟨rfl,om,om,om⟩,⟨rfl,om,om,om⟩,(by(first|omega|(simp only[LL,hfl,hfy,zrs_len'];omega))),⟨rfl,by(first|omega|(simp only[LL,hfl,hfy,zrs_len'];omega))⟩,trivial,runq_H (H':=[(8,fl fc (X.take i++[y]++X.drop i)),(0,fl fc X++List.replicate ((c-X.length)*5) AV.dead),(4,fc y)]) (by rw[show spl (fl fc (X.take i++[y])++zrs (X.length-i) zt) (0+(i+1)*5) ((((fl fc X++List.replicate ((c-X.length)*5) AV.dead).drop (0+i*5)).take ((X.length-i)*5)).take (min (X.length-i) ((i+((((X.length+1:Nat):Int)-(i:Int)).toNat))-(i+1))*5))=fl fc (X.take i++[y]++X.drop i)from(by rw[<-ig3 hf X y i zt rfl om];congr 1<;>first|omega|(rw[<-ig5 hf X _ i om];congr 1;omega))]) (qFn0 [9] [] ?_)⟩⟩)
 refine Rr (Fn0 [] [(6,.osl 8 5 0 (i+((((X.length+1:Nat):Int)-(i:Int)).toNat)))] (Rt (.osl 8 5 0 (i+((((X.length+1:Nat):Int)-(i:Int)).toNat))) ?_))
 · refine⟨_,List.Sublist.refl _,8,[],rfl,?_,?_⟩
   · show AV.osl _ _ _ _=AV.osl _ _ _ _
     congr 1
     simp only[List.length_append,List.length_take,List.length_drop,List.length_cons,List.length_nil];omega
   · refine Eq.trans (b:=some (fl fc (X.take i++[y]++X.drop i))) kr ?_
     first
       |rfl
       |(rw[List.append_nil];done)
       |(rw[List.append_nil,show i=X.length by omega,List.take_length,List.drop_length,List.append_nil,fl_app,fl_one])
 refine Sk (Jn (hK11 (Kp [0,1,2,7,8] (Rr (Av1 4 59 [(58,.i 1),(57,.i X.length),(56,.ocl 0 5 0 X.length c)] (cI (wn1 X.length om)) (Ki/\·) ⟨rfl,Fn1 [1,2,7,8] [(0,.ocl 0 5 0 (X.length+1) c)] ((5=5/\0<=(0:Int)/\(0:Int)<=((X.length+1:Nat):Int)/\((X.length+1:Nat):Int)<=(c:Int))/\·) ⟨⟨rfl,om,om,om⟩,Sq fun K19 hK19=>?_⟩⟩)))))
 refine Rr (Av1 5 65 [(64,.i 1),(63,.i i),(62,.ocl 0 5 0 (X.length+1) c),(61,.osl 4 5 0 1)] (cI (wn1 i om)) (Ki/\·) ⟨rfl,Bc1 2 [(66,.ocl 0 5 (0+(i+1)*5) ((X.length+1)-(i+1)) (c-(i+1)))] 96 [.osl 4 5 0 1,.ocl 0 5 (0+(i+1)*5) ((X.length+1)-(i+1)) (c-(i+1))] 67 ((5=5/\0<=(((i+1:Nat):Int):Int)/\(((i+1:Nat):Int):Int)<=((X.length+1:Nat):Int)/\((X.length+1:Nat):Int)<=(c:Int))/\·) ⟨⟨rfl,om,om,om⟩,ov_use (t:=24) (e:=26) (tR:=4) (ca:=fc y) (cb':=fl fc X++List.replicate ((c-X.length)*5) AV.dead) (Ke ?_) kr kr kr kr om rfl dc t24 rfl t26 Tryz.func96 kr kr kr kr⟩⟩)
 refine Fn0 [0,1,2,7,8] [(68,.bool true)] (Ct (Qr [0,0,0,6,15,0,0,96,255] [(0,[]),(1,[]),(2,[]),(3,[]),(4,[]),(5,[]),(6,[]),(7,[]),(8,[])] (qAv1 4 72 [(71,.i 1),(70,.i i),(69,.ocl 0 5 0 (X.length+1) c)] (cI (wn1 i om)) (Ki/\·) ⟨rfl,qAn3 5 [(77,.i ((min ((X.length+1)-i) ((X.length+1)-(i+1)):Nat):Int)),(76,.ocl 0 5 (0+i*5) ((X.length+1)-i) (c-i)),(75,.i i),(74,.ocl 0 5 0 (X.length+1) c),(73,.ocl 0 5 (0+(i+1)*5) ((X.length+1)-(i+1)) (c-(i+1)))] (fun _=>[(0,spl (fl fc X++List.replicate ((c-X.length)*5) AV.dead) (0+(i+1)*5) ((((fl fc X++List.replicate ((c-X.length)*5) AV.dead).drop (0+i*5)).take (((X.length+1)-i)*5)).take (min ((X.length+1)-i) ((X.length+1)-(i+1))*5))),(4,fc y)]) 8 ((5=5/\0<=(((i+1:Nat):Int):Int)/\(((i+1:Nat):Int):Int)<=((X.length+1:Nat):Int)/\((X.length+1:Nat):Int)<=(c:Int))/\(5=5/\0<=((i:Int):Int)/\((i:Int):Int)<=((X.length+1:Nat):Int)/\((X.length+1:Nat):Int)<=(c:Int))/\(0+i*5+((X.length+1)-i)*5<=(fl fc X++List.replicate ((c-X.length)*5) AV.dead).length)/\(5=5/\0+(i+1)*5+min ((X.length+1)-i) ((X.length+1)-(i+1))*5<=(fl fc X++List.replicate ((c-X.length)*5) AV.dead).length)/\(True)/\·) ⟨⟨rfl,om,om,om⟩,⟨rfl,om,om,om⟩,(by(first|omega|(simp only[LL,hfl,hfy,zrs_len'];omega))),⟨rfl,by(first|omega|(simp only[LL,hfl,hfy,zrs_len'];omega))⟩,trivial,?_⟩⟩)))
 refine runq_H (H':=[(0,fl fc (X.take (i+1)++X.drop i)++(List.replicate ((c-X.length)*5) AV.dead).drop 5),(4,fc y)]) (by rw[show spl (fl fc X++List.replicate ((c-X.length)*5) AV.dead) (0+(i+1)*5) ((((fl fc X++List.replicate ((c-X.length)*5) AV.dead).drop (0+i*5)).take (((X.length+1)-i)*5)).take (min ((X.length+1)-i) ((X.length+1)-(i+1))*5))=fl fc (X.take (i+1)++X.drop i)++(List.replicate ((c-X.length)*5) AV.dead).drop 5 from(by rw[<-is1 hf X _ i om (by rw[List.length_replicate];omega),ig6 hf X _ i (X.length+1-(i+1)) om om,show 0+(i+1)*5=(i+1)*5 by omega])]) ?_
 refine qFn0 [0,1,2] [] (Rr (An3 5 [(82,.i ((min 1 ((X.length+1)-i):Nat):Int)),(81,.osl 4 5 0 1),(80,.ocl 0 5 (0+i*5) ((X.length+1)-i) (c-i)),(79,.i i),(78,.ocl 0 5 0 (X.length+1) c)] (fun _=>[(0,spl (fl fc (X.take (i+1)++X.drop i)++(List.replicate ((c-X.length)*5) AV.dead).drop 5) (0+i*5) ((((fc y).drop 0).take (1*5)).take (min 1 ((X.length+1)-i)*5))),(4,fc y)]) 8 ((5=5/\0<=((i:Int):Int)/\((i:Int):Int)<=((X.length+1:Nat):Int)/\((X.length+1:Nat):Int)<=(c:Int))/\(0+1*5<=(fc y).length)/\(5=5/\0+i*5+min 1 ((X.length+1)-i)*5<=(fl fc (X.take (i+1)++X.drop i)++(List.replicate ((c-X.length)*5) AV.dead).drop 5).length)/\·) ⟨⟨rfl,om,om,om⟩,(by(first|omega|(simp only[LL,hfl,hfy,zrs_len'];omega))),⟨rfl,by(first|omega|(simp only[LL,hfl,hfy,zrs_len'];omega))⟩,run_H (H':=[(0,fl fc (X.take i++[y]++X.drop i)++(List.replicate ((c-X.length)*5) AV.dead).drop 5),(4,fc y)]) (by rw[show spl (fl fc (X.take (i+1)++X.drop i)++(List.replicate ((c-X.length)*5) AV.dead).drop 5) (0+i*5) ((((fc y).drop 0).take (1*5)).take (min 1 ((X.length+1)-i)*5))=fl fc (X.take i++[y]++X.drop i)++(List.replicate ((c-X.length)*5) AV.dead).drop 5 from(by rw[<-is2 hf X _ y i om];congr 1<;>first|omega|(rw[List.drop_zero,List.take_take,List.take_of_length_le (by rw[hfy];omega)]))]) (Fn0 [0] [] ?_)⟩))
 refine Rr (Fn0 [] [(6,.ocl 0 5 0 (X.length+1) c)] (Rt (.ocl 0 5 0 (X.length+1) c) ?_))
 · refine⟨_,List.Sublist.refl _,0,(List.replicate ((c-X.length)*5) AV.dead).drop 5,rfl,?_,?_⟩
   · show AV.osl _ _ _ _=AV.osl _ _ _ _
     congr 1
     simp only[List.length_append,List.length_take,List.length_drop,List.length_cons,List.length_nil];omega
   · refine Eq.trans (b:=some (fl fc (X.take i++[y]++X.drop i)++(List.replicate ((c-X.length)*5) AV.dead).drop 5)) kr ?_
     first
       |rfl
       |(rw[List.append_nil];done)
       |(rw[List.append_nil,show i=X.length by omega,List.take_length,List.drop_length,List.append_nil,fl_app,fl_one])
open Go Go.Proofs
set_option maxRecDepth 100000
theorem delS {α:Type} {fc:α->List AV} (hf:∀x,(fc x).length=1) (X:List α) (i c:Nat) (hi:i<X.length) (hX:X.length<2^36) (hc:X.length<=c):TCw 1 G 89 [.ocl 0 1 0 X.length c,.i i,.i ((i+1:Nat):Int)] [(0,fl fc X)] 4 (fun r H1 _=>∃tl,unc r=.osl 0 1 0 (X.take i++X.drop (i+1)).length/\hgt H1 0=some (fl fc (X.take i++X.drop (i+1))++tl)):=by
 have hfl:=fun l:List α=>fl_len' hf l
 refine TCw_enter (c:=bd Tryz.f89) Tryz.func89 kr kr (tt_eq (F:=[(0,.ocl 0 1 0 X.length c),(1,.i i),(2,.i ((i+1:Nat):Int))]) kr ?_)
 refine Rr (Fn0 [0,1,2] [] (Rr (Fn1 [0,1,2] [] ((1=1/\(0:Int)<=(i:Int)/\(i:Int)<=((i+1:Nat):Int)/\((i+1:Nat):Int)<=(X.length:Int)/\(X.length:Int)<=(c:Int))/\·) ⟨⟨rfl,om,om,om,om⟩,Sq fun K3 hK3=>?_⟩)))
 refine Rr (Cn1 (decide ((i:Int)=((i+1:Nat):Int))) [0,1,2] [] (Ki/\·) ⟨rfl,fun hc5 c5=>?_,fun hc5 c5=>?_⟩)
 exfalso;omega
 refine Sk (Jn (hK3 (Kp [0,1,2] (Rr (Fn0 [0,1,2] [(7,.i X.length)] (Sl [0,0,3,0,0,24,63] [(0,[]),(1,[]),(2,[]),(3,[]),(4,[]),(5,[]),(6,[])] fun K7 hK7=>?_))))))
 refine qAn3 7 [(26,.ocl 0 1 0 (i+(X.length-(i+1))) c),(25,.ocl 0 1 (0+(i+1)*1) (X.length-(i+1)) (c-(i+1))),(24,.i ((i+1:Nat):Int)),(23,.ocl 0 1 0 X.length c),(22,.ocl 0 1 0 i c),(21,.i i),(20,.ocl 0 1 0 X.length c)] (fun _=>[(0,spl (fl fc X) (i*1) (((fl fc X).drop (0+(i+1)*1)).take ((X.length-(i+1))*1)))]) 4 ((1=1/\0<=(0:Int)/\(0:Int)<=(i:Int)/\(i:Int)<=(c:Int))/\(1=1/\0<=(((i+1:Nat):Int):Int)/\(((i+1:Nat):Int):Int)<=(X.length:Int)/\(X.length:Int)<=(c:Int))/\(0+(i+1)*1+(X.length-(i+1))*1<=(fl fc X).length)/\(1=1/\i+(X.length-(i+1))<=c/\(i+(X.length-(i+1)))*1<=(fl fc X).length)/\(True)/\·) ⟨⟨rfl,om,om,om⟩,⟨rfl,om,om,om⟩,(by(first|omega|(simp only[LL,hfl,zrs_len'];omega))),⟨rfl,by(first|omega|(simp only[LL,hfl,zrs_len'];omega)),by(first|omega|(simp only[LL,hfl,zrs_len'];omega))⟩,trivial,runq_H (H':=[(0,fl fc (X.take i++X.drop (i+1))++fl fc (X.drop (X.length-1)))]) (by rw[show spl (fl fc X) (i*1) (((fl fc X).drop (0+(i+1)*1)).take ((X.length-(i+1))*1))=fl fc (X.take i++X.drop (i+1))++fl fc (X.drop (X.length-1))from(by rw[<-id1 hf X i om,Nat.zero_add,fl_drop hf,List.take_of_length_le (by rw[hfl,List.length_drop];omega)])]) (qGn0 [] (Lo 0 (.ocl 0 1 0 (i+(X.length-(i+1))) c) (fun Z=>Z) (hK7 _ _ _ ?_)))⟩
 refine Kp [0,7] (Rr (An3 6 [(31,.ocl 0 1 (0+(i+(X.length-(i+1)))*1) (X.length-(i+(X.length-(i+1)))) (c-(i+(X.length-(i+1))))),(30,.i X.length),(29,.i ((i+(X.length-(i+1)):Nat):Int)),(28,.ocl 0 1 0 (i+(X.length-(i+1))) c),(27,.ocl 0 1 0 (i+(X.length-(i+1))) c)] (fun _=>[(0,spl (fl fc (X.take i++X.drop (i+1))++fl fc (X.drop (X.length-1))) (0+(i+(X.length-(i+1)))*1) (zrs (X.length-(i+(X.length-(i+1)))) [.str []]))]) 4 (fun Z=>(1=1/\0<=(((i+(X.length-(i+1)):Nat):Int):Int)/\(((i+(X.length-(i+1)):Nat):Int):Int)<=(X.length:Int)/\(X.length:Int)<=(c:Int))/\(1=1/\0+(i+(X.length-(i+1)))*1+(X.length-(i+(X.length-(i+1))))*1<=(fl fc (X.take i++X.drop (i+1))++fl fc (X.drop (X.length-1))).length)/\Z) ⟨⟨rfl,om,om,om⟩,⟨rfl,by(first|omega|(simp only[LL,hfl,zrs_len'];omega))⟩,run_H (H':=[(0,fl fc (X.take i++X.drop (i+1))++zrs 1 [.str []])]) (by rw[show spl (fl fc (X.take i++X.drop (i+1))++fl fc (X.drop (X.length-1))) (0+(i+(X.length-(i+1)))*1) (zrs (X.length-(i+(X.length-(i+1)))) [.str []])=fl fc (X.take i++X.drop (i+1))++zrs 1 [.str []]from(by rw[<-id2 hf X i [.str []] rfl om];congr 1<;>first|omega|(congr 1;omega))]) (Fn0 [0] [] ?_)⟩))
 refine Rr (Fn0 [] [(6,.ocl 0 1 0 (i+(X.length-(i+1))) c)] (Rt (.ocl 0 1 0 (i+(X.length-(i+1))) c) (⟨_,List.Sublist.refl _,zrs 1 [.str []],?_,?_⟩)))
 · show AV.osl _ _ _ _=AV.osl _ _ _ _
   congr 1
   simp only[List.length_append,List.length_take,List.length_drop];omega
 · kernel_rfl
theorem delT {α:Type} {fc:α->List AV} (hf:∀x,(fc x).length=5) (X:List α) (i c:Nat) (hi:i<X.length) (hX:X.length<2^36) (hc:X.length<=c):TCw 1 G 90 [.ocl 0 5 0 X.length c,.i i,.i ((i+1:Nat):Int)] [(0,fl fc X)] 4 (fun r H1 _=>∃tl,unc r=.osl 0 5 0 (X.take i++X.drop (i+1)).length/\hgt H1 0=some (fl fc (X.take i++X.drop (i+1))++tl)):=by
 have hfl:=fun l:List α=>fl_len' hf l
 refine TCw_enter (c:=bd Tryz.f90) Tryz.func90 kr kr (tt_eq (F:=[(0,.ocl 0 5 0 X.length c),(1,.i i),(2,.i ((i+1:Nat):Int))]) kr ?_)
 refine Rr (Fn0 [0,1,2] [] (Rr (Fn1 [0,1,2] [] ((5=5/\(0:Int)<=(i:Int)/\(i:Int)<=((i+1:Nat):Int)/\((i+1:Nat):Int)<=(X.length:Int)/\(X.length:Int)<=(c:Int))/\·) ⟨⟨rfl,om,om,om,om⟩,Sq fun K3 hK3=>?_⟩)))
 refine Rr (Cn1 (decide ((i:Int)=((i+1:Nat):Int))) [0,1,2] [] (Ki/\·) ⟨rfl,fun hc5 c5=>?_,fun hc5 c5=>?_⟩)
 exfalso;omega
 refine Sk (Jn (hK3 (Kp [0,1,2] (Rr (Fn0 [0,1,2] [(7,.i X.length)] (Sl [0,0,3,0,0,24,63] [(0,[]),(1,[]),(2,[]),(3,[]),(4,[]),(5,[]),(6,[])] fun K7 hK7=>?_))))))
 refine qAn3 7 [(26,.ocl 0 5 0 (i+(X.length-(i+1))) c),(25,.ocl 0 5 (0+(i+1)*5) (X.length-(i+1)) (c-(i+1))),(24,.i ((i+1:Nat):Int)),(23,.ocl 0 5 0 X.length c),(22,.ocl 0 5 0 i c),(21,.i i),(20,.ocl 0 5 0 X.length c)] (fun _=>[(0,spl (fl fc X) (i*5) (((fl fc X).drop (0+(i+1)*5)).take ((X.length-(i+1))*5)))]) 4 ((5=5/\0<=(0:Int)/\(0:Int)<=(i:Int)/\(i:Int)<=(c:Int))/\(5=5/\0<=(((i+1:Nat):Int):Int)/\(((i+1:Nat):Int):Int)<=(X.length:Int)/\(X.length:Int)<=(c:Int))/\(0+(i+1)*5+(X.length-(i+1))*5<=(fl fc X).length)/\(5=5/\i+(X.length-(i+1))<=c/\(i+(X.length-(i+1)))*5<=(fl fc X).length)/\(True)/\·) ⟨⟨rfl,om,om,om⟩,⟨rfl,om,om,om⟩,(by(first|omega|(simp only[LL,hfl,zrs_len'];omega))),⟨rfl,by(first|omega|(simp only[LL,hfl,zrs_len'];omega)),by(first|omega|(simp only[LL,hfl,zrs_len'];omega))⟩,trivial,runq_H (H':=[(0,fl fc (X.take i++X.drop (i+1))++fl fc (X.drop (X.length-1)))]) (by rw[show spl (fl fc X) (i*5) (((fl fc X).drop (0+(i+1)*5)).take ((X.length-(i+1))*5))=fl fc (X.take i++X.drop (i+1))++fl fc (X.drop (X.length-1))from(by rw[<-id1 hf X i om,Nat.zero_add,fl_drop hf,List.take_of_length_le (by rw[hfl,List.length_drop];omega)])]) (qGn0 [] (Lo 0 (.ocl 0 5 0 (i+(X.length-(i+1))) c) (fun Z=>Z) (hK7 _ _ _ ?_)))⟩
 refine Kp [0,7] (Rr (An3 6 [(31,.ocl 0 5 (0+(i+(X.length-(i+1)))*5) (X.length-(i+(X.length-(i+1)))) (c-(i+(X.length-(i+1))))),(30,.i X.length),(29,.i ((i+(X.length-(i+1)):Nat):Int)),(28,.ocl 0 5 0 (i+(X.length-(i+1))) c),(27,.ocl 0 5 0 (i+(X.length-(i+1))) c)] (fun _=>[(0,spl (fl fc (X.take i++X.drop (i+1))++fl fc (X.drop (X.length-1))) (0+(i+(X.length-(i+1)))*5) (zrs (X.length-(i+(X.length-(i+1)))) zt))]) 4 (fun Z=>(5=5/\0<=(((i+(X.length-(i+1)):Nat):Int):Int)/\(((i+(X.length-(i+1)):Nat):Int):Int)<=(X.length:Int)/\(X.length:Int)<=(c:Int))/\(5=5/\0+(i+(X.length-(i+1)))*5+(X.length-(i+(X.length-(i+1))))*5<=(fl fc (X.take i++X.drop (i+1))++fl fc (X.drop (X.length-1))).length)/\Z) ⟨⟨rfl,om,om,om⟩,⟨rfl,by(first|omega|(simp only[LL,hfl,zrs_len'];omega))⟩,run_H (H':=[(0,fl fc (X.take i++X.drop (i+1))++zrs 1 zt)]) (by rw[show spl (fl fc (X.take i++X.drop (i+1))++fl fc (X.drop (X.length-1))) (0+(i+(X.length-(i+1)))*5) (zrs (X.length-(i+(X.length-(i+1)))) zt)=fl fc (X.take i++X.drop (i+1))++zrs 1 zt from(by rw[<-id2 hf X i zt rfl om];congr 1<;>first|omega|(congr 1;omega))]) (Fn0 [0] [] ?_)⟩))
 refine Rr (Fn0 [] [(6,.ocl 0 5 0 (i+(X.length-(i+1))) c)] (Rt (.ocl 0 5 0 (i+(X.length-(i+1))) c) (⟨_,List.Sublist.refl _,zrs 1 zt,?_,?_⟩)))
 · show AV.osl _ _ _ _=AV.osl _ _ _ _
   congr 1
   simp only[List.length_append,List.length_take,List.length_drop];omega
 · kernel_rfl
theorem isNaN1_ok (s:Str):PE G 109 [.str s] (.bool false):=by
 refine Pe Tryz.func109 ?_
 refine Rr (Fn0 [0] [] (Rr (Fn0 [] [(2,.bool (!(s==s)))] (Rt (.bool (!(s==s))) ?_))))
 refine fin_lea (by rw[beq_self_eq_true];exact lea_refl _)
theorem isNaN2_ok (s:Str):PE G 93 [.str s] (.bool false):=by
 refine Pe Tryz.func93 ?_
 refine Rr (Fn0 [0] [] (Rr (Fn0 [] [(2,.bool (!(s==s)))] (Rt (.bool (!(s==s))) ?_))))
 refine fin_lea (by rw[beq_self_eq_true];exact lea_refl _)
theorem less_ok (a b:Str):PE G 92 [.str a,.str b] (.bool (blt a b)):=by
 refine Pe Tryz.func92 ?_
 refine Rr (Fn0 [0,1] [] (Rr (Pc0 2 [(5,.str a)] 6 (isNaN1_ok a) (Fn0 [] [(4,.bool (blt a b))] ?_))))
 refine Rt (.bool (blt a b)) ?_
 exact fin_lea (lea_refl _)
theorem idx_no {a b:Str} (h:(a==b)=false):(b==a)=false:=by
  cases hx:(b==a)
  · rfl
  · rw[(eq_of_beq hx).symm,beq_self_eq_true]at h;cases h
theorem index_ok (X:List Str) (nm:Str) (hX:X.length<2^40):PE G 88 [pth X,.str nm] (.i (fndI nm X)):=by
 refine Pe Tryz.func88 ?_
 refine Rr (Fn0 [0,1] [] (Sq fun K2 hK2=>?_))
 refine Rr (Av0 2 7 [(6,pth X)] (lnm X sc) (Fn0 [0,1,7] [(8,.i 0)] (Bl (h_l (fun(k:Nat)=>([(0,pth X),(1,.str nm),(7,.i X.length),(8,.i k)]:Fr)) (fun(k:Nat)=>([]:Hp)) (fun(k:Nat) cn=>(k<=X.length/\fnd nm (X.take k)=none)/\cn=0) (fun(k:Nat)=>X.length-k) 0 kr ?_ ?_ ?_ ?_))))
 refine⟨?_,rfl⟩;exact⟨Nat.zero_le _,by simp[fnd]⟩
 exact⟨kr,kr,kr,kr,trivial⟩
 exact(List.nil_sublist _)
 rintro k n1 hI
 (try dsimp only at hI)
 obtain⟨⟨hk,hk2⟩,rfl⟩:=hI
 refine Rr (Fn1 [0,1,7,8] [(9,.bool (decide ((k:Int)<(X.length:Int))))] (Ki/\·) ⟨rfl,Sq fun K5 hK5=>?_⟩)
 refine Cc (decide ((k:Int)<(X.length:Int))) (fun hc6 c6=>?_) fun hc6 c6=>?_
 refine Sk (Jn (hK5 (Kp [0,1,7,8] (Sq fun K7 hK7=>?_))))
 refine Bl (Rr (Fn0 [0,1,7,8] [(5,.i k)] (Rr (Av1 4 14 [(13,.i k),(12,pth X),(11,.str nm)] (congrArg AV.pat (mg_str X k om)) ((1=1/\(0:Int)<=(k:Int)/\(k:Int)<((X.map (fun s=>[AV.str s])).length:Int))/\·) ⟨⟨rfl,om,lmo⟩,?_⟩))))
 refine Cn1 (nm==(X.getD k default)) [0,1,5,7,8] [] ((1<=1/\0<1)/\·) ⟨dc,fun hc10 c10=>?_,fun hc10 c10=>?_⟩
 refine Rr (Fn0 [] [(4,.i k)] (Rt (.i k) (fin_lea ?_)))
 unfold fndI
 first
   |(rw[fnd_found nm X k om hk2 (by rw[beq_iff_eq];exact(eq_of_beq hc10).symm)];exact lea_refl _)
   |(rw[fnd_full nm X k om hk2];exact lea_refl _)
 refine Sk (Bn (Jn (hK7 (Kp [0,1,7,8] (Rn (Av1 1 18 [] (cI (wn1 k om)) (Ki/\·) ⟨rfl,Gn0 [(8,.i ((k+1:Nat):Int))] (nk_n ?_)⟩))))))
 refine Lr (k+1) [] 0 [(0,pth X),(1,.str nm),(7,.i X.length),(8,.i ((k+1:Nat):Int))] [] [] ?_ ?_ kr kr
 (try dsimp only);omega
 refine⟨?_,rfl⟩;exact⟨om,fnd_step nm X k om hk2 (idx_no hc10)⟩
 refine Xt (Jx (Lx (Bh (Jn (hK2 (Kp [] (Rr (Fn0 [] [(4,.i (-1))] (Rt (.i (-1)) (fin_lea ?_))))))))))
 unfold fndI
 first
   |(rw[fnd_found nm X k om hk2 (by rw[beq_iff_eq];exact(eq_of_beq hc6).symm)];exact lea_refl _)
   |(rw[fnd_full nm X k om hk2];exact lea_refl _)
theorem blt_trans:∀{a b c:Str},blt a b=true->blt b c=true->blt a c=true
  |_,[],_,h,_=>by simp[blt,Op.bytesLess]at h
  |_,_::_,[],_,h=>by simp[blt,Op.bytesLess]at h
  |[],_::_,_::_,_,_=>by simp[blt,Op.bytesLess]
  |x::a,y::b,z::c,h,k=>by
    simp only[blt,Op.bytesLess,Bool.or_eq_true,Bool.and_eq_true,decide_eq_true_eq,beq_iff_eq]at h k⊢
    rcases h with h|⟨rfl,h⟩<;>rcases k with k|⟨rfl,k⟩
    · exact .inl (UInt8.lt_trans h k)
    · exact .inl h
    · exact .inl k
    · exact .inr ⟨rfl,blt_trans (a:=a) (b:=b) (c:=c) h k⟩
theorem asc_lt {X:List Str} {i j:Nat} (h:asc X=true) (hij:i<j) (hj:j<X.length):blt (X.getD i default) (X.getD j default)=true:=by
  induction j with
  |zero=>omega
  |succ j ih=>
    have e:=asc_pre X (j+1+1) h
    rw[asc_take X (j+1) hj]at e
    simp only[Bool.and_eq_true,Bool.or_eq_true,decide_eq_true_eq,Nat.add_sub_cancel]at e
    have e2:=e.2.resolve_left om
    rcases Nat.lt_or_ge i j with h1|h1
    · exact blt_trans (ih h1 om) e2
    · obtain rfl:i=j:=by omega
      exact e2
theorem bs_up {X:List Str} {nm:Str} {m:Nat} (ha:asc X=true) (hm:m<X.length) (h:blt (X.getD m default) nm=true):∀j,j<m+1->blt (X.getD j default) nm=true:=by
  intro j hj
  rcases Nat.lt_or_ge j m with h1|h1
  · exact blt_trans (asc_lt ha h1 hm) h
  · obtain rfl:j=m:=by omega
    exact h
theorem bs_dn {X:List Str} {nm:Str} {m:Nat} (ha:asc X=true) (h:blt (X.getD m default) nm=false):∀j,m<=j->j<X.length->blt (X.getD j default) nm=false:=by
  intro j h1 h2
  rcases Nat.lt_or_ge m j with h3|h3
  · cases hb:blt (X.getD j default) nm
    · rfl
    · rw[blt_trans (asc_lt ha h3 h2) hb]at h;cases h
  · obtain rfl:j=m:=by omega
    exact h
theorem bsearch_ok (X:List Str) (nm:Str) (hX:X.length<2^40) (ha:asc X=true):PC G 79 [pth X,.str nm] (fun r=>∃k:Nat,k<=X.length/\(∀j,j<k->blt (X.getD j default) nm=true)/\(∀j,k<=j->j<X.length->blt (X.getD j default) nm=false)/\r=.tup [.i k,.bool (decide (k<X.length)&&X.getD k default==nm)]):=by
 refine h_pc (F:=[(0,pth X),(1,.str nm)]) (by simp only[go_sem]) Tryz.func79 kr kr ?_ kr
 refine Rr (Fn0 [0,1] [] (Rr (Av0 2 11 [(10,pth X)] (lnm X sc) (Fn0 [0,1] [(6,.i X.length)] ?_))))
 refine Rr (Fn0 [0,1,6] [(8,.i X.length),(7,.i 0)] (Sq fun K4 hK4=>?_))
 refine Bl (h_l (fun(z:Nat×Nat)=>(match z with|(lo,hi)=>([(0,pth X),(1,.str nm),(6,.i X.length),(7,.i lo),(8,.i hi)]:Fr))) (fun(z:Nat×Nat)=>(match z with|(lo,hi)=>([]:Hp))) (fun(z:Nat×Nat) cn=>(match z with|(lo,hi)=>(lo<=hi/\hi<=X.length/\(∀j,j<lo->blt (X.getD j default) nm=true)/\(∀j,hi<=j->j<X.length->blt (X.getD j default) nm=false))/\cn=0)) (fun(z:Nat×Nat)=>z.2-z.1) (0,X.length) kr ?_ ?_ ?_ ?_)
 refine⟨?_,rfl⟩;exact⟨Nat.zero_le _,Nat.le_refl _,fun j hj=>by omega,fun j h1 h2=>by omega⟩
 exact⟨kr,kr,kr,kr,kr,trivial⟩
 exact(List.nil_sublist _)
 rintro⟨lo,hi⟩ n1 hI
 (try dsimp only at hI)
 obtain⟨⟨hlo,hhi,hL,hR⟩,rfl⟩:=hI
 refine Sq fun K5 hK5=>?_
 refine Rr (Cn1 (decide ((lo:Int)<(hi:Int))) [0,1,6,7,8] [] (Ki/\·) ⟨rfl,fun hc7 c7=>?_,fun hc7 c7=>?_⟩)
 refine Sk (Jn (hK5 (Kp [0,1,6,7,8] (Bl (Rr (Av1 3 18 [(17,.i hi),(16,.i lo)] (cI (wnn lo hi om)) (Ki/\·) ⟨rfl,Av0 (r:=.int .u64 (IntKind.u64.wrap ((lo+hi:Nat):Int))) (v:=.int .u64 ((lo+hi:Nat):Int)) 1 19 [] (congrArg (AV.int .u64) (wrapu64 om om)) ?_⟩))))))
 refine Av1 (r:=.int .u64 (((lo+hi:Nat):Int).fdiv (2^min (1:Int).toNat IntKind.u64.bits))) (v:=.int .u64 (((lo+hi)/2:Nat):Int)) 1 20 [] (congrArg (AV.int .u64) (nshr (lo+hi))) (((0:Int)<=1)/\·) ⟨dc,Av0 (r:=.i (IntKind.i64.wrap (((lo+hi)/2:Nat):Int))) (v:=.i (((lo+hi)/2:Nat):Int)) 1 21 [] (cI (wrap64 om om)) (Fn0 [0,1,6,7,8] [(9,.i (((lo+hi)/2:Nat):Int))] (Rr (Av1 3 24 [(23,.i (((lo+hi)/2:Nat):Int)),(22,pth X)] (congrArg AV.pat (mg_str X ((lo+hi)/2) om)) ((1=1/\(0:Int)<=(((lo+hi)/2:Nat):Int)/\(((lo+hi)/2:Nat):Int)<((X.map (fun s=>[AV.str s])).length:Int))/\·) ⟨⟨rfl,om,lmo⟩,?_⟩)))⟩
 refine Pc1 3 [(26,.str nm),(25,.str (X.getD ((lo+hi)/2) default))] 27 (1<=1/\0<1) dc (less_ok (X.getD ((lo+hi)/2) default) nm) (Cn0 (blt (X.getD ((lo+hi)/2) default) nm) [0,1,6,7,8,9] [] ⟨fun hc10 c10=>?_,fun hc10 c10=>?_⟩)
 refine Rn (Av1 2 29 [(28,.i (((lo+hi)/2:Nat):Int))] (cI (wn1 ((lo+hi)/2) om)) (Ki/\·) ⟨rfl,Gn0 [(7,.i ((((lo+hi)/2)+1:Nat):Int))] (nk_n (Bn ?_))⟩)
 refine Lr ((lo+hi)/2+1,hi) [] 0 [(0,pth X),(1,.str nm),(6,.i X.length),(7,.i ((((lo+hi)/2)+1:Nat):Int)),(8,.i hi)] [] [] ?_ ?_ kr kr
 (try dsimp only);omega
 refine⟨?_,rfl⟩;exact⟨om,hhi,bs_up ha om hc10,hR⟩
 refine Rn (Gn0 [(8,.i (((lo+hi)/2:Nat):Int)),(30,.i (((lo+hi)/2:Nat):Int))] (nk_n (Bn (Lr (lo,(lo+hi)/2) [] 0 [(0,pth X),(1,.str nm),(6,.i X.length),(7,.i lo),(8,.i (((lo+hi)/2:Nat):Int))] [] [] ?_ ?_ kr kr))))
 (try dsimp only);omega
 refine⟨?_,rfl⟩;exact⟨om,om,hL,bs_dn ha hc10⟩
 refine Xt (Jx (Lx (Bh (Jn (hK4 (Kp [0,1,6,7] (Rj [(4,.i lo),(5,.bool ((decide ((lo:Int)<(X.length:Int)))&&((X.getD lo default)==nm)))] [] 0 (fun K11 hK11=>?_) ?_)))))))
 refine An1 5 [(35,.bool (decide ((lo:Int)<(X.length:Int)))),(34,.bool (decide ((lo:Int)<(X.length:Int)))),(33,.i X.length),(32,.i lo),(31,.i lo)] (Ki/\·) ⟨rfl,Rg (fun hg12 g12=>?_) (fun hg12 g12=>?_)⟩
 refine Av1 3 38 [(37,.i lo),(36,pth X)] (congrArg AV.pat (mg_str X lo om)) ((1=1/\(0:Int)<=(lo:Int)/\(lo:Int)<((X.map (fun s=>[AV.str s])).length:Int))/\·) ⟨⟨rfl,om,lmo⟩,An1 4 [(42,.bool ((X.getD lo default)==nm)),(41,.bool ((X.getD lo default)==nm)),(40,.str nm),(39,.str (X.getD lo default))] ((1<=1/\0<1)/\·) ⟨dc,Rg (fun hg13 g13=>?_) (fun hg13 g13=>?_)⟩⟩
 refine Gn0 [(5,.bool true),(4,.i lo),(53,.bool true),(52,.bool true),(51,.tup []),(50,.tup []),(49,.tup []),(48,.tup []),(47,.tup []),(46,.tup []),(45,.tup []),(44,.tup []),(43,.tup [])] (hK11 _ _ _ ⟨rfl,(by show AV.bool true=AV.bool ((decide ((lo:Int)<(X.length:Int)))&&((X.getD lo default)==nm));rw[hg12,hg13];rfl),trivial⟩ rfl rfl)
 refine Av1 3 45 [(44,.i lo),(43,pth X)] (congrArg AV.pat (mg_str X lo om)) ((1=1/\(0:Int)<=(lo:Int)/\(lo:Int)<((X.map (fun s=>[AV.str s])).length:Int))/\·) ⟨⟨rfl,om,lmo⟩,Pc1 2 [(46,.str (X.getD lo default))] 47 (1<=1/\0<1) dc (isNaN2_ok (X.getD lo default)) (Gn0 [(5,.bool false),(4,.i lo),(53,.bool false),(52,.bool false),(51,.bool false),(50,.tup []),(49,.tup []),(48,.bool false)] (hK11 _ _ _ ⟨rfl,(by show AV.bool false=AV.bool ((decide ((lo:Int)<(X.length:Int)))&&((X.getD lo default)==nm));rw[hg12,hg13];rfl),trivial⟩ rfl rfl))⟩
 refine Gn0 [(5,.bool false),(4,.i lo),(53,.bool false),(52,.tup []),(51,.tup []),(50,.tup []),(49,.tup []),(48,.tup []),(47,.tup []),(46,.tup []),(45,.tup []),(44,.tup []),(43,.tup []),(42,.tup []),(41,.tup []),(40,.tup []),(39,.tup []),(38,.tup []),(37,.tup []),(36,.tup [])] (hK11 _ _ _ ⟨rfl,(by show AV.bool false=AV.bool ((decide ((lo:Int)<(X.length:Int)))&&((X.getD lo default)==nm));rw[hg12];rfl),trivial⟩ rfl rfl)
 refine Rt (.tup [.i lo,.bool ((decide ((lo:Int)<(X.length:Int)))&&((X.getD lo default)==nm))]) ?_
 · refine⟨[],List.nil_sublist _,_,lea_refl _,⟨lo,om,hL,fun j h1 h2=>hR j om h2,?_⟩,rfl⟩
   show AV.tup [_,AV.bool _]=AV.tup [_,AV.bool _]
   congr 3
   congr 1
   first
     |(rw[show decide (lo<X.length)=false from decide_eq_false om];simp_all;done)
     |(rw[show decide (lo<X.length)=true from decide_eq_true om];simp_all;done)
     |(simp_all;done)
open Go Go.Proofs
set_option maxRecDepth 100000
theorem kid_s {Z W:Hp} {i:Nat} {A B:List AV} {t:OT} (nm:Str) (a b:Nat) (hids:t.ids=some (a,b)) (hz:odH Z) (hi:i%2=1) (hp:Z.Perm ((i,A++otc t++B)::(own t++W))) (hnl:t.names.length=t.kids.length) (hns:t.names.length<2^40):DC G 74 [.ptr i A.length,.str nm] Z (fun r Z'=>Z'=Z/\r=okid t nm):=by
 refine DC_nd fun hnd=>?_
 have hgi:hgt Z i=some (A++otc t++B):=hgt_perm hnd hp (by simp)
 have hgn:hgt Z (2*a+1)=some (fl sc t.names):=hgt_perm hnd hp (by simp[own,hids])
 refine h_dc (F:=[(0,.ptr i A.length),(1,.str nm)]) ⟨hi,trivial,trivial⟩ hz Tryz.func74 kr kr ?_ kr
 refine Rr (Fn0 [0,1] [] (Rr (An1 3 [(8,.ptr i (A.length+3)),(7,.ptr i A.length),(6,.ptr i A.length)] (((1:Nat)≠0)/\·) ⟨dc,geln (t:=t) 9 23 i 3 (.osl (2*a+1) 1 0 t.names.length) (fun J=>by kernel_rfl) hgi kr (by rw[otc,hids];rfl) ?_⟩)))
 refine Bc0 2 [(10,.str nm)] 88 [.osl (2*a+1) 1 0 t.names.length,.str nm] 11 ?_
 refine PE.useB (vw_n nm hgn) (index_ok t.names nm om) rfl ?_
 refine Ke (Fn0 [0] [(5,.i (fndI nm t.names))] (Sq fun K3 hK3=>?_))
 refine Rm 22 ((decide ((fndI nm t.names:Int)<(0:Int)))||(decide ((t.kids.length:Int)<=fndI nm t.names))) [0,5] ?_ ?_
 refine An1 3 [(14,.bool (decide ((fndI nm t.names:Int)<(0:Int)))),(13,.bool (decide ((fndI nm t.names:Int)<(0:Int)))),(12,.i (fndI nm t.names))] (Ki/\·) ⟨rfl,Rg (fun hg5 g5=>?_) (fun hg5 g5=>?_)⟩
 refine Mn0 true (by rw[hg5];rfl)
 refine An1 4 [(18,.ptr i (A.length+4)),(17,.ptr i A.length),(16,.ptr i A.length),(15,.i (fndI nm t.names))] (((1:Nat)≠0)/\·) ⟨dc,geln (t:=t) 19 24 i 4 (.osl (2*b+1) 5 0 t.kids.length) (fun J=>by kernel_rfl) hgi kr (by rw[otc,hids];rfl) (Mn1 (decide ((t.kids.length:Int)<=fndI nm t.names)) (Ki/\·) ⟨rfl,(by rw[hg5];rfl)⟩)⟩
 refine Cc ((decide ((fndI nm t.names:Int)<(0:Int)))||(decide ((t.kids.length:Int)<=fndI nm t.names))) (fun hc6 c6=>?_) fun hc6 c6=>?_
 refine Rr (Fn0 [] [(4,.nilp)] (Rt (.nilp) (fin_dc .nilp Z (List.Sublist.refl _) (lea_refl _) trivial hz ⟨rfl,?_⟩)));rw[okid_no om]
 refine Sk (Jn (hK3 (Kp [0,5] (Rr (An1 3 [(25,.ptr i (A.length+4)),(24,.ptr i A.length),(23,.ptr i A.length)] (((1:Nat)≠0)/\·) ⟨dc,geln (t:=t) 26 24 i 4 (.osl (2*b+1) 5 0 t.kids.length) (fun J=>by kernel_rfl) hgi kr (by rw[otc,hids];rfl) (Fn1 [] [(4,.ptr (2*b+1) (0+((fndI nm t.names).toNat)*5))] ((5=5/\(0:Int)<=fndI nm t.names/\fndI nm t.names<(t.kids.length:Int))/\·) ⟨⟨rfl,om,om⟩,?_⟩)⟩)))))
 refine Rt (.ptr (2*b+1) (0+((fndI nm t.names).toNat)*5)) ?_
 obtain⟨k,e1,e2,e3⟩:=fndI_lt (n:=nm) (l:=t.names) om
 have e4:okid t nm=.ptr (2*b+1) (k*5):=by simp only[okid,hids,e1]
 refine fin_dc (okid t nm) Z (List.Sublist.refl _) ?_ (by rw[e4];simp only[od];omega) hz ⟨rfl,rfl⟩
 rw[e4,e2,Int.toNat_natCast,Nat.zero_add];exact lea_refl _
theorem kid_n {Z W:Hp} {i:Nat} {A B:List AV} {t:OT} (nm:Str) (hids:t.ids=none) (hz:odH Z) (hi:i%2=1) (hp:Z.Perm ((i,A++otc t++B)::(own t++W))) (hnl:t.names.length=t.kids.length) (hns:t.names.length<2^40):DC G 74 [.ptr i A.length,.str nm] Z (fun r Z'=>Z'=Z/\r=okid t nm):=by
 refine DC_nd fun hnd=>?_
 have hgi:hgt Z i=some (A++otc t++B):=hgt_perm hnd hp (by simp)
 
 refine h_dc (F:=[(0,.ptr i A.length),(1,.str nm)]) ⟨hi,trivial,trivial⟩ hz Tryz.func74 kr kr ?_ kr
 refine Rr (Fn0 [0,1] [] (Rr (An1 3 [(8,.ptr i (A.length+3)),(7,.ptr i A.length),(6,.ptr i A.length)] (((1:Nat)≠0)/\·) ⟨dc,geln (t:=t) 9 23 i 3 .nils (fun J=>by kernel_rfl) hgi kr (by rw[otc,hids];rfl) ?_⟩)))
 refine Bc0 2 [(10,.str nm)] 88 [.nils,.str nm] 11 ?_
 refine TCall_le [pth [],.str nm] (by simp[lea,leas,pth]) ?_;refine PE.use (index_ok [] nm (by simp)) ?_
 refine Ke (Fn0 [0] [(5,.i (fndI nm []))] (Sq fun K3 hK3=>?_))
 refine Rr (An1 3 [(14,.bool (decide ((fndI nm []:Int)<(0:Int)))),(13,.bool (decide ((fndI nm []:Int)<(0:Int)))),(12,.i (fndI nm []))] (Ki/\·) ⟨rfl,Rg (fun hg5 g5=>?_) (fun hg5 g5=>?_)⟩)
 refine Fn0 [0,5] [(22,.bool true)] (Ct (Rr (Fn0 [] [(4,.nilp)] (Rt (.nilp) ?_))))
 refine fin_dc .nilp Z (List.Sublist.refl _) (lea_refl _) trivial hz ⟨rfl,?_⟩;rw[okid_none hids]
 exfalso;have:fndI nm []= -1:=rfl;omega
theorem kid_ok {Z W:Hp} {i:Nat} {A B:List AV} {t:OT} (nm:Str) (hz:odH Z) (hi:i%2=1) (hp:Z.Perm ((i,A++otc t++B)::(own t++W))) (hnl:t.names.length=t.kids.length) (hns:t.names.length<2^40):DC G 74 [.ptr i A.length,.str nm] Z (fun r Z'=>Z'=Z/\r=okid t nm):=by
  rcases hids:t.ids with _|⟨a,b⟩
  · exact kid_n nm hids hz hi hp hnl hns
  · exact kid_s nm a b hids hz hi hp hnl hns
open Go Go.Proofs
set_option maxRecDepth 100000
theorem at_ok {Z W:Hp} {r:Nat} {A0 B0:List AV} {T:OT} (p:List Str) (hL:Lies Z r A0 B0 T W) (hp:p.length<2^40):DC G 53 [.ptr r A0.length,pth p] Z (fun r' Z'=>Z'=Z/\r'=oad (opos T r A0.length p)):=by
 refine DC_nd fun hnd=>?_
 refine h_dc (F:=[(0,.ptr r A0.length),(1,pth p)]) ⟨hL.r1,purs_pth p,trivial⟩ hL.odd Tryz.func53 kr kr ?_ kr
 refine Rr (Fn0 [0,1] [] (Sq fun K2 hK2=>?_))
 refine Rr (Av0 2 8 [(7,pth p)] (lnm p sc) (Fn0 [0,7,8] [(9,.i 0)] (Bl (h_lp (fun(z:Nat×Nat×Nat×OT)=>(match z with|(k,i,o,t)=>([(0,.ptr i o),(7,pth p),(8,.i p.length),(9,.i k)]:Fr))) (fun(z:Nat×Nat×Nat×OT)=>(match z with|(k,i,o,t)=>(Z:Hp))) (fun(z:Nat×Nat×Nat×OT) cn=>(match z with|(k,i,o,t)=>(opos T r A0.length (p.take k)=some (i,o)/\oat T (p.take k)=some t/\k<=p.length/\i%2=1)/\cn=0)) (fun(z:Nat×Nat×Nat×OT)=>p.length-z.1) (0,r,A0.length,T) kr ?_ ?_ ?_ ?_))))
 refine⟨?_,rfl⟩;exact⟨rfl,rfl,Nat.zero_le _,hL.r1⟩
 exact⟨kr,kr,kr,kr,trivial⟩
 exact(List.Sublist.refl _)
 rintro⟨k,i,o,t⟩ n1 hI
 (try dsimp only at hI)
 obtain⟨⟨h1,h2,hk,hi2⟩,rfl⟩:=hI
 refine Rr (Fn1 [0,7,8,9] [(10,.bool (decide ((k:Int)<(p.length:Int))))] (Ki/\·) ⟨rfl,Sq fun K5 hK5=>?_⟩)
 refine Cc (decide ((k:Int)<(p.length:Int))) (fun hc6 c6=>?_) fun hc6 c6=>?_
 refine Sk (Jn (hK5 (Kp [0,7,8,9] (Sq fun K7 hK7=>?_))))
 refine Bl (Rr (Av1 1 11 [] (congrArg AV.pat (mg_str p k om)) ((1=1/\(0:Int)<=(k:Int)/\(k:Int)<((p.map (fun s=>[AV.str s])).length:Int))/\·) ⟨⟨rfl,om,lmo⟩,Fn1 [0,7,8,9] [(6,.str (p.getD k default))] ((1<=1/\0<1)/\·) ⟨dc,Rr ?_⟩⟩))
 refine Bc0 3 [(14,.str (p.getD k default)),(13,.ptr i o)] 74 [.ptr i o,.str (p.getD k default)] 15 ?_
 obtain⟨i',A,B,Wo,q1,q2,q3,q4,q5,q6⟩:=hL.foc h2
 rw[h1]at q1;cases q1
 refine DC.use (kid_ok (t:=t) (p.getD k default) hL.odd q2 q3 q4 om) [] rfl trivial ?_
 rintro _ _ ⟨e1,rfl⟩
 rw[e1];clear e1
 have hop:opos T r A0.length (p.take (k+1))=opos t i A.length [p.getD k default]:=by
   rw[take_snoc p k default om,opos_snoc,h1,h2]
 have hot:oat T (p.take (k+1))=oat t [p.getD k default]:=by
   rw[take_snoc p k default om,oat_snoc,h2]
 rw[okid_oad t (p.getD k default) i A.length,<-hop]
 have hio:=opos_oat (r:=r) (o:=A0.length) (p:=p.take (k+1)) hL.wf hL.shp
 rcases hx:opos T r A0.length (p.take (k+1))with _|⟨j,o'⟩
 skip
 refine Ke (Fn0 [7,8,9] [(0,.nilp)] (Rr (Fn1 [0,7,8,9] [(17,.bool true)] ((∃e,TK.ptr 26=TK.ptr e)/\·) ⟨⟨_,rfl⟩,Ct ?_⟩)))
 refine Rr (Fn0 [] [(4,.nilp)] (Rt (.nilp) (fin_dc .nilp Z (List.Sublist.refl _) (lea_refl _) trivial hL.odd ⟨rfl,?_⟩)))
 rw[opos_cut (k+1) hx];rfl
 obtain⟨t',ht'⟩:∃t',oat T (p.take (k+1))=some t':=by rw[hx]at hio;exact Option.isSome_iff_exists.1 hio.symm
 refine Ke (Fn0 [7,8,9] [(0,.ptr j o')] (Rr (Fn1 [0,7,8,9] [(17,.bool false)] ((∃e,TK.ptr 26=TK.ptr e)/\·) ⟨⟨_,rfl⟩,Cf ?_⟩)))
 refine Sk (Bn (Jn (hK7 (Kp [0,7,8,9] (Rn (Av1 1 18 [] (cI (wn1 k om)) (Ki/\·) ⟨rfl,Gn0 [(9,.i ((k+1:Nat):Int))] (nk_n ?_)⟩))))))
 refine lk_mk (k+1,j,o',t') ?_ ⟨?_,rfl⟩ ⟨kr,kr,kr,kr,trivial⟩ (List.Sublist.refl _)
 (try dsimp only);omega
 exact⟨hx,ht',om,by obtain⟨_,_,_,_,e1,e2,_⟩:=hL.foc ht';rw[hx]at e1;cases e1;exact e2⟩
 refine Xt (Jx (Lkx (Bh (Jn (hK2 (Kp [0] (Rr (Fn0 [] [(4,.ptr i o)] (Rt (.ptr i o) (fin_dc (oad (opos T r A0.length p)) Z (List.Sublist.refl _) ?_ ?_ hL.odd ⟨rfl,rfl⟩))))))))))
 · rw[show opos T r A0.length p=some (i,o) by rw[<-h1,List.take_of_length_le om]];exact lea_refl _
 · rw[show opos T r A0.length p=some (i,o) by rw[<-h1,List.take_of_length_le om]];exact hi2
theorem parent_ok {Z W:Hp} {r:Nat} {A0 B0:List AV} {T:OT} (p:List Str) (hL:Lies Z r A0 B0 T W) (hp0:0<p.length) (hp:p.length<2^40):DC G 73 [.ptr r A0.length,pth p] Z (fun r' Z'=>Z'=Z/\r'=(match oat T (p.take (p.length-1))with|none=>AV.tup [.nilp,.i 3]|some u=>bif u.dir then .tup [oad (opos T r A0.length (p.take (p.length-1))),.i 0]else .tup [.nilp,.i 4])):=by
 refine DC_nd fun hnd=>?_
 have hq:p.take (((p.length:Int)-1).toNat)=p.take (p.length-1):=by congr 1;omega
 refine h_dc (F:=[(0,.ptr r A0.length),(1,pth p)]) ⟨hL.r1,purs_pth p,trivial⟩ hL.odd Tryz.func73 kr kr ?_ kr
 refine Rr (Fn0 [0,1] [] (Rr (Av0 4 10 [(9,pth p),(8,pth p),(7,.ptr r A0.length)] (lnm p sc) (Av1 (r:=.i (IntKind.i64.wrap ((p.length:Int)-1))) (v:=.i ((p.length:Int)-1)) 1 11 [] (cI (wrap64 om om)) (Ki/\·) ⟨rfl,?_⟩))))
 refine Av1 (r:=.sl 1 (((p.map (fun s=>[AV.str s])).take (((p.length:Int)-1).toNat)).drop 0)) (v:=pth (p.take (((p.length:Int)-1).toNat))) 1 12 [] (congrArg (AV.sl 1) (slm_0 _ _ _)) ((1=1/\0<=(0:Int)/\(0:Int)<=((p.length:Int)-1)/\((p.length:Int)-1)<=((p.map (fun s=>[AV.str s])).length:Int))/\·) ⟨⟨rfl,om,by(try rw[List.length_map]);omega,lmo⟩,Bc0 1 [] 53 [.ptr r A0.length,pth (p.take (((p.length:Int)-1).toNat))] 13 (DC.use (at_ok (p.take (((p.length:Int)-1).toNat)) hL (by first|omega|(simp only[List.length_take];omega))) [] rfl trivial ?_)⟩
 rintro _ _ ⟨e1,rfl⟩
 rw[e1];clear e1
 have hioai3:=opos_oat (r:=r) (o:=A0.length) (p:=(p.take (((p.length:Int)-1).toNat))) hL.wf hL.shp
 rcases huai3:oat T (p.take (((p.length:Int)-1).toNat))with _|uai3
 rw[huai3]at hioai3
 rw[show opos T r A0.length (p.take (((p.length:Int)-1).toNat))=none from Option.isNone_iff_eq_none.1 (by rw[<-Option.not_isSome,hioai3];rfl),show oad none=.nilp from rfl]
 refine Ke (Fn0 [] [(6,.nilp)] (Sq fun K4 hK4=>?_))
 refine Bl (Rr (Fn1 [6] [(14,.bool true)] ((∃e,TK.ptr 26=TK.ptr e)/\·) ⟨⟨_,rfl⟩,Ct (Rr ?_)⟩))
 refine Fn0 [] [(5,.i 3),(4,.nilp)] (Rt (.tup [.nilp,.i 3]) (fin_dc (.tup [.nilp,.i 3]) Z (List.Sublist.refl _) (lea_refl _) ⟨trivial,trivial,trivial⟩ hL.odd ⟨rfl,?_⟩))
 rw[hq]at*;simp_all
 obtain⟨ai3,Aai3,Bai3,Wai3,hoai3,hiai3,hpai3,hnai3,hsai3,hrai3⟩:=hL.foc huai3
 have hgai3:hgt Z ai3=some (Aai3++otc uai3++Bai3):=hgt_perm hnd hpai3 (by simp)
 rw[hoai3,show oad (some (ai3,Aai3.length))=.ptr ai3 Aai3.length from rfl]
 refine Ke (Fn0 [] [(6,.ptr ai3 Aai3.length)] (Sq fun K7 hK7=>?_))
 refine Bl (Rr (Fn1 [6] [(14,.bool false)] ((∃e,TK.ptr 26=TK.ptr e)/\·) ⟨⟨_,rfl⟩,Cf (Rr ?_)⟩))
 refine An1 3 [(20,.ptr ai3 Aai3.length),(19,.ptr ai3 Aai3.length),(18,.ptr ai3 Aai3.length)] (((1:Nat)≠0)/\·) ⟨dc,geln (t:=uai3) 21 4 ai3 0 (.bool uai3.dir) (fun J=>by kernel_rfl) hgai3 kr rfl (Cn0 (!uai3.dir) [6] [] ⟨fun hc10 c10=>?_,fun hc10 c10=>?_⟩)⟩
 refine Rr (Fn0 [] [(5,.i 4),(4,.nilp)] (Rt (.tup [.nilp,.i 4]) (fin_dc (.tup [.nilp,.i 4]) Z (List.Sublist.refl _) (lea_refl _) ⟨trivial,trivial,trivial⟩ hL.odd ⟨rfl,?_⟩)))
 rw[hq]at*;simp_all
 refine Sk (Bn (Jn (hK7 (Kp [6] (Rr (Fn0 [] [(5,.i 0),(4,.ptr ai3 Aai3.length)] (Rt (.tup [.ptr ai3 Aai3.length,.i 0]) (fin_dc (.tup [.ptr ai3 Aai3.length,.i 0]) Z (List.Sublist.refl _) (lea_refl _) ⟨by assumption,trivial,trivial⟩ hL.odd ⟨rfl,?_⟩))))))))
 rw[hq]at*;simp_all[oad]
open Go Go.Proofs
set_option maxRecDepth 100000
set_option maxHeartbeats 1000000 in
theorem put_ok {Z W:Hp} {i:Nat} {A B:List AV} {t:OT} (nm:Str) (x:OT) (a b:Nat) (hids:t.ids=some (a,b)) (hz:odH Z) (hi:i%2=1) (hp:Z.Perm ((i,A++otc t++B)::(own t++W))) (hnl:t.names.length=t.kids.length) (hns:t.names.length<2^36) (hasc:asc t.names=true):DC G 54 [.ptr i A.length,.str nm,.agg (otc x)] Z (fun _ Z'=>∃t':OT,Z'.Perm ((i,A++otc t'++B)::(own t'++W))/\odH Z'/\((∃j,j<t.names.length/\t.names.getD j default=nm/\t'=.mk t.dir t.mode t.data t.ids t.names (t.kids.set j x))\/∃j k k',j<=t.names.length/\(∀l,l<j->blt (t.names.getD l default) nm=true)/\(∀l,j<=l->l<t.names.length->blt (t.names.getD l default) nm=false)/\(j<t.names.length->t.names.getD j default≠nm)/\t'=(.mk t.dir t.mode t.data (some (k,k')) (t.names.take j++[nm]++t.names.drop j) (t.kids.take j++[x]++t.kids.drop j)))):=by
 refine DC_nd fun hnd=>?_
 have hgi:hgt Z i=some (A++otc t++B):=hgt_perm hnd hp (by simp)
 have hgn:hgt Z (2*a+1)=some (fl sc t.names):=hgt_perm hnd hp (by simp[own,hids])
 have hgk:hgt Z (2*b+1)=some (fl otc t.kids):=hgt_perm hnd hp (by simp[own,hids])
 have hsb:own t=[(2*a+1,fl sc t.names),(2*b+1,fl otc t.kids)]:=by simp only[own,hids]
 rw[hsb]at hp
 refine h_dc (F:=[(0,.ptr i A.length),(1,.str nm),(2,.agg (otc x))]) ⟨hi,trivial,ods_otc x,trivial⟩ hz Tryz.func54 kr kr ?_ kr
 refine Rr (Fn2 [0,1] [(5,.ptr 0 0)] ([(0,otc x)]++·) 4 (Rr (An1 3 [(11,.ptr i (A.length+3)),(10,.ptr i A.length),(9,.ptr i A.length)] (((1:Nat)≠0)/\·) ⟨dc,geln (t:=t) 12 23 i 3 (.osl (2*a+1) 1 0 t.names.length) (fun J=>by kernel_rfl) ((hgt_ev (E:=[(0,otc x)]) ⟨rfl,trivial⟩ hi).trans hgi) kr (by rw[otc,hids];rfl) ?_⟩)))
 refine Bc0 2 [(13,.str nm)] 79 [.osl (2*a+1) 1 0 t.names.length,.str nm] 14 ?_
 refine PC.useB (vw_n nm hgn) (bsearch_ok t.names nm om hasc) ?_
 rintro _ ⟨j,hj1,hj2,hj3,rfl⟩
 refine⟨rfl,?_⟩
 refine Ke (Fn1 [0,1,5] [(7,.bool (decide (j<t.names.length)&&t.names.getD j default==nm)),(6,.i j)] ((0<2)/\(1<2)/\·) ⟨dc,dc,Sq fun K3 hK3=>?_⟩)
 refine Rr (Cn0 (decide (j<t.names.length)&&t.names.getD j default==nm) [0,1,5,6] [] ⟨fun hc5 c5=>?_,fun hc5 c5=>?_⟩)
 have hj:j<t.names.length/\t.names.getD j default=nm:=by simpa using hc5
 refine Qr [0,1,3,7,0,0,63,127] [(0,[]),(1,[]),(2,[]),(3,[]),(4,[]),(5,[]),(6,[]),(7,[])] (qAn1 3 [(20,.ptr i (A.length+4)),(19,.ptr i A.length),(18,.ptr i A.length)] (((1:Nat)≠0)/\·) ⟨dc,gqln (t:=t) 21 24 i 4 (.osl (2*b+1) 5 0 t.kids.length) (fun J=>by kernel_rfl) ((hgt_ev (E:=[(0,otc x)]) ⟨rfl,trivial⟩ hi).trans hgi) kr (by rw[otc,hids];rfl) (qAn1 3 [(24,.ptr (2*b+1) (0+j*5)),(23,.agg (otc x)),(22,.i j)] ((0+5<=5/\0<5)/\(5=5/\(0:Int)<=(j:Int)/\(j:Int)<(t.kids.length:Int))/\·) ⟨dc,⟨rfl,om,om⟩,gqsr 26 (2*b+1) t.kids j x ((0,otc x)::(hset Z (2*b+1) (fl otc (t.kids.set j x)))) (fun J=>by kernel_rfl) ((hgt_ev (E:=[(0,otc x)]) ⟨rfl,trivial⟩ (show(2*b+1)%2=1 by omega)).trans hgk) kr om (hset_ev (E:=[(0,otc x)]) ⟨rfl,trivial⟩ (show(2*b+1)%2=1 by omega)) ?_⟩)⟩)
 refine qFn0 [] [] (Rt (.tup []) ?_)
 have hp5:=hset_perm (ds:=fl otc (t.kids.set j x)) hnd (show Z.Perm ((2*b+1,fl otc t.kids)::(i,A++otc t++B)::(2*a+1,fl sc t.names)::W)from hp.trans (by exact(List.Perm.cons _ (List.Perm.swap _ _ _)).trans (List.Perm.swap _ _ _)))
 have hz5:odH (hset Z (2*b+1) (fl otc (t.kids.set j x))):=odH_hset hz (ods_flO _) hnd
 refine fin_dc (.tup []) _ (by first|exact List.Sublist.refl _|exact List.Sublist.cons _ (List.Sublist.refl _)) (by first|exact lea_refl _|simp[lea,leas]) trivial hz5 ⟨.mk t.dir t.mode t.data t.ids t.names (t.kids.set j x),?_,hz5,.inl ⟨j,hj.1,hj.2,rfl⟩⟩
 have e1:otc (.mk t.dir t.mode t.data t.ids t.names (t.kids.set j x))=otc t:=by simp[otc]
 rw[e1]
 refine hp5.trans ?_
 simp only[own,OT.ids_mk,hids,OT.names_mk,OT.kids_mk]
 exact(List.Perm.swap _ _ _).trans (List.Perm.cons _ (List.Perm.swap _ _ _))
 refine Sk (Jn (hK3 (Kp [0,1,5,6] (Rr (An1 4 [(28,.ptr i (A.length+3)),(27,.ptr i A.length),(26,.ptr i A.length),(25,.ptr i A.length)] (((1:Nat)≠0)/\·) ⟨dc,geln (t:=t) 29 23 i 3 (.osl (2*a+1) 1 0 t.names.length) (fun J=>by kernel_rfl) ((hgt_ev (E:=[(0,otc x)]) ⟨rfl,trivial⟩ hi).trans hgi) kr (by rw[otc,hids];rfl) (Bc3 4 [(32,.osl 4 1 0 1),(31,.str nm),(30,.i j)] 80 [.osl (2*a+1) 1 0 t.names.length,.i j,.osl 4 1 0 1] 33 ([(4,[.str nm])]++·) 8 ((1*1<=16777216)/\·) ⟨dc,?_⟩)⟩)))))
 refine TCall.mono (ins_lift (fc:=sc) (X:=t.names) (Y:=t.names.take j++[nm]++t.names.drop j) (y:=nm) (E:=[(4,[.str nm]),(0,otc x)]) (Z:=Z) (a:=2*a+1) (b:=4) ⟨rfl,⟨rfl,trivial⟩⟩ hz hgn kr rfl (ods_flS _) ⟨trivial,trivial⟩ (ods_flS _) (by rw[flSl,Nat.mul_one]) (fun c hc=>insS sc_len t.names nm j c hj1 om hc) _) ?_
 rintro _ H1 _ _ ⟨rfl,k,hk,rfl,hH1⟩
 have hH2:H1=((0,otc x)::(hdel Z (2*a+1)++[(2*k+1,fl sc (t.names.take j++[nm]++t.names.drop j))])):=hH1
 clear hH1
 obtain⟨hp1,hnd1⟩:=put_p1 (Y:=fl sc (t.names.take j++[nm]++t.names.drop j)) hnd hp hk
 have hz1:odH (hdel Z (2*a+1)++[(2*k+1,fl sc (t.names.take j++[nm]++t.names.drop j))]):=odH_put hz (ods_flS _)
 generalize hZ1:hdel Z (2*a+1)++[(2*k+1,fl sc (t.names.take j++[nm]++t.names.drop j))]=Z1 at hH2 hp1 hnd1 hz1
 subst hH2
 clear hZ1
 have hg1:hgt Z1 i=some (A++otc t++B):=hgt_perm hnd1 hp1 (by simp)
 refine Ke (An1 2 [(35,.ptr i (A.length+3)),(34,.ptr i A.length)] (((1:Nat)≠0)/\·) ⟨dc,gesn (t:=t) 23 i 3 (.osl (2*k+1) 1 0 ((t.names.take j++[nm]++t.names.drop j).length)) (.mk t.dir t.mode t.data (some (k,b)) (t.names.take j++[nm]++t.names.drop j) t.kids) ((0,otc x)::(hset Z1 i (A++otc (.mk t.dir t.mode t.data (some (k,b)) (t.names.take j++[nm]++t.names.drop j) t.kids)++B))) (fun J=>by kernel_rfl) ((hgt_ev (E:=[(0,otc x)]) ⟨rfl,trivial⟩ hi).trans hg1) kr rfl (by simp only[otc,hids];rfl) (hset_ev (E:=[(0,otc x)]) ⟨rfl,trivial⟩ hi) ?_⟩)
 have hp2:=hset_perm (ds:=A++otc (.mk t.dir t.mode t.data (some (k,b)) (t.names.take j++[nm]++t.names.drop j) t.kids)++B) hnd1 hp1
 have hnd2:(ids (hset Z1 i (A++otc (.mk t.dir t.mode t.data (some (k,b)) (t.names.take j++[nm]++t.names.drop j) t.kids)++B))).Nodup:=by rw[hset_ids];exact hnd1
 have hz2:odH (hset Z1 i (A++otc (.mk t.dir t.mode t.data (some (k,b)) (t.names.take j++[nm]++t.names.drop j) t.kids)++B)):=odH_hset hz1 (ods_mid hz hp) hnd1
 generalize (hset Z1 i (A++otc (.mk t.dir t.mode t.data (some (k,b)) (t.names.take j++[nm]++t.names.drop j) t.kids)++B))=Z2 at hp2 hnd2 hz2⊢
 have hg2:hgt Z2 i=some (A++otc (.mk t.dir t.mode t.data (some (k,b)) (t.names.take j++[nm]++t.names.drop j) t.kids)++B):=hgt_perm hnd2 hp2 (by simp)
 refine Fn0 [0,5,6] [] (Qn [0,0,2,6,14,0,0,64,254,511,1023,2047] [(0,[]),(1,[]),(2,[]),(3,[]),(4,[]),(5,[]),(6,[]),(7,[4]),(8,[]),(9,[]),(10,[]),(11,[])] (qAn1 4 [(39,.ptr i (A.length+4)),(38,.ptr i A.length),(37,.ptr i A.length),(36,.ptr i A.length)] (((1:Nat)≠0)/\·) ⟨dc,gqln (t:=(.mk t.dir t.mode t.data (some (k,b)) (t.names.take j++[nm]++t.names.drop j) t.kids)) 40 24 i 4 (.osl (2*b+1) 5 0 t.kids.length) (fun J=>by kernel_rfl) ((hgt_ev (E:=[(0,otc x)]) ⟨rfl,trivial⟩ hi).trans hg2) kr rfl (qBc3 4 [(43,.osl 8 5 0 1),(42,.agg (otc x)),(41,.i j)] [] 81 [.osl (2*b+1) 5 0 t.kids.length,.i j,.osl 8 5 0 1] 44 ([(8,otc x)]++·) 12 ((0+5<=5/\0<5)/\(1*5<=16777216)/\((rR2 (ldr (tiq G 24) (.ptr i (A.length+4)) ((8,otc x)::(0,otc x)::Z2) 12) (fun x=>x=(.osl (2*b+1) 5 0 t.kids.length:AV)))/\True)/\·) ⟨dc,dc,⟨(rldn (t:=(.mk t.dir t.mode t.data (some (k,b)) (t.names.take j++[nm]++t.names.drop j) t.kids)) ((hgt_ev (E:=[(8,otc x),(0,otc x)]) ⟨rfl,⟨rfl,trivial⟩⟩ hi).trans hg2) kr rfl),trivial⟩,?_⟩)⟩))
 refine TCall.mono (ins_lift (fc:=otc) (X:=t.kids) (Y:=t.kids.take j++[x]++t.kids.drop j) (y:=x) (E:=[(8,otc x),(0,otc x)]) (Z:=Z2) (a:=2*b+1) (b:=8) ⟨rfl,⟨rfl,trivial⟩⟩ hz2 (hgt_perm hnd2 hp2 (by simp)) kr rfl (ods_flO _) (ods_otc _) (ods_flO _) (fl_len otc_len _) (fun c hc=>insT otc_len t.kids x j c om om hc) _) ?_
 rintro _ H1 _ _ ⟨rfl,k',hk',rfl,hH1⟩
 have hH2:H1=((0,otc x)::(hdel Z2 (2*b+1)++[(2*k'+1,fl otc (t.kids.take j++[x]++t.kids.drop j))])):=hH1
 clear hH1
 obtain⟨hp3,hnd3⟩:=put_p2 (Y:=fl otc (t.kids.take j++[x]++t.kids.drop j)) hnd2 hp2 hk'
 have hz3:odH (hdel Z2 (2*b+1)++[(2*k'+1,fl otc (t.kids.take j++[x]++t.kids.drop j))]):=odH_put hz2 (ods_flO _)
 generalize hZ3:hdel Z2 (2*b+1)++[(2*k'+1,fl otc (t.kids.take j++[x]++t.kids.drop j))]=Z3 at hH2 hp3 hnd3 hz3
 subst hH2
 clear hZ3
 have hg3:hgt Z3 i=some (A++otc (.mk t.dir t.mode t.data (some (k,b)) (t.names.take j++[nm]++t.names.drop j) t.kids)++B):=hgt_perm hnd3 hp3 (by simp)
 refine Kq (p:=(True)) trivial ?_
 refine qAn1 2 [(46,.ptr i (A.length+4)),(45,.ptr i A.length)] (((1:Nat)≠0)/\·) ⟨dc,gqsn (t:=(.mk t.dir t.mode t.data (some (k,b)) (t.names.take j++[nm]++t.names.drop j) t.kids)) 24 i 4 (.osl (2*k'+1) 5 0 ((t.kids.take j++[x]++t.kids.drop j).length)) (.mk t.dir t.mode t.data (some (k,k')) (t.names.take j++[nm]++t.names.drop j) (t.kids.take j++[x]++t.kids.drop j)) ((0,otc x)::(hset Z3 i (A++otc (.mk t.dir t.mode t.data (some (k,k')) (t.names.take j++[nm]++t.names.drop j) (t.kids.take j++[x]++t.kids.drop j))++B))) (fun J=>by kernel_rfl) ((hgt_ev (E:=[(0,otc x)]) ⟨rfl,trivial⟩ hi).trans hg3) kr rfl rfl (hset_ev (E:=[(0,otc x)]) ⟨rfl,trivial⟩ hi) ?_⟩
 have hp4:=hset_perm (ds:=A++otc (.mk t.dir t.mode t.data (some (k,k')) (t.names.take j++[nm]++t.names.drop j) (t.kids.take j++[x]++t.kids.drop j))++B) hnd3 hp3
 have hz4:odH (hset Z3 i (A++otc (.mk t.dir t.mode t.data (some (k,k')) (t.names.take j++[nm]++t.names.drop j) (t.kids.take j++[x]++t.kids.drop j))++B)):=odH_hset hz3 (ods_mid hz hp) hnd3
 generalize (hset Z3 i (A++otc (.mk t.dir t.mode t.data (some (k,k')) (t.names.take j++[nm]++t.names.drop j) (t.kids.take j++[x]++t.kids.drop j))++B))=Z4 at hp4 hz4⊢
 refine qGn0 [] (nk_n (Rtn (fun Z=>Z) (.tup []) (fin_dc (.tup []) Z4 (by first|exact List.Sublist.refl _|exact List.Sublist.cons _ (List.Sublist.refl _)) (by first|exact lea_refl _|simp[lea,leas]) trivial hz4 ⟨(.mk t.dir t.mode t.data (some (k,k')) (t.names.take j++[nm]++t.names.drop j) (t.kids.take j++[x]++t.kids.drop j)),hp4,hz4,.inr ⟨j,k,k',hj1,hj2,hj3,fun hl he=>?_,rfl⟩⟩)))
 rw[decide_eq_true hl,he,beq_self_eq_true]at hc5;cases hc5
open Go Go.Proofs
set_option maxRecDepth 100000
set_option maxHeartbeats 1000000 in
theorem drop_ok {Z W:Hp} {i:Nat} {A B:List AV} {t:OT} (nm:Str) (a b:Nat) (hids:t.ids=some (a,b)) (hz:odH Z) (hi:i%2=1) (hp:Z.Perm ((i,A++otc t++B)::(own t++W))) (hnl:t.names.length=t.kids.length) (hns:t.names.length<2^36):DC G 77 [.ptr i A.length,.str nm] Z (fun _ Z'=>Z'.Perm ((i,A++otc (match fnd nm t.names with|none=>t|some k=>(.mk t.dir t.mode t.data t.ids (t.names.take k++t.names.drop (k+1)) (t.kids.take k++t.kids.drop (k+1))))++B)::(own (match fnd nm t.names with|none=>t|some k=>(.mk t.dir t.mode t.data t.ids (t.names.take k++t.names.drop (k+1)) (t.kids.take k++t.kids.drop (k+1))))++W))/\odH Z'):=by
 refine DC_nd fun hnd=>?_
 have hgi:hgt Z i=some (A++otc t++B):=hgt_perm hnd hp (by simp)
 have hgn:hgt Z (2*a+1)=some (fl sc t.names):=hgt_perm hnd hp (by simp[own,hids])
 have hsb:own t=[(2*a+1,fl sc t.names),(2*b+1,fl otc t.kids)]:=by simp only[own,hids]
 rw[hsb]at hp
 refine h_dc (F:=[(0,.ptr i A.length),(1,.str nm)]) ⟨hi,trivial,trivial⟩ hz Tryz.func77 kr kr ?_ kr
 refine Rr (An1 3 [(7,.ptr i (A.length+3)),(6,.ptr i A.length),(5,.ptr i A.length)] (((1:Nat)≠0)/\·) ⟨dc,geln (t:=t) 8 23 i 3 (.osl (2*a+1) 1 0 t.names.length) (fun J=>by kernel_rfl) hgi kr (by rw[otc,hids];rfl) (Bc0 2 [(9,.str nm)] 88 [.osl (2*a+1) 1 0 t.names.length,.str nm] 10 (PE.useB (vw_n nm hgn) (index_ok t.names nm om) rfl ?_))⟩)
 refine Ke (Fn0 [0] [(4,.i (fndI nm t.names))] (Rr (Cn1 (decide ((0:Int)<=(fndI nm t.names:Int))) [0,4] [] (Ki/\·) ⟨rfl,fun hc3 c3=>?_,fun hc3 c3=>?_⟩)))
 obtain⟨k,e1,e2,e3⟩:=fndI_lt (n:=nm) (l:=t.names) om
 refine h_k [0,4] (F':=[(0,.ptr i A.length),(4,.i (fndI nm t.names))]) kr ?_
 refine h_st (F':=[(0,.ptr i A.length),(4,.i k)]) (H':=Z) (by rw[e2]) rfl ?_
 refine Rr (An1 4 [(16,.ptr i (A.length+3)),(15,.ptr i A.length),(14,.ptr i A.length),(13,.ptr i A.length)] (((1:Nat)≠0)/\·) ⟨dc,geln (t:=t) 17 23 i 3 (.osl (2*a+1) 1 0 t.names.length) (fun J=>by kernel_rfl) hgi kr (by rw[otc,hids];rfl) (Av1 3 20 [(19,.i k),(18,.i k)] (cI (wn1 k om)) (Ki/\·) ⟨rfl,Bc0 1 [] 89 [.osl (2*a+1) 1 0 t.names.length,.i k,.i ((k+1:Nat):Int)] 21 ?_⟩)⟩)
 refine TCall.mono (del_lift (fc:=sc) (X:=t.names) (Y:=t.names.take k++t.names.drop (k+1)) (E:=[]) (Z:=Z) (a:=2*a+1) trivial hz hgn rfl (ods_flS _) (ods_flS _) (fun c hc=>delS (fc:=sc) sc_len t.names k c om om hc) _) ?_
 rintro _ H1 _ _ ⟨rfl,rfl,hH1⟩
 have hH2:H1=hdel Z (2*a+1)++[(2*a+1,fl sc (t.names.take k++t.names.drop (k+1)))]:=hH1
 clear hH1
 obtain⟨hp1,hnd1⟩:=del_p1 (Y:=fl sc (t.names.take k++t.names.drop (k+1))) hnd hp
 have hz1:odH (hdel Z (2*a+1)++[(2*a+1,fl sc (t.names.take k++t.names.drop (k+1)))]):=odH_put (k:=a) hz (ods_flS _)
 generalize hZ1:hdel Z (2*a+1)++[(2*a+1,fl sc (t.names.take k++t.names.drop (k+1)))]=Z1 at hH2 hp1 hnd1 hz1
 rw[hH2];clear hH2
 clear hZ1
 have hg1:hgt Z1 i=some (A++otc t++B):=hgt_perm hnd1 hp1 (by simp)
 refine Ke (An1 2 [(23,.ptr i (A.length+3)),(22,.ptr i A.length)] (((1:Nat)≠0)/\·) ⟨dc,gesn (t:=t) 23 i 3 (.osl (2*a+1) 1 0 ((t.names.take k++t.names.drop (k+1)).length)) (.mk t.dir t.mode t.data (some (a,b)) (t.names.take k++t.names.drop (k+1)) t.kids) (hset Z1 i (A++otc (.mk t.dir t.mode t.data (some (a,b)) (t.names.take k++t.names.drop (k+1)) t.kids)++B)) (fun J=>by kernel_rfl) hg1 kr rfl (by simp only[otc,hids];rfl) rfl ?_⟩)
 have hp2:=hset_perm (ds:=A++otc (.mk t.dir t.mode t.data (some (a,b)) (t.names.take k++t.names.drop (k+1)) t.kids)++B) hnd1 hp1
 have hnd2:(ids (hset Z1 i (A++otc (.mk t.dir t.mode t.data (some (a,b)) (t.names.take k++t.names.drop (k+1)) t.kids)++B))).Nodup:=by rw[hset_ids];exact hnd1
 have hz2:odH (hset Z1 i (A++otc (.mk t.dir t.mode t.data (some (a,b)) (t.names.take k++t.names.drop (k+1)) t.kids)++B)):=odH_hset hz1 (ods_mid hz hp) hnd1
 generalize (hset Z1 i (A++otc (.mk t.dir t.mode t.data (some (a,b)) (t.names.take k++t.names.drop (k+1)) t.kids)++B))=Z2 at hp2 hnd2 hz2⊢
 have hg2:hgt Z2 i=some (A++otc (.mk t.dir t.mode t.data (some (a,b)) (t.names.take k++t.names.drop (k+1)) t.kids)++B):=hgt_perm hnd2 hp2 (by simp)
 refine Fn0 [0,4] [] (Rn (An1 4 [(27,.ptr i (A.length+4)),(26,.ptr i A.length),(25,.ptr i A.length),(24,.ptr i A.length)] (((1:Nat)≠0)/\·) ⟨dc,geln (t:=(.mk t.dir t.mode t.data (some (a,b)) (t.names.take k++t.names.drop (k+1)) t.kids)) 28 24 i 4 (.osl (2*b+1) 5 0 t.kids.length) (fun J=>by kernel_rfl) hg2 kr rfl (Av1 3 31 [(30,.i k),(29,.i k)] (cI (wn1 k om)) (Ki/\·) ⟨rfl,?_⟩)⟩))
 refine Bc0 1 [] 90 [.osl (2*b+1) 5 0 t.kids.length,.i k,.i ((k+1:Nat):Int)] 32 ?_
 refine TCall.mono (del_lift (fc:=otc) (X:=t.kids) (Y:=t.kids.take k++t.kids.drop (k+1)) (E:=[]) (Z:=Z2) (a:=2*b+1) trivial hz2 (hgt_perm hnd2 hp2 (by simp)) rfl (ods_flO _) (ods_flO _) (fun c hc=>delT (fc:=otc) otc_len t.kids k c om om hc) _) ?_
 rintro _ H1 _ _ ⟨rfl,rfl,hH1⟩
 have hH2:H1=hdel Z2 (2*b+1)++[(2*b+1,fl otc (t.kids.take k++t.kids.drop (k+1)))]:=hH1
 clear hH1
 obtain⟨hp3,hnd3⟩:=del_p2 (Y:=fl otc (t.kids.take k++t.kids.drop (k+1))) hnd2 hp2
 have hz3:odH (hdel Z2 (2*b+1)++[(2*b+1,fl otc (t.kids.take k++t.kids.drop (k+1)))]):=odH_put (k:=b) hz2 (ods_flO _)
 generalize hZ1:hdel Z2 (2*b+1)++[(2*b+1,fl otc (t.kids.take k++t.kids.drop (k+1)))]=Z3 at hH2 hp3 hnd3 hz3
 rw[hH2];clear hH2
 clear hZ1
 have hg3:hgt Z3 i=some (A++otc (.mk t.dir t.mode t.data (some (a,b)) (t.names.take k++t.names.drop (k+1)) t.kids)++B):=hgt_perm hnd3 hp3 (by simp)
 refine Ke (An1 2 [(34,.ptr i (A.length+4)),(33,.ptr i A.length)] (((1:Nat)≠0)/\·) ⟨dc,gesn (t:=(.mk t.dir t.mode t.data (some (a,b)) (t.names.take k++t.names.drop (k+1)) t.kids)) 24 i 4 (.osl (2*b+1) 5 0 ((t.kids.take k++t.kids.drop (k+1)).length)) (.mk t.dir t.mode t.data (some (a,b)) (t.names.take k++t.names.drop (k+1)) (t.kids.take k++t.kids.drop (k+1))) (hset Z3 i (A++otc (.mk t.dir t.mode t.data (some (a,b)) (t.names.take k++t.names.drop (k+1)) (t.kids.take k++t.kids.drop (k+1)))++B)) (fun J=>by kernel_rfl) hg3 kr rfl rfl rfl ?_⟩)
 have hp4:=hset_perm (ds:=A++otc (.mk t.dir t.mode t.data (some (a,b)) (t.names.take k++t.names.drop (k+1)) (t.kids.take k++t.kids.drop (k+1)))++B) hnd3 hp3
 have hz4:odH (hset Z3 i (A++otc (.mk t.dir t.mode t.data (some (a,b)) (t.names.take k++t.names.drop (k+1)) (t.kids.take k++t.kids.drop (k+1)))++B)):=odH_hset hz3 (ods_mid hz hp) hnd3
 generalize (hset Z3 i (A++otc (.mk t.dir t.mode t.data (some (a,b)) (t.names.take k++t.names.drop (k+1)) (t.kids.take k++t.kids.drop (k+1)))++B))=Z4 at hp4 hz4⊢
 refine Gn0 [] (nk_n (Rtn (fun Z=>Z) (.tup []) (fin_dc (.tup []) Z4 (List.Sublist.refl _) (by first|exact lea_refl _|simp[lea,leas]) trivial hz4 ⟨?_,hz4⟩)))
 rw[e1];simp only[hids];exact hp4
 refine Sk (Rtn (fun Z=>Z) (.tup []) (fin_dc (.tup []) Z (List.Sublist.refl _) (by first|exact lea_refl _|simp[lea,leas]) trivial hz ⟨?_,hz⟩))
 rw[fndI_no om];simp only[hsb];exact hp
open Go Go.Proofs
set_option maxRecDepth 100000
theorem clone_ok:∀(N:Nat) (t:Tr),t.W=N->t.W<2^40->DC G 50 [.agg (tcs t)] [] (ClR t):=by
 intro N;refine Nat.strongRecOn N fun N ih=>?_;intro t hN hw;rw[W_eq]at hN hw;have hks:=Ws_len t.kids;have hns:=wS_len t.names
 refine DC_nd fun hnd=>?_
 refine h_dc (F:=[(0,.agg (tcs t))]) (ods_tcs t) trivial Tryz.func50 kr kr ?_ kr
 refine Rr (Fn2 [] [(2,.ptr 4 0),(1,.ptr 0 0)] ([(4,zt),(0,tcs t)]++·) 8 (Rr (Fn3 [1,2] [(3,.osl 8 5 0 0)] ([(8,[])]++·) 12 ((0*5<=16777216)/\·) ⟨dc,Sq fun K3 hK3=>?_⟩)))
 refine Rr (Av1 3 9 [(8,.sl 5 (t.kids.map trc)),(7,.ptr 0 4)] (lnm t.kids trc) (((1:Nat)≠0)/\(4+1<=5/\4<5)/\·) ⟨dc,dc,Fn0 [1,2,3,8,9] [(10,.i 0)] (Bl (h_ls (fun(x:Nat×List OT)=>(match x with|(k,Ts)=>([(1,.ptr 0 0),(2,.ptr 4 0),(3,.osl 8 5 0 Ts.length),(8,.sl 5 (t.kids.map trc)),(9,.i t.kids.length),(10,.i k)]:Fr))) (fun(x:Nat×List OT)=>(match x with|(k,Ts)=>(((8,fl otc Ts)::(4,zt)::(0,tcs t)::(objss Ts)):Hp))) (fun(x:Nat×List OT) cn=>(match x with|(k,Ts)=>(Ts.map er=t.kids.take k/\shps Ts/\asms Ts/\k<=t.kids.length)/\cn=12)) (fun(x:Nat×List OT)=>t.kids.length-x.1) (0,[]) kr ?_ ?_ ?_ ?_))⟩)
 refine⟨?_,rfl⟩;exact⟨rfl,trivial,trivial,Nat.zero_le _⟩
 exact⟨kr,kr,kr,kr,kr,kr,trivial⟩
 exact(sub_c kr (sub_c kr (sub_c kr (List.Sublist.refl _))))
 rintro⟨k,Ts⟩ n1 hI
 (try dsimp only at hI)
 obtain⟨⟨h1,h2,h3,hk⟩,rfl⟩:=hI
 have hkl:Ts.length=k:=by have:=congrArg List.length h1;rw[List.length_map,tkl hk]at this;exact this
 refine Rr (Fn1 [1,2,3,8,9,10] [(11,.bool (decide ((k:Int)<(t.kids.length:Int))))] (Ki/\·) ⟨rfl,Sq fun K6 hK6=>?_⟩)
 refine Cc (decide ((k:Int)<(t.kids.length:Int))) (fun hc7 c7=>?_) fun hc7 c7=>?_
 refine Sk (Jn (hK6 (Kp [1,2,3,8,9,10] (Sq fun K8 hK8=>?_))))
 refine Bl (Rr (Av1 1 12 [] (congrArg AV.pat (mg_trc t.kids k om)) ((5=5/\(0:Int)<=(k:Int)/\(k:Int)<((t.kids.map trc).length:Int))/\·) ⟨⟨rfl,om,lmo⟩,Fn3 [1,2,3,8,9,10] [(5,.ptr 12 0)] ([(12,tcs (t.kids.getD k default))]++·) 16 ((5<=5/\0<5)/\(true=true/\5=5/\0+5<=5)/\·) ⟨dc,dc,Rb (fun h=>Bn (Jn (hK8 h))) ?_⟩⟩))
 refine Bc1 3 [(15,.agg (tcs (t.kids.getD k default))),(14,.osl 8 5 0 Ts.length)] 50 [.agg (tcs (t.kids.getD k default))] 16 ((0+5<=5/\0<5)/\·) ⟨dc,?_⟩
 have hW:=Ws_get t.kids k om
 refine TCall.mono (cl_use (View.refl _ _) (ih _ om (t.kids.getD k default) rfl om)) ?_
 rintro _ H1 _ _ ⟨rfl,T,hH1,he,hs,ha,rfl⟩
 have hH2:H1=((12,tcs (t.kids.getD k default))::(8,fl otc Ts)::(4,zt)::(0,tcs t)::objss (Ts++[T])):=by rw[hH1];simp only[objss_app,objss,List.append_nil,List.nil_append,List.cons_append]
 clear hH1;subst hH2
 refine Ke (An3 2 [(18,.osl 20 5 0 (Ts.length+1)),(17,.osl 16 5 0 1)] (fun _=>((20,apd (fl otc Ts) (Ts.length*5) (otc T))::(16,otc T)::(12,tcs (t.kids.getD k default))::(4,zt)::(0,tcs t)::(objss (Ts++[T])))) 24 ((1*5<=16777216)/\(0+1*5<=5)/\(5=5/\Ts.length*5<=(fl otc Ts).length/\0<80/\(Ts.length+1)*80<=140737488355328)/\·) ⟨dc,dc,⟨rfl,by(first|omega|(simp only[LL,fl_len otc_len];omega)),dc,by(first|omega|(simp only[LL,fl_len otc_len];omega))⟩,run_v (v':=.osl 20 5 0 ((Ts++[T]).length)) (push_len _ _ _ _) (run_h (cs':=fl otc (Ts++[T])) (push_ot Ts T) (Fn0 [1,2,8,9,10] [(3,.osl 20 5 0 ((Ts++[T]).length))] ?_))⟩)
 refine Rn (Av1 1 19 [] (cI (wn1 k om)) (Ki/\·) ⟨rfl,Gn0 [(10,.i ((k+1:Nat):Int))] (nk_n (lsz_mk (k+1,Ts++[T]) [(0,0),(4,4),(20,8)] 12 [(1,.ptr 0 0),(2,.ptr 4 0),(3,.osl 20 5 0 ((Ts++[T]).length)),(8,.sl 5 (t.kids.map trc)),(9,.i t.kids.length),(10,.i ((k+1:Nat):Int))] [(20,fl otc (Ts++[T])),(4,zt),(0,tcs t)] [(8,fl otc (Ts++[T])),(4,zt),(0,tcs t)] (objss (Ts++[T])) ?_ ?_ ⟨kr,kr⟩ ⟨kr,kr,kr,kr,kr,kr,trivial⟩ ⟨_,List.Perm.refl _,(List.Sublist.cons_cons _ (List.Sublist.cons _ (List.Sublist.cons _ (List.Sublist.cons_cons _ (List.Sublist.cons_cons _ (List.Sublist.refl _))))))⟩ ⟨?_,?_⟩ ⟨rfl,.inr ⟨ods_flO _,kr⟩,rfl,.inl (.inr ⟨by simp only[slps,slp,go_sem,and_self],kr⟩),rfl,.inl (.inr ⟨by simp only[tcs,slps,slp,go_sem,and_self],kr⟩),trivial⟩ kr (odH_objss _)))⟩)
 (try dsimp only);omega
 refine⟨?_,rfl⟩;exact⟨by rw[List.map_append,h1,List.map_cons,List.map_nil,he,take_snoc t.kids k default om],shps_app.2 ⟨h2,hs,trivial⟩,asms_app.2 ⟨h3,ha,trivial⟩,om⟩
 simp only[slF,slp,slps,go_sem,and_self]
 kernel_rfl
 refine Xt (Jx (Lsx (Bh (Jn (hK3 (Kp [1,2,3] (Rr (An3 4 [(23,.osl 16 1 0 (0+(t.names.map (fun s=>[AV.str s])).length)),(22,pth t.names),(21,.ptr 0 3),(20,.osl 12 1 0 0)] ([(16,apd [] (0*1) ((t.names.map (fun s=>[AV.str s])).flatten))]++·) 20 ((0*1<=16777216)/\((1:Nat)≠0)/\(3+1<=5/\3<5)/\True/\(1=1/\0*1<=0/\0<16/\(0+(t.names.map (fun s=>[AV.str s])).length)*16<=140737488355328)/\·) ⟨dc,dc,dc,trivial,⟨rfl,gl,dc,gl⟩,run_v (v':=.osl 16 1 0 t.names.length) (by rw[Nat.zero_add,List.length_map]) (run_h (cs':=fl sc t.names) (app0_str _) ?_)⟩))))))))
 refine Fn3 [1,2,3] [] (fun _=>((16,fl sc t.names)::(8,fl otc Ts)::(4,zt)::(0,(tr5 t (.osl 16 1 0 t.names.length) (.sl 5 (t.kids.map trc))))::(objss Ts))) 20 (((1:Nat)≠0)/\(true=true/\1=1/\3+1<=5)/\·) ⟨dc,dc,Rr (Fn3 [1,2] [] (fun _=>((16,fl sc t.names)::(8,fl otc Ts)::(4,zt)::(0,(tr5 t (.osl 16 1 0 t.names.length) (.osl 8 5 0 Ts.length)))::(objss Ts))) 20 (((1:Nat)≠0)/\(true=true/\1=1/\4+1<=5)/\·) ⟨dc,dc,h_pm (H':=((4,zt)::(0,(tr5 t (.osl 16 1 0 t.names.length) (.osl 8 5 0 Ts.length)))::(16,fl sc t.names)::(8,fl otc Ts)::(objss Ts))) (List.Perm.trans (List.Perm.cons _ (List.Perm.swap _ _ _)) (List.Perm.trans (List.Perm.cons _ (List.Perm.cons _ (List.Perm.swap _ _ _))) (List.Perm.trans (List.Perm.swap _ _ _) (List.Perm.cons _ (List.Perm.swap _ _ _))))) (h_k [1,2] (F':=[(1,.ptr 0 0),(2,.ptr 4 0)]) kr ?_)⟩)⟩
 refine Hn ((4,zt)::(0,(tr5 t (.osl 16 1 0 t.names.length) (.osl 8 5 0 Ts.length)))::(16,fl sc t.names)::(8,fl otc Ts)::(objss Ts)) (h_odd (H:=[(4,zt),(0,(tr5 t (.osl 16 1 0 t.names.length) (.osl 8 5 0 Ts.length))),(16,fl sc t.names),(8,fl otc Ts)]) 8 (fun jk=>[(1,.ptr 0 0),(2,.ptr 4 0)]) (fun jk=>[(4,zt),(0,(tr5 t (.osl 16 1 0 t.names.length) (.osl (2*jk+1) 5 0 Ts.length))),(16,fl sc t.names),((2*jk+1),fl otc Ts)]) kr (odH_objss Ts) (fun jk=>⟨by simp only[slF,slp,slps,go_sem,and_self],kr⟩) (fun jk=>⟨rfl,.inr ⟨by simp only[tcs,slps,slp,go_sem,and_self],kr⟩,rfl,.inr ⟨by simp only[tcs,slps,slp,go_sem,and_self],kr⟩,rfl,.inl ⟨ods_flS _,rfl⟩,rfl,.inl ⟨ods_flO _,rfl⟩,trivial⟩) (fun jk=>(h_k [1,2] (F':=[(1,.ptr 0 0),(2,.ptr 4 0)]) kr (Hn ((4,zt)::(0,(tr5 t (.osl 16 1 0 t.names.length) (.osl (2*jk+1) 5 0 Ts.length)))::(16,fl sc t.names)::(((2*jk+1),fl otc Ts)::(objss Ts))) (h_odd (H:=[(4,zt),(0,(tr5 t (.osl 16 1 0 t.names.length) (.osl (2*jk+1) 5 0 Ts.length))),(16,fl sc t.names)]) 16 (fun jn=>[(1,.ptr 0 0),(2,.ptr 4 0)]) (fun jn=>[(4,zt),(0,(tr5 t (.osl (2*jn+1) 1 0 t.names.length) (.osl (2*jk+1) 5 0 Ts.length))),((2*jn+1),fl sc t.names)]) kr ⟨om,ods_flO _,odH_objss Ts⟩ (fun jn=>⟨by simp only[slF,slp,slps,go_sem,and_self],kr⟩) (fun jn=>⟨rfl,.inr ⟨by simp only[tcs,slps,slp,go_sem,and_self],kr⟩,rfl,.inr ⟨by simp only[tcs,slps,slp,go_sem,and_self],by simp only[r1s,r1];rw[nbq (show 2*jk+1≠16 by omega)];rfl⟩,rfl,.inl ⟨ods_flS _,rfl⟩,trivial⟩) (fun jn=>?_))))))
 refine Rr (Fn3 [2] [] (fun _=>((4,(tr5 t (.osl (2*jn+1) 1 0 t.names.length) (.osl (2*jk+1) 5 0 Ts.length)))::(0,(tr5 t (.osl (2*jn+1) 1 0 t.names.length) (.osl (2*jk+1) 5 0 Ts.length)))::(((2*jn+1),fl sc t.names)::(((2*jk+1),fl otc Ts)::(objss Ts))))) 20 ((0+5<=5/\0<5)/\(true=true/\5=5/\0+5<=5)/\·) ⟨dc,dc,Rt1 ((0+5<=5/\0<5)/\·) (.agg (tr5 t (.osl (2*jn+1) 1 0 t.names.length) (.osl (2*jk+1) 5 0 Ts.length))) ⟨dc,fin_dc (.agg (otc (.mk t.dir t.mode t.data (some (jn,jk)) t.names Ts))) (objs (.mk t.dir t.mode t.data (some (jn,jk)) t.names Ts)) ?_ ?_ (ods_otc _) (odH_objs _) ⟨_,?_,?_,?_,rfl,rfl⟩⟩⟩)
 · simp only[objs,own,OT.ids_mk,OT.names_mk,OT.kids_mk]
   exact List.Sublist.cons _ (List.Sublist.cons _ (List.Sublist.refl _))
 · exact lea_refl _
 · rw[er_eq];simp only[OT.dir_mk,OT.mode_mk,OT.data_mk,OT.names_mk,OT.kids_mk];rw[h1,List.take_of_length_le om];cases t;rfl
 · exact(shp_eq _).2 ⟨fun h=>by simp at h,h2⟩
 · exact(asm_eq _).2 ⟨rfl,h3⟩
set_option maxRecDepth 100000
theorem blt_irr:∀a:Str,blt a a=false
 |[]=>by simp[blt,Op.bytesLess]
 |c::a=>by
  have:=blt_irr a
  simp only[blt,Op.bytesLess]at this⊢
  simp[this]
theorem zip_take_mem {ns:List Str} {ks:List Tr} {m:Nat} {e:Str×Tr} (h:e∈(ns.zip ks).take m):∃l,l<m/\l<ns.length/\e.1=ns.getD l default:=by
 obtain⟨l,hl,he⟩:=List.mem_iff_getElem.1 h
 simp only[List.length_take,List.length_zip]at hl
 refine⟨l,by omega,by omega,?_⟩
 rw[<-he,List.getElem_take,List.getElem_zip]
 simp[List.getD,show l<ns.length by omega]
theorem zip_drop_mem {ns:List Str} {ks:List Tr} {m:Nat} {e:Str×Tr} (h:e∈(ns.zip ks).drop m):∃l,m<=l/\l<ns.length/\e.1=ns.getD l default:=by
 obtain⟨l,hl,he⟩:=List.mem_iff_getElem.1 h
 simp only[List.length_drop,List.length_zip]at hl
 refine⟨m+l,by omega,by omega,?_⟩
 rw[<-he,List.getElem_drop,List.getElem_zip]
 simp[List.getD,show m+l<ns.length by omega]
section
variable {nm:Str} {g:Bool} {x:Tr} {r:Tr->Tr}
theorem fA1:∀(l:List (Str×Tr)) (a:List Str) (b:List Tr),(∀e∈l,blt e.1 nm=true)->l.foldl (sstp nm true false x r) (a,b,false)=(a++l.map (·.1),b++l.map (·.2),false)
 |[],a,b,_=>by simp
 |e::l,a,b,h=>by
  have h1:=h e (by simp)
  have h2:(e.1==nm)=false:=by
   cases hx:e.1==nm
   ·rfl
   ·rw[eq_of_beq hx,blt_irr]at h1;cases h1
  have e1:sstp nm true false x r (a,b,false) e=(a++[e.1],b++[e.2],false):=by simp[sstp,h1,h2]
  rw[List.foldl_cons,e1,fA1 l _ _ fun e' he=>h e' (by simp[he])]
  simp
theorem fA2:∀(l:List (Str×Tr)) (a:List Str) (b:List Tr),(∀e∈l,e.1≠nm)->l.foldl (sstp nm true g x r) (a,b,true)=(a++l.map (·.1),b++l.map (·.2),true)
 |[],a,b,_=>by simp
 |e::l,a,b,h=>by
  have h2:(e.1==nm)=false:=by simpa using h e (by simp)
  have e1:sstp nm true g x r (a,b,true) e=(a++[e.1],b++[e.2],true):=by simp[sstp,h2]
  rw[List.foldl_cons,e1,fA2 l _ _ fun e' he=>h e' (by simp[he])]
  simp
theorem fA3:∀(l:List (Str×Tr)) (a:List Str) (b:List Tr),(∀e∈l,e.1≠nm)->l.foldl (sstp nm true true x r) (a,b,false)=(a++l.map (·.1),b++l.map (·.2),false)
 |[],a,b,_=>by simp
 |e::l,a,b,h=>by
  have h2:(e.1==nm)=false:=by simpa using h e (by simp)
  have e1:sstp nm true true x r (a,b,false) e=(a++[e.1],b++[e.2],false):=by simp[sstp,h2]
  rw[List.foldl_cons,e1,fA3 l _ _ fun e' he=>h e' (by simp[he])]
  simp
theorem fA4:∀(l:List (Str×Tr)) (a:List Str) (b:List Tr) (c:Bool),l.foldl (sstp nm false g x r) (a,b,c)=(a++l.map (·.1),b++l.map (fun e=>bif e.1==nm then r e.2 else e.2),c)
 |[],a,b,c=>by simp
 |e::l,a,b,c=>by
  have e1:sstp nm false g x r (a,b,c) e=(a++[e.1],b++[bif e.1==nm then r e.2 else e.2],c):=by simp[sstp]
  rw[List.foldl_cons,e1,fA4 l]
  simp
end
theorem sA_all {p0:Str} {one g:Bool} {x:Tr} {r:Tr->Tr} {t:Tr}:sA p0 one g x r t t.names.length=(t.names.zip t.kids).foldl (sstp p0 one g x r) ([],[],false):=by
 unfold sA
 rw[List.take_of_length_le (by simp;omega)]
theorem zip_split {t:Tr} (hl:t.names.length=t.kids.length) {j:Nat} (hj:j<t.names.length):t.names.zip t.kids=(t.names.zip t.kids).take j++(t.names.getD j default,t.kids.getD j default)::(t.names.zip t.kids).drop (j+1):=by
 have hz:j<(t.names.zip t.kids).length:=by simp;omega
 have h1:(t.names.zip t.kids)[j]=(t.names.getD j default,t.kids.getD j default):=by
  rw[List.getElem_zip]
  simp[List.getD,hj,show j<t.kids.length by omega]
 rw[<-h1,<-List.drop_eq_getElem_cons hz,List.take_append_drop]
theorem zip_f (t:Tr) (hl:t.names.length=t.kids.length):(t.names.zip t.kids).map (·.1)=t.names/\(t.names.zip t.kids).map (·.2)=t.kids:=
 ⟨List.map_fst_zip (by omega),List.map_snd_zip (by omega)⟩
theorem tset_hit {t x:Tr} {nm:Str} {j:Nat} (hl:t.names.length=t.kids.length) (ha:asc t.names=true) (hj:j<t.names.length) (he:t.names.getD j default=nm):
  tset [nm] t x false=.mk t.dir t.mode t.data t.names (t.kids.set j x):=by
 obtain⟨z1,z2⟩:=zip_f t hl
 rw[tset,sA_all]
 rw[zip_split hl hj,List.foldl_append,List.isEmpty_nil]
 rw[fA1 _ _ _ (fun e he'=>by obtain⟨l,h1,h2,h3⟩:=zip_take_mem he';rw[h3,<-he];exact asc_lt ha h1 hj)]
 rw[List.foldl_cons]
 have e1:∀a b,sstp nm true false x (fun k=>tset [] k x false) (a,b,false) (t.names.getD j default,t.kids.getD j default)=(a++[nm],b++[x],true):=fun a b=>by
  simp only[sstp,he,blt_irr,beq_self_eq_true,Bool.and_self,Bool.not_false,cond_true,Bool.and_true]
 rw [e1, fA2 _ _ _ (fun e he'=>by
  obtain⟨l,h1,h2,h3⟩:=zip_drop_mem he'
  intro h4
  have:=asc_lt ha (show j<l by omega) h2
  rw[<-h3,h4,he,blt_irr]at this;cases this)]
 simp only[sE,List.map_take,List.map_drop,z1,z2,Bool.not_true,Bool.false_and,Bool.and_false,cond_false,List.nil_append]
 congr 1
 ·conv=>rhs;rw[get_split t.names j hj default,he]
  simp
 ·rw[set_split _ _ (by omega)];simp
theorem tset_new {t x:Tr} {nm:Str} {j:Nat} (hl:t.names.length=t.kids.length) (ha:asc t.names=true) (hj:j<=t.names.length) (h1:∀l,l<j->blt (t.names.getD l default) nm=true) (h2:∀l,j<=l->l<t.names.length->blt (t.names.getD l default) nm=false)
  (h3:j<t.names.length->t.names.getD j default≠nm):
  tset [nm] t x false=.mk t.dir t.mode t.data (t.names.take j++[nm]++t.names.drop j) (t.kids.take j++[x]++t.kids.drop j):=by
 obtain⟨z1,z2⟩:=zip_f t hl
 rw[tset,sA_all,List.isEmpty_nil]
 rcases Nat.lt_or_ge j t.names.length with hlt|hge
 ·rw[zip_split hl hlt,List.foldl_append]
  rw[fA1 _ _ _ (fun e he'=>by obtain⟨l,q1,q2,q3⟩:=zip_take_mem he';rw[q3];exact h1 l q1)]
  rw[List.foldl_cons]
  have hb:(t.names.getD j default==nm)=false:=by simpa using h3 hlt
  have e1:∀a b,sstp nm true false x (fun k=>tset [] k x false) (a,b,false) (t.names.getD j default,t.kids.getD j default)=(a++[nm]++[t.names.getD j default],b++[x]++[t.kids.getD j default],true):=fun a b=>by
   have:=h2 j (Nat.le_refl _) hlt
   simp only[sstp,hb,this,Bool.not_false,Bool.and_true,Bool.true_and,cond_true,Bool.false_and,cond_false]
  rw [e1, fA2 _ _ _ (fun e he'=>by
   obtain⟨l,q1,q2,q3⟩:=zip_drop_mem he'
   intro h4
   have:=asc_lt ha (show j<l by omega) q2
   rw[<-q3,h4,h2 j (Nat.le_refl _) hlt]at this;cases this)]
  simp only[sE,List.map_take,List.map_drop,z1,z2,Bool.not_true,Bool.false_and,Bool.and_false,cond_false,List.nil_append]
  congr 1
  ·conv=>rhs;rw[show t.names.drop j=t.names.getD j default::t.names.drop (j+1) by rw[List.drop_eq_getElem_cons hlt];simp[List.getD,hlt]]
   simp
  ·have hk:j<t.kids.length:=by omega
   conv=>rhs;rw[show t.kids.drop j=t.kids.getD j default::t.kids.drop (j+1) by rw[List.drop_eq_getElem_cons hk];simp[List.getD,hk]]
   simp
 ·rw [fA1 _ _ _ (fun e he'=>by
   obtain⟨l,q1,q2,q3⟩:=zip_drop_mem (m:=0) (by simpa using he')
   rw[q3];exact h1 l (by omega))]
  simp only[sE,z1,z2,Bool.not_false,Bool.true_and,Bool.and_true,cond_true,List.nil_append]
  congr 1
  ·rw[List.take_of_length_le (by omega),List.drop_eq_nil_of_le (by omega)];simp
  ·rw[List.take_of_length_le (by omega),List.drop_eq_nil_of_le (by omega)];simp
theorem tset_gone {t x:Tr} {nm:Str} {j:Nat} (hl:t.names.length=t.kids.length) (hn:t.names.Nodup) (hj:j<t.names.length) (he:t.names.getD j default=nm):
  tset [nm] t x true=.mk t.dir t.mode t.data (t.names.take j++t.names.drop (j+1)) (t.kids.take j++t.kids.drop (j+1)):=by
 obtain⟨z1,z2⟩:=zip_f t hl
 have hne:∀l,l<t.names.length->l≠j->t.names.getD l default≠nm:=by
  intro l h1 h2 h3
  rw[<-he]at h3
  simp only[List.getD,List.getElem?_eq_getElem h1,List.getElem?_eq_getElem hj,Option.getD_some]at h3
  have hp:=List.pairwise_iff_getElem.1 hn
  rcases Nat.lt_or_gt_of_ne h2 with h|h
  ·exact hp l j h1 hj h h3
  ·exact hp j l hj h1 h h3.symm
 rw[tset,sA_all,List.isEmpty_nil,zip_split hl hj,List.foldl_append]
 rw[fA3 _ _ _ (fun e he'=>by obtain⟨l,q1,q2,q3⟩:=zip_take_mem he';rw[q3];exact hne l q2 (by omega))]
 rw[List.foldl_cons]
 have e1:∀a b,sstp nm true true x (fun k=>tset [] k x true) (a,b,false) (t.names.getD j default,t.kids.getD j default)=(a,b,false):=fun a b=>by
  simp only[sstp,he,beq_self_eq_true,Bool.and_self,Bool.not_true,Bool.false_and,Bool.and_false,Bool.not_false,cond_true,cond_false]
 rw[e1,fA3 _ _ _ (fun e he'=>by obtain⟨l,q1,q2,q3⟩:=zip_drop_mem he';rw[q3];exact hne l q2 (by omega))]
 simp only[sE,List.map_take,List.map_drop,z1,z2,Bool.not_true,Bool.and_false,cond_false,List.nil_append]
theorem fnd_none {n:Str}:∀{l:List Str},fnd n l=none->n∉l
 |[],_=>by simp
 |m::l,h=>by
  rw[fnd]at h
  cases hm:m==n with
  |true=>rw[hm,if_pos rfl]at h;cases h
  |false=>
   rw[hm]at h
   simp only[Bool.false_eq_true,if_false,Option.map_eq_none_iff]at h
   have:=fnd_none h
   have h2:¬n=m:=fun e=>by rw[e,beq_self_eq_true]at hm;cases hm
   simp[h2,this]
theorem fnd_some {n:Str}:∀{l:List Str} {k:Nat},fnd n l=some k->l.getD k default=n
 |[],k,h=>by cases h
 |m::l,k,h=>by
  rw[fnd]at h
  cases hm:m==n with
  |true=>rw[hm,if_pos rfl]at h;cases h;exact eq_of_beq hm
  |false=>
   rw[hm]at h
   simp only[Bool.false_eq_true,if_false,Option.map_eq_some_iff]at h
   obtain⟨j,h1,rfl⟩:=h
   have:=fnd_some (l:=l) h1
   simpa using this
theorem nd_ne {l:List Str} (hn:l.Nodup) {i j:Nat} (hi:i<l.length) (hj:j<l.length) (h:i≠j):l.getD i default≠l.getD j default:=by
 intro h3
 simp only[List.getD,List.getElem?_eq_getElem hi,List.getElem?_eq_getElem hj,Option.getD_some]at h3
 have hp:=List.pairwise_iff_getElem.1 hn
 rcases Nat.lt_or_gt_of_ne h with h|h
 ·exact hp i j hi hj h h3
 ·exact hp j i hj hi h h3.symm
theorem asc_nd {l:List Str} (h:asc l=true):l.Nodup:=by
 refine List.pairwise_iff_getElem.2 fun i j hi hj hij e=>?_
 have:=asc_lt h hij hj
 simp only[List.getD,List.getElem?_eq_getElem hi,List.getElem?_eq_getElem hj,Option.getD_some]at this
 rw[e,blt_irr]at this;cases this
theorem tset_deep {t x:Tr} {n:Str} {p:List Str} {g:Bool} (hl:t.names.length=t.kids.length) (hn:t.names.Nodup) (hp:p≠[]):
  tset (n::p) t x g=match fnd n t.names with|some k=>.mk t.dir t.mode t.data t.names (t.kids.set k (tset p (t.kids.getD k default) x g))|none=>t:=by
 obtain⟨z1,z2⟩:=zip_f t hl
 have hpe:p.isEmpty=false:=by cases p with|nil=>exact absurd rfl hp|cons _ _=>rfl
 rw[tset,sA_all,hpe,fA4,z1]
 simp only[sE,Bool.false_and,cond_false,List.nil_append]
 cases hf:fnd n t.names with
 |none=>
  dsimp only
  have h0:=fnd_none hf
  have:(t.names.zip t.kids).map (fun e=>bif e.1==n then tset p e.2 x g else e.2)=t.kids:=by
   refine Eq.trans (List.map_congr_left fun e he=>?_) z2
   have h1:e.1∈t.names:=(List.of_mem_zip he).1
   have:(e.1==n)=false:=by
    cases hx:e.1==n
    ·rfl
    ·rw[eq_of_beq hx]at h1;exact absurd h1 h0
   rw[this];rfl
  rw[this];cases t;rfl
 |some k=>
  dsimp only
  have hk:=fnd_lt hf
  have hg:=fnd_some hf
  have:(t.names.zip t.kids).map (fun e=>bif e.1==n then tset p e.2 x g else e.2)=t.kids.set k (tset p (t.kids.getD k default) x g):=by
   refine List.ext_getElem (by simp[hl]) fun i h1 h2=>?_
   simp only[List.length_map,List.length_zip]at h1
   rw[List.getElem_map,List.getElem_zip,List.getElem_set]
   rcases Nat.decEq k i with hne|heq
   ·rw[if_neg hne]
    have:=nd_ne hn (show i<t.names.length by omega) hk (by omega)
    rw[hg]at this
    simp only[List.getD,List.getElem?_eq_getElem (show i<t.names.length by omega),Option.getD_some]at this
    rw[show(t.names[i]==n)=false by simpa using this];rfl
   ·subst heq
    rw[if_pos rfl]
    simp only[List.getD,List.getElem?_eq_getElem hk,Option.getD_some]at hg
    rw[hg,beq_self_eq_true]
    simp[List.getD,show k<t.kids.length by omega]
  rw[this]
mutual
def tnd:Tr->Prop|.mk _ _ _ ns ks=>ns.Nodup/\tnds ks
def tnds:List Tr->Prop|[]=>True|t::ts=>tnd t/\tnds ts
end
theorem tnd_eq (t:Tr):tnd t↔t.names.Nodup/\tnds t.kids:=by cases t;simp only[tnd,Tr.names,Tr.kids]
theorem tnds_app:∀{a b:List Tr},tnds (a++b)↔tnds a/\tnds b
 |[],b=>by simp[tnds]
 |x::a,b=>by simp only[List.cons_append,tnds,tnds_app (a:=a),and_assoc]
theorem tnds_get:∀{ks:List Tr},tnds ks->∀{k:Nat},k<ks.length->tnd (ks.getD k default)
 |[],_,k,hk=>by simp at hk
 |t::ts,h,0,_=>h.1
 |t::ts,h,k+1,hk=>tnds_get (ks:=ts) h.2 (by simpa using hk)
theorem tnds_set:∀{ks:List Tr},tnds ks->∀{k:Nat} {y:Tr},tnd y->tnds (ks.set k y)
 |[],_,k,y,_=>by simp[tnds]
 |t::ts,h,0,y,hy=>⟨hy,h.2⟩
 |t::ts,h,k+1,y,hy=>⟨h.1,tnds_set (ks:=ts) h.2 hy⟩
mutual
theorem tnd_parts:∀(t:Tr) (n:Int),partsOk t n=true->tnd t
 |.mk d m s ns ks,n,h=>by
  simp only[partsOk,Bool.and_eq_true]at h
  refine⟨?_,tnds_parts ks (n+1) h.2.2⟩
  have h1:=h.1
  simp only[plainOk,Tr.names_mk,Tr.kids_mk,Tr.dir_mk,Tr.data_mk,Bool.and_eq_true,decide_eq_true_eq]at h1
  have h7:=h1.2.2
  cases d with
  |true=>simp only[if_true,Bool.and_eq_true]at h7;exact asc_nd h7.2.1
  |false=>
   simp only[Bool.false_eq_true,if_false,Bool.and_eq_true]at h7
   have h8:ns=[]:=List.eq_nil_of_length_eq_zero (of_decide_eq_true h7.2)
   subst h8;exact List.nodup_nil
theorem tnds_parts:∀(ks:List Tr) (n:Int),partsOks ks n=true->tnds ks
 |[],_,_=>trivial
 |k::ks,n,h=>by
  simp only[partsOks,Bool.and_eq_true]at h
  exact⟨tnd_parts k n h.1,tnds_parts ks n h.2⟩
end
theorem tnd_ok {t:Tr} (h:treeOk t=true):tnd t:=by
 simp only[treeOk,Bool.and_eq_true]at h
 exact tnd_parts t 0 h.2.1
theorem parts_tat:∀{p:List Str} {t x:Tr} {n:Int},partsOk t n=true->tat t p=some x->∃m,partsOk x m=true
 |[],t,x,n,h,he=>by simp only[tat,Option.some.injEq]at he;exact⟨n,he▸h⟩
 |m::p,t,x,n,h,he=>by
  rw[tat_cons]at he
  rw[partsOk_eq]at h
  simp only[Bool.and_eq_true]at h
  cases hf:fnd m t.names with
  |none=>rw[hf]at he;cases he
  |some k=>
   rw[hf]at he
   have hl:t.names.length=t.kids.length:=by have:=h.1;simp only[plainOk,Bool.and_eq_true,decide_eq_true_eq]at this;exact this.2.1
   have hk:=fnd_lt hf
   exact parts_tat (all_getD _ t.kids k _ (by omega) h.2.2) he
theorem asc_tat {p:List Str} {t x:Tr} (h:treeOk t=true) (he:tat t p=some x):asc x.names=true:=by
 simp only[treeOk,Bool.and_eq_true]at h
 obtain⟨m,hm⟩:=parts_tat h.2.1 he
 rw[partsOk_eq]at hm
 simp only[Bool.and_eq_true]at hm
 have h1:=hm.1
 simp only[plainOk,Bool.and_eq_true,decide_eq_true_eq]at h1
 have h7:=h1.2.2
 cases hd:x.dir with
 |true=>rw[hd]at h7;simp only[if_true,Bool.and_eq_true]at h7;exact h7.2.1
 |false=>
  rw[hd]at h7
  simp only[Bool.false_eq_true,if_false,Bool.and_eq_true]at h7
  have h8:x.names=[]:=List.eq_nil_of_length_eq_zero (of_decide_eq_true h7.2)
  rw[h8];rfl
set_option maxRecDepth 100000
theorem er_mk (d:Bool) (m:Int) (s:Str) (i:Option (Nat×Nat)) (ns:List Str) (ks:List OT):er (.mk d m s i ns ks)=.mk d m s ns (ks.map er):=by simp only[er,ers_map]
theorem er_names (t:OT):(er t).names=t.names:=by rw[er_eq];rfl
theorem er_kids (t:OT):(er t).kids=t.kids.map er:=by rw[er_eq];rfl
theorem er_dir (t:OT):(er t).dir=t.dir:=by rw[er_eq];rfl
theorem er_mode (t:OT):(er t).mode=t.mode:=by rw[er_eq];rfl
theorem er_data (t:OT):(er t).data=t.data:=by rw[er_eq];rfl
theorem getD_er' (ks:List OT) (k:Nat):(ks.map er).getD k default=er (ks.getD k default):=getD_er ks k
theorem orep_tset {x:Tr} {g:Bool} {nm:Str}:∀(q:List Str) (T u u':OT),owf T->tnd (er T)->oat T q=some u->er u'=tset [nm] (er u) x g->er (orep T q u')=tset (q++[nm]) (er T) x g
 |[],T,u,u',_,_,he,hu=>by simp only[oat,Option.some.injEq]at he;subst he;exact hu
 |n::q,T,u,u',hw,hn,he,hu=>by
  rw[oat]at he
  rw[orep,List.cons_append,tset_deep (wf_len hw) ((tnd_eq _).1 hn).1 (by simp),er_names]
  cases hf:fnd n T.names with
  |none=>exact absurd he (by rw[hf];simp)
  |some k=>
   rw[hf]at he
   have hk:k<T.kids.length:=by rw[<-owf_len hw];exact fnd_lt hf
   have hn2:tnd (er (T.kids.getD k default)):=by
    have:=tnds_get ((tnd_eq _).1 hn).2 (k:=k) (by rw[er_kids];simpa using hk)
    rwa[er_kids,getD_er']at this
   dsimp only
   rw[er_mk,List.map_set,orep_tset q _ u u' (owf_kid hw hk) hn2 he hu,er_kids,getD_er',er_dir,er_mode,er_data]
theorem orep_snoc:∀(q:List Str) (T u y:OT) (nm:Str) (k:Nat),oat T q=some u->fnd nm u.names=some k->orep T (q++[nm]) y=orep T q (.mk u.dir u.mode u.data u.ids u.names (u.kids.set k y))
 |[],T,u,y,nm,k,he,hk=>by
  simp only[oat,Option.some.injEq]at he;subst he
  simp only[List.nil_append,orep,hk]
 |n::q,T,u,y,nm,k,he,hk=>by
  rw[oat]at he
  rw[List.cons_append,orep,orep]
  cases hf:fnd n T.names with
  |none=>rfl
  |some j=>
   rw[hf]at he
   dsimp only
   rw[orep_snoc q _ u y nm k he hk]
theorem shps_set:∀{ks:List OT},shps ks->∀{k:Nat} {y:OT},shp y->shps (ks.set k y)
 |[],_,k,y,_=>by simp[shps]
 |t::ts,h,0,y,hy=>⟨hy,h.2⟩
 |t::ts,h,k+1,y,hy=>⟨h.1,shps_set (ks:=ts) h.2 hy⟩
theorem asms_set:∀{ks:List OT},asms ks->∀{k:Nat} {y:OT},asm y->asms (ks.set k y)
 |[],_,k,y,_=>by simp[asms]
 |t::ts,h,0,y,hy=>⟨hy,h.2⟩
 |t::ts,h,k+1,y,hy=>⟨h.1,asms_set (ks:=ts) h.2 hy⟩
theorem orep_shp:∀{q:List Str} {T u u':OT},owf T->shp T->oat T q=some u->shp u'->shp (orep T q u')
 |[],T,u,u',_,_,_,h=>h
 |n::q,T,u,u',hw,hs,he,h=>by
  rw[oat]at he
  rw[orep]
  cases hf:fnd n T.names with
  |none=>exact hs
  |some k=>
   rw[hf]at he
   have hk:k<T.kids.length:=by rw[<-owf_len hw];exact fnd_lt hf
   have h1:=(shp_eq T).1 hs
   refine(shp_eq _).2 ⟨fun hi=>?_,shps_set h1.2 (orep_shp (owf_kid hw hk) (shps_get h1.2 hk) he h)⟩
   have:=(h1.1 hi).2
   rw[this]at hk;simp at hk
theorem orep_asm:∀{q:List Str} {T u u':OT},owf T->asm T->oat T q=some u->asm u'->asm (orep T q u')
 |[],T,u,u',_,_,_,h=>h
 |n::q,T,u,u',hw,hs,he,h=>by
  rw[oat]at he
  rw[orep]
  cases hf:fnd n T.names with
  |none=>exact hs
  |some k=>
   rw[hf]at he
   have hk:k<T.kids.length:=by rw[<-owf_len hw];exact fnd_lt hf
   have h1:=(asm_eq T).1 hs
   exact(asm_eq _).2 ⟨h1.1,asms_set h1.2 (orep_asm (owf_kid hw hk) (asms_get h1.2 hk) he h)⟩
theorem orep_tnd:∀{q:List Str} {T u u':OT},owf T->tnd (er T)->oat T q=some u->tnd (er u')->tnd (er (orep T q u'))
 |[],T,u,u',_,_,_,h=>h
 |n::q,T,u,u',hw,hs,he,h=>by
  rw[oat]at he
  rw[orep]
  cases hf:fnd n T.names with
  |none=>exact hs
  |some k=>
   rw[hf]at he
   have hk:k<T.kids.length:=by rw[<-owf_len hw];exact fnd_lt hf
   have h1:=(tnd_eq _).1 hs
   rw[er_names,er_kids]at h1
   have h2:=tnds_get h1.2 (k:=k) (by simpa using hk)
   rw[getD_er']at h2
   rw[er_mk,List.map_set]
   exact(tnd_eq _).2 ⟨h1.1,tnds_set h1.2 (orep_tnd (owf_kid hw hk) h2 he h)⟩
theorem osm_W:∀{B:Nat} (t:OT),(er t).W<=B->osm B t
 |B,.mk d m s i ns ks,h=>by
  simp only[er,Tr.W]at h
  have:=wS_len ns
  refine⟨by omega,osms_W ks (by omega)⟩
where osms_W:∀{B:Nat} (ks:List OT),Tr.Ws (ers ks)<=B->osms B ks
 |B,[],_=>trivial
 |B,t::ts,h=>by
  simp only[ers,Tr.Ws]at h
  exact⟨osm_W t (by omega),osms_W ts (by omega)⟩
section
variable {Z W:Hp} {r:Nat} {A0 B0:List AV} {T:OT}
def Lies' (Z:Hp) (r:Nat) (A0 B0:List AV) (T:OT) (W:Hp):Prop:=Z.Perm ((r,A0++otc T++B0)::(objs T++W))/\odH Z
theorem kidL {q:List Str} {u:OT} {i o:Nat} (nm:Str) (hL:Lies Z r A0 B0 T W) (hu:oat T q=some u) (ho:opos T r A0.length q=some (i,o)):
  DC G 74 [.ptr i o,.str nm] Z (fun r' Z'=>Z'=Z/\r'=oad (opos T r A0.length (q++[nm]))):=by
 obtain⟨i',A,B,Wo,q1,q2,q3,q4,q5,q6⟩:=hL.foc hu
 rw[ho]at q1;cases q1
 refine(kid_ok (t:=u) nm hL.odd q2 q3 q4 (by omega)).mono ?_
 rintro _ _ ⟨rfl,rfl⟩
 refine⟨rfl,?_⟩
 rw[okid_oad u nm i A.length,opos_snoc,ho,hu]
theorem objss_set {ks:List OT} {k:Nat} {x:OT} (hk:k<ks.length) (hx:objs x=objs (ks.getD k default)):objss (ks.set k x)=objss ks:=by
 conv=>rhs;rw[get_split ks k hk default]
 rw[set_split ks k hk,objss_app,objss_app]
 simp only[objss,hx]
theorem putL_hit {q:List Str} {u x:OT} {i o k a b:Nat} (nm:Str) (hL:Lies Z r A0 B0 T W) (hu:oat T q=some u) (ho:opos T r A0.length q=some (i,o)) (hids:u.ids=some (a,b)) (hasc:asc u.names=true) (hk:fnd nm u.names=some k) (hx:objs x=objs (u.kids.getD k default)):
  DC G 54 [.ptr i o,.str nm,.agg (otc x)] Z (fun _ Z'=>Lies' Z' r A0 B0 (orep T (q++[nm]) x) W):=by
 obtain⟨i',A,B,Wo,q1,q2,q3,q4,q5,q6⟩:=hL.foc hu
 rw[ho]at q1;cases q1
 refine(put_ok (t:=u) nm x a b hids hL.odd q2 q3 q4 q5 hasc).mono ?_
 rintro _ Z' ⟨t',hp,hz,h⟩
 have hkl:=fnd_lt hk
 have hkn:=fnd_some hk
 have ht':t'=.mk u.dir u.mode u.data u.ids u.names (u.kids.set k x):=by
  rcases h with ⟨j,h1,h2,h3⟩|⟨j,_,_,h1,h2,h3,h4,_⟩
  ·have:j=k:=by
    rcases Nat.decEq j k with hne|heq
    ·exact absurd (by rw[h2,hkn]) (nd_ne (asc_nd hasc) h1 hkl hne)
    ·exact heq
   rw[h3,this]
  ·exfalso
   rcases Nat.lt_trichotomy k j with hlt|heq|hgt
   ·have:=h2 k hlt;rw[hkn,blt_irr]at this;cases this
   ·subst heq;exact h4 hkl hkn
   ·have:=asc_lt hasc hgt hkl
    rw[hkn,h3 j (Nat.le_refl _) (by omega)]at this;cases this
 refine⟨?_,hz⟩
 rw[orep_snoc q T u x nm k hu hk]
 rw[ht']at hp
 refine hp.trans ((q6 _).trans ?_).symm
 rw[objs_eq]
 simp only[OT.kids_mk]
 rw[objss_set (by omega) hx,<-List.append_assoc (own _)]
theorem putL_new {q:List Str} {u x:OT} {i o a b:Nat} {W':Hp} (nm:Str) (hL:Lies Z r A0 B0 T W) (hu:oat T q=some u) (ho:opos T r A0.length q=some (i,o)) (hids:u.ids=some (a,b)) (hasc:asc u.names=true) (hk:fnd nm u.names=none) (hW:W.Perm (objs x++W')):
  DC G 54 [.ptr i o, .str nm, .agg (otc x)] Z (fun _ Z'=>∃(j k k':Nat) (u':OT),j<=u.names.length/\u'=.mk u.dir u.mode u.data (some (k,k')) (u.names.take j++[nm]++u.names.drop j) (u.kids.take j++[x]++u.kids.drop j)/\
   er u'=tset [nm] (er u) (er x) false/\Lies' Z' r A0 B0 (orep T q u') W'):=by
 obtain⟨i',A,B,Wo,q1,q2,q3,q4,q5,q6⟩:=hL.foc hu
 rw[ho]at q1;cases q1
 refine(put_ok (t:=u) nm x a b hids hL.odd q2 q3 q4 q5 hasc).mono ?_
 rintro _ Z' ⟨t',hp,hz,h⟩
 rcases h with ⟨j,h1,h2,h3⟩|⟨j,k,k',h1,h2,h3,h4,h5⟩
 ·exact absurd (by rw[<-h2];simp[List.getD,h1]) (fnd_none hk)
 ·refine⟨j,k,k',t',h1,h5,?_,?_,hz⟩
  ·rw[h5,tset_new (by rw[er_names,er_kids,List.length_map];exact q4) (by rw[er_names];exact hasc) (by rw[er_names];exact h1) (by rw[er_names];exact h2) (by rw[er_names];exact h3) (by rw[er_names];exact h4)]
   rw[er_mk,er_names,er_kids,er_dir,er_mode,er_data]
   simp only[List.map_append,List.map_take,List.map_drop,List.map_cons,List.map_nil]
  ·have e1:(objs t').Perm (own t'++(objs x++objss u.kids)):=by
    rw[objs_eq]
    refine List.Perm.append_left _ ?_
    rw[h5];simp only[OT.kids_mk]
    rw[List.append_assoc,objss_app,objss_app]
    conv=>rhs;rw[<-List.take_append_drop j u.kids,objss_app]
    simp only[objss,List.append_nil]
    rw[<-List.append_assoc,<-List.append_assoc]
    exact List.perm_append_comm.append_right _
   have e2:=q6 t'
   refine(List.perm_append_right_iff (objs x)).1 ?_
   have e3:(((r,A0++otc (orep T q t')++B0)::(objs (orep T q t')++W'))++objs x).Perm ((r,A0++otc (orep T q t')++B0)::(objs (orep T q t')++W)):=by
    rw[List.cons_append,List.append_assoc (objs (orep T q t'))]
    refine List.Perm.cons _ (List.Perm.append_left _ ?_)
    exact List.perm_append_comm.trans hW.symm
   refine List.Perm.trans ?_ e3.symm
   refine List.Perm.trans ?_ e2.symm
   refine(hp.append_right (objs x)).trans ?_
   rw[List.cons_append]
   refine List.Perm.cons _ ?_
   refine List.Perm.trans ?_ (e1.append_right Wo).symm
   simp only[List.append_assoc]
   refine List.Perm.append_left _ ?_
   rw[<-List.append_assoc (objss u.kids)]
   exact List.perm_append_comm
theorem dropL {q:List Str} {u:OT} {i o k a b:Nat} (nm:Str) (hL:Lies Z r A0 B0 T W) (hu:oat T q=some u) (ho:opos T r A0.length q=some (i,o)) (hids:u.ids=some (a,b)) (hk:fnd nm u.names=some k):
  DC G 77 [.ptr i o,.str nm] Z (fun _ Z'=>∃W',Lies' Z' r A0 B0 (orep T q (.mk u.dir u.mode u.data u.ids (u.names.take k++u.names.drop (k+1)) (u.kids.take k++u.kids.drop (k+1)))) W'):=by
 obtain⟨i',A,B,Wo,q1,q2,q3,q4,q5,q6⟩:=hL.foc hu
 rw[ho]at q1;cases q1
 refine(drop_ok (t:=u) nm a b hids hL.odd q2 q3 q4 q5).mono ?_
 rintro _ Z' ⟨hp,hz⟩
 rw[hk]at hp
 dsimp only at hp
 have hkl:k<u.kids.length:=by rw[<-q4];exact fnd_lt hk
 refine⟨W++objs (u.kids.getD k default),?_,hz⟩
 generalize hu':OT.mk u.dir u.mode u.data u.ids (u.names.take k++u.names.drop (k+1)) (u.kids.take k++u.kids.drop (k+1))=u' at hp⊢
 have e1:(objss u.kids).Perm (objss u'.kids++objs (u.kids.getD k default)):=by
  conv=>lhs;rw[get_split u.kids k hkl default]
  rw[<-hu',OT.kids_mk,objss_app,objss_app]
  simp only[objss,List.append_assoc]
  exact List.Perm.append_left _ List.perm_append_comm
 have e2:((r,A0++otc (orep T q u')++B0)::(objs (orep T q u')++(W++objs (u.kids.getD k default)))).Perm (((i,A++otc u'++B)::(objs u'++Wo))++objs (u.kids.getD k default)):=by
  have:=(q6 u').append_right (objs (u.kids.getD k default))
  rwa[List.cons_append,List.append_assoc (objs (orep T q u'))]at this
 refine List.Perm.trans ?_ e2.symm
 refine hp.trans ?_
 rw[List.cons_append]
 refine List.Perm.cons _ ?_
 rw[objs_eq u']
 simp only[List.append_assoc]
 refine List.Perm.append_left _ ?_
 refine(e1.append_right Wo).trans ?_
 rw[List.append_assoc]
 exact List.Perm.append_left _ List.perm_append_comm
end
open Go Go.Proofs
set_option maxRecDepth 100000
theorem zrs_u8 (k:Nat):zrs k [.int .u8 0]=ints (List.replicate k 0):=by
  simp only[zrs,ints]
  induction k with
  |zero=>rfl
  |succ k ih=>rw[List.replicate_succ,List.replicate_succ,List.flatten_cons,ih];rfl
def szd (s:Str) (n:Int):Str:=if n<=(s.length:Int)then s.take n.toNat else s++List.replicate (n-(s.length:Int)).toNat 0
theorem szd_len {s:Str} {n:Int} (h:0<=n):(szd s n).length=n.toNat:=by
  unfold szd;split<;>simp<;>omega
def wrt (s:Str) (a:Int) (d:Str):Str:=
  (fun s1=>(fun o=>if(o.length:Int)<(s1.length:Int)then o++s1.drop o.length else o) (s1.take a.toNat++d)) (if(s.length:Int)<a then szd s a else s)
theorem modeOk_ok (n:Int):PE G 61 [.i n] (.bool (inb n 0 7)):=by
 refine Pe Tryz.func61 ?_
 refine Rr (Fn0 [0] [] (Rr (Pc0 2 [(3,.i n)] 4 (within_ok n 0 7) (Fn0 [] [(2,.bool (inb n 0 7))] ?_))))
 refine Rt (.bool (inb n 0 7)) ?_
 exact fin_lea (lea_refl _)
theorem sized_ok (s:Str) (n:Int) (h0:0<=n) (hn:n<2^40) (hs:s.length<2^40):PE G 76 [.str s,.i n] (.str (szd s n)):=by
 refine Pe Tryz.func76 ?_
 refine Rr (Fn0 [0,1] [] (Sq fun K2 hK2=>?_))
 refine Rr (Cn1 (decide ((n:Int)<=((s.length:Int):Int))) [0,1] [] (Ki/\·) ⟨rfl,fun hc4 c4=>?_,fun hc4 c4=>?_⟩)
 refine Rr (Fn1 [] [(4,.str (s.take n.toNat))] ((0<=(0:Int)/\(0:Int)<=n/\n<=(s.length:Int))/\·) ⟨⟨om,om,om⟩,Rt (.str (s.take n.toNat)) (fin_lea ?_)⟩)
 unfold szd
 rw[if_pos om];exact lea_refl _
 refine Sk (Jn (hK2 (Kp [0,1] ?_)))
 have hrl:(List.replicate (n-(s.length:Int)).toNat (0:UInt8)).length=(n-(s.length:Int)).toNat:=List.length_replicate
 refine Rr (Av1 (r:=.i (IntKind.i64.wrap (n-(s.length:Int)))) (v:=.i (n-(s.length:Int))) 5 16 [(15,.i s.length),(14,.str s),(13,.i n),(12,.str s)] (cI (wrap64 om om)) (Ki/\·) ⟨rfl,An3 1 [(17,.osl 0 1 0 (n-(s.length:Int)).toNat)] ([(0,zrs ((n-(s.length:Int)).toNat) [.int .u8 0])]++·) 4 (((n-(s.length:Int))=(n-(s.length:Int))/\(0:Int)<=(n-(s.length:Int))/\(n-(s.length:Int)).toNat*1<=140737488355328/\(n-(s.length:Int))<=140737488355328)/\·) ⟨⟨rfl,om,om,om⟩,run_v (v':=.osl 0 1 0 ((List.replicate (n-(s.length:Int)).toNat (0:UInt8)).length)) (by rw[List.length_replicate]) (run_h (cs':=ints (List.replicate (n-(s.length:Int)).toNat (0:UInt8))) (zrs_u8 _) ?_)⟩⟩)
 refine Av1 (r:=.str ((((ints (List.replicate (n-(s.length:Int)).toNat (0:UInt8))).drop 0).take (List.replicate (n-(s.length:Int)).toNat (0:UInt8)).length).map unu)) (v:=.str (List.replicate (n-(s.length:Int)).toNat (0:UInt8))) 1 18 [] (congrArg AV.str (unu_ints _)) (fun Z=>(1=1/\0+(List.replicate (n-(s.length:Int)).toNat (0:UInt8)).length<=(ints (List.replicate (n-(s.length:Int)).toNat (0:UInt8))).length/\allu (((ints (List.replicate (n-(s.length:Int)).toNat (0:UInt8))).drop 0).take (List.replicate (n-(s.length:Int)).toNat (0:UInt8)).length))/\Z) ⟨⟨rfl,by rw[ints_len];omega,allu_ints _⟩,Fn1 [] [(4,.str (s++(List.replicate (n-(s.length:Int)).toNat (0:UInt8))))] ((s.length+(List.replicate (n-(s.length:Int)).toNat (0:UInt8)).length<=9223372036854775807)/\·) ⟨om,Rt (.str (s++(List.replicate (n-(s.length:Int)).toNat (0:UInt8)))) (fin_lea ?_)⟩⟩
 unfold szd
 rw[if_neg om];exact lea_refl _
theorem written_ok (s:Str) (a:Int) (d:Str) (h0:0<=a) (ha:a<2^40) (hs:s.length<2^40) (hd:d.length<2^40):PE G 75 [.str s,.i a,.str d] (.str (wrt s a d)):=by
 refine Pe Tryz.func75 ?_
 refine Rr (Fn0 [0,1,2] [] (Sq fun K2 hK2=>?_))
 refine Rr (Cn1 (decide ((s.length:Int)<a)) [0,1,2] [] (Ki/\·) ⟨rfl,fun hc4 c4=>?_,fun hc4 c4=>?_⟩)
 refine Rb (fun h=>Jn (hK2 h)) ?_
 have hzl:=szd_len (s:=s) h0
 refine Pc0 3 [(13,.i a),(12,.str s)] 14 (sized_ok s a om om om) (Fn0 [1,2] [(0,.str (szd s a))] ?_)
 have hzl:=szd_len (s:=s) h0;have htk:(s.take a.toNat).length<=s.length:=(by rw[List.length_take];omega);have htk2:((szd s a).take a.toNat).length<=(szd s a).length:=(by rw[List.length_take];omega)
 refine Rr (Fn1 [0] [(7,.str (((szd s a).take a.toNat)++d))] ((0<=(0:Int)/\(0:Int)<=a/\a<=((szd s a).length:Int))/\(((szd s a).take a.toNat).length+d.length<=9223372036854775807)/\·) ⟨⟨om,om,om⟩,om,Sq fun K6 hK6=>?_⟩)
 have hlt1:(s.take a.toNat++d).length=(s.take a.toNat).length+d.length:=List.length_append;have hlt2:((szd s a).take a.toNat++d).length=((szd s a).take a.toNat).length+d.length:=List.length_append;have hdr:(s.drop (s.take a.toNat++d).length).length<=s.length:=by rw[List.length_drop];omega
 have hdr2:((szd s a).drop ((szd s a).take a.toNat++d).length).length<=(szd s a).length:=by rw[List.length_drop];omega
 refine Rr (Cn1 (decide ((((((szd s a).take a.toNat)++d).length:Nat):Int)<((szd s a).length:Int))) [0,7] [] (Ki/\·) ⟨rfl,fun hc8 c8=>?_,fun hc8 c8=>?_⟩)
 refine Rb (fun h=>Jn (hK6 h)) (Av1 (r:=.str (((szd s a).take ((szd s a).length)).drop ((((szd s a).take a.toNat)++d).length))) (v:=.str ((szd s a).drop ((((szd s a).take a.toNat)++d).length))) 5 29 [(28,.i (((((szd s a).take a.toNat)++d).length:Nat):Int)),(27,.str (((szd s a).take a.toNat)++d)),(26,.str (szd s a)),(25,.str (((szd s a).take a.toNat)++d))] (congrArg AV.str (congrArg (List.drop _) List.take_length)) (fun Z=>(0<=((((((szd s a).take a.toNat)++d).length:Nat):Int):Int)/\((((((szd s a).take a.toNat)++d).length:Nat):Int):Int)<=((szd s a).length:Int)/\((szd s a).length:Int)<=((szd s a).length:Int))/\Z) ⟨⟨om,om,om⟩,Fn1 [] [(7,.str ((((szd s a).take a.toNat)++d)++((szd s a).drop ((((szd s a).take a.toNat)++d).length))))] (fun Z=>((((szd s a).take a.toNat)++d).length+((szd s a).drop ((((szd s a).take a.toNat)++d).length)).length<=9223372036854775807)/\Z) ⟨(by first|omega|(simp only[List.length_append,List.length_cons,List.length_nil];omega)),Rr (Fn0 [] [(6,.str ((((szd s a).take a.toNat)++d)++((szd s a).drop ((((szd s a).take a.toNat)++d).length))))] ?_)⟩⟩)
 refine Rt (.str ((((szd s a).take a.toNat)++d)++((szd s a).drop ((((szd s a).take a.toNat)++d).length)))) (fin_lea ?_)
 unfold wrt
 rw[show(if(s.length:Int)<a then szd s a else s)=szd s a from if_pos om]
 dsimp only
 rw[if_pos om]
 exact lea_refl _
 refine Sk (Jn (hK6 (Kp [7] (Rr (Fn0 [] [(6,.str (((szd s a).take a.toNat)++d))] (Rt (.str (((szd s a).take a.toNat)++d)) (fin_lea ?_)))))))
 unfold wrt
 rw[show(if(s.length:Int)<a then szd s a else s)=szd s a from if_pos om]
 dsimp only
 rw[if_neg om]
 exact lea_refl _
 refine Sk (Jn (hK2 (Kp [0,1,2] ?_)))
 have hzl:=szd_len (s:=s) h0;have htk:(s.take a.toNat).length<=s.length:=(by rw[List.length_take];omega);have htk2:((szd s a).take a.toNat).length<=(szd s a).length:=(by rw[List.length_take];omega)
 refine Rr (Fn1 [0] [(7,.str ((s.take a.toNat)++d))] ((0<=(0:Int)/\(0:Int)<=a/\a<=(s.length:Int))/\((s.take a.toNat).length+d.length<=9223372036854775807)/\·) ⟨⟨om,om,om⟩,om,Sq fun K12 hK12=>?_⟩)
 have hlt1:(s.take a.toNat++d).length=(s.take a.toNat).length+d.length:=List.length_append;have hlt2:((szd s a).take a.toNat++d).length=((szd s a).take a.toNat).length+d.length:=List.length_append;have hdr:(s.drop (s.take a.toNat++d).length).length<=s.length:=by rw[List.length_drop];omega
 have hdr2:((szd s a).drop ((szd s a).take a.toNat++d).length).length<=(szd s a).length:=by rw[List.length_drop];omega
 refine Rr (Cn1 (decide ((((s.take a.toNat)++d).length:Int)<(s.length:Int))) [0,7] [] (Ki/\·) ⟨rfl,fun hc14 c14=>?_,fun hc14 c14=>?_⟩)
 refine Rb (fun h=>Jn (hK12 h)) (Av1 (r:=.str ((s.take s.length).drop (((s.take a.toNat)++d).length))) (v:=.str (s.drop (((s.take a.toNat)++d).length))) 5 29 [(28,.i (((s.take a.toNat)++d).length:Int)),(27,.str ((s.take a.toNat)++d)),(26,.str s),(25,.str ((s.take a.toNat)++d))] (congrArg AV.str (congrArg (List.drop _) List.take_length)) ((0<=((((s.take a.toNat)++d).length:Int):Int)/\((((s.take a.toNat)++d).length:Int):Int)<=(s.length:Int)/\(s.length:Int)<=(s.length:Int))/\·) ⟨⟨om,om,om⟩,Fn1 [] [(7,.str (((s.take a.toNat)++d)++(s.drop (((s.take a.toNat)++d).length))))] ((((s.take a.toNat)++d).length+(s.drop (((s.take a.toNat)++d).length)).length<=9223372036854775807)/\·) ⟨(by first|omega|(simp only[List.length_append,List.length_cons,List.length_nil];omega)),Rr (Fn0 [] [(6,.str (((s.take a.toNat)++d)++(s.drop (((s.take a.toNat)++d).length))))] ?_)⟩⟩)
 refine Rt (.str (((s.take a.toNat)++d)++(s.drop (((s.take a.toNat)++d).length)))) (fin_lea ?_)
 unfold wrt
 rw[show(if(s.length:Int)<a then szd s a else s)=s from if_neg om]
 dsimp only
 rw[if_pos om]
 exact lea_refl _
 refine Sk (Jn (hK12 (Kp [7] (Rr (Fn0 [] [(6,.str ((s.take a.toNat)++d))] (Rt (.str ((s.take a.toNat)++d)) (fin_lea ?_)))))))
 unfold wrt
 rw[show(if(s.length:Int)<a then szd s a else s)=s from if_neg om]
 dsimp only
 rw[if_neg om]
 exact lea_refl _
theorem begins_ok (p q:List Str) (hp:p.length<2^60) (hq:q.length<2^60):PE G 91 [pth p,pth q] (.bool (q.isPrefixOf p)):=by
 refine Pe Tryz.func91 ?_
 refine Rr (Fn0 [0,1] [] (Sq fun K2 hK2=>?_))
 refine Rr (Av0 2 7 [(6,pth p)] (lnm p sc) (Av0 2 9 [(8,pth q)] (lnm q sc) (Cn1 (decide ((p.length:Int)<(q.length:Int))) [0,1] [] (Ki/\·) ⟨rfl,fun hc4 c4=>?_,fun hc4 c4=>?_⟩)))
 refine Rr (Fn0 [] [(4,.bool false)] (Rt (.bool false) (fin_lea ?_)))
 rw[pre_no om];exact lea_refl _
 refine Sk (Jn (hK2 (Kp [0,1] (Sq fun K6 hK6=>?_))))
 refine Rr (Av0 2 12 [(11,pth q)] (lnm q sc) (Fn0 [0,1,12] [(13,.i 0)] (Bl (h_l (fun(k:Nat)=>([(0,pth p),(1,pth q),(12,.i q.length),(13,.i k)]:Fr)) (fun(k:Nat)=>([]:Hp)) (fun(k:Nat) cn=>(k<=q.length/\q.take k=p.take k)/\cn=0) (fun(k:Nat)=>q.length-k) 0 kr ?_ ?_ ?_ ?_))))
 refine⟨?_,rfl⟩;exact⟨Nat.zero_le _,rfl⟩
 exact⟨kr,kr,kr,kr,trivial⟩
 exact(List.nil_sublist _)
 rintro k n1 hI
 (try dsimp only at hI)
 obtain⟨⟨hk,hpre⟩,rfl⟩:=hI
 refine Rr (Fn1 [0,1,12,13] [(14,.bool (decide ((k:Int)<(q.length:Int))))] (Ki/\·) ⟨rfl,Sq fun K9 hK9=>?_⟩)
 refine Cc (decide ((k:Int)<(q.length:Int))) (fun hc10 c10=>?_) fun hc10 c10=>?_
 refine Sk (Jn (hK9 (Kp [0,1,12,13] (Sq fun K11 hK11=>?_))))
 refine Bl (Rr (Fn0 [0,1,12,13] [(5,.i k)] (Qr [0,0,3,7,0,0,48,112,255] [(0,[]),(1,[]),(2,[]),(3,[]),(4,[]),(5,[]),(6,[]),(7,[]),(8,[])] (qAv1 3 18 [(17,.i k),(16,pth p)] (congrArg AV.pat (mg_str p k om)) ((1=1/\(0:Int)<=(k:Int)/\(k:Int)<((p.map (fun s=>[AV.str s])).length:Int))/\·) ⟨⟨rfl,om,lmo⟩,?_⟩))))
 refine qAv1 4 22 [(21,.i k),(20,pth q),(19,.str (p.getD k default))] (congrArg AV.pat (mg_str q k om)) ((1<=1/\0<1)/\(1=1/\(0:Int)<=(k:Int)/\(k:Int)<((q.map (fun s=>[AV.str s])).length:Int))/\·) ⟨dc,⟨rfl,om,lmo⟩,qCn1 (!((p.getD k default)==(q.getD k default))) [0,1,12,13] [] ((1<=1/\0<1)/\·) ⟨dc,fun hc14 c14=>?_,fun hc14 c14=>?_⟩⟩
 refine Rr (Fn0 [] [(4,.bool false)] (Rt (.bool false) (fin_lea ?_)))
 rw[pre_ne (k:=k) om (by simpa using hc14)];exact lea_refl _
 refine Sk (Bn (Jn (hK11 (Kp [0,1,12,13] (Rn (Av1 1 25 [] (cI (wn1 k om)) (Ki/\·) ⟨rfl,Gn0 [(13,.i ((k+1:Nat):Int))] (nk_n ?_)⟩))))))
 refine Lr (k+1) [] 0 [(0,pth p),(1,pth q),(12,.i q.length),(13,.i ((k+1:Nat):Int))] [] [] ?_ ?_ kr kr
 (try dsimp only);omega
 refine⟨?_,rfl⟩;(try dsimp only);refine⟨om,?_⟩;rw[take_snoc q k default om,take_snoc p k default om,hpre];congr 2;symm;simpa using hc14
 refine Xt (Jx (Lx (Bh (Jn (hK6 (Kp [] (Rr (Fn0 [] [(4,.bool true)] (Rt (.bool true) (fin_lea ?_))))))))))
 rw[pre_yes om hpre];exact lea_refl _
theorem sound_ok:∀(N:Nat) (t:Tr) (n:Int),t.W=N->t.W<2^40->0<=n->n<=5->PE G 34 [.agg (tcs t),.i n] (.bool (partsOk t n)):=by
 intro N;refine Nat.strongRecOn N fun N ih=>?_;intro t n hN hw hn0 hn5;have hWe:=W_eq t;rw[W_eq]at hN hw;have hks:=Ws_len t.kids;have hns:=wS_len t.names
 refine Pe Tryz.func34 ?_
 refine Rr (Fn2 [1] [(2,.ptr 0 0)] ([(0,tcs t)]++·) 4 (Sq fun K2 hK2=>?_))
 refine Rm 23 ((!(inb t.mode 0 7))||((decide ((4:Int)<(n:Int)))||(!decide ((t.names.length:Int)=(t.kids.length:Int))))) [1,2] ?_ ?_
 refine Bc1 3 [(8,.i t.mode),(7,.ptr 0 1)] 61 [.i t.mode] 9 (((1:Nat)≠0)/\(1+1<=5/\1<5)/\·) ⟨dc,dc,?_⟩
 refine PE.use (modeOk_ok t.mode) ?_
 refine Ke (An0 2 [(11,.bool (!(inb t.mode 0 7))),(10,.bool (!(inb t.mode 0 7)))] (Rg (fun hg4 g4=>?_) (fun hg4 g4=>?_)))
 refine Mn0 true (by rw[hg4];rfl)
 refine An1 4 [(15,.bool (decide ((4:Int)<(n:Int)))),(14,.bool (decide ((4:Int)<(n:Int)))),(13,.bool (decide ((4:Int)<(n:Int)))),(12,.i n)] (Ki/\·) ⟨rfl,Rg (fun hg5 g5=>?_) (fun hg5 g5=>?_)⟩
 refine Mn0 true (by rw[hg4,hg5];rfl)
 refine Av1 3 18 [(17,pth t.names),(16,.ptr 0 3)] (lnm t.names sc) (((1:Nat)≠0)/\(3+1<=5/\3<5)/\·) ⟨dc,dc,Av1 3 21 [(20,.sl 5 (t.kids.map trc)),(19,.ptr 0 4)] (lnm t.kids trc) (((1:Nat)≠0)/\(4+1<=5/\4<5)/\·) ⟨dc,dc,Mn1 (!decide ((t.names.length:Int)=(t.kids.length:Int))) (Ki/\·) ⟨rfl,(by rw[hg4,hg5];rfl)⟩⟩⟩
 refine Cc ((!(inb t.mode 0 7))||((decide ((4:Int)<(n:Int)))||(!decide ((t.names.length:Int)=(t.kids.length:Int))))) (fun hc6 c6=>?_) fun hc6 c6=>?_
 refine Rr (Fn0 [] [(4,.bool false)] (Rt (.bool false) (fin_lea ?_)))
 have hr:partsOk t n=false:=by
   rw[partsOk_eq];simp only[plainOk]
   rcases c6 with h|h|h
   · simp[h]
   · simp[show ¬n<=4 by omega]
   · simp[show ¬t.names.length=t.kids.length by omega]
 rw[hr];exact lea_refl _
 refine Sk (Jn (hK2 (Kp [1,2] (Sq fun K8 hK8=>?_))))
 refine Rr (Cn1 (!t.dir) [1,2] [] (((1:Nat)≠0)/\(0+1<=5/\0<5)/\·) ⟨dc,dc,fun hc10 c10=>?_,fun hc10 c10=>?_⟩)
 refine Rm 4 ((decide ((t.data.length:Int)<=24))&&(decide ((t.names.length:Int)=0))) [] ?_ ?_
 refine An1 5 [(31,.bool (decide ((t.data.length:Int)<=24))),(30,.bool (decide ((t.data.length:Int)<=24))),(29,.i t.data.length),(28,.str t.data),(27,.ptr 0 2)] (((1:Nat)≠0)/\(2+1<=5/\2<5)/\Ki/\·) ⟨dc,dc,rfl,Rg (fun hg12 g12=>?_) (fun hg12 g12=>?_)⟩
 refine Av1 3 34 [(33,pth t.names),(32,.ptr 0 3)] (lnm t.names sc) (((1:Nat)≠0)/\(3+1<=5/\3<5)/\·) ⟨dc,dc,Mn1 (decide ((t.names.length:Int)=0)) (Ki/\·) ⟨rfl,(by rw[hg12];rfl)⟩⟩
 refine Mn0 false (by rw[hg12];rfl)
 refine Rt (.bool ((decide ((t.data.length:Int)<=24))&&(decide ((t.names.length:Int)=0)))) (fin_lea ?_)
 have hr:partsOk t n=((decide ((t.data.length:Int)<=24))&&(decide ((t.names.length:Int)=0))):=by
   obtain⟨a1,a2,a3⟩:=c6
   have hd:t.dir=false:=by simpa using hc10
   have hn0:t.names.length=0->t.kids=[]:=fun h=>List.eq_nil_of_length_eq_zero om
   rw[partsOk_eq];simp only[plainOk]
   simp only[a1,show t.names.length=t.kids.length by omega,show n<=4 by omega,hd,decide_true,Bool.true_and,Bool.false_eq_true,if_false]
   rw[show decide ((t.data.length:Int)<=24)=decide (t.data.length<=24)from decide_eq_decide.2 om]
   rcases Nat.eq_zero_or_pos t.names.length with h0|h0
   · rw[hn0 h0];simp[h0]
   · have h2:decide (t.kids.length=0)=false:=decide_eq_false om
     have h3:decide ((t.kids.length:Int)=0)=false:=decide_eq_false om
     rw[h2,h3];simp
 rw[hr];exact lea_refl _
 refine Sk (Jn (hK8 (Kp [1,2] (Sq fun K13 hK13=>?_))))
 refine Rr (Cn1 (!(t.data==[])) [1,2] [] (((1:Nat)≠0)/\(2+1<=5/\2<5)/\·) ⟨dc,dc,fun hc15 c15=>?_,fun hc15 c15=>?_⟩)
 refine Rr (Fn0 [] [(4,.bool false)] (Rt (.bool false) (fin_lea ?_)))
 have hr:partsOk t n=false:=by
   cases hp:partsOk t n
   · rfl
   exfalso
   rw[partsOk_eq]at hp;simp only[plainOk]at hp
   have hd:t.dir=true:=by simpa using hc10
   simp only[hd,if_true,Bool.and_eq_true,decide_eq_true_eq]at hp
   have:=hp.1.2.2.2.2
   rw[this]at hc15;cases hc15
 rw[hr];exact lea_refl _
 refine Sk (Jn (hK13 (Kp [1,2] (Sq fun K17 hK17=>?_))))
 refine Rr (Av1 3 42 [(41,pth t.names),(40,.ptr 0 3)] (lnm t.names sc) (((1:Nat)≠0)/\(3+1<=5/\3<5)/\·) ⟨dc,dc,Fn0 [1,2,41,42] [(43,.i 0)] (Bl (h_l (fun(k:Nat)=>([(1,.i n),(2,.ptr 0 0),(41,pth t.names),(42,.i t.names.length),(43,.i k)]:Fr)) (fun(k:Nat)=>([(0,tcs t)]:Hp)) (fun(k:Nat) cn=>(k<=t.names.length/\(t.names.take k).all nmOk=true/\asc (t.names.take k)=true/\(t.kids.take k).all (partsOk · (n+1))=true)/\cn=4) (fun(k:Nat)=>t.names.length-k) 0 kr ?_ ?_ ?_ ?_))⟩)
 refine⟨?_,rfl⟩;exact⟨Nat.zero_le _,rfl,rfl,rfl⟩
 exact⟨kr,kr,kr,kr,kr,trivial⟩
 exact(sub_c kr (List.nil_sublist _))
 rintro k n1 hI
 (try dsimp only at hI)
 obtain⟨⟨hk,g1,g2,g3⟩,rfl⟩:=hI
 refine Rr (Fn1 [1,2,41,42,43] [(44,.bool (decide ((k:Int)<(t.names.length:Int))))] (Ki/\·) ⟨rfl,Sq fun K20 hK20=>?_⟩)
 refine Cc (decide ((k:Int)<(t.names.length:Int))) (fun hc21 c21=>?_) fun hc21 c21=>?_
 refine Sk (Jn (hK20 (Kp [1,2,41,42,43] (Sq fun K22 hK22=>?_))))
 refine Bl (Rr (Av1 2 46 [(45,.i k)] (congrArg AV.pat (mg_str t.names k om)) ((1=1/\(0:Int)<=(k:Int)/\(k:Int)<((t.names.map (fun s=>[AV.str s])).length:Int))/\·) ⟨⟨rfl,om,lmo⟩,Fn1 [1,2,41,42,43] [(6,.str (t.names.getD k default)),(5,.i k)] ((1<=1/\0<1)/\·) ⟨dc,Rm 75 ((!(nmOk (t.names.getD k default)))||(bif decide ((0:Int)<((k:Int):Int))then(!blt (t.names.getD (((k:Int)-1).toNat) default) (t.names.getD k default))||(!(partsOk (t.kids.getD k default) (n+1)))else !(partsOk (t.kids.getD k default) (n+1)))) [1,2,41,42,43] ?_ ?_⟩⟩))
 refine Pc0 2 [(48,.str (t.names.getD k default))] 49 (nameOk_ok (t.names.getD k default) (by(have:=wS_get t.names k om;omega))) (An0 2 [(51,.bool (!(nmOk (t.names.getD k default)))),(50,.bool (!(nmOk (t.names.getD k default))))] (Rg (fun hg25 g25=>?_) (fun hg25 g25=>?_)))
 refine Mn0 true (by rw[hg25];rfl)
 refine An1 3 [(54,.bool (decide ((0:Int)<((k:Int):Int)))),(53,.bool (decide ((0:Int)<((k:Int):Int)))),(52,.i k)] (Ki/\·) ⟨rfl,Rg (fun hg26 g26=>?_) (fun hg26 g26=>?_)⟩
 refine Av1 (r:=.i (IntKind.i64.wrap ((k:Int)-1))) (v:=.i ((k:Int)-1)) 4 58 [(57,.i k),(56,pth t.names),(55,.ptr 0 3)] (cI (wrap64 om om)) (((1:Nat)≠0)/\(3+1<=5/\3<5)/\Ki/\·) ⟨dc,dc,rfl,Av1 1 59 [] (congrArg AV.pat (mg_str t.names (((k:Int)-1).toNat) om)) ((1=1/\(0:Int)<=((k:Int)-1)/\((k:Int)-1)<((t.names.map (fun s=>[AV.str s])).length:Int))/\·) ⟨⟨rfl,om,lmo⟩,An1 6 [(65,.bool (!blt (t.names.getD (((k:Int)-1).toNat) default) (t.names.getD k default))),(64,.bool (!blt (t.names.getD (((k:Int)-1).toNat) default) (t.names.getD k default))),(63,.bool (!blt (t.names.getD (((k:Int)-1).toNat) default) (t.names.getD k default))),(62,.bool (!blt (t.names.getD (((k:Int)-1).toNat) default) (t.names.getD k default))),(61,.str (t.names.getD k default)),(60,.str (t.names.getD (((k:Int)-1).toNat) default))] ((1<=1/\0<1)/\·) ⟨dc,Rg (fun hg27 g27=>?_) (fun hg27 g27=>?_)⟩⟩⟩
 refine Mn0 true (by rw[hg25,hg26,hg27];rfl)
 refine Av1 4 69 [(68,.i k),(67,.sl 5 (t.kids.map trc)),(66,.ptr 0 4)] (congrArg AV.pat (mg_trc t.kids k om)) (((1:Nat)≠0)/\(4+1<=5/\4<5)/\(5=5/\(0:Int)<=(k:Int)/\(k:Int)<((t.kids.map trc).length:Int))/\·) ⟨dc,dc,⟨rfl,om,lmo⟩,Av1 (r:=.i (IntKind.i64.wrap (n+1))) (v:=.i (n+1)) 3 72 [(71,.i n),(70,.agg (tcs (t.kids.getD k default)))] (cI (wrap64 om om)) ((5<=5/\0<5)/\Ki/\·) ⟨dc,rfl,?_⟩⟩
 have hW:=Ws_get t.kids k om
 refine Pc0 1 [] 73 (ih _ om (t.kids.getD k default) (n+1) rfl om om om) (Mn0 (!(partsOk (t.kids.getD k default) (n+1))) (by rw[hg25,hg26,hg27];rfl))
 refine Av1 15 69 [(68,.i k),(67,.sl 5 (t.kids.map trc)),(66,.ptr 0 4),(65,.bool false),(64,.bool false),(63,.bool false),(62,.tup []),(61,.tup []),(60,.tup []),(59,.tup []),(58,.tup []),(57,.tup []),(56,.tup []),(55,.tup [])] (congrArg AV.pat (mg_trc t.kids k om)) (((1:Nat)≠0)/\(4+1<=5/\4<5)/\(5=5/\(0:Int)<=(k:Int)/\(k:Int)<((t.kids.map trc).length:Int))/\·) ⟨dc,dc,⟨rfl,om,lmo⟩,Av1 (r:=.i (IntKind.i64.wrap (n+1))) (v:=.i (n+1)) 3 72 [(71,.i n),(70,.agg (tcs (t.kids.getD k default)))] (cI (wrap64 om om)) ((5<=5/\0<5)/\Ki/\·) ⟨dc,rfl,?_⟩⟩
 have hW:=Ws_get t.kids k om
 refine Pc0 1 [] 73 (ih _ om (t.kids.getD k default) (n+1) rfl om om om) (Mn0 (!(partsOk (t.kids.getD k default) (n+1))) (by rw[hg25,hg26];rfl))
 refine Cc ((!(nmOk (t.names.getD k default)))||(bif decide ((0:Int)<((k:Int):Int))then(!blt (t.names.getD (((k:Int)-1).toNat) default) (t.names.getD k default))||(!(partsOk (t.kids.getD k default) (n+1)))else !(partsOk (t.kids.getD k default) (n+1)))) (fun hc28 c28=>?_) fun hc28 c28=>?_
 refine Rr (Fn0 [] [(4,.bool false)] (Rt (.bool false) (fin_lea ?_)))
 have hr:partsOk t n=false:=by
   cases hp:partsOk t n
   · rfl
   exfalso
   rw[partsOk_eq]at hp;simp only[plainOk]at hp
   have hd:t.dir=true:=by simpa using hc10
   simp only[hd,if_true,Bool.and_eq_true,decide_eq_true_eq]at hp
   have p1:=all_getD nmOk t.names k default om hp.1.2.2.1
   have p2:=all_getD _ t.kids k default om hp.2.2
   have p3:k=0\/blt (t.names.getD (k-1) default) (t.names.getD k default)=true:=by
     rcases Nat.eq_zero_or_pos k with h|h
     · exact .inl h
     · exact .inr (asc_lt hp.1.2.2.2.1 om om)
   have hc:=hc28
   rw[show((k:Int)-1).toNat=k-1 by omega,p1,p2]at hc
   rcases p3 with p3|p3
   · rw[decide_eq_false om]at hc;simp at hc
   · rw[p3]at hc;cases hd:decide ((0:Int)<(k:Int))<;>rw[hd]at hc<;>simp at hc
 rw[hr];exact lea_refl _
 refine Sk (Bn (Jn (hK22 (Kp [1,2,41,42,43] (Rn (Av1 1 76 [] (cI (wn1 k om)) (Ki/\·) ⟨rfl,Gn0 [(43,.i ((k+1:Nat):Int))] (nk_n ?_)⟩))))))
 obtain⟨a1,a2,a3⟩:nmOk (t.names.getD k default)=true/\(k=0\/blt (t.names.getD (k-1) default) (t.names.getD k default)=true)/\partsOk (t.kids.getD k default) (n+1)=true:=by
   have hc:=hc28
   rw[show((k:Int)-1).toNat=k-1 by omega]at hc
   cases q1:nmOk (t.names.getD k default)with
   |false=>rw[q1]at hc;simp at hc
   |true=>
   cases q2:partsOk (t.kids.getD k default) (n+1)with
   |false=>rw[q1,q2]at hc;cases hd:decide ((0:Int)<(k:Int))<;>rw[hd]at hc<;>simp at hc
   |true=>
   refine⟨rfl,?_,rfl⟩
   rw[q1,q2]at hc
   rcases Nat.eq_zero_or_pos k with h|h
   · exact .inl h
   · right;rw[decide_eq_true om]at hc;simpa using hc
 refine Lr (k+1) [(0,0)] 4 [(1,.i n),(2,.ptr 0 0),(41,pth t.names),(42,.i t.names.length),(43,.i ((k+1:Nat):Int))] [(0,tcs t)] [true] ?_ ?_ kr kr
 (try dsimp only);omega
 refine⟨?_,rfl⟩;(try dsimp only);refine⟨om,?_,?_,?_⟩
 · rw[take_snoc t.names k default om,List.all_append,g1];simpa using a1
 · rw[asc_take t.names k om,g2];simpa using a2
 · rw[take_snoc t.kids k default om,List.all_append,g3];simpa using a3
 refine Xt (Jx (Lx (Bh (Jn (hK17 (Kp [] (Rr (Fn0 [] [(4,.bool true)] (Rt (.bool true) (fin_lea ?_))))))))))
 have hr:partsOk t n=true:=by
   obtain⟨a1,a2,a3⟩:=c6
   have hd:t.dir=true:=by simpa using hc10
   rw[partsOk_eq];simp only[plainOk]
   obtain rfl:k=t.names.length:=by omega
   rw[List.take_length]at g1 g2
   rw[List.take_of_length_le om]at g3
   simp only[a1,show t.names.length=t.kids.length by omega,show n<=4 by omega,hd,decide_true,Bool.true_and,if_true,g1,g2,g3,Bool.and_true]
   simpa using hc15
 rw[hr];exact lea_refl _
theorem paths_ok:∀(N:Nat) (t:Tr),t.W=N->t.W<2^40->PE G 35 [.agg (tcs t)] (.i ((1+cnt t:Nat):Int)):=by
 intro N;refine Nat.strongRecOn N fun N ih=>?_;intro t hN hw;have hcW:=cnt_W t;have hWe:=W_eq t;rw[W_eq]at hN;have hks:=Ws_len t.kids;rw[cnt_eq]at hcW
 refine Pe Tryz.func35 ?_
 refine Rr (Fn2 [] [(1,.ptr 0 0)] ([(0,tcs t)]++·) 4 (Rr (Fn0 [1] [(3,.i 1)] (Sq fun K3 hK3=>?_))))
 refine Rr (Av1 3 8 [(7,.sl 5 (t.kids.map trc)),(6,.ptr 0 4)] (lnm t.kids trc) (((1:Nat)≠0)/\(4+1<=5/\4<5)/\·) ⟨dc,dc,Fn0 [3,7,8] [(9,.i 0)] (Bl (h_l (fun(k:Nat)=>([(3,.i ((1+cnts (t.kids.take k):Nat):Int)),(7,.sl 5 (t.kids.map trc)),(8,.i t.kids.length),(9,.i k)]:Fr)) (fun(k:Nat)=>([(0,tcs t)]:Hp)) (fun(k:Nat) cn=>(k<=t.kids.length)/\cn=4) (fun(k:Nat)=>t.kids.length-k) 0 kr ?_ ?_ ?_ ?_))⟩)
 refine⟨?_,rfl⟩;omega
 exact⟨kr,kr,kr,kr,trivial⟩
 exact(sub_c kr (List.nil_sublist _))
 rintro k n1 hI
 (try dsimp only at hI)
 obtain⟨hk,rfl⟩:=hI
 have hct:=cnts_take_le t.kids k
 refine Rr (Fn1 [3,7,8,9] [(10,.bool (decide ((k:Int)<(t.kids.length:Int))))] (Ki/\·) ⟨rfl,Sq fun K6 hK6=>?_⟩)
 refine Cc (decide ((k:Int)<(t.kids.length:Int))) (fun hc7 c7=>?_) fun hc7 c7=>?_
 refine Sk (Jn (hK6 (Kp [3,7,8,9] (Sq fun K8 hK8=>?_))))
 refine Bl (Rr (Av1 1 11 [] (congrArg AV.pat (mg_trc t.kids k om)) ((5=5/\(0:Int)<=(k:Int)/\(k:Int)<((t.kids.map trc).length:Int))/\·) ⟨⟨rfl,om,lmo⟩,Fn3 [3,7,8,9] [(5,.ptr 4 0)] ([(4,tcs (t.kids.getD k default))]++·) 8 ((5<=5/\0<5)/\(true=true/\5=5/\0+5<=5)/\·) ⟨dc,dc,Rb (fun h=>Bn (Jn (hK8 h))) ?_⟩⟩))
 have hW:=Ws_get t.kids k om
 have hcw:=cnt_W (t.kids.getD k default)
 refine Pc1 3 [(14,.agg (tcs (t.kids.getD k default))),(13,.i ((1+cnts (t.kids.take k):Nat):Int))] 15 (0+5<=5/\0<5) dc (ih _ om (t.kids.getD k default) rfl om) (Av1 1 16 [] (cI (wnn (1+cnts (t.kids.take k)) (1+cnt (t.kids.getD k default)) om)) (Ki/\·) ⟨rfl,Fn0 [7,8,9] [(3,.i (((1+cnts (t.kids.take k))+(1+cnt (t.kids.getD k default)):Nat):Int))] (Rn (Av1 1 17 [] (cI (wn1 k om)) (Ki/\·) ⟨rfl,?_⟩))⟩)
 refine Gn0 [(9,.i ((k+1:Nat):Int))] (nk_n (Lr (k+1) [(0,0)] 4 [(3,.i (((1+cnts (t.kids.take k))+(1+cnt (t.kids.getD k default)):Nat):Int)),(7,.sl 5 (t.kids.map trc)),(8,.i t.kids.length),(9,.i ((k+1:Nat):Int))] [(0,tcs t)] [true] ?_ ?_ kr (by(try rw[show 1+cnts (t.kids.take (k+1))=1+cnts (t.kids.take k)+(1+cnt (t.kids.getD k default)) by rw[cnts_take t.kids k om];omega]);try kernel_rfl)))
 (try dsimp only);omega
 refine⟨?_,rfl⟩;(try dsimp only);omega
 refine Xt (Jx (Lx (Bh (Jn (hK3 (Kp [3] (Rr (Fn0 [] [(2,.i ((1+cnts (t.kids.take k):Nat):Int))] (Rt (.i ((1+cnts (t.kids.take k):Nat):Int)) (fin_lea ?_))))))))))
 obtain rfl:k=t.kids.length:=by omega
 rw[List.take_length,cnt_eq];exact lea_refl _
theorem TreeOk_ok (t:Tr) (hw:t.W<2^40):PE G 16 [.agg (tcs t)] (.bool (treeOk t)):=by
 have hcW:=cnt_W t
 refine Pe Tryz.func16 ?_
 refine Rr (Fn2 [] [(1,.ptr 0 0)] ([(0,tcs t)]++·) 4 (Rm 2 (t.dir&&((partsOk t 0)&&(decide (((1+cnt t:Nat):Int)<=31)))) [] ?_ ?_))
 refine An1 3 [(5,.bool t.dir),(4,.bool t.dir),(3,.ptr 0 0)] (((1:Nat)≠0)/\(0+1<=5/\0<5)/\·) ⟨dc,dc,Rg (fun hg3 g3=>?_) (fun hg3 g3=>?_)⟩
 refine Pc1 2 [(6,.agg (tcs t))] 7 (0+5<=5/\0<5) dc (sound_ok _ t 0 rfl om om om) (An0 2 [(9,.bool (partsOk t 0)),(8,.bool (partsOk t 0))] (Rg (fun hg4 g4=>?_) (fun hg4 g4=>?_)))
 refine Pc1 2 [(10,.agg (tcs t))] 11 (0+5<=5/\0<5) dc (paths_ok _ t rfl om) (Mn1 (decide (((1+cnt t:Nat):Int)<=31)) (Ki/\·) ⟨rfl,(by rw[hg3,hg4];rfl)⟩)
 refine Mn0 false (by rw[hg3,hg4];rfl)
 refine Mn0 false (by rw[hg3];rfl)
 refine Rt (.bool (t.dir&&((partsOk t 0)&&(decide (((1+cnt t:Nat):Int)<=31))))) (fin_lea ?_)
 have hr:treeOk t=(t.dir&&((partsOk t 0)&&(decide (((1+cnt t:Nat):Int)<=31)))):=by
   unfold treeOk;rw[show decide (cnt t<=30)=decide (((1+cnt t:Nat):Int)<=(31:Int))from decide_eq_decide.2 ⟨fun h=>by omega,fun h=>by omega⟩]
 rw[hr];exact lea_refl _
theorem isCall_ok (c:Cl) (h1:wS c.path<2^40) (h2:wS c.to<2^40):PE G 49 [.agg (clc c)] (.bool (callOk c)):=by
 have hl1:=wS_len c.path;have hl2:=wS_len c.to
 refine Pe Tryz.func49 ?_
 refine Rr (Fn2 [] [(1,.ptr 0 0)] ([(0,clc c)]++·) 4 (Sq fun K2 hK2=>?_))
 refine Rm 12 ((!(inb c.kind 1 6))||(!(pthOk c.path 1))) [1] ?_ ?_
 refine Bc1 3 [(4,.i c.kind),(3,.ptr 0 0)] 52 [.i c.kind,.i 1,.i 6] 5 (((1:Nat)≠0)/\(0+1<=5/\0<5)/\·) ⟨dc,dc,?_⟩
 refine PE.use (within_ok c.kind 1 6) ?_
 refine Ke (An0 2 [(7,.bool (!(inb c.kind 1 6))),(6,.bool (!(inb c.kind 1 6)))] (Rg (fun hg4 g4=>?_) (fun hg4 g4=>?_)))
 refine Mn0 true (by rw[hg4];rfl)
 refine Bc1 3 [(9,pth c.path),(8,.ptr 0 1)] 72 [pth c.path,.i 1] 10 (((1:Nat)≠0)/\(1+1<=5/\1<5)/\·) ⟨dc,dc,?_⟩
 refine PE.use (namesOk_ok c.path 1 om (fun s hs=>Nat.lt_trans (wS_mem hs) om)) ?_
 refine Ke (Mn0 (!(pthOk c.path 1)) (by rw[hg4];rfl))
 refine Cc ((!(inb c.kind 1 6))||(!(pthOk c.path 1))) (fun hc5 c5=>?_) fun hc5 c5=>?_
 refine Rr (Fn0 [] [(2,.bool false)] (Rt (.bool false) (fin_lea ?_)))
 have hr:callOk c=(false):=by
   unfold callOk
   have hz:∀q:inb c.kind 1 6=false,¬(1<=c.kind/\c.kind<=6):=fun q=>by simp only[inb,Bool.and_eq_false_iff,decide_eq_false_iff_not]at q;omega
   rcases c5 with q|q
   · have:=hz q;(repeat' split)<;>first|rfl|omega
   · (repeat' split)<;>first|rfl|(rw[q,Bool.false_and])|(rw[q])
 rw[hr];exact lea_refl _
 refine Sk (Jn (hK2 (Kp [1] (Sq fun K7 hK7=>?_))))
 refine Rr (Fn1 [1] [(14,.i c.kind)] (((1:Nat)≠0)/\(0+1<=5/\0<5)/\·) ⟨dc,dc,Bl (Sq fun K9 hK9=>?_)⟩)
 refine Rr (Cn1 (decide ((c.kind:Int)=(1:Int))) [1,14] [(15,.bool (decide ((c.kind:Int)=(1:Int))))] (Ki/\·) ⟨rfl,fun hc11 c11=>?_,fun hc11 c11=>?_⟩)
 refine Sk (Jn (hK9 (Kp [1,14,15] (C1 (t:=decide ((c.kind:Int)=(1:Int))) hc11 (Rr (Bc1 3 [(19,.i c.at_),(18,.ptr 0 3)] 61 [.i c.at_] 20 (((1:Nat)≠0)/\(3+1<=5/\3<5)/\·) ⟨dc,dc,PE.use (modeOk_ok c.at_) ?_⟩))))))
 refine Ke (Fn0 [] [(2,.bool (inb c.at_ 0 7))] (Rt (.bool (inb c.at_ 0 7)) ?_))
 · refine fin_lea ?_
   have hr:callOk c=(inb c.at_ 0 7):=by
     obtain⟨q1,q2⟩:inb c.kind 1 6=true/\pthOk c.path 1=true:=by simpa using hc5
     have q3:1<=c.kind/\c.kind<=6:=by simpa[inb]using q1
     unfold callOk
     (repeat' split)<;>first|omega|(simp only[q2,Bool.true_and];done)|(rw[q2])
   rw[hr];exact lea_refl _
 refine Rb (fun h=>Jn (hK9 h)) (Fn1 [1,14] [(15,.bool (decide ((c.kind:Int)=(6:Int))))] (Ki/\·) ⟨rfl,Cc (decide ((c.kind:Int)=(6:Int))) (fun hc13 c13=>?_) fun hc13 c13=>?_⟩)
 refine Rr (Bc1 3 [(19,.i c.at_),(18,.ptr 0 3)] 61 [.i c.at_] 20 (((1:Nat)≠0)/\(3+1<=5/\3<5)/\·) ⟨dc,dc,PE.use (modeOk_ok c.at_) (Ke (Fn0 [] [(2,.bool (inb c.at_ 0 7))] ?_))⟩)
 refine Rt (.bool (inb c.at_ 0 7)) ?_
 · refine fin_lea ?_
   have hr:callOk c=(inb c.at_ 0 7):=by
     obtain⟨q1,q2⟩:inb c.kind 1 6=true/\pthOk c.path 1=true:=by simpa using hc5
     have q3:1<=c.kind/\c.kind<=6:=by simpa[inb]using q1
     unfold callOk
     (repeat' split)<;>first|omega|(simp only[q2,Bool.true_and];done)|(rw[q2])
   rw[hr];exact lea_refl _
 refine Sq fun K15 hK15=>?_
 refine Rr (Cn1 (decide ((c.kind:Int)=(2:Int))) [1,14] [(21,.bool (decide ((c.kind:Int)=(2:Int))))] (Ki/\·) ⟨rfl,fun hc17 c17=>?_,fun hc17 c17=>?_⟩)
 refine Sk (Jn (hK15 (Kp [1,14,21] (C1 (t:=decide ((c.kind:Int)=(2:Int))) hc17 (Rr (Bc1 3 [(25,.i c.at_),(24,.ptr 0 3)] 52 [.i c.at_,.i 0,.i 24] 26 (((1:Nat)≠0)/\(3+1<=5/\3<5)/\·) ⟨dc,dc,PE.use (within_ok c.at_ 0 24) ?_⟩))))))
 refine Ke (Fn0 [] [(2,.bool (inb c.at_ 0 24))] (Rt (.bool (inb c.at_ 0 24)) ?_))
 · refine fin_lea ?_
   have hr:callOk c=(inb c.at_ 0 24):=by
     obtain⟨q1,q2⟩:inb c.kind 1 6=true/\pthOk c.path 1=true:=by simpa using hc5
     have q3:1<=c.kind/\c.kind<=6:=by simpa[inb]using q1
     unfold callOk
     (repeat' split)<;>first|omega|(simp only[q2,Bool.true_and];done)|(rw[q2])
   rw[hr];exact lea_refl _
 refine Rb (fun h=>Jn (hK15 h)) (Fn1 [1,14] [(21,.bool (decide ((c.kind:Int)=(3:Int))))] (Ki/\·) ⟨rfl,Cc (decide ((c.kind:Int)=(3:Int))) (fun hc19 c19=>?_) fun hc19 c19=>?_⟩)
 refine Rr (Bc1 3 [(25,.i c.at_),(24,.ptr 0 3)] 52 [.i c.at_,.i 0,.i 24] 26 (((1:Nat)≠0)/\(3+1<=5/\3<5)/\·) ⟨dc,dc,PE.use (within_ok c.at_ 0 24) (Ke (Fn0 [] [(2,.bool (inb c.at_ 0 24))] ?_))⟩)
 refine Rt (.bool (inb c.at_ 0 24)) ?_
 · refine fin_lea ?_
   have hr:callOk c=(inb c.at_ 0 24):=by
     obtain⟨q1,q2⟩:inb c.kind 1 6=true/\pthOk c.path 1=true:=by simpa using hc5
     have q3:1<=c.kind/\c.kind<=6:=by simpa[inb]using q1
     unfold callOk
     (repeat' split)<;>first|omega|(simp only[q2,Bool.true_and];done)|(rw[q2])
   rw[hr];exact lea_refl _
 refine Rr (Cn1 (decide ((c.kind:Int)=(5:Int))) [1] [] (Ki/\·) ⟨rfl,fun hc22 c22=>?_,fun hc22 c22=>?_⟩)
 refine Rr (Bc1 3 [(30,pth c.to),(29,.ptr 0 2)] 72 [pth c.to,.i 1] 31 (((1:Nat)≠0)/\(2+1<=5/\2<5)/\·) ⟨dc,dc,PE.use (namesOk_ok c.to 1 om (fun s hs=>Nat.lt_trans (wS_mem hs) om)) (Ke (Fn0 [] [(2,.bool (pthOk c.to 1))] ?_))⟩)
 refine Rt (.bool (pthOk c.to 1)) ?_
 · refine fin_lea ?_
   have hr:callOk c=(pthOk c.to 1):=by
     obtain⟨q1,q2⟩:inb c.kind 1 6=true/\pthOk c.path 1=true:=by simpa using hc5
     have q3:1<=c.kind/\c.kind<=6:=by simpa[inb]using q1
     unfold callOk
     (repeat' split)<;>first|omega|(simp only[q2,Bool.true_and];done)|(rw[q2])
   rw[hr];exact lea_refl _
 refine Sk (Bn (Jn (hK7 (Kp [] (Rr (Fn0 [] [(2,.bool true)] (Rt (.bool true) ?_)))))))
 · refine fin_lea ?_
   have hr:callOk c=(true):=by
     obtain⟨q1,q2⟩:inb c.kind 1 6=true/\pthOk c.path 1=true:=by simpa using hc5
     have q3:1<=c.kind/\c.kind<=6:=by simpa[inb]using q1
     unfold callOk
     (repeat' split)<;>first|omega|(simp only[q2,Bool.true_and];done)|(rw[q2])
   rw[hr];exact lea_refl _
open Go Go.Proofs
set_option maxRecDepth 100000
theorem tat_app:∀(q p:List Str) (T:Tr),tat T q=none->tat T (q++p)=none
  |[],p,T,h=>by simp[tat]at h
  |m::q,p,T,h=>by
    rw[List.cons_append,tat_cons]
    rw[tat_cons]at h
    cases hf:fnd m T.names with
    |none=>rfl
    |some k=>rw[hf]at h;exact tat_app q p _ h
def tAt (t:Tr) (p:List Str):Tr×Bool:=bif treeOk t then(xat t p,(tat t p).isSome)else(.none,false)
theorem clonep_ok:∀(N:Nat) (t:Tr),t.W=N->t.W<2^40->PE G 50 [.agg (tcs t)] (.agg (tcs t)):=by
 intro N;refine Nat.strongRecOn N fun N ih=>?_;intro t hN hw;rw[W_eq]at hN hw;have hks:=Ws_len t.kids;have hns:=wS_len t.names
 refine Pe Tryz.func50 ?_
 refine Rr (Fn2 [] [(2,.ptr 4 0),(1,.ptr 0 0)] ([(4,zt),(0,tcs t)]++·) 8 (Rr (Fn3 [1,2] [(3,.osl 8 5 0 0)] ([(8,[])]++·) 12 ((0*5<=16777216)/\·) ⟨dc,Sq fun K3 hK3=>?_⟩)))
 refine Rr (Av1 3 9 [(8,.sl 5 (t.kids.map trc)),(7,.ptr 0 4)] (lnm t.kids trc) (((1:Nat)≠0)/\(4+1<=5/\4<5)/\·) ⟨dc,dc,Fn0 [1,2,3,8,9] [(10,.i 0)] (Bl (h_l (fun(k:Nat)=>([(1,.ptr 0 0),(2,.ptr 4 0),(3,.osl 8 5 0 ((t.kids.take k).length)),(8,.sl 5 (t.kids.map trc)),(9,.i t.kids.length),(10,.i k)]:Fr)) (fun(k:Nat)=>([(8,fl trc (t.kids.take k)),(4,zt),(0,tcs t)]:Hp)) (fun(k:Nat) cn=>(k<=t.kids.length)/\cn=12) (fun(k:Nat)=>t.kids.length-k) 0 kr ?_ ?_ ?_ ?_))⟩)
 refine⟨?_,rfl⟩;omega
 exact⟨kr,kr,kr,kr,kr,kr,trivial⟩
 exact(sub_c kr (sub_c kr (sub_c kr (List.nil_sublist _))))
 rintro k n1 hI
 (try dsimp only at hI)
 obtain⟨hk,rfl⟩:=hI
 have hkl:(t.kids.take k).length=k:=tkl hk
 refine Rr (Fn1 [1,2,3,8,9,10] [(11,.bool (decide ((k:Int)<(t.kids.length:Int))))] (Ki/\·) ⟨rfl,Sq fun K6 hK6=>?_⟩)
 refine Cc (decide ((k:Int)<(t.kids.length:Int))) (fun hc7 c7=>?_) fun hc7 c7=>?_
 refine Sk (Jn (hK6 (Kp [1,2,3,8,9,10] (Sq fun K8 hK8=>?_))))
 refine Bl (Rr (Av1 1 12 [] (congrArg AV.pat (mg_trc t.kids k om)) ((5=5/\(0:Int)<=(k:Int)/\(k:Int)<((t.kids.map trc).length:Int))/\·) ⟨⟨rfl,om,lmo⟩,Fn3 [1,2,3,8,9,10] [(5,.ptr 12 0)] ([(12,tcs (t.kids.getD k default))]++·) 16 ((5<=5/\0<5)/\(true=true/\5=5/\0+5<=5)/\·) ⟨dc,dc,Rb (fun h=>Bn (Jn (hK8 h))) ?_⟩⟩))
 have hW:=Ws_get t.kids k om
 refine Pc1 3 [(15,.agg (tcs (t.kids.getD k default))),(14,.osl 8 5 0 ((t.kids.take k).length))] 16 (0+5<=5/\0<5) dc (ih _ om (t.kids.getD k default) rfl om) (An3 2 [(18,.osl 20 5 0 ((t.kids.take k).length+1)),(17,.osl 16 5 0 1)] ([(20,apd (fl trc (t.kids.take k)) ((t.kids.take k).length*5) (tcs (t.kids.getD k default))),(16,tcs (t.kids.getD k default))]++Hw [] [8] ·) 24 ((1*5<=16777216)/\(0+1*5<=5)/\(5=5/\(t.kids.take k).length*5<=(fl trc (t.kids.take k)).length/\0<80/\((t.kids.take k).length+1)*80<=140737488355328)/\·) ⟨dc,dc,⟨rfl,gl,dc,gl⟩,run_v (v':=.osl 20 5 0 ((t.kids.take k++[(t.kids.getD k default)]).length)) (push_len _ _ _ _) (run_h (cs':=fl trc (t.kids.take k++[(t.kids.getD k default)])) (push_trc (t.kids.take k) (t.kids.getD k default)) (Fn0 [1,2,8,9,10] [(3,.osl 20 5 0 ((t.kids.take k++[(t.kids.getD k default)]).length))] ?_))⟩)
 refine Rn (Av1 1 19 [] (cI (wn1 k om)) (Ki/\·) ⟨rfl,Gn0 [(10,.i ((k+1:Nat):Int))] (nk_n (Lr (k+1) [(0,0),(4,4),(20,8)] 12 [(1,.ptr 0 0),(2,.ptr 4 0),(3,.osl 20 5 0 ((t.kids.take k++[(t.kids.getD k default)]).length)),(8,.sl 5 (t.kids.map trc)),(9,.i t.kids.length),(10,.i ((k+1:Nat):Int))] [(20,fl trc (t.kids.take k++[(t.kids.getD k default)])),(4,zt),(0,tcs t)] [false,true,true] ?_ ?_ (by(try rw[<-take_snoc t.kids k default om]);try kernel_rfl) (by(try rw[<-take_snoc t.kids k default om]);try kernel_rfl)))⟩)
 (try dsimp only);omega
 refine⟨?_,rfl⟩;(try dsimp only);omega
 refine Xt (Jx (Lx (Bh (Jn (hK3 (Kp [1,2,3] (Rr (An3 4 [(23,.osl 16 1 0 (0+(t.names.map (fun s=>[AV.str s])).length)),(22,pth t.names),(21,.ptr 0 3),(20,.osl 12 1 0 0)] ([(16,apd [] (0*1) ((t.names.map (fun s=>[AV.str s])).flatten))]++·) 20 ((0*1<=16777216)/\((1:Nat)≠0)/\(3+1<=5/\3<5)/\True/\(1=1/\0*1<=0/\0<16/\(0+(t.names.map (fun s=>[AV.str s])).length)*16<=140737488355328)/\·) ⟨dc,dc,dc,trivial,⟨rfl,gl,dc,gl⟩,run_v (v':=.osl 16 1 0 t.names.length) (by rw[Nat.zero_add,List.length_map]) (run_h (cs':=fl sc t.names) (app0_str _) ?_)⟩))))))))
 refine Fn3 [1,2,3] [] (Hw [(0,(tr5 t (.osl 16 1 0 t.names.length) (.sl 5 (t.kids.map trc))))] [] ·) 20 (((1:Nat)≠0)/\(true=true/\1=1/\3+1<=5)/\·) ⟨dc,dc,Rr (Fn3 [1,2] [] (Hw [(0,(tr5 t (.osl 16 1 0 t.names.length) (.osl 8 5 0 ((t.kids.take k).length))))] [] ·) 20 (((1:Nat)≠0)/\(true=true/\1=1/\4+1<=5)/\·) ⟨dc,dc,Rr (Fn3 [2] [] (Hw [(4,(tr5 t (.osl 16 1 0 t.names.length) (.osl 8 5 0 ((t.kids.take k).length))))] [] ·) 20 ((0+5<=5/\0<5)/\(true=true/\5=5/\0+5<=5)/\·) ⟨dc,dc,?_⟩)⟩)⟩
 refine FzS 16 t.names [(2,.ptr 4 0)] [(8,fl trc (t.kids.take k)),(4,(tr5 t (.osl 16 1 0 t.names.length) (.osl 8 5 0 ((t.kids.take k).length))))] [false,true] (FzT 8 (t.kids.take k) [(2,.ptr 4 0)] [(4,(tr5 t (pth t.names) (.osl 8 5 0 ((t.kids.take k).length))))] [true] (Rt1 ((0+5<=5/\0<5)/\·) (.agg (tr5 t (pth t.names) (.sl 5 ((t.kids.take k).map trc)))) ⟨dc,fin_lea ?_⟩))
 rw[List.take_of_length_le om];exact lea_refl _
theorem wtTexts_ok (p q:List Str) (hp:p.length<2^40) (hq:q.length<2^40):PE G 20 [pth p,pth q] (.bool (p==q)):=by
 refine Pe Tryz.func20 ?_
 refine Rr (Fn0 [0,1] [] (Sq fun K2 hK2=>?_))
 refine Rr (Av0 2 7 [(6,pth p)] (lnm p sc) (Av0 2 9 [(8,pth q)] (lnm q sc) (Cn1 (!decide ((p.length:Int)=(q.length:Int))) [0,1] [] (Ki/\·) ⟨rfl,fun hc4 c4=>?_,fun hc4 c4=>?_⟩)))
 refine Rr (Fn0 [] [(4,.bool false)] (Rt (.bool false) (fin_lea ?_)))
 have hr:(p==q)=false:=by
   rw[beq_eq_false_iff_ne];intro e;subst e
   omega
 rw[hr];exact lea_refl _
 refine Sk (Jn (hK2 (Kp [0,1] (Sq fun K6 hK6=>?_))))
 refine Rr (Fn0 [0,1] [(5,.i 0)] (Bl (h_l (fun(k:Nat)=>([(0,pth p),(1,pth q),(5,.i k)]:Fr)) (fun(k:Nat)=>([]:Hp)) (fun(k:Nat) cn=>(k<=p.length/\p.take k=q.take k)/\cn=0) (fun(k:Nat)=>p.length-k) 0 kr ?_ ?_ ?_ ?_)))
 refine⟨?_,rfl⟩;exact⟨Nat.zero_le _,rfl⟩
 exact⟨kr,kr,kr,trivial⟩
 exact(List.nil_sublist _)
 rintro k n1 hI
 (try dsimp only at hI)
 obtain⟨⟨hk,hpre⟩,rfl⟩:=hI
 refine Sq fun K8 hK8=>?_
 refine Rr (Av0 3 13 [(12,pth p),(11,.i k)] (lnm p sc) (Cn1 (decide ((k:Int)<(p.length:Int))) [0,1,5] [] (Ki/\·) ⟨rfl,fun hc10 c10=>?_,fun hc10 c10=>?_⟩))
 refine Sk (Jn (hK8 (Kp [0,1,5] (Sq fun K11 hK11=>?_))))
 refine Bl (Qr [0,0,3,7,0,0,48,112,255] [(0,[]),(1,[]),(2,[]),(3,[]),(4,[]),(5,[]),(6,[]),(7,[]),(8,[])] (qAv1 3 19 [(18,.i k),(17,pth p)] (congrArg AV.pat (mg_str p k om)) ((1=1/\(0:Int)<=(k:Int)/\(k:Int)<((p.map (fun s=>[AV.str s])).length:Int))/\·) ⟨⟨rfl,om,lmo⟩,qAv1 4 23 [(22,.i k),(21,pth q),(20,.str (p.getD k default))] (congrArg AV.pat (mg_str q k om)) ((1<=1/\0<1)/\(1=1/\(0:Int)<=(k:Int)/\(k:Int)<((q.map (fun s=>[AV.str s])).length:Int))/\·) ⟨dc,⟨rfl,om,lmo⟩,qCn1 (!((p.getD k default)==(q.getD k default))) [0,1,5] [] ((1<=1/\0<1)/\·) ⟨dc,fun hc13 c13=>?_,fun hc13 c13=>?_⟩⟩⟩))
 refine Rr (Fn0 [] [(4,.bool false)] (Rt (.bool false) (fin_lea ?_)))
 have hr:(p==q)=false:=by
   rw[beq_eq_false_iff_ne];intro e;subst e
   simp at hc13
 rw[hr];exact lea_refl _
 refine Sk (Bn (Jn (hK11 (Kp [0,1,5] (Rn (Av1 2 16 [(15,.i k)] (cI (wn1 k om)) (Ki/\·) ⟨rfl,Gn0 [(5,.i ((k+1:Nat):Int))] (nk_n ?_)⟩))))))
 refine Lr (k+1) [] 0 [(0,pth p),(1,pth q),(5,.i ((k+1:Nat):Int))] [] [] ?_ ?_ kr kr
 (try dsimp only);omega
 refine⟨?_,rfl⟩;(try dsimp only);refine⟨om,?_⟩;rw[take_snoc q k default om,take_snoc p k default om,hpre];congr 2;simpa using hc13
 refine Xt (Jx (Lx (Bh (Jn (hK6 (Kp [] (Rr (Fn0 [] [(4,.bool true)] (Rt (.bool true) (fin_lea ?_))))))))))
 have hr:(p==q)=true:=by
   rw[List.take_of_length_le om,List.take_of_length_le om]at hpre
   rw[hpre,beq_self_eq_true]
 rw[hr];exact lea_refl _
set_option maxRecDepth 100000
def iRename (t:Tr) (c:Cl):Tr×Int:=match tat t c.path with
 |none=>(t,3)
 |some x=>bif c.path.isPrefixOf c.to then(t,7)else bif !decide (parC t c.to=(0:Int))then(t,parC t c.to)else
  match tat t c.to with
  |some _=>(t,5)
  |none=>(tset c.path (tset c.to t x false) .none true,0)
def iDo (t:Tr) (c:Cl):Tr×Int:=
 bif !decide (parC t c.path=(0:Int))then(t,parC t c.path)else
 bif decide (c.kind=(1:Int))then(match tat t c.path with|some _=>(t,5)|none=>(tset c.path t (newDir c.at_) false,0))else
 bif decide (c.kind = (2 : Int)) then (match tat t c.path with
  |some x=>bif x.dir then(t,4)else bif decide ((24:Int)<c.at_+((c.data.length:Nat):Int))then(t,6)else(tset c.path t (wData x (wrt x.data c.at_ c.data)) false,0)
  |none=>bif decide ((24:Int)<c.at_+((c.data.length:Nat):Int))then(t,6)else(tset c.path t (wData .none (wrt [] c.at_ c.data)) false,0))else
 bif decide (c.kind = (3 : Int)) then (match tat t c.path with
  |none=>(t,3)
  |some x=>bif x.dir then(t,4)else(tset c.path t (wData x (szd x.data c.at_)) false,0))else
 bif decide (c.kind = (4 : Int)) then (match tat t c.path with
  |none=>(t,3)
  |some x=>bif x.dir&&decide ((0:Int)<((x.names.length:Nat):Int))then(t,5)else(tset c.path t .none true,0))else
 bif decide (c.kind=(5:Int))then iRename t c else
 bif decide (c.kind = (6 : Int)) then (match tat t c.path with
  |none=>(t,3)
  |some x=>(tset c.path t (wMode x c.at_) false,0))else(t,0)
theorem last_snoc {p:List Str} (h:0<p.length):p.take (p.length-1)++[p.getD (((p.length:Nat):Int)-1).toNat default]=p:=by
 rw[show(((p.length:Nat):Int)-1).toNat=p.length-1 by omega,<-take_snoc p (p.length-1) default (by omega),show p.length-1+1=p.length by omega,List.take_length]
theorem oat_kid_none {T u:OT} {q:List Str} {nm:Str} (hu:oat T q=some u) (h:oat T (q++[nm])=none):fnd nm u.names=none:=by
 rw[oat_snoc,hu]at h
 simp only[oat]at h
 cases hf:fnd nm u.names with
 |none=>rfl
 |some k=>rw[hf]at h;cases h
theorem oat_kid_some {T u y:OT} {q:List Str} {nm:Str} (hu:oat T q=some u) (h:oat T (q++[nm])=some y):∃k,fnd nm u.names=some k/\u.kids.getD k default=y:=by
 rw[oat_snoc,hu]at h
 simp only[oat]at h
 cases hf:fnd nm u.names with
 |none=>rw[hf]at h;cases h
 |some k=>rw[hf]at h;exact⟨k,rfl,by simpa using h⟩
theorem fnd_ins {nm n:Str} (hne:n≠nm) (l:List Str) (j k:Nat) (h:fnd n l=some k):fnd n (l.take j++[nm]++l.drop j)=some (if k<j then k else k+1):=by
 have h1:fnd n (l.take j++l.drop j)=some k:=by rw[List.take_append_drop];exact h
 rw[fnd_app]at h1
 rw[List.append_assoc,fnd_app]
 have h2:fnd n ([nm]++l.drop j)=(fnd n (l.drop j)).map (·+1):=by
  show fnd n (nm::l.drop j)=_
  rw[fnd,show(nm==n)=false by simpa using Ne.symm hne];rfl
 rw[h2]
 cases hf:fnd n (l.take j)with
 |some i=>
  rw[hf]at h1
  simp only[Option.some.injEq]at h1
  subst h1
  have:=fnd_lt hf
  rw[List.length_take]at this
  simp only[show i<j by omega,if_true]
 |none=>
  rw[hf]at h1
  dsimp only at h1⊢
  cases hd:fnd n (l.drop j)with
  |none=>rw[hd]at h1;cases h1
  |some i=>
   rw[hd]at h1
   simp only[Option.map_some,Option.some.injEq,List.length_take]at h1⊢
   have:=fnd_lt hd
   rw[List.length_drop]at this
   split<;>omega
theorem getD_ins {α:Type} (l:List α) (x d:α) (j k:Nat) (hj:j<=l.length) (hk:k<l.length):(l.take j++[x]++l.drop j).getD (if k<j then k else k+1) d=l.getD k d:=by
 simp only[List.getD_eq_getElem?_getD]
 congr 1
 split
 ·rename_i h
  rw[List.append_assoc,List.getElem?_append_left (by simp;omega),List.getElem?_take,if_pos h]
 ·rename_i h
  rw[List.getElem?_append_right (by simp;omega),List.getElem?_drop]
  congr 1
  simp;omega
theorem put_keeps {x:Tr}:∀(to:List Str) (t q:Tr) (p:List Str) (v:Tr),t.wf=true->tnd t->asc q.names=true->to≠[]->tat t (to.take (to.length-1))=some q->tat t to=none->tat t p=some v->∃v',tat (tset to t x false) p=some v'/\v'.dir=v.dir
 |[],_,_,_,_,_,_,_,h,_,_,_=>absurd rfl h
 |[nm],t,q,p,v,hw,hn,ha,_,hq,hz,hp=>by
  simp only[List.length_cons,List.length_nil,Nat.zero_add,Nat.sub_self,List.take_zero,tat,Option.some.injEq]at hq
  subst hq
  rw[tat_cons]at hz
  have hf:fnd nm t.names=none:=by
   cases hf:fnd nm t.names with
   |none=>rfl
   |some k=>rw[hf]at hz;simp[tat]at hz
  have hwl:=wf_len hw
  obtain⟨j,h1,h2,h3⟩:∃j,j<=t.names.length/\(∀l,l<j->blt (t.names.getD l default) nm=true)/\(∀l,j<=l->l<t.names.length->blt (t.names.getD l default) nm=false):=by
   have key:∀m,m<=t.names.length->(∀l,l<m->blt (t.names.getD l default) nm=true)\/∃j,j<m/\(∀l,l<j->blt (t.names.getD l default) nm=true)/\blt (t.names.getD j default) nm=false:=by
    intro m
    induction m with
    |zero=>intro _;exact .inl fun l hl=>by omega
    |succ m ih=>
     intro hm
     rcases ih (by omega)with h|⟨j,h1,h2,h3⟩
     ·cases hb:blt (t.names.getD m default) nm with
      |true=>
       refine .inl fun l hl=>?_
       rcases Nat.lt_or_ge l m with h'|h'
       ·exact h l h'
       ·obtain rfl:l=m:=by omega
        exact hb
      |false=>exact .inr ⟨m,by omega,h,hb⟩
     ·exact .inr ⟨j,by omega,h2,h3⟩
   rcases key _ (Nat.le_refl _)with h|⟨j,h1,h2,h3⟩
   ·exact⟨_,Nat.le_refl _,h,fun l h1 h2=>by omega⟩
   ·exact⟨j,by omega,h2,bs_dn ha h3⟩
  have h4:j<t.names.length->t.names.getD j default≠nm:=fun hj he=>fnd_none hf (by rw[<-he];simp[List.getD,hj])
  rw[tset_new hwl ha h1 h2 h3 h4]
  cases p with
  |nil=>exact⟨_,rfl,by simp only[tat,Option.some.injEq]at hp;subst hp;rfl⟩
  |cons n p=>
   rw[tat_cons]at hp⊢
   cases hk:fnd n t.names with
   |none=>rw[hk]at hp;cases hp
   |some k=>
    rw[hk]at hp
    have hne:n≠nm:=fun e=>by rw[e,hf]at hk;cases hk
    have hkl:=fnd_lt hk
    rw[Tr.names_mk,Tr.kids_mk,fnd_ins hne _ _ _ hk]
    dsimp only
    rw[getD_ins _ _ _ _ _ (by omega) (by omega)]
    exact⟨v,hp,rfl⟩
 |m::n::to,t,q,p,v,hw,hn,ha,_,hq,hz,hp=>by
  have hwl:=wf_len hw
  rw[tset_deep hwl ((tnd_eq t).1 hn).1 (by simp)]
  rw[show(m::n::to).length-1=(n::to).length-1+1 by simp,List.take_succ_cons,tat_cons]at hq
  rw[tat_cons]at hz
  cases hf:fnd m t.names with
  |none=>rw[hf]at hq;cases hq
  |some k=>
   rw[hf]at hq hz
   have hk:k<t.kids.length:=by rw[<-hwl];exact fnd_lt hf
   dsimp only
   cases p with
   |nil=>exact⟨_,rfl,by simp only[tat,Option.some.injEq]at hp;subst hp;rfl⟩
   |cons n' p=>
    rw[tat_cons]at hp⊢
    rw[Tr.names_mk,Tr.kids_mk]
    cases hk':fnd n' t.names with
    |none=>rw[hk']at hp;cases hp
    |some k'=>
     rw[hk']at hp
     dsimp only at hp⊢
     rcases Nat.decEq k k' with hne|heq
     ·refine⟨v,?_,rfl⟩
      rw[<-hp]
      congr 1
      simp only[List.getD_eq_getElem?_getD,List.getElem?_set_ne hne]
     ·subst heq
      obtain⟨v',e1,e2⟩:=put_keeps (x:=x) (n::to) (t.kids.getD k default) q p v (wf_kid hw hk _) (tnds_get ((tnd_eq t).1 hn).2 hk) ha (by simp) hq hz hp
      refine⟨v',?_,e2⟩
      rw[<-e1]
      congr 1
      simp[List.getD_eq_getElem?_getD,hk]
theorem nodup_ins {nm:Str} {l:List Str} (j:Nat) (h:nm∉l) (hn:l.Nodup):(l.take j++[nm]++l.drop j).Nodup:=by
 have:(l.take j++[nm]++l.drop j).Perm (nm::l):=by
  have h1:(l.take j++nm::l.drop j).Perm (nm::(l.take j++l.drop j)):=List.perm_middle
  rw[List.take_append_drop]at h1
  rw[List.append_assoc]
  exact h1
 exact(List.Perm.nodup_iff this).2 (List.nodup_cons.2 ⟨h,hn⟩)
theorem tnds_take {ks:List Tr} (h:tnds ks) (j:Nat):tnds (ks.take j)/\tnds (ks.drop j):=by
 rw[<-List.take_append_drop j ks]at h
 exact tnds_app.1 h
theorem tnd_ins {u':OT} {u x:OT} {nm:Str} {j k k':Nat} (hu:u'=.mk u.dir u.mode u.data (some (k,k')) (u.names.take j++[nm]++u.names.drop j) (u.kids.take j++[x]++u.kids.drop j)) (hf:fnd nm u.names=none) (h:tnd (er u)) (hx:tnd (er x)):tnd (er u'):=by
 rw[tnd_eq,er_names,er_kids]at h
 rw[hu,er_mk,tnd_eq]
 refine⟨nodup_ins j (fnd_none hf) h.1,?_⟩
 rw[Tr.kids_mk]
 simp only[List.map_append,List.map_take,List.map_drop,List.map_cons,List.map_nil]
 exact tnds_app.2 ⟨tnds_app.2 ⟨(tnds_take h.2 j).1,hx,trivial⟩,(tnds_take h.2 j).2⟩
theorem shps_take {ks:List OT} (h:shps ks) (j:Nat):shps (ks.take j)/\shps (ks.drop j):=by
 rw[<-List.take_append_drop j ks]at h
 exact shps_app.1 h
theorem asms_take {ks:List OT} (h:asms ks) (j:Nat):asms (ks.take j)/\asms (ks.drop j):=by
 rw[<-List.take_append_drop j ks]at h
 exact asms_app.1 h
theorem shp_ins {u':OT} {u x:OT} {nm:Str} {j k k':Nat} (hu:u'=.mk u.dir u.mode u.data (some (k,k')) (u.names.take j++[nm]++u.names.drop j) (u.kids.take j++[x]++u.kids.drop j)) (h:shp u) (hx:shp x):shp u':=by
 have h2:=((shp_eq u).1 h).2
 rw[hu,shp_eq]
 exact⟨fun h=>by simp at h,shps_app.2 ⟨shps_app.2 ⟨(shps_take h2 j).1,hx,trivial⟩,(shps_take h2 j).2⟩⟩
theorem asm_ins {u':OT} {u x:OT} {nm:Str} {j k k':Nat} (hu:u'=.mk u.dir u.mode u.data (some (k,k')) (u.names.take j++[nm]++u.names.drop j) (u.kids.take j++[x]++u.kids.drop j)) (h:asm u) (hx:asm x):asm u':=by
 have h2:=((asm_eq u).1 h).2
 rw[hu,asm_eq]
 exact⟨rfl,asms_app.2 ⟨asms_app.2 ⟨(asms_take h2 j).1,hx,trivial⟩,(asms_take h2 j).2⟩⟩
theorem Lies'.lies {Z W:Hp} {r:Nat} {A0 B0:List AV} {T:OT} (h:Lies' Z r A0 B0 T W) (h1:r%2=1) (h2:owf T) (h3:shp T) (h4:(er T).W<=2^36):Lies Z r A0 B0 T W:=⟨h.2,h1,h.1,h2,h3,osm_W T h4⟩
theorem Lies.add {Z W Y:Hp} {r:Nat} {A0 B0:List AV} {T:OT} (h:Lies Z r A0 B0 T W) (hy:odH Y):Lies (Z++Y) r A0 B0 T (W++Y):=
 ⟨odH_app.2 ⟨h.odd,hy⟩,h.r1,by
  have:=h.perm.append_right Y
  rwa[List.cons_append,List.append_assoc (objs T)]at this,h.wf,h.shp,h.sm⟩
def DoR (f:Tr->Cl->Tr×Int) (T:OT) (c:Cl) (r:Nat) (A0 B0:List AV) (r':AV) (Z':Hp):Prop:=
 ∃(T':OT) (W':Hp),r'=.int .i64 (f (er T) c).2/\Lies' Z' r A0 B0 T' W'/\er T'=(f (er T) c).1/\shp T'
theorem parC_er {T:OT} {p:List Str}:parC (er T) p=match oat T (p.take (p.length-1))with|none=>3|some u=>if u.dir then 0 else 4:=by
 unfold parC
 rw[tat_er]
 cases oat T (p.take (p.length-1))with
 |none=>rfl
 |some u=>simp only[Option.map_some,er_dir]
theorem asc_oat {T u:OT} {p:List Str} (h:treeOk (er T)=true) (hu:oat T p=some u):asc u.names=true:=by
 have:=asc_tat h (p:=p) (x:=er u) (by rw[tat_er,hu];rfl)
 rwa[er_names]at this
theorem tnd_tat:∀{p:List Str} {t x:Tr},t.wf=true->tnd t->tat t p=some x->tnd x
 |[],t,x,_,h,he=>by simp only[tat,Option.some.injEq]at he;exact he▸h
 |n::p,t,x,hw,h,he=>by
  rw[tat_cons]at he
  cases hf:fnd n t.names with
  |none=>rw[hf]at he;cases he
  |some k=>
   rw[hf]at he
   have hk:k<t.kids.length:=by rw[<-wf_len hw];exact fnd_lt hf
   exact tnd_tat (wf_kid hw hk _) (tnds_get ((tnd_eq t).1 h).2 hk) he
theorem hit_er {T u x:OT} {q:List Str} {nm:Str} {k:Nat} (hw:owf T) (hto:treeOk (er T)=true) (hu:oat T q=some u) (hk:fnd nm u.names=some k):er (orep T (q++[nm]) x)=tset (q++[nm]) (er T) (er x) false:=by
 rw[orep_snoc q T u x nm k hu hk]
 refine orep_tset q T u _ hw (tnd_ok hto) hu ?_
 have hwu:=oat_wf hw hu
 rw[tset_hit (j:=k) (wf_len hwu) (by rw[er_names];exact asc_oat hto hu) (by rw[er_names];exact fnd_lt hk) (by rw[er_names];exact fnd_some hk)]
 rw[er_mk,List.map_set,er_names,er_kids,er_dir,er_mode,er_data]
theorem new_er {T u u' x:OT} {q:List Str} {nm:Str} (hw:owf T) (hto:treeOk (er T)=true) (hu:oat T q=some u) (h:er u'=tset [nm] (er u) (er x) false):er (orep T q u')=tset (q++[nm]) (er T) (er x) false:=
 orep_tset q T u u' hw (tnd_ok hto) hu h
theorem gone_er {T u:OT} {q:List Str} {nm:Str} {k:Nat} (hw:owf T) (hn:tnd (er T)) (hu:oat T q=some u) (hk:fnd nm u.names=some k):
  er (orep T q (.mk u.dir u.mode u.data u.ids (u.names.take k++u.names.drop (k+1)) (u.kids.take k++u.kids.drop (k+1))))=tset (q++[nm]) (er T) .none true:=by
 refine orep_tset q T u _ hw hn hu ?_
 have hwu:=oat_wf hw hu
 have hnu:tnd (er u):=tnd_tat hw hn (p:=q) (by rw[tat_er,hu];rfl)
 rw[tset_gone (j:=k) (wf_len hwu) ((tnd_eq _).1 hnu).1 (by rw[er_names];exact fnd_lt hk) (by rw[er_names];exact fnd_some hk)]
 rw[er_mk,er_names,er_kids,er_dir,er_mode,er_data]
 simp only[List.map_append,List.map_take,List.map_drop]
theorem drop_shp {u:OT} {k:Nat} (h:shp u):shp (.mk u.dir u.mode u.data u.ids (u.names.take k++u.names.drop (k+1)) (u.kids.take k++u.kids.drop (k+1))):=by
 have h1:=(shp_eq u).1 h
 refine(shp_eq _).2 ⟨fun hi=>?_,shps_app.2 ⟨(shps_take h1.2 k).1,(shps_take h1.2 (k+1)).2⟩⟩
 obtain⟨e1,e2⟩:=h1.1 hi
 simp only[OT.names_mk,OT.kids_mk,e1,e2];simp
theorem setL {Z W Wo:Hp} {r i:Nat} {A0 B0 A B:List AV} {T y y':OT} {p:List Str} (hnd:(ids Z).Nodup) (hz:odH Z) (hp:Z.Perm ((i,A++otc y++B)::(own y++(objss y.kids++Wo))))
  (hr:∀t',((r,A0++otc (orep T p t')++B0)::(objs (orep T p t')++W)).Perm ((i,A++otc t'++B)::(objs t'++Wo))) (ho:own y'=own y) (hk:y'.kids=y.kids):
  Lies' (hset Z i (A++otc y'++B)) r A0 B0 (orep T p y') W:=by
 refine⟨((hset_perm hnd hp).trans ?_).trans (hr y').symm,odH_hset hz (ods_mid hz hp) hnd⟩
 rw[objs_eq,ho,hk,List.append_assoc (own y)]
theorem ods_clc (c:Cl):ods [.agg (clc c)]:=by
 simp only[ods,od,clc,true_and,and_true]
 exact⟨purs_pth _,purs_pth _⟩
theorem objs_data {y:OT} {d:Str} {m:Int}:objs (.mk y.dir m d y.ids y.names y.kids)=objs y:=by
 rw[objs_eq,objs_eq y];rfl
theorem shp_data {y:OT} {d:Str} {m:Int} (h:shp y):shp (.mk y.dir m d y.ids y.names y.kids):=(shp_eq _).2 ((shp_eq y).1 h)
open Go Go.Proofs
set_option maxRecDepth 100000
theorem oat_parent {T y:OT} {q:List Str} {n:Str} (h:oat T (q++[n])=some y):∃u,oat T q=some u:=by
  rw[oat_snoc]at h
  cases hq:oat T q with
  |none=>rw[hq]at h;cases h
  |some u=>exact⟨u,rfl⟩
theorem oat_of_tat {T:OT} {p:List Str} {v:Tr} (h:tat (er T) p=some v):∃y,oat T p=some y:=by
  rw[tat_er]at h
  cases hq:oat T p with
  |none=>rw[hq]at h;cases h
  |some u=>exact⟨u,rfl⟩
theorem dir_of_kid {T u:OT} {q:List Str} {n:Str} {k:Nat} (hto:treeOk (er T)=true) (hu:oat T q=some u) (hk:fnd n u.names=some k):u.dir=true:=by
  simp only[treeOk,Bool.and_eq_true]at hto
  obtain⟨m,hm⟩:=parts_tat hto.2.1 (p:=q) (x:=er u) (by rw[tat_er,hu];rfl)
  rw[partsOk_eq]at hm
  simp only[Bool.and_eq_true]at hm
  have h1:=hm.1
  simp only[plainOk,Bool.and_eq_true,decide_eq_true_eq]at h1
  have h7:=h1.2.2
  rw[er_dir,er_names]at h7
  cases hd:u.dir with
  |true=>rfl
  |false=>
    rw[hd]at h7
    simp only[Bool.false_eq_true,if_false,Bool.and_eq_true]at h7
    have:=of_decide_eq_true h7.2
    have:=fnd_lt hk
    omega
set_option maxHeartbeats 2000000 in
theorem rename_ok {Z W:Hp} {r:Nat} {A0 B0:List AV} {T:OT} (c:Cl) (hL:Lies Z r A0 B0 T W) (ha:asm T) (hto:treeOk (er T)=true) (f1:0<c.path.length) (f2:wS c.path<2^10) (f5:0<c.to.length) (f6:wS c.to<2^10):DC G 78 [.ptr r A0.length,.agg (clc c)] Z (DoR iRename T c r A0 B0):=by
 refine DC_nd fun hnd=>?_
 have hl1:=wS_len c.path;have hWT:=W_ok hto;have hl2:=wS_len c.to
 refine h_dc (F:=[(0,.ptr r A0.length),(1,.agg (clc c))]) ⟨hL.r1,(ods_clc c).1,trivial⟩ hL.odd Tryz.func78 kr kr ?_ kr
 refine Rr (Fn2 [0] [(3,.ptr 0 0)] ([(0,clc c)]++·) 4 (Rr (Bc1 4 [(14,pth c.path),(13,.ptr 0 1),(12,.ptr r A0.length)] 53 [.ptr r A0.length,pth c.path] 15 (((1:Nat)≠0)/\(1+1<=5/\1<5)/\·) ⟨dc,dc,DC.use (at_ok c.path hL om) [(0,clc c)] rfl ⟨rfl,trivial⟩ ?_⟩)))
 rintro _ _ ⟨e1,rfl⟩
 rw[e1];clear e1
 have hioya3:=opos_oat (r:=r) (o:=A0.length) (p:=c.path) hL.wf hL.shp
 rcases hyya3:oat T c.path with _|ya3
 rw[hyya3]at hioya3
 have hXya3:tat (er T) c.path=none:=by rw[tat_er,hyya3];rfl
 rw[show opos T r A0.length c.path=none from Option.isNone_iff_eq_none.1 (by rw[<-Option.not_isSome,hioya3];rfl),show oad none=.nilp from rfl]
 refine Ke (Fn0 [0,3] [(5,.nilp)] (Sq fun K4 hK4=>?_))
 refine Bl (Rr (Fn1 [0,3,5] [(16,.bool true)] ((∃e,TK.ptr 26=TK.ptr e)/\·) ⟨⟨_,rfl⟩,Ct (Rr ?_)⟩))
 refine Fn0 [] [(4,.i 3)] (Rt (.i 3) ?_)
 have hT:er T=er T:=rfl
 have e:iRename (er T) c=(er T,3):=by
   rw[hT];unfold iRename
   (try simp only[cond_true,hXya3,wData,wMode,newDir,Tr.none,er_mk,er_dir,er_mode,er_data,er_names,er_kids,List.map_nil,decide_true,Bool.not_true,Bool.not_false,Bool.true_and,Bool.and_true,Bool.false_and,Bool.and_false,cond_true,cond_false,show decide ((0:Int)=0)=true from rfl,show decide ((3:Int)=0)=false from rfl,show decide ((4:Int)=0)=false from rfl])
   try rfl
 refine fin_dc (.i 3) Z (by first|exact List.Sublist.refl _|exact List.Sublist.cons _ (List.Sublist.refl _)|exact List.Sublist.cons _ (List.Sublist.cons _ (List.Sublist.refl _))) (lea_refl _) trivial hL.odd ⟨T,W,?_,⟨hL.perm,hL.odd⟩,?_,hL.shp⟩<;>rw[e]
 obtain⟨iya3,Aya3,Bya3,Wya3,hoya3,hiya3,hpya3,hnya3,hsya3,hrya3⟩:=hL.foc hyya3
 have hgya3:hgt Z iya3=some (Aya3++otc ya3++Bya3):=hgt_perm hnd hpya3 (by simp)
 have hXya3:tat (er T) c.path=some (er ya3):=by rw[tat_er,hyya3];rfl
 obtain⟨⟨aya3,bya3⟩,hidsya3⟩:=Option.isSome_iff_exists.1 ((asm_eq _).1 (oat_asm hL.wf ha hyya3)).1
 have hWya3:=W_tat _ _ _ hXya3
 have hDya3:=data_W (er ya3)
 rw[er_data]at hDya3
 rw[hoya3,show oad (some (iya3,Aya3.length))=.ptr iya3 Aya3.length from rfl]
 refine Ke (Fn0 [0,3] [(5,.ptr iya3 Aya3.length)] (Sq fun K7 hK7=>?_))
 refine Bl (Rr (Fn1 [0,3,5] [(16,.bool false)] ((∃e,TK.ptr 26=TK.ptr e)/\·) ⟨⟨_,rfl⟩,Cf (Rr ?_)⟩))
 refine Bc1 5 [(23,pth c.path),(22,.ptr 0 1),(21,pth c.to),(20,.ptr 0 2)] 91 [pth c.to,pth c.path] 24 (((1:Nat)≠0)/\(2+1<=5/\2<5)/\((1:Nat)≠0)/\(1+1<=5/\1<5)/\·) ⟨dc,dc,dc,dc,?_⟩
 refine PE.use (begins_ok c.to c.path om om) ?_
 refine Ke (Cn0 (c.path.isPrefixOf c.to) [0,3,5] [] ⟨fun hc10 c10=>?_,fun hc10 c10=>?_⟩)
 refine Rr (Fn0 [] [(4,.i 7)] (Rt (.i 7) ?_))
 have hT:er T=er T:=rfl
 have e:iRename (er T) c=(er T,7):=by
   rw[hT];unfold iRename
   (try simp only[cond_true,hXya3,hc10,wData,wMode,newDir,Tr.none,er_mk,er_dir,er_mode,er_data,er_names,er_kids,List.map_nil,decide_true,Bool.not_true,Bool.not_false,Bool.true_and,Bool.and_true,Bool.false_and,Bool.and_false,cond_true,cond_false,show decide ((0:Int)=0)=true from rfl,show decide ((3:Int)=0)=false from rfl,show decide ((4:Int)=0)=false from rfl])
   try rfl
 refine fin_dc (.i 7) Z (by first|exact List.Sublist.refl _|exact List.Sublist.cons _ (List.Sublist.refl _)|exact List.Sublist.cons _ (List.Sublist.cons _ (List.Sublist.refl _))) (lea_refl _) trivial hL.odd ⟨T,W,?_,⟨hL.perm,hL.odd⟩,?_,hL.shp⟩<;>rw[e]
 refine Sk (Bn (Jn (hK7 (Kp [0,3,5] (Rr (Bc1 4 [(28,pth c.to),(27,.ptr 0 2),(26,.ptr r A0.length)] 73 [.ptr r A0.length,pth c.to] 29 (((1:Nat)≠0)/\(2+1<=5/\2<5)/\·) ⟨dc,dc,DC.use (parent_ok c.to hL om om) [(0,clc c)] rfl ⟨rfl,trivial⟩ ?_⟩))))))
 rintro _ _ ⟨e1,rfl⟩
 rw[e1];clear e1
 rcases hup13:oat T (c.to.take (c.to.length-1))with _|up13
 rotate_left
 dsimp only
 cases hdp13:up13.dir
 simp only[cond_false]
 have hPp13:parC (er T) c.to=4:=by rw[parC_er,hup13];simp only[hdp13];rfl
 refine Ke (Fn1 [0,3,5] [(7,.i 4),(6,.nilp)] ((0<2)/\(1<2)/\·) ⟨dc,dc,Sq fun K14 hK14=>?_⟩)
 refine Rr (Fn1 [0,3,5,6,7] [(33,.bool true)] (Ki/\·) ⟨rfl,Ct (Rr (Fn0 [] [(4,.i 4)] ?_))⟩)
 refine Rt (.i 4) ?_
 have hT:er T=er T:=rfl
 have e:iRename (er T) c=(er T,4):=by
   rw[hT];unfold iRename
   (try simp only[hPp13,hXya3,hc10,wData,wMode,newDir,Tr.none,er_mk,er_dir,er_mode,er_data,er_names,er_kids,List.map_nil,decide_true,Bool.not_true,Bool.not_false,Bool.true_and,Bool.and_true,Bool.false_and,Bool.and_false,cond_true,cond_false,show decide ((0:Int)=0)=true from rfl,show decide ((3:Int)=0)=false from rfl,show decide ((4:Int)=0)=false from rfl])
   try rfl
 refine fin_dc (.i 4) Z (by first|exact List.Sublist.refl _|exact List.Sublist.cons _ (List.Sublist.refl _)|exact List.Sublist.cons _ (List.Sublist.cons _ (List.Sublist.refl _))) (lea_refl _) trivial hL.odd ⟨T,W,?_,⟨hL.perm,hL.odd⟩,?_,hL.shp⟩<;>rw[e]
 simp only[cond_true]
 have hPp13:parC (er T) c.to=0:=by rw[parC_er,hup13];simp only[hdp13];rfl
 obtain⟨ip13,Ap13,Bp13,Wp13,hop13,hip13,hpp13,hnp13,hsp13,hrp13⟩:=hL.foc hup13
 rw[hop13,show oad (some (ip13,Ap13.length))=.ptr ip13 Ap13.length from rfl]
 refine Ke (Fn1 [0,3,5] [(7,.i 0),(6,.ptr ip13 Ap13.length)] ((0<2)/\(1<2)/\·) ⟨dc,dc,Sq fun K17 hK17=>?_⟩)
 refine Rr (Fn1 [0,3,5,6,7] [(33,.bool false)] (Ki/\·) ⟨rfl,Cf (Sk (Jn (hK17 (Kp [0,3,5,6] (Rr ?_)))))⟩)
 refine Av1 5 39 [(38,pth c.to),(37,.ptr 0 2),(36,pth c.to),(35,.ptr 0 2)] (lnm c.to sc) (((1:Nat)≠0)/\(2+1<=5/\2<5)/\((1:Nat)≠0)/\(2+1<=5/\2<5)/\·) ⟨dc,dc,dc,dc,Av1 (r:=.i (IntKind.i64.wrap ((c.to.length:Int)-1))) (v:=.i ((c.to.length:Int)-1)) 1 40 [] (cI (wrap64 om om)) (Ki/\·) ⟨rfl,Av1 1 41 [] (congrArg AV.pat (mg_str c.to (((c.to.length:Int)-1).toNat) om)) ((1=1/\(0:Int)<=((c.to.length:Int)-1)/\((c.to.length:Int)-1)<((c.to.map (fun s=>[AV.str s])).length:Int))/\·) ⟨⟨rfl,om,lmo⟩,Fn1 [0,3,5,6] [(8,.str (c.to.getD (((c.to.length:Int)-1).toNat) default))] ((1<=1/\0<1)/\·) ⟨dc,Sq fun K20 hK20=>?_⟩⟩⟩⟩
 refine Rr (Bc0 3 [(44,.str (c.to.getD (((c.to.length:Int)-1).toNat) default)),(43,.ptr ip13 Ap13.length)] 74 [.ptr ip13 Ap13.length,.str (c.to.getD (((c.to.length:Int)-1).toNat) default)] 45 ?_)
 have hpep13:=last_snoc (p:=c.to) om
 refine DC.use (kidL (q:=c.to.take (c.to.length-1)) (c.to.getD (((c.to.length:Int)-1).toNat) default) hL hup13 hop13) [(0,clc c)] rfl ⟨rfl,trivial⟩ ?_
 rintro _ _ ⟨e1,rfl⟩
 rw[e1,hpep13];clear e1
 have hiop13:=opos_oat (r:=r) (o:=A0.length) (p:=c.to) hL.wf hL.shp
 rcases hyyp13:oat T c.to with _|yp13
 rw[hyyp13]at hiop13
 have hXyp13:tat (er T) c.to=none:=by rw[tat_er,hyyp13];rfl
 rw[show opos T r A0.length c.to=none from Option.isNone_iff_eq_none.1 (by rw[<-Option.not_isSome,hiop13];rfl),show oad none=.nilp from rfl]
 refine Ke (Fn1 [0,3,5,6,8] [(46,.bool false)] ((∃e,TK.ptr 26=TK.ptr e)/\·) ⟨⟨_,rfl⟩,Cf (Sk (Jn (hK20 (Kp [0,3,5,6,8] (Rr ?_)))))⟩)
 refine An0 2 [(48,.ptr iya3 Aya3.length),(47,.ptr iya3 Aya3.length)] (gela (t:=ya3) 49 26 iya3 (.agg (otc ya3)) (fun J=>by kernel_rfl) ((hgt_ev (E:=[(0,clc c)]) ⟨rfl,trivial⟩ hiya3).trans hgya3) kr rfl (Bc0 1 [] 50 [.agg (otc ya3)] 50 ?_))
 have hYs:=oat_shp hL.wf hL.shp hyya3
 refine TCall.mono (cl_use (t:=er ya3) (vw_deep hYs (fun p hp=>List.mem_append_right [(0,clc c)] (hpya3.mem_iff.2 (by rw[objs_eq]at hp;simp only[List.mem_cons,List.mem_append]at hp⊢;rcases hp with h|h;exact .inr (.inl h);exact .inr (.inr (.inl h))))) rfl) (clone_ok _ (er ya3) rfl om)) ?_
 rintro _ H1 _ _ ⟨rfl,Tn,hH1,he,hs,ha2,rfl⟩
 have hH2:H1=((0,clc c)::(Z++objs Tn)):=by rw[hH1];simp only[List.nil_append,List.cons_append,List.append_assoc]
 clear hH1;subst hH2
 have hL2:=hL.add (odH_objs Tn)
 refine Ke (Fn3 [0,3,6,8] [(9,.ptr 4 0)] ([(4,otc Tn)]++·) 8 ((true=true/\5=5/\0+5<=5)/\·) ⟨dc,Rr (Bc1 4 [(53,.agg (otc Tn)),(52,.str (c.to.getD (((c.to.length:Int)-1).toNat) default)),(51,.ptr ip13 Ap13.length)] 54 [.ptr ip13 Ap13.length,.str (c.to.getD (((c.to.length:Int)-1).toNat) default),.agg (otc Tn)] 54 ((0+5<=5/\0<5)/\·) ⟨dc,?_⟩)⟩)
 have hkp13:=oat_kid_none hup13 (by rw[hpep13];exact hyyp13)
 obtain⟨⟨aup13,bup13⟩,hidsup13⟩:=Option.isSome_iff_exists.1 ((asm_eq _).1 (oat_asm hL.wf ha hup13)).1
 refine DC.use (putL_new (x:=Tn) (W':=W) (c.to.getD (((c.to.length:Int)-1).toNat) default) hL2 hup13 hop13 hidsup13 (asc_oat hto hup13) hkp13 List.perm_append_comm) [(4,otc Tn),(0,clc c)] rfl ⟨rfl,⟨rfl,trivial⟩⟩ ?_
 rintro rr Z1 ⟨j,k1,k2,u',hj,e1,e2,hZ1⟩
 have hT2:=new_er hL.wf hto hup13 e2
 rw[hpep13,he]at hT2
 have htu:tat (er T) (c.to.take (c.to.length-1))=some (er up13):=by rw[tat_er,hup13];rfl
 have hT2n:=orep_tnd hL.wf (tnd_ok hto) hup13 (tnd_ins e1 hkp13 (tnd_tat hL.wf (tnd_ok hto) htu) (by rw[he];exact tnd_tat hL.wf (tnd_ok hto) hXya3))
 have hs2:=orep_shp hL.wf hL.shp hup13 (shp_ins e1 (oat_shp hL.wf hL.shp hup13) hs)
 have ha3:=orep_asm hL.wf ha hup13 (asm_ins e1 (oat_asm hL.wf ha hup13) ha2)
 have hw2:owf (orep T (c.to.take (c.to.length-1)) u'):=by
   unfold owf;rw[hT2];exact wf_tset _ _ _ _ hL.wf (wf_xat .none _ _ _ hL.wf hXya3)
 have hW2:(er (orep T (c.to.take (c.to.length-1)) u')).W<=2^36:=by
   rw[hT2]
   have:=W_tset_lt2 (p:=c.to) (t:=er T) (x:=er ya3) (g:=false) om om f6
   omega
 obtain⟨v',hv1,hv2⟩:=put_keeps (x:=er ya3) c.to (er T) (er up13) c.path (er ya3) hL.wf (tnd_ok hto) (by rw[er_names];exact asc_oat hto hup13) (fun h=>by rw[h]at f5;simp at f5) htu hXyp13 hXya3
 obtain⟨uP,hyP⟩:=oat_parent (last_snoc f1▸hyya3)
 have hdP:uP.dir=true:=by
   obtain⟨kP,hkP,_⟩:=oat_kid_some hyP (last_snoc f1▸hyya3)
   exact dir_of_kid hto hyP hkP
 obtain⟨vP,hvP1,hvP2⟩:=put_keeps (x:=er ya3) c.to (er T) (er up13) (c.path.take (c.path.length-1)) (er uP) hL.wf (tnd_ok hto) (by rw[er_names];exact asc_oat hto hup13) (fun h=>by rw[h]at f5;simp at f5) htu hXyp13 (by rw[tat_er,hyP];rfl)
 rw[<-hT2]at hv1 hvP1
 generalize orep T (c.to.take (c.to.length-1)) u'=T2 at hZ1 hT2 hT2n hs2 ha3 hw2 hW2 hv1 hvP1
 have hL3:=hZ1.lies hL.r1 hw2 hs2 hW2
 obtain⟨y2,hy2⟩:=oat_of_tat hv1
 obtain⟨u2,hu2⟩:=oat_of_tat hvP1
 have hd2:u2.dir=true:=by
   rw[tat_er,hu2]at hvP1
   cases hvP1
   rw[er_dir,er_dir]at hvP2
   rw[hvP2];exact hdP
 refine Ke (Fn0 [0,3] [] (Rr (Bc1 4 [(58,pth c.path),(57,.ptr 0 1),(56,.ptr r A0.length)] 73 [.ptr r A0.length,pth c.path] 59 (((1:Nat)≠0)/\(1+1<=5/\1<5)/\·) ⟨dc,dc,DC.use (parent_ok c.path hL3 om om) [(4,otc Tn),(0,clc c)] rfl ⟨rfl,⟨rfl,trivial⟩⟩ ?_⟩)))
 rintro _ _ ⟨e1,rfl⟩
 rw[e1,hu2];clear e1
 dsimp only
 rw[hd2];simp only[cond_true]
 obtain⟨i2,A2,B2,W2',ho2,hi2,hp2,hn2,hs2',hr2⟩:=hL3.foc hu2
 rw[ho2,show oad (some (i2,A2.length))=.ptr i2 A2.length from rfl]
 refine Ke (Fn1 [3] [(10,.ptr i2 A2.length)] ((0<2)/\(1<2)/\·) ⟨dc,dc,Rr (Av1 6 67 [(66,pth c.path),(65,.ptr 0 1),(64,pth c.path),(63,.ptr 0 1),(62,.ptr i2 A2.length)] (lnm c.path sc) (((1:Nat)≠0)/\(1+1<=5/\1<5)/\((1:Nat)≠0)/\(1+1<=5/\1<5)/\·) ⟨dc,dc,dc,dc,Av1 (r:=.i (IntKind.i64.wrap ((c.path.length:Int)-1))) (v:=.i ((c.path.length:Int)-1)) 1 68 [] (cI (wrap64 om om)) (Ki/\·) ⟨rfl,?_⟩⟩)⟩)
 refine Av1 1 69 [] (congrArg AV.pat (mg_str c.path (((c.path.length:Int)-1).toNat) om)) ((1=1/\(0:Int)<=((c.path.length:Int)-1)/\((c.path.length:Int)-1)<((c.path.map (fun s=>[AV.str s])).length:Int))/\·) ⟨⟨rfl,om,lmo⟩,Bc1 2 [(70,.str (c.path.getD (((c.path.length:Int)-1).toNat) default))] 77 [.ptr i2 A2.length,.str (c.path.getD (((c.path.length:Int)-1).toNat) default)] 71 ((1<=1/\0<1)/\·) ⟨dc,?_⟩⟩
 obtain⟨k2,hk12,hk22⟩:=oat_kid_some hu2 (by rw[last_snoc f1];exact hy2)
 obtain⟨⟨au2,bu2⟩,hidsu2⟩:=Option.isSome_iff_exists.1 ((asm_eq _).1 (oat_asm hw2 ha3 hu2)).1
 refine DC.use (dropL (c.path.getD (((c.path.length:Int)-1).toNat) default) hL3 hu2 ho2 hidsu2 hk12) [(4,otc Tn),(0,clc c)] rfl ⟨rfl,⟨rfl,trivial⟩⟩ ?_
 rintro rr2 Z2 ⟨W2,hZ2⟩
 have hT:=gone_er hw2 hT2n hu2 hk12
 rw[last_snoc f1,hT2]at hT
 refine Ke (Fn0 [] [] (Rr (Fn0 [] [(4,.i 0)] (Rt (.i 0) ?_))))
 
 have e:iRename (er T) c=(er (orep T2 (c.path.take (c.path.length-1)) (.mk u2.dir u2.mode u2.data u2.ids (u2.names.take k2++u2.names.drop (k2+1)) (u2.kids.take k2++u2.kids.drop (k2+1)))),0):=by
   rw[hT];unfold iRename
   (try simp only[hPp13,hXyp13,hXya3,hc10,wData,wMode,newDir,Tr.none,er_mk,er_dir,er_mode,er_data,er_names,er_kids,List.map_nil,decide_true,Bool.not_true,Bool.not_false,Bool.true_and,Bool.and_true,Bool.false_and,Bool.and_false,cond_true,cond_false,show decide ((0:Int)=0)=true from rfl,show decide ((3:Int)=0)=false from rfl,show decide ((4:Int)=0)=false from rfl])
   try rfl
 refine fin_dc (.i 0) Z2 (by first|exact List.Sublist.refl _|exact List.Sublist.cons _ (List.Sublist.refl _)|exact List.Sublist.cons _ (List.Sublist.cons _ (List.Sublist.refl _))) (lea_refl _) trivial hZ2.2 ⟨(orep T2 (c.path.take (c.path.length-1)) (.mk u2.dir u2.mode u2.data u2.ids (u2.names.take k2++u2.names.drop (k2+1)) (u2.kids.take k2++u2.kids.drop (k2+1)))),W2,?_,hZ2,?_,(orep_shp hw2 hs2 hu2 (drop_shp (oat_shp hw2 hs2 hu2)))⟩<;>rw[e]
 obtain⟨iyp13,Ayp13,Byp13,Wyp13,hoyp13,hiyp13,hpyp13,hnyp13,hsyp13,hryp13⟩:=hL.foc hyyp13
 have hgyp13:hgt Z iyp13=some (Ayp13++otc yp13++Byp13):=hgt_perm hnd hpyp13 (by simp)
 have hXyp13:tat (er T) c.to=some (er yp13):=by rw[tat_er,hyyp13];rfl
 obtain⟨⟨ayp13,byp13⟩,hidsyp13⟩:=Option.isSome_iff_exists.1 ((asm_eq _).1 (oat_asm hL.wf ha hyyp13)).1
 have hWyp13:=W_tat _ _ _ hXyp13
 have hDyp13:=data_W (er yp13)
 rw[er_data]at hDyp13
 rw[hoyp13,show oad (some (iyp13,Ayp13.length))=.ptr iyp13 Ayp13.length from rfl]
 refine Ke (Fn1 [0,3,5,6,8] [(46,.bool true)] ((∃e,TK.ptr 26=TK.ptr e)/\·) ⟨⟨_,rfl⟩,Ct (Rr (Fn0 [] [(4,.i 5)] ?_))⟩)
 refine Rt (.i 5) ?_
 have hT:er T=er T:=rfl
 have e:iRename (er T) c=(er T,5):=by
   rw[hT];unfold iRename
   (try simp only[hPp13,hXyp13,hXya3,hc10,wData,wMode,newDir,Tr.none,er_mk,er_dir,er_mode,er_data,er_names,er_kids,List.map_nil,decide_true,Bool.not_true,Bool.not_false,Bool.true_and,Bool.and_true,Bool.false_and,Bool.and_false,cond_true,cond_false,show decide ((0:Int)=0)=true from rfl,show decide ((3:Int)=0)=false from rfl,show decide ((4:Int)=0)=false from rfl])
   try rfl
 refine fin_dc (.i 5) Z (by first|exact List.Sublist.refl _|exact List.Sublist.cons _ (List.Sublist.refl _)|exact List.Sublist.cons _ (List.Sublist.cons _ (List.Sublist.refl _))) (lea_refl _) trivial hL.odd ⟨T,W,?_,⟨hL.perm,hL.odd⟩,?_,hL.shp⟩<;>rw[e]
 dsimp only
 have hPp13:parC (er T) c.to=3:=by rw[parC_er,hup13]
 refine Ke (Fn1 [0,3,5] [(7,.i 3),(6,.nilp)] ((0<2)/\(1<2)/\·) ⟨dc,dc,Sq fun K28 hK28=>?_⟩)
 refine Rr (Fn1 [0,3,5,6,7] [(33,.bool true)] (Ki/\·) ⟨rfl,Ct (Rr (Fn0 [] [(4,.i 3)] ?_))⟩)
 refine Rt (.i 3) ?_
 have hT:er T=er T:=rfl
 have e:iRename (er T) c=(er T,3):=by
   rw[hT];unfold iRename
   (try simp only[hPp13,hXya3,hc10,wData,wMode,newDir,Tr.none,er_mk,er_dir,er_mode,er_data,er_names,er_kids,List.map_nil,decide_true,Bool.not_true,Bool.not_false,Bool.true_and,Bool.and_true,Bool.false_and,Bool.and_false,cond_true,cond_false,show decide ((0:Int)=0)=true from rfl,show decide ((3:Int)=0)=false from rfl,show decide ((4:Int)=0)=false from rfl])
   try rfl
 refine fin_dc (.i 3) Z (by first|exact List.Sublist.refl _|exact List.Sublist.cons _ (List.Sublist.refl _)|exact List.Sublist.cons _ (List.Sublist.cons _ (List.Sublist.refl _))) (lea_refl _) trivial hL.odd ⟨T,W,?_,⟨hL.perm,hL.odd⟩,?_,hL.shp⟩<;>rw[e]
set_option maxHeartbeats 2000000 in
theorem do_ok {Z W:Hp} {r:Nat} {A0 B0:List AV} {T:OT} (c:Cl) (hL:Lies Z r A0 B0 T W) (ha:asm T) (hto:treeOk (er T)=true) (f1:0<c.path.length) (f2:wS c.path<2^10) (f3:c.kind=2\/c.kind=3->0<=c.at_/\c.at_<=24) (f4:c.kind=5->0<c.to.length/\wS c.to<2^10) (f7:c.data.length<2^20):DC G 51 [.ptr r A0.length,.agg (clc c)] Z (DoR iDo T c r A0 B0):=by
 refine DC_nd fun hnd=>?_
 have hl1:=wS_len c.path;have hWT:=W_ok hto
 refine h_dc (F:=[(0,.ptr r A0.length),(1,.agg (clc c))]) ⟨hL.r1,(ods_clc c).1,trivial⟩ hL.odd Tryz.func51 kr kr ?_ kr
 refine Rr (Fn2 [0] [(3,.ptr 0 0)] ([(0,clc c)]++·) 4 (Rr (Bc1 4 [(13,pth c.path),(12,.ptr 0 1),(11,.ptr r A0.length)] 73 [.ptr r A0.length,pth c.path] 14 (((1:Nat)≠0)/\(1+1<=5/\1<5)/\·) ⟨dc,dc,DC.use (parent_ok c.path hL om om) [(0,clc c)] rfl ⟨rfl,trivial⟩ ?_⟩)))
 rintro _ _ ⟨e1,rfl⟩
 rw[e1];clear e1
 rcases hup3:oat T (c.path.take (c.path.length-1))with _|up3
 rotate_left
 dsimp only
 cases hdp3:up3.dir
 simp only[cond_false]
 have hPp3:parC (er T) c.path=4:=by rw[parC_er,hup3];simp only[hdp3];rfl
 refine Ke (Fn1 [0,3] [(6,.i 4),(5,.nilp)] ((0<2)/\(1<2)/\·) ⟨dc,dc,Sq fun K4 hK4=>?_⟩)
 refine Rr (Fn1 [0,3,5,6] [(18,.bool true)] (Ki/\·) ⟨rfl,Ct (Rr (Fn0 [] [(4,.i 4)] ?_))⟩)
 refine Rt (.i 4) ?_
 have hT:er T=er T:=rfl
 have e:iDo (er T) c=(er T,4):=by
   rw[hT];unfold iDo
   (try simp only[hPp3,wData,wMode,newDir,Tr.none,er_mk,er_dir,er_mode,er_data,er_names,er_kids,List.map_nil,decide_true,Bool.not_true,Bool.not_false,Bool.true_and,Bool.and_true,Bool.false_and,Bool.and_false,cond_true,cond_false,show decide ((0:Int)=0)=true from rfl,show decide ((3:Int)=0)=false from rfl,show decide ((4:Int)=0)=false from rfl])
   try rfl
 refine fin_dc (.i 4) Z (by first|exact List.Sublist.refl _|exact List.Sublist.cons _ (List.Sublist.refl _)|exact List.Sublist.cons _ (List.Sublist.cons _ (List.Sublist.refl _))) (lea_refl _) trivial hL.odd ⟨T,W,?_,⟨hL.perm,hL.odd⟩,?_,hL.shp⟩<;>rw[e]
 simp only[cond_true]
 have hPp3:parC (er T) c.path=0:=by rw[parC_er,hup3];simp only[hdp3];rfl
 obtain⟨ip3,Ap3,Bp3,Wp3,hop3,hip3,hpp3,hnp3,hsp3,hrp3⟩:=hL.foc hup3
 rw[hop3,show oad (some (ip3,Ap3.length))=.ptr ip3 Ap3.length from rfl]
 refine Ke (Fn1 [0,3] [(6,.i 0),(5,.ptr ip3 Ap3.length)] ((0<2)/\(1<2)/\·) ⟨dc,dc,Sq fun K7 hK7=>?_⟩)
 refine Rr (Fn1 [0,3,5,6] [(18,.bool false)] (Ki/\·) ⟨rfl,Cf (Sk (Jn (hK7 (Kp [0,3,5] (Rr ?_)))))⟩)
 refine Av1 5 24 [(23,pth c.path),(22,.ptr 0 1),(21,pth c.path),(20,.ptr 0 1)] (lnm c.path sc) (((1:Nat)≠0)/\(1+1<=5/\1<5)/\((1:Nat)≠0)/\(1+1<=5/\1<5)/\·) ⟨dc,dc,dc,dc,Av1 (r:=.i (IntKind.i64.wrap ((c.path.length:Int)-1))) (v:=.i ((c.path.length:Int)-1)) 1 25 [] (cI (wrap64 om om)) (Ki/\·) ⟨rfl,Av1 1 26 [] (congrArg AV.pat (mg_str c.path (((c.path.length:Int)-1).toNat) om)) ((1=1/\(0:Int)<=((c.path.length:Int)-1)/\((c.path.length:Int)-1)<((c.path.map (fun s=>[AV.str s])).length:Int))/\·) ⟨⟨rfl,om,lmo⟩,Fn1 [0,3,5] [(7,.str (c.path.getD (((c.path.length:Int)-1).toNat) default))] ((1<=1/\0<1)/\·) ⟨dc,Rr ?_⟩⟩⟩⟩
 refine Bc0 3 [(29,.str (c.path.getD (((c.path.length:Int)-1).toNat) default)),(28,.ptr ip3 Ap3.length)] 74 [.ptr ip3 Ap3.length,.str (c.path.getD (((c.path.length:Int)-1).toNat) default)] 30 ?_
 have hpep3:=last_snoc (p:=c.path) om
 refine DC.use (kidL (q:=c.path.take (c.path.length-1)) (c.path.getD (((c.path.length:Int)-1).toNat) default) hL hup3 hop3) [(0,clc c)] rfl ⟨rfl,trivial⟩ ?_
 rintro _ _ ⟨e1,rfl⟩
 rw[e1,hpep3];clear e1
 have hiop3:=opos_oat (r:=r) (o:=A0.length) (p:=c.path) hL.wf hL.shp
 rcases hyyp3:oat T c.path with _|yp3
 rw[hyyp3]at hiop3
 have hXyp3:tat (er T) c.path=none:=by rw[tat_er,hyyp3];rfl
 rw[show opos T r A0.length c.path=none from Option.isNone_iff_eq_none.1 (by rw[<-Option.not_isSome,hiop3];rfl),show oad none=.nilp from rfl]
 refine Ke (Fn0 [0,3,5,7] [(8,.nilp)] (Sq fun K11 hK11=>?_))
 refine Rr (Fn1 [0,3,5,7,8] [(32,.i c.kind)] (((1:Nat)≠0)/\(0+1<=5/\0<5)/\·) ⟨dc,dc,Bl (Rr (Cn1 (decide ((c.kind:Int)=(1:Int))) [0,3,5,7,8,32] [] (Ki/\·) ⟨rfl,fun hc14 c14=>?_,fun hc14 c14=>?_⟩))⟩)
 refine Sq fun K15 hK15=>?_
 refine Rr (Fn1 [3,5,7] [(36,.bool false)] ((∃e,TK.ptr 26=TK.ptr e)/\·) ⟨⟨_,rfl⟩,Cf (Sk (Jn (hK15 (Kp [3,5,7] (Rb (fun h=>Bn (Jn (hK11 h))) ?_)))))⟩)
 refine Bc1 6 [(41,.agg [.bool true,.i c.at_,.str [],.nils,.nils]),(40,.i c.at_),(39,.ptr 0 3),(38,.str (c.path.getD (((c.path.length:Int)-1).toNat) default)),(37,.ptr ip3 Ap3.length)] 54 [.ptr ip3 Ap3.length,.str (c.path.getD (((c.path.length:Int)-1).toNat) default),.agg [.bool true,.i c.at_,.str [],.nils,.nils]] 42 (((1:Nat)≠0)/\(3+1<=5/\3<5)/\·) ⟨dc,dc,?_⟩
 have hkp3:=oat_kid_none hup3 (by rw[hpep3];exact hyyp3)
 obtain⟨⟨aup3,bup3⟩,hidsup3⟩:=Option.isSome_iff_exists.1 ((asm_eq _).1 (oat_asm hL.wf ha hup3)).1
 refine DC.use (putL_new (x:=(.mk true c.at_ [] none [] [])) (W':=W) (c.path.getD (((c.path.length:Int)-1).toNat) default) hL hup3 hop3 hidsup3 (asc_oat hto hup3) hkp3 (List.Perm.refl _)) [(0,clc c)] rfl ⟨rfl,trivial⟩ ?_
 rintro rr Z1 ⟨j,k1,k2,u',hj,e1,e2,hZ1⟩
 refine Ke (Fn0 [] [] (Rr (Fn0 [] [(4,.i 0)] (Rt (.i 0) ?_))))
 have hT:=new_er hL.wf hto hup3 e2
 rw[hpep3]at hT
 have e:iDo (er T) c=(er (orep T (c.path.take (c.path.length-1)) u'),0):=by
   rw[hT];unfold iDo
   (try simp only[hPp3,hXyp3,hc14,wData,wMode,newDir,Tr.none,er_mk,er_dir,er_mode,er_data,er_names,er_kids,List.map_nil,decide_true,Bool.not_true,Bool.not_false,Bool.true_and,Bool.and_true,Bool.false_and,Bool.and_false,cond_true,cond_false,show decide ((0:Int)=0)=true from rfl,show decide ((3:Int)=0)=false from rfl,show decide ((4:Int)=0)=false from rfl])
   try rfl
 refine fin_dc (.i 0) Z1 (by first|exact List.Sublist.refl _|exact List.Sublist.cons _ (List.Sublist.refl _)|exact List.Sublist.cons _ (List.Sublist.cons _ (List.Sublist.refl _))) (lea_refl _) trivial hZ1.2 ⟨(orep T (c.path.take (c.path.length-1)) u'),W,?_,hZ1,?_,(orep_shp hL.wf hL.shp hup3 (shp_ins e1 (oat_shp hL.wf hL.shp hup3) ⟨fun _=>⟨rfl,rfl⟩,trivial⟩))⟩<;>rw[e]
 refine Rr (Cn1 (decide ((c.kind:Int)=(2:Int))) [0,3,5,7,8,32] [] (Ki/\·) ⟨rfl,fun hc19 c19=>?_,fun hc19 c19=>?_⟩)
 refine Sq fun K20 hK20=>?_
 refine Bl (Rr (Fn1 [3,5,7,8] [(45,.bool false)] ((∃e,TK.ptr 26=TK.ptr e)/\·) ⟨⟨_,rfl⟩,Cf ?_⟩))
 obtain⟨f8,f9⟩:=f3 (.inl (by simpa using hc19))
 refine Rr (Av1 (r:=.i (IntKind.i64.wrap (c.at_+(c.data.length:Int)))) (v:=.i (c.at_+(c.data.length:Int))) 6 60 [(59,.i c.data.length),(58,.str c.data),(57,.ptr 0 4),(56,.i c.at_),(55,.ptr 0 3)] (cI (wrap64 om om)) (((1:Nat)≠0)/\(3+1<=5/\3<5)/\((1:Nat)≠0)/\(4+1<=5/\4<5)/\Ki/\·) ⟨dc,dc,dc,dc,rfl,Cn1 (decide ((24:Int)<((c.at_+(c.data.length:Int)):Int))) [3,5,7,8] [] (Ki/\·) ⟨rfl,fun hc23 c23=>?_,fun hc23 c23=>?_⟩⟩)
 refine Rr (Fn0 [] [(4,.i 6)] (Rt (.i 6) ?_))
 have hT:er T=er T:=rfl
 have e:iDo (er T) c=(er T,6):=by
   rw[hT];unfold iDo
   (try simp only[hPp3,hXyp3,hc14,hc19,hc23,wData,wMode,newDir,Tr.none,er_mk,er_dir,er_mode,er_data,er_names,er_kids,List.map_nil,decide_true,Bool.not_true,Bool.not_false,Bool.true_and,Bool.and_true,Bool.false_and,Bool.and_false,cond_true,cond_false,show decide ((0:Int)=0)=true from rfl,show decide ((3:Int)=0)=false from rfl,show decide ((4:Int)=0)=false from rfl])
   try rfl
 refine fin_dc (.i 6) Z (by first|exact List.Sublist.refl _|exact List.Sublist.cons _ (List.Sublist.refl _)|exact List.Sublist.cons _ (List.Sublist.cons _ (List.Sublist.refl _))) (lea_refl _) trivial hL.odd ⟨T,W,?_,⟨hL.perm,hL.odd⟩,?_,hL.shp⟩<;>rw[e]
 refine Sk (Bn (Jn (hK20 (Kp [3,5,7,8] (Rr (Fn3 [3,5,7,8] [(9,.ptr 4 0)] ([(4,zt)]++·) 8 ((true=true/\5=5/\0+5<=5)/\·) ⟨dc,Sq fun K26 hK26=>?_⟩))))))
 refine Rr (Fn1 [3,5,7,8,9] [(64,.bool false)] ((∃e,TK.ptr 26=TK.ptr e)/\·) ⟨⟨_,rfl⟩,Cf (Sk (Jn (hK26 (Kp [3,5,7,9] (Rr ?_)))))⟩)
 refine Bc1 7 [(73,.str c.data),(72,.ptr 0 4),(71,.i c.at_),(70,.ptr 0 3),(69,.str []),(68,.ptr 4 2)] 75 [.str [],.i c.at_,.str c.data] 74 (((1:Nat)≠0)/\(2+1<=5/\2<5)/\((1:Nat)≠0)/\(3+1<=5/\3<5)/\((1:Nat)≠0)/\(4+1<=5/\4<5)/\·) ⟨dc,dc,dc,dc,dc,dc,?_⟩
 refine PE.use (written_ok [] c.at_ c.data om om (by first|omega|decide) om) ?_
 refine Ke (Fn3 [5,7,9] [] (fun _=>((4,[.bool false,.i 0,.str (wrt [] c.at_ c.data),.nils,.nils])::(0,clc c)::Z)) 8 (((1:Nat)≠0)/\(true=true/\1=1/\2+1<=5)/\·) ⟨dc,dc,Rb (fun h=>Bn (Jn (hK11 h))) (Bc1 4 [(78,.agg [.bool false,.i 0,.str (wrt [] c.at_ c.data),.nils,.nils]),(77,.str (c.path.getD (((c.path.length:Int)-1).toNat) default)),(76,.ptr ip3 Ap3.length)] 54 [.ptr ip3 Ap3.length,.str (c.path.getD (((c.path.length:Int)-1).toNat) default),.agg [.bool false,.i 0,.str (wrt [] c.at_ c.data),.nils,.nils]] 79 ((0+5<=5/\0<5)/\·) ⟨dc,?_⟩)⟩)
 have hkp3:=oat_kid_none hup3 (by rw[hpep3];exact hyyp3)
 obtain⟨⟨aup3,bup3⟩,hidsup3⟩:=Option.isSome_iff_exists.1 ((asm_eq _).1 (oat_asm hL.wf ha hup3)).1
 refine DC.use (putL_new (x:=(.mk false 0 (wrt [] c.at_ c.data) none [] [])) (W':=W) (c.path.getD (((c.path.length:Int)-1).toNat) default) hL hup3 hop3 hidsup3 (asc_oat hto hup3) hkp3 (List.Perm.refl _)) [(4,[.bool false,.i 0,.str (wrt [] c.at_ c.data),.nils,.nils]),(0,clc c)] rfl ⟨rfl,⟨rfl,trivial⟩⟩ ?_
 rintro rr Z1 ⟨j,k1,k2,u',hj,e1,e2,hZ1⟩
 refine Ke (Fn0 [] [] (Rr (Fn0 [] [(4,.i 0)] (Rt (.i 0) ?_))))
 have hT:=new_er hL.wf hto hup3 e2
 rw[hpep3]at hT
 have e:iDo (er T) c=(er (orep T (c.path.take (c.path.length-1)) u'),0):=by
   rw[hT];unfold iDo
   (try simp only[hPp3,hXyp3,hc14,hc19,hc23,wData,wMode,newDir,Tr.none,er_mk,er_dir,er_mode,er_data,er_names,er_kids,List.map_nil,decide_true,Bool.not_true,Bool.not_false,Bool.true_and,Bool.and_true,Bool.false_and,Bool.and_false,cond_true,cond_false,show decide ((0:Int)=0)=true from rfl,show decide ((3:Int)=0)=false from rfl,show decide ((4:Int)=0)=false from rfl])
   try rfl
 refine fin_dc (.i 0) Z1 (by first|exact List.Sublist.refl _|exact List.Sublist.cons _ (List.Sublist.refl _)|exact List.Sublist.cons _ (List.Sublist.cons _ (List.Sublist.refl _))) (lea_refl _) trivial hZ1.2 ⟨(orep T (c.path.take (c.path.length-1)) u'),W,?_,hZ1,?_,(orep_shp hL.wf hL.shp hup3 (shp_ins e1 (oat_shp hL.wf hL.shp hup3) ⟨fun _=>⟨rfl,rfl⟩,trivial⟩))⟩<;>rw[e]
 refine Rr (Cn1 (decide ((c.kind:Int)=(3:Int))) [0,3,5,7,8,32] [] (Ki/\·) ⟨rfl,fun hc31 c31=>?_,fun hc31 c31=>?_⟩)
 refine Sq fun K32 hK32=>?_
 refine Bl (Rr (Fn1 [3,8] [(82,.bool true)] ((∃e,TK.ptr 26=TK.ptr e)/\·) ⟨⟨_,rfl⟩,Ct (Rr ?_)⟩))
 refine Fn0 [] [(4,.i 3)] (Rt (.i 3) ?_)
 have hT:er T=er T:=rfl
 have e:iDo (er T) c=(er T,3):=by
   rw[hT];unfold iDo
   (try simp only[hPp3,hXyp3,hc14,hc19,hc31,wData,wMode,newDir,Tr.none,er_mk,er_dir,er_mode,er_data,er_names,er_kids,List.map_nil,decide_true,Bool.not_true,Bool.not_false,Bool.true_and,Bool.and_true,Bool.false_and,Bool.and_false,cond_true,cond_false,show decide ((0:Int)=0)=true from rfl,show decide ((3:Int)=0)=false from rfl,show decide ((4:Int)=0)=false from rfl])
   try rfl
 refine fin_dc (.i 3) Z (by first|exact List.Sublist.refl _|exact List.Sublist.cons _ (List.Sublist.refl _)|exact List.Sublist.cons _ (List.Sublist.cons _ (List.Sublist.refl _))) (lea_refl _) trivial hL.odd ⟨T,W,?_,⟨hL.perm,hL.odd⟩,?_,hL.shp⟩<;>rw[e]
 refine Rr (Cn1 (decide ((c.kind:Int)=(4:Int))) [0,3,5,7,8,32] [] (Ki/\·) ⟨rfl,fun hc36 c36=>?_,fun hc36 c36=>?_⟩)
 refine Sq fun K37 hK37=>?_
 refine Bl (Rr (Fn1 [5,7,8] [(102,.bool true)] ((∃e,TK.ptr 26=TK.ptr e)/\·) ⟨⟨_,rfl⟩,Ct (Rr ?_)⟩))
 refine Fn0 [] [(4,.i 3)] (Rt (.i 3) ?_)
 have hT:er T=er T:=rfl
 have e:iDo (er T) c=(er T,3):=by
   rw[hT];unfold iDo
   (try simp only[hPp3,hXyp3,hc14,hc19,hc31,hc36,wData,wMode,newDir,Tr.none,er_mk,er_dir,er_mode,er_data,er_names,er_kids,List.map_nil,decide_true,Bool.not_true,Bool.not_false,Bool.true_and,Bool.and_true,Bool.false_and,Bool.and_false,cond_true,cond_false,show decide ((0:Int)=0)=true from rfl,show decide ((3:Int)=0)=false from rfl,show decide ((4:Int)=0)=false from rfl])
   try rfl
 refine fin_dc (.i 3) Z (by first|exact List.Sublist.refl _|exact List.Sublist.cons _ (List.Sublist.refl _)|exact List.Sublist.cons _ (List.Sublist.cons _ (List.Sublist.refl _))) (lea_refl _) trivial hL.odd ⟨T,W,?_,⟨hL.perm,hL.odd⟩,?_,hL.shp⟩<;>rw[e]
 refine Rr (Cn1 (decide ((c.kind:Int)=(5:Int))) [0,3,8,32] [] (Ki/\·) ⟨rfl,fun hc41 c41=>?_,fun hc41 c41=>?_⟩)
 refine Rr (Bc1 3 [(124,.agg (clc c)),(123,.ptr r A0.length)] 78 [.ptr r A0.length,.agg (clc c)] 125 ((0+5<=5/\0<5)/\·) ⟨dc,?_⟩)
 obtain⟨f5,f6⟩:=f4 (by simpa using hc41)
 refine DC.use (rename_ok c hL ha hto f1 f2 f5 f6) [(0,clc c)] rfl ⟨rfl,trivial⟩ ?_
 rintro _ Z1 ⟨T1,W1,rfl,hZ1,he1,hs1⟩
 refine Ke (Fn0 [] [(4,.i ((iRename (er T) c).2))] (Rt (.i ((iRename (er T) c).2)) ?_))
 have hT:=he1
 have e:iDo (er T) c=(er T1,(iRename (er T) c).2):=by
   rw[hT];unfold iDo
   (try simp only[hPp3,hXyp3,hc14,hc19,hc31,hc36,hc41,wData,wMode,newDir,Tr.none,er_mk,er_dir,er_mode,er_data,er_names,er_kids,List.map_nil,decide_true,Bool.not_true,Bool.not_false,Bool.true_and,Bool.and_true,Bool.false_and,Bool.and_false,cond_true,cond_false,show decide ((0:Int)=0)=true from rfl,show decide ((3:Int)=0)=false from rfl,show decide ((4:Int)=0)=false from rfl])
   try rfl
 refine fin_dc (.i ((iRename (er T) c).2)) Z1 (by first|exact List.Sublist.refl _|exact List.Sublist.cons _ (List.Sublist.refl _)|exact List.Sublist.cons _ (List.Sublist.cons _ (List.Sublist.refl _))) (lea_refl _) trivial hZ1.2 ⟨T1,W1,?_,hZ1,?_,hs1⟩<;>rw[e]
 refine Rr (Cn1 (decide ((c.kind:Int)=(6:Int))) [3,8] [] (Ki/\·) ⟨rfl,fun hc44 c44=>?_,fun hc44 c44=>?_⟩)
 refine Sq fun K45 hK45=>?_
 refine Rr (Fn1 [3,8] [(129,.bool true)] ((∃e,TK.ptr 26=TK.ptr e)/\·) ⟨⟨_,rfl⟩,Ct (Rr (Fn0 [] [(4,.i 3)] ?_))⟩)
 refine Rt (.i 3) ?_
 have hT:er T=er T:=rfl
 have e:iDo (er T) c=(er T,3):=by
   rw[hT];unfold iDo
   (try simp only[hPp3,hXyp3,hc14,hc19,hc31,hc36,hc41,hc44,wData,wMode,newDir,Tr.none,er_mk,er_dir,er_mode,er_data,er_names,er_kids,List.map_nil,decide_true,Bool.not_true,Bool.not_false,Bool.true_and,Bool.and_true,Bool.false_and,Bool.and_false,cond_true,cond_false,show decide ((0:Int)=0)=true from rfl,show decide ((3:Int)=0)=false from rfl,show decide ((4:Int)=0)=false from rfl])
   try rfl
 refine fin_dc (.i 3) Z (by first|exact List.Sublist.refl _|exact List.Sublist.cons _ (List.Sublist.refl _)|exact List.Sublist.cons _ (List.Sublist.cons _ (List.Sublist.refl _))) (lea_refl _) trivial hL.odd ⟨T,W,?_,⟨hL.perm,hL.odd⟩,?_,hL.shp⟩<;>rw[e]
 refine Sk (Bn (Jn (hK11 (Kp [] (Rr (Fn0 [] [(4,.i 0)] (Rt (.i 0) ?_)))))))
 have hT:er T=er T:=rfl
 have e:iDo (er T) c=(er T,0):=by
   rw[hT];unfold iDo
   (try simp only[hPp3,hXyp3,hc14,hc19,hc31,hc36,hc41,hc44,wData,wMode,newDir,Tr.none,er_mk,er_dir,er_mode,er_data,er_names,er_kids,List.map_nil,decide_true,Bool.not_true,Bool.not_false,Bool.true_and,Bool.and_true,Bool.false_and,Bool.and_false,cond_true,cond_false,show decide ((0:Int)=0)=true from rfl,show decide ((3:Int)=0)=false from rfl,show decide ((4:Int)=0)=false from rfl])
   try rfl
 refine fin_dc (.i 0) Z (by first|exact List.Sublist.refl _|exact List.Sublist.cons _ (List.Sublist.refl _)|exact List.Sublist.cons _ (List.Sublist.cons _ (List.Sublist.refl _))) (lea_refl _) trivial hL.odd ⟨T,W,?_,⟨hL.perm,hL.odd⟩,?_,hL.shp⟩<;>rw[e]
 obtain⟨iyp3,Ayp3,Byp3,Wyp3,hoyp3,hiyp3,hpyp3,hnyp3,hsyp3,hryp3⟩:=hL.foc hyyp3
 have hgyp3:hgt Z iyp3=some (Ayp3++otc yp3++Byp3):=hgt_perm hnd hpyp3 (by simp)
 have hXyp3:tat (er T) c.path=some (er yp3):=by rw[tat_er,hyyp3];rfl
 obtain⟨⟨ayp3,byp3⟩,hidsyp3⟩:=Option.isSome_iff_exists.1 ((asm_eq _).1 (oat_asm hL.wf ha hyyp3)).1
 have hWyp3:=W_tat _ _ _ hXyp3
 have hDyp3:=data_W (er yp3)
 rw[er_data]at hDyp3
 rw[hoyp3,show oad (some (iyp3,Ayp3.length))=.ptr iyp3 Ayp3.length from rfl]
 refine Ke (Fn0 [0,3,5,7] [(8,.ptr iyp3 Ayp3.length)] (Sq fun K49 hK49=>?_))
 refine Rr (Fn1 [0,3,5,7,8] [(32,.i c.kind)] (((1:Nat)≠0)/\(0+1<=5/\0<5)/\·) ⟨dc,dc,Bl (Rr (Cn1 (decide ((c.kind:Int)=(1:Int))) [0,3,5,7,8,32] [] (Ki/\·) ⟨rfl,fun hc52 c52=>?_,fun hc52 c52=>?_⟩))⟩)
 refine Sq fun K53 hK53=>?_
 refine Rr (Fn1 [3,5,7] [(36,.bool true)] ((∃e,TK.ptr 26=TK.ptr e)/\·) ⟨⟨_,rfl⟩,Ct (Rr (Fn0 [] [(4,.i 5)] ?_))⟩)
 refine Rt (.i 5) ?_
 have hT:er T=er T:=rfl
 have e:iDo (er T) c=(er T,5):=by
   rw[hT];unfold iDo
   (try simp only[hPp3,hXyp3,hc52,wData,wMode,newDir,Tr.none,er_mk,er_dir,er_mode,er_data,er_names,er_kids,List.map_nil,decide_true,Bool.not_true,Bool.not_false,Bool.true_and,Bool.and_true,Bool.false_and,Bool.and_false,cond_true,cond_false,show decide ((0:Int)=0)=true from rfl,show decide ((3:Int)=0)=false from rfl,show decide ((4:Int)=0)=false from rfl])
   try rfl
 refine fin_dc (.i 5) Z (by first|exact List.Sublist.refl _|exact List.Sublist.cons _ (List.Sublist.refl _)|exact List.Sublist.cons _ (List.Sublist.cons _ (List.Sublist.refl _))) (lea_refl _) trivial hL.odd ⟨T,W,?_,⟨hL.perm,hL.odd⟩,?_,hL.shp⟩<;>rw[e]
 refine Rr (Cn1 (decide ((c.kind:Int)=(2:Int))) [0,3,5,7,8,32] [] (Ki/\·) ⟨rfl,fun hc57 c57=>?_,fun hc57 c57=>?_⟩)
 refine Sq fun K58 hK58=>?_
 refine Bl (Rr (An1 6 [(51,.ptr iyp3 Ayp3.length),(50,.ptr iyp3 Ayp3.length),(49,.ptr iyp3 Ayp3.length),(48,.bool true),(47,.bool true),(46,.ptr iyp3 Ayp3.length)] ((∃e,TK.ptr 26=TK.ptr e)/\((1:Nat)≠0)/\·) ⟨⟨_,rfl⟩,dc,geln (t:=yp3) 52 4 iyp3 0 (.bool yp3.dir) (fun J=>by kernel_rfl) ((hgt_ev (E:=[(0,clc c)]) ⟨rfl,trivial⟩ hiyp3).trans hgyp3) kr rfl (Cn0 yp3.dir [3,5,7,8] [] ⟨fun hc60 c60=>?_,fun hc60 c60=>?_⟩)⟩))
 refine Rr (Fn0 [] [(4,.i 4)] (Rt (.i 4) ?_))
 have hT:er T=er T:=rfl
 have e:iDo (er T) c=(er T,4):=by
   rw[hT];unfold iDo
   (try simp only[hPp3,hXyp3,hc52,hc57,hc60,wData,wMode,newDir,Tr.none,er_mk,er_dir,er_mode,er_data,er_names,er_kids,List.map_nil,decide_true,Bool.not_true,Bool.not_false,Bool.true_and,Bool.and_true,Bool.false_and,Bool.and_false,cond_true,cond_false,show decide ((0:Int)=0)=true from rfl,show decide ((3:Int)=0)=false from rfl,show decide ((4:Int)=0)=false from rfl])
   try rfl
 refine fin_dc (.i 4) Z (by first|exact List.Sublist.refl _|exact List.Sublist.cons _ (List.Sublist.refl _)|exact List.Sublist.cons _ (List.Sublist.cons _ (List.Sublist.refl _))) (lea_refl _) trivial hL.odd ⟨T,W,?_,⟨hL.perm,hL.odd⟩,?_,hL.shp⟩<;>rw[e]
 obtain⟨f8,f9⟩:=f3 (.inl (by simpa using hc57))
 refine Rr (Av1 (r:=.i (IntKind.i64.wrap (c.at_+(c.data.length:Int)))) (v:=.i (c.at_+(c.data.length:Int))) 6 60 [(59,.i c.data.length),(58,.str c.data),(57,.ptr 0 4),(56,.i c.at_),(55,.ptr 0 3)] (cI (wrap64 om om)) (((1:Nat)≠0)/\(3+1<=5/\3<5)/\((1:Nat)≠0)/\(4+1<=5/\4<5)/\Ki/\·) ⟨dc,dc,dc,dc,rfl,Cn1 (decide ((24:Int)<((c.at_+(c.data.length:Int)):Int))) [3,5,7,8] [] (Ki/\·) ⟨rfl,fun hc63 c63=>?_,fun hc63 c63=>?_⟩⟩)
 refine Rr (Fn0 [] [(4,.i 6)] (Rt (.i 6) ?_))
 have hT:er T=er T:=rfl
 have e:iDo (er T) c=(er T,6):=by
   rw[hT];unfold iDo
   (try simp only[hPp3,hXyp3,hc52,hc57,hc60,hc63,wData,wMode,newDir,Tr.none,er_mk,er_dir,er_mode,er_data,er_names,er_kids,List.map_nil,decide_true,Bool.not_true,Bool.not_false,Bool.true_and,Bool.and_true,Bool.false_and,Bool.and_false,cond_true,cond_false,show decide ((0:Int)=0)=true from rfl,show decide ((3:Int)=0)=false from rfl,show decide ((4:Int)=0)=false from rfl])
   try rfl
 refine fin_dc (.i 6) Z (by first|exact List.Sublist.refl _|exact List.Sublist.cons _ (List.Sublist.refl _)|exact List.Sublist.cons _ (List.Sublist.cons _ (List.Sublist.refl _))) (lea_refl _) trivial hL.odd ⟨T,W,?_,⟨hL.perm,hL.odd⟩,?_,hL.shp⟩<;>rw[e]
 refine Sk (Bn (Jn (hK58 (Kp [3,5,7,8] (Rr (Fn3 [3,5,7,8] [(9,.ptr 4 0)] ([(4,zt)]++·) 8 ((true=true/\5=5/\0+5<=5)/\·) ⟨dc,Sq fun K66 hK66=>?_⟩))))))
 refine Rr (Fn1 [3,5,7,8,9] [(64,.bool true)] ((∃e,TK.ptr 26=TK.ptr e)/\·) ⟨⟨_,rfl⟩,Ct (Rb (fun h=>Jn (hK66 h)) (An0 2 [(66,.ptr iyp3 Ayp3.length),(65,.ptr iyp3 Ayp3.length)] ?_))⟩)
 refine gela (t:=yp3) 67 26 iyp3 (.agg (otc yp3)) (fun J=>by kernel_rfl) ((hgt_ev (E:=[(4,zt),(0,clc c)]) ⟨rfl,⟨rfl,trivial⟩⟩ hiyp3).trans hgyp3) kr rfl ?_
 refine Fn3 [3,5,7,9] [] (fun _=>((4,otc yp3)::(0,clc c)::Z)) 8 ((true=true/\5=5/\0+5<=5)/\·) ⟨dc,Rr (Bc1 7 [(73,.str c.data),(72,.ptr 0 4),(71,.i c.at_),(70,.ptr 0 3),(69,.str yp3.data),(68,.ptr 4 2)] 75 [.str yp3.data,.i c.at_,.str c.data] 74 (((1:Nat)≠0)/\(2+1<=5/\2<5)/\((1:Nat)≠0)/\(3+1<=5/\3<5)/\((1:Nat)≠0)/\(4+1<=5/\4<5)/\·) ⟨dc,dc,dc,dc,dc,dc,PE.use (written_ok yp3.data c.at_ c.data om om (by first|omega|decide) om) (Ke ?_)⟩)⟩
 refine Fn3 [5,7,9] [] (fun _=>((4,[.bool yp3.dir,.i yp3.mode,.str (wrt yp3.data c.at_ c.data),sln yp3.ids yp3.names.length,slk yp3.ids yp3.kids.length])::(0,clc c)::Z)) 8 (((1:Nat)≠0)/\(true=true/\1=1/\2+1<=5)/\·) ⟨dc,dc,Rb (fun h=>Bn (Jn (hK49 h))) (Bc1 4 [(78,.agg [.bool yp3.dir,.i yp3.mode,.str (wrt yp3.data c.at_ c.data),sln yp3.ids yp3.names.length,slk yp3.ids yp3.kids.length]),(77,.str (c.path.getD (((c.path.length:Int)-1).toNat) default)),(76,.ptr ip3 Ap3.length)] 54 [.ptr ip3 Ap3.length,.str (c.path.getD (((c.path.length:Int)-1).toNat) default),.agg [.bool yp3.dir,.i yp3.mode,.str (wrt yp3.data c.at_ c.data),sln yp3.ids yp3.names.length,slk yp3.ids yp3.kids.length]] 79 ((0+5<=5/\0<5)/\·) ⟨dc,?_⟩)⟩
 obtain⟨kp3,hk1p3,hk2p3⟩:=oat_kid_some hup3 (by rw[hpep3];exact hyyp3)
 obtain⟨⟨aup3,bup3⟩,hidsup3⟩:=Option.isSome_iff_exists.1 ((asm_eq _).1 (oat_asm hL.wf ha hup3)).1
 refine DC.use (putL_hit (x:=(.mk yp3.dir yp3.mode (wrt yp3.data c.at_ c.data) yp3.ids yp3.names yp3.kids)) (c.path.getD (((c.path.length:Int)-1).toNat) default) hL hup3 hop3 hidsup3 (asc_oat hto hup3) hk1p3 (by rw[hk2p3];exact objs_data)) [(4,[.bool yp3.dir,.i yp3.mode,.str (wrt yp3.data c.at_ c.data),sln yp3.ids yp3.names.length,slk yp3.ids yp3.kids.length]),(0,clc c)] rfl ⟨rfl,⟨rfl,trivial⟩⟩ ?_
 rintro rr Z1 hZ1
 rw[hpep3]at hZ1
 refine Ke (Fn0 [] [] (Rr (Fn0 [] [(4,.i 0)] (Rt (.i 0) ?_))))
 have hT:=hit_er (x:=(.mk yp3.dir yp3.mode (wrt yp3.data c.at_ c.data) yp3.ids yp3.names yp3.kids)) hL.wf hto hup3 hk1p3
 rw[hpep3]at hT
 have e:iDo (er T) c=(er (orep T c.path (.mk yp3.dir yp3.mode (wrt yp3.data c.at_ c.data) yp3.ids yp3.names yp3.kids)),0):=by
   rw[hT];unfold iDo
   (try simp only[hPp3,hXyp3,hc52,hc57,hc60,hc63,wData,wMode,newDir,Tr.none,er_mk,er_dir,er_mode,er_data,er_names,er_kids,List.map_nil,decide_true,Bool.not_true,Bool.not_false,Bool.true_and,Bool.and_true,Bool.false_and,Bool.and_false,cond_true,cond_false,show decide ((0:Int)=0)=true from rfl,show decide ((3:Int)=0)=false from rfl,show decide ((4:Int)=0)=false from rfl])
   try rfl
 refine fin_dc (.i 0) Z1 (by first|exact List.Sublist.refl _|exact List.Sublist.cons _ (List.Sublist.refl _)|exact List.Sublist.cons _ (List.Sublist.cons _ (List.Sublist.refl _))) (lea_refl _) trivial hZ1.2 ⟨(orep T c.path (.mk yp3.dir yp3.mode (wrt yp3.data c.at_ c.data) yp3.ids yp3.names yp3.kids)),W,?_,hZ1,?_,(orep_shp hL.wf hL.shp hyyp3 (shp_data (oat_shp hL.wf hL.shp hyyp3)))⟩<;>rw[e]
 refine Rr (Cn1 (decide ((c.kind:Int)=(3:Int))) [0,3,5,7,8,32] [] (Ki/\·) ⟨rfl,fun hc71 c71=>?_,fun hc71 c71=>?_⟩)
 refine Sq fun K72 hK72=>?_
 refine Bl (Rr (Fn1 [3,8] [(82,.bool false)] ((∃e,TK.ptr 26=TK.ptr e)/\·) ⟨⟨_,rfl⟩,Cf (Rr ?_)⟩))
 refine An1 3 [(88,.ptr iyp3 Ayp3.length),(87,.ptr iyp3 Ayp3.length),(86,.ptr iyp3 Ayp3.length)] (((1:Nat)≠0)/\·) ⟨dc,geln (t:=yp3) 89 4 iyp3 0 (.bool yp3.dir) (fun J=>by kernel_rfl) ((hgt_ev (E:=[(0,clc c)]) ⟨rfl,trivial⟩ hiyp3).trans hgyp3) kr rfl (Cn0 yp3.dir [3,8] [] ⟨fun hc75 c75=>?_,fun hc75 c75=>?_⟩)⟩
 refine Rr (Fn0 [] [(4,.i 4)] (Rt (.i 4) ?_))
 have hT:er T=er T:=rfl
 have e:iDo (er T) c=(er T,4):=by
   rw[hT];unfold iDo
   (try simp only[hPp3,hXyp3,hc52,hc57,hc71,hc75,wData,wMode,newDir,Tr.none,er_mk,er_dir,er_mode,er_data,er_names,er_kids,List.map_nil,decide_true,Bool.not_true,Bool.not_false,Bool.true_and,Bool.and_true,Bool.false_and,Bool.and_false,cond_true,cond_false,show decide ((0:Int)=0)=true from rfl,show decide ((3:Int)=0)=false from rfl,show decide ((4:Int)=0)=false from rfl])
   try rfl
 refine fin_dc (.i 4) Z (by first|exact List.Sublist.refl _|exact List.Sublist.cons _ (List.Sublist.refl _)|exact List.Sublist.cons _ (List.Sublist.cons _ (List.Sublist.refl _))) (lea_refl _) trivial hL.odd ⟨T,W,?_,⟨hL.perm,hL.odd⟩,?_,hL.shp⟩<;>rw[e]
 refine Sk (Bn (Jn (hK72 (Kp [3,8] ?_))))
 obtain⟨f8,f9⟩:=f3 (.inr (by simpa using hc71))
 refine Qb [0,0,2,6,14,0,32,126,255,511,1023] [(0,[]),(1,[]),(2,[]),(3,[]),(4,[]),(5,[]),(6,[]),(7,[]),(8,[]),(9,[]),(10,[])] (fun h=>Bn (Jn (hK49 h))) (qAn1 4 [(93,.ptr iyp3 (Ayp3.length+2)),(92,.ptr iyp3 Ayp3.length),(91,.ptr iyp3 Ayp3.length),(90,.ptr iyp3 Ayp3.length)] (((1:Nat)≠0)/\·) ⟨dc,gqln (t:=yp3) 94 9 iyp3 2 (.str yp3.data) (fun J=>by kernel_rfl) ((hgt_ev (E:=[(0,clc c)]) ⟨rfl,trivial⟩ hiyp3).trans hgyp3) kr rfl (qBc1 3 [(96,.i c.at_),(95,.ptr 0 3)] [] 76 [.str yp3.data,.i c.at_] 97 (((1:Nat)≠0)/\(3+1<=5/\3<5)/\·) ⟨dc,dc,PE.use (sized_ok yp3.data c.at_ om om om) ?_⟩)⟩)
 refine Kq (p:=(True)) trivial ?_
 refine qAn1 2 [(99,.ptr iyp3 (Ayp3.length+2)),(98,.ptr iyp3 Ayp3.length)] (((1:Nat)≠0)/\·) ⟨dc,gqsn (t:=yp3) 9 iyp3 2 (.str (szd yp3.data c.at_)) (.mk yp3.dir yp3.mode (szd yp3.data c.at_) yp3.ids yp3.names yp3.kids) ((0,clc c)::(hset Z iyp3 (Ayp3++otc (.mk yp3.dir yp3.mode (szd yp3.data c.at_) yp3.ids yp3.names yp3.kids)++Byp3))) (fun J=>by kernel_rfl) ((hgt_ev (E:=[(0,clc c)]) ⟨rfl,trivial⟩ hiyp3).trans hgyp3) kr rfl rfl (hset_ev (E:=[(0,clc c)]) ⟨rfl,trivial⟩ hiyp3) ?_⟩
 obtain⟨kp3,hk1p3,hk2p3⟩:=oat_kid_some hup3 (by rw[hpep3];exact hyyp3)
 have hZ1:=setL (y':=(.mk yp3.dir yp3.mode (szd yp3.data c.at_) yp3.ids yp3.names yp3.kids)) hnd hL.odd hpyp3 hryp3 rfl rfl
 generalize (hset Z iyp3 (Ayp3++otc (.mk yp3.dir yp3.mode (szd yp3.data c.at_) yp3.ids yp3.names yp3.kids)++Byp3))=Z1 at hZ1⊢
 refine qFn0 [] [] (Rr (Fn0 [] [(4,.i 0)] (Rt (.i 0) ?_)))
 have hT:=hit_er (x:=(.mk yp3.dir yp3.mode (szd yp3.data c.at_) yp3.ids yp3.names yp3.kids)) hL.wf hto hup3 hk1p3
 rw[hpep3]at hT
 have e:iDo (er T) c=(er (orep T c.path (.mk yp3.dir yp3.mode (szd yp3.data c.at_) yp3.ids yp3.names yp3.kids)),0):=by
   rw[hT];unfold iDo
   (try simp only[hPp3,hXyp3,hc52,hc57,hc71,hc75,wData,wMode,newDir,Tr.none,er_mk,er_dir,er_mode,er_data,er_names,er_kids,List.map_nil,decide_true,Bool.not_true,Bool.not_false,Bool.true_and,Bool.and_true,Bool.false_and,Bool.and_false,cond_true,cond_false,show decide ((0:Int)=0)=true from rfl,show decide ((3:Int)=0)=false from rfl,show decide ((4:Int)=0)=false from rfl])
   try rfl
 refine fin_dc (.i 0) Z1 (by first|exact List.Sublist.refl _|exact List.Sublist.cons _ (List.Sublist.refl _)|exact List.Sublist.cons _ (List.Sublist.cons _ (List.Sublist.refl _))) (lea_refl _) trivial hZ1.2 ⟨(orep T c.path (.mk yp3.dir yp3.mode (szd yp3.data c.at_) yp3.ids yp3.names yp3.kids)),W,?_,hZ1,?_,(orep_shp hL.wf hL.shp hyyp3 (shp_data (oat_shp hL.wf hL.shp hyyp3)))⟩<;>rw[e]
 refine Rr (Cn1 (decide ((c.kind:Int)=(4:Int))) [0,3,5,7,8,32] [] (Ki/\·) ⟨rfl,fun hc79 c79=>?_,fun hc79 c79=>?_⟩)
 refine Sq fun K80 hK80=>?_
 refine Bl (Rr (Fn1 [5,7,8] [(102,.bool false)] ((∃e,TK.ptr 26=TK.ptr e)/\·) ⟨⟨_,rfl⟩,Cf (Rm 105 (yp3.dir&&(decide ((0:Int)<((yp3.names.length:Int):Int)))) [5,7] ?_ ?_)⟩))
 refine An1 3 [(108,.ptr iyp3 Ayp3.length),(107,.ptr iyp3 Ayp3.length),(106,.ptr iyp3 Ayp3.length)] (((1:Nat)≠0)/\·) ⟨dc,geln (t:=yp3) 109 4 iyp3 0 (.bool yp3.dir) (fun J=>by kernel_rfl) ((hgt_ev (E:=[(0,clc c)]) ⟨rfl,trivial⟩ hiyp3).trans hgyp3) kr rfl (An0 1 [(110,.bool yp3.dir)] (Rg (fun hg83 g83=>?_) (fun hg83 g83=>?_)))⟩
 refine An1 3 [(113,.ptr iyp3 (Ayp3.length+3)),(112,.ptr iyp3 Ayp3.length),(111,.ptr iyp3 Ayp3.length)] (((1:Nat)≠0)/\·) ⟨dc,geln (t:=yp3) 114 23 iyp3 3 (.osl (2*ayp3+1) 1 0 yp3.names.length) (fun J=>by kernel_rfl) ((hgt_ev (E:=[(0,clc c)]) ⟨rfl,trivial⟩ hiyp3).trans hgyp3) kr (by rw[otc,hidsyp3];rfl) (Mn1 (decide ((0:Int)<((yp3.names.length:Int):Int))) (Ki/\·) ⟨rfl,(by rw[hg83];rfl)⟩)⟩
 refine Mn0 false (by rw[hg83];rfl)
 refine Cc (yp3.dir&&(decide ((0:Int)<((yp3.names.length:Int):Int)))) (fun hc84 c84=>?_) fun hc84 c84=>?_
 refine Rr (Fn0 [] [(4,.i 5)] (Rt (.i 5) ?_))
 have hT:er T=er T:=rfl
 have e:iDo (er T) c=(er T,5):=by
   rw[hT];unfold iDo
   (try simp only[hPp3,hXyp3,hc52,hc57,hc71,hc79,hc84,wData,wMode,newDir,Tr.none,er_mk,er_dir,er_mode,er_data,er_names,er_kids,List.map_nil,decide_true,Bool.not_true,Bool.not_false,Bool.true_and,Bool.and_true,Bool.false_and,Bool.and_false,cond_true,cond_false,show decide ((0:Int)=0)=true from rfl,show decide ((3:Int)=0)=false from rfl,show decide ((4:Int)=0)=false from rfl])
   try rfl
 refine fin_dc (.i 5) Z (by first|exact List.Sublist.refl _|exact List.Sublist.cons _ (List.Sublist.refl _)|exact List.Sublist.cons _ (List.Sublist.cons _ (List.Sublist.refl _))) (lea_refl _) trivial hL.odd ⟨T,W,?_,⟨hL.perm,hL.odd⟩,?_,hL.shp⟩<;>rw[e]
 refine Sk (Bn (Jn (hK80 (Kp [5,7] (Rb (fun h=>Bn (Jn (hK49 h))) (Bc0 3 [(119,.str (c.path.getD (((c.path.length:Int)-1).toNat) default)),(118,.ptr ip3 Ap3.length)] 77 [.ptr ip3 Ap3.length,.str (c.path.getD (((c.path.length:Int)-1).toNat) default)] 120 ?_))))))
 obtain⟨kp3,hk1p3,hk2p3⟩:=oat_kid_some hup3 (by rw[hpep3];exact hyyp3)
 obtain⟨⟨aup3,bup3⟩,hidsup3⟩:=Option.isSome_iff_exists.1 ((asm_eq _).1 (oat_asm hL.wf ha hup3)).1
 refine DC.use (dropL (c.path.getD (((c.path.length:Int)-1).toNat) default) hL hup3 hop3 hidsup3 hk1p3) [(0,clc c)] rfl ⟨rfl,trivial⟩ ?_
 rintro rr Z1 ⟨W1,hZ1⟩
 refine Ke (Fn0 [] [] (Rr (Fn0 [] [(4,.i 0)] (Rt (.i 0) ?_))))
 have hT:=gone_er hL.wf (tnd_ok hto) hup3 hk1p3
 rw[hpep3]at hT
 have e:iDo (er T) c=(er (orep T (c.path.take (c.path.length-1)) (.mk up3.dir up3.mode up3.data up3.ids (up3.names.take kp3++up3.names.drop (kp3+1)) (up3.kids.take kp3++up3.kids.drop (kp3+1)))),0):=by
   rw[hT];unfold iDo
   (try simp only[hPp3,hXyp3,hc52,hc57,hc71,hc79,hc84,wData,wMode,newDir,Tr.none,er_mk,er_dir,er_mode,er_data,er_names,er_kids,List.map_nil,decide_true,Bool.not_true,Bool.not_false,Bool.true_and,Bool.and_true,Bool.false_and,Bool.and_false,cond_true,cond_false,show decide ((0:Int)=0)=true from rfl,show decide ((3:Int)=0)=false from rfl,show decide ((4:Int)=0)=false from rfl])
   try rfl
 refine fin_dc (.i 0) Z1 (by first|exact List.Sublist.refl _|exact List.Sublist.cons _ (List.Sublist.refl _)|exact List.Sublist.cons _ (List.Sublist.cons _ (List.Sublist.refl _))) (lea_refl _) trivial hZ1.2 ⟨(orep T (c.path.take (c.path.length-1)) (.mk up3.dir up3.mode up3.data up3.ids (up3.names.take kp3++up3.names.drop (kp3+1)) (up3.kids.take kp3++up3.kids.drop (kp3+1)))),W1,?_,hZ1,?_,(orep_shp hL.wf hL.shp hup3 (drop_shp (oat_shp hL.wf hL.shp hup3)))⟩<;>rw[e]
 refine Rr (Cn1 (decide ((c.kind:Int)=(5:Int))) [0,3,8,32] [] (Ki/\·) ⟨rfl,fun hc88 c88=>?_,fun hc88 c88=>?_⟩)
 refine Rr (Bc1 3 [(124,.agg (clc c)),(123,.ptr r A0.length)] 78 [.ptr r A0.length,.agg (clc c)] 125 ((0+5<=5/\0<5)/\·) ⟨dc,?_⟩)
 obtain⟨f5,f6⟩:=f4 (by simpa using hc88)
 refine DC.use (rename_ok c hL ha hto f1 f2 f5 f6) [(0,clc c)] rfl ⟨rfl,trivial⟩ ?_
 rintro _ Z1 ⟨T1,W1,rfl,hZ1,he1,hs1⟩
 refine Ke (Fn0 [] [(4,.i ((iRename (er T) c).2))] (Rt (.i ((iRename (er T) c).2)) ?_))
 have hT:=he1
 have e:iDo (er T) c=(er T1,(iRename (er T) c).2):=by
   rw[hT];unfold iDo
   (try simp only[hPp3,hXyp3,hc52,hc57,hc71,hc79,hc88,wData,wMode,newDir,Tr.none,er_mk,er_dir,er_mode,er_data,er_names,er_kids,List.map_nil,decide_true,Bool.not_true,Bool.not_false,Bool.true_and,Bool.and_true,Bool.false_and,Bool.and_false,cond_true,cond_false,show decide ((0:Int)=0)=true from rfl,show decide ((3:Int)=0)=false from rfl,show decide ((4:Int)=0)=false from rfl])
   try rfl
 refine fin_dc (.i ((iRename (er T) c).2)) Z1 (by first|exact List.Sublist.refl _|exact List.Sublist.cons _ (List.Sublist.refl _)|exact List.Sublist.cons _ (List.Sublist.cons _ (List.Sublist.refl _))) (lea_refl _) trivial hZ1.2 ⟨T1,W1,?_,hZ1,?_,hs1⟩<;>rw[e]
 refine Rr (Cn1 (decide ((c.kind:Int)=(6:Int))) [3,8] [] (Ki/\·) ⟨rfl,fun hc91 c91=>?_,fun hc91 c91=>?_⟩)
 refine Sq fun K92 hK92=>?_
 refine Rr (Fn1 [3,8] [(129,.bool false)] ((∃e,TK.ptr 26=TK.ptr e)/\·) ⟨⟨_,rfl⟩,Cf (Sk (Jn (hK92 (Kp [3,8] (Rb (fun h=>Bn (Jn (hK49 h))) ?_)))))⟩)
 refine An1 5 [(134,.ptr iyp3 (Ayp3.length+1)),(133,.ptr iyp3 Ayp3.length),(132,.i c.at_),(131,.ptr 0 3),(130,.ptr iyp3 Ayp3.length)] (((1:Nat)≠0)/\(3+1<=5/\3<5)/\((1:Nat)≠0)/\·) ⟨dc,dc,dc,gesn (t:=yp3) 3 iyp3 1 (.i c.at_) (.mk yp3.dir c.at_ yp3.data yp3.ids yp3.names yp3.kids) ((0,clc c)::(hset Z iyp3 (Ayp3++otc (.mk yp3.dir c.at_ yp3.data yp3.ids yp3.names yp3.kids)++Byp3))) (fun J=>by kernel_rfl) ((hgt_ev (E:=[(0,clc c)]) ⟨rfl,trivial⟩ hiyp3).trans hgyp3) kr rfl rfl (hset_ev (E:=[(0,clc c)]) ⟨rfl,trivial⟩ hiyp3) ?_⟩
 obtain⟨kp3,hk1p3,hk2p3⟩:=oat_kid_some hup3 (by rw[hpep3];exact hyyp3)
 have hZ1:=setL (y':=(.mk yp3.dir c.at_ yp3.data yp3.ids yp3.names yp3.kids)) hnd hL.odd hpyp3 hryp3 rfl rfl
 generalize (hset Z iyp3 (Ayp3++otc (.mk yp3.dir c.at_ yp3.data yp3.ids yp3.names yp3.kids)++Byp3))=Z1 at hZ1⊢
 refine Fn0 [] [] (Rr (Fn0 [] [(4,.i 0)] (Rt (.i 0) ?_)))
 have hT:=hit_er (x:=(.mk yp3.dir c.at_ yp3.data yp3.ids yp3.names yp3.kids)) hL.wf hto hup3 hk1p3
 rw[hpep3]at hT
 have e:iDo (er T) c=(er (orep T c.path (.mk yp3.dir c.at_ yp3.data yp3.ids yp3.names yp3.kids)),0):=by
   rw[hT];unfold iDo
   (try simp only[hPp3,hXyp3,hc52,hc57,hc71,hc79,hc88,hc91,wData,wMode,newDir,Tr.none,er_mk,er_dir,er_mode,er_data,er_names,er_kids,List.map_nil,decide_true,Bool.not_true,Bool.not_false,Bool.true_and,Bool.and_true,Bool.false_and,Bool.and_false,cond_true,cond_false,show decide ((0:Int)=0)=true from rfl,show decide ((3:Int)=0)=false from rfl,show decide ((4:Int)=0)=false from rfl])
   try rfl
 refine fin_dc (.i 0) Z1 (by first|exact List.Sublist.refl _|exact List.Sublist.cons _ (List.Sublist.refl _)|exact List.Sublist.cons _ (List.Sublist.cons _ (List.Sublist.refl _))) (lea_refl _) trivial hZ1.2 ⟨(orep T c.path (.mk yp3.dir c.at_ yp3.data yp3.ids yp3.names yp3.kids)),W,?_,hZ1,?_,(orep_shp hL.wf hL.shp hyyp3 (shp_data (oat_shp hL.wf hL.shp hyyp3)))⟩<;>rw[e]
 refine Sk (Bn (Jn (hK49 (Kp [] (Rr (Fn0 [] [(4,.i 0)] (Rt (.i 0) ?_)))))))
 have hT:er T=er T:=rfl
 have e:iDo (er T) c=(er T,0):=by
   rw[hT];unfold iDo
   (try simp only[hPp3,hXyp3,hc52,hc57,hc71,hc79,hc88,hc91,wData,wMode,newDir,Tr.none,er_mk,er_dir,er_mode,er_data,er_names,er_kids,List.map_nil,decide_true,Bool.not_true,Bool.not_false,Bool.true_and,Bool.and_true,Bool.false_and,Bool.and_false,cond_true,cond_false,show decide ((0:Int)=0)=true from rfl,show decide ((3:Int)=0)=false from rfl,show decide ((4:Int)=0)=false from rfl])
   try rfl
 refine fin_dc (.i 0) Z (by first|exact List.Sublist.refl _|exact List.Sublist.cons _ (List.Sublist.refl _)|exact List.Sublist.cons _ (List.Sublist.cons _ (List.Sublist.refl _))) (lea_refl _) trivial hL.odd ⟨T,W,?_,⟨hL.perm,hL.odd⟩,?_,hL.shp⟩<;>rw[e]
 dsimp only
 have hPp3:parC (er T) c.path=3:=by rw[parC_er,hup3]
 refine Ke (Fn1 [0,3] [(6,.i 3),(5,.nilp)] ((0<2)/\(1<2)/\·) ⟨dc,dc,Sq fun K96 hK96=>?_⟩)
 refine Rr (Fn1 [0,3,5,6] [(18,.bool true)] (Ki/\·) ⟨rfl,Ct (Rr (Fn0 [] [(4,.i 3)] ?_))⟩)
 refine Rt (.i 3) ?_
 have hT:er T=er T:=rfl
 have e:iDo (er T) c=(er T,3):=by
   rw[hT];unfold iDo
   (try simp only[hPp3,wData,wMode,newDir,Tr.none,er_mk,er_dir,er_mode,er_data,er_names,er_kids,List.map_nil,decide_true,Bool.not_true,Bool.not_false,Bool.true_and,Bool.and_true,Bool.false_and,Bool.and_false,cond_true,cond_false,show decide ((0:Int)=0)=true from rfl,show decide ((3:Int)=0)=false from rfl,show decide ((4:Int)=0)=false from rfl])
   try rfl
 refine fin_dc (.i 3) Z (by first|exact List.Sublist.refl _|exact List.Sublist.cons _ (List.Sublist.refl _)|exact List.Sublist.cons _ (List.Sublist.cons _ (List.Sublist.refl _))) (lea_refl _) trivial hL.odd ⟨T,W,?_,⟨hL.perm,hL.odd⟩,?_,hL.shp⟩<;>rw[e]
set_option maxRecDepth 100000
theorem h_dfz {np:Nat} {G:Prg} {c:Code} {F0:Fr} {H' Z W:Hp} {n:Nat} {Q:Post} {k r:Nat} {T:OT} (hz:Z.Perm ((r,[]++otc T++[])::(objs T++W))) (hsT:shp T)
  (h:TT np G.P c ((k,.pat (tcs (er T)))::F0) H' n Q):TT np G.P c ((k,.ptr r 0)::F0) (H'++Z) n Q:=by
 refine TT_conv h fun X N ρ a w hs=>?_
 have hsub:H'.Sublist (H'++Z):=List.sublist_append_left _ _
 have hO:∀b,OX X ρ H' b->OX X ρ (H'++Z) b:=fun b hb=>hb.imp id (Own.sub hsub)
 have hnd:=hs.hr.nodup
 simp only[ids,List.map_append]at hnd
 have hno:∀i b,i∈ids Z->ρ i=some b->¬OX X ρ H' b:=by
  intro i b hi hb hx
  have hi2:i∈ids (H'++Z):=by simp only[ids,List.map_append,List.mem_append];exact .inr hi
  rcases hx with hx|⟨j,hj,hb'⟩
  ·exact hs.hr.notX i b hi2 hb hx
  ·have:=hs.hr.inj i j b hi2 (by simp only[ids,List.map_append,List.mem_append];exact .inl hj) hb hb'
   subst this
   exact(List.nodup_append.1 hnd).2.2 _ hj _ hi rfl
 refine⟨ρ,⟨hs.fresh,hs.hr.sub hsub,fun t=>?_,hs.df,hs.sz⟩,fun b hb=>Own.sub hsub hb,fun _ _ _ h=>h⟩
 have ht:=hs.fr t
 simp only[gt]at ht⊢
 cases hk:k==t with
 |false=>rw[hk]at ht;exact VR_carry (Carry.less hO) _ _ ht
 |true=>
  rw[hk]at ht
  have ht:VR ρ w (OX X ρ (H'++Z)) (.ptr r 0) (a.tmps.getD t undef):=ht
  show VR ρ w (OX X ρ H') (.pat (tcs (er T))) (a.tmps.getD t undef)
  simp only[VR]at ht⊢
  obtain⟨b,hb,hv⟩:=ht
  have hm:(r,[]++otc T++[])∈H'++Z:=List.mem_append.2 (.inr (hz.mem_iff.2 (by simp)))
  obtain⟨b',c',e',f',q1,q2,q3,q4,q5,q6⟩:=hs.hr.obj _ _ hm
  rw[hb]at q1;cases q1
  simp only[List.nil_append,List.append_nil]at q5 q6
  have hmz:∀p,p∈objs T->p∈Z:=fun p hp=>hz.mem_iff.2 (by simp only[List.mem_cons,List.mem_append];exact .inr (.inl hp))
  have hd := deep_vr (X' := OX X ρ H') hs.hr hO T _ _ hsT (fun p hp => List.mem_append.2 (.inr (hmz p hp))) (fun i b hi hb => hno i b (by
   obtain⟨p,hp,rfl⟩:=List.mem_map.1 hi
   exact List.mem_map.2 ⟨p,hmz p hp,rfl⟩) hb) q6
  refine⟨_,hv,hno r b (List.mem_map.2 ⟨(r,[]++otc T++[]),hz.mem_iff.2 (by simp),rfl⟩) hb,(Array.getElem?_eq_some_iff.1 q2).1,?_⟩
  rw[show tcs (er T)=trc (er T)from(trc_eq _).symm]
  have hl:(trc (er T)).length=5:=by rw[trc_eq];rfl
  exact PCs_of q2 q4 (trc (er T)) 0 0 (by rw[hl];rw[otc_len]at q5;omega) (by rw[hl,List.drop_zero];rw[otc_len]at hd;exact hd)
theorem wrt_len {s d:Str} {a:Int} (h:0<=a):(wrt s a d).length<=s.length+a.toNat+d.length:=by
 have hz:=szd_len (s:=s) h
 unfold wrt
 dsimp only
 split<;>split<;>(try simp only[List.length_append,List.length_take,List.length_drop])<;>omega
theorem W_new (m:Int):(newDir m).W=1:=by simp[newDir,Tr.W,wS,Tr.Ws]
theorem W_iDo {t:Tr} {c:Cl} (ht:t.W<2^10) (f2:wS c.path<2^10) (f3:c.kind=2\/c.kind=3->0<=c.at_/\c.at_<=24) (f6:c.kind=5->wS c.to<2^10):(iDo t c).1.W<2^40:=by
 have h0:t.W<2^40:=by omega
 have key:∀(x:Tr) (g:Bool),x.W<2^12->(tset c.path t x g).W<2^40:=fun x g hx=>by
  have:=W_tset_lt2 (p:=c.path) (t:=t) (x:=x) (g:=g) (by omega) hx f2
  omega
 have hx:∀{x},tat t c.path=some x->x.W<2^10:=fun h=>by have:=W_tat _ _ _ h;omega
 unfold iDo
 cases decide (parC t c.path=(0:Int))<;>simp only[Bool.not_true,Bool.not_false,cond_true,cond_false]
 ·exact h0
 cases decide (c.kind=(1:Int))<;>simp only[cond_true,cond_false]
 case true=>split;exact h0;exact key _ _ (by rw[W_new];omega)
 cases hk:decide (c.kind=(2:Int))<;>simp only[cond_true,cond_false]
 case true=>
  obtain⟨f8,f9⟩:=f3 (.inl (by simpa using hk))
  split
  ·rename_i x he
   cases x.dir<;>simp only[cond_true,cond_false]
   case true=>exact h0
   cases hd:decide ((24:Int)<c.at_+((c.data.length:Nat):Int))<;>simp only[cond_true,cond_false]
   ·simp only[decide_eq_false_iff_not]at hd
    refine key _ _ ?_
    have h1:=W_wData x (wrt x.data c.at_ c.data)
    have h2:=wrt_len (s:=x.data) (d:=c.data) f8
    have:=hx he
    have:=data_W x
    omega
   ·exact h0
  ·cases hd:decide ((24:Int)<c.at_+((c.data.length:Nat):Int))<;>simp only[cond_true,cond_false]
   ·simp only[decide_eq_false_iff_not]at hd
    refine key _ _ ?_
    have h1:=W_wData .none (wrt [] c.at_ c.data)
    have h2:=wrt_len (s:=[]) (d:=c.data) f8
    have h3:Tr.none.data.length=0:=rfl
    rw[W_none]at h1
    simp only[List.length_nil]at h2
    omega
   ·exact h0
 cases hk:decide (c.kind=(3:Int))<;>simp only[cond_true,cond_false]
 case true=>
  obtain⟨f8,f9⟩:=f3 (.inr (by simpa using hk))
  split
  ·exact h0
  ·rename_i x he
   cases x.dir<;>simp only[cond_true,cond_false]
   case true=>exact h0
   refine key _ _ ?_
   have h1:=W_wData x (szd x.data c.at_)
   have h2:=szd_len (s:=x.data) f8
   have:=hx he
   have:=data_W x
   omega
 cases decide (c.kind=(4:Int))<;>simp only[cond_true,cond_false]
 case true=>
  split
  ·exact h0
  ·rename_i x he
   cases x.dir&&decide ((0:Int)<((x.names.length:Nat):Int))<;>simp only[cond_true,cond_false]
   ·exact key _ _ (by rw[W_none];omega)
   ·exact h0
 cases hk:decide (c.kind=(5:Int))<;>simp only[cond_true,cond_false]
 case true=>
  have f7:=f6 (by simpa using hk)
  unfold iRename
  split
  ·exact h0
  ·rename_i x he
   cases c.path.isPrefixOf c.to<;>simp only[cond_true,cond_false]
   case true=>exact h0
   cases decide (parC t c.to=(0:Int))<;>simp only[Bool.not_true,Bool.not_false,cond_true,cond_false]
   ·exact h0
   split
   ·exact h0
   ·have h1:=W_tset_lt2 (p:=c.to) (t:=t) (x:=x) (g:=false) (by omega) (by have:=hx he;omega) f7
    have h2:=W_tset_lt3 (p:=c.path) (t:=tset c.to t x false) (x:=.none) (g:=true) h1 (by rw[W_none];omega) f2
    exact h2
 cases decide (c.kind=(6:Int))<;>simp only[cond_true,cond_false]
 ·exact h0
 ·split
  ·exact h0
  ·rename_i x he
   exact key _ _ (by rw[W_wMode];have:=hx he;omega)
open Go Go.Proofs
set_option maxRecDepth 100000
def aDo (t:Tr) (c:Cl):Tr×Int:=
  bif !callOk c then(t,2)else bif !decide ((iDo t c).2=(0:Int))then(t,(iDo t c).2)else bif !treeOk (iDo t c).1 then(t,6)else((iDo t c).1,0)
def iTreeDo (t:Tr) (c:Cl):Tr×Int:=bif !treeOk t then(.none,1)else aDo t c
set_option maxHeartbeats 2000000 in
theorem after_ok (t:Tr) (c:Cl) (hto:treeOk t=true) (h1:wS c.path<2^40) (h2:wS c.to<2^40) (h3:c.data.length<2^20):PE G 25 [.agg (tcs t),.agg (clc c)] (.tup [.agg (tcs (aDo t c).1),.i (aDo t c).2]):=by
 have hl1:=wS_len c.path;have hl2:=wS_len c.to;have hWT:=W_ok hto
 refine Pe Tryz.func25 ?_
 refine Rr (Fn2 [] [(4,.ptr 8 0),(3,.ptr 4 0),(2,.ptr 0 0)] ([(8,zt),(4,clc c),(0,tcs t)]++·) 12 (Sq fun K2 hK2=>?_))
 refine Rr (Pc1 2 [(8,.agg (clc c))] 9 (0+5<=5/\0<5) dc (isCall_ok c om om) (Cn0 (!(callOk c)) [2,3,4] [] ⟨fun hc4 c4=>?_,fun hc4 c4=>?_⟩))
 refine Rr (Pc1 2 [(11,.agg (tcs t))] 12 (0+5<=5/\0<5) dc (clonep_ok _ t rfl om) (Fn3 [4] [(5,.i 2)] (fun _=>((8,tcs t)::(4,clc c)::(0,tcs t)::[])) 12 ((true=true/\5=5/\0+5<=5)/\·) ⟨dc,Rt1 ((0+5<=5/\0<5)/\·) (.tup [.agg (tcs t),.i 2]) ⟨dc,?_⟩⟩))
 have e:aDo t c=(t,2):=by
   unfold aDo
   simp only[hc4,cond_true,cond_false]
 refine fin_lea ?_
 rw[e];exact lea_refl _
 refine Sk (Jn (hK2 (Kp [2,3,4] ?_)))
 have hco:callOk c=true:=by simpa using hc4
 obtain⟨f1,f2,f3,f4⟩:=callOk_facts hco
 refine Rr (Bc1 2 [(13,.agg (tcs t))] 50 [.agg (tcs t)] 14 ((0+5<=5/\0<5)/\·) ⟨dc,TCall.mono (cl_use (View.refl _ _) (clone_ok _ t rfl om)) ?_⟩)
 rintro _ H1 _ _ ⟨rfl,Tn,hH1,he,hs,ha,rfl⟩
 have hH2:H1=((8,zt)::(4,clc c)::(0,tcs t)::objs Tn):=by rw[hH1];simp only[List.cons_append,List.nil_append]
 clear hH1;subst hH2
 refine Ke (Fn3 [2,3,4] [(6,.ptr 12 0)] ([(12,otc Tn)]++·) 16 ((true=true/\5=5/\0+5<=5)/\·) ⟨dc,Sq fun K7 hK7=>?_⟩)
 refine h_pm (H':=((8,zt)::(4,clc c)::(0,tcs t)::(12,otc Tn)::(objs Tn))) (List.Perm.trans (List.Perm.cons _ (List.Perm.cons _ (List.Perm.swap _ _ _))) (List.Perm.trans (List.Perm.cons _ (List.Perm.swap _ _ _)) (List.Perm.swap _ _ _))) ?_
 refine h_k [2,3,4,6] (F':=[(2,.ptr 0 0),(3,.ptr 4 0),(4,.ptr 8 0),(6,.ptr 12 0)]) kr ?_
 refine Hn ((8,zt)::(4,clc c)::(0,tcs t)::(12,otc Tn)::(objs Tn)) (h_odd (H:=[(8,zt),(4,clc c),(0,tcs t),(12,otc Tn)]) 12 (fun jr=>[(2,.ptr 0 0),(3,.ptr 4 0),(4,.ptr 8 0),(6,.ptr (2*jr+1) 0)]) (fun jr=>[(8,zt),(4,clc c),(0,tcs t),((2*jr+1),otc Tn)]) kr (odH_objs Tn) (fun jr=>⟨by simp only[slF,slp,slps,go_sem,and_self],kr⟩) (fun jr=>⟨rfl,.inr ⟨by simp only[tcs,slps,slp,go_sem,and_self],kr⟩,rfl,.inr ⟨by simp only[tcs,slps,slp,go_sem,and_self],kr⟩,rfl,.inr ⟨by simp only[tcs,slps,slp,go_sem,and_self],kr⟩,rfl,.inl ⟨ods_otc _,rfl⟩,trivial⟩) (fun jr=>(Rr (Bc1 2 [(15,.agg (clc c))] 51 [.ptr (2*jr+1) 0,.agg (clc c)] 16 ((0+5<=5/\0<5)/\·) ⟨dc,?_⟩))))
 have hL:Lies ((2*jr+1,otc Tn)::objs Tn) (2*jr+1) [] [] Tn []:=⟨⟨om,ods_otc Tn,odH_objs Tn⟩,om,by simp,by unfold owf;rw[he];exact wf_ok hto,hs,osm_W Tn (by rw[he];omega)⟩
 refine DC.use (do_ok (A0:=[]) (B0:=[]) c hL ha (by rw[he];exact hto) f1 f2 f3 f4 h3) [(8,zt),(4,clc c),(0,tcs t)] rfl ⟨rfl,⟨rfl,⟨rfl,trivial⟩⟩⟩ ?_
 rintro _ Z1 ⟨T1,W1,rfl,hZ1,he1,hs1⟩
 rw[he]at he1⊢
 have hWi:=W_iDo (c:=c) hWT f2 f3 (fun h=>(f4 h).2)
 refine Ke (Fn0 [2,4,6] [(7,.i ((iDo t c).2))] (Rr (Cn1 (!decide (((iDo t c).2:Int)=(0:Int))) [2,4,6,7] [] (Ki/\·) ⟨rfl,fun hc10 c10=>?_,fun hc10 c10=>?_⟩)))
 refine Rr (Pc1 2 [(19,.agg (tcs t))] 20 (0+5<=5/\0<5) dc (clonep_ok _ t rfl om) (Fn3 [4] [(5,.i ((iDo t c).2))] (fun _=>((8,tcs t)::(4,clc c)::(0,tcs t)::Z1)) 16 ((true=true/\5=5/\0+5<=5)/\·) ⟨dc,Rt1 ((0+5<=5/\0<5)/\·) (.tup [.agg (tcs t),.i ((iDo t c).2)]) ⟨dc,?_⟩⟩))
 have e:aDo t c=(t,(iDo t c).2):=by
   unfold aDo
   simp only[hc4,hc10,cond_true,cond_false]
 refine fin_lea ?_
 rw[e];exact lea_refl _
 refine Sk (Jn (hK7 (Kp [2,4,6] (Sq fun K12 hK12=>?_))))
 refine h_k [6,2,4] (F':=[(6,.ptr (2*jr+1) 0),(2,.ptr 0 0),(4,.ptr 8 0)]) kr ?_
 refine h_dfz (k:=6) (H':=[(8,zt),(4,clc c),(0,tcs t)]) (Z:=Z1) hZ1.1 hs1 ?_
 rw[he1]
 refine Rr (Pc1 2 [(22,.agg (tcs ((iDo t c).1)))] 23 (5<=5/\0<5) dc (TreeOk_ok ((iDo t c).1) om) (Cn0 (!(treeOk ((iDo t c).1))) [2,4,6] [] ⟨fun hc14 c14=>?_,fun hc14 c14=>?_⟩))
 refine Rr (Pc1 2 [(25,.agg (tcs t))] 26 (0+5<=5/\0<5) dc (clonep_ok _ t rfl om) (Fn3 [4] [(5,.i 6)] (Hw [(8,tcs t)] [] ·) 16 ((true=true/\5=5/\0+5<=5)/\·) ⟨dc,Rt1 ((0+5<=5/\0<5)/\·) (.tup [.agg (tcs t),.i 6]) ⟨dc,?_⟩⟩))
 have e:aDo t c=(t,6):=by
   unfold aDo
   simp only[hc4,hc10,hc14,cond_true,cond_false]
 refine fin_lea ?_
 rw[e];exact lea_refl _
 refine Sk (Jn (hK12 (Kp [4,6] (Rr (Pc1 2 [(27,.agg (tcs ((iDo t c).1)))] 28 (5<=5/\0<5) dc (clonep_ok _ ((iDo t c).1) rfl om) (Fn3 [4] [(5,.i 0)] (Hw [(8,tcs ((iDo t c).1))] [] ·) 16 ((true=true/\5=5/\0+5<=5)/\·) ⟨dc,Rt1 ((0+5<=5/\0<5)/\·) (.tup [.agg (tcs ((iDo t c).1)),.i 0]) ⟨dc,?_⟩⟩))))))
 have e:aDo t c=(((iDo t c).1),0):=by
   unfold aDo
   simp only[hc4,hc10,hc14,cond_true,cond_false]
 refine fin_lea ?_
 rw[e];exact lea_refl _
theorem iTreeDo_ok (t:Tr) (c:Cl) (hw0:t.W<2^40) (h1:wS c.path<2^40) (h2:wS c.to<2^40) (h3:c.data.length<2^20):PE G 12 [.agg (tcs t),.agg (clc c)] (.tup [.agg (tcs (iTreeDo t c).1),.i (iTreeDo t c).2]):=by
 refine Pe Tryz.func12 ?_
 refine Rr (Fn2 [] [(4,.ptr 8 0),(3,.ptr 4 0),(2,.ptr 0 0)] ([(8,zt),(4,clc c),(0,tcs t)]++·) 12 (Sq fun K2 hK2=>?_))
 refine Rr (Pc1 2 [(6,.agg (tcs t))] 7 (0+5<=5/\0<5) dc (TreeOk_ok t om) (Cn0 (!(treeOk t)) [2,3,4] [] ⟨fun hc4 c4=>?_,fun hc4 c4=>?_⟩))
 refine Rr (Fn1 [4] [(5,.i 1)] ((true=true/\5=5/\0+5<=5)/\·) ⟨dc,Rt1 ((0+5<=5/\0<5)/\·) (.tup [.agg zt,.i 1]) ⟨dc,?_⟩⟩)
 · refine fin_lea ?_
   unfold iTreeDo;simp only[hc4,cond_true,cond_false]
   first|exact lea_refl _|(simp[lea,leas,Tr.none,tcs,pth];done)
 refine Sk (Jn (hK2 (Kp [2,3,4] (Rr (Bc1 3 [(11,.agg (clc c)),(10,.agg (tcs t))] 25 [.agg (tcs t),.agg (clc c)] 12 ((0+5<=5/\0<5)/\(0+5<=5/\0<5)/\·) ⟨dc,dc,PE.use (after_ok t c (by simpa using hc4) h1 h2 h3) (Ke ?_)⟩)))))
 refine Fn3 [4] [(5,.i ((aDo t c).2))] (Hw [(8,tcs ((aDo t c).1))] [] ·) 12 ((0<2)/\(1<2)/\(true=true/\5=5/\0+5<=5)/\·) ⟨dc,dc,dc,Rt1 ((0+5<=5/\0<5)/\·) (.tup [.agg (tcs ((aDo t c).1)),.i ((aDo t c).2)]) ⟨dc,?_⟩⟩
 · refine fin_lea ?_
   unfold iTreeDo;simp only[hc4,cond_true,cond_false]
   first|exact lea_refl _|(simp[lea,leas,Tr.none,tcs,pth];done)
set_option maxRecDepth 100000
theorem wrt_l2w {s d:Str} {a:Int} (h:0<=a):wrt s a d=l2w s a.toNat d:=by
 obtain⟨k,rfl⟩:=Int.eq_ofNat_of_zero_le h
 simp only[wrt,l2w,szd,Int.toNat_natCast]
 by_cases h1:((s.length:Nat):Int)<((k:Nat):Int)
 ·rw[if_pos h1,if_neg (show ¬((k:Nat):Int)<=((s.length:Nat):Int) by omega)]
  have e1:(s++List.replicate (((k:Nat):Int)-((s.length:Nat):Int)).toNat (0:UInt8)).take k=s++List.replicate (k-s.length) 0:=by
   rw[List.take_of_length_le (by simp;omega)]
   congr 2;omega
  have e2:(s++List.replicate (k+d.length-s.length) (0:UInt8)).take k=s++List.replicate (k-s.length) 0:=by
   rw[List.take_append,List.take_of_length_le (by omega),List.take_replicate]
   congr 2;omega
  rw[e1,e2,if_neg (by simp;omega),List.drop_eq_nil_of_le (by simp;omega),List.append_nil]
 ·rw[if_neg h1]
  by_cases h2:k+d.length<s.length
  ·rw[if_pos (by simp;omega),show k+d.length-s.length=0 by omega,List.replicate_zero,List.append_nil]
   congr 2
   simp;omega
  ·rw[if_neg (by simp;omega),List.drop_eq_nil_of_le (by simp;omega),List.append_nil,List.take_append_of_le_length (by omega)]
theorem szd_l2w {s:Str} {a:Int} (h:0<=a):l2w (bif decide (a<((s.length:Nat):Int))then s.take a.toNat else s) a.toNat []=szd s a:=by
 have key:∀(u:Str) (k:Nat),l2w u k []=u++List.replicate (k-u.length) 0:=fun u k=>by
  simp only[l2w,List.length_nil,Nat.add_zero,List.append_nil,List.take_append_drop]
 rw[key]
 unfold szd
 by_cases h1:a<((s.length:Nat):Int)
 ·rw[decide_eq_true h1,cond_true,if_pos (by omega),show a.toNat-(s.take a.toNat).length=0 by simp;omega]
  simp
 ·rw[decide_eq_false h1,cond_false]
  by_cases h2:a<=((s.length:Nat):Int)
  ·rw[if_pos h2,show a.toNat-s.length=0 by omega,List.take_of_length_le (by omega)];simp
  ·rw[if_neg h2];congr 2;omega
def ents (t:Tr):List (Str×Tr):=t.names.zip t.kids
def mkE (t:Tr) (l:List (Str×Tr)):Tr:=.mk t.dir t.mode t.data (l.map (·.1)) (l.map (·.2))
theorem ents_mkE (t:Tr) (l:List (Str×Tr)):ents (mkE t l)=l:=by
 simp only[ents,mkE,Tr.names_mk,Tr.kids_mk]
 induction l with
 |nil=>rfl
 |cons e l ih=>simp only[List.map_cons,List.zip_cons_cons,ih]
theorem mkE_mkE (t:Tr) (l m:List (Str×Tr)):mkE (mkE t l) m=mkE t m:=rfl
theorem mkE_len (t:Tr) (l:List (Str×Tr)):(mkE t l).names.length=(mkE t l).kids.length:=by simp[mkE]
def insE (nm:Str) (x:Tr):List (Str×Tr)->List (Str×Tr)
 |[]=>[(nm,x)]
 |e::l=>if blt e.1 nm then e::insE nm x l else(nm,x)::e::l
theorem fA5 {nm:Str} {x:Tr} {r:Tr->Tr}:∀(l:List (Str×Tr)) (a:List Str) (b:List Tr),l.foldl (sstp nm true true x r) (a,b,false)=(a++(l.filter fun e=> !(e.1==nm)).map (·.1),b++(l.filter fun e=> !(e.1==nm)).map (·.2),false)
 |[],a,b=>by simp
 |e::l,a,b=>by
  cases h:e.1==nm with
  |true=>
   have e1:sstp nm true true x r (a,b,false) e=(a,b,false):=by simp[sstp,h]
   rw[List.foldl_cons,e1,fA5 l,List.filter_cons,h];rfl
  |false=>
   have e1:sstp nm true true x r (a,b,false) e=(a++[e.1],b++[e.2],false):=by simp[sstp,h]
   rw[List.foldl_cons,e1,fA5 l,List.filter_cons,h];simp
theorem fA6 {nm:Str} {x:Tr} {r:Tr->Tr} {t:Tr}:∀(l:List (Str×Tr)) (a:List Str) (b:List Tr),(∀e∈l,e.1≠nm)->sE nm true false x t (l.foldl (sstp nm true false x r) (a,b,false))=.mk t.dir t.mode t.data (a++(insE nm x l).map (·.1)) (b++(insE nm x l).map (·.2))
 |[],a,b,_=>by simp[sE,insE]
 |e::l,a,b,h=>by
  have h2:(e.1==nm)=false:=by simpa using h e (by simp)
  cases hb:blt e.1 nm with
  |true=>
   have e1:sstp nm true false x r (a,b,false) e=(a++[e.1],b++[e.2],false):=by simp[sstp,h2,hb]
   rw[List.foldl_cons,e1,fA6 l _ _ fun e' he=>h e' (by simp[he]),insE,if_pos hb];simp
  |false=>
   have e1:sstp nm true false x r (a,b,false) e=(a++[nm]++[e.1],b++[x]++[e.2],true):=by simp[sstp,h2,hb]
   rw[List.foldl_cons,e1,fA2 l _ _ fun e' he=>h e' (by simp[he]),insE,if_neg (by rw[hb];simp)]
   simp[sE]
theorem tsE_gone (t x:Tr) (nm:Str):tset [nm] t x true=mkE t ((ents t).filter fun e=> !(e.1==nm)):=by
 rw[tset,sA_all,List.isEmpty_nil,fA5]
 simp[sE,mkE,ents]
theorem tsE_new (t x:Tr) (nm:Str) (h:∀e∈ents t,e.1≠nm):tset [nm] t x false=mkE t (insE nm x (ents t)):=by
 rw[tset,sA_all,List.isEmpty_nil,show t.names.zip t.kids=ents t from rfl,fA6 _ _ _ h]
 simp[mkE,ents]
theorem tsE_deep (t x:Tr) (n:Str) (p:List Str) (g:Bool) (hp:p≠[]):tset (n::p) t x g=mkE t ((ents t).map fun e=>(e.1,bif e.1==n then tset p e.2 x g else e.2)):=by
 have hpe:p.isEmpty=false:=by cases p with|nil=>exact absurd rfl hp|cons _ _=>rfl
 rw[tset,sA_all,hpe,fA4]
 simp only[sE,Bool.false_and,cond_false,List.nil_append,mkE,ents,List.map_map]
 rfl
theorem ins_map {nm n:Str} {x:Tr} (f:Tr->Tr) (hne:nm≠n):∀l:List (Str×Tr),insE nm x (l.map fun e=>(e.1,bif e.1==n then f e.2 else e.2))=(insE nm x l).map fun e=>(e.1,bif e.1==n then f e.2 else e.2)
 |[]=>by
  have:(nm==n)=false:=by simpa using hne
  simp[insE,this]
 |e::l=>by
  have:(nm==n)=false:=by simpa using hne
  simp only[List.map_cons,insE]
  split
  ·rw[List.map_cons,ins_map f hne l]
  ·simp only[List.map_cons,this,cond_false]
theorem ins_flt {nm n:Str} {x:Tr} (hne:nm≠n):∀l:List (Str×Tr),asc (l.map (·.1))=true->insE nm x (l.filter fun e=> !(e.1==n))=(insE nm x l).filter fun e=> !(e.1==n)
 |[],_=>by
  have:(nm==n)=false:=by simpa using hne
  simp[insE,this]
 |e::l,h=>by
  have hnm:(nm==n)=false:=by simpa using hne
  have hl:asc (l.map (·.1))=true:=by
   cases l with
   |nil=>rfl
   |cons e' l=>simp only[List.map_cons,asc,Bool.and_eq_true]at h⊢;exact h.2
  have hgt:∀e'∈l,blt e.1 e'.1=true:=by
   intro e' he
   obtain⟨i,hi,rfl⟩:=List.mem_iff_getElem.1 he
   have:=asc_lt h (show 0<i+1 by omega) (by simp;omega)
   simpa[List.getD,hi]using this
  cases hb:blt e.1 nm with
  |true=>
   rw[insE,if_pos hb,List.filter_cons,List.filter_cons]
   split
   ·rw[insE,if_pos hb,ins_flt hne l hl]
   ·exact ins_flt hne l hl
  |false=>
   rw[insE,if_neg (by rw[hb];simp)]
   have hc:∀m:List (Str×Tr),(∀e'∈m,blt e'.1 nm=false)->insE nm x m=(nm,x)::m:=by
    intro m hm
    cases m with
    |nil=>rfl
    |cons e' m=>rw[insE,if_neg (by rw[hm e' (by simp)];simp)]
   rw [hc _ (fun e' he=>by
    have he:=(List.mem_filter.1 he).1
    rcases List.mem_cons.1 he with rfl|he
    ·exact hb
    ·cases hx:blt e'.1 nm with
     |false=>rfl
     |true=>rw[blt_trans (hgt e' he) hx]at hb;cases hb)]
   rw[List.filter_cons (x:=(nm,x))]
   simp only[hnm,Bool.not_false,if_true]
theorem tat_mem {t:Tr} {n:Str} {p:List Str} (h:tat t (n::p)=none) (hp:p=[]):∀e∈ents t,e.1≠n:=by
 intro e he hn
 subst hp
 rw[tat_cons]at h
 cases hf:fnd n t.names with
 |none=>exact fnd_none hf (hn▸(List.of_mem_zip he).1)
 |some k=>rw[hf]at h;simp[tat]at h
theorem asc_ents {t:Tr} (hw:t.wf=true) (h:asc t.names=true):asc ((ents t).map (·.1))=true:=by
 rw[show(ents t).map (·.1)=t.names from(zip_f t (wf_len hw)).1];exact h
mutual
def tas:Tr->Prop|.mk _ _ _ ns ks=>asc ns=true/\tass ks
def tass:List Tr->Prop|[]=>True|t::ts=>tas t/\tass ts
end
theorem tas_eq (t:Tr):tas t↔asc t.names=true/\tass t.kids:=by cases t;simp only[tas,Tr.names,Tr.kids]
theorem tass_mem:∀{ks:List Tr},tass ks->∀{x:Tr},x∈ks->tas x
 |[],_,x,hx=>by simp at hx
 |t::ts,h,x,hx=>by
  rcases List.mem_cons.1 hx with rfl|hx
  ·exact h.1
  ·exact tass_mem h.2 hx
mutual
theorem tas_parts:∀(t:Tr) (n:Int),partsOk t n=true->tas t
 |.mk d m s ns ks,n,h=>by
  simp only[partsOk,Bool.and_eq_true]at h
  refine⟨?_,tass_parts ks (n+1) h.2.2⟩
  have h1:=h.1
  simp only[plainOk,Tr.names_mk,Tr.kids_mk,Tr.dir_mk,Tr.data_mk,Bool.and_eq_true,decide_eq_true_eq]at h1
  have h7:=h1.2.2
  cases d with
  |true=>simp only[if_true,Bool.and_eq_true]at h7;exact h7.2.1
  |false=>
   simp only[Bool.false_eq_true,if_false,Bool.and_eq_true]at h7
   have h8:ns=[]:=List.eq_nil_of_length_eq_zero (of_decide_eq_true h7.2)
   subst h8;rfl
theorem tass_parts:∀(ks:List Tr) (n:Int),partsOks ks n=true->tass ks
 |[],_,_=>trivial
 |k::ks,n,h=>by
  simp only[partsOks,Bool.and_eq_true]at h
  exact⟨tas_parts k n h.1,tass_parts ks n h.2⟩
end
theorem ent_fnd {t:Tr} {n:Str} (hw:t.wf=true) (hn:t.names.Nodup) {e:Str×Tr} (he:e∈ents t) (h:e.1=n) (p:List Str):tat t (n::p)=tat e.2 p:=by
 obtain⟨i,hi,rfl⟩:=List.mem_iff_getElem.1 he
 have hwl:=wf_len hw
 simp only[ents,List.length_zip]at hi
 simp only[ents,List.getElem_zip]at h⊢
 rw[tat_cons]
 cases hf:fnd n t.names with
 |none=>exact absurd (h▸List.getElem_mem _) (fnd_none hf)
 |some k=>
  have hk:=fnd_lt hf
  have hg:=fnd_some hf
  have:k=i:=by
   rcases Nat.decEq k i with hne|heq
   ·refine absurd ?_ (nd_ne hn hk (show i<t.names.length by omega) hne)
    rw[hg,<-h]
    simp[List.getD,show i<t.names.length by omega]
   ·exact heq
  subst this
  dsimp only
  congr 1
  simp[List.getD,show k<t.kids.length by omega]
theorem swap_ok {x:Tr}:∀(p q:List Str) (t:Tr),t.wf=true->tas t->tnd t->p≠[]->q≠[]->(tat t p).isSome=true->tat t q=none->p.isPrefixOf q=false->tset q (tset p t .none true) x false=tset p (tset q t x false) .none true
 |[],_,_,_,_,_,h,_,_,_,_=>absurd rfl h
 |_,[],_,_,_,_,_,h,_,_,_=>absurd rfl h
 |[n],[m],t,hw,ha,hn,_,_,hp,hq,hx=>by
  have hne:m≠n:=by rintro rfl;simp[List.isPrefixOf]at hx
  have h1:=tat_mem hq rfl
  rw[tsE_gone,tsE_new t x m h1,tsE_new _ x m (by rw[ents_mkE];exact fun e he=>h1 e (List.mem_filter.1 he).1),tsE_gone,ents_mkE,ents_mkE,mkE_mkE,mkE_mkE,ins_flt hne _ (asc_ents hw ((tas_eq t).1 ha).1)]
 |[n],m::m2::q,t,hw,ha,hn,_,_,hp,hq,hx=>by
  have hne:n≠m:=by rintro rfl;simp[List.isPrefixOf]at hx
  rw[tsE_gone,tsE_deep _ _ m _ _ (by simp),tsE_deep _ _ m _ _ (by simp),tsE_gone,ents_mkE,ents_mkE,mkE_mkE,mkE_mkE]
  congr 1
  rw[List.filter_map]
  rfl
 |n::n2::p,[m],t,hw,ha,hn,_,_,hp,hq,hx=>by
  have h1:=tat_mem hq rfl
  have hne:m≠n:=by
   rintro rfl
   rw[tat_cons]at hp
   cases hf:fnd m t.names with
   |none=>rw[hf]at hp;simp at hp
   |some k=>rw[tat_cons,hf]at hq;simp[tat]at hq
  rw [tsE_deep _ _ n _ _ (by simp), tsE_new t x m h1, tsE_new _ x m (by
   rw[ents_mkE]
   intro e he
   obtain⟨e',he',rfl⟩:=List.mem_map.1 he
   exact h1 e' he'),tsE_deep _ _ n _ _ (by simp),ents_mkE,ents_mkE,mkE_mkE,mkE_mkE]
  rw[ins_map (fun k=>tset (n2::p) k .none true) hne]
 |n::n2::p,m::m2::q,t,hw,ha,hn,_,_,hp,hq,hx=>by
  rw[tsE_deep _ _ n _ _ (by simp),tsE_deep _ _ m _ _ (by simp),tsE_deep _ _ m _ _ (by simp),tsE_deep _ _ n _ _ (by simp),ents_mkE,ents_mkE,mkE_mkE,mkE_mkE]
  congr 1
  rw[List.map_map,List.map_map]
  refine List.map_congr_left fun e he=>?_
  simp only[Function.comp]
  congr 1
  cases h1:e.1==n<;>cases h2:e.1==m<;>simp only[cond_true,cond_false]
  have e1:=eq_of_beq h1
  have e2:=eq_of_beq h2
  have hnm:n=m:=by rw[<-e1,<-e2]
  subst hnm
  have hk:e.2∈t.kids:=(List.of_mem_zip he).2
  have hwk:e.2.wf=true:=by
   have:=hw
   rw[wf_eq]at this
   simp only[Bool.and_eq_true,List.all_eq_true]at this
   exact this.2 _ hk
  have hnk:tnd e.2:=by
   obtain⟨i,hi,h⟩:=List.mem_iff_getElem.1 hk
   have:=tnds_get ((tnd_eq t).1 hn).2 hi
   rw[<-h]
   simpa[List.getD,hi]using this
  have hs:=swap_ok (x:=x) (n2::p) (m2::q) e.2 hwk (tass_mem ((tas_eq t).1 ha).2 hk) hnk (by simp) (by simp) (by rw[<-ent_fnd hw ((tnd_eq t).1 hn).1 he e1];exact hp) (by rw[<-ent_fnd hw ((tnd_eq t).1 hn).1 he e1];exact hq) (by simpa[List.isPrefixOf]using hx)
  exact hs
set_option maxRecDepth 100000
theorem asc_pw {l:List Str} (h:asc l=true):l.Pairwise fun a b=>blt a b=true:=by
 refine List.pairwise_iff_getElem.2 fun i j hi hj hij=>?_
 have:=asc_lt h hij hj
 simpa[List.getD,hi,hj]using this
theorem asc_of_pw:∀{l:List Str},(l.Pairwise fun a b=>blt a b=true)->asc l=true
 |[],_=>rfl
 |[a],_=>rfl
 |a::b::r,h=>by
  rw[asc,Bool.and_eq_true]
  have h1:=List.pairwise_cons.1 h
  exact⟨h1.1 b (by simp),asc_of_pw h1.2⟩
theorem parts_mkE {t:Tr} {n:Int} {l:List (Str×Tr)} (h:partsOk t n=true) (hn:(l.map (·.1)).Sublist t.names) (hk:∀e∈l,partsOk e.2 (n+1)=true):partsOk (mkE t l) n=true:=by
 rw[partsOk_eq]at h⊢
 simp only[Bool.and_eq_true]at h⊢
 refine⟨?_,h.2.1,?_⟩
 ·have h1:=h.1
  simp only[plainOk,Bool.and_eq_true,decide_eq_true_eq]at h1⊢
  refine⟨h1.1,mkE_len t l,?_⟩
  have h7:=h1.2.2
  show(if t.dir then(l.map (·.1)).all nmOk&&(asc (l.map (·.1))&&t.data==[])else decide (t.data.length<=24)&&decide ((l.map (·.1)).length=0))=true
  cases hd:t.dir with
  |true=>
   rw[hd]at h7
   simp only[if_true,Bool.and_eq_true]at h7⊢
   exact⟨List.all_eq_true.2 fun x hx=>List.all_eq_true.1 h7.1 x (hn.subset hx),asc_of_pw ((asc_pw h7.2.1).sublist hn),h7.2.2⟩
  |false=>
   rw[hd]at h7
   simp only[Bool.false_eq_true,if_false,Bool.and_eq_true]at h7⊢
   have h8:=of_decide_eq_true h7.2
   have:=hn.length_le
   exact⟨h7.1,decide_eq_true (by omega)⟩
 ·refine List.all_eq_true.2 fun x hx=>?_
  obtain⟨e,he,rfl⟩:=List.mem_map.1 hx
  exact hk e he
theorem ents_f {t:Tr} (hl:t.names.length=t.kids.length):(ents t).map (·.1)=t.names/\(ents t).map (·.2)=t.kids:=zip_f t hl
theorem parts_len {t:Tr} {n:Int} (h:partsOk t n=true):t.names.length=t.kids.length:=by
 rw[partsOk_eq]at h
 simp only[Bool.and_eq_true]at h
 have h1:=h.1
 simp only[plainOk,Bool.and_eq_true,decide_eq_true_eq]at h1
 exact h1.2.1
theorem parts_kid {t:Tr} {n:Int} (h:partsOk t n=true) {x:Tr} (hx:x∈t.kids):partsOk x (n+1)=true:=by
 rw[partsOk_eq]at h
 simp only[Bool.and_eq_true]at h
 exact List.all_eq_true.1 h.2.2 x hx
theorem cnts_map {α:Type} (g f:α->Tr):∀(l:List α),(∀e∈l,cnt (g e)<=cnt (f e))->cnts (l.map g)<=cnts (l.map f)
 |[],_=>by simp
 |e::l,h=>by
  have:=cnts_map g f l fun e he=>h e (by simp[he])
  have:=h e (by simp)
  simp only[List.map_cons,cnts];omega
theorem cnts_flt (q:Str×Tr->Bool):∀(l:List (Str×Tr)),cnts ((l.filter q).map (·.2))<=cnts (l.map (·.2))
 |[]=>by simp
 |e::l=>by
  have:=cnts_flt q l
  rw[List.filter_cons]
  split<;>simp only[List.map_cons,cnts]<;>omega
theorem gone_parts:∀(p:List Str) (t:Tr) (n:Int),partsOk t n=true->p≠[]->partsOk (tset p t .none true) n=true/\cnt (tset p t .none true)<=cnt t/\(tset p t .none true).dir=t.dir
 |[],_,_,_,h=>absurd rfl h
 |[nm],t,n,h,_=>by
  obtain⟨z1,z2⟩:=ents_f (parts_len h)
  rw[tsE_gone]
  refine⟨parts_mkE h ?_ fun e he=>parts_kid h (List.of_mem_zip (List.mem_filter.1 he).1).2,?_,rfl⟩
  ·conv=>rhs;rw[<-z1]
   exact List.filter_sublist.map _
  ·rw[cnt_eq,cnt_eq]
   conv=>rhs;rw[<-z2]
   exact cnts_flt _ _
 |m::m2::p,t,n,h,_=>by
  obtain⟨z1,z2⟩:=ents_f (parts_len h)
  rw[tsE_deep _ _ _ _ _ (by simp)]
  refine⟨parts_mkE h ?_ fun e he=>?_,?_,rfl⟩
  ·rw[List.map_map]
   exact(z1▸List.Sublist.refl _:((ents t).map (·.1)).Sublist t.names)
  ·obtain⟨e',he',rfl⟩:=List.mem_map.1 he
   have hk:=parts_kid h (List.of_mem_zip he').2
   dsimp only
   cases e'.1==m
   ·exact hk
   ·exact(gone_parts (m2::p) e'.2 (n+1) hk (by simp)).1
  ·rw[cnt_eq,cnt_eq]
   conv=>rhs;rw[<-z2]
   show cnts (((ents t).map _).map _)<=_
   rw[List.map_map]
   refine cnts_map _ _ _ fun e' he'=>?_
   have hk:=parts_kid h (List.of_mem_zip he').2
   simp only[Function.comp]
   cases e'.1==m
   ·exact Nat.le_refl _
   ·exact(gone_parts (m2::p) e'.2 (n+1) hk (by simp)).2.1
theorem gone_ok {t:Tr} {p:List Str} (h:treeOk t=true) (hp:p≠[]):treeOk (tset p t .none true)=true:=by
 simp only[treeOk,Bool.and_eq_true,decide_eq_true_eq]at h⊢
 obtain⟨h1,h2,h3⟩:=gone_parts p t 0 h.2.1 hp
 exact⟨by rw[h3];exact h.1,h1,by omega⟩
theorem mode_parts {m:Int} (hm:inb m 0 7=true):∀(p:List Str) (t x:Tr) (n:Int),partsOk t n=true->t.wf=true->tnd t->p≠[]->tat t p=some x->partsOk (tset p t (wMode x m) false) n=true/\cnt (tset p t (wMode x m) false)<=cnt t/\(tset p t (wMode x m) false).dir=t.dir
 |[],_,_,_,_,_,_,h,_=>absurd rfl h
 |[nm],t,x,n,h,hw,hn,_,hx=>by
  have hl:=parts_len h
  obtain⟨z1,z2⟩:=ents_f hl
  rw[tat_cons]at hx
  cases hf:fnd nm t.names with
  |none=>rw[hf]at hx;cases hx
  |some k=>
   rw[hf]at hx
   simp only[tat,Option.some.injEq]at hx
   have hk:=fnd_lt hf
   have ha:=(tas_eq t).1 (tas_parts t n h)
   rw[tset_hit hl ha.1 hk (fnd_some hf)]
   have hxk:x∈t.kids:=by rw[<-hx];exact getD_mem t.kids k Tr.none (by omega)
   have hpx:=parts_kid h hxk
   have hpm:partsOk (wMode x m) (n+1)=true:=by
    rw[partsOk_eq]at hpx⊢
    simp only[plainOk,wMode,Tr.mode_mk,Tr.names_mk,Tr.kids_mk,Tr.dir_mk,Tr.data_mk,Bool.and_eq_true]at hpx⊢
    exact⟨⟨hm,hpx.1.2⟩,hpx.2⟩
   have hc:cnt (wMode x m)=cnt x:=by rw[cnt_eq,cnt_eq];rfl
   have hs:t.kids.set k (wMode x m)=t.kids.take k++wMode x m::t.kids.drop (k+1):=set_split _ _ (by omega) _
   have hg:t.kids=t.kids.take k++x::t.kids.drop (k+1):=by
    have:=get_split t.kids k (by omega) Tr.none
    rw[hx]at this;exact this
   refine⟨?_,?_,rfl⟩
   ·rw[partsOk_eq]at h⊢
    simp only[Bool.and_eq_true,Tr.kids_mk]at h⊢
    refine⟨?_,h.2.1,List.all_eq_true.2 fun y hy=>?_⟩
    ·have h1:=h.1
     simp only[plainOk,Tr.mode_mk,Tr.names_mk,Tr.kids_mk,Tr.dir_mk,Tr.data_mk,List.length_set]at h1⊢
     exact h1
    ·rcases List.mem_or_eq_of_mem_set hy with hy|rfl
     ·exact List.all_eq_true.1 h.2.2 y hy
     ·exact hpm
   ·rw[cnt_eq,cnt_eq,Tr.kids_mk,hs]
    conv=>rhs;rw[hg]
    have happ:∀(a b:List Tr),cnts (a++b)=cnts a+cnts b:=by
     intro a b
     induction a with
     |nil=>simp[cnts]
     |cons y a ih=>simp only[List.cons_append,cnts,ih];omega
    rw[happ,happ]
    simp only[cnts,hc]
    exact Nat.le_refl _
 |n'::m2::p,t,x,n,h,hw,hn,_,hx=>by
  obtain⟨z1,z2⟩:=ents_f (parts_len h)
  rw[tsE_deep _ _ _ _ _ (by simp)]
  have key:∀e'∈ents t,(e'.1==n')=true->partsOk (tset (m2::p) e'.2 (wMode x m) false) (n+1)=true/\cnt (tset (m2::p) e'.2 (wMode x m) false)<=cnt e'.2:=by
   intro e' he' hb
   have hk:=(List.of_mem_zip he').2
   have hwk:e'.2.wf=true:=by
    have:=hw
    rw[wf_eq]at this
    simp only[Bool.and_eq_true,List.all_eq_true]at this
    exact this.2 _ hk
   have hnk:tnd e'.2:=by
    obtain⟨i,hi,h⟩:=List.mem_iff_getElem.1 hk
    have:=tnds_get ((tnd_eq t).1 hn).2 hi
    rw[<-h]
    simpa[List.getD,hi]using this
   have:=mode_parts hm (m2::p) e'.2 x (n+1) (parts_kid h hk) hwk hnk (by simp) (by rw[<-ent_fnd hw ((tnd_eq t).1 hn).1 he' (eq_of_beq hb)];exact hx)
   exact⟨this.1,this.2.1⟩
  refine⟨parts_mkE h ?_ fun e he=>?_,?_,rfl⟩
  ·rw[List.map_map]
   exact(z1▸List.Sublist.refl _:((ents t).map (·.1)).Sublist t.names)
  ·obtain⟨e',he',rfl⟩:=List.mem_map.1 he
   dsimp only
   cases hb:e'.1==n'
   ·exact parts_kid h (List.of_mem_zip he').2
   ·exact(key e' he' hb).1
  ·rw[cnt_eq,cnt_eq]
   conv=>rhs;rw[<-z2]
   show cnts (((ents t).map _).map _)<=_
   rw[List.map_map]
   refine cnts_map _ _ _ fun e' he'=>?_
   simp only[Function.comp]
   cases hb:e'.1==n'
   ·exact Nat.le_refl _
   ·exact(key e' he' hb).2
theorem mode_ok {t x:Tr} {p:List Str} {m:Int} (h:treeOk t=true) (hm:inb m 0 7=true) (hp:p≠[]) (hx:tat t p=some x):treeOk (tset p t (wMode x m) false)=true:=by
 have hw:=wf_ok h
 have hn:=tnd_ok h
 simp only[treeOk,Bool.and_eq_true,decide_eq_true_eq]at h⊢
 obtain⟨h1,h2,h3⟩:=mode_parts hm p t x 0 h.2.1 hw hn hp hx
 exact⟨by rw[h3];exact h.1,h1,by omega⟩
theorem file_names {t x:Tr} {p:List Str} (h:treeOk t=true) (hx:tat t p=some x) (hd:x.dir=false):x.names.length=0:=by
 simp only[treeOk,Bool.and_eq_true]at h
 obtain⟨m,hm⟩:=parts_tat h.2.1 hx
 rw[partsOk_eq]at hm
 simp only[Bool.and_eq_true]at hm
 have h1:=hm.1
 simp only[plainOk,Bool.and_eq_true,decide_eq_true_eq]at h1
 have h7:=h1.2.2
 rw[hd]at h7
 simp only[Bool.false_eq_true,if_false,Bool.and_eq_true]at h7
 exact of_decide_eq_true h7.2
theorem aDo_err {t:Tr} {c:Cl} {k:Int} (hc:callOk c=true) (h:iDo t c=(t,k)) (hk:k≠0):aDo t c=(t,k):=by
 unfold aDo
 rw[hc,h]
 simp only[Bool.not_true,cond_false,decide_eq_false hk,Bool.not_false,cond_true]
theorem aDo_ok {t y:Tr} {c:Cl} (hc:callOk c=true) (h:iDo t c=(y,0)):aDo t c=fits y t:=by
 unfold aDo fits
 rw[hc,h]
 simp only[Bool.not_true,cond_false,decide_true]
 cases treeOk y<;>rfl
theorem aDo_sDo {t:Tr} {c:Cl} (ht:treeOk t=true) (hc:callOk c=true):aDo t c=sDo t c:=by
 obtain⟨f1,f2,f3,f4⟩:=callOk_facts hc
 have hp:c.path≠[]:=fun h=>by rw[h]at f1;simp at f1
 have hk16:c.kind=1\/c.kind=2\/c.kind=3\/c.kind=4\/c.kind=5\/c.kind=6:=by
  unfold callOk at hc
  split at hc
  ·rename_i h;omega
  split at hc
  ·rename_i h;omega
  split at hc
  ·rename_i h;omega
  split at hc
  ·rename_i h;omega
  ·cases hc
 have hm6:c.kind=6->inb c.at_ 0 7=true:=fun h=>by
  unfold callOk at hc
  rw[if_pos (by omega)]at hc
  simp only[Bool.and_eq_true]at hc
  exact hc.2
 by_cases hP:parC t c.path=0
 case neg=>
  have e:iDo t c=(t,parC t c.path):=by
   unfold iDo
   rw[decide_eq_false hP];rfl
  rw[aDo_err hc e hP]
  unfold sDo
  rw[decide_eq_false hP];rfl
 have hPd:decide (parC t c.path=(0:Int))=true:=decide_eq_true hP
 rcases hk16 with hk|hk|hk|hk|hk|hk
 ·--a new directory
  have es:sDo t c=bif (tat t c.path).isSome then(t,5)else fits (tset c.path t (newDir c.at_) false) t:=by
   unfold sDo;rw[hPd,hk];rfl
  have ei:iDo t c=match tat t c.path with|some _=>(t,5)|none=>(tset c.path t (newDir c.at_) false,0):=by
   unfold iDo;rw[hPd,hk];rfl
  rw[es]
  cases hx:tat t c.path with
  |some x=>rw[hx]at ei;rw[aDo_err hc ei (by decide)];rfl
  |none=>rw[hx]at ei;rw[aDo_ok hc ei];rfl
 ·--a write
  obtain⟨f8,f9⟩:=f3 (.inl hk)
  have es:sDo t c=sFile t c:=by unfold sDo;rw[hPd,hk];rfl
  have hd:decide ((24:Int)<((c.data.length:Nat):Int)+c.at_)=decide ((24:Int)<c.at_+((c.data.length:Nat):Int)):=decide_eq_decide.2 (by omega)
  have ei:iDo t c=match tat t c.path with
   |some x=>bif x.dir then(t,4)else bif decide ((24:Int)<c.at_+((c.data.length:Nat):Int))then(t,6)else(tset c.path t (wData x (wrt x.data c.at_ c.data)) false,0)
   |none=>bif decide ((24:Int)<c.at_+((c.data.length:Nat):Int))then(t,6)else(tset c.path t (wData .none (wrt [] c.at_ c.data)) false,0):=by
   unfold iDo;rw[hPd,hk];rfl
  rw[es]
  unfold sFile
  rw[hd,show decide (c.kind=(3:Int))=false by rw[hk];rfl]
  cases hx:tat t c.path with
  |some x=>
   rw[hx]at ei
   have hxa:xat t c.path=x:=by unfold xat;rw[hx];rfl
   dsimp only at ei
   rw[hxa]
   simp only[Option.isSome_some,Bool.true_and,Bool.not_true,Bool.false_and,cond_false]
   cases hdx:x.dir with
   |true=>rw[hdx]at ei;rw[aDo_err hc ei (by decide)];rfl
   |false=>
    rw[hdx]at ei
    simp only[cond_false]at ei⊢
    cases h24:decide ((24:Int)<c.at_+((c.data.length:Nat):Int))with
    |true=>rw[h24]at ei;rw[aDo_err hc ei (by decide)];rfl
    |false=>rw[h24]at ei;rw[aDo_ok hc ei,wrt_l2w f8];rfl
  |none=>
   rw[hx]at ei
   have hxa:xat t c.path=.none:=by unfold xat;rw[hx];rfl
   dsimp only at ei
   rw[hxa]
   simp only[Option.isSome_none,Bool.false_and,Bool.not_false,Bool.and_false,cond_false]
   cases h24:decide ((24:Int)<c.at_+((c.data.length:Nat):Int))with
   |true=>rw[h24]at ei;rw[aDo_err hc ei (by decide)];rfl
   |false=>rw[h24]at ei;rw[aDo_ok hc ei,wrt_l2w f8];rfl
 ·--a new length
  obtain⟨f8,f9⟩:=f3 (.inr hk)
  have es:sDo t c=sFile t c:=by unfold sDo;rw[hPd,hk];rfl
  have ei:iDo t c=match tat t c.path with
   |none=>(t,3)
   |some x=>bif x.dir then(t,4)else(tset c.path t (wData x (szd x.data c.at_)) false,0):=by
   unfold iDo;rw[hPd,hk];rfl
  rw[es]
  unfold sFile
  rw[show decide (c.kind=(3:Int))=true by rw[hk];rfl]
  cases hx:tat t c.path with
  |some x=>
   rw[hx]at ei
   have hxa:xat t c.path=x:=by unfold xat;rw[hx];rfl
   dsimp only at ei
   rw[hxa]
   simp only[Option.isSome_some,Bool.true_and,Bool.not_true,Bool.false_and,cond_false,cond_true]
   cases hdx:x.dir with
   |true=>rw[hdx]at ei;rw[aDo_err hc ei (by decide)];rfl
   |false=>rw[hdx]at ei;rw[aDo_ok hc ei,szd_l2w f8];rfl
  |none=>
   rw[hx]at ei
   rw[aDo_err hc ei (by decide)];rfl
 ·--a removal
  have es:sDo t c=bif !(tat t c.path).isSome then(t,3)else bif decide ((0:Int)<(((xat t c.path).names.length:Nat):Int))then(t,5)else(tset c.path t .none true,0):=by
   unfold sDo;rw[hPd,hk];rfl
  have ei:iDo t c=match tat t c.path with
   |none=>(t,3)
   |some x=>bif x.dir&&decide ((0:Int)<((x.names.length:Nat):Int))then(t,5)else(tset c.path t .none true,0):=by
   unfold iDo;rw[hPd,hk];rfl
  rw[es]
  cases hx:tat t c.path with
  |some x=>
   rw[hx]at ei
   have hxa:xat t c.path=x:=by unfold xat;rw[hx];rfl
   dsimp only at ei
   rw[hxa]
   simp only[Option.isSome_some,Bool.not_true,cond_false]
   have hb:(x.dir&&decide ((0:Int)<((x.names.length:Nat):Int)))=decide ((0:Int)<((x.names.length:Nat):Int)):=by
    cases hdx:x.dir with
    |true=>rfl
    |false=>have:=file_names ht hx hdx;rw[this];rfl
   rw[hb]at ei
   cases h0:decide ((0:Int)<((x.names.length:Nat):Int))with
   |true=>rw[h0]at ei;rw[aDo_err hc ei (by decide)];rfl
   |false=>
    rw[h0]at ei
    rw[aDo_ok hc ei]
    unfold fits
    rw[gone_ok ht hp];rfl
  |none=>rw[hx]at ei;rw[aDo_err hc ei (by decide)];rfl
 ·--a rename
  obtain⟨f5,f6⟩:=f4 hk
  have hto:c.to≠[]:=fun h=>by rw[h]at f5;simp at f5
  have es:sDo t c=sRename t c:=by unfold sDo;rw[hPd,hk];rfl
  have ei:iDo t c=iRename t c:=by unfold iDo;rw[hPd,hk];rfl
  rw[es]
  unfold sRename
  unfold iRename at ei
  cases hx:tat t c.path with
  |none=>rw[hx]at ei;rw[aDo_err hc ei (by decide)];rfl
  |some x=>
   rw[hx]at ei
   have hxa:xat t c.path=x:=by unfold xat;rw[hx];rfl
   dsimp only at ei
   rw[hxa]
   simp only[Option.isSome_some,Bool.not_true,cond_false]
   cases hpre:c.path.isPrefixOf c.to with
   |true=>rw[hpre]at ei;rw[aDo_err hc ei (by decide)];rfl
   |false=>
    rw[hpre]at ei
    simp only[cond_false]at ei⊢
    by_cases hQ:parC t c.to=0
    case neg=>rw[decide_eq_false hQ]at ei⊢;rw[aDo_err hc ei hQ];rfl
    rw[decide_eq_true hQ]at ei⊢
    cases hy:tat t c.to with
    |some y=>rw[hy]at ei;rw[aDo_err hc ei (by decide)];rfl
    |none=>
     rw[hy]at ei
     rw [aDo_ok hc ei, swap_ok c.path c.to t (wf_ok ht) (by
      simp only[treeOk,Bool.and_eq_true]at ht;exact tas_parts t 0 ht.2.1) (tnd_ok ht) hp hto (by rw[hx];rfl) hy hpre]
     rfl
 ·--a new mode
  have es:sDo t c=bif !(tat t c.path).isSome then(t,3)else(tset c.path t (wMode (xat t c.path) c.at_) false,0):=by
   unfold sDo;rw[hPd,hk];rfl
  have ei:iDo t c=match tat t c.path with
   |none=>(t,3)
   |some x=>(tset c.path t (wMode x c.at_) false,0):=by
   unfold iDo;rw[hPd,hk];rfl
  rw[es]
  cases hx:tat t c.path with
  |some x=>
   rw[hx]at ei
   have hxa:xat t c.path=x:=by unfold xat;rw[hx];rfl
   dsimp only at ei
   rw[hxa,aDo_ok hc ei]
   unfold fits
   rw[mode_ok ht (hm6 hk) hp hx];rfl
  |none=>rw[hx]at ei;rw[aDo_err hc ei (by decide)];rfl
theorem iTreeDo_eq (t:Tr) (c:Cl):iTreeDo t c=sTreeDo t c:=by
 unfold iTreeDo sTreeDo
 cases ht:treeOk t with
 |false=>rfl
 |true=>
  cases hc:callOk c with
  |false=>simp only[Bool.not_true,Bool.not_false,cond_false,cond_true,aDo,hc]
  |true=>simp only[Bool.not_true,cond_false];exact aDo_sDo ht hc
set_option maxRecDepth 100000
theorem lend_ref {G:Prg} {f:Nat} {args:List AV} {H:Hp} {n:Nat} {R:AV->Hp->Prop} (h:TCall G f args [] n fun r Z' n'=>n'=n/\R r Z'):
  TCall G f args H n fun r H' n'=>n'=n/\∃Z',H'=H++Z'/\R r Z':=by
 intro X ρ w vs hf hr hvs
 have hr0:HR (OX X ρ H) ρ w []:=⟨by simp[ids],by simp[ids],by simp[ids],fun b hb=>hr.ox_old hb,by simp⟩
 refine(h (OX X ρ H) ρ w vs hf hr0 (by rw[OX_nil];exact hvs)).mono ?_
 rintro e w' ⟨v,r,ρ',Z',n',rfl,q1,q2,q3,q4,rfl,q7⟩
 have hnew:∀b,Own ρ' Z' b->w.heap.size<=b:=fun b hb=>(q4.own b hb).resolve_left fun⟨i,hi,_⟩=>by simp[ids]at hi
 obtain⟨g1,g2⟩:=frame_out (n:=n') (fun _=>False) hr (List.Sublist.refl H) (fun _ h=>h.elim) q4.rho q2
  (fun i hi hi'=>by
   obtain⟨b,hb,hlt⟩:=hr.has hi
   have:=hnew b ⟨i,hi',q4.rho i b hb⟩
   omega)
  (q4.ext.mono fun b _ hb=>by obtain⟨i,hi,_⟩:=hb;simp[ids]at hi) (fun b hb=>.inr (hnew b hb))
 refine⟨v,r,ρ',H++Z',n',rfl,q1,g1,VR_carry (Carry.less fun b hb=>?_) _ _ q3,g2,rfl,Z',rfl,q7⟩
 rcases hb with hb|⟨i,hi,hb⟩
 ·exact .inl (.inl hb)
 ·simp only[ids,List.map_append,List.mem_append]at hi
  rcases hi with hi|hi
  ·obtain⟨b',hb',_⟩:=hr.has hi
   have:=q4.rho i b' hb'
   rw[hb]at this;cases this
   exact .inl (.inr ⟨i,hi,hb'⟩)
  ·exact .inr ⟨i,hi,hb⟩
def r1K (a b:Nat):Hp->Hp->Prop
 |[],[]=>True
 |(i,cs)::H,(j,cs')::H'=>i=j/\(cs=cs'\/(slps cs/\r1s a b cs=cs'))/\r1K a b H H'
 |_,_=>False
theorem r1K_refl (a b:Nat):∀H:Hp,r1K a b H H
 |[]=>trivial
 |(i,cs)::H=>⟨rfl,.inl rfl,r1K_refl a b H⟩
theorem r1K_ids {a b:Nat}:∀{H H':Hp},r1K a b H H'->H'.map (fun p:Nat×List AV=>p.1)=H.map (fun p:Nat×List AV=>p.1)
 |[],[],_=>rfl
 |(i,cs)::H,(j,cs')::H',h=>by
  simp only[r1K]at h
  rw[List.map_cons,List.map_cons,h.1,r1K_ids h.2.2]
 |[],_::_,h=>h.elim
 |_::_,[],h=>h.elim
theorem r1K_mem {a b:Nat}:∀{H H':Hp} {i:Nat} {ds:List AV},r1K a b H H'->(i,ds)∈H'->∃ds0,(i,ds0)∈H/\(ds0=ds\/(slps ds0/\r1s a b ds0=ds))
 |(i,cs)::H,(j,cs')::H',k,ds,h,hm=>by
  simp only[r1K]at h
  rcases List.mem_cons.1 hm with e|hm
  ·cases e;obtain⟨rfl,h,_⟩:=h;exact⟨cs,List.mem_cons_self,h⟩
  ·obtain⟨d,h1,h2⟩:=r1K_mem h.2.2 hm;exact⟨d,List.mem_cons_of_mem _ h1,h2⟩
 |[],_::_,_,_,h,_=>h.elim
theorem tc_evn {G:Prg} {f:Nat} {args:List AV} {H:Hp} {n:Nat} {Q:CPost}
  (h:TCall G f args H n fun r H' n'=>(ids H').Nodup->n'%4=0->Q r H' n'\/∃j cs K K',j%2=1/\H'.Perm ((j,cs)::K)/\slp r/\r1K j n' K K'/\Q (r1 j n' r) ((n',cs)::K') (n'+4)):TCall G f args H n Q:=by
 intro X ρ w vs hf hr hvs
 refine(h X ρ w vs hf hr hvs).mono ?_
 rintro e w' ⟨v,r,ρ',H',n',rfl,q1,q2,q3,q4,hdis⟩
 rcases hdis q2.nodup q1.1 with hq|⟨j,cs,K,K',hj2,hp,hs,hrel,hq⟩
 ·exact⟨v,r,ρ',H',n',rfl,q1,q2,q3,q4,hq⟩
 have hn4:n'%4=0:=q1.1
 have hid:K'.map (fun p:Nat×List AV=>p.1)=K.map (fun p:Nat×List AV=>p.1):=r1K_ids hrel
 have hρn:ρ' n'=none:=q1.2.1 n' (Nat.le_refl _) (by omega)
 let ρ2:Rho:=fun i=>if i=n' then ρ' j else ρ' i
 have hold:∀i b,ρ' i=some b->ρ2 i=some b:=fun i b hb=>by
  show(if i=n' then ρ' j else ρ' i)=some b
  rw[if_neg (by rintro rfl;rw[hρn]at hb;cases hb)];exact hb
 have hρ:∀i b,ρ' i=some b->ρ2 (bif Nat.beq i j then n' else i)=some b:=by
  intro i b hb
  by_cases hi:i=j
  ·subst hi
   rw[Nat.beq_refl]
   show(if n'=n' then ρ' i else ρ' n')=some b
   rw[if_pos rfl];exact hb
  ·rw[show Nat.beq i j=false from nbq hi]
   exact hold i b hb
 obtain⟨m,hm⟩:=q1.2.2
 have hr2:=q2
 have hjH:j∈ids H':=(ids_perm hp.symm j).1 (by simp[ids])
 have hKH:∀i,i∈ids K->i∈ids H':=fun i hi=>(ids_perm hp.symm i).1 (by simp only[ids,List.map_cons,List.mem_cons];exact .inr hi)
 have hKn:∀i,i∈ids K->i≠n':=fun i hi e=>by
  obtain⟨b,hb,_⟩:=q2.has (hKH i hi)
  rw[e,hρn]at hb;cases hb
 have hnd:j∉ids K/\(ids K).Nodup:=by
  have:=(List.Perm.nodup_iff (hp.map (fun p:Nat×List AV=>p.1))).1 q2.nodup
  exact List.nodup_cons.1 this
 have hK2:∀i,i∈ids K->ρ2 i=ρ' i:=fun i hi=>if_neg (hKn i hi)
 have hn2:ρ2 n'=ρ' j:=if_pos rfl
 have hown:∀b,Own ρ2 ((n',cs)::K') b↔Own ρ' H' b:=by
  intro b
  constructor
  ·rintro⟨i,hi,hb⟩
   simp only[ids,List.map_cons,List.mem_cons,hid]at hi
   rcases hi with rfl|hi
   ·rw[hn2]at hb;exact⟨j,hjH,hb⟩
   ·rw[hK2 i hi]at hb;exact⟨i,hKH i hi,hb⟩
  ·rintro⟨i,hi,hb⟩
   have:=(ids_perm hp i).1 hi
   simp only[ids,List.map_cons,List.mem_cons]at this
   rcases this with rfl|hi
   ·exact⟨n',by simp[ids],by rw[hn2];exact hb⟩
   ·exact⟨i,by simp only[ids,List.map_cons,List.mem_cons,hid];exact .inr hi,hold i b hb⟩
 have hO:OX X ρ2 ((n',cs)::K')=OX X ρ' H':=by funext b;simp only[OX,hown]
 have hcar:∀(az:List AV) (vs:List Value),VRs ρ' w' (OX X ρ' H') az vs->VRs ρ2 w' (OX X ρ' H') az vs:=fun az vs hv=>VRs_carry ⟨hold,Nat.le_refl _,fun _ _ _=>rfl,fun b cs e f h=>⟨cs,f,h,rfl⟩,fun b _ ho=>ho⟩ _ _ hv
 refine⟨v,r1 j n' r,ρ2,(n',cs)::K',n'+4,rfl,⟨by omega,fun i hi h0=>?_,max m (n'+1),fun i hi=>?_⟩,⟨?_,?_,?_,q2.xold,?_⟩,?_,⟨fun i b hb=>hold i b (q4.rho i b hb),Nat.le_trans q4.le (by omega),q4.ext,fun b hb=>q4.own b ((hown b).1 hb)⟩,hq⟩
 ·show(if i=n' then ρ' j else ρ' i)=none
  rw[if_neg (by omega)];exact q1.2.1 i (by omega) h0
 ·show(if i=n' then ρ' j else ρ' i)=none
  rw[if_neg (by omega)];exact hm i (by omega)
 ·exact List.nodup_cons.2 ⟨fun hi=>hKn _ (by show _∈K.map _;rw[<-hid];exact hi) rfl,by show(K'.map _).Nodup;rw[hid];exact hnd.2⟩
 ·intro i k b hi hk h1 h2
  simp only[ids,List.map_cons,List.mem_cons,hid]at hi hk
  rcases hi with rfl|hi<;>rcases hk with rfl|hk
  ·rfl
  ·rw[hn2]at h1;rw[hK2 k hk]at h2
   have:=q2.inj j k b hjH (hKH k hk) h1 h2
   subst this;exact absurd hk hnd.1
  ·rw[hn2]at h2;rw[hK2 i hi]at h1
   have:=q2.inj i j b (hKH i hi) hjH h1 h2
   subst this;exact absurd hi hnd.1
  ·rw[hK2 i hi]at h1;rw[hK2 k hk]at h2
   exact q2.inj i k b (hKH i hi) (hKH k hk) h1 h2
 ·intro i b hi h1
  simp only[ids,List.map_cons,List.mem_cons,hid]at hi
  rcases hi with rfl|hi
  ·rw[hn2]at h1;exact q2.notX j b hjH h1
  ·rw[hK2 i hi]at h1;exact q2.notX i b (hKH i hi) h1
 ·intro i ds hm'
  rw[hO]
  rcases List.mem_cons.1 hm' with e|hm'
  ·cases e
   obtain⟨b,c',e,f,k1,k2,k3,k4,k5,k6⟩:=q2.obj j cs (hp.symm.mem_iff.1 (by simp))
   exact⟨b,c',e,f,hn2.trans k1,k2,⟨k3.1,.inl (k3.2.resolve_right (by omega))⟩,k4,k5,hcar _ _ k6⟩
  ·obtain⟨ds0,hm0,hds⟩:=r1K_mem hrel hm'
   obtain⟨b,c',e,f,k1,k2,k3,k4,k5,k6⟩:=q2.obj i ds0 (hp.symm.mem_iff.1 (by simp[hm0]))
   rcases hds with rfl|⟨hsl,rfl⟩
   ·exact⟨b,c',e,f,hold i b k1,k2,k3,k4,k5,hcar _ _ k6⟩
   ·rw[<-r1s_len j n' ds0]at k5 k6
    exact⟨b,c',e,f,hold i b k1,k2,k3,k4,k5,r1s_vr hρ _ _ hsl k6⟩
 ·rw[hO]
  exact r1_vr hρ _ _ hs q3
def cpA (t:Tr) (nm kd:AV):AV:=.agg [.bool t.dir,.int .i64 t.mode,.str t.data,nm,kd]
def CpR (t:Tr) (r:AV) (Z:Hp):Prop:=∃a:Nat,
 (t.kids=[]/\r=cpA t (.osl (2*a+1) 1 0 t.names.length) .nils/\Z=[(2*a+1,fl sc t.names)])\/
 (0<t.kids.length/\∃b:Nat,r=cpA t (.osl (2*a+1) 1 0 t.names.length) (.osl (2*b+1) 5 0 t.kids.length)/\Z=[(2*a+1,fl sc t.names),(2*b+1,fl trc t.kids)])
theorem cp_use {G:Prg} {f:Nat} {t:Tr} {H:Hp} {n:Nat} {Q:CPost} (h:DC G f [.agg (tcs t)] [] (CpR t))
  (q1:t.kids=[]->Q (cpA t (.osl n 1 0 t.names.length) .nils) ((n,fl sc t.names)::H) (n+4))
  (q2:0<t.kids.length->Q (cpA t (.osl n 1 0 t.names.length) (.osl (n+4) 5 0 t.kids.length)) ((n+4,fl trc t.kids)::(n,fl sc t.names)::H) (n+4+4)):TCall G f [.agg (tcs t)] H n Q:=by
 have h0:TCall G f [.agg (tcs t)] H n fun r H' n'=>n'=n/\∃Z',H'=H++Z'/\CpR t r Z':=by
  refine lend_ref ((h [] n trivial).mono ?_)
  rintro r H' n' _ ⟨rfl,Z',rfl,hc⟩
  exact⟨rfl,hc⟩
 refine tc_evn (tc_evn (h0.mono ?_))
 rintro r H' n' _ ⟨rfl,Z',rfl,a,hc⟩ hnd hn4
 rcases hc with ⟨hk,rfl,rfl⟩|⟨hk,b,rfl,rfl⟩
 ·refine .inr ⟨2*a+1,_,H,_,by omega,List.perm_append_comm,by simp[cpA,slp,slps],r1K_refl _ _ _,fun _ _=>.inl ?_⟩
  have e:r1 (2*a+1) n' (cpA t (.osl (2*a+1) 1 0 t.names.length) .nils)=cpA t (.osl n' 1 0 t.names.length) .nils:=by
   simp only[cpA,r1,r1s,Nat.beq_refl,cond_true]
  rw[e]
  exact q1 hk
 ·have hab:(2*b+1)≠2*a+1:=by
   intro e
   simp only[ids,List.map_append,List.map_cons,List.map_nil]at hnd
   have:=(List.nodup_append.1 hnd).2.1
   rw[e]at this
   simp at this
  refine .inr ⟨2*a+1,_,(2*b+1,fl trc t.kids)::H,_,by omega,?_,by simp[cpA,slp,slps],r1K_refl _ _ _,fun _ _=>.inr ⟨2*b+1,_,(n',fl sc t.names)::H,_,by omega,List.Perm.swap _ _ _,?_,r1K_refl _ _ _,?_⟩⟩
  ·exact(List.perm_append_comm (l₁:=H)).trans (by simp)
  ·simp[cpA,r1,r1s,slp,slps]
  ·have e:r1 (2*b+1) (n'+4) (r1 (2*a+1) n' (cpA t (.osl (2*a+1) 1 0 t.names.length) (.osl (2*b+1) 5 0 t.kids.length)))=cpA t (.osl n' 1 0 t.names.length) (.osl (n'+4) 5 0 t.kids.length):=by
    simp only[cpA,r1,r1s,Nat.beq_refl,cond_true]
    rw[nbq hab]
    simp only[cond_false,Nat.beq_refl,cond_true]
    rw[nbq (show n'≠2*b+1 by omega)]
    rfl
   rw[e]
   exact q2 hk
mutual
theorem od_pur:∀a:AV,pur a=true->od a
 |.osl ..,h=>by simp[pur]at h
 |.ocl ..,h=>by simp[pur]at h
 |.ptr ..,h=>by simp[pur]at h
 |.agg az,h=>by simp only[pur,od]at*;exact ods_pur az h
 |.tup az,h=>by simp only[pur,od]at*;exact ods_pur az h
 |.fn _ az,h=>by simp only[pur,od]at*;exact ods_pur az h
 |.pat az,h=>by simp only[pur,od]at*;exact ods_pur az h
 |.sl _ es,h=>by simpa only[pur,od]using h
 |.int ..,_=>trivial
 |.bool _,_=>trivial
 |.str _,_=>trivial
 |.raw _,_=>trivial
 |.nils,_=>trivial
 |.nilp,_=>trivial
 |.dead,_=>trivial
 |.tp ..,h=>by simp[pur]at h
 |.tsl ..,h=>by simp[pur]at h
theorem ods_pur:∀az:List AV,purs az=true->ods az
 |[],_=>trivial
 |a::az,h=>by
  simp only[purs,Bool.and_eq_true]at h
  exact⟨od_pur a h.1,ods_pur az h.2⟩
end
theorem ods_flT (X:List Tr):ods (fl trc X):=ods_fl (fun t=>ods_pur _ (purs_trc t)) X
theorem rowT_get (X:List Tr) (k:Nat) (hk:k<X.length):((fl trc X).drop (0+k*5)).take 5=tcs (X.getD k default):=by
 have hl:∀x:Tr,(trc x).length=5:=fun x=>by rw[trc_eq];rfl
 rw[Nat.zero_add,fl_drop hl,List.drop_eq_getElem_cons hk]
 have:fl trc (X[k]::X.drop (k+1))=trc X[k]++fl trc (X.drop (k+1)):=by unfold fl;rw[List.map_cons,List.flatten_cons]
 rw[this,List.take_left' (hl _),show X.getD k default=X[k] by simp[List.getD,hk]]
 exact trc_eq _
theorem rowT_set (X:List Tr) (k:Nat) (y:Tr) (hk:k<X.length):(fl trc X).take (0+k*5)++tcs y++(fl trc X).drop (0+k*5+5)=fl trc (X.set k y):=by
 have hl:∀x:Tr,(trc x).length=5:=fun x=>by rw[trc_eq];rfl
 rw[Nat.zero_add,fl_take hl,show k*5+5=(k+1)*5 by omega,fl_drop hl,set_split X k hk,show tcs y=trc y from(trc_eq y).symm]
 rw[show X.take k++y::X.drop (k+1)=X.take k++[y]++X.drop (k+1) by simp,fl_app,fl_app,fl_one]
theorem Ws_app':∀(a b:List Tr),Tr.Ws (a++b)=Tr.Ws a+Tr.Ws b
 |[],b=>by simp[Tr.Ws]
 |x::a,b=>by simp only[List.cons_append,Tr.Ws,Ws_app' a b];omega
theorem Ws_set (X:List Tr) (k:Nat) (y:Tr) (hk:k<X.length):Tr.Ws (X.set k y)+(X.getD k default).W=Tr.Ws X+y.W:=by
 conv=>rhs;rw[get_split X k hk default]
 rw[set_split X k hk,Ws_app',Ws_app']
 simp only[Tr.Ws];omega
theorem leas_pre:∀(a:List AV) {b c:List AV},leas b c->leas (a++b) (a++c)
 |[],b,c,h=>h
 |x::a,b,c,h=>by simp only[List.cons_append,leas];exact⟨lea_refl x,leas_pre a h⟩
theorem lea_zero (X:List Tr):leas (fl trc X++[.bool false,.int .i64 0,.str [],.nils,.nils]) (fl trc (X++[.none])):=by
 rw[fl_app,fl_one,trc_none]
 exact leas_pre _ (by simp[leas,lea])
def OpR (X:Str) (r:AV) (Z:Hp):Prop:=∃(j:Nat) (b:Str),r=.ptr (2*j+1) 0/\Z=[(2*j+1,rdc b 0)]/\b.length<=2000
theorem op_use {G:Prg} {f:Nat} {X:Str} {arg:AV} {H:Hp} {n:Nat} {Q:CPost} (h:DC G f [arg] [] (OpR X))
  (q:∀b:Str,b.length<=2000->Q (.ptr n 0) ((n,rdc b 0)::H) (n+4)):TCall G f [arg] H n Q:=by
 have h0:TCall G f [arg] H n fun r H' n'=>n'=n/\∃Z',H'=H++Z'/\OpR X r Z':=by
  refine lend_ref ((h [] n trivial).mono ?_)
  rintro r H' n' _ ⟨rfl,Z',rfl,hc⟩
  exact⟨rfl,hc⟩
 refine tc_evn (h0.mono ?_)
 rintro r H' n' _ ⟨rfl,Z',rfl,j,b,rfl,rfl,hb⟩ hnd hn4
 refine .inr ⟨2*j+1,_,H,_,by omega,List.perm_append_comm,by simp[slp],r1K_refl _ _ _,?_⟩
 rw[show r1 (2*j+1) n' (.ptr (2*j+1) 0)=.ptr n' 0 by simp only[r1,Nat.beq_refl,cond_true]]
 exact q b hb
set_option maxRecDepth 100000
theorem tat_E (t:Tr) (n:Str) (p:List Str):∀l:List (Str×Tr),tat (mkE t l) (n::p)=match l.find? fun e=>e.1==n with|some e=>tat e.2 p|none=>none:=by
 intro l
 rw[tat_cons]
 show(match fnd n (l.map fun(e:Str×Tr)=>e.1)with|some k=>tat ((l.map fun(e:Str×Tr)=>e.2).getD k Tr.none) p|none=>none)=_
 induction l with
 |nil=>rfl
 |cons e l ih=>
  simp only[List.map_cons,fnd,List.find?_cons]
  cases h:e.1==n with
  |true=>rfl
  |false=>
   simp only[Bool.false_eq_true,if_false]
   rw[<-ih]
   cases fnd n (l.map fun(e:Str×Tr)=>e.1)with
   |none=>rfl
   |some k=>rfl
theorem mkE_ents {t:Tr} (hl:t.names.length=t.kids.length):mkE t (ents t)=t:=by
 obtain⟨z1,z2⟩:=ents_f hl
 unfold mkE
 rw[z1,z2];cases t;rfl
theorem tat_ents {t:Tr} (hl:t.names.length=t.kids.length) (n:Str) (p:List Str):tat t (n::p)=match (ents t).find? fun e=>e.1==n with|some e=>tat e.2 p|none=>none:=by
 conv=>lhs;rw[<-mkE_ents hl]
 exact tat_E t n p _
theorem find_ins (nm:Str) (x:Tr):∀l:List (Str×Tr),(∀e∈l,e.1≠nm)->(insE nm x l).find? (fun e=>e.1==nm)=some (nm,x)
 |[],_=>by simp[insE]
 |e::l,h=>by
  have h1:(e.1==nm)=false:=by simpa using h e (by simp)
  rw[insE]
  split
  ·rw[List.find?_cons,h1];exact find_ins nm x l fun e he=>h e (by simp[he])
  ·simp
theorem find_map (n m:Str) (f:Str×Tr->Tr):∀l:List (Str×Tr),(l.map fun e=>(e.1,f e)).find? (fun e=>e.1==n)=(l.find? fun e=>e.1==n).map fun e=>(e.1,f e)
 |[]=>rfl
 |e::l=>by
  rw[List.map_cons,List.find?_cons,List.find?_cons]
  cases e.1==n
  ·exact find_map n m f l
  ·rfl
theorem tat_set {x:Tr}:∀(p:List Str) (t:Tr),t.wf=true->tas t->tnd t->p≠[]->(tat t (p.take (p.length-1))).isSome=true->tat (tset p t x false) p=some x
 |[],_,_,_,_,h,_=>absurd rfl h
 |[nm],t,hw,ha,hn,_,_=>by
  have hl:=wf_len hw
  cases hf:fnd nm t.names with
  |some k=>
   rw[tset_hit hl ((tas_eq t).1 ha).1 (fnd_lt hf) (fnd_some hf),tat_cons,Tr.names_mk,Tr.kids_mk,hf]
   have:=fnd_lt hf
   simp[tat,List.getD_eq_getElem?_getD,show k<t.kids.length by omega]
  |none=>
   have h1:∀e∈ents t,e.1≠nm:=fun e he h=>fnd_none hf (h▸(List.of_mem_zip he).1)
   rw[tsE_new t x nm h1,tat_E,find_ins nm x _ h1]
   rfl
 |n::m::p,t,hw,ha,hn,_,hp=>by
  have hl:=wf_len hw
  rw[show(n::m::p).length-1=(m::p).length-1+1 by simp,List.take_succ_cons,tat_ents hl]at hp
  rw[tsE_deep _ _ _ _ _ (by simp),tat_E,find_map n n]
  cases hq:(ents t).find? fun e=>e.1==n with
  |none=>rw[hq]at hp;simp at hp
  |some e=>
   rw[hq]at hp
   have he:=List.mem_of_find?_eq_some hq
   have hen:=List.find?_some hq
   simp only[Option.map_some,hen,cond_true]
   have hk:=(List.of_mem_zip he).2
   have hwk:e.2.wf=true:=by
    have:=hw
    rw[wf_eq]at this
    simp only[Bool.and_eq_true,List.all_eq_true]at this
    exact this.2 _ hk
   have hnk:tnd e.2:=by
    obtain⟨i,hi,h⟩:=List.mem_iff_getElem.1 hk
    have:=tnds_get ((tnd_eq t).1 hn).2 hi
    rw[<-h]
    simpa[List.getD,hi]using this
   exact tat_set (m::p) e.2 hwk (tass_mem ((tas_eq t).1 ha).2 hk) hnk (by simp) hp
theorem tat_gone {x:Tr}:∀(p:List Str) (t:Tr),p≠[]->tat (tset p t x true) p=none
 |[],_,h=>absurd rfl h
 |[nm],t,_=>by
  rw[tsE_gone,tat_E]
  have:((ents t).filter fun e=> !(e.1==nm)).find? (fun e=>e.1==nm)=none:=by
   rw[List.find?_eq_none]
   intro e he
   have:=(List.mem_filter.1 he).2
   simpa using this
  rw[this]
 |n::m::p,t,_=>by
  rw[tsE_deep _ _ _ _ _ (by simp),tat_E,find_map n n]
  cases hq:(ents t).find? fun e=>e.1==n with
  |none=>rfl
  |some e=>
   have hen:=List.find?_some hq
   simp only[Option.map_some,hen,cond_true]
   exact tat_gone (m::p) e.2 (by simp)
theorem tat_apart {x:Tr}:∀(p q:List Str) (t:Tr),t.wf=true->p.isPrefixOf q=false->q.isPrefixOf p=false->tat (tset p t x true) q=tat t q
 |[],q,t,_,h,_=>by simp at h
 |_::_,[],t,_,_,h=>by simp at h
 |[n],m::q,t,hw,h1,_=>by
  have hne:(m==n)=false:=by
   cases hx:m==n
   ·rfl
   ·rw[eq_of_beq hx]at h1;simp[List.isPrefixOf]at h1
  rw[tsE_gone,tat_E,tat_ents (wf_len hw)]
  congr 1
  rw[List.find?_filter]
  congr 1
  funext e
  cases hx:e.1==m with
  |false=>simp
  |true=>rw[eq_of_beq hx,hne];rfl
 |n::n2::p,m::q,t,hw,h1,h2=>by
  rw[tsE_deep _ _ _ _ _ (by simp),tat_E,tat_ents (wf_len hw),find_map m n]
  cases hq:(ents t).find? fun e=>e.1==m with
  |none=>rfl
  |some e=>
   have hem:=List.find?_some hq
   simp only[Option.map_some]
   cases hx:e.1==n with
   |false=>rfl
   |true=>
    have e1:=eq_of_beq hem
    have e2:=eq_of_beq hx
    have hnm:n=m:=by rw[<-e1,<-e2]
    subst hnm
    have hk:=(List.of_mem_zip (List.mem_of_find?_eq_some hq)).2
    have hwk:e.2.wf=true:=by
     have:=hw
     rw[wf_eq]at this
     simp only[Bool.and_eq_true,List.all_eq_true]at this
     exact this.2 _ hk
    exact tat_apart (n2::p) q e.2 hwk (by simpa[List.isPrefixOf]using h1) (by simpa[List.isPrefixOf]using h2)
set_option maxRecDepth 100000
theorem fits_ok {y t:Tr} (h:(fits y t).2=0):treeOk y=true/\(fits y t).1=y:=by
 unfold fits at h⊢
 cases hy:treeOk y with
 |true=>exact⟨rfl,by simp⟩
 |false=>rw[hy]at h;simp at h
theorem tAt_some {y x:Tr} {p:List Str} (h:treeOk y=true) (hx:tat y p=some x):tAt y p=(x,true):=by
 unfold tAt xat;rw[h,hx];rfl
theorem tAt_none {y:Tr} {p:List Str} (h:treeOk y=true) (hx:tat y p=none):(tAt y p).2=false:=by
 unfold tAt;rw[h,hx];rfl
section
variable {t:Tr} {c:Cl}
theorem par0 (h:(sDo t c).2=0):parC t c.path=0:=by
 unfold sDo at h
 by_cases hP:parC t c.path=0
 ·exact hP
 ·rw[decide_eq_false hP]at h;exact absurd h hP
theorem done5 (ht:treeOk t=true) (hc:callOk c=true) (h:(sDo t c).2=0) (hk:c.kind=5):(tAt (sDo t c).1 c.path).2=false/\(tAt (sDo t c).1 c.to).2=true/\(tAt (sDo t c).1 c.to).1=(tAt t c.path).1:=by
 obtain⟨f1,f2,f3,f4⟩:=callOk_facts hc
 obtain⟨f5,f6⟩:=f4 hk
 have hp:c.path≠[]:=fun h=>by rw[h]at f1;simp at f1
 have hto:c.to≠[]:=fun h=>by rw[h]at f5;simp at f5
 have hP:=par0 h
 have hs:tas t:=by simp only[treeOk,Bool.and_eq_true]at ht;exact tas_parts t 0 ht.2.1
 have es:sDo t c=sRename t c:=by unfold sDo;rw[decide_eq_true hP,hk];rfl
 rw[es]at h⊢
 unfold sRename at h⊢
 cases hx:tat t c.path with
 |none=>rw[hx]at h;cases h
 |some x=>
  have hxa:xat t c.path=x:=by unfold xat;rw[hx];rfl
  rw[hx,hxa]at h
  rw[hxa]
  simp only[Option.isSome_some,Bool.not_true,cond_false]at h⊢
  cases hpre:c.path.isPrefixOf c.to with
  |true=>rw[hpre]at h;cases h
  |false=>
   rw[hpre]at h
   simp only[cond_false]at h⊢
   by_cases hQ:parC t c.to=0
   case neg=>rw[decide_eq_false hQ]at h;exact absurd h hQ
   rw[decide_eq_true hQ]at h⊢
   simp only[Bool.not_true,cond_false]at h⊢
   cases hy:tat t c.to with
   |some y=>rw[hy]at h;cases h
   |none=>
    rw[hy]at h
    simp only[Option.isSome_none,cond_false]at h⊢
    obtain⟨hok,e1⟩:=fits_ok h
    rw[e1]
    rw[swap_ok c.path c.to t (wf_ok ht) hs (tnd_ok ht) hp hto (by rw[hx];rfl) hy hpre]at hok⊢
    have hpre2:c.to.isPrefixOf c.path=false:=by
     cases hz:c.to.isPrefixOf c.path with
     |false=>rfl
     |true=>
      exfalso
      obtain⟨r,hr⟩:=List.isPrefixOf_iff_prefix.1 hz
      have:=tat_app c.to r t hy
      rw[hr,hx]at this;cases this
    have hset:tat (tset c.to t x false) c.to=some x:=by
     refine tat_set c.to t (wf_ok ht) hs (tnd_ok ht) hto ?_
     unfold parC at hQ
     cases hq:tat t (c.to.take (c.to.length-1))with
     |none=>rw[hq]at hQ;cases hQ
     |some q=>rfl
    have hw2:(tset c.to t x false).wf=true:=wf_tset _ _ _ _ (wf_ok ht) (wf_xat .none _ _ _ (wf_ok ht) hx)
    have h2:tat (tset c.path (tset c.to t x false) .none true) c.to=some x:=by
     rw[tat_apart c.path c.to _ hw2 hpre hpre2];exact hset
    rw[tAt_some hok h2,tAt_some ht hx]
    exact⟨tAt_none hok (tat_gone c.path _ hp),rfl,rfl⟩
end
end Go.Proofs.YtkgaefbohkcofaaGreatDoorT
