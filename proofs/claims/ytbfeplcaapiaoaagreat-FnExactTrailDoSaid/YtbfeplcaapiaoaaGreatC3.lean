/- A part of the proof that FnExactTrailDo, on every tree, list of marks and call, returns true (no conditions): rules of the walk, and what the functions compute. -/
import Derived.Test.YtbfeplcaapiaoaaGreatC2
set_option linter.unusedVariables false
set_option linter.unusedSimpArgs false
namespace Go.Proofs.YtbfeplcaapiaoaaGreatT
open Go Go.Proofs
set_option maxRecDepth 100000
theorem zrs_u8 (k:Nat):zrs k [.int .u8 0]=ints (List.replicate k 0):=by
  simp only[zrs,ints]
  induction k with
  |zero=>rfl
  |succ k ih=>rw[List.replicate_succ,List.replicate_succ,List.flatten_cons,ih];rfl
def szd (s:Str) (n:Int):Str:=if n<=(s.length:Int)then s.take n.toNat else s++List.replicate (n-(s.length:Int)).toNat 0
theorem szd_len {s:Str} {n:Int} (h:0<=n):(szd s n).length=n.toNat:=by
  unfold szd;split<;>simp<;>omega
def wrt (s:Str) (a:Int) (d:Str):Str:=
  (fun s1=>(fun o=>if(o.length:Int)<(s1.length:Int)then o++s1.drop o.length else o) (s1.take a.toNat++d)) (if(s.length:Int)<a then szd s a else s)
theorem modeOk_ok (n:Int):PE G 117 [.i n] (.bool (inb n 0 7)):=by
 refine Pe Tryz.func117 ?_
 refine Rr (Fn0 [0] [] (Rr (Pc0 2 [(3,.i n)] 4 (within_ok n 0 7) (Fn0 [] [(2,.bool (inb n 0 7))] ?_))))
 refine Rt (.bool (inb n 0 7)) ?_
 exact fin_lea (lea_refl _)
theorem sized_ok (s:Str) (n:Int) (h0:0<=n) (hn:n<2^40) (hs:s.length<2^40):PE G 122 [.str s,.i n] (.str (szd s n)):=by
 refine Pe Tryz.func122 ?_
 refine Rr (Fn0 [0,1] [] (Sq fun K2 hK2=>?_))
 refine Rr (Cn1 (decide ((n:Int)<=((s.length:Int):Int))) [0,1] [] (Ki/\·) ⟨rfl,fun hc4 c4=>?_,fun hc4 c4=>?_⟩)
 refine Rr (Fn1 [] [(4,.str (s.take n.toNat))] ((0<=(0:Int)/\(0:Int)<=n/\n<=(s.length:Int))/\·) ⟨⟨om,om,om⟩,Rt (.str (s.take n.toNat)) (fin_lea ?_)⟩)
 unfold szd
 rw[if_pos om];exact lea_refl _
 refine Sk (Jn (hK2 (Kp [0,1] ?_)))
 have hrl:(List.replicate (n-(s.length:Int)).toNat (0:UInt8)).length=(n-(s.length:Int)).toNat:=List.length_replicate
 refine Rr (Av1 (r:=.i (IntKind.i64.wrap (n-(s.length:Int)))) (v:=.i (n-(s.length:Int))) 5 16 [(15,.i s.length),(14,.str s),(13,.i n),(12,.str s)] (cI (wrap64 om om)) (Ki/\·) ⟨rfl,An3 1 [(17,.osl 0 1 0 (n-(s.length:Int)).toNat)] ([(0,zrs ((n-(s.length:Int)).toNat) [.int .u8 0])]++·) 4 (((n-(s.length:Int))=(n-(s.length:Int))/\(0:Int)<=(n-(s.length:Int))/\(n-(s.length:Int)).toNat*1<=140737488355328/\(n-(s.length:Int))<=140737488355328)/\·) ⟨⟨rfl,om,om,om⟩,run_v (v':=.osl 0 1 0 ((List.replicate (n-(s.length:Int)).toNat (0:UInt8)).length)) (by rw[List.length_replicate]) (run_h (cs':=ints (List.replicate (n-(s.length:Int)).toNat (0:UInt8))) (zrs_u8 _) ?_)⟩⟩)
 refine Av1 (r:=.str ((((ints (List.replicate (n-(s.length:Int)).toNat (0:UInt8))).drop 0).take (List.replicate (n-(s.length:Int)).toNat (0:UInt8)).length).map unu)) (v:=.str (List.replicate (n-(s.length:Int)).toNat (0:UInt8))) 1 18 [] (congrArg AV.str (unu_ints _)) (fun Z=>(1=1/\0+(List.replicate (n-(s.length:Int)).toNat (0:UInt8)).length<=(ints (List.replicate (n-(s.length:Int)).toNat (0:UInt8))).length/\allu (((ints (List.replicate (n-(s.length:Int)).toNat (0:UInt8))).drop 0).take (List.replicate (n-(s.length:Int)).toNat (0:UInt8)).length))/\Z) ⟨⟨rfl,by rw[ints_len];omega,allu_ints _⟩,Fn1 [] [(4,.str (s++(List.replicate (n-(s.length:Int)).toNat (0:UInt8))))] ((s.length+(List.replicate (n-(s.length:Int)).toNat (0:UInt8)).length<=9223372036854775807)/\·) ⟨om,Rt (.str (s++(List.replicate (n-(s.length:Int)).toNat (0:UInt8)))) (fin_lea ?_)⟩⟩
 unfold szd
 rw[if_neg om];exact lea_refl _
theorem written_ok (s:Str) (a:Int) (d:Str) (h0:0<=a) (ha:a<2^40) (hs:s.length<2^40) (hd:d.length<2^40):PE G 121 [.str s,.i a,.str d] (.str (wrt s a d)):=by
 refine Pe Tryz.func121 ?_
 refine Rr (Fn0 [0,1,2] [] (Sq fun K2 hK2=>?_))
 refine Rr (Cn1 (decide ((s.length:Int)<a)) [0,1,2] [] (Ki/\·) ⟨rfl,fun hc4 c4=>?_,fun hc4 c4=>?_⟩)
 refine Rb (fun h=>Jn (hK2 h)) ?_
 have hzl:=szd_len (s:=s) h0
 refine Pc0 3 [(13,.i a),(12,.str s)] 14 (sized_ok s a om om om) (Fn0 [1,2] [(0,.str (szd s a))] ?_)
 have hzl:=szd_len (s:=s) h0;have htk:(s.take a.toNat).length<=s.length:=(by rw[List.length_take];omega);have htk2:((szd s a).take a.toNat).length<=(szd s a).length:=(by rw[List.length_take];omega)
 refine Rr (Fn1 [0] [(7,.str (((szd s a).take a.toNat)++d))] ((0<=(0:Int)/\(0:Int)<=a/\a<=((szd s a).length:Int))/\(((szd s a).take a.toNat).length+d.length<=9223372036854775807)/\·) ⟨⟨om,om,om⟩,om,Sq fun K6 hK6=>?_⟩)
 have hlt1:(s.take a.toNat++d).length=(s.take a.toNat).length+d.length:=List.length_append;have hlt2:((szd s a).take a.toNat++d).length=((szd s a).take a.toNat).length+d.length:=List.length_append;have hdr:(s.drop (s.take a.toNat++d).length).length<=s.length:=by rw[List.length_drop];omega
 have hdr2:((szd s a).drop ((szd s a).take a.toNat++d).length).length<=(szd s a).length:=by rw[List.length_drop];omega
 refine Rr (Cn1 (decide ((((((szd s a).take a.toNat)++d).length:Nat):Int)<((szd s a).length:Int))) [0,7] [] (Ki/\·) ⟨rfl,fun hc8 c8=>?_,fun hc8 c8=>?_⟩)
 refine Rb (fun h=>Jn (hK6 h)) (Av1 (r:=.str (((szd s a).take ((szd s a).length)).drop ((((szd s a).take a.toNat)++d).length))) (v:=.str ((szd s a).drop ((((szd s a).take a.toNat)++d).length))) 5 29 [(28,.i (((((szd s a).take a.toNat)++d).length:Nat):Int)),(27,.str (((szd s a).take a.toNat)++d)),(26,.str (szd s a)),(25,.str (((szd s a).take a.toNat)++d))] (congrArg AV.str (congrArg (List.drop _) List.take_length)) (fun Z=>(0<=((((((szd s a).take a.toNat)++d).length:Nat):Int):Int)/\((((((szd s a).take a.toNat)++d).length:Nat):Int):Int)<=((szd s a).length:Int)/\((szd s a).length:Int)<=((szd s a).length:Int))/\Z) ⟨⟨om,om,om⟩,Fn1 [] [(7,.str ((((szd s a).take a.toNat)++d)++((szd s a).drop ((((szd s a).take a.toNat)++d).length))))] (fun Z=>((((szd s a).take a.toNat)++d).length+((szd s a).drop ((((szd s a).take a.toNat)++d).length)).length<=9223372036854775807)/\Z) ⟨(by first|omega|(simp only[List.length_append,List.length_cons,List.length_nil];omega)),Rr (Fn0 [] [(6,.str ((((szd s a).take a.toNat)++d)++((szd s a).drop ((((szd s a).take a.toNat)++d).length))))] ?_)⟩⟩)
 refine Rt (.str ((((szd s a).take a.toNat)++d)++((szd s a).drop ((((szd s a).take a.toNat)++d).length)))) (fin_lea ?_)
 unfold wrt
 rw[show(if(s.length:Int)<a then szd s a else s)=szd s a from if_pos om]
 dsimp only
 rw[if_pos om]
 exact lea_refl _
 refine Sk (Jn (hK6 (Kp [7] (Rr (Fn0 [] [(6,.str (((szd s a).take a.toNat)++d))] (Rt (.str (((szd s a).take a.toNat)++d)) (fin_lea ?_)))))))
 unfold wrt
 rw[show(if(s.length:Int)<a then szd s a else s)=szd s a from if_pos om]
 dsimp only
 rw[if_neg om]
 exact lea_refl _
 refine Sk (Jn (hK2 (Kp [0,1,2] ?_)))
 have hzl:=szd_len (s:=s) h0;have htk:(s.take a.toNat).length<=s.length:=(by rw[List.length_take];omega);have htk2:((szd s a).take a.toNat).length<=(szd s a).length:=(by rw[List.length_take];omega)
 refine Rr (Fn1 [0] [(7,.str ((s.take a.toNat)++d))] ((0<=(0:Int)/\(0:Int)<=a/\a<=(s.length:Int))/\((s.take a.toNat).length+d.length<=9223372036854775807)/\·) ⟨⟨om,om,om⟩,om,Sq fun K12 hK12=>?_⟩)
 have hlt1:(s.take a.toNat++d).length=(s.take a.toNat).length+d.length:=List.length_append;have hlt2:((szd s a).take a.toNat++d).length=((szd s a).take a.toNat).length+d.length:=List.length_append;have hdr:(s.drop (s.take a.toNat++d).length).length<=s.length:=by rw[List.length_drop];omega
 have hdr2:((szd s a).drop ((szd s a).take a.toNat++d).length).length<=(szd s a).length:=by rw[List.length_drop];omega
 refine Rr (Cn1 (decide ((((s.take a.toNat)++d).length:Int)<(s.length:Int))) [0,7] [] (Ki/\·) ⟨rfl,fun hc14 c14=>?_,fun hc14 c14=>?_⟩)
 refine Rb (fun h=>Jn (hK12 h)) (Av1 (r:=.str ((s.take s.length).drop (((s.take a.toNat)++d).length))) (v:=.str (s.drop (((s.take a.toNat)++d).length))) 5 29 [(28,.i (((s.take a.toNat)++d).length:Int)),(27,.str ((s.take a.toNat)++d)),(26,.str s),(25,.str ((s.take a.toNat)++d))] (congrArg AV.str (congrArg (List.drop _) List.take_length)) ((0<=((((s.take a.toNat)++d).length:Int):Int)/\((((s.take a.toNat)++d).length:Int):Int)<=(s.length:Int)/\(s.length:Int)<=(s.length:Int))/\·) ⟨⟨om,om,om⟩,Fn1 [] [(7,.str (((s.take a.toNat)++d)++(s.drop (((s.take a.toNat)++d).length))))] ((((s.take a.toNat)++d).length+(s.drop (((s.take a.toNat)++d).length)).length<=9223372036854775807)/\·) ⟨(by first|omega|(simp only[List.length_append,List.length_cons,List.length_nil];omega)),Rr (Fn0 [] [(6,.str (((s.take a.toNat)++d)++(s.drop (((s.take a.toNat)++d).length))))] ?_)⟩⟩)
 refine Rt (.str (((s.take a.toNat)++d)++(s.drop (((s.take a.toNat)++d).length)))) (fin_lea ?_)
 unfold wrt
 rw[show(if(s.length:Int)<a then szd s a else s)=s from if_neg om]
 dsimp only
 rw[if_pos om]
 exact lea_refl _
 refine Sk (Jn (hK12 (Kp [7] (Rr (Fn0 [] [(6,.str ((s.take a.toNat)++d))] (Rt (.str ((s.take a.toNat)++d)) (fin_lea ?_)))))))
 unfold wrt
 rw[show(if(s.length:Int)<a then szd s a else s)=s from if_neg om]
 dsimp only
 rw[if_neg om]
 exact lea_refl _
theorem begins_ok (p q:List Str) (hp:p.length<2^60) (hq:q.length<2^60):PE G 84 [pth p,pth q] (.bool (q.isPrefixOf p)):=by
 refine Pe Tryz.func84 ?_
 refine Rr (Fn0 [0,1] [] (Sq fun K2 hK2=>?_))
 refine Rr (Av0 2 7 [(6,pth p)] (lnm p sc) (Av0 2 9 [(8,pth q)] (lnm q sc) (Cn1 (decide ((p.length:Int)<(q.length:Int))) [0,1] [] (Ki/\·) ⟨rfl,fun hc4 c4=>?_,fun hc4 c4=>?_⟩)))
 refine Rr (Fn0 [] [(4,.bool false)] (Rt (.bool false) (fin_lea ?_)))
 rw[pre_no om];exact lea_refl _
 refine Sk (Jn (hK2 (Kp [0,1] (Sq fun K6 hK6=>?_))))
 refine Rr (Av0 2 12 [(11,pth q)] (lnm q sc) (Fn0 [0,1,12] [(13,.i 0)] (Bl (h_l (fun(k:Nat)=>([(0,pth p),(1,pth q),(12,.i q.length),(13,.i k)]:Fr)) (fun(k:Nat)=>([]:Hp)) (fun(k:Nat) cn=>(k<=q.length/\q.take k=p.take k)/\cn=0) (fun(k:Nat)=>q.length-k) 0 kr ?_ ?_ ?_ ?_))))
 refine⟨?_,rfl⟩;exact⟨Nat.zero_le _,rfl⟩
 exact⟨kr,kr,kr,kr,trivial⟩
 exact(List.nil_sublist _)
 rintro k n1 hI
 (try dsimp only at hI)
 obtain⟨⟨hk,hpre⟩,rfl⟩:=hI
 refine Rr (Fn1 [0,1,12,13] [(14,.bool (decide ((k:Int)<(q.length:Int))))] (Ki/\·) ⟨rfl,Sq fun K9 hK9=>?_⟩)
 refine Cc (decide ((k:Int)<(q.length:Int))) (fun hc10 c10=>?_) fun hc10 c10=>?_
 refine Sk (Jn (hK9 (Kp [0,1,12,13] (Sq fun K11 hK11=>?_))))
 refine Bl (Rr (Fn0 [0,1,12,13] [(5,.i k)] (Qr [0,0,3,7,0,0,48,112,255] [(0,[]),(1,[]),(2,[]),(3,[]),(4,[]),(5,[]),(6,[]),(7,[]),(8,[])] (qAv1 3 18 [(17,.i k),(16,pth p)] (congrArg AV.pat (mg_str p k om)) ((1=1/\(0:Int)<=(k:Int)/\(k:Int)<((p.map (fun s=>[AV.str s])).length:Int))/\·) ⟨⟨rfl,om,lmo⟩,?_⟩))))
 refine qAv1 4 22 [(21,.i k),(20,pth q),(19,.str (p.getD k default))] (congrArg AV.pat (mg_str q k om)) ((1<=1/\0<1)/\(1=1/\(0:Int)<=(k:Int)/\(k:Int)<((q.map (fun s=>[AV.str s])).length:Int))/\·) ⟨dc,⟨rfl,om,lmo⟩,qCn1 (!((p.getD k default)==(q.getD k default))) [0,1,12,13] [] ((1<=1/\0<1)/\·) ⟨dc,fun hc14 c14=>?_,fun hc14 c14=>?_⟩⟩
 refine Rr (Fn0 [] [(4,.bool false)] (Rt (.bool false) (fin_lea ?_)))
 rw[pre_ne (k:=k) om (by simpa using hc14)];exact lea_refl _
 refine Sk (Bn (Jn (hK11 (Kp [0,1,12,13] (Rn (Av1 1 25 [] (cI (wn1 k om)) (Ki/\·) ⟨rfl,Gn0 [(13,.i ((k+1:Nat):Int))] (nk_n ?_)⟩))))))
 refine Lr (k+1) [] 0 [(0,pth p),(1,pth q),(12,.i q.length),(13,.i ((k+1:Nat):Int))] [] [] ?_ ?_ kr kr
 (try dsimp only);omega
 refine⟨?_,rfl⟩;(try dsimp only);refine⟨om,?_⟩;rw[take_snoc q k default om,take_snoc p k default om,hpre];congr 2;symm;simpa using hc14
 refine Xt (Jx (Lx (Bh (Jn (hK6 (Kp [] (Rr (Fn0 [] [(4,.bool true)] (Rt (.bool true) (fin_lea ?_))))))))))
 rw[pre_yes om hpre];exact lea_refl _
theorem sound_ok:∀(N:Nat) (t:Tr) (n:Int),t.W=N->t.W<2^40->0<=n->n<=5->PE G 94 [.agg (tcs t),.i n] (.bool (partsOk t n)):=by
 intro N;refine Nat.strongRecOn N fun N ih=>?_;intro t n hN hw hn0 hn5;have hWe:=W_eq t;rw[W_eq]at hN hw;have hks:=Ws_len t.kids;have hns:=wS_len t.names
 refine Pe Tryz.func94 ?_
 refine Rr (Fn2 [1] [(2,.ptr 0 0)] ([(0,tcs t)]++·) 4 (Sq fun K2 hK2=>?_))
 refine Rm 23 ((!(inb t.mode 0 7))||((decide ((4:Int)<(n:Int)))||(!decide ((t.names.length:Int)=(t.kids.length:Int))))) [1,2] ?_ ?_
 refine Bc1 3 [(8,.i t.mode),(7,.ptr 0 1)] 117 [.i t.mode] 9 (((1:Nat)≠0)/\(1+1<=5/\1<5)/\·) ⟨dc,dc,?_⟩
 refine PE.use (modeOk_ok t.mode) ?_
 refine Ke (An0 2 [(11,.bool (!(inb t.mode 0 7))),(10,.bool (!(inb t.mode 0 7)))] (Rg (fun hg4 g4=>?_) (fun hg4 g4=>?_)))
 refine Mn0 true (by rw[hg4];rfl)
 refine An1 4 [(15,.bool (decide ((4:Int)<(n:Int)))),(14,.bool (decide ((4:Int)<(n:Int)))),(13,.bool (decide ((4:Int)<(n:Int)))),(12,.i n)] (Ki/\·) ⟨rfl,Rg (fun hg5 g5=>?_) (fun hg5 g5=>?_)⟩
 refine Mn0 true (by rw[hg4,hg5];rfl)
 refine Av1 3 18 [(17,pth t.names),(16,.ptr 0 3)] (lnm t.names sc) (((1:Nat)≠0)/\(3+1<=5/\3<5)/\·) ⟨dc,dc,Av1 3 21 [(20,.sl 5 (t.kids.map trc)),(19,.ptr 0 4)] (lnm t.kids trc) (((1:Nat)≠0)/\(4+1<=5/\4<5)/\·) ⟨dc,dc,Mn1 (!decide ((t.names.length:Int)=(t.kids.length:Int))) (Ki/\·) ⟨rfl,(by rw[hg4,hg5];rfl)⟩⟩⟩
 refine Cc ((!(inb t.mode 0 7))||((decide ((4:Int)<(n:Int)))||(!decide ((t.names.length:Int)=(t.kids.length:Int))))) (fun hc6 c6=>?_) fun hc6 c6=>?_
 refine Rr (Fn0 [] [(4,.bool false)] (Rt (.bool false) (fin_lea ?_)))
 have hr:partsOk t n=false:=by
   rw[partsOk_eq];simp only[plainOk]
   rcases c6 with h|h|h
   · simp[h]
   · simp[show ¬n<=4 by omega]
   · simp[show ¬t.names.length=t.kids.length by omega]
 rw[hr];exact lea_refl _
 refine Sk (Jn (hK2 (Kp [1,2] (Sq fun K8 hK8=>?_))))
 refine Rr (Cn1 (!t.dir) [1,2] [] (((1:Nat)≠0)/\(0+1<=5/\0<5)/\·) ⟨dc,dc,fun hc10 c10=>?_,fun hc10 c10=>?_⟩)
 refine Rm 4 ((decide ((t.data.length:Int)<=24))&&(decide ((t.names.length:Int)=0))) [] ?_ ?_
 refine An1 5 [(31,.bool (decide ((t.data.length:Int)<=24))),(30,.bool (decide ((t.data.length:Int)<=24))),(29,.i t.data.length),(28,.str t.data),(27,.ptr 0 2)] (((1:Nat)≠0)/\(2+1<=5/\2<5)/\Ki/\·) ⟨dc,dc,rfl,Rg (fun hg12 g12=>?_) (fun hg12 g12=>?_)⟩
 refine Av1 3 34 [(33,pth t.names),(32,.ptr 0 3)] (lnm t.names sc) (((1:Nat)≠0)/\(3+1<=5/\3<5)/\·) ⟨dc,dc,Mn1 (decide ((t.names.length:Int)=0)) (Ki/\·) ⟨rfl,(by rw[hg12];rfl)⟩⟩
 refine Mn0 false (by rw[hg12];rfl)
 refine Rt (.bool ((decide ((t.data.length:Int)<=24))&&(decide ((t.names.length:Int)=0)))) (fin_lea ?_)
 have hr:partsOk t n=((decide ((t.data.length:Int)<=24))&&(decide ((t.names.length:Int)=0))):=by
   obtain⟨a1,a2,a3⟩:=c6
   have hd:t.dir=false:=by simpa using hc10
   have hn0:t.names.length=0->t.kids=[]:=fun h=>List.eq_nil_of_length_eq_zero om
   rw[partsOk_eq];simp only[plainOk]
   simp only[a1,show t.names.length=t.kids.length by omega,show n<=4 by omega,hd,decide_true,Bool.true_and,Bool.false_eq_true,if_false]
   rw[show decide ((t.data.length:Int)<=24)=decide (t.data.length<=24)from decide_eq_decide.2 om]
   rcases Nat.eq_zero_or_pos t.names.length with h0|h0
   · rw[hn0 h0];simp[h0]
   · have h2:decide (t.kids.length=0)=false:=decide_eq_false om
     have h3:decide ((t.kids.length:Int)=0)=false:=decide_eq_false om
     rw[h2,h3];simp
 rw[hr];exact lea_refl _
 refine Sk (Jn (hK8 (Kp [1,2] (Sq fun K13 hK13=>?_))))
 refine Rr (Cn1 (!(t.data==[])) [1,2] [] (((1:Nat)≠0)/\(2+1<=5/\2<5)/\·) ⟨dc,dc,fun hc15 c15=>?_,fun hc15 c15=>?_⟩)
 refine Rr (Fn0 [] [(4,.bool false)] (Rt (.bool false) (fin_lea ?_)))
 have hr:partsOk t n=false:=by
   cases hp:partsOk t n
   · rfl
   exfalso
   rw[partsOk_eq]at hp;simp only[plainOk]at hp
   have hd:t.dir=true:=by simpa using hc10
   simp only[hd,if_true,Bool.and_eq_true,decide_eq_true_eq]at hp
   have:=hp.1.2.2.2.2
   rw[this]at hc15;cases hc15
 rw[hr];exact lea_refl _
 refine Sk (Jn (hK13 (Kp [1,2] (Sq fun K17 hK17=>?_))))
 refine Rr (Av1 3 42 [(41,pth t.names),(40,.ptr 0 3)] (lnm t.names sc) (((1:Nat)≠0)/\(3+1<=5/\3<5)/\·) ⟨dc,dc,Fn0 [1,2,41,42] [(43,.i 0)] (Bl (h_l (fun(k:Nat)=>([(1,.i n),(2,.ptr 0 0),(41,pth t.names),(42,.i t.names.length),(43,.i k)]:Fr)) (fun(k:Nat)=>([(0,tcs t)]:Hp)) (fun(k:Nat) cn=>(k<=t.names.length/\(t.names.take k).all nmOk=true/\asc (t.names.take k)=true/\(t.kids.take k).all (partsOk · (n+1))=true)/\cn=4) (fun(k:Nat)=>t.names.length-k) 0 kr ?_ ?_ ?_ ?_))⟩)
 refine⟨?_,rfl⟩;exact⟨Nat.zero_le _,rfl,rfl,rfl⟩
 exact⟨kr,kr,kr,kr,kr,trivial⟩
 exact(sub_c kr (List.nil_sublist _))
 rintro k n1 hI
 (try dsimp only at hI)
 obtain⟨⟨hk,g1,g2,g3⟩,rfl⟩:=hI
 refine Rr (Fn1 [1,2,41,42,43] [(44,.bool (decide ((k:Int)<(t.names.length:Int))))] (Ki/\·) ⟨rfl,Sq fun K20 hK20=>?_⟩)
 refine Cc (decide ((k:Int)<(t.names.length:Int))) (fun hc21 c21=>?_) fun hc21 c21=>?_
 refine Sk (Jn (hK20 (Kp [1,2,41,42,43] (Sq fun K22 hK22=>?_))))
 refine Bl (Rr (Av1 2 46 [(45,.i k)] (congrArg AV.pat (mg_str t.names k om)) ((1=1/\(0:Int)<=(k:Int)/\(k:Int)<((t.names.map (fun s=>[AV.str s])).length:Int))/\·) ⟨⟨rfl,om,lmo⟩,Fn1 [1,2,41,42,43] [(6,.str (t.names.getD k default)),(5,.i k)] ((1<=1/\0<1)/\·) ⟨dc,Rm 75 ((!(nmOk (t.names.getD k default)))||(bif decide ((0:Int)<((k:Int):Int))then(!blt (t.names.getD (((k:Int)-1).toNat) default) (t.names.getD k default))||(!(partsOk (t.kids.getD k default) (n+1)))else !(partsOk (t.kids.getD k default) (n+1)))) [1,2,41,42,43] ?_ ?_⟩⟩))
 refine Pc0 2 [(48,.str (t.names.getD k default))] 49 (nameOk_ok (t.names.getD k default) (by(have:=wS_get t.names k om;omega))) (An0 2 [(51,.bool (!(nmOk (t.names.getD k default)))),(50,.bool (!(nmOk (t.names.getD k default))))] (Rg (fun hg25 g25=>?_) (fun hg25 g25=>?_)))
 refine Mn0 true (by rw[hg25];rfl)
 refine An1 3 [(54,.bool (decide ((0:Int)<((k:Int):Int)))),(53,.bool (decide ((0:Int)<((k:Int):Int)))),(52,.i k)] (Ki/\·) ⟨rfl,Rg (fun hg26 g26=>?_) (fun hg26 g26=>?_)⟩
 refine Av1 (r:=.i (IntKind.i64.wrap ((k:Int)-1))) (v:=.i ((k:Int)-1)) 4 58 [(57,.i k),(56,pth t.names),(55,.ptr 0 3)] (cI (wrap64 om om)) (((1:Nat)≠0)/\(3+1<=5/\3<5)/\Ki/\·) ⟨dc,dc,rfl,Av1 1 59 [] (congrArg AV.pat (mg_str t.names (((k:Int)-1).toNat) om)) ((1=1/\(0:Int)<=((k:Int)-1)/\((k:Int)-1)<((t.names.map (fun s=>[AV.str s])).length:Int))/\·) ⟨⟨rfl,om,lmo⟩,An1 6 [(65,.bool (!blt (t.names.getD (((k:Int)-1).toNat) default) (t.names.getD k default))),(64,.bool (!blt (t.names.getD (((k:Int)-1).toNat) default) (t.names.getD k default))),(63,.bool (!blt (t.names.getD (((k:Int)-1).toNat) default) (t.names.getD k default))),(62,.bool (!blt (t.names.getD (((k:Int)-1).toNat) default) (t.names.getD k default))),(61,.str (t.names.getD k default)),(60,.str (t.names.getD (((k:Int)-1).toNat) default))] ((1<=1/\0<1)/\·) ⟨dc,Rg (fun hg27 g27=>?_) (fun hg27 g27=>?_)⟩⟩⟩
 refine Mn0 true (by rw[hg25,hg26,hg27];rfl)
 refine Av1 4 69 [(68,.i k),(67,.sl 5 (t.kids.map trc)),(66,.ptr 0 4)] (congrArg AV.pat (mg_trc t.kids k om)) (((1:Nat)≠0)/\(4+1<=5/\4<5)/\(5=5/\(0:Int)<=(k:Int)/\(k:Int)<((t.kids.map trc).length:Int))/\·) ⟨dc,dc,⟨rfl,om,lmo⟩,Av1 (r:=.i (IntKind.i64.wrap (n+1))) (v:=.i (n+1)) 3 72 [(71,.i n),(70,.agg (tcs (t.kids.getD k default)))] (cI (wrap64 om om)) ((5<=5/\0<5)/\Ki/\·) ⟨dc,rfl,?_⟩⟩
 have hW:=Ws_get t.kids k om
 refine Pc0 1 [] 73 (ih _ om (t.kids.getD k default) (n+1) rfl om om om) (Mn0 (!(partsOk (t.kids.getD k default) (n+1))) (by rw[hg25,hg26,hg27];rfl))
 refine Av1 15 69 [(68,.i k),(67,.sl 5 (t.kids.map trc)),(66,.ptr 0 4),(65,.bool false),(64,.bool false),(63,.bool false),(62,.tup []),(61,.tup []),(60,.tup []),(59,.tup []),(58,.tup []),(57,.tup []),(56,.tup []),(55,.tup [])] (congrArg AV.pat (mg_trc t.kids k om)) (((1:Nat)≠0)/\(4+1<=5/\4<5)/\(5=5/\(0:Int)<=(k:Int)/\(k:Int)<((t.kids.map trc).length:Int))/\·) ⟨dc,dc,⟨rfl,om,lmo⟩,Av1 (r:=.i (IntKind.i64.wrap (n+1))) (v:=.i (n+1)) 3 72 [(71,.i n),(70,.agg (tcs (t.kids.getD k default)))] (cI (wrap64 om om)) ((5<=5/\0<5)/\Ki/\·) ⟨dc,rfl,?_⟩⟩
 have hW:=Ws_get t.kids k om
 refine Pc0 1 [] 73 (ih _ om (t.kids.getD k default) (n+1) rfl om om om) (Mn0 (!(partsOk (t.kids.getD k default) (n+1))) (by rw[hg25,hg26];rfl))
 refine Cc ((!(nmOk (t.names.getD k default)))||(bif decide ((0:Int)<((k:Int):Int))then(!blt (t.names.getD (((k:Int)-1).toNat) default) (t.names.getD k default))||(!(partsOk (t.kids.getD k default) (n+1)))else !(partsOk (t.kids.getD k default) (n+1)))) (fun hc28 c28=>?_) fun hc28 c28=>?_
 refine Rr (Fn0 [] [(4,.bool false)] (Rt (.bool false) (fin_lea ?_)))
 have hr:partsOk t n=false:=by
   cases hp:partsOk t n
   · rfl
   exfalso
   rw[partsOk_eq]at hp;simp only[plainOk]at hp
   have hd:t.dir=true:=by simpa using hc10
   simp only[hd,if_true,Bool.and_eq_true,decide_eq_true_eq]at hp
   have p1:=all_getD nmOk t.names k default om hp.1.2.2.1
   have p2:=all_getD _ t.kids k default om hp.2.2
   have p3:k=0\/blt (t.names.getD (k-1) default) (t.names.getD k default)=true:=by
     rcases Nat.eq_zero_or_pos k with h|h
     · exact .inl h
     · exact .inr (asc_lt hp.1.2.2.2.1 om om)
   have hc:=hc28
   rw[show((k:Int)-1).toNat=k-1 by omega,p1,p2]at hc
   rcases p3 with p3|p3
   · rw[decide_eq_false om]at hc;simp at hc
   · rw[p3]at hc;cases hd:decide ((0:Int)<(k:Int))<;>rw[hd]at hc<;>simp at hc
 rw[hr];exact lea_refl _
 refine Sk (Bn (Jn (hK22 (Kp [1,2,41,42,43] (Rn (Av1 1 76 [] (cI (wn1 k om)) (Ki/\·) ⟨rfl,Gn0 [(43,.i ((k+1:Nat):Int))] (nk_n ?_)⟩))))))
 obtain⟨a1,a2,a3⟩:nmOk (t.names.getD k default)=true/\(k=0\/blt (t.names.getD (k-1) default) (t.names.getD k default)=true)/\partsOk (t.kids.getD k default) (n+1)=true:=by
   have hc:=hc28
   rw[show((k:Int)-1).toNat=k-1 by omega]at hc
   cases q1:nmOk (t.names.getD k default)with
   |false=>rw[q1]at hc;simp at hc
   |true=>
   cases q2:partsOk (t.kids.getD k default) (n+1)with
   |false=>rw[q1,q2]at hc;cases hd:decide ((0:Int)<(k:Int))<;>rw[hd]at hc<;>simp at hc
   |true=>
   refine⟨rfl,?_,rfl⟩
   rw[q1,q2]at hc
   rcases Nat.eq_zero_or_pos k with h|h
   · exact .inl h
   · right;rw[decide_eq_true om]at hc;simpa using hc
 refine Lr (k+1) [(0,0)] 4 [(1,.i n),(2,.ptr 0 0),(41,pth t.names),(42,.i t.names.length),(43,.i ((k+1:Nat):Int))] [(0,tcs t)] [true] ?_ ?_ kr kr
 (try dsimp only);omega
 refine⟨?_,rfl⟩;(try dsimp only);refine⟨om,?_,?_,?_⟩
 · rw[take_snoc t.names k default om,List.all_append,g1];simpa using a1
 · rw[asc_take t.names k om,g2];simpa using a2
 · rw[take_snoc t.kids k default om,List.all_append,g3];simpa using a3
 refine Xt (Jx (Lx (Bh (Jn (hK17 (Kp [] (Rr (Fn0 [] [(4,.bool true)] (Rt (.bool true) (fin_lea ?_))))))))))
 have hr:partsOk t n=true:=by
   obtain⟨a1,a2,a3⟩:=c6
   have hd:t.dir=true:=by simpa using hc10
   rw[partsOk_eq];simp only[plainOk]
   obtain rfl:k=t.names.length:=by omega
   rw[List.take_length]at g1 g2
   rw[List.take_of_length_le om]at g3
   simp only[a1,show t.names.length=t.kids.length by omega,show n<=4 by omega,hd,decide_true,Bool.true_and,if_true,g1,g2,g3,Bool.and_true]
   simpa using hc15
 rw[hr];exact lea_refl _
theorem paths_ok:∀(N:Nat) (t:Tr),t.W=N->t.W<2^40->PE G 95 [.agg (tcs t)] (.i ((1+cnt t:Nat):Int)):=by
 intro N;refine Nat.strongRecOn N fun N ih=>?_;intro t hN hw;have hcW:=cnt_W t;have hWe:=W_eq t;rw[W_eq]at hN;have hks:=Ws_len t.kids;rw[cnt_eq]at hcW
 refine Pe Tryz.func95 ?_
 refine Rr (Fn2 [] [(1,.ptr 0 0)] ([(0,tcs t)]++·) 4 (Rr (Fn0 [1] [(3,.i 1)] (Sq fun K3 hK3=>?_))))
 refine Rr (Av1 3 8 [(7,.sl 5 (t.kids.map trc)),(6,.ptr 0 4)] (lnm t.kids trc) (((1:Nat)≠0)/\(4+1<=5/\4<5)/\·) ⟨dc,dc,Fn0 [3,7,8] [(9,.i 0)] (Bl (h_l (fun(k:Nat)=>([(3,.i ((1+cnts (t.kids.take k):Nat):Int)),(7,.sl 5 (t.kids.map trc)),(8,.i t.kids.length),(9,.i k)]:Fr)) (fun(k:Nat)=>([(0,tcs t)]:Hp)) (fun(k:Nat) cn=>(k<=t.kids.length)/\cn=4) (fun(k:Nat)=>t.kids.length-k) 0 kr ?_ ?_ ?_ ?_))⟩)
 refine⟨?_,rfl⟩;omega
 exact⟨kr,kr,kr,kr,trivial⟩
 exact(sub_c kr (List.nil_sublist _))
 rintro k n1 hI
 (try dsimp only at hI)
 obtain⟨hk,rfl⟩:=hI
 have hct:=cnts_take_le t.kids k
 refine Rr (Fn1 [3,7,8,9] [(10,.bool (decide ((k:Int)<(t.kids.length:Int))))] (Ki/\·) ⟨rfl,Sq fun K6 hK6=>?_⟩)
 refine Cc (decide ((k:Int)<(t.kids.length:Int))) (fun hc7 c7=>?_) fun hc7 c7=>?_
 refine Sk (Jn (hK6 (Kp [3,7,8,9] (Sq fun K8 hK8=>?_))))
 refine Bl (Rr (Av1 1 11 [] (congrArg AV.pat (mg_trc t.kids k om)) ((5=5/\(0:Int)<=(k:Int)/\(k:Int)<((t.kids.map trc).length:Int))/\·) ⟨⟨rfl,om,lmo⟩,Fn3 [3,7,8,9] [(5,.ptr 4 0)] ([(4,tcs (t.kids.getD k default))]++·) 8 ((5<=5/\0<5)/\(true=true/\5=5/\0+5<=5)/\·) ⟨dc,dc,Rb (fun h=>Bn (Jn (hK8 h))) ?_⟩⟩))
 have hW:=Ws_get t.kids k om
 have hcw:=cnt_W (t.kids.getD k default)
 refine Pc1 3 [(14,.agg (tcs (t.kids.getD k default))),(13,.i ((1+cnts (t.kids.take k):Nat):Int))] 15 (0+5<=5/\0<5) dc (ih _ om (t.kids.getD k default) rfl om) (Av1 1 16 [] (cI (wnn (1+cnts (t.kids.take k)) (1+cnt (t.kids.getD k default)) om)) (Ki/\·) ⟨rfl,Fn0 [7,8,9] [(3,.i (((1+cnts (t.kids.take k))+(1+cnt (t.kids.getD k default)):Nat):Int))] (Rn (Av1 1 17 [] (cI (wn1 k om)) (Ki/\·) ⟨rfl,?_⟩))⟩)
 refine Gn0 [(9,.i ((k+1:Nat):Int))] (nk_n (Lr (k+1) [(0,0)] 4 [(3,.i (((1+cnts (t.kids.take k))+(1+cnt (t.kids.getD k default)):Nat):Int)),(7,.sl 5 (t.kids.map trc)),(8,.i t.kids.length),(9,.i ((k+1:Nat):Int))] [(0,tcs t)] [true] ?_ ?_ kr (by(try rw[show 1+cnts (t.kids.take (k+1))=1+cnts (t.kids.take k)+(1+cnt (t.kids.getD k default)) by rw[cnts_take t.kids k om];omega]);try kernel_rfl)))
 (try dsimp only);omega
 refine⟨?_,rfl⟩;(try dsimp only);omega
 refine Xt (Jx (Lx (Bh (Jn (hK3 (Kp [3] (Rr (Fn0 [] [(2,.i ((1+cnts (t.kids.take k):Nat):Int))] (Rt (.i ((1+cnts (t.kids.take k):Nat):Int)) (fin_lea ?_))))))))))
 obtain rfl:k=t.kids.length:=by omega
 rw[List.take_length,cnt_eq];exact lea_refl _
theorem TreeOk_ok (t:Tr) (hw:t.W<2^40):PE G 58 [.agg (tcs t)] (.bool (treeOk t)):=by
 have hcW:=cnt_W t
 refine Pe Tryz.func58 ?_
 refine Rr (Fn2 [] [(1,.ptr 0 0)] ([(0,tcs t)]++·) 4 (Rm 2 (t.dir&&((partsOk t 0)&&(decide (((1+cnt t:Nat):Int)<=31)))) [] ?_ ?_))
 refine An1 3 [(5,.bool t.dir),(4,.bool t.dir),(3,.ptr 0 0)] (((1:Nat)≠0)/\(0+1<=5/\0<5)/\·) ⟨dc,dc,Rg (fun hg3 g3=>?_) (fun hg3 g3=>?_)⟩
 refine Pc1 2 [(6,.agg (tcs t))] 7 (0+5<=5/\0<5) dc (sound_ok _ t 0 rfl om om om) (An0 2 [(9,.bool (partsOk t 0)),(8,.bool (partsOk t 0))] (Rg (fun hg4 g4=>?_) (fun hg4 g4=>?_)))
 refine Pc1 2 [(10,.agg (tcs t))] 11 (0+5<=5/\0<5) dc (paths_ok _ t rfl om) (Mn1 (decide (((1+cnt t:Nat):Int)<=31)) (Ki/\·) ⟨rfl,(by rw[hg3,hg4];rfl)⟩)
 refine Mn0 false (by rw[hg3,hg4];rfl)
 refine Mn0 false (by rw[hg3];rfl)
 refine Rt (.bool (t.dir&&((partsOk t 0)&&(decide (((1+cnt t:Nat):Int)<=31))))) (fin_lea ?_)
 have hr:treeOk t=(t.dir&&((partsOk t 0)&&(decide (((1+cnt t:Nat):Int)<=31)))):=by
   unfold treeOk;rw[show decide (cnt t<=30)=decide (((1+cnt t:Nat):Int)<=(31:Int))from decide_eq_decide.2 ⟨fun h=>by omega,fun h=>by omega⟩]
 rw[hr];exact lea_refl _
theorem isCall_ok (c:Cl) (h1:wS c.path<2^40) (h2:wS c.to<2^40):PE G 81 [.agg (clc c)] (.bool (callOk c)):=by
 have hl1:=wS_len c.path;have hl2:=wS_len c.to
 refine Pe Tryz.func81 ?_
 refine Rr (Fn2 [] [(1,.ptr 0 0)] ([(0,clc c)]++·) 4 (Sq fun K2 hK2=>?_))
 refine Rm 12 ((!(inb c.kind 1 6))||(!(pthOk c.path 1))) [1] ?_ ?_
 refine Bc1 3 [(4,.i c.kind),(3,.ptr 0 0)] 114 [.i c.kind,.i 1,.i 6] 5 (((1:Nat)≠0)/\(0+1<=5/\0<5)/\·) ⟨dc,dc,?_⟩
 refine PE.use (within_ok c.kind 1 6) ?_
 refine Ke (An0 2 [(7,.bool (!(inb c.kind 1 6))),(6,.bool (!(inb c.kind 1 6)))] (Rg (fun hg4 g4=>?_) (fun hg4 g4=>?_)))
 refine Mn0 true (by rw[hg4];rfl)
 refine Bc1 3 [(9,pth c.path),(8,.ptr 0 1)] 113 [pth c.path,.i 1] 10 (((1:Nat)≠0)/\(1+1<=5/\1<5)/\·) ⟨dc,dc,?_⟩
 refine PE.use (namesOk_ok c.path 1 om (fun s hs=>Nat.lt_trans (wS_mem hs) om)) ?_
 refine Ke (Mn0 (!(pthOk c.path 1)) (by rw[hg4];rfl))
 refine Cc ((!(inb c.kind 1 6))||(!(pthOk c.path 1))) (fun hc5 c5=>?_) fun hc5 c5=>?_
 refine Rr (Fn0 [] [(2,.bool false)] (Rt (.bool false) (fin_lea ?_)))
 have hr:callOk c=(false):=by
   unfold callOk
   have hz:∀q:inb c.kind 1 6=false,¬(1<=c.kind/\c.kind<=6):=fun q=>by simp only[inb,Bool.and_eq_false_iff,decide_eq_false_iff_not]at q;omega
   rcases c5 with q|q
   · have:=hz q;(repeat' split)<;>first|rfl|omega
   · (repeat' split)<;>first|rfl|(rw[q,Bool.false_and])|(rw[q])
 rw[hr];exact lea_refl _
 refine Sk (Jn (hK2 (Kp [1] (Sq fun K7 hK7=>?_))))
 refine Rr (Fn1 [1] [(14,.i c.kind)] (((1:Nat)≠0)/\(0+1<=5/\0<5)/\·) ⟨dc,dc,Bl (Sq fun K9 hK9=>?_)⟩)
 refine Rr (Cn1 (decide ((c.kind:Int)=(1:Int))) [1,14] [(15,.bool (decide ((c.kind:Int)=(1:Int))))] (Ki/\·) ⟨rfl,fun hc11 c11=>?_,fun hc11 c11=>?_⟩)
 refine Sk (Jn (hK9 (Kp [1,14,15] (C1 (t:=decide ((c.kind:Int)=(1:Int))) hc11 (Rr (Bc1 3 [(19,.i c.at_),(18,.ptr 0 3)] 117 [.i c.at_] 20 (((1:Nat)≠0)/\(3+1<=5/\3<5)/\·) ⟨dc,dc,PE.use (modeOk_ok c.at_) ?_⟩))))))
 refine Ke (Fn0 [] [(2,.bool (inb c.at_ 0 7))] (Rt (.bool (inb c.at_ 0 7)) ?_))
 · refine fin_lea ?_
   have hr:callOk c=(inb c.at_ 0 7):=by
     obtain⟨q1,q2⟩:inb c.kind 1 6=true/\pthOk c.path 1=true:=by simpa using hc5
     have q3:1<=c.kind/\c.kind<=6:=by simpa[inb]using q1
     unfold callOk
     (repeat' split)<;>first|omega|(simp only[q2,Bool.true_and];done)|(rw[q2])
   rw[hr];exact lea_refl _
 refine Rb (fun h=>Jn (hK9 h)) (Fn1 [1,14] [(15,.bool (decide ((c.kind:Int)=(6:Int))))] (Ki/\·) ⟨rfl,Cc (decide ((c.kind:Int)=(6:Int))) (fun hc13 c13=>?_) fun hc13 c13=>?_⟩)
 refine Rr (Bc1 3 [(19,.i c.at_),(18,.ptr 0 3)] 117 [.i c.at_] 20 (((1:Nat)≠0)/\(3+1<=5/\3<5)/\·) ⟨dc,dc,PE.use (modeOk_ok c.at_) (Ke (Fn0 [] [(2,.bool (inb c.at_ 0 7))] ?_))⟩)
 refine Rt (.bool (inb c.at_ 0 7)) ?_
 · refine fin_lea ?_
   have hr:callOk c=(inb c.at_ 0 7):=by
     obtain⟨q1,q2⟩:inb c.kind 1 6=true/\pthOk c.path 1=true:=by simpa using hc5
     have q3:1<=c.kind/\c.kind<=6:=by simpa[inb]using q1
     unfold callOk
     (repeat' split)<;>first|omega|(simp only[q2,Bool.true_and];done)|(rw[q2])
   rw[hr];exact lea_refl _
 refine Sq fun K15 hK15=>?_
 refine Rr (Cn1 (decide ((c.kind:Int)=(2:Int))) [1,14] [(21,.bool (decide ((c.kind:Int)=(2:Int))))] (Ki/\·) ⟨rfl,fun hc17 c17=>?_,fun hc17 c17=>?_⟩)
 refine Sk (Jn (hK15 (Kp [1,14,21] (C1 (t:=decide ((c.kind:Int)=(2:Int))) hc17 (Rr (Bc1 3 [(25,.i c.at_),(24,.ptr 0 3)] 114 [.i c.at_,.i 0,.i 24] 26 (((1:Nat)≠0)/\(3+1<=5/\3<5)/\·) ⟨dc,dc,PE.use (within_ok c.at_ 0 24) ?_⟩))))))
 refine Ke (Fn0 [] [(2,.bool (inb c.at_ 0 24))] (Rt (.bool (inb c.at_ 0 24)) ?_))
 · refine fin_lea ?_
   have hr:callOk c=(inb c.at_ 0 24):=by
     obtain⟨q1,q2⟩:inb c.kind 1 6=true/\pthOk c.path 1=true:=by simpa using hc5
     have q3:1<=c.kind/\c.kind<=6:=by simpa[inb]using q1
     unfold callOk
     (repeat' split)<;>first|omega|(simp only[q2,Bool.true_and];done)|(rw[q2])
   rw[hr];exact lea_refl _
 refine Rb (fun h=>Jn (hK15 h)) (Fn1 [1,14] [(21,.bool (decide ((c.kind:Int)=(3:Int))))] (Ki/\·) ⟨rfl,Cc (decide ((c.kind:Int)=(3:Int))) (fun hc19 c19=>?_) fun hc19 c19=>?_⟩)
 refine Rr (Bc1 3 [(25,.i c.at_),(24,.ptr 0 3)] 114 [.i c.at_,.i 0,.i 24] 26 (((1:Nat)≠0)/\(3+1<=5/\3<5)/\·) ⟨dc,dc,PE.use (within_ok c.at_ 0 24) (Ke (Fn0 [] [(2,.bool (inb c.at_ 0 24))] ?_))⟩)
 refine Rt (.bool (inb c.at_ 0 24)) ?_
 · refine fin_lea ?_
   have hr:callOk c=(inb c.at_ 0 24):=by
     obtain⟨q1,q2⟩:inb c.kind 1 6=true/\pthOk c.path 1=true:=by simpa using hc5
     have q3:1<=c.kind/\c.kind<=6:=by simpa[inb]using q1
     unfold callOk
     (repeat' split)<;>first|omega|(simp only[q2,Bool.true_and];done)|(rw[q2])
   rw[hr];exact lea_refl _
 refine Rr (Cn1 (decide ((c.kind:Int)=(5:Int))) [1] [] (Ki/\·) ⟨rfl,fun hc22 c22=>?_,fun hc22 c22=>?_⟩)
 refine Rr (Bc1 3 [(30,pth c.to),(29,.ptr 0 2)] 113 [pth c.to,.i 1] 31 (((1:Nat)≠0)/\(2+1<=5/\2<5)/\·) ⟨dc,dc,PE.use (namesOk_ok c.to 1 om (fun s hs=>Nat.lt_trans (wS_mem hs) om)) (Ke (Fn0 [] [(2,.bool (pthOk c.to 1))] ?_))⟩)
 refine Rt (.bool (pthOk c.to 1)) ?_
 · refine fin_lea ?_
   have hr:callOk c=(pthOk c.to 1):=by
     obtain⟨q1,q2⟩:inb c.kind 1 6=true/\pthOk c.path 1=true:=by simpa using hc5
     have q3:1<=c.kind/\c.kind<=6:=by simpa[inb]using q1
     unfold callOk
     (repeat' split)<;>first|omega|(simp only[q2,Bool.true_and];done)|(rw[q2])
   rw[hr];exact lea_refl _
 refine Sk (Bn (Jn (hK7 (Kp [] (Rr (Fn0 [] [(2,.bool true)] (Rt (.bool true) ?_)))))))
 · refine fin_lea ?_
   have hr:callOk c=(true):=by
     obtain⟨q1,q2⟩:inb c.kind 1 6=true/\pthOk c.path 1=true:=by simpa using hc5
     have q3:1<=c.kind/\c.kind<=6:=by simpa[inb]using q1
     unfold callOk
     (repeat' split)<;>first|omega|(simp only[q2,Bool.true_and];done)|(rw[q2])
   rw[hr];exact lea_refl _
open Go Go.Proofs
set_option maxRecDepth 100000
theorem tat_snoc:∀(q:List Str) (T:Tr) (n:Str),tat T (q++[n])=match tat T q with|some t=>tat t [n]|none=>none
  |[],T,n=>by simp only[List.nil_append,tat]
  |m::q,T,n=>by
    rw[List.cons_append,tat_cons,tat_cons]
    cases fnd m T.names with
    |none=>rfl
    |some k=>exact tat_snoc q _ n
theorem tat_app:∀(q p:List Str) (T:Tr),tat T q=none->tat T (q++p)=none
  |[],p,T,h=>by simp[tat]at h
  |m::q,p,T,h=>by
    rw[List.cons_append,tat_cons]
    rw[tat_cons]at h
    cases hf:fnd m T.names with
    |none=>rfl
    |some k=>rw[hf]at h;exact tat_app q p _ h
def kdp (t:Tr) (nm:Str):AV:=match fnd nm t.names with|some k=>.pat (tcs (t.kids.getD k default))|none=>.nilp
def atp (t:Tr) (p:List Str):AV:=match tat t p with|some x=>.pat (tcs x)|none=>.nilp
@[go_sem] theorem pur_kdp (t:Tr) (nm:Str):pur (kdp t nm)=true:=by
  unfold kdp;cases fnd nm t.names<;>simp only[go_sem]
@[go_sem] theorem pur_atp (t:Tr) (p:List Str):pur (atp t p)=true:=by
  unfold atp;cases tat t p<;>simp only[go_sem]
theorem kidp_ok (t:Tr) (nm:Str) (hns:t.names.length<2^40) (hwf:t.wf=true):PE G 119 [.pat (tcs t),.str nm] (kdp t nm):=by
 have hwl:=wf_len hwf
 refine Pe Tryz.func119 ?_
 refine Rr (Fn0 [0,1] [] (Rr (Bc1 6 [(10,.str nm),(9,pth t.names),(8,.pat [pth t.names,.sl 5 (t.kids.map trc)]),(7,.pat (tcs t)),(6,.pat (tcs t))] 139 [pth t.names,.str nm] 11 (((1:Nat)≠0)/\(1<=2/\0<2)/\·) ⟨dc,dc,PE.use (index_ok t.names nm om) ?_⟩)))
 refine Ke (Fn0 [0] [(5,.i (fndI nm t.names))] (Sq fun K3 hK3=>?_))
 refine Rm 22 ((decide ((fndI nm t.names:Int)<(0:Int)))||(decide ((t.kids.length:Int)<=fndI nm t.names))) [0,5] ?_ ?_
 refine An1 3 [(14,.bool (decide ((fndI nm t.names:Int)<(0:Int)))),(13,.bool (decide ((fndI nm t.names:Int)<(0:Int)))),(12,.i (fndI nm t.names))] (Ki/\·) ⟨rfl,Rg (fun hg5 g5=>?_) (fun hg5 g5=>?_)⟩
 refine Mn0 true (by rw[hg5];rfl)
 refine Av1 6 20 [(19,.sl 5 (t.kids.map trc)),(18,.pat [.sl 5 (t.kids.map trc)]),(17,.pat (tcs t)),(16,.pat (tcs t)),(15,.i (fndI nm t.names))] (lnm t.kids trc) (((1:Nat)≠0)/\(1<=1/\0<1)/\·) ⟨dc,dc,Mn1 (decide ((t.kids.length:Int)<=fndI nm t.names)) (Ki/\·) ⟨rfl,(by rw[hg5];rfl)⟩⟩
 refine Cc ((decide ((fndI nm t.names:Int)<(0:Int)))||(decide ((t.kids.length:Int)<=fndI nm t.names))) (fun hc6 c6=>?_) fun hc6 c6=>?_
 refine Rr (Fn0 [] [(4,.nilp)] (Rt (.nilp) (fin_lea ?_)))
 unfold kdp
 rw[fndI_no (by rcases Decidable.em (fndI nm t.names<0)with h|h;exact h;exfalso;obtain⟨k,e1,e2,e3⟩:=fndI_lt (n:=nm) (l:=t.names) om;omega)];exact lea_refl _
 refine Sk (Jn (hK3 (Kp [0,5] (Rr (Av1 6 28 [(27,.i (fndI nm t.names)),(26,.sl 5 (t.kids.map trc)),(25,.pat [.sl 5 (t.kids.map trc)]),(24,.pat (tcs t)),(23,.pat (tcs t))] (congrArg AV.pat (mg_trc t.kids ((fndI nm t.names).toNat) om)) (((1:Nat)≠0)/\(1<=1/\0<1)/\(5=5/\(0:Int)<=fndI nm t.names/\fndI nm t.names<((t.kids.map trc).length:Int))/\·) ⟨dc,dc,⟨rfl,om,lmo⟩,Fn0 [] [(4,.pat (tcs (t.kids.getD ((fndI nm t.names).toNat) default)))] (Rt (.pat (tcs (t.kids.getD ((fndI nm t.names).toNat) default))) ?_)⟩)))))
 refine fin_lea ?_
 obtain⟨kk,e1,e2,e3⟩:=fndI_lt (n:=nm) (l:=t.names) om
 unfold kdp
 rw[e1,e2,Int.toNat_natCast];exact lea_refl _
theorem atp_ok (t:Tr) (p:List Str) (hw:t.W<2^40) (hwf:t.wf=true) (hp:p.length<2^40):PE G 98 [.pat (tcs t),pth p] (atp t p):=by
 refine Pe Tryz.func98 ?_
 refine Rr (Fn0 [0,1] [] (Sq fun K2 hK2=>?_))
 refine Rr (Av0 2 8 [(7,pth p)] (lnm p sc) (Fn0 [0,7,8] [(9,.i 0)] (Bl (h_l (fun(z:Nat×Tr)=>(match z with|(k,u)=>([(0,.pat (tcs u)),(7,pth p),(8,.i p.length),(9,.i k)]:Fr))) (fun(z:Nat×Tr)=>(match z with|(k,u)=>([]:Hp))) (fun(z:Nat×Tr) cn=>(match z with|(k,u)=>(tat t (p.take k)=some u/\k<=p.length/\u.wf=true/\u.W<=t.W)/\cn=0)) (fun(z:Nat×Tr)=>p.length-z.1) (0,t) kr ?_ ?_ ?_ ?_))))
 refine⟨?_,rfl⟩;exact⟨rfl,Nat.zero_le _,hwf,Nat.le_refl _⟩
 exact⟨kr,kr,kr,kr,trivial⟩
 exact(List.nil_sublist _)
 rintro⟨k,u⟩ n1 hI
 (try dsimp only at hI)
 obtain⟨⟨h1,hk,huw,huW⟩,rfl⟩:=hI
 have hun:=wS_len u.names
 have huE:=W_eq u
 refine Rr (Fn1 [0,7,8,9] [(10,.bool (decide ((k:Int)<(p.length:Int))))] (Ki/\·) ⟨rfl,Sq fun K5 hK5=>?_⟩)
 refine Cc (decide ((k:Int)<(p.length:Int))) (fun hc6 c6=>?_) fun hc6 c6=>?_
 refine Sk (Jn (hK5 (Kp [0,7,8,9] (Sq fun K7 hK7=>?_))))
 refine Bl (Rr (Av1 1 11 [] (congrArg AV.pat (mg_str p k om)) ((1=1/\(0:Int)<=(k:Int)/\(k:Int)<((p.map (fun s=>[AV.str s])).length:Int))/\·) ⟨⟨rfl,om,lmo⟩,Fn1 [0,7,8,9] [(6,.str (p.getD k default))] ((1<=1/\0<1)/\·) ⟨dc,Rr ?_⟩⟩))
 refine Bc0 3 [(14,.str (p.getD k default)),(13,.pat (tcs u))] 119 [.pat (tcs u),.str (p.getD k default)] 15 ?_
 refine PE.use (kidp_ok u (p.getD k default) om (by assumption)) ?_
 unfold kdp
 rcases hf:fnd (p.getD k default) u.names with _|kk
 dsimp only
 refine Ke (Fn0 [7,8,9] [(0,.nilp)] (Rr (Fn1 [0,7,8,9] [(17,.bool true)] ((∃e,TK.ptr 42=TK.ptr e)/\·) ⟨⟨_,rfl⟩,Ct ?_⟩)))
 refine Rr (Fn0 [] [(4,.nilp)] (Rt (.nilp) (fin_lea ?_)))
 unfold atp
 rw[show tat t p=none by rw[<-List.take_append_drop (k+1) p];refine tat_app _ _ _ ?_;rw[take_snoc p k default om,tat_snoc,h1];simp only[tat,hf]];exact lea_refl _
 dsimp only
 have hkk:=fnd_lt hf
 refine Ke (Fn0 [7,8,9] [(0,.pat (tcs (u.kids.getD kk default)))] (Rr (Fn1 [0,7,8,9] [(17,.bool false)] ((∃e,TK.ptr 42=TK.ptr e)/\·) ⟨⟨_,rfl⟩,Cf ?_⟩)))
 refine Sk (Bn (Jn (hK7 (Kp [0,7,8,9] (Rn (Av1 1 18 [] (cI (wn1 k om)) (Ki/\·) ⟨rfl,Gn0 [(9,.i ((k+1:Nat):Int))] (nk_n ?_)⟩))))))
 have hwu:=wf_len huw
 have hkW:=Ws_get u.kids kk om
 refine Lr (k+1,u.kids.getD kk default) [] 0 [(0,.pat (tcs (u.kids.getD kk default))),(7,pth p),(8,.i p.length),(9,.i ((k+1:Nat):Int))] [] [] ?_ ?_ kr kr
 (try dsimp only);omega
 refine⟨?_,rfl⟩;(try dsimp only);refine⟨?_,om,wf_kid huw om _,om⟩
 rw[take_snoc p k default om,tat_snoc,h1];simp only[tat,hf];rfl
 refine Xt (Jx (Lx (Bh (Jn (hK2 (Kp [0] (Rr (Fn0 [] [(4,.pat (tcs u))] (Rt (.pat (tcs u)) (fin_lea ?_))))))))))
 unfold atp
 rw[List.take_of_length_le om]at h1
 rw[h1];exact lea_refl _
set_option maxRecDepth 100000
def iRename (t:Tr) (c:Cl):Tr×Int:=match tat t c.path with
 |none=>(t,3)
 |some x=>bif c.path.isPrefixOf c.to then(t,7)else bif !decide (parC t c.to=(0:Int))then(t,parC t c.to)else
  match tat t c.to with
  |some _=>(t,5)
  |none=>(tset c.path (tset c.to t x false) .none true,0)
def iDo (t:Tr) (c:Cl):Tr×Int:=
 bif !decide (parC t c.path=(0:Int))then(t,parC t c.path)else
 bif decide (c.kind=(1:Int))then(match tat t c.path with|some _=>(t,5)|none=>(tset c.path t (newDir c.at_) false,0))else
 bif decide (c.kind = (2 : Int)) then (match tat t c.path with
  |some x=>bif x.dir then(t,4)else bif decide ((24:Int)<c.at_+((c.data.length:Nat):Int))then(t,6)else(tset c.path t (wData x (wrt x.data c.at_ c.data)) false,0)
  |none=>bif decide ((24:Int)<c.at_+((c.data.length:Nat):Int))then(t,6)else(tset c.path t (wData .none (wrt [] c.at_ c.data)) false,0))else
 bif decide (c.kind = (3 : Int)) then (match tat t c.path with
  |none=>(t,3)
  |some x=>bif x.dir then(t,4)else(tset c.path t (wData x (szd x.data c.at_)) false,0))else
 bif decide (c.kind = (4 : Int)) then (match tat t c.path with
  |none=>(t,3)
  |some x=>bif x.dir&&decide ((0:Int)<((x.names.length:Nat):Int))then(t,5)else(tset c.path t .none true,0))else
 bif decide (c.kind=(5:Int))then iRename t c else
 bif decide (c.kind = (6 : Int)) then (match tat t c.path with
  |none=>(t,3)
  |some x=>(tset c.path t (wMode x c.at_) false,0))else(t,0)
theorem last_snoc {p:List Str} (h:0<p.length):p.take (p.length-1)++[p.getD (((p.length:Nat):Int)-1).toNat default]=p:=by
 rw[show(((p.length:Nat):Int)-1).toNat=p.length-1 by omega,<-take_snoc p (p.length-1) default (by omega),show p.length-1+1=p.length by omega,List.take_length]
theorem oat_kid_none {T u:OT} {q:List Str} {nm:Str} (hu:oat T q=some u) (h:oat T (q++[nm])=none):fnd nm u.names=none:=by
 rw[oat_snoc,hu]at h
 simp only[oat]at h
 cases hf:fnd nm u.names with
 |none=>rfl
 |some k=>rw[hf]at h;cases h
theorem oat_kid_some {T u y:OT} {q:List Str} {nm:Str} (hu:oat T q=some u) (h:oat T (q++[nm])=some y):∃k,fnd nm u.names=some k/\u.kids.getD k default=y:=by
 rw[oat_snoc,hu]at h
 simp only[oat]at h
 cases hf:fnd nm u.names with
 |none=>rw[hf]at h;cases h
 |some k=>rw[hf]at h;exact⟨k,rfl,by simpa using h⟩
theorem fnd_ins {nm n:Str} (hne:n≠nm) (l:List Str) (j k:Nat) (h:fnd n l=some k):fnd n (l.take j++[nm]++l.drop j)=some (if k<j then k else k+1):=by
 have h1:fnd n (l.take j++l.drop j)=some k:=by rw[List.take_append_drop];exact h
 rw[fnd_app]at h1
 rw[List.append_assoc,fnd_app]
 have h2:fnd n ([nm]++l.drop j)=(fnd n (l.drop j)).map (·+1):=by
  show fnd n (nm::l.drop j)=_
  rw[fnd,show(nm==n)=false by simpa using Ne.symm hne];rfl
 rw[h2]
 cases hf:fnd n (l.take j)with
 |some i=>
  rw[hf]at h1
  simp only[Option.some.injEq]at h1
  subst h1
  have:=fnd_lt hf
  rw[List.length_take]at this
  simp only[show i<j by omega,if_true]
 |none=>
  rw[hf]at h1
  dsimp only at h1⊢
  cases hd:fnd n (l.drop j)with
  |none=>rw[hd]at h1;cases h1
  |some i=>
   rw[hd]at h1
   simp only[Option.map_some,Option.some.injEq,List.length_take]at h1⊢
   have:=fnd_lt hd
   rw[List.length_drop]at this
   split<;>omega
theorem getD_ins {α:Type} (l:List α) (x d:α) (j k:Nat) (hj:j<=l.length) (hk:k<l.length):(l.take j++[x]++l.drop j).getD (if k<j then k else k+1) d=l.getD k d:=by
 simp only[List.getD_eq_getElem?_getD]
 congr 1
 split
 ·rename_i h
  rw[List.append_assoc,List.getElem?_append_left (by simp;omega),List.getElem?_take,if_pos h]
 ·rename_i h
  rw[List.getElem?_append_right (by simp;omega),List.getElem?_drop]
  congr 1
  simp;omega
theorem put_keeps {x:Tr}:∀(to:List Str) (t q:Tr) (p:List Str) (v:Tr),t.wf=true->tnd t->asc q.names=true->to≠[]->tat t (to.take (to.length-1))=some q->tat t to=none->tat t p=some v->∃v',tat (tset to t x false) p=some v'/\v'.dir=v.dir
 |[],_,_,_,_,_,_,_,h,_,_,_=>absurd rfl h
 |[nm],t,q,p,v,hw,hn,ha,_,hq,hz,hp=>by
  simp only[List.length_cons,List.length_nil,Nat.zero_add,Nat.sub_self,List.take_zero,tat,Option.some.injEq]at hq
  subst hq
  rw[tat_cons]at hz
  have hf:fnd nm t.names=none:=by
   cases hf:fnd nm t.names with
   |none=>rfl
   |some k=>rw[hf]at hz;simp[tat]at hz
  have hwl:=wf_len hw
  obtain⟨j,h1,h2,h3⟩:∃j,j<=t.names.length/\(∀l,l<j->blt (t.names.getD l default) nm=true)/\(∀l,j<=l->l<t.names.length->blt (t.names.getD l default) nm=false):=by
   have key:∀m,m<=t.names.length->(∀l,l<m->blt (t.names.getD l default) nm=true)\/∃j,j<m/\(∀l,l<j->blt (t.names.getD l default) nm=true)/\blt (t.names.getD j default) nm=false:=by
    intro m
    induction m with
    |zero=>intro _;exact .inl fun l hl=>by omega
    |succ m ih=>
     intro hm
     rcases ih (by omega)with h|⟨j,h1,h2,h3⟩
     ·cases hb:blt (t.names.getD m default) nm with
      |true=>
       refine .inl fun l hl=>?_
       rcases Nat.lt_or_ge l m with h'|h'
       ·exact h l h'
       ·obtain rfl:l=m:=by omega
        exact hb
      |false=>exact .inr ⟨m,by omega,h,hb⟩
     ·exact .inr ⟨j,by omega,h2,h3⟩
   rcases key _ (Nat.le_refl _)with h|⟨j,h1,h2,h3⟩
   ·exact⟨_,Nat.le_refl _,h,fun l h1 h2=>by omega⟩
   ·exact⟨j,by omega,h2,bs_dn ha h3⟩
  have h4:j<t.names.length->t.names.getD j default≠nm:=fun hj he=>fnd_none hf (by rw[<-he];simp[List.getD,hj])
  rw[tset_new hwl ha h1 h2 h3 h4]
  cases p with
  |nil=>exact⟨_,rfl,by simp only[tat,Option.some.injEq]at hp;subst hp;rfl⟩
  |cons n p=>
   rw[tat_cons]at hp⊢
   cases hk:fnd n t.names with
   |none=>rw[hk]at hp;cases hp
   |some k=>
    rw[hk]at hp
    have hne:n≠nm:=fun e=>by rw[e,hf]at hk;cases hk
    have hkl:=fnd_lt hk
    rw[Tr.names_mk,Tr.kids_mk,fnd_ins hne _ _ _ hk]
    dsimp only
    rw[getD_ins _ _ _ _ _ (by omega) (by omega)]
    exact⟨v,hp,rfl⟩
 |m::n::to,t,q,p,v,hw,hn,ha,_,hq,hz,hp=>by
  have hwl:=wf_len hw
  rw[tset_deep hwl ((tnd_eq t).1 hn).1 (by simp)]
  rw[show(m::n::to).length-1=(n::to).length-1+1 by simp,List.take_succ_cons,tat_cons]at hq
  rw[tat_cons]at hz
  cases hf:fnd m t.names with
  |none=>rw[hf]at hq;cases hq
  |some k=>
   rw[hf]at hq hz
   have hk:k<t.kids.length:=by rw[<-hwl];exact fnd_lt hf
   dsimp only
   cases p with
   |nil=>exact⟨_,rfl,by simp only[tat,Option.some.injEq]at hp;subst hp;rfl⟩
   |cons n' p=>
    rw[tat_cons]at hp⊢
    rw[Tr.names_mk,Tr.kids_mk]
    cases hk':fnd n' t.names with
    |none=>rw[hk']at hp;cases hp
    |some k'=>
     rw[hk']at hp
     dsimp only at hp⊢
     rcases Nat.decEq k k' with hne|heq
     ·refine⟨v,?_,rfl⟩
      rw[<-hp]
      congr 1
      simp only[List.getD_eq_getElem?_getD,List.getElem?_set_ne hne]
     ·subst heq
      obtain⟨v',e1,e2⟩:=put_keeps (x:=x) (n::to) (t.kids.getD k default) q p v (wf_kid hw hk _) (tnds_get ((tnd_eq t).1 hn).2 hk) ha (by simp) hq hz hp
      refine⟨v',?_,e2⟩
      rw[<-e1]
      congr 1
      simp[List.getD_eq_getElem?_getD,hk]
theorem nodup_ins {nm:Str} {l:List Str} (j:Nat) (h:nm∉l) (hn:l.Nodup):(l.take j++[nm]++l.drop j).Nodup:=by
 have:(l.take j++[nm]++l.drop j).Perm (nm::l):=by
  have h1:(l.take j++nm::l.drop j).Perm (nm::(l.take j++l.drop j)):=List.perm_middle
  rw[List.take_append_drop]at h1
  rw[List.append_assoc]
  exact h1
 exact(List.Perm.nodup_iff this).2 (List.nodup_cons.2 ⟨h,hn⟩)
theorem tnds_take {ks:List Tr} (h:tnds ks) (j:Nat):tnds (ks.take j)/\tnds (ks.drop j):=by
 rw[<-List.take_append_drop j ks]at h
 exact tnds_app.1 h
theorem tnd_ins {u':OT} {u x:OT} {nm:Str} {j k k':Nat} (hu:u'=.mk u.dir u.mode u.data (some (k,k')) (u.names.take j++[nm]++u.names.drop j) (u.kids.take j++[x]++u.kids.drop j)) (hf:fnd nm u.names=none) (h:tnd (er u)) (hx:tnd (er x)):tnd (er u'):=by
 rw[tnd_eq,er_names,er_kids]at h
 rw[hu,er_mk,tnd_eq]
 refine⟨nodup_ins j (fnd_none hf) h.1,?_⟩
 rw[Tr.kids_mk]
 simp only[List.map_append,List.map_take,List.map_drop,List.map_cons,List.map_nil]
 exact tnds_app.2 ⟨tnds_app.2 ⟨(tnds_take h.2 j).1,hx,trivial⟩,(tnds_take h.2 j).2⟩
theorem shps_take {ks:List OT} (h:shps ks) (j:Nat):shps (ks.take j)/\shps (ks.drop j):=by
 rw[<-List.take_append_drop j ks]at h
 exact shps_app.1 h
theorem asms_take {ks:List OT} (h:asms ks) (j:Nat):asms (ks.take j)/\asms (ks.drop j):=by
 rw[<-List.take_append_drop j ks]at h
 exact asms_app.1 h
theorem shp_ins {u':OT} {u x:OT} {nm:Str} {j k k':Nat} (hu:u'=.mk u.dir u.mode u.data (some (k,k')) (u.names.take j++[nm]++u.names.drop j) (u.kids.take j++[x]++u.kids.drop j)) (h:shp u) (hx:shp x):shp u':=by
 have h2:=((shp_eq u).1 h).2
 rw[hu,shp_eq]
 exact⟨fun h=>by simp at h,shps_app.2 ⟨shps_app.2 ⟨(shps_take h2 j).1,hx,trivial⟩,(shps_take h2 j).2⟩⟩
theorem asm_ins {u':OT} {u x:OT} {nm:Str} {j k k':Nat} (hu:u'=.mk u.dir u.mode u.data (some (k,k')) (u.names.take j++[nm]++u.names.drop j) (u.kids.take j++[x]++u.kids.drop j)) (h:asm u) (hx:asm x):asm u':=by
 have h2:=((asm_eq u).1 h).2
 rw[hu,asm_eq]
 exact⟨rfl,asms_app.2 ⟨asms_app.2 ⟨(asms_take h2 j).1,hx,trivial⟩,(asms_take h2 j).2⟩⟩
theorem Lies'.lies {Z W:Hp} {r:Nat} {A0 B0:List AV} {T:OT} (h:Lies' Z r A0 B0 T W) (h1:r%2=1) (h2:owf T) (h3:shp T) (h4:(er T).W<=2^36):Lies Z r A0 B0 T W:=⟨h.2,h1,h.1,h2,h3,osm_W T h4⟩
theorem Lies.add {Z W Y:Hp} {r:Nat} {A0 B0:List AV} {T:OT} (h:Lies Z r A0 B0 T W) (hy:odH Y):Lies (Z++Y) r A0 B0 T (W++Y):=
 ⟨odH_app.2 ⟨h.odd,hy⟩,h.r1,by
  have:=h.perm.append_right Y
  rwa[List.cons_append,List.append_assoc (objs T)]at this,h.wf,h.shp,h.sm⟩
def DoR (f:Tr->Cl->Tr×Int) (T:OT) (c:Cl) (r:Nat) (A0 B0:List AV) (r':AV) (Z':Hp):Prop:=
 ∃(T':OT) (W':Hp),r'=.int .i64 (f (er T) c).2/\Lies' Z' r A0 B0 T' W'/\er T'=(f (er T) c).1/\shp T'
theorem parC_er {T:OT} {p:List Str}:parC (er T) p=match oat T (p.take (p.length-1))with|none=>3|some u=>if u.dir then 0 else 4:=by
 unfold parC
 rw[tat_er]
 cases oat T (p.take (p.length-1))with
 |none=>rfl
 |some u=>simp only[Option.map_some,er_dir]
theorem asc_oat {T u:OT} {p:List Str} (h:treeOk (er T)=true) (hu:oat T p=some u):asc u.names=true:=by
 have:=asc_tat h (p:=p) (x:=er u) (by rw[tat_er,hu];rfl)
 rwa[er_names]at this
theorem tnd_tat:∀{p:List Str} {t x:Tr},t.wf=true->tnd t->tat t p=some x->tnd x
 |[],t,x,_,h,he=>by simp only[tat,Option.some.injEq]at he;exact he▸h
 |n::p,t,x,hw,h,he=>by
  rw[tat_cons]at he
  cases hf:fnd n t.names with
  |none=>rw[hf]at he;cases he
  |some k=>
   rw[hf]at he
   have hk:k<t.kids.length:=by rw[<-wf_len hw];exact fnd_lt hf
   exact tnd_tat (wf_kid hw hk _) (tnds_get ((tnd_eq t).1 h).2 hk) he
theorem hit_er {T u x:OT} {q:List Str} {nm:Str} {k:Nat} (hw:owf T) (hto:treeOk (er T)=true) (hu:oat T q=some u) (hk:fnd nm u.names=some k):er (orep T (q++[nm]) x)=tset (q++[nm]) (er T) (er x) false:=by
 rw[orep_snoc q T u x nm k hu hk]
 refine orep_tset q T u _ hw (tnd_ok hto) hu ?_
 have hwu:=oat_wf hw hu
 rw[tset_hit (j:=k) (wf_len hwu) (by rw[er_names];exact asc_oat hto hu) (by rw[er_names];exact fnd_lt hk) (by rw[er_names];exact fnd_some hk)]
 rw[er_mk,List.map_set,er_names,er_kids,er_dir,er_mode,er_data]
theorem new_er {T u u' x:OT} {q:List Str} {nm:Str} (hw:owf T) (hto:treeOk (er T)=true) (hu:oat T q=some u) (h:er u'=tset [nm] (er u) (er x) false):er (orep T q u')=tset (q++[nm]) (er T) (er x) false:=
 orep_tset q T u u' hw (tnd_ok hto) hu h
theorem gone_er {T u:OT} {q:List Str} {nm:Str} {k:Nat} (hw:owf T) (hn:tnd (er T)) (hu:oat T q=some u) (hk:fnd nm u.names=some k):
  er (orep T q (.mk u.dir u.mode u.data u.ids (u.names.take k++u.names.drop (k+1)) (u.kids.take k++u.kids.drop (k+1))))=tset (q++[nm]) (er T) .none true:=by
 refine orep_tset q T u _ hw hn hu ?_
 have hwu:=oat_wf hw hu
 have hnu:tnd (er u):=tnd_tat hw hn (p:=q) (by rw[tat_er,hu];rfl)
 rw[tset_gone (j:=k) (wf_len hwu) ((tnd_eq _).1 hnu).1 (by rw[er_names];exact fnd_lt hk) (by rw[er_names];exact fnd_some hk)]
 rw[er_mk,er_names,er_kids,er_dir,er_mode,er_data]
 simp only[List.map_append,List.map_take,List.map_drop]
theorem drop_shp {u:OT} {k:Nat} (h:shp u):shp (.mk u.dir u.mode u.data u.ids (u.names.take k++u.names.drop (k+1)) (u.kids.take k++u.kids.drop (k+1))):=by
 have h1:=(shp_eq u).1 h
 refine(shp_eq _).2 ⟨fun hi=>?_,shps_app.2 ⟨(shps_take h1.2 k).1,(shps_take h1.2 (k+1)).2⟩⟩
 obtain⟨e1,e2⟩:=h1.1 hi
 simp only[OT.names_mk,OT.kids_mk,e1,e2];simp
theorem setL {Z W Wo:Hp} {r i:Nat} {A0 B0 A B:List AV} {T y y':OT} {p:List Str} (hnd:(ids Z).Nodup) (hz:odH Z) (hp:Z.Perm ((i,A++otc y++B)::(own y++(objss y.kids++Wo))))
  (hr:∀t',((r,A0++otc (orep T p t')++B0)::(objs (orep T p t')++W)).Perm ((i,A++otc t'++B)::(objs t'++Wo))) (ho:own y'=own y) (hk:y'.kids=y.kids):
  Lies' (hset Z i (A++otc y'++B)) r A0 B0 (orep T p y') W:=by
 refine⟨((hset_perm hnd hp).trans ?_).trans (hr y').symm,odH_hset hz (ods_mid hz hp) hnd⟩
 rw[objs_eq,ho,hk,List.append_assoc (own y)]
theorem ods_clc (c:Cl):ods [.agg (clc c)]:=by
 simp only[ods,od,clc,true_and,and_true]
 exact⟨purs_pth _,purs_pth _⟩
theorem objs_data {y:OT} {d:Str} {m:Int}:objs (.mk y.dir m d y.ids y.names y.kids)=objs y:=by
 rw[objs_eq,objs_eq y];rfl
theorem shp_data {y:OT} {d:Str} {m:Int} (h:shp y):shp (.mk y.dir m d y.ids y.names y.kids):=(shp_eq _).2 ((shp_eq y).1 h)
open Go Go.Proofs
set_option maxRecDepth 100000
theorem oat_parent {T y:OT} {q:List Str} {n:Str} (h:oat T (q++[n])=some y):∃u,oat T q=some u:=by
  rw[oat_snoc]at h
  cases hq:oat T q with
  |none=>rw[hq]at h;cases h
  |some u=>exact⟨u,rfl⟩
theorem oat_of_tat {T:OT} {p:List Str} {v:Tr} (h:tat (er T) p=some v):∃y,oat T p=some y:=by
  rw[tat_er]at h
  cases hq:oat T p with
  |none=>rw[hq]at h;cases h
  |some u=>exact⟨u,rfl⟩
theorem dir_of_kid {T u:OT} {q:List Str} {n:Str} {k:Nat} (hto:treeOk (er T)=true) (hu:oat T q=some u) (hk:fnd n u.names=some k):u.dir=true:=by
  simp only[treeOk,Bool.and_eq_true]at hto
  obtain⟨m,hm⟩:=parts_tat hto.2.1 (p:=q) (x:=er u) (by rw[tat_er,hu];rfl)
  rw[partsOk_eq]at hm
  simp only[Bool.and_eq_true]at hm
  have h1:=hm.1
  simp only[plainOk,Bool.and_eq_true,decide_eq_true_eq]at h1
  have h7:=h1.2.2
  rw[er_dir,er_names]at h7
  cases hd:u.dir with
  |true=>rfl
  |false=>
    rw[hd]at h7
    simp only[Bool.false_eq_true,if_false,Bool.and_eq_true]at h7
    have:=of_decide_eq_true h7.2
    have:=fnd_lt hk
    omega
set_option maxHeartbeats 2000000 in
theorem rename_ok {Z W:Hp} {r:Nat} {A0 B0:List AV} {T:OT} (c:Cl) (hL:Lies Z r A0 B0 T W) (ha:asm T) (hto:treeOk (er T)=true) (f1:0<c.path.length) (f2:wS c.path<2^10) (f5:0<c.to.length) (f6:wS c.to<2^10):DC G 124 [.ptr r A0.length,.agg (clc c)] Z (DoR iRename T c r A0 B0):=by
 refine DC_nd fun hnd=>?_
 have hl1:=wS_len c.path;have hWT:=W_ok hto;have hl2:=wS_len c.to
 refine h_dc (F:=[(0,.ptr r A0.length),(1,.agg (clc c))]) ⟨hL.r1,(ods_clc c).1,trivial⟩ hL.odd Tryz.func124 kr kr ?_ kr
 refine Rr (Fn2 [0] [(3,.ptr 0 0)] ([(0,clc c)]++·) 4 (Rr (Bc1 4 [(14,pth c.path),(13,.ptr 0 1),(12,.ptr r A0.length)] 98 [.ptr r A0.length,pth c.path] 15 (((1:Nat)≠0)/\(1+1<=5/\1<5)/\·) ⟨dc,dc,DC.use (at_ok c.path hL om) [(0,clc c)] rfl ⟨rfl,trivial⟩ ?_⟩)))
 rintro _ _ ⟨e1,rfl⟩
 rw[e1];clear e1
 have hioya3:=opos_oat (r:=r) (o:=A0.length) (p:=c.path) hL.wf hL.shp
 rcases hyya3:oat T c.path with _|ya3
 rw[hyya3]at hioya3
 have hXya3:tat (er T) c.path=none:=by rw[tat_er,hyya3];rfl
 rw[show opos T r A0.length c.path=none from Option.isNone_iff_eq_none.1 (by rw[<-Option.not_isSome,hioya3];rfl),show oad none=.nilp from rfl]
 refine Ke (Fn0 [0,3] [(5,.nilp)] (Sq fun K4 hK4=>?_))
 refine Bl (Rr (Fn1 [0,3,5] [(16,.bool true)] ((∃e,TK.ptr 42=TK.ptr e)/\·) ⟨⟨_,rfl⟩,Ct (Rr ?_)⟩))
 refine Fn0 [] [(4,.i 3)] (Rt (.i 3) ?_)
 have hT:er T=er T:=rfl
 have e:iRename (er T) c=(er T,3):=by
   rw[hT];unfold iRename
   (try simp only[cond_true,hXya3,wData,wMode,newDir,Tr.none,er_mk,er_dir,er_mode,er_data,er_names,er_kids,List.map_nil,decide_true,Bool.not_true,Bool.not_false,Bool.true_and,Bool.and_true,Bool.false_and,Bool.and_false,cond_true,cond_false,show decide ((0:Int)=0)=true from rfl,show decide ((3:Int)=0)=false from rfl,show decide ((4:Int)=0)=false from rfl])
   try rfl
 refine fin_dc (.i 3) Z (by first|exact List.Sublist.refl _|exact List.Sublist.cons _ (List.Sublist.refl _)|exact List.Sublist.cons _ (List.Sublist.cons _ (List.Sublist.refl _))) (lea_refl _) trivial hL.odd ⟨T,W,?_,⟨hL.perm,hL.odd⟩,?_,hL.shp⟩<;>rw[e]
 obtain⟨iya3,Aya3,Bya3,Wya3,hoya3,hiya3,hpya3,hnya3,hsya3,hrya3⟩:=hL.foc hyya3
 have hgya3:hgt Z iya3=some (Aya3++otc ya3++Bya3):=hgt_perm hnd hpya3 (by simp)
 have hXya3:tat (er T) c.path=some (er ya3):=by rw[tat_er,hyya3];rfl
 obtain⟨⟨aya3,bya3⟩,hidsya3⟩:=Option.isSome_iff_exists.1 ((asm_eq _).1 (oat_asm hL.wf ha hyya3)).1
 have hWya3:=W_tat _ _ _ hXya3
 have hDya3:=data_W (er ya3)
 rw[er_data]at hDya3
 rw[hoya3,show oad (some (iya3,Aya3.length))=.ptr iya3 Aya3.length from rfl]
 refine Ke (Fn0 [0,3] [(5,.ptr iya3 Aya3.length)] (Sq fun K7 hK7=>?_))
 refine Bl (Rr (Fn1 [0,3,5] [(16,.bool false)] ((∃e,TK.ptr 42=TK.ptr e)/\·) ⟨⟨_,rfl⟩,Cf (Rr ?_)⟩))
 refine Bc1 5 [(23,pth c.path),(22,.ptr 0 1),(21,pth c.to),(20,.ptr 0 2)] 84 [pth c.to,pth c.path] 24 (((1:Nat)≠0)/\(2+1<=5/\2<5)/\((1:Nat)≠0)/\(1+1<=5/\1<5)/\·) ⟨dc,dc,dc,dc,?_⟩
 refine PE.use (begins_ok c.to c.path om om) ?_
 refine Ke (Cn0 (c.path.isPrefixOf c.to) [0,3,5] [] ⟨fun hc10 c10=>?_,fun hc10 c10=>?_⟩)
 refine Rr (Fn0 [] [(4,.i 7)] (Rt (.i 7) ?_))
 have hT:er T=er T:=rfl
 have e:iRename (er T) c=(er T,7):=by
   rw[hT];unfold iRename
   (try simp only[cond_true,hXya3,hc10,wData,wMode,newDir,Tr.none,er_mk,er_dir,er_mode,er_data,er_names,er_kids,List.map_nil,decide_true,Bool.not_true,Bool.not_false,Bool.true_and,Bool.and_true,Bool.false_and,Bool.and_false,cond_true,cond_false,show decide ((0:Int)=0)=true from rfl,show decide ((3:Int)=0)=false from rfl,show decide ((4:Int)=0)=false from rfl])
   try rfl
 refine fin_dc (.i 7) Z (by first|exact List.Sublist.refl _|exact List.Sublist.cons _ (List.Sublist.refl _)|exact List.Sublist.cons _ (List.Sublist.cons _ (List.Sublist.refl _))) (lea_refl _) trivial hL.odd ⟨T,W,?_,⟨hL.perm,hL.odd⟩,?_,hL.shp⟩<;>rw[e]
 refine Sk (Bn (Jn (hK7 (Kp [0,3,5] (Rr (Bc1 4 [(28,pth c.to),(27,.ptr 0 2),(26,.ptr r A0.length)] 118 [.ptr r A0.length,pth c.to] 29 (((1:Nat)≠0)/\(2+1<=5/\2<5)/\·) ⟨dc,dc,DC.use (parent_ok c.to hL om om) [(0,clc c)] rfl ⟨rfl,trivial⟩ ?_⟩))))))
 rintro _ _ ⟨e1,rfl⟩
 rw[e1];clear e1
 rcases hup13:oat T (c.to.take (c.to.length-1))with _|up13
 rotate_left
 dsimp only
 cases hdp13:up13.dir
 simp only[cond_false]
 have hPp13:parC (er T) c.to=4:=by rw[parC_er,hup13];simp only[hdp13];rfl
 refine Ke (Fn1 [0,3,5] [(7,.i 4),(6,.nilp)] ((0<2)/\(1<2)/\·) ⟨dc,dc,Sq fun K14 hK14=>?_⟩)
 refine Rr (Fn1 [0,3,5,6,7] [(33,.bool true)] (Ki/\·) ⟨rfl,Ct (Rr (Fn0 [] [(4,.i 4)] ?_))⟩)
 refine Rt (.i 4) ?_
 have hT:er T=er T:=rfl
 have e:iRename (er T) c=(er T,4):=by
   rw[hT];unfold iRename
   (try simp only[hPp13,hXya3,hc10,wData,wMode,newDir,Tr.none,er_mk,er_dir,er_mode,er_data,er_names,er_kids,List.map_nil,decide_true,Bool.not_true,Bool.not_false,Bool.true_and,Bool.and_true,Bool.false_and,Bool.and_false,cond_true,cond_false,show decide ((0:Int)=0)=true from rfl,show decide ((3:Int)=0)=false from rfl,show decide ((4:Int)=0)=false from rfl])
   try rfl
 refine fin_dc (.i 4) Z (by first|exact List.Sublist.refl _|exact List.Sublist.cons _ (List.Sublist.refl _)|exact List.Sublist.cons _ (List.Sublist.cons _ (List.Sublist.refl _))) (lea_refl _) trivial hL.odd ⟨T,W,?_,⟨hL.perm,hL.odd⟩,?_,hL.shp⟩<;>rw[e]
 simp only[cond_true]
 have hPp13:parC (er T) c.to=0:=by rw[parC_er,hup13];simp only[hdp13];rfl
 obtain⟨ip13,Ap13,Bp13,Wp13,hop13,hip13,hpp13,hnp13,hsp13,hrp13⟩:=hL.foc hup13
 rw[hop13,show oad (some (ip13,Ap13.length))=.ptr ip13 Ap13.length from rfl]
 refine Ke (Fn1 [0,3,5] [(7,.i 0),(6,.ptr ip13 Ap13.length)] ((0<2)/\(1<2)/\·) ⟨dc,dc,Sq fun K17 hK17=>?_⟩)
 refine Rr (Fn1 [0,3,5,6,7] [(33,.bool false)] (Ki/\·) ⟨rfl,Cf (Sk (Jn (hK17 (Kp [0,3,5,6] (Rr ?_)))))⟩)
 refine Av1 5 39 [(38,pth c.to),(37,.ptr 0 2),(36,pth c.to),(35,.ptr 0 2)] (lnm c.to sc) (((1:Nat)≠0)/\(2+1<=5/\2<5)/\((1:Nat)≠0)/\(2+1<=5/\2<5)/\·) ⟨dc,dc,dc,dc,Av1 (r:=.i (IntKind.i64.wrap ((c.to.length:Int)-1))) (v:=.i ((c.to.length:Int)-1)) 1 40 [] (cI (wrap64 om om)) (Ki/\·) ⟨rfl,Av1 1 41 [] (congrArg AV.pat (mg_str c.to (((c.to.length:Int)-1).toNat) om)) ((1=1/\(0:Int)<=((c.to.length:Int)-1)/\((c.to.length:Int)-1)<((c.to.map (fun s=>[AV.str s])).length:Int))/\·) ⟨⟨rfl,om,lmo⟩,Fn1 [0,3,5,6] [(8,.str (c.to.getD (((c.to.length:Int)-1).toNat) default))] ((1<=1/\0<1)/\·) ⟨dc,Sq fun K20 hK20=>?_⟩⟩⟩⟩
 refine Rr (Bc0 3 [(44,.str (c.to.getD (((c.to.length:Int)-1).toNat) default)),(43,.ptr ip13 Ap13.length)] 119 [.ptr ip13 Ap13.length,.str (c.to.getD (((c.to.length:Int)-1).toNat) default)] 45 ?_)
 have hpep13:=last_snoc (p:=c.to) om
 refine DC.use (kidL (q:=c.to.take (c.to.length-1)) (c.to.getD (((c.to.length:Int)-1).toNat) default) hL hup13 hop13) [(0,clc c)] rfl ⟨rfl,trivial⟩ ?_
 rintro _ _ ⟨e1,rfl⟩
 rw[e1,hpep13];clear e1
 have hiop13:=opos_oat (r:=r) (o:=A0.length) (p:=c.to) hL.wf hL.shp
 rcases hyyp13:oat T c.to with _|yp13
 rw[hyyp13]at hiop13
 have hXyp13:tat (er T) c.to=none:=by rw[tat_er,hyyp13];rfl
 rw[show opos T r A0.length c.to=none from Option.isNone_iff_eq_none.1 (by rw[<-Option.not_isSome,hiop13];rfl),show oad none=.nilp from rfl]
 refine Ke (Fn1 [0,3,5,6,8] [(46,.bool false)] ((∃e,TK.ptr 42=TK.ptr e)/\·) ⟨⟨_,rfl⟩,Cf (Sk (Jn (hK20 (Kp [0,3,5,6,8] (Rr ?_)))))⟩)
 refine An0 2 [(48,.ptr iya3 Aya3.length),(47,.ptr iya3 Aya3.length)] (gela (t:=ya3) 49 42 iya3 (.agg (otc ya3)) (fun J=>by kernel_rfl) ((hgt_ev (E:=[(0,clc c)]) ⟨rfl,trivial⟩ hiya3).trans hgya3) kr rfl (Bc0 1 [] 82 [.agg (otc ya3)] 50 ?_))
 have hYs:=oat_shp hL.wf hL.shp hyya3
 refine TCall.mono (cl_use (t:=er ya3) (vw_deep hYs (fun p hp=>List.mem_append_right [(0,clc c)] (hpya3.mem_iff.2 (by rw[objs_eq]at hp;simp only[List.mem_cons,List.mem_append]at hp⊢;rcases hp with h|h;exact .inr (.inl h);exact .inr (.inr (.inl h))))) rfl) (clone_ok _ (er ya3) rfl om)) ?_
 rintro _ H1 _ _ ⟨rfl,Tn,hH1,he,hs,ha2,rfl⟩
 have hH2:H1=((0,clc c)::(Z++objs Tn)):=by rw[hH1];simp only[List.nil_append,List.cons_append,List.append_assoc]
 clear hH1;subst hH2
 have hL2:=hL.add (odH_objs Tn)
 refine Ke (Fn3 [0,3,6,8] [(9,.ptr 4 0)] ([(4,otc Tn)]++·) 8 ((true=true/\5=5/\0+5<=5)/\·) ⟨dc,Rr (Bc1 4 [(53,.agg (otc Tn)),(52,.str (c.to.getD (((c.to.length:Int)-1).toNat) default)),(51,.ptr ip13 Ap13.length)] 120 [.ptr ip13 Ap13.length,.str (c.to.getD (((c.to.length:Int)-1).toNat) default),.agg (otc Tn)] 54 ((0+5<=5/\0<5)/\·) ⟨dc,?_⟩)⟩)
 have hkp13:=oat_kid_none hup13 (by rw[hpep13];exact hyyp13)
 obtain⟨⟨aup13,bup13⟩,hidsup13⟩:=Option.isSome_iff_exists.1 ((asm_eq _).1 (oat_asm hL.wf ha hup13)).1
 refine DC.use (putL_new (x:=Tn) (W':=W) (c.to.getD (((c.to.length:Int)-1).toNat) default) hL2 hup13 hop13 hidsup13 (asc_oat hto hup13) hkp13 List.perm_append_comm) [(4,otc Tn),(0,clc c)] rfl ⟨rfl,⟨rfl,trivial⟩⟩ ?_
 rintro rr Z1 ⟨j,k1,k2,u',hj,e1,e2,hZ1⟩
 have hT2:=new_er hL.wf hto hup13 e2
 rw[hpep13,he]at hT2
 have htu:tat (er T) (c.to.take (c.to.length-1))=some (er up13):=by rw[tat_er,hup13];rfl
 have hT2n:=orep_tnd hL.wf (tnd_ok hto) hup13 (tnd_ins e1 hkp13 (tnd_tat hL.wf (tnd_ok hto) htu) (by rw[he];exact tnd_tat hL.wf (tnd_ok hto) hXya3))
 have hs2:=orep_shp hL.wf hL.shp hup13 (shp_ins e1 (oat_shp hL.wf hL.shp hup13) hs)
 have ha3:=orep_asm hL.wf ha hup13 (asm_ins e1 (oat_asm hL.wf ha hup13) ha2)
 have hw2:owf (orep T (c.to.take (c.to.length-1)) u'):=by
   unfold owf;rw[hT2];exact wf_tset _ _ _ _ hL.wf (wf_xat .none _ _ _ hL.wf hXya3)
 have hW2:(er (orep T (c.to.take (c.to.length-1)) u')).W<=2^36:=by
   rw[hT2]
   have:=W_tset_lt2 (p:=c.to) (t:=er T) (x:=er ya3) (g:=false) om om f6
   omega
 obtain⟨v',hv1,hv2⟩:=put_keeps (x:=er ya3) c.to (er T) (er up13) c.path (er ya3) hL.wf (tnd_ok hto) (by rw[er_names];exact asc_oat hto hup13) (fun h=>by rw[h]at f5;simp at f5) htu hXyp13 hXya3
 obtain⟨uP,hyP⟩:=oat_parent (last_snoc f1▸hyya3)
 have hdP:uP.dir=true:=by
   obtain⟨kP,hkP,_⟩:=oat_kid_some hyP (last_snoc f1▸hyya3)
   exact dir_of_kid hto hyP hkP
 obtain⟨vP,hvP1,hvP2⟩:=put_keeps (x:=er ya3) c.to (er T) (er up13) (c.path.take (c.path.length-1)) (er uP) hL.wf (tnd_ok hto) (by rw[er_names];exact asc_oat hto hup13) (fun h=>by rw[h]at f5;simp at f5) htu hXyp13 (by rw[tat_er,hyP];rfl)
 rw[<-hT2]at hv1 hvP1
 generalize orep T (c.to.take (c.to.length-1)) u'=T2 at hZ1 hT2 hT2n hs2 ha3 hw2 hW2 hv1 hvP1
 have hL3:=hZ1.lies hL.r1 hw2 hs2 hW2
 obtain⟨y2,hy2⟩:=oat_of_tat hv1
 obtain⟨u2,hu2⟩:=oat_of_tat hvP1
 have hd2:u2.dir=true:=by
   rw[tat_er,hu2]at hvP1
   cases hvP1
   rw[er_dir,er_dir]at hvP2
   rw[hvP2];exact hdP
 refine Ke (Fn0 [0,3] [] (Rr (Bc1 4 [(58,pth c.path),(57,.ptr 0 1),(56,.ptr r A0.length)] 118 [.ptr r A0.length,pth c.path] 59 (((1:Nat)≠0)/\(1+1<=5/\1<5)/\·) ⟨dc,dc,DC.use (parent_ok c.path hL3 om om) [(4,otc Tn),(0,clc c)] rfl ⟨rfl,⟨rfl,trivial⟩⟩ ?_⟩)))
 rintro _ _ ⟨e1,rfl⟩
 rw[e1,hu2];clear e1
 dsimp only
 rw[hd2];simp only[cond_true]
 obtain⟨i2,A2,B2,W2',ho2,hi2,hp2,hn2,hs2',hr2⟩:=hL3.foc hu2
 rw[ho2,show oad (some (i2,A2.length))=.ptr i2 A2.length from rfl]
 refine Ke (Fn1 [3] [(10,.ptr i2 A2.length)] ((0<2)/\(1<2)/\·) ⟨dc,dc,Rr (Av1 6 67 [(66,pth c.path),(65,.ptr 0 1),(64,pth c.path),(63,.ptr 0 1),(62,.ptr i2 A2.length)] (lnm c.path sc) (((1:Nat)≠0)/\(1+1<=5/\1<5)/\((1:Nat)≠0)/\(1+1<=5/\1<5)/\·) ⟨dc,dc,dc,dc,Av1 (r:=.i (IntKind.i64.wrap ((c.path.length:Int)-1))) (v:=.i ((c.path.length:Int)-1)) 1 68 [] (cI (wrap64 om om)) (Ki/\·) ⟨rfl,?_⟩⟩)⟩)
 refine Av1 1 69 [] (congrArg AV.pat (mg_str c.path (((c.path.length:Int)-1).toNat) om)) ((1=1/\(0:Int)<=((c.path.length:Int)-1)/\((c.path.length:Int)-1)<((c.path.map (fun s=>[AV.str s])).length:Int))/\·) ⟨⟨rfl,om,lmo⟩,Bc1 2 [(70,.str (c.path.getD (((c.path.length:Int)-1).toNat) default))] 123 [.ptr i2 A2.length,.str (c.path.getD (((c.path.length:Int)-1).toNat) default)] 71 ((1<=1/\0<1)/\·) ⟨dc,?_⟩⟩
 obtain⟨k2,hk12,hk22⟩:=oat_kid_some hu2 (by rw[last_snoc f1];exact hy2)
 obtain⟨⟨au2,bu2⟩,hidsu2⟩:=Option.isSome_iff_exists.1 ((asm_eq _).1 (oat_asm hw2 ha3 hu2)).1
 refine DC.use (dropL (c.path.getD (((c.path.length:Int)-1).toNat) default) hL3 hu2 ho2 hidsu2 hk12) [(4,otc Tn),(0,clc c)] rfl ⟨rfl,⟨rfl,trivial⟩⟩ ?_
 rintro rr2 Z2 ⟨W2,hZ2⟩
 have hT:=gone_er hw2 hT2n hu2 hk12
 rw[last_snoc f1,hT2]at hT
 refine Ke (Fn0 [] [] (Rr (Fn0 [] [(4,.i 0)] (Rt (.i 0) ?_))))
 
 have e:iRename (er T) c=(er (orep T2 (c.path.take (c.path.length-1)) (.mk u2.dir u2.mode u2.data u2.ids (u2.names.take k2++u2.names.drop (k2+1)) (u2.kids.take k2++u2.kids.drop (k2+1)))),0):=by
   rw[hT];unfold iRename
   (try simp only[hPp13,hXyp13,hXya3,hc10,wData,wMode,newDir,Tr.none,er_mk,er_dir,er_mode,er_data,er_names,er_kids,List.map_nil,decide_true,Bool.not_true,Bool.not_false,Bool.true_and,Bool.and_true,Bool.false_and,Bool.and_false,cond_true,cond_false,show decide ((0:Int)=0)=true from rfl,show decide ((3:Int)=0)=false from rfl,show decide ((4:Int)=0)=false from rfl])
   try rfl
 refine fin_dc (.i 0) Z2 (by first|exact List.Sublist.refl _|exact List.Sublist.cons _ (List.Sublist.refl _)|exact List.Sublist.cons _ (List.Sublist.cons _ (List.Sublist.refl _))) (lea_refl _) trivial hZ2.2 ⟨(orep T2 (c.path.take (c.path.length-1)) (.mk u2.dir u2.mode u2.data u2.ids (u2.names.take k2++u2.names.drop (k2+1)) (u2.kids.take k2++u2.kids.drop (k2+1)))),W2,?_,hZ2,?_,(orep_shp hw2 hs2 hu2 (drop_shp (oat_shp hw2 hs2 hu2)))⟩<;>rw[e]
 obtain⟨iyp13,Ayp13,Byp13,Wyp13,hoyp13,hiyp13,hpyp13,hnyp13,hsyp13,hryp13⟩:=hL.foc hyyp13
 have hgyp13:hgt Z iyp13=some (Ayp13++otc yp13++Byp13):=hgt_perm hnd hpyp13 (by simp)
 have hXyp13:tat (er T) c.to=some (er yp13):=by rw[tat_er,hyyp13];rfl
 obtain⟨⟨ayp13,byp13⟩,hidsyp13⟩:=Option.isSome_iff_exists.1 ((asm_eq _).1 (oat_asm hL.wf ha hyyp13)).1
 have hWyp13:=W_tat _ _ _ hXyp13
 have hDyp13:=data_W (er yp13)
 rw[er_data]at hDyp13
 rw[hoyp13,show oad (some (iyp13,Ayp13.length))=.ptr iyp13 Ayp13.length from rfl]
 refine Ke (Fn1 [0,3,5,6,8] [(46,.bool true)] ((∃e,TK.ptr 42=TK.ptr e)/\·) ⟨⟨_,rfl⟩,Ct (Rr (Fn0 [] [(4,.i 5)] ?_))⟩)
 refine Rt (.i 5) ?_
 have hT:er T=er T:=rfl
 have e:iRename (er T) c=(er T,5):=by
   rw[hT];unfold iRename
   (try simp only[hPp13,hXyp13,hXya3,hc10,wData,wMode,newDir,Tr.none,er_mk,er_dir,er_mode,er_data,er_names,er_kids,List.map_nil,decide_true,Bool.not_true,Bool.not_false,Bool.true_and,Bool.and_true,Bool.false_and,Bool.and_false,cond_true,cond_false,show decide ((0:Int)=0)=true from rfl,show decide ((3:Int)=0)=false from rfl,show decide ((4:Int)=0)=false from rfl])
   try rfl
 refine fin_dc (.i 5) Z (by first|exact List.Sublist.refl _|exact List.Sublist.cons _ (List.Sublist.refl _)|exact List.Sublist.cons _ (List.Sublist.cons _ (List.Sublist.refl _))) (lea_refl _) trivial hL.odd ⟨T,W,?_,⟨hL.perm,hL.odd⟩,?_,hL.shp⟩<;>rw[e]
 dsimp only
 have hPp13:parC (er T) c.to=3:=by rw[parC_er,hup13]
 refine Ke (Fn1 [0,3,5] [(7,.i 3),(6,.nilp)] ((0<2)/\(1<2)/\·) ⟨dc,dc,Sq fun K28 hK28=>?_⟩)
 refine Rr (Fn1 [0,3,5,6,7] [(33,.bool true)] (Ki/\·) ⟨rfl,Ct (Rr (Fn0 [] [(4,.i 3)] ?_))⟩)
 refine Rt (.i 3) ?_
 have hT:er T=er T:=rfl
 have e:iRename (er T) c=(er T,3):=by
   rw[hT];unfold iRename
   (try simp only[hPp13,hXya3,hc10,wData,wMode,newDir,Tr.none,er_mk,er_dir,er_mode,er_data,er_names,er_kids,List.map_nil,decide_true,Bool.not_true,Bool.not_false,Bool.true_and,Bool.and_true,Bool.false_and,Bool.and_false,cond_true,cond_false,show decide ((0:Int)=0)=true from rfl,show decide ((3:Int)=0)=false from rfl,show decide ((4:Int)=0)=false from rfl])
   try rfl
 refine fin_dc (.i 3) Z (by first|exact List.Sublist.refl _|exact List.Sublist.cons _ (List.Sublist.refl _)|exact List.Sublist.cons _ (List.Sublist.cons _ (List.Sublist.refl _))) (lea_refl _) trivial hL.odd ⟨T,W,?_,⟨hL.perm,hL.odd⟩,?_,hL.shp⟩<;>rw[e]
set_option maxHeartbeats 2000000 in
theorem do_ok {Z W:Hp} {r:Nat} {A0 B0:List AV} {T:OT} (c:Cl) (hL:Lies Z r A0 B0 T W) (ha:asm T) (hto:treeOk (er T)=true) (f1:0<c.path.length) (f2:wS c.path<2^10) (f3:c.kind=2\/c.kind=3->0<=c.at_/\c.at_<=24) (f4:c.kind=5->0<c.to.length/\wS c.to<2^10) (f7:c.data.length<2^21):DC G 83 [.ptr r A0.length,.agg (clc c)] Z (DoR iDo T c r A0 B0):=by
 refine DC_nd fun hnd=>?_
 have hl1:=wS_len c.path;have hWT:=W_ok hto
 refine h_dc (F:=[(0,.ptr r A0.length),(1,.agg (clc c))]) ⟨hL.r1,(ods_clc c).1,trivial⟩ hL.odd Tryz.func83 kr kr ?_ kr
 refine Rr (Fn2 [0] [(3,.ptr 0 0)] ([(0,clc c)]++·) 4 (Rr (Bc1 4 [(13,pth c.path),(12,.ptr 0 1),(11,.ptr r A0.length)] 118 [.ptr r A0.length,pth c.path] 14 (((1:Nat)≠0)/\(1+1<=5/\1<5)/\·) ⟨dc,dc,DC.use (parent_ok c.path hL om om) [(0,clc c)] rfl ⟨rfl,trivial⟩ ?_⟩)))
 rintro _ _ ⟨e1,rfl⟩
 rw[e1];clear e1
 rcases hup3:oat T (c.path.take (c.path.length-1))with _|up3
 rotate_left
 dsimp only
 cases hdp3:up3.dir
 simp only[cond_false]
 have hPp3:parC (er T) c.path=4:=by rw[parC_er,hup3];simp only[hdp3];rfl
 refine Ke (Fn1 [0,3] [(6,.i 4),(5,.nilp)] ((0<2)/\(1<2)/\·) ⟨dc,dc,Sq fun K4 hK4=>?_⟩)
 refine Rr (Fn1 [0,3,5,6] [(18,.bool true)] (Ki/\·) ⟨rfl,Ct (Rr (Fn0 [] [(4,.i 4)] ?_))⟩)
 refine Rt (.i 4) ?_
 have hT:er T=er T:=rfl
 have e:iDo (er T) c=(er T,4):=by
   rw[hT];unfold iDo
   (try simp only[hPp3,wData,wMode,newDir,Tr.none,er_mk,er_dir,er_mode,er_data,er_names,er_kids,List.map_nil,decide_true,Bool.not_true,Bool.not_false,Bool.true_and,Bool.and_true,Bool.false_and,Bool.and_false,cond_true,cond_false,show decide ((0:Int)=0)=true from rfl,show decide ((3:Int)=0)=false from rfl,show decide ((4:Int)=0)=false from rfl])
   try rfl
 refine fin_dc (.i 4) Z (by first|exact List.Sublist.refl _|exact List.Sublist.cons _ (List.Sublist.refl _)|exact List.Sublist.cons _ (List.Sublist.cons _ (List.Sublist.refl _))) (lea_refl _) trivial hL.odd ⟨T,W,?_,⟨hL.perm,hL.odd⟩,?_,hL.shp⟩<;>rw[e]
 simp only[cond_true]
 have hPp3:parC (er T) c.path=0:=by rw[parC_er,hup3];simp only[hdp3];rfl
 obtain⟨ip3,Ap3,Bp3,Wp3,hop3,hip3,hpp3,hnp3,hsp3,hrp3⟩:=hL.foc hup3
 rw[hop3,show oad (some (ip3,Ap3.length))=.ptr ip3 Ap3.length from rfl]
 refine Ke (Fn1 [0,3] [(6,.i 0),(5,.ptr ip3 Ap3.length)] ((0<2)/\(1<2)/\·) ⟨dc,dc,Sq fun K7 hK7=>?_⟩)
 refine Rr (Fn1 [0,3,5,6] [(18,.bool false)] (Ki/\·) ⟨rfl,Cf (Sk (Jn (hK7 (Kp [0,3,5] (Rr ?_)))))⟩)
 refine Av1 5 24 [(23,pth c.path),(22,.ptr 0 1),(21,pth c.path),(20,.ptr 0 1)] (lnm c.path sc) (((1:Nat)≠0)/\(1+1<=5/\1<5)/\((1:Nat)≠0)/\(1+1<=5/\1<5)/\·) ⟨dc,dc,dc,dc,Av1 (r:=.i (IntKind.i64.wrap ((c.path.length:Int)-1))) (v:=.i ((c.path.length:Int)-1)) 1 25 [] (cI (wrap64 om om)) (Ki/\·) ⟨rfl,Av1 1 26 [] (congrArg AV.pat (mg_str c.path (((c.path.length:Int)-1).toNat) om)) ((1=1/\(0:Int)<=((c.path.length:Int)-1)/\((c.path.length:Int)-1)<((c.path.map (fun s=>[AV.str s])).length:Int))/\·) ⟨⟨rfl,om,lmo⟩,Fn1 [0,3,5] [(7,.str (c.path.getD (((c.path.length:Int)-1).toNat) default))] ((1<=1/\0<1)/\·) ⟨dc,Rr ?_⟩⟩⟩⟩
 refine Bc0 3 [(29,.str (c.path.getD (((c.path.length:Int)-1).toNat) default)),(28,.ptr ip3 Ap3.length)] 119 [.ptr ip3 Ap3.length,.str (c.path.getD (((c.path.length:Int)-1).toNat) default)] 30 ?_
 have hpep3:=last_snoc (p:=c.path) om
 refine DC.use (kidL (q:=c.path.take (c.path.length-1)) (c.path.getD (((c.path.length:Int)-1).toNat) default) hL hup3 hop3) [(0,clc c)] rfl ⟨rfl,trivial⟩ ?_
 rintro _ _ ⟨e1,rfl⟩
 rw[e1,hpep3];clear e1
 have hiop3:=opos_oat (r:=r) (o:=A0.length) (p:=c.path) hL.wf hL.shp
 rcases hyyp3:oat T c.path with _|yp3
 rw[hyyp3]at hiop3
 have hXyp3:tat (er T) c.path=none:=by rw[tat_er,hyyp3];rfl
 rw[show opos T r A0.length c.path=none from Option.isNone_iff_eq_none.1 (by rw[<-Option.not_isSome,hiop3];rfl),show oad none=.nilp from rfl]
 refine Ke (Fn0 [0,3,5,7] [(8,.nilp)] (Sq fun K11 hK11=>?_))
 refine Rr (Fn1 [0,3,5,7,8] [(32,.i c.kind)] (((1:Nat)≠0)/\(0+1<=5/\0<5)/\·) ⟨dc,dc,Bl (Rr (Cn1 (decide ((c.kind:Int)=(1:Int))) [0,3,5,7,8,32] [] (Ki/\·) ⟨rfl,fun hc14 c14=>?_,fun hc14 c14=>?_⟩))⟩)
 refine Sq fun K15 hK15=>?_
 refine Rr (Fn1 [3,5,7] [(36,.bool false)] ((∃e,TK.ptr 42=TK.ptr e)/\·) ⟨⟨_,rfl⟩,Cf (Sk (Jn (hK15 (Kp [3,5,7] (Rb (fun h=>Bn (Jn (hK11 h))) ?_)))))⟩)
 refine Bc1 6 [(41,.agg [.bool true,.i c.at_,.str [],.nils,.nils]),(40,.i c.at_),(39,.ptr 0 3),(38,.str (c.path.getD (((c.path.length:Int)-1).toNat) default)),(37,.ptr ip3 Ap3.length)] 120 [.ptr ip3 Ap3.length,.str (c.path.getD (((c.path.length:Int)-1).toNat) default),.agg [.bool true,.i c.at_,.str [],.nils,.nils]] 42 (((1:Nat)≠0)/\(3+1<=5/\3<5)/\·) ⟨dc,dc,?_⟩
 have hkp3:=oat_kid_none hup3 (by rw[hpep3];exact hyyp3)
 obtain⟨⟨aup3,bup3⟩,hidsup3⟩:=Option.isSome_iff_exists.1 ((asm_eq _).1 (oat_asm hL.wf ha hup3)).1
 refine DC.use (putL_new (x:=(.mk true c.at_ [] none [] [])) (W':=W) (c.path.getD (((c.path.length:Int)-1).toNat) default) hL hup3 hop3 hidsup3 (asc_oat hto hup3) hkp3 (List.Perm.refl _)) [(0,clc c)] rfl ⟨rfl,trivial⟩ ?_
 rintro rr Z1 ⟨j,k1,k2,u',hj,e1,e2,hZ1⟩
 refine Ke (Fn0 [] [] (Rr (Fn0 [] [(4,.i 0)] (Rt (.i 0) ?_))))
 have hT:=new_er hL.wf hto hup3 e2
 rw[hpep3]at hT
 have e:iDo (er T) c=(er (orep T (c.path.take (c.path.length-1)) u'),0):=by
   rw[hT];unfold iDo
   (try simp only[hPp3,hXyp3,hc14,wData,wMode,newDir,Tr.none,er_mk,er_dir,er_mode,er_data,er_names,er_kids,List.map_nil,decide_true,Bool.not_true,Bool.not_false,Bool.true_and,Bool.and_true,Bool.false_and,Bool.and_false,cond_true,cond_false,show decide ((0:Int)=0)=true from rfl,show decide ((3:Int)=0)=false from rfl,show decide ((4:Int)=0)=false from rfl])
   try rfl
 refine fin_dc (.i 0) Z1 (by first|exact List.Sublist.refl _|exact List.Sublist.cons _ (List.Sublist.refl _)|exact List.Sublist.cons _ (List.Sublist.cons _ (List.Sublist.refl _))) (lea_refl _) trivial hZ1.2 ⟨(orep T (c.path.take (c.path.length-1)) u'),W,?_,hZ1,?_,(orep_shp hL.wf hL.shp hup3 (shp_ins e1 (oat_shp hL.wf hL.shp hup3) ⟨fun _=>⟨rfl,rfl⟩,trivial⟩))⟩<;>rw[e]
 refine Rr (Cn1 (decide ((c.kind:Int)=(2:Int))) [0,3,5,7,8,32] [] (Ki/\·) ⟨rfl,fun hc19 c19=>?_,fun hc19 c19=>?_⟩)
 refine Sq fun K20 hK20=>?_
 refine Bl (Rr (Fn1 [3,5,7,8] [(45,.bool false)] ((∃e,TK.ptr 42=TK.ptr e)/\·) ⟨⟨_,rfl⟩,Cf ?_⟩))
 obtain⟨f8,f9⟩:=f3 (.inl (by simpa using hc19))
 refine Rr (Av1 (r:=.i (IntKind.i64.wrap (c.at_+(c.data.length:Int)))) (v:=.i (c.at_+(c.data.length:Int))) 6 60 [(59,.i c.data.length),(58,.str c.data),(57,.ptr 0 4),(56,.i c.at_),(55,.ptr 0 3)] (cI (wrap64 om om)) (((1:Nat)≠0)/\(3+1<=5/\3<5)/\((1:Nat)≠0)/\(4+1<=5/\4<5)/\Ki/\·) ⟨dc,dc,dc,dc,rfl,Cn1 (decide ((24:Int)<((c.at_+(c.data.length:Int)):Int))) [3,5,7,8] [] (Ki/\·) ⟨rfl,fun hc23 c23=>?_,fun hc23 c23=>?_⟩⟩)
 refine Rr (Fn0 [] [(4,.i 6)] (Rt (.i 6) ?_))
 have hT:er T=er T:=rfl
 have e:iDo (er T) c=(er T,6):=by
   rw[hT];unfold iDo
   (try simp only[hPp3,hXyp3,hc14,hc19,hc23,wData,wMode,newDir,Tr.none,er_mk,er_dir,er_mode,er_data,er_names,er_kids,List.map_nil,decide_true,Bool.not_true,Bool.not_false,Bool.true_and,Bool.and_true,Bool.false_and,Bool.and_false,cond_true,cond_false,show decide ((0:Int)=0)=true from rfl,show decide ((3:Int)=0)=false from rfl,show decide ((4:Int)=0)=false from rfl])
   try rfl
 refine fin_dc (.i 6) Z (by first|exact List.Sublist.refl _|exact List.Sublist.cons _ (List.Sublist.refl _)|exact List.Sublist.cons _ (List.Sublist.cons _ (List.Sublist.refl _))) (lea_refl _) trivial hL.odd ⟨T,W,?_,⟨hL.perm,hL.odd⟩,?_,hL.shp⟩<;>rw[e]
 refine Sk (Bn (Jn (hK20 (Kp [3,5,7,8] (Rr (Fn3 [3,5,7,8] [(9,.ptr 4 0)] ([(4,zt)]++·) 8 ((true=true/\5=5/\0+5<=5)/\·) ⟨dc,Sq fun K26 hK26=>?_⟩))))))
 refine Rr (Fn1 [3,5,7,8,9] [(64,.bool false)] ((∃e,TK.ptr 42=TK.ptr e)/\·) ⟨⟨_,rfl⟩,Cf (Sk (Jn (hK26 (Kp [3,5,7,9] (Rr ?_)))))⟩)
 refine Bc1 7 [(73,.str c.data),(72,.ptr 0 4),(71,.i c.at_),(70,.ptr 0 3),(69,.str []),(68,.ptr 4 2)] 121 [.str [],.i c.at_,.str c.data] 74 (((1:Nat)≠0)/\(2+1<=5/\2<5)/\((1:Nat)≠0)/\(3+1<=5/\3<5)/\((1:Nat)≠0)/\(4+1<=5/\4<5)/\·) ⟨dc,dc,dc,dc,dc,dc,?_⟩
 refine PE.use (written_ok [] c.at_ c.data om om (by first|omega|decide) om) ?_
 refine Ke (Fn3 [5,7,9] [] (fun _=>((4,[.bool false,.i 0,.str (wrt [] c.at_ c.data),.nils,.nils])::(0,clc c)::Z)) 8 (((1:Nat)≠0)/\(true=true/\1=1/\2+1<=5)/\·) ⟨dc,dc,Rb (fun h=>Bn (Jn (hK11 h))) (Bc1 4 [(78,.agg [.bool false,.i 0,.str (wrt [] c.at_ c.data),.nils,.nils]),(77,.str (c.path.getD (((c.path.length:Int)-1).toNat) default)),(76,.ptr ip3 Ap3.length)] 120 [.ptr ip3 Ap3.length,.str (c.path.getD (((c.path.length:Int)-1).toNat) default),.agg [.bool false,.i 0,.str (wrt [] c.at_ c.data),.nils,.nils]] 79 ((0+5<=5/\0<5)/\·) ⟨dc,?_⟩)⟩)
 have hkp3:=oat_kid_none hup3 (by rw[hpep3];exact hyyp3)
 obtain⟨⟨aup3,bup3⟩,hidsup3⟩:=Option.isSome_iff_exists.1 ((asm_eq _).1 (oat_asm hL.wf ha hup3)).1
 refine DC.use (putL_new (x:=(.mk false 0 (wrt [] c.at_ c.data) none [] [])) (W':=W) (c.path.getD (((c.path.length:Int)-1).toNat) default) hL hup3 hop3 hidsup3 (asc_oat hto hup3) hkp3 (List.Perm.refl _)) [(4,[.bool false,.i 0,.str (wrt [] c.at_ c.data),.nils,.nils]),(0,clc c)] rfl ⟨rfl,⟨rfl,trivial⟩⟩ ?_
 rintro rr Z1 ⟨j,k1,k2,u',hj,e1,e2,hZ1⟩
 refine Ke (Fn0 [] [] (Rr (Fn0 [] [(4,.i 0)] (Rt (.i 0) ?_))))
 have hT:=new_er hL.wf hto hup3 e2
 rw[hpep3]at hT
 have e:iDo (er T) c=(er (orep T (c.path.take (c.path.length-1)) u'),0):=by
   rw[hT];unfold iDo
   (try simp only[hPp3,hXyp3,hc14,hc19,hc23,wData,wMode,newDir,Tr.none,er_mk,er_dir,er_mode,er_data,er_names,er_kids,List.map_nil,decide_true,Bool.not_true,Bool.not_false,Bool.true_and,Bool.and_true,Bool.false_and,Bool.and_false,cond_true,cond_false,show decide ((0:Int)=0)=true from rfl,show decide ((3:Int)=0)=false from rfl,show decide ((4:Int)=0)=false from rfl])
   try rfl
 refine fin_dc (.i 0) Z1 (by first|exact List.Sublist.refl _|exact List.Sublist.cons _ (List.Sublist.refl _)|exact List.Sublist.cons _ (List.Sublist.cons _ (List.Sublist.refl _))) (lea_refl _) trivial hZ1.2 ⟨(orep T (c.path.take (c.path.length-1)) u'),W,?_,hZ1,?_,(orep_shp hL.wf hL.shp hup3 (shp_ins e1 (oat_shp hL.wf hL.shp hup3) ⟨fun _=>⟨rfl,rfl⟩,trivial⟩))⟩<;>rw[e]
 refine Rr (Cn1 (decide ((c.kind:Int)=(3:Int))) [0,3,5,7,8,32] [] (Ki/\·) ⟨rfl,fun hc31 c31=>?_,fun hc31 c31=>?_⟩)
 refine Sq fun K32 hK32=>?_
 refine Bl (Rr (Fn1 [3,8] [(82,.bool true)] ((∃e,TK.ptr 42=TK.ptr e)/\·) ⟨⟨_,rfl⟩,Ct (Rr ?_)⟩))
 refine Fn0 [] [(4,.i 3)] (Rt (.i 3) ?_)
 have hT:er T=er T:=rfl
 have e:iDo (er T) c=(er T,3):=by
   rw[hT];unfold iDo
   (try simp only[hPp3,hXyp3,hc14,hc19,hc31,wData,wMode,newDir,Tr.none,er_mk,er_dir,er_mode,er_data,er_names,er_kids,List.map_nil,decide_true,Bool.not_true,Bool.not_false,Bool.true_and,Bool.and_true,Bool.false_and,Bool.and_false,cond_true,cond_false,show decide ((0:Int)=0)=true from rfl,show decide ((3:Int)=0)=false from rfl,show decide ((4:Int)=0)=false from rfl])
   try rfl
 refine fin_dc (.i 3) Z (by first|exact List.Sublist.refl _|exact List.Sublist.cons _ (List.Sublist.refl _)|exact List.Sublist.cons _ (List.Sublist.cons _ (List.Sublist.refl _))) (lea_refl _) trivial hL.odd ⟨T,W,?_,⟨hL.perm,hL.odd⟩,?_,hL.shp⟩<;>rw[e]
 refine Rr (Cn1 (decide ((c.kind:Int)=(4:Int))) [0,3,5,7,8,32] [] (Ki/\·) ⟨rfl,fun hc36 c36=>?_,fun hc36 c36=>?_⟩)
 refine Sq fun K37 hK37=>?_
 refine Bl (Rr (Fn1 [5,7,8] [(102,.bool true)] ((∃e,TK.ptr 42=TK.ptr e)/\·) ⟨⟨_,rfl⟩,Ct (Rr ?_)⟩))
 refine Fn0 [] [(4,.i 3)] (Rt (.i 3) ?_)
 have hT:er T=er T:=rfl
 have e:iDo (er T) c=(er T,3):=by
   rw[hT];unfold iDo
   (try simp only[hPp3,hXyp3,hc14,hc19,hc31,hc36,wData,wMode,newDir,Tr.none,er_mk,er_dir,er_mode,er_data,er_names,er_kids,List.map_nil,decide_true,Bool.not_true,Bool.not_false,Bool.true_and,Bool.and_true,Bool.false_and,Bool.and_false,cond_true,cond_false,show decide ((0:Int)=0)=true from rfl,show decide ((3:Int)=0)=false from rfl,show decide ((4:Int)=0)=false from rfl])
   try rfl
 refine fin_dc (.i 3) Z (by first|exact List.Sublist.refl _|exact List.Sublist.cons _ (List.Sublist.refl _)|exact List.Sublist.cons _ (List.Sublist.cons _ (List.Sublist.refl _))) (lea_refl _) trivial hL.odd ⟨T,W,?_,⟨hL.perm,hL.odd⟩,?_,hL.shp⟩<;>rw[e]
 refine Rr (Cn1 (decide ((c.kind:Int)=(5:Int))) [0,3,8,32] [] (Ki/\·) ⟨rfl,fun hc41 c41=>?_,fun hc41 c41=>?_⟩)
 refine Rr (Bc1 3 [(124,.agg (clc c)),(123,.ptr r A0.length)] 124 [.ptr r A0.length,.agg (clc c)] 125 ((0+5<=5/\0<5)/\·) ⟨dc,?_⟩)
 obtain⟨f5,f6⟩:=f4 (by simpa using hc41)
 refine DC.use (rename_ok c hL ha hto f1 f2 f5 f6) [(0,clc c)] rfl ⟨rfl,trivial⟩ ?_
 rintro _ Z1 ⟨T1,W1,rfl,hZ1,he1,hs1⟩
 refine Ke (Fn0 [] [(4,.i ((iRename (er T) c).2))] (Rt (.i ((iRename (er T) c).2)) ?_))
 have hT:=he1
 have e:iDo (er T) c=(er T1,(iRename (er T) c).2):=by
   rw[hT];unfold iDo
   (try simp only[hPp3,hXyp3,hc14,hc19,hc31,hc36,hc41,wData,wMode,newDir,Tr.none,er_mk,er_dir,er_mode,er_data,er_names,er_kids,List.map_nil,decide_true,Bool.not_true,Bool.not_false,Bool.true_and,Bool.and_true,Bool.false_and,Bool.and_false,cond_true,cond_false,show decide ((0:Int)=0)=true from rfl,show decide ((3:Int)=0)=false from rfl,show decide ((4:Int)=0)=false from rfl])
   try rfl
 refine fin_dc (.i ((iRename (er T) c).2)) Z1 (by first|exact List.Sublist.refl _|exact List.Sublist.cons _ (List.Sublist.refl _)|exact List.Sublist.cons _ (List.Sublist.cons _ (List.Sublist.refl _))) (lea_refl _) trivial hZ1.2 ⟨T1,W1,?_,hZ1,?_,hs1⟩<;>rw[e]
 refine Rr (Cn1 (decide ((c.kind:Int)=(6:Int))) [3,8] [] (Ki/\·) ⟨rfl,fun hc44 c44=>?_,fun hc44 c44=>?_⟩)
 refine Sq fun K45 hK45=>?_
 refine Rr (Fn1 [3,8] [(129,.bool true)] ((∃e,TK.ptr 42=TK.ptr e)/\·) ⟨⟨_,rfl⟩,Ct (Rr (Fn0 [] [(4,.i 3)] ?_))⟩)
 refine Rt (.i 3) ?_
 have hT:er T=er T:=rfl
 have e:iDo (er T) c=(er T,3):=by
   rw[hT];unfold iDo
   (try simp only[hPp3,hXyp3,hc14,hc19,hc31,hc36,hc41,hc44,wData,wMode,newDir,Tr.none,er_mk,er_dir,er_mode,er_data,er_names,er_kids,List.map_nil,decide_true,Bool.not_true,Bool.not_false,Bool.true_and,Bool.and_true,Bool.false_and,Bool.and_false,cond_true,cond_false,show decide ((0:Int)=0)=true from rfl,show decide ((3:Int)=0)=false from rfl,show decide ((4:Int)=0)=false from rfl])
   try rfl
 refine fin_dc (.i 3) Z (by first|exact List.Sublist.refl _|exact List.Sublist.cons _ (List.Sublist.refl _)|exact List.Sublist.cons _ (List.Sublist.cons _ (List.Sublist.refl _))) (lea_refl _) trivial hL.odd ⟨T,W,?_,⟨hL.perm,hL.odd⟩,?_,hL.shp⟩<;>rw[e]
 refine Sk (Bn (Jn (hK11 (Kp [] (Rr (Fn0 [] [(4,.i 0)] (Rt (.i 0) ?_)))))))
 have hT:er T=er T:=rfl
 have e:iDo (er T) c=(er T,0):=by
   rw[hT];unfold iDo
   (try simp only[hPp3,hXyp3,hc14,hc19,hc31,hc36,hc41,hc44,wData,wMode,newDir,Tr.none,er_mk,er_dir,er_mode,er_data,er_names,er_kids,List.map_nil,decide_true,Bool.not_true,Bool.not_false,Bool.true_and,Bool.and_true,Bool.false_and,Bool.and_false,cond_true,cond_false,show decide ((0:Int)=0)=true from rfl,show decide ((3:Int)=0)=false from rfl,show decide ((4:Int)=0)=false from rfl])
   try rfl
 refine fin_dc (.i 0) Z (by first|exact List.Sublist.refl _|exact List.Sublist.cons _ (List.Sublist.refl _)|exact List.Sublist.cons _ (List.Sublist.cons _ (List.Sublist.refl _))) (lea_refl _) trivial hL.odd ⟨T,W,?_,⟨hL.perm,hL.odd⟩,?_,hL.shp⟩<;>rw[e]
 obtain⟨iyp3,Ayp3,Byp3,Wyp3,hoyp3,hiyp3,hpyp3,hnyp3,hsyp3,hryp3⟩:=hL.foc hyyp3
 have hgyp3:hgt Z iyp3=some (Ayp3++otc yp3++Byp3):=hgt_perm hnd hpyp3 (by simp)
 have hXyp3:tat (er T) c.path=some (er yp3):=by rw[tat_er,hyyp3];rfl
 obtain⟨⟨ayp3,byp3⟩,hidsyp3⟩:=Option.isSome_iff_exists.1 ((asm_eq _).1 (oat_asm hL.wf ha hyyp3)).1
 have hWyp3:=W_tat _ _ _ hXyp3
 have hDyp3:=data_W (er yp3)
 rw[er_data]at hDyp3
 rw[hoyp3,show oad (some (iyp3,Ayp3.length))=.ptr iyp3 Ayp3.length from rfl]
 refine Ke (Fn0 [0,3,5,7] [(8,.ptr iyp3 Ayp3.length)] (Sq fun K49 hK49=>?_))
 refine Rr (Fn1 [0,3,5,7,8] [(32,.i c.kind)] (((1:Nat)≠0)/\(0+1<=5/\0<5)/\·) ⟨dc,dc,Bl (Rr (Cn1 (decide ((c.kind:Int)=(1:Int))) [0,3,5,7,8,32] [] (Ki/\·) ⟨rfl,fun hc52 c52=>?_,fun hc52 c52=>?_⟩))⟩)
 refine Sq fun K53 hK53=>?_
 refine Rr (Fn1 [3,5,7] [(36,.bool true)] ((∃e,TK.ptr 42=TK.ptr e)/\·) ⟨⟨_,rfl⟩,Ct (Rr (Fn0 [] [(4,.i 5)] ?_))⟩)
 refine Rt (.i 5) ?_
 have hT:er T=er T:=rfl
 have e:iDo (er T) c=(er T,5):=by
   rw[hT];unfold iDo
   (try simp only[hPp3,hXyp3,hc52,wData,wMode,newDir,Tr.none,er_mk,er_dir,er_mode,er_data,er_names,er_kids,List.map_nil,decide_true,Bool.not_true,Bool.not_false,Bool.true_and,Bool.and_true,Bool.false_and,Bool.and_false,cond_true,cond_false,show decide ((0:Int)=0)=true from rfl,show decide ((3:Int)=0)=false from rfl,show decide ((4:Int)=0)=false from rfl])
   try rfl
 refine fin_dc (.i 5) Z (by first|exact List.Sublist.refl _|exact List.Sublist.cons _ (List.Sublist.refl _)|exact List.Sublist.cons _ (List.Sublist.cons _ (List.Sublist.refl _))) (lea_refl _) trivial hL.odd ⟨T,W,?_,⟨hL.perm,hL.odd⟩,?_,hL.shp⟩<;>rw[e]
 refine Rr (Cn1 (decide ((c.kind:Int)=(2:Int))) [0,3,5,7,8,32] [] (Ki/\·) ⟨rfl,fun hc57 c57=>?_,fun hc57 c57=>?_⟩)
 refine Sq fun K58 hK58=>?_
 refine Bl (Rr (An1 6 [(51,.ptr iyp3 Ayp3.length),(50,.ptr iyp3 Ayp3.length),(49,.ptr iyp3 Ayp3.length),(48,.bool true),(47,.bool true),(46,.ptr iyp3 Ayp3.length)] ((∃e,TK.ptr 42=TK.ptr e)/\((1:Nat)≠0)/\·) ⟨⟨_,rfl⟩,dc,geln (t:=yp3) 52 4 iyp3 0 (.bool yp3.dir) (fun J=>by kernel_rfl) ((hgt_ev (E:=[(0,clc c)]) ⟨rfl,trivial⟩ hiyp3).trans hgyp3) kr rfl (Cn0 yp3.dir [3,5,7,8] [] ⟨fun hc60 c60=>?_,fun hc60 c60=>?_⟩)⟩))
 refine Rr (Fn0 [] [(4,.i 4)] (Rt (.i 4) ?_))
 have hT:er T=er T:=rfl
 have e:iDo (er T) c=(er T,4):=by
   rw[hT];unfold iDo
   (try simp only[hPp3,hXyp3,hc52,hc57,hc60,wData,wMode,newDir,Tr.none,er_mk,er_dir,er_mode,er_data,er_names,er_kids,List.map_nil,decide_true,Bool.not_true,Bool.not_false,Bool.true_and,Bool.and_true,Bool.false_and,Bool.and_false,cond_true,cond_false,show decide ((0:Int)=0)=true from rfl,show decide ((3:Int)=0)=false from rfl,show decide ((4:Int)=0)=false from rfl])
   try rfl
 refine fin_dc (.i 4) Z (by first|exact List.Sublist.refl _|exact List.Sublist.cons _ (List.Sublist.refl _)|exact List.Sublist.cons _ (List.Sublist.cons _ (List.Sublist.refl _))) (lea_refl _) trivial hL.odd ⟨T,W,?_,⟨hL.perm,hL.odd⟩,?_,hL.shp⟩<;>rw[e]
 obtain⟨f8,f9⟩:=f3 (.inl (by simpa using hc57))
 refine Rr (Av1 (r:=.i (IntKind.i64.wrap (c.at_+(c.data.length:Int)))) (v:=.i (c.at_+(c.data.length:Int))) 6 60 [(59,.i c.data.length),(58,.str c.data),(57,.ptr 0 4),(56,.i c.at_),(55,.ptr 0 3)] (cI (wrap64 om om)) (((1:Nat)≠0)/\(3+1<=5/\3<5)/\((1:Nat)≠0)/\(4+1<=5/\4<5)/\Ki/\·) ⟨dc,dc,dc,dc,rfl,Cn1 (decide ((24:Int)<((c.at_+(c.data.length:Int)):Int))) [3,5,7,8] [] (Ki/\·) ⟨rfl,fun hc63 c63=>?_,fun hc63 c63=>?_⟩⟩)
 refine Rr (Fn0 [] [(4,.i 6)] (Rt (.i 6) ?_))
 have hT:er T=er T:=rfl
 have e:iDo (er T) c=(er T,6):=by
   rw[hT];unfold iDo
   (try simp only[hPp3,hXyp3,hc52,hc57,hc60,hc63,wData,wMode,newDir,Tr.none,er_mk,er_dir,er_mode,er_data,er_names,er_kids,List.map_nil,decide_true,Bool.not_true,Bool.not_false,Bool.true_and,Bool.and_true,Bool.false_and,Bool.and_false,cond_true,cond_false,show decide ((0:Int)=0)=true from rfl,show decide ((3:Int)=0)=false from rfl,show decide ((4:Int)=0)=false from rfl])
   try rfl
 refine fin_dc (.i 6) Z (by first|exact List.Sublist.refl _|exact List.Sublist.cons _ (List.Sublist.refl _)|exact List.Sublist.cons _ (List.Sublist.cons _ (List.Sublist.refl _))) (lea_refl _) trivial hL.odd ⟨T,W,?_,⟨hL.perm,hL.odd⟩,?_,hL.shp⟩<;>rw[e]
 refine Sk (Bn (Jn (hK58 (Kp [3,5,7,8] (Rr (Fn3 [3,5,7,8] [(9,.ptr 4 0)] ([(4,zt)]++·) 8 ((true=true/\5=5/\0+5<=5)/\·) ⟨dc,Sq fun K66 hK66=>?_⟩))))))
 refine Rr (Fn1 [3,5,7,8,9] [(64,.bool true)] ((∃e,TK.ptr 42=TK.ptr e)/\·) ⟨⟨_,rfl⟩,Ct (Rb (fun h=>Jn (hK66 h)) (An0 2 [(66,.ptr iyp3 Ayp3.length),(65,.ptr iyp3 Ayp3.length)] ?_))⟩)
 refine gela (t:=yp3) 67 42 iyp3 (.agg (otc yp3)) (fun J=>by kernel_rfl) ((hgt_ev (E:=[(4,zt),(0,clc c)]) ⟨rfl,⟨rfl,trivial⟩⟩ hiyp3).trans hgyp3) kr rfl ?_
 refine Fn3 [3,5,7,9] [] (fun _=>((4,otc yp3)::(0,clc c)::Z)) 8 ((true=true/\5=5/\0+5<=5)/\·) ⟨dc,Rr (Bc1 7 [(73,.str c.data),(72,.ptr 0 4),(71,.i c.at_),(70,.ptr 0 3),(69,.str yp3.data),(68,.ptr 4 2)] 121 [.str yp3.data,.i c.at_,.str c.data] 74 (((1:Nat)≠0)/\(2+1<=5/\2<5)/\((1:Nat)≠0)/\(3+1<=5/\3<5)/\((1:Nat)≠0)/\(4+1<=5/\4<5)/\·) ⟨dc,dc,dc,dc,dc,dc,PE.use (written_ok yp3.data c.at_ c.data om om (by first|omega|decide) om) (Ke ?_)⟩)⟩
 refine Fn3 [5,7,9] [] (fun _=>((4,[.bool yp3.dir,.i yp3.mode,.str (wrt yp3.data c.at_ c.data),sln yp3.ids yp3.names.length,slk yp3.ids yp3.kids.length])::(0,clc c)::Z)) 8 (((1:Nat)≠0)/\(true=true/\1=1/\2+1<=5)/\·) ⟨dc,dc,Rb (fun h=>Bn (Jn (hK49 h))) (Bc1 4 [(78,.agg [.bool yp3.dir,.i yp3.mode,.str (wrt yp3.data c.at_ c.data),sln yp3.ids yp3.names.length,slk yp3.ids yp3.kids.length]),(77,.str (c.path.getD (((c.path.length:Int)-1).toNat) default)),(76,.ptr ip3 Ap3.length)] 120 [.ptr ip3 Ap3.length,.str (c.path.getD (((c.path.length:Int)-1).toNat) default),.agg [.bool yp3.dir,.i yp3.mode,.str (wrt yp3.data c.at_ c.data),sln yp3.ids yp3.names.length,slk yp3.ids yp3.kids.length]] 79 ((0+5<=5/\0<5)/\·) ⟨dc,?_⟩)⟩
 obtain⟨kp3,hk1p3,hk2p3⟩:=oat_kid_some hup3 (by rw[hpep3];exact hyyp3)
 obtain⟨⟨aup3,bup3⟩,hidsup3⟩:=Option.isSome_iff_exists.1 ((asm_eq _).1 (oat_asm hL.wf ha hup3)).1
 refine DC.use (putL_hit (x:=(.mk yp3.dir yp3.mode (wrt yp3.data c.at_ c.data) yp3.ids yp3.names yp3.kids)) (c.path.getD (((c.path.length:Int)-1).toNat) default) hL hup3 hop3 hidsup3 (asc_oat hto hup3) hk1p3 (by rw[hk2p3];exact objs_data)) [(4,[.bool yp3.dir,.i yp3.mode,.str (wrt yp3.data c.at_ c.data),sln yp3.ids yp3.names.length,slk yp3.ids yp3.kids.length]),(0,clc c)] rfl ⟨rfl,⟨rfl,trivial⟩⟩ ?_
 rintro rr Z1 hZ1
 rw[hpep3]at hZ1
 refine Ke (Fn0 [] [] (Rr (Fn0 [] [(4,.i 0)] (Rt (.i 0) ?_))))
 have hT:=hit_er (x:=(.mk yp3.dir yp3.mode (wrt yp3.data c.at_ c.data) yp3.ids yp3.names yp3.kids)) hL.wf hto hup3 hk1p3
 rw[hpep3]at hT
 have e:iDo (er T) c=(er (orep T c.path (.mk yp3.dir yp3.mode (wrt yp3.data c.at_ c.data) yp3.ids yp3.names yp3.kids)),0):=by
   rw[hT];unfold iDo
   (try simp only[hPp3,hXyp3,hc52,hc57,hc60,hc63,wData,wMode,newDir,Tr.none,er_mk,er_dir,er_mode,er_data,er_names,er_kids,List.map_nil,decide_true,Bool.not_true,Bool.not_false,Bool.true_and,Bool.and_true,Bool.false_and,Bool.and_false,cond_true,cond_false,show decide ((0:Int)=0)=true from rfl,show decide ((3:Int)=0)=false from rfl,show decide ((4:Int)=0)=false from rfl])
   try rfl
 refine fin_dc (.i 0) Z1 (by first|exact List.Sublist.refl _|exact List.Sublist.cons _ (List.Sublist.refl _)|exact List.Sublist.cons _ (List.Sublist.cons _ (List.Sublist.refl _))) (lea_refl _) trivial hZ1.2 ⟨(orep T c.path (.mk yp3.dir yp3.mode (wrt yp3.data c.at_ c.data) yp3.ids yp3.names yp3.kids)),W,?_,hZ1,?_,(orep_shp hL.wf hL.shp hyyp3 (shp_data (oat_shp hL.wf hL.shp hyyp3)))⟩<;>rw[e]
 refine Rr (Cn1 (decide ((c.kind:Int)=(3:Int))) [0,3,5,7,8,32] [] (Ki/\·) ⟨rfl,fun hc71 c71=>?_,fun hc71 c71=>?_⟩)
 refine Sq fun K72 hK72=>?_
 refine Bl (Rr (Fn1 [3,8] [(82,.bool false)] ((∃e,TK.ptr 42=TK.ptr e)/\·) ⟨⟨_,rfl⟩,Cf (Rr ?_)⟩))
 refine An1 3 [(88,.ptr iyp3 Ayp3.length),(87,.ptr iyp3 Ayp3.length),(86,.ptr iyp3 Ayp3.length)] (((1:Nat)≠0)/\·) ⟨dc,geln (t:=yp3) 89 4 iyp3 0 (.bool yp3.dir) (fun J=>by kernel_rfl) ((hgt_ev (E:=[(0,clc c)]) ⟨rfl,trivial⟩ hiyp3).trans hgyp3) kr rfl (Cn0 yp3.dir [3,8] [] ⟨fun hc75 c75=>?_,fun hc75 c75=>?_⟩)⟩
 refine Rr (Fn0 [] [(4,.i 4)] (Rt (.i 4) ?_))
 have hT:er T=er T:=rfl
 have e:iDo (er T) c=(er T,4):=by
   rw[hT];unfold iDo
   (try simp only[hPp3,hXyp3,hc52,hc57,hc71,hc75,wData,wMode,newDir,Tr.none,er_mk,er_dir,er_mode,er_data,er_names,er_kids,List.map_nil,decide_true,Bool.not_true,Bool.not_false,Bool.true_and,Bool.and_true,Bool.false_and,Bool.and_false,cond_true,cond_false,show decide ((0:Int)=0)=true from rfl,show decide ((3:Int)=0)=false from rfl,show decide ((4:Int)=0)=false from rfl])
   try rfl
 refine fin_dc (.i 4) Z (by first|exact List.Sublist.refl _|exact List.Sublist.cons _ (List.Sublist.refl _)|exact List.Sublist.cons _ (List.Sublist.cons _ (List.Sublist.refl _))) (lea_refl _) trivial hL.odd ⟨T,W,?_,⟨hL.perm,hL.odd⟩,?_,hL.shp⟩<;>rw[e]
 refine Sk (Bn (Jn (hK72 (Kp [3,8] ?_))))
 obtain⟨f8,f9⟩:=f3 (.inr (by simpa using hc71))
 refine Qb [0,0,2,6,14,0,32,126,255,511,1023] [(0,[]),(1,[]),(2,[]),(3,[]),(4,[]),(5,[]),(6,[]),(7,[]),(8,[]),(9,[]),(10,[])] (fun h=>Bn (Jn (hK49 h))) (qAn1 4 [(93,.ptr iyp3 (Ayp3.length+2)),(92,.ptr iyp3 Ayp3.length),(91,.ptr iyp3 Ayp3.length),(90,.ptr iyp3 Ayp3.length)] (((1:Nat)≠0)/\·) ⟨dc,gqln (t:=yp3) 94 9 iyp3 2 (.str yp3.data) (fun J=>by kernel_rfl) ((hgt_ev (E:=[(0,clc c)]) ⟨rfl,trivial⟩ hiyp3).trans hgyp3) kr rfl (qBc1 3 [(96,.i c.at_),(95,.ptr 0 3)] [] 122 [.str yp3.data,.i c.at_] 97 (((1:Nat)≠0)/\(3+1<=5/\3<5)/\·) ⟨dc,dc,PE.use (sized_ok yp3.data c.at_ om om om) ?_⟩)⟩)
 refine Kq (p:=(True)) trivial ?_
 refine qAn1 2 [(99,.ptr iyp3 (Ayp3.length+2)),(98,.ptr iyp3 Ayp3.length)] (((1:Nat)≠0)/\·) ⟨dc,gqsn (t:=yp3) 9 iyp3 2 (.str (szd yp3.data c.at_)) (.mk yp3.dir yp3.mode (szd yp3.data c.at_) yp3.ids yp3.names yp3.kids) ((0,clc c)::(hset Z iyp3 (Ayp3++otc (.mk yp3.dir yp3.mode (szd yp3.data c.at_) yp3.ids yp3.names yp3.kids)++Byp3))) (fun J=>by kernel_rfl) ((hgt_ev (E:=[(0,clc c)]) ⟨rfl,trivial⟩ hiyp3).trans hgyp3) kr rfl rfl (hset_ev (E:=[(0,clc c)]) ⟨rfl,trivial⟩ hiyp3) ?_⟩
 obtain⟨kp3,hk1p3,hk2p3⟩:=oat_kid_some hup3 (by rw[hpep3];exact hyyp3)
 have hZ1:=setL (y':=(.mk yp3.dir yp3.mode (szd yp3.data c.at_) yp3.ids yp3.names yp3.kids)) hnd hL.odd hpyp3 hryp3 rfl rfl
 generalize (hset Z iyp3 (Ayp3++otc (.mk yp3.dir yp3.mode (szd yp3.data c.at_) yp3.ids yp3.names yp3.kids)++Byp3))=Z1 at hZ1⊢
 refine qFn0 [] [] (Rr (Fn0 [] [(4,.i 0)] (Rt (.i 0) ?_)))
 have hT:=hit_er (x:=(.mk yp3.dir yp3.mode (szd yp3.data c.at_) yp3.ids yp3.names yp3.kids)) hL.wf hto hup3 hk1p3
 rw[hpep3]at hT
 have e:iDo (er T) c=(er (orep T c.path (.mk yp3.dir yp3.mode (szd yp3.data c.at_) yp3.ids yp3.names yp3.kids)),0):=by
   rw[hT];unfold iDo
   (try simp only[hPp3,hXyp3,hc52,hc57,hc71,hc75,wData,wMode,newDir,Tr.none,er_mk,er_dir,er_mode,er_data,er_names,er_kids,List.map_nil,decide_true,Bool.not_true,Bool.not_false,Bool.true_and,Bool.and_true,Bool.false_and,Bool.and_false,cond_true,cond_false,show decide ((0:Int)=0)=true from rfl,show decide ((3:Int)=0)=false from rfl,show decide ((4:Int)=0)=false from rfl])
   try rfl
 refine fin_dc (.i 0) Z1 (by first|exact List.Sublist.refl _|exact List.Sublist.cons _ (List.Sublist.refl _)|exact List.Sublist.cons _ (List.Sublist.cons _ (List.Sublist.refl _))) (lea_refl _) trivial hZ1.2 ⟨(orep T c.path (.mk yp3.dir yp3.mode (szd yp3.data c.at_) yp3.ids yp3.names yp3.kids)),W,?_,hZ1,?_,(orep_shp hL.wf hL.shp hyyp3 (shp_data (oat_shp hL.wf hL.shp hyyp3)))⟩<;>rw[e]
 refine Rr (Cn1 (decide ((c.kind:Int)=(4:Int))) [0,3,5,7,8,32] [] (Ki/\·) ⟨rfl,fun hc79 c79=>?_,fun hc79 c79=>?_⟩)
 refine Sq fun K80 hK80=>?_
 refine Bl (Rr (Fn1 [5,7,8] [(102,.bool false)] ((∃e,TK.ptr 42=TK.ptr e)/\·) ⟨⟨_,rfl⟩,Cf (Rm 105 (yp3.dir&&(decide ((0:Int)<((yp3.names.length:Int):Int)))) [5,7] ?_ ?_)⟩))
 refine An1 3 [(108,.ptr iyp3 Ayp3.length),(107,.ptr iyp3 Ayp3.length),(106,.ptr iyp3 Ayp3.length)] (((1:Nat)≠0)/\·) ⟨dc,geln (t:=yp3) 109 4 iyp3 0 (.bool yp3.dir) (fun J=>by kernel_rfl) ((hgt_ev (E:=[(0,clc c)]) ⟨rfl,trivial⟩ hiyp3).trans hgyp3) kr rfl (An0 1 [(110,.bool yp3.dir)] (Rg (fun hg83 g83=>?_) (fun hg83 g83=>?_)))⟩
 refine An1 3 [(113,.ptr iyp3 (Ayp3.length+3)),(112,.ptr iyp3 Ayp3.length),(111,.ptr iyp3 Ayp3.length)] (((1:Nat)≠0)/\·) ⟨dc,geln (t:=yp3) 114 25 iyp3 3 (.osl (2*ayp3+1) 1 0 yp3.names.length) (fun J=>by kernel_rfl) ((hgt_ev (E:=[(0,clc c)]) ⟨rfl,trivial⟩ hiyp3).trans hgyp3) kr (by rw[otc,hidsyp3];rfl) (Mn1 (decide ((0:Int)<((yp3.names.length:Int):Int))) (Ki/\·) ⟨rfl,(by rw[hg83];rfl)⟩)⟩
 refine Mn0 false (by rw[hg83];rfl)
 refine Cc (yp3.dir&&(decide ((0:Int)<((yp3.names.length:Int):Int)))) (fun hc84 c84=>?_) fun hc84 c84=>?_
 refine Rr (Fn0 [] [(4,.i 5)] (Rt (.i 5) ?_))
 have hT:er T=er T:=rfl
 have e:iDo (er T) c=(er T,5):=by
   rw[hT];unfold iDo
   (try simp only[hPp3,hXyp3,hc52,hc57,hc71,hc79,hc84,wData,wMode,newDir,Tr.none,er_mk,er_dir,er_mode,er_data,er_names,er_kids,List.map_nil,decide_true,Bool.not_true,Bool.not_false,Bool.true_and,Bool.and_true,Bool.false_and,Bool.and_false,cond_true,cond_false,show decide ((0:Int)=0)=true from rfl,show decide ((3:Int)=0)=false from rfl,show decide ((4:Int)=0)=false from rfl])
   try rfl
 refine fin_dc (.i 5) Z (by first|exact List.Sublist.refl _|exact List.Sublist.cons _ (List.Sublist.refl _)|exact List.Sublist.cons _ (List.Sublist.cons _ (List.Sublist.refl _))) (lea_refl _) trivial hL.odd ⟨T,W,?_,⟨hL.perm,hL.odd⟩,?_,hL.shp⟩<;>rw[e]
 refine Sk (Bn (Jn (hK80 (Kp [5,7] (Rb (fun h=>Bn (Jn (hK49 h))) (Bc0 3 [(119,.str (c.path.getD (((c.path.length:Int)-1).toNat) default)),(118,.ptr ip3 Ap3.length)] 123 [.ptr ip3 Ap3.length,.str (c.path.getD (((c.path.length:Int)-1).toNat) default)] 120 ?_))))))
 obtain⟨kp3,hk1p3,hk2p3⟩:=oat_kid_some hup3 (by rw[hpep3];exact hyyp3)
 obtain⟨⟨aup3,bup3⟩,hidsup3⟩:=Option.isSome_iff_exists.1 ((asm_eq _).1 (oat_asm hL.wf ha hup3)).1
 refine DC.use (dropL (c.path.getD (((c.path.length:Int)-1).toNat) default) hL hup3 hop3 hidsup3 hk1p3) [(0,clc c)] rfl ⟨rfl,trivial⟩ ?_
 rintro rr Z1 ⟨W1,hZ1⟩
 refine Ke (Fn0 [] [] (Rr (Fn0 [] [(4,.i 0)] (Rt (.i 0) ?_))))
 have hT:=gone_er hL.wf (tnd_ok hto) hup3 hk1p3
 rw[hpep3]at hT
 have e:iDo (er T) c=(er (orep T (c.path.take (c.path.length-1)) (.mk up3.dir up3.mode up3.data up3.ids (up3.names.take kp3++up3.names.drop (kp3+1)) (up3.kids.take kp3++up3.kids.drop (kp3+1)))),0):=by
   rw[hT];unfold iDo
   (try simp only[hPp3,hXyp3,hc52,hc57,hc71,hc79,hc84,wData,wMode,newDir,Tr.none,er_mk,er_dir,er_mode,er_data,er_names,er_kids,List.map_nil,decide_true,Bool.not_true,Bool.not_false,Bool.true_and,Bool.and_true,Bool.false_and,Bool.and_false,cond_true,cond_false,show decide ((0:Int)=0)=true from rfl,show decide ((3:Int)=0)=false from rfl,show decide ((4:Int)=0)=false from rfl])
   try rfl
 refine fin_dc (.i 0) Z1 (by first|exact List.Sublist.refl _|exact List.Sublist.cons _ (List.Sublist.refl _)|exact List.Sublist.cons _ (List.Sublist.cons _ (List.Sublist.refl _))) (lea_refl _) trivial hZ1.2 ⟨(orep T (c.path.take (c.path.length-1)) (.mk up3.dir up3.mode up3.data up3.ids (up3.names.take kp3++up3.names.drop (kp3+1)) (up3.kids.take kp3++up3.kids.drop (kp3+1)))),W1,?_,hZ1,?_,(orep_shp hL.wf hL.shp hup3 (drop_shp (oat_shp hL.wf hL.shp hup3)))⟩<;>rw[e]
 refine Rr (Cn1 (decide ((c.kind:Int)=(5:Int))) [0,3,8,32] [] (Ki/\·) ⟨rfl,fun hc88 c88=>?_,fun hc88 c88=>?_⟩)
 refine Rr (Bc1 3 [(124,.agg (clc c)),(123,.ptr r A0.length)] 124 [.ptr r A0.length,.agg (clc c)] 125 ((0+5<=5/\0<5)/\·) ⟨dc,?_⟩)
 obtain⟨f5,f6⟩:=f4 (by simpa using hc88)
 refine DC.use (rename_ok c hL ha hto f1 f2 f5 f6) [(0,clc c)] rfl ⟨rfl,trivial⟩ ?_
 rintro _ Z1 ⟨T1,W1,rfl,hZ1,he1,hs1⟩
 refine Ke (Fn0 [] [(4,.i ((iRename (er T) c).2))] (Rt (.i ((iRename (er T) c).2)) ?_))
 have hT:=he1
 have e:iDo (er T) c=(er T1,(iRename (er T) c).2):=by
   rw[hT];unfold iDo
   (try simp only[hPp3,hXyp3,hc52,hc57,hc71,hc79,hc88,wData,wMode,newDir,Tr.none,er_mk,er_dir,er_mode,er_data,er_names,er_kids,List.map_nil,decide_true,Bool.not_true,Bool.not_false,Bool.true_and,Bool.and_true,Bool.false_and,Bool.and_false,cond_true,cond_false,show decide ((0:Int)=0)=true from rfl,show decide ((3:Int)=0)=false from rfl,show decide ((4:Int)=0)=false from rfl])
   try rfl
 refine fin_dc (.i ((iRename (er T) c).2)) Z1 (by first|exact List.Sublist.refl _|exact List.Sublist.cons _ (List.Sublist.refl _)|exact List.Sublist.cons _ (List.Sublist.cons _ (List.Sublist.refl _))) (lea_refl _) trivial hZ1.2 ⟨T1,W1,?_,hZ1,?_,hs1⟩<;>rw[e]
 refine Rr (Cn1 (decide ((c.kind:Int)=(6:Int))) [3,8] [] (Ki/\·) ⟨rfl,fun hc91 c91=>?_,fun hc91 c91=>?_⟩)
 refine Sq fun K92 hK92=>?_
 refine Rr (Fn1 [3,8] [(129,.bool false)] ((∃e,TK.ptr 42=TK.ptr e)/\·) ⟨⟨_,rfl⟩,Cf (Sk (Jn (hK92 (Kp [3,8] (Rb (fun h=>Bn (Jn (hK49 h))) ?_)))))⟩)
 refine An1 5 [(134,.ptr iyp3 (Ayp3.length+1)),(133,.ptr iyp3 Ayp3.length),(132,.i c.at_),(131,.ptr 0 3),(130,.ptr iyp3 Ayp3.length)] (((1:Nat)≠0)/\(3+1<=5/\3<5)/\((1:Nat)≠0)/\·) ⟨dc,dc,dc,gesn (t:=yp3) 3 iyp3 1 (.i c.at_) (.mk yp3.dir c.at_ yp3.data yp3.ids yp3.names yp3.kids) ((0,clc c)::(hset Z iyp3 (Ayp3++otc (.mk yp3.dir c.at_ yp3.data yp3.ids yp3.names yp3.kids)++Byp3))) (fun J=>by kernel_rfl) ((hgt_ev (E:=[(0,clc c)]) ⟨rfl,trivial⟩ hiyp3).trans hgyp3) kr rfl rfl (hset_ev (E:=[(0,clc c)]) ⟨rfl,trivial⟩ hiyp3) ?_⟩
 obtain⟨kp3,hk1p3,hk2p3⟩:=oat_kid_some hup3 (by rw[hpep3];exact hyyp3)
 have hZ1:=setL (y':=(.mk yp3.dir c.at_ yp3.data yp3.ids yp3.names yp3.kids)) hnd hL.odd hpyp3 hryp3 rfl rfl
 generalize (hset Z iyp3 (Ayp3++otc (.mk yp3.dir c.at_ yp3.data yp3.ids yp3.names yp3.kids)++Byp3))=Z1 at hZ1⊢
 refine Fn0 [] [] (Rr (Fn0 [] [(4,.i 0)] (Rt (.i 0) ?_)))
 have hT:=hit_er (x:=(.mk yp3.dir c.at_ yp3.data yp3.ids yp3.names yp3.kids)) hL.wf hto hup3 hk1p3
 rw[hpep3]at hT
 have e:iDo (er T) c=(er (orep T c.path (.mk yp3.dir c.at_ yp3.data yp3.ids yp3.names yp3.kids)),0):=by
   rw[hT];unfold iDo
   (try simp only[hPp3,hXyp3,hc52,hc57,hc71,hc79,hc88,hc91,wData,wMode,newDir,Tr.none,er_mk,er_dir,er_mode,er_data,er_names,er_kids,List.map_nil,decide_true,Bool.not_true,Bool.not_false,Bool.true_and,Bool.and_true,Bool.false_and,Bool.and_false,cond_true,cond_false,show decide ((0:Int)=0)=true from rfl,show decide ((3:Int)=0)=false from rfl,show decide ((4:Int)=0)=false from rfl])
   try rfl
 refine fin_dc (.i 0) Z1 (by first|exact List.Sublist.refl _|exact List.Sublist.cons _ (List.Sublist.refl _)|exact List.Sublist.cons _ (List.Sublist.cons _ (List.Sublist.refl _))) (lea_refl _) trivial hZ1.2 ⟨(orep T c.path (.mk yp3.dir c.at_ yp3.data yp3.ids yp3.names yp3.kids)),W,?_,hZ1,?_,(orep_shp hL.wf hL.shp hyyp3 (shp_data (oat_shp hL.wf hL.shp hyyp3)))⟩<;>rw[e]
 refine Sk (Bn (Jn (hK49 (Kp [] (Rr (Fn0 [] [(4,.i 0)] (Rt (.i 0) ?_)))))))
 have hT:er T=er T:=rfl
 have e:iDo (er T) c=(er T,0):=by
   rw[hT];unfold iDo
   (try simp only[hPp3,hXyp3,hc52,hc57,hc71,hc79,hc88,hc91,wData,wMode,newDir,Tr.none,er_mk,er_dir,er_mode,er_data,er_names,er_kids,List.map_nil,decide_true,Bool.not_true,Bool.not_false,Bool.true_and,Bool.and_true,Bool.false_and,Bool.and_false,cond_true,cond_false,show decide ((0:Int)=0)=true from rfl,show decide ((3:Int)=0)=false from rfl,show decide ((4:Int)=0)=false from rfl])
   try rfl
 refine fin_dc (.i 0) Z (by first|exact List.Sublist.refl _|exact List.Sublist.cons _ (List.Sublist.refl _)|exact List.Sublist.cons _ (List.Sublist.cons _ (List.Sublist.refl _))) (lea_refl _) trivial hL.odd ⟨T,W,?_,⟨hL.perm,hL.odd⟩,?_,hL.shp⟩<;>rw[e]
 dsimp only
 have hPp3:parC (er T) c.path=3:=by rw[parC_er,hup3]
 refine Ke (Fn1 [0,3] [(6,.i 3),(5,.nilp)] ((0<2)/\(1<2)/\·) ⟨dc,dc,Sq fun K96 hK96=>?_⟩)
 refine Rr (Fn1 [0,3,5,6] [(18,.bool true)] (Ki/\·) ⟨rfl,Ct (Rr (Fn0 [] [(4,.i 3)] ?_))⟩)
 refine Rt (.i 3) ?_
 have hT:er T=er T:=rfl
 have e:iDo (er T) c=(er T,3):=by
   rw[hT];unfold iDo
   (try simp only[hPp3,wData,wMode,newDir,Tr.none,er_mk,er_dir,er_mode,er_data,er_names,er_kids,List.map_nil,decide_true,Bool.not_true,Bool.not_false,Bool.true_and,Bool.and_true,Bool.false_and,Bool.and_false,cond_true,cond_false,show decide ((0:Int)=0)=true from rfl,show decide ((3:Int)=0)=false from rfl,show decide ((4:Int)=0)=false from rfl])
   try rfl
 refine fin_dc (.i 3) Z (by first|exact List.Sublist.refl _|exact List.Sublist.cons _ (List.Sublist.refl _)|exact List.Sublist.cons _ (List.Sublist.cons _ (List.Sublist.refl _))) (lea_refl _) trivial hL.odd ⟨T,W,?_,⟨hL.perm,hL.odd⟩,?_,hL.shp⟩<;>rw[e]
set_option maxRecDepth 100000
theorem h_dfz {np:Nat} {G:Prg} {c:Code} {F0:Fr} {H' Z W:Hp} {n:Nat} {Q:Post} {k r:Nat} {T:OT} (hz:Z.Perm ((r,[]++otc T++[])::(objs T++W))) (hsT:shp T)
  (h:TT np G.P c ((k,.pat (tcs (er T)))::F0) H' n Q):TT np G.P c ((k,.ptr r 0)::F0) (H'++Z) n Q:=by
 refine TT_conv h fun X N ρ a w hs=>?_
 have hsub:H'.Sublist (H'++Z):=List.sublist_append_left _ _
 have hO:∀b,OX X ρ H' b->OX X ρ (H'++Z) b:=fun b hb=>hb.imp id (Own.sub hsub)
 have hnd:=hs.hr.nodup
 simp only[ids,List.map_append]at hnd
 have hno:∀i b,i∈ids Z->ρ i=some b->¬OX X ρ H' b:=by
  intro i b hi hb hx
  have hi2:i∈ids (H'++Z):=by simp only[ids,List.map_append,List.mem_append];exact .inr hi
  rcases hx with hx|⟨j,hj,hb'⟩
  ·exact hs.hr.notX i b hi2 hb hx
  ·have:=hs.hr.inj i j b hi2 (by simp only[ids,List.map_append,List.mem_append];exact .inl hj) hb hb'
   subst this
   exact(List.nodup_append.1 hnd).2.2 _ hj _ hi rfl
 refine⟨ρ,⟨hs.fresh,hs.hr.sub hsub,fun t=>?_,hs.df,hs.sz⟩,fun b hb=>Own.sub hsub hb,fun _ _ _ h=>h⟩
 have ht:=hs.fr t
 simp only[gt]at ht⊢
 cases hk:k==t with
 |false=>rw[hk]at ht;exact VR_carry (Carry.less hO) _ _ ht
 |true=>
  rw[hk]at ht
  have ht:VR ρ w (OX X ρ (H'++Z)) (.ptr r 0) (a.tmps.getD t undef):=ht
  show VR ρ w (OX X ρ H') (.pat (tcs (er T))) (a.tmps.getD t undef)
  simp only[VR]at ht⊢
  obtain⟨b,hb,hv⟩:=ht
  have hm:(r,[]++otc T++[])∈H'++Z:=List.mem_append.2 (.inr (hz.mem_iff.2 (by simp)))
  obtain⟨b',c',e',f',q1,q2,q3,q4,q5,q6⟩:=hs.hr.obj _ _ hm
  rw[hb]at q1;cases q1
  simp only[List.nil_append,List.append_nil]at q5 q6
  have hmz:∀p,p∈objs T->p∈Z:=fun p hp=>hz.mem_iff.2 (by simp only[List.mem_cons,List.mem_append];exact .inr (.inl hp))
  have hd := deep_vr (X' := OX X ρ H') hs.hr hO T _ _ hsT (fun p hp => List.mem_append.2 (.inr (hmz p hp))) (fun i b hi hb => hno i b (by
   obtain⟨p,hp,rfl⟩:=List.mem_map.1 hi
   exact List.mem_map.2 ⟨p,hmz p hp,rfl⟩) hb) q6
  refine⟨_,hv,hno r b (List.mem_map.2 ⟨(r,[]++otc T++[]),hz.mem_iff.2 (by simp),rfl⟩) hb,(Array.getElem?_eq_some_iff.1 q2).1,?_⟩
  rw[show tcs (er T)=trc (er T)from(trc_eq _).symm]
  have hl:(trc (er T)).length=5:=by rw[trc_eq];rfl
  exact PCs_of q2 q4 (trc (er T)) 0 0 (by rw[hl];rw[otc_len]at q5;omega) (by rw[hl,List.drop_zero];rw[otc_len]at hd;exact hd)
theorem wrt_len {s d:Str} {a:Int} (h:0<=a):(wrt s a d).length<=s.length+a.toNat+d.length:=by
 have hz:=szd_len (s:=s) h
 unfold wrt
 dsimp only
 split<;>split<;>(try simp only[List.length_append,List.length_take,List.length_drop])<;>omega
theorem W_new (m:Int):(newDir m).W=1:=by simp[newDir,Tr.W,wS,Tr.Ws]
theorem W_iDo {t:Tr} {c:Cl} (ht:t.W<2^10) (f2:wS c.path<2^10) (f3:c.kind=2\/c.kind=3->0<=c.at_/\c.at_<=24) (f6:c.kind=5->wS c.to<2^10):(iDo t c).1.W<2^40:=by
 have h0:t.W<2^40:=by omega
 have key:∀(x:Tr) (g:Bool),x.W<2^12->(tset c.path t x g).W<2^40:=fun x g hx=>by
  have:=W_tset_lt2 (p:=c.path) (t:=t) (x:=x) (g:=g) (by omega) hx f2
  omega
 have hx:∀{x},tat t c.path=some x->x.W<2^10:=fun h=>by have:=W_tat _ _ _ h;omega
 unfold iDo
 cases decide (parC t c.path=(0:Int))<;>simp only[Bool.not_true,Bool.not_false,cond_true,cond_false]
 ·exact h0
 cases decide (c.kind=(1:Int))<;>simp only[cond_true,cond_false]
 case true=>split;exact h0;exact key _ _ (by rw[W_new];omega)
 cases hk:decide (c.kind=(2:Int))<;>simp only[cond_true,cond_false]
 case true=>
  obtain⟨f8,f9⟩:=f3 (.inl (by simpa using hk))
  split
  ·rename_i x he
   cases x.dir<;>simp only[cond_true,cond_false]
   case true=>exact h0
   cases hd:decide ((24:Int)<c.at_+((c.data.length:Nat):Int))<;>simp only[cond_true,cond_false]
   ·simp only[decide_eq_false_iff_not]at hd
    refine key _ _ ?_
    have h1:=W_wData x (wrt x.data c.at_ c.data)
    have h2:=wrt_len (s:=x.data) (d:=c.data) f8
    have:=hx he
    have:=data_W x
    omega
   ·exact h0
  ·cases hd:decide ((24:Int)<c.at_+((c.data.length:Nat):Int))<;>simp only[cond_true,cond_false]
   ·simp only[decide_eq_false_iff_not]at hd
    refine key _ _ ?_
    have h1:=W_wData .none (wrt [] c.at_ c.data)
    have h2:=wrt_len (s:=[]) (d:=c.data) f8
    have h3:Tr.none.data.length=0:=rfl
    rw[W_none]at h1
    simp only[List.length_nil]at h2
    omega
   ·exact h0
 cases hk:decide (c.kind=(3:Int))<;>simp only[cond_true,cond_false]
 case true=>
  obtain⟨f8,f9⟩:=f3 (.inr (by simpa using hk))
  split
  ·exact h0
  ·rename_i x he
   cases x.dir<;>simp only[cond_true,cond_false]
   case true=>exact h0
   refine key _ _ ?_
   have h1:=W_wData x (szd x.data c.at_)
   have h2:=szd_len (s:=x.data) f8
   have:=hx he
   have:=data_W x
   omega
 cases decide (c.kind=(4:Int))<;>simp only[cond_true,cond_false]
 case true=>
  split
  ·exact h0
  ·rename_i x he
   cases x.dir&&decide ((0:Int)<((x.names.length:Nat):Int))<;>simp only[cond_true,cond_false]
   ·exact key _ _ (by rw[W_none];omega)
   ·exact h0
 cases hk:decide (c.kind=(5:Int))<;>simp only[cond_true,cond_false]
 case true=>
  have f7:=f6 (by simpa using hk)
  unfold iRename
  split
  ·exact h0
  ·rename_i x he
   cases c.path.isPrefixOf c.to<;>simp only[cond_true,cond_false]
   case true=>exact h0
   cases decide (parC t c.to=(0:Int))<;>simp only[Bool.not_true,Bool.not_false,cond_true,cond_false]
   ·exact h0
   split
   ·exact h0
   ·have h1:=W_tset_lt2 (p:=c.to) (t:=t) (x:=x) (g:=false) (by omega) (by have:=hx he;omega) f7
    have h2:=W_tset_lt3 (p:=c.path) (t:=tset c.to t x false) (x:=.none) (g:=true) h1 (by rw[W_none];omega) f2
    exact h2
 cases decide (c.kind=(6:Int))<;>simp only[cond_true,cond_false]
 ·exact h0
 ·split
  ·exact h0
  ·rename_i x he
   exact key _ _ (by rw[W_wMode];have:=hx he;omega)
set_option maxRecDepth 100000
structure Mk where
 path:List Str
 sub:Bool
instance:Inhabited Mk:=⟨⟨[],false⟩⟩
abbrev mkc (m:Mk):List AV:=[pth m.path,.bool m.sub]
theorem mkc_len (m:Mk):(mkc m).length=2:=rfl
@[go_sem] theorem purs_mkc (m:Mk):purs (mkc m)=true:=by simp only[mkc,purs,go_sem,pur,Bool.and_self]
@[go_sem] theorem purs_flM (X:List Mk):purs (fl mkc X)=true:=purs_fl purs_mkc X
theorem flM_le (X:List Mk):X.length*2<=(fl mkc X).length:=by rw[fl_len mkc_len];exact Nat.le_refl _
theorem flMl (X:List Mk):(fl mkc X).length=X.length*2:=fl_len mkc_len X
theorem chkM (l:List Mk):chk 2 l.length (fl mkc l)=l.map mkc:=chk_fl mkc_len l
theorem mg_mk (l:List Mk) (k:Nat) (h:k<l.length):(l.map mkc).getD k []=mkc (l.getD k default):=mgs mkc l k h
theorem push_mk (X:List Mk) (y:Mk):apd (fl mkc X) (X.length*2) (mkc y)=fl mkc (X++[y]):=by
 unfold apd;rw[fl_full mkc_len X rfl,fl_app,fl_one]
@[go_sem] theorem puress_mk:∀X:List Mk,puress (X.map mkc)=true
 |[]=>rfl
 |m::X=>by simp only[List.map_cons,puress,purs_mkc,puress_mk X,Bool.and_self]
theorem rowM_get (X:List Mk) (i:Nat) (h:i<X.length):((fl mkc X).drop (0+i*2)).take 2=mkc (X.getD i default):=by
 rw[Nat.zero_add]
 have e:X=X.take i++X.getD i default::X.drop (i+1):=get_split X i h default
 have h1:(fl mkc (X.take i)).length=i*2:=by rw[fl_len mkc_len,List.length_take,Nat.min_eq_left (Nat.le_of_lt h)]
 have e2:fl mkc X=fl mkc (X.take i)++(mkc (X.getD i default)++fl mkc (X.drop (i+1))):=by
  rw[<-fl_one mkc (X.getD i default),<-fl_app,<-fl_app];exact congrArg (fl mkc) (by simpa using e)
 rw[e2,List.drop_left' h1,List.take_left' (mkc_len _)]
theorem rowM_set (X:List Mk) (i:Nat) (y:Mk) (h:i<X.length):(fl mkc X).take (0+i*2)++mkc y++(fl mkc X).drop (0+i*2+2)=fl mkc (X.set i y):=by
 rw[Nat.zero_add]
 have e:X=X.take i++X.getD i default::X.drop (i+1):=get_split X i h default
 have h1:(fl mkc (X.take i)).length=i*2:=by rw[fl_len mkc_len,List.length_take,Nat.min_eq_left (Nat.le_of_lt h)]
 have e2:fl mkc X=fl mkc (X.take i)++(mkc (X.getD i default)++fl mkc (X.drop (i+1))):=by
  rw[<-fl_one mkc (X.getD i default),<-fl_app,<-fl_app];exact congrArg (fl mkc) (by simpa using e)
 have h2:(fl mkc (X.take i)++mkc (X.getD i default)).length=i*2+2:=by rw[List.length_append,h1,mkc_len]
 rw[List.set_eq_take_append_cons_drop,if_pos h,fl_app,show fl mkc (y::X.drop (i+1))=mkc y++fl mkc (X.drop (i+1)) by rw[<-fl_one mkc y,<-fl_app];rfl]
 rw[e2,List.take_left' h1,<-List.append_assoc,List.drop_left' h2,List.append_assoc]
def mkOk (m:Mk):Bool:=pthOk m.path 0&&(decide (0<m.path.length)||m.sub)
def undM (l:List Mk) (p:List Str):Bool:=l.any fun m=>m.sub&&m.path.isPrefixOf p
def mrkM (l:List Mk) (p:List Str):Bool:=undM l p||l.any fun m=>m.path==p
def cmpS (x y:Str):Int:=if blt x y=true then-1 else if blt y x=true then 1 else 0
def cmpP:List Str->List Str->Int
 |[],[]=>0
 |[],_::_=> -1
 |_::_,[]=>1
 |a::xs,b::ys=>if cmpS a b≠0 then cmpS a b else cmpP xs ys
set_option maxRecDepth 100000
theorem blt_tot:∀{a b:Str},blt a b=false->blt b a=false->a=b
 |[],[],_,_=>rfl
 |[],_::_,h,_=>by simp[blt,Op.bytesLess]at h
 |_::_,[],_,h=>by simp[blt,Op.bytesLess]at h
 |x::a,y::b,h,k=>by
  simp only[blt,Op.bytesLess,Bool.or_eq_false_iff,Bool.and_eq_false_iff,decide_eq_false_iff_not]at h k
  have e:x=y:=UInt8.le_antisymm (UInt8.not_lt.1 k.1) (UInt8.not_lt.1 h.1)
  subst e
  have h2:=h.2.resolve_left (by simp)
  have k2:=k.2.resolve_left (by simp)
  rw[blt_tot (a:=a) (b:=b) h2 k2]
theorem cmpS_self (a:Str):cmpS a a=0:=by simp[cmpS,blt_irr]
theorem cmpS_eq {a b:Str} (h:cmpS a b=0):a=b:=by
 unfold cmpS at h
 cases h1:blt a b with
 |true=>rw[h1]at h;simp at h
 |false=>
  cases h2:blt b a with
  |true=>rw[h1,h2]at h;simp at h
  |false=>exact blt_tot h1 h2
theorem cmpS_neg {a b:Str}:cmpS a b<0↔blt a b=true:=by
 unfold cmpS
 cases h1:blt a b with
 |true=>simp
 |false=>simp;split<;>omega
theorem cmpS_anti (a b:Str):cmpS b a= -cmpS a b:=by
 unfold cmpS
 cases h1:blt a b<;>cases h2:blt b a<;>simp
 exact absurd (blt_trans h1 h2) (by rw[blt_irr];simp)
theorem cmpP_self:∀a:List Str,cmpP a a=0
 |[]=>rfl
 |a::xs=>by simp[cmpP,cmpS_self,cmpP_self xs]
theorem cmpP_eq:∀{a b:List Str},cmpP a b=0->a=b
 |[],[],_=>rfl
 |[],_::_,h=>by simp[cmpP]at h
 |_::_,[],h=>by simp[cmpP]at h
 |a::xs,b::ys,h=>by
  simp only[cmpP]at h
  by_cases e:cmpS a b=0
  ·rw[if_neg (by simpa using e)]at h
   rw[cmpS_eq e,cmpP_eq h]
  ·rw[if_pos e]at h;exact absurd h e
theorem cmpP_anti:∀a b:List Str,cmpP b a= -cmpP a b
 |[],[]=>rfl
 |[],_::_=>rfl
 |_::_,[]=>rfl
 |a::xs,b::ys=>by
  simp only[cmpP]
  rw[cmpS_anti a b]
  by_cases e:cmpS a b=0
  ·simp[e,cmpP_anti xs ys]
  ·rw[if_pos (by omega),if_pos e]
theorem cmpP_trans:∀{a b c:List Str},cmpP a b<=0->cmpP b c<=0->cmpP a c<=0
 |[],_,[],_,_=>by simp[cmpP]
 |[],_,_::_,_,_=>by simp[cmpP]
 |_::_,[],_,h,_=>by simp[cmpP]at h
 |_::_,_::_,[],_,h=>by simp[cmpP]at h
 |a::xs,b::ys,c::zs,h,k=>by
  simp only[cmpP]at h k⊢
  by_cases e1:cmpS a b=0
  ·rw[if_neg (by simpa using e1)]at h
   have:=cmpS_eq e1;subst this
   by_cases e2:cmpS a c=0
   ·rw[if_neg (by simpa using e2)]at k⊢;exact cmpP_trans h k
   ·rw[if_pos e2]at k⊢;exact k
  ·rw[if_pos e1]at h
   have h1:blt a b=true:=cmpS_neg.1 (by omega)
   by_cases e2:cmpS b c=0
   ·have:=cmpS_eq e2;subst this
    rw[if_pos e1];exact h
   ·rw[if_pos e2]at k
    have h2:blt b c=true:=cmpS_neg.1 (by omega)
    have h3:=cmpS_neg.2 (blt_trans h1 h2)
    rw[if_pos (by omega)];omega
def leM (a b:Mk):Prop:=cmpP a.path b.path<=0
theorem leM_trans {a b c:Mk} (h:leM a b) (k:leM b c):leM a c:=cmpP_trans h k
theorem leM_of {a b:Mk} (h:¬cmpP a.path b.path<0):leM b a:=by unfold leM;rw[cmpP_anti];omega
def NP (a b:Mk):Prop:=¬(a.sub=true/\a.path.isPrefixOf b.path=true)
def SR (a b:Mk):Prop:=NP a b/\NP b a/\a.path≠b.path
theorem SR_symm {a b:Mk} (h:SR a b):SR b a:=⟨h.2.1,h.1,fun e=>h.2.2 e.symm⟩
structure Trl (l:List Mk):Prop where
 ok:∀m∈l,mkOk m=true
 sr:l.Pairwise SR
 so:l.Pairwise leM
def keepM (m:Mk) (x:Mk):Bool:= !m.sub|| !m.path.isPrefixOf x.path
def addC (l:List Mk) (m:Mk):Bool:=undM l m.path||(!m.sub&&mrkM l m.path)
def AddR (l:List Mk) (m:Mk) (l':List Mk):Prop:=(addC l m=true/\l'=l)\/(addC l m=false/\l'.Perm (l.filter (keepM m)++[m])/\l'.Pairwise leM)
theorem AddR.mem {l l':List Mk} {m x:Mk} (h:AddR l m l') (hx:x∈l'):x∈l\/x=m:=by
 rcases h with ⟨_,rfl⟩|⟨_,h,_⟩
 ·exact .inl hx
 ·have:=h.mem_iff.1 hx
  rw[List.mem_append,List.mem_singleton,List.mem_filter]at this
  exact this.imp (·.1) id
theorem AddR.trl {l l':List Mk} {m:Mk} (ht:Trl l) (hm:mkOk m=true) (h:AddR l m l'):Trl l':=by
 refine⟨fun x hx=>(h.mem hx).elim (ht.ok x) (fun e=>e▸hm),?_,?_⟩
 ·rcases h with ⟨_,rfl⟩|⟨hc,hp,_⟩
  ·exact ht.sr
  ·refine(hp.pairwise_iff (fun h=>SR_symm h)).2 ?_
   rw[List.pairwise_append]
   refine⟨ht.sr.filter _,List.pairwise_singleton _ _,fun x hx y hy=>?_⟩
   rw[List.mem_singleton]at hy;subst hy
   rw[List.mem_filter]at hx
   unfold addC at hc
   rw[Bool.or_eq_false_iff]at hc
   have hn:NP x y:=fun⟨a,b⟩=>by
    have:=hc.1
    unfold undM at this
    rw[List.any_eq_false]at this
    exact this x hx.1 (by rw[a,b];rfl)
   cases hs:y.sub with
   |true=>
    have hk:=hx.2
    unfold keepM at hk
    rw[hs]at hk
    have hk2:y.path.isPrefixOf x.path=false:=by simpa using hk
    have h2:NP y x:=fun hh=>by rw[hh.2]at hk2;cases hk2
    have h3:y.path.isPrefixOf y.path=true:=List.isPrefixOf_iff_prefix.2 (List.prefix_refl _)
    exact⟨hn,h2,fun e=>by rw[e,h3]at hk2;cases hk2⟩
   |false=>
    have h2:NP y x:=fun hh=>by have:=hh.1;rw[hs]at this;cases this
    refine⟨hn,h2,fun e=>?_⟩
    have hm2:=hc.2
    rw[hs]at hm2
    simp only[Bool.not_false,Bool.true_and,mrkM,Bool.or_eq_false_iff]at hm2
    have:=hm2.2
    rw[List.any_eq_false]at this
    exact this x hx.1 (by simp[e])
 ·rcases h with ⟨_,rfl⟩|⟨_,_,hs⟩
  ·exact ht.so
  ·exact hs
def stepM (l:List Mk) (k:Nat):Bool:=mkOk (l.getD k default)&&((decide (k=0)||decide (cmpP (l.getD (k-1) default).path (l.getD k default).path<0))&& !undM (l.take k) (l.getD k default).path)
def trOk (l:List Mk):Bool:=(List.range l.length).all (stepM l)&&decide (l.length<=6)
theorem getD_pw {α:Type} [Inhabited α] {R:α->α->Prop} {l:List α} (h:l.Pairwise R) {i j:Nat} (hij:i<j) (hj:j<l.length):R (l.getD i default) (l.getD j default):=by
 have:=List.pairwise_iff_getElem.1 h i j (by omega) hj hij
 simpa[List.getD,show i<l.length by omega,hj]using this
theorem Trl.step {l:List Mk} (h:Trl l) {k:Nat} (hk:k<l.length):stepM l k=true:=by
 unfold stepM
 rw[h.ok _ (getD_mem l k default hk),Bool.true_and,Bool.and_eq_true]
 constructor
 ·rcases Nat.eq_zero_or_pos k with e|e
  ·simp[e]
  ·have h1:=getD_pw h.so (i:=k-1) (j:=k) (by omega) hk
   have h2:=getD_pw h.sr (i:=k-1) (j:=k) (by omega) hk
   have h3:cmpP (l.getD (k-1) default).path (l.getD k default).path≠0:=fun e=>h2.2.2 (cmpP_eq e)
   unfold leM at h1
   rw[Bool.or_eq_true];right
   exact decide_eq_true (by omega)
 ·rw[Bool.not_eq_true',undM,List.any_eq_false]
  intro m hm hc
  obtain⟨i,hi,rfl⟩:=List.mem_iff_getElem.1 hm
  rw[List.length_take]at hi
  have h2:=getD_pw h.sr (i:=i) (j:=k) (by omega) hk
  rw[List.getElem_take]at hc
  have e:l.getD i default=l[i]'(by omega):=by simp[List.getD,show i<l.length by omega]
  rw[Bool.and_eq_true]at hc
  exact h2.1 (by rw[e];exact hc)
theorem Trl.trOk {l:List Mk} (h:Trl l) (hl:l.length<=6):trOk l=true:=by
 unfold Go.Proofs.YtbfeplcaapiaoaaGreatT.trOk
 rw[Bool.and_eq_true,List.all_eq_true]
 exact⟨fun k hk=>h.step (List.mem_range.1 hk),decide_eq_true hl⟩
theorem Trl.nil:Trl []:=⟨by simp,List.Pairwise.nil,List.Pairwise.nil⟩
set_option maxRecDepth 100000
def insM (m:Mk):List Mk->List Mk
 |[]=>[m]
 |x::xs=>if cmpP m.path x.path<0 then m::x::xs else x::insM m xs
def putM (l:List Mk) (m:Mk):List Mk:=if addC l m then l else insM m (l.filter (keepM m))
theorem insM_perm (m:Mk):∀l:List Mk,(insM m l).Perm (l++[m])
 |[]=>List.Perm.refl _
 |x::xs=>by
  unfold insM
  split
  ·exact(List.perm_append_comm (l₁:=[m]) (l₂:=x::xs))
  ·exact(insM_perm m xs).cons x
theorem insM_sorted {m:Mk}:∀{l:List Mk},l.Pairwise leM->(insM m l).Pairwise leM
 |[],_=>List.pairwise_singleton _ _
 |x::xs,h=>by
  unfold insM
  have h1:=List.pairwise_cons.1 h
  split
  ·rename_i hc
   have hmx:leM m x:=Int.le_of_lt hc
   exact List.pairwise_cons.2 ⟨fun y hy=>(List.mem_cons.1 hy).elim (fun e=>e▸hmx) (fun hy=>leM_trans hmx (h1.1 y hy)),h⟩
  ·rename_i hc
   refine List.pairwise_cons.2 ⟨fun y hy=>?_,insM_sorted h1.2⟩
   have:=(insM_perm m xs).mem_iff.1 hy
   rw[List.mem_append,List.mem_singleton]at this
   rcases this with hy|rfl
   ·exact h1.1 y hy
   ·exact leM_of hc
theorem putM_add {l:List Mk} {m:Mk} (hl:l.Pairwise leM):AddR l m (putM l m):=by
 unfold putM AddR
 cases h:addC l m with
 |true=>exact .inl ⟨rfl,if_pos rfl⟩
 |false=>exact .inr ⟨rfl,by rw[if_neg (by simp)];exact insM_perm _ _,by rw[if_neg (by simp)];exact insM_sorted (hl.filter _)⟩
theorem sort_uni:∀{a b:List Mk},a.Perm b->a.Pairwise leM->b.Pairwise leM->a.Pairwise SR->a=b
 |[],b,hp,_,_,_=>by rw[List.nil_perm.1 hp]
 |x::a,[],hp,_,_,_=>by have:=hp.length_eq;simp at this
 |x::a,y::b,hp,ha,hb,hs=>by
  have ha1:=List.pairwise_cons.1 ha
  have hb1:=List.pairwise_cons.1 hb
  have hs1:=List.pairwise_cons.1 hs
  have e:x=y:=by
   rcases List.mem_cons.1 (hp.mem_iff.1 (List.mem_cons_self))with e|hx
   ·exact e
   ·rcases List.mem_cons.1 (hp.mem_iff.2 (List.mem_cons_self))with e|hy
    ·exact e.symm
    ·have h1:leM y x:=hb1.1 x hx
     have h2:leM x y:=ha1.1 y hy
     have h3:cmpP x.path y.path=0:=by
      unfold leM at h1 h2
      rw[cmpP_anti]at h1
      omega
     exact absurd (cmpP_eq h3) (hs1.1 y hy).2.2
  subst e
  rw[sort_uni ((List.perm_cons _).1 hp) ha1.2 hb1.2 hs1.2]
theorem AddR.put {l l':List Mk} {m:Mk} (ht:Trl l) (hm:mkOk m=true) (h:AddR l m l'):l'=putM l m:=by
 have h2:=putM_add (m:=m) ht.so
 have t1:=h.trl ht hm
 rcases h with ⟨c,rfl⟩|⟨c,p,s⟩
 ·unfold putM;rw[c];rfl
 ·rcases h2 with ⟨c2,e⟩|⟨c2,p2,s2⟩
  ·rw[c]at c2;cases c2
  ·exact sort_uni (p.trans p2.symm) s s2 t1.sr
theorem putM_trl {l:List Mk} {m:Mk} (ht:Trl l) (hm:mkOk m=true):Trl (putM l m):=(putM_add ht.so).trl ht hm
theorem undM_app (a b:List Mk) (p:List Str):undM (a++b) p=(undM a p||undM b p):=by unfold undM;rw[List.any_append]
theorem cmp_lt_trans {a b c:List Str} (h:cmpP a b<0) (k:cmpP b c<0):cmpP a c<0:=by
 have h1:=cmpP_trans (a:=a) (b:=b) (c:=c) (by omega) (by omega)
 rcases Int.lt_or_eq_of_le h1 with h2|h2
 ·exact h2
 ·have:=cmpP_eq h2;subst this
  rw[cmpP_anti]at k;omega
theorem pre_le:∀{p q:List Str},p.isPrefixOf q=true->cmpP p q<=0
 |[],[],_=>by simp[cmpP]
 |[],_::_,_=>by simp[cmpP]
 |_::_,[],h=>by simp at h
 |a::p,b::q,h=>by
  simp only[List.isPrefixOf_cons_cons,Bool.and_eq_true,beq_iff_eq]at h
  obtain⟨rfl,h⟩:=h
  rw[cmpP,if_neg (by simp[cmpS_self])]
  exact pre_le h
theorem trOk_trl {l:List Mk} (h:trOk l=true):Trl l/\l.length<=6:=by
 unfold trOk at h
 rw[Bool.and_eq_true,List.all_eq_true]at h
 obtain⟨h,h6⟩:=h
 have hst:∀k,k<l.length->stepM l k=true:=fun k hk=>h k (List.mem_range.2 hk)
 have hlt:∀j i,i<j->j<l.length->cmpP (l.getD i default).path (l.getD j default).path<0:=by
  intro j
  induction j with
  |zero=>intro i hi;omega
  |succ j ih=>
   intro i hi hj
   have h1:=hst (j+1) hj
   unfold stepM at h1
   simp only[Bool.and_eq_true,Bool.or_eq_true,decide_eq_true_eq,Nat.add_sub_cancel]at h1
   have h2:=h1.2.1.resolve_left (by omega)
   rcases Nat.lt_or_ge i j with hij|hij
   ·exact cmp_lt_trans (ih i hij (by omega)) h2
   ·obtain rfl:i=j:=by omega
    exact h2
 have hpw:l.Pairwise fun a b=>cmpP a.path b.path<0/\NP a b:=by
  rw[List.pairwise_iff_getElem]
  intro i j hi hj hij
  have h1:=hlt j i hij hj
  have h2:=hst j hj
  unfold stepM at h2
  simp only[Bool.and_eq_true,Bool.not_eq_true',undM,List.any_eq_false]at h2
  have e1:l.getD i default=l[i]:=by simp[List.getD,hi]
  have e2:l.getD j default=l[j]:=by simp[List.getD,hj]
  rw[e1,e2]at h1
  refine⟨h1,fun hh=>h2.2.2 l[i] ?_ ?_⟩
  ·rw[List.mem_take_iff_getElem];exact⟨i,by omega,rfl⟩
  ·rw[e2];exact⟨hh.1,hh.2⟩
 refine⟨⟨fun m hm=>?_,hpw.imp fun {a b} hab=>?_,hpw.imp fun {a b} hab=>Int.le_of_lt hab.1⟩,of_decide_eq_true h6⟩
 ·obtain⟨i,hi,rfl⟩:=List.mem_iff_getElem.1 hm
  have h2:=hst i hi
  unfold stepM at h2
  rw[Bool.and_eq_true]at h2
  have e1:l.getD i default=l[i]:=by simp[List.getD,hi]
  rw[e1]at h2
  exact h2.1
 ·refine⟨hab.2,fun hh=>?_,fun e=>?_⟩
  ·have:=pre_le hh.2
   have h3:=hab.1
   rw[cmpP_anti]at h3
   have:cmpP b.path a.path=0:=by omega
   have e:=cmpP_eq this
   have h4:=hab.1
   rw[e,cmpP_self]at h4;omega
  ·have h3:=hab.1;rw[e,cmpP_self]at h3;omega
theorem filt_t {l:List Mk} {m:Mk} {k:Nat} (hk:k<l.length) (h:keepM m (l.getD k default)=true):(l.take (k+1)).filter (keepM m)=(l.take k).filter (keepM m)++[l.getD k default]:=by
 rw[take_snoc l k default hk,List.filter_append];simp only[List.filter_cons,h,if_true,List.filter_nil]
theorem filt_f {l:List Mk} {m:Mk} {k:Nat} (hk:k<l.length) (h:keepM m (l.getD k default)=false):(l.take (k+1)).filter (keepM m)=(l.take k).filter (keepM m):=by
 rw[take_snoc l k default hk,List.filter_append];simp only[List.filter_cons,h,Bool.false_eq_true,if_false,List.filter_nil,List.append_nil]
def bestF (l:List Mk):Nat->Nat
 |0=>0
 |k+1=>if(l.getD (bestF l k) default).path.length<=(l.getD k default).path.length then k else bestF l k
def parM (m:Mk):Mk:=⟨m.path.take (m.path.length-1),true⟩
def bestM (l:List Mk):Mk:=l.getD (bestF l l.length) default
inductive Coar:List Mk->List Mk->Prop
 |done {l:List Mk} (h:l.length<=6):Coar l l
 |step {l r:List Mk} (h:6<l.length) (k:Coar (putM l (parM (bestM l))) r):Coar l r
theorem Coar.det {l r r':List Mk} (h:Coar l r):Coar l r'->r=r':=by
 induction h with
 |done h=>intro k;cases k with
  |done _=>rfl
  |step h2 _=>omega
 |step h _ ih=>intro k;cases k with
  |done h2=>omega
  |step _ k=>exact ih k
theorem bestF_lt (l:List Mk):∀k,0<k->bestF l k<k
 |k+1,_=>by
  unfold bestF
  split
  ·omega
  ·rcases Nat.eq_zero_or_pos k with rfl|h
   ·simp[bestF]
   ·have:=bestF_lt l k h;omega
theorem bestF_max (l:List Mk):∀k i,i<k->(l.getD i default).path.length<=(l.getD (bestF l k) default).path.length
 |k+1,i,hi=>by
  unfold bestF
  split
  ·rename_i h
   rcases Nat.lt_or_ge i k with h1|h1
   ·have:=bestF_max l k i h1;omega
   ·obtain rfl:i=k:=by omega
    omega
  ·rename_i h
   rcases Nat.lt_or_ge i k with h1|h1
   ·exact bestF_max l k i h1
   ·obtain rfl:i=k:=by omega
    omega
theorem best_mem {l:List Mk} (h:0<l.length):bestM l∈l:=getD_mem l _ default (bestF_lt l _ h)
theorem best_pos {l:List Mk} (ht:Trl l) (h:1<l.length):0<(bestM l).path.length:=by
 rcases Nat.eq_zero_or_pos (bestM l).path.length with h0|h0
 ·have h1:=bestF_max l l.length 0 (by omega)
  have h2:=bestF_max l l.length 1 h
  have e:(bestM l).path.length=(l.getD (bestF l l.length) default).path.length:=rfl
  rw[<-e,h0]at h1 h2
  have h3:=(getD_pw ht.sr (i:=0) (j:=1) (by omega) h).2.2
  rw[List.eq_nil_of_length_eq_zero (by omega:(l.getD 0 default).path.length=0),List.eq_nil_of_length_eq_zero (by omega:(l.getD 1 default).path.length=0)]at h3
  exact absurd rfl h3
 ·exact h0
theorem par_ok {m:Mk} (h:mkOk m=true):mkOk (parM m)=true:=by
 unfold mkOk pthOk inb at*
 simp only[Bool.and_eq_true,List.all_eq_true,decide_eq_true_eq,Bool.or_eq_true]at h⊢
 refine⟨⟨fun s hs=>h.1.1 s (List.mem_of_mem_take hs),by omega,?_⟩,.inr rfl⟩
 have:=h.1.2.2
 unfold parM
 rw[List.length_take]
 omega
theorem split_at {l:List Mk} {k:Nat} (hk:k<l.length):l=l.take k++l.getD k default::l.drop (k+1):=get_split l k hk default
theorem take_not_pre {p:List Str} (h:0<p.length):p.isPrefixOf (p.take (p.length-1))=false:=by
 cases e:p.isPrefixOf (p.take (p.length-1))with
 |false=>rfl
 |true=>
  have:=(List.isPrefixOf_iff_prefix.1 e).length_le
  rw[List.length_take]at this
  omega
theorem best_free {l:List Mk} (ht:Trl l) (h0:0<l.length) (hp:0<(bestM l).path.length):undM l (parM (bestM l)).path=false:=by
 have hb:=bestF_lt l _ h0
 unfold undM
 rw[List.any_eq_false]
 intro x hx hc
 rw[Bool.and_eq_true]at hc
 have h1:x.path.isPrefixOf (bestM l).path=true:=List.isPrefixOf_iff_prefix.2 ((List.isPrefixOf_iff_prefix.1 hc.2).trans (List.take_prefix _ _))
 obtain⟨i,hi,rfl⟩:=List.mem_iff_getElem.1 hx
 have e1:l.getD i default=l[i]:=by simp[List.getD,hi]
 rw[<-e1]at hc h1
 rcases Nat.lt_trichotomy i (bestF l l.length)with h|h|h
 ·exact(getD_pw ht.sr h hb).1 ⟨hc.1,h1⟩
 ·subst h
  have:=take_not_pre hp
  rw[show(bestM l).path.take ((bestM l).path.length-1)=(parM (bestM l)).path from rfl]at this
  have e:l.getD (bestF l l.length) default=bestM l:=rfl
  rw[e,this]at hc
  cases hc.2
 ·exact(getD_pw ht.sr h hi).2.1 ⟨hc.1,h1⟩
theorem best_addC {l:List Mk} (ht:Trl l) (h0:0<l.length) (hp:0<(bestM l).path.length):addC l (parM (bestM l))=false:=by
 unfold addC;rw[best_free ht h0 hp];simp only[parM,Bool.not_true,Bool.false_and,Bool.or_self]
theorem putM_erase {l:List Mk} (ht:Trl l) (h0:0<l.length) (hp:0<(bestM l).path.length):putM (l.take (bestF l l.length)++l.drop (bestF l l.length+1)) (parM (bestM l))=putM l (parM (bestM l)):=by
 have hb:=bestF_lt l _ h0
 have hn:=best_addC ht h0 hp
 have e:=split_at hb
 rw[show l.getD (bestF l l.length) default=bestM l from rfl]at e
 generalize bestF l l.length=b at*
 generalize hx:bestM l=x at*
 have hu:undM l (parM x).path=undM (l.take b++l.drop (b+1)) (parM x).path:=by
  conv=>lhs;rw[e]
  rw[undM_app,undM_app]
  congr 1
  unfold undM
  rw[List.any_cons]
  show(x.sub&&x.path.isPrefixOf (x.path.take (x.path.length-1))||_)=_
  rw[take_not_pre hp,Bool.and_false,Bool.false_or]
 have hf:l.filter (keepM (parM x))=(l.take b++l.drop (b+1)).filter (keepM (parM x)):=by
  conv=>lhs;rw[e]
  rw[List.filter_append,List.filter_append,List.filter_cons_of_neg]
  unfold keepM parM
  simp only[Bool.not_true,Bool.false_or,Bool.not_eq_true',Bool.not_eq_false]
  exact List.isPrefixOf_iff_prefix.2 (List.take_prefix _ _)
 unfold putM
 have hc:addC l (parM x)=addC (l.take b++l.drop (b+1)) (parM x):=by
  unfold addC;rw[hu];simp only[parM,Bool.not_true,Bool.false_and]
 rw[hf,<-hc,hn];simp only[Bool.false_eq_true,if_false]
theorem erase_trl {l:List Mk} (ht:Trl l) (b:Nat):Trl (l.take b++l.drop (b+1)):=by
 have hs:(l.take b++l.drop (b+1)).Sublist l:=by
  conv=>rhs;rw[<-List.take_append_drop b l]
  exact(List.Sublist.refl _).append (by rw[<-List.drop_drop];exact(List.drop_sublist 1 _))
 exact⟨fun m hm=>ht.ok m (hs.subset hm),ht.sr.sublist hs,ht.so.sublist hs⟩
def lenM (l:List Mk):Nat:=(l.map fun m=>m.path.length).sum
theorem lenM_app (a b:List Mk):lenM (a++b)=lenM a+lenM b:=by unfold lenM;rw[List.map_append,List.sum_append]
theorem lenM_cons (m:Mk) (l:List Mk):lenM (m::l)=m.path.length+lenM l:=by unfold lenM;rw[List.map_cons,List.sum_cons]
theorem lenM_filter (f:Mk->Bool):∀l:List Mk,lenM (l.filter f)<=lenM l
 |[]=>Nat.le_refl _
 |m::l=>by
  have:=lenM_filter f l
  rw[List.filter_cons,lenM_cons]
  split
  ·rw[lenM_cons];omega
  ·omega
theorem lenM_perm {a b:List Mk} (h:a.Perm b):lenM a=lenM b:=by unfold lenM;exact(h.map _).sum_nat
theorem lenM_put (l:List Mk) (m:Mk):lenM (putM l m)<=lenM l+m.path.length:=by
 unfold putM
 split
 ·omega
 ·rw[lenM_perm (insM_perm _ _),lenM_app,lenM_cons]
  have:=lenM_filter (keepM m) l
  have h0:lenM []=0:=rfl
  omega
theorem lenM_erase {l:List Mk} (h0:0<l.length) (hp:0<(bestM l).path.length):lenM (l.take (bestF l l.length)++l.drop (bestF l l.length+1))+(parM (bestM l)).path.length<lenM l:=by
 have e:=split_at (bestF_lt l _ h0)
 have h2:=congrArg lenM e
 rw[lenM_app,lenM_cons]at h2
 rw[lenM_app]
 have h3:(parM (bestM l)).path.length=(bestM l).path.length-1:=by unfold parM;rw[List.length_take];omega
 rw[show l.getD (bestF l l.length) default=bestM l from rfl]at h2
 omega
theorem lenM_coar {l:List Mk} (ht:Trl l) (h0:0<l.length) (hp:0<(bestM l).path.length):lenM (putM l (parM (bestM l)))<lenM l:=by
 rw[<-putM_erase ht h0 hp]
 have:=lenM_put (l.take (bestF l l.length)++l.drop (bestF l l.length+1)) (parM (bestM l))
 have:=lenM_erase h0 hp
 omega
theorem putM_len (l:List Mk) (m:Mk):(putM l m).length<=l.length+1:=by
 unfold putM
 split
 ·omega
 ·rw[(insM_perm _ _).length_eq,List.length_append,List.length_singleton]
  have:=List.length_filter_le (keepM m) l;omega
theorem putM_coarlen {l:List Mk} (ht:Trl l) (h0:0<l.length) (hp:0<(bestM l).path.length):(putM l (parM (bestM l))).length<=l.length:=by
 rw[<-putM_erase ht h0 hp]
 have h:=putM_len (l.take (bestF l l.length)++l.drop (bestF l l.length+1)) (parM (bestM l))
 have hb:=bestF_lt l _ h0
 rw[List.length_append,List.length_take,List.length_drop]at h
 omega
theorem Coar.trl {l r:List Mk} (h:Coar l r):Trl l->Trl r/\r.length<=6:=by
 induction h with
 |done h=>exact fun ht=>⟨ht,h⟩
 |step h _ ih=>exact fun ht=>ih (putM_trl ht (par_ok (ht.ok _ (best_mem (by omega)))))
theorem wS_pth {p:List Str} {lo:Int} (h:pthOk p lo=true):wS p<=24:=by
 unfold pthOk inb at h
 simp only[Bool.and_eq_true,List.all_eq_true,decide_eq_true_eq]at h
 have key:∀q:List Str,(∀s∈q,nmOk s=true)->wS q<=6*q.length:=by
  intro q
  induction q with
  |nil=>intro _;simp[wS]
  |cons s q ih=>
   intro hq
   have h1:=hq s List.mem_cons_self
   have h2:=ih fun x hx=>hq x (List.mem_cons_of_mem _ hx)
   unfold nmOk inb at h1
   simp only[Bool.and_eq_true,decide_eq_true_eq]at h1
   simp only[wS,List.length_cons]
   omega
 have:=key p h.1
 omega
theorem mk_wS {m:Mk} (h:mkOk m=true):wS m.path<=24:=by
 unfold mkOk at h;rw[Bool.and_eq_true]at h;exact wS_pth h.1
theorem Trl.wS {l:List Mk} (h:Trl l):∀m∈l,wS m.path<2^40:=fun m hm=>by have:=mk_wS (h.ok m hm);omega
inductive CoL:List Mk->List Mk->List Mk->Prop
 |nil (l:List Mk):CoL l [] l
 |snoc {l l1 l2 ms:List Mk} {m:Mk} (h:CoL l ms l1) (k:Coar (putM l1 m) l2):CoL l (ms++[m]) l2
theorem CoL.trl {l ms r:List Mk} (h:CoL l ms r) (ht:Trl l) (h6:l.length<=6) (hm:∀m∈ms,mkOk m=true):Trl r/\r.length<=6:=by
 induction h with
 |nil=>exact⟨ht,h6⟩
 |snoc h k ih=>
  exact k.trl (putM_trl (ih fun m hx=>hm m (List.mem_append_left _ hx)).1 (hm _ (by simp)))
theorem CoL.det {l ms r:List Mk} (h:CoL l ms r):∀{r':List Mk},CoL l ms r'->r=r':=by
 induction h with
 |nil=>
  intro r' k
  generalize e:([]:List Mk)=z at k
  cases k with
  |nil=>rfl
  |snoc h k=>simp at e
 |snoc h k ih=>
  intro r' q
  rename_i m
  generalize e:_++[m]=z at q
  cases q with
  |nil=>simp at e
  |snoc h' k'=>
   obtain⟨rfl,e2⟩:=List.append_inj' e rfl
   simp only[List.cons.injEq,and_true]at e2
   subst e2
   rw[<-ih h']at k'
   exact k.det k'
theorem row_fld {α:Type} [Inhabited α] {f:α->List AV} {s:Nat} (hf:∀x,(f x).length=s) (X:List α) (i j:Nat) (h:i<X.length) (hj:j<s):(fl f X).getD (0+i*s+j) .dead=(f (X.getD i default)).getD j .dead:=by
 have e:X=X.take i++X.getD i default::X.drop (i+1):=get_split X i h default
 have h1:(fl f (X.take i)).length=i*s:=by rw[fl_len hf,List.length_take,Nat.min_eq_left (Nat.le_of_lt h)]
 have e2:fl f X=fl f (X.take i)++(f (X.getD i default)++fl f (X.drop (i+1))):=by
  rw[<-fl_one f (X.getD i default),<-fl_app,<-fl_app];exact congrArg (fl f) (by simpa using e)
 rw[e2,Nat.zero_add]
 simp only[List.getD]
 rw[List.getElem?_append_right (by omega),h1,Nat.add_sub_cancel_left,List.getElem?_append_left (by rw[hf];exact hj)]
theorem rowM_fld (X:List Mk) (i j:Nat) (h:i<X.length) (hj:j<2):(fl mkc X).getD (0+i*2+j) .dead=(mkc (X.getD i default)).getD j .dead:=row_fld mkc_len X i j h hj
def dirAt (t:Tr) (p:List Str):Bool:=match tat t p with|some x=>x.dir|none=>false
def mksOf (t:Tr) (c:Cl):List Mk:=bif !callOk c then[]else bif decide (c.kind=(5:Int))then[⟨c.path,dirAt t c.path⟩,⟨c.to,dirAt t c.path⟩]else[⟨c.path,false⟩]
theorem mksOf_len (t:Tr) (c:Cl):(mksOf t c).length<=2:=by
 unfold mksOf;cases callOk c<;>cases hk:decide (c.kind=(5:Int))<;>simp
open Go Go.Proofs
set_option maxRecDepth 100000
theorem markOk_ok (m:Mk) (hm:wS m.path<2^40):PE G 96 [.agg (mkc m)] (.bool (mkOk m)):=by
 have hl:=wS_len m.path
 refine Pe Tryz.func96 ?_
 refine Rr (Fn2 [] [(1,.ptr 0 0)] ([(0,mkc m)]++·) 4 (Rm 2 ((pthOk m.path 0)&&((decide ((0:Int)<((m.path.length:Int):Int)))||m.sub)) [] ?_ ?_))
 refine Bc1 3 [(4,pth m.path),(3,.ptr 0 0)] 113 [pth m.path,.i 0] 5 (((1:Nat)≠0)/\(0+1<=2/\0<2)/\·) ⟨dc,dc,?_⟩
 refine PE.use (namesOk_ok m.path 0 om (fun s hs=>Nat.lt_trans (wS_mem hs) om)) ?_
 refine Ke (An0 1 [(6,.bool (pthOk m.path 0))] (Rg (fun hg3 g3=>?_) (fun hg3 g3=>?_)))
 refine Av1 3 9 [(8,pth m.path),(7,.ptr 0 0)] (lnm m.path sc) (((1:Nat)≠0)/\(0+1<=2/\0<2)/\·) ⟨dc,dc,An1 2 [(11,.bool (decide ((0:Int)<((m.path.length:Int):Int)))),(10,.bool (decide ((0:Int)<((m.path.length:Int):Int))))] (Ki/\·) ⟨rfl,Rg (fun hg4 g4=>?_) (fun hg4 g4=>?_)⟩⟩
 refine Mn0 true (by rw[hg3,hg4];rfl)
 refine Mn1 m.sub (((1:Nat)≠0)/\(1+1<=2/\1<2)/\·) ⟨dc,dc,(by rw[hg3,hg4];rfl)⟩
 refine Mn0 false (by rw[hg3];rfl)
 refine Rt (.bool ((pthOk m.path 0)&&((decide ((0:Int)<((m.path.length:Int):Int)))||m.sub))) (fin_lea ?_)
 have hr:mkOk m=((pthOk m.path 0)&&((decide ((0:Int)<((m.path.length:Int):Int)))||m.sub)):=by unfold mkOk;rw[show decide (0<m.path.length)=decide ((0:Int)<(m.path.length:Int))from decide_eq_decide.2 ⟨fun h=>by omega,fun h=>by omega⟩]
 rw[hr];exact lea_refl _
theorem under_ok (l:List Mk) (p:List Str) (hl:∀m∈l,wS m.path<2^40) (hn:l.length<2^21) (hp:wS p<2^40):PE G 97 [.sl 2 (l.map mkc),pth p] (.bool (undM l p)):=by
 have hpl:=wS_len p
 refine Pe Tryz.func97 ?_
 refine Rr (Fn0 [0,1] [] (Sq fun K2 hK2=>?_))
 refine Rr (Av0 2 8 [(7,.sl 2 (l.map mkc))] (lnm l mkc) (Fn0 [1,7,8] [(9,.i 0)] (Bl (h_l (fun(k:Nat)=>([(1,pth p),(7,.sl 2 (l.map mkc)),(8,.i l.length),(9,.i k)]:Fr)) (fun(k:Nat)=>([]:Hp)) (fun(k:Nat) cn=>(k<=l.length/\undM (l.take k) p=false)/\cn=0) (fun(k:Nat)=>l.length-k) 0 kr ?_ ?_ ?_ ?_))))
 refine⟨?_,rfl⟩;exact⟨Nat.zero_le _,rfl⟩
 exact⟨kr,kr,kr,kr,trivial⟩
 exact(List.nil_sublist _)
 rintro k n1 hI
 (try dsimp only at hI)
 obtain⟨⟨hi1,hi2⟩,rfl⟩:=hI
 refine Rr (Fn1 [1,7,8,9] [(10,.bool (decide ((k:Int)<(l.length:Int))))] (Ki/\·) ⟨rfl,Sq fun K5 hK5=>?_⟩)
 refine Cc (decide ((k:Int)<(l.length:Int))) (fun hc6 c6=>?_) fun hc6 c6=>?_
 refine Sk (Jn (hK5 (Kp [1,7,8,9] (Sq fun K7 hK7=>?_))))
 refine Bl (Rr (Av1 1 11 [] (congrArg AV.pat (mg_mk l k om)) ((2=2/\(0:Int)<=(k:Int)/\(k:Int)<((l.map mkc).length:Int))/\·) ⟨⟨rfl,om,lmo⟩,Fn3 [1,7,8,9] [(6,.ptr 0 0)] ([(0,mkc (l.getD k default))]++·) 4 ((2<=2/\0<2)/\(true=true/\2=2/\0+2<=2)/\·) ⟨dc,dc,?_⟩⟩))
 have hgm:=hl _ (getD_mem l k default om);have hgl:=wS_len (l.getD k default).path
 refine Rm 20 (((l.getD k default).sub)&&(((l.getD k default).path).isPrefixOf p)) [1,7,8,9] ?_ ?_
 refine An1 3 [(15,.bool ((l.getD k default).sub)),(14,.bool ((l.getD k default).sub)),(13,.ptr 0 1)] (((1:Nat)≠0)/\(1+1<=2/\1<2)/\·) ⟨dc,dc,Rg (fun hg10 g10=>?_) (fun hg10 g10=>?_)⟩
 refine Bc1 4 [(18,pth ((l.getD k default).path)),(17,.ptr 0 0),(16,pth p)] 84 [pth p,pth ((l.getD k default).path)] 19 (((1:Nat)≠0)/\(0+1<=2/\0<2)/\·) ⟨dc,dc,?_⟩
 refine PE.use (begins_ok p ((l.getD k default).path) om om) ?_
 refine Ke (Mn0 (((l.getD k default).path).isPrefixOf p) (by rw[hg10];rfl))
 refine Mn0 false (by rw[hg10];rfl)
 refine Cc (((l.getD k default).sub)&&(((l.getD k default).path).isPrefixOf p)) (fun hc11 c11=>?_) fun hc11 c11=>?_
 refine Rr (Fn0 [] [(4,.bool true)] (Rt (.bool true) (fin_lea ?_)))
 rw[show undM l p=true from List.any_eq_true.2 ⟨_,getD_mem l k default om,hc11⟩];exact lea_refl _
 refine Sk (Bn (Jn (hK7 (Kp [1,7,8,9] (Rn (Av1 1 21 [] (cI (wn1 k om)) (Ki/\·) ⟨rfl,Gn0 [(9,.i ((k+1:Nat):Int))] (nk_n ?_)⟩))))))
 refine Lr (k+1) [] 0 [(1,pth p),(7,.sl 2 (l.map mkc)),(8,.i l.length),(9,.i ((k+1:Nat):Int))] [] [] ?_ ?_ kr kr
 (try dsimp only);omega
 refine⟨?_,rfl⟩;(try dsimp only);exact⟨om,by rw[take_snoc l k default om];simp only[undM,List.any_append,List.any_cons,List.any_nil,Bool.or_false]at hi2⊢;rw[hi2,hc11,Bool.or_false]⟩
 refine Xt (Jx (Lx (Bh (Jn (hK2 (Kp [] (Rr (Fn0 [] [(4,.bool false)] (Rt (.bool false) (fin_lea ?_))))))))))
 obtain rfl:k=l.length:=by omega
 rw[List.take_length]at hi2;rw[hi2];exact lea_refl _
open Go Go.Proofs
set_option maxRecDepth 100000
theorem drop_cons {α:Type} [Inhabited α] {l:List α} {k:Nat} (h:k<l.length):l.drop k=l.getD k default::l.drop (k+1):=by
  rw[List.drop_eq_getElem_cons h];simp[List.getD,h]
theorem cmpP_drop {x y:List Str} {k:Nat} (hx:k<x.length) (hy:k<y.length) (h:cmpS (x.getD k default) (y.getD k default)=0):cmpP (x.drop k) (y.drop k)=cmpP (x.drop (k+1)) (y.drop (k+1)):=by
  rw[drop_cons hx,drop_cons hy,cmpP,if_neg (by simpa using h)]
theorem cmpP_hd {x y:List Str} {k:Nat} (hx:k<x.length) (hy:k<y.length) (h:¬cmpS (x.getD k default) (y.getD k default)=0):cmpP (x.drop k) (y.drop k)=cmpS (x.getD k default) (y.getD k default):=by
  rw[drop_cons hx,drop_cons hy,cmpP,if_pos h]
theorem cmpP_gt {x y:List Str} {k:Nat} (hx:k<x.length) (hy:y.length<=k):cmpP (x.drop k) (y.drop k)=1:=by
  rw[drop_cons hx,List.drop_eq_nil_of_le hy];rfl
theorem cmpP_lt {x y:List Str} {k:Nat} (hx:x.length<=k) (hy:k<y.length):cmpP (x.drop k) (y.drop k)= -1:=by
  rw[drop_cons hy,List.drop_eq_nil_of_le hx];rfl
theorem cmpP_en {x y:List Str} {k:Nat} (hx:x.length<=k) (hy:y.length<=k):cmpP (x.drop k) (y.drop k)=0:=by
  rw[List.drop_eq_nil_of_le hy,List.drop_eq_nil_of_le hx];rfl
theorem cmpS_ok (x y:Str):PE G 127 [.str x,.str y] (.i (cmpS x y)):=by
 refine Pe Tryz.func127 ?_
 refine Rr (Fn0 [0,1] [] (Rr (Pc0 2 [(7,.str x)] 8 (isNaN1_ok x) (Fn0 [0,1] [(5,.bool false)] ?_))))
 refine Rr (Pc0 2 [(9,.str y)] 10 (isNaN1_ok y) (Fn0 [0,1,5] [(6,.bool false)] (Sq fun K4 hK4=>?_)))
 refine Rr (Fn0 [0,1,6] [(11,.bool false)] (Cf (Sk (Jn (hK4 (Kp [0,1,6] (Sq fun K6 hK6=>?_)))))))
 refine Rr (Fn0 [0,1] [(13,.bool false)] (Cf (Sk (Jn (hK6 (Kp [0,1] (Sq fun K8 hK8=>?_)))))))
 refine Rr (Cn0 (blt x y) [0,1] [] ⟨fun hc10 c10=>?_,fun hc10 c10=>?_⟩)
 refine Rr (Fn0 [] [(4,.i (-1))] (Rt (.i (-1)) (fin_lea ?_)))
 rw[show cmpS x y= -1 by unfold cmpS;rw[if_pos hc10]];exact lea_refl _
 refine Sk (Jn (hK8 (Kp [0,1] (Sq fun K12 hK12=>?_))))
 refine Rr (Cn0 (!(blt x y||x==y)) [] [] ⟨fun hc14 c14=>?_,fun hc14 c14=>?_⟩)
 refine Rr (Fn0 [] [(4,.i 1)] (Rt (.i 1) ?_))
 have e:blt y x=true:=by
   cases h:blt y x with
   |true=>rfl
   |false=>
     have:=blt_tot c14.1 h
     subst this;simp at c14
 refine fin_lea ?_
 rw[show cmpS x y=1 by unfold cmpS;rw[if_neg (by rw[c14.1];simp),if_pos e]];exact lea_refl _
 refine Sk (Jn (hK12 (Kp [] (Rr (Fn0 [] [(4,.i 0)] (Rt (.i 0) ?_))))))
 have e:x=y:=by
   rcases c14 with h|h
   · rw[hc10]at h;cases h
   · simpa using h
 subst e
 refine fin_lea ?_
 rw[cmpS_self];exact lea_refl _
theorem cmpP_ok (x y:List Str) (hx:x.length<2^40) (hy:y.length<2^40):PE G 87 [pth x,pth y] (.i (cmpP x y)):=by
 refine Pe Tryz.func87 ?_
 refine Rr (Fn0 [0,1] [] (Sq fun K2 hK2=>?_))
 refine Rr (Av0 2 10 [(9,pth x)] (lnm x sc) (Fn0 [0,1,9,10] [(11,.i 0)] (Bl (h_l (fun(k:Nat)=>([(0,pth x),(1,pth y),(9,pth x),(10,.i x.length),(11,.i k)]:Fr)) (fun(k:Nat)=>([]:Hp)) (fun(k:Nat) cn=>(k<=x.length/\k<=y.length/\cmpP x y=cmpP (x.drop k) (y.drop k))/\cn=0) (fun(k:Nat)=>x.length-k) 0 kr ?_ ?_ ?_ ?_))))
 refine⟨?_,rfl⟩;exact⟨Nat.zero_le _,Nat.zero_le _,rfl⟩
 exact⟨kr,kr,kr,kr,kr,trivial⟩
 exact(List.nil_sublist _)
 rintro k n1 hI
 (try dsimp only at hI)
 obtain⟨⟨hi1,hi3,hi2⟩,rfl⟩:=hI
 refine Rr (Fn1 [0,1,9,10,11] [(12,.bool (decide ((k:Int)<(x.length:Int))))] (Ki/\·) ⟨rfl,Sq fun K5 hK5=>?_⟩)
 refine Cc (decide ((k:Int)<(x.length:Int))) (fun hc6 c6=>?_) fun hc6 c6=>?_
 refine Sk (Jn (hK5 (Kp [0,1,9,10,11] (Sq fun K7 hK7=>?_))))
 refine Bl (Rr (Av1 2 14 [(13,.i k)] (congrArg AV.pat (mg_str x k om)) ((1=1/\(0:Int)<=(k:Int)/\(k:Int)<((x.map (fun s=>[AV.str s])).length:Int))/\·) ⟨⟨rfl,om,lmo⟩,Fn1 [0,1,9,10,11] [(6,.str (x.getD k default)),(5,.i k)] ((1<=1/\0<1)/\·) ⟨dc,Sq fun K9 hK9=>?_⟩⟩))
 refine Rr (Av0 3 18 [(17,pth y),(16,.i k)] (lnm y sc) (Cn1 (decide ((y.length:Int)<=(k:Int))) [0,1,5,6,9,10,11] [] (Ki/\·) ⟨rfl,fun hc11 c11=>?_,fun hc11 c11=>?_⟩))
 refine Rr (Fn0 [] [(4,.i 1)] (Rt (.i 1) (fin_lea ?_)))
 rw[show cmpP x y=1 by rw[hi2];exact cmpP_gt om om];exact lea_refl _
 refine Sk (Jn (hK9 (Kp [0,1,5,6,9,10,11] (Rr (Av1 3 22 [(21,.i k),(20,pth y)] (congrArg AV.pat (mg_str y k om)) ((1=1/\(0:Int)<=(k:Int)/\(k:Int)<((y.map (fun s=>[AV.str s])).length:Int))/\·) ⟨⟨rfl,om,lmo⟩,Fn1 [0,1,6,9,10,11] [(7,.str (y.getD k default))] ((1<=1/\0<1)/\·) ⟨dc,Rr ?_⟩⟩)))))
 refine Pc0 3 [(25,.str (y.getD k default)),(24,.str (x.getD k default))] 26 (cmpS_ok (x.getD k default) (y.getD k default)) (Fn0 [0,1,9,10,11] [(8,.i (cmpS (x.getD k default) (y.getD k default)))] (Rr (Cn1 (!decide ((cmpS (x.getD k default) (y.getD k default):Int)=(0:Int))) [0,1,8,9,10,11] [] (Ki/\·) ⟨rfl,fun hc16 c16=>?_,fun hc16 c16=>?_⟩)))
 refine Rr (Fn0 [] [(4,.i (cmpS (x.getD k default) (y.getD k default)))] (Rt (.i (cmpS (x.getD k default) (y.getD k default))) (fin_lea ?_)))
 rw[show cmpP x y=cmpS (x.getD k default) (y.getD k default) by rw[hi2];exact cmpP_hd om om (by have h:=c16;omega)];exact lea_refl _
 refine Sk (Bn (Jn (hK7 (Kp [0,1,9,10,11] (Rn (Av1 1 30 [] (cI (wn1 k om)) (Ki/\·) ⟨rfl,Gn0 [(11,.i ((k+1:Nat):Int))] (nk_n ?_)⟩))))))
 refine Lr (k+1) [] 0 [(0,pth x),(1,pth y),(9,pth x),(10,.i x.length),(11,.i ((k+1:Nat):Int))] [] [] ?_ ?_ kr kr
 (try dsimp only);omega
 refine⟨?_,rfl⟩;(try dsimp only);exact⟨om,om,by rw[hi2];exact cmpP_drop om om (by have h:=c16;omega)⟩
 refine Xt (Jx (Lx (Bh (Jn (hK2 (Kp [0,1] (Sq fun K18 hK18=>?_)))))))
 refine Rr (Av0 2 32 [(31,pth x)] (lnm x sc) (Av0 2 34 [(33,pth y)] (lnm y sc) (Cn1 (decide ((x.length:Int)<(y.length:Int))) [] [] (Ki/\·) ⟨rfl,fun hc20 c20=>?_,fun hc20 c20=>?_⟩)))
 refine Rr (Fn0 [] [(4,.i (-1))] (Rt (.i (-1)) (fin_lea ?_)))
 rw[show cmpP x y= -1 by rw[hi2];exact cmpP_lt om om];exact lea_refl _
 refine Sk (Jn (hK18 (Kp [] (Rr (Fn0 [] [(4,.i 0)] (Rt (.i 0) (fin_lea ?_)))))))
 rw[show cmpP x y=0 by rw[hi2];exact cmpP_en om om];exact lea_refl _
theorem eqP_ok (p q:List Str) (hp:p.length<2^40) (hq:q.length<2^40):PE G 80 [pth p,pth q] (.bool (p==q)):=by
 refine Pe Tryz.func80 ?_
 refine Rr (Fn0 [0,1] [] (Sq fun K2 hK2=>?_))
 refine Rr (Av0 2 7 [(6,pth p)] (lnm p sc) (Av0 2 9 [(8,pth q)] (lnm q sc) (Cn1 (!decide ((p.length:Int)=(q.length:Int))) [0,1] [] (Ki/\·) ⟨rfl,fun hc4 c4=>?_,fun hc4 c4=>?_⟩)))
 refine Rr (Fn0 [] [(4,.bool false)] (Rt (.bool false) (fin_lea ?_)))
 rw[show(p==q)=false by rw[beq_eq_false_iff_ne];intro e;subst e;omega];exact lea_refl _
 refine Sk (Jn (hK2 (Kp [0,1] (Sq fun K6 hK6=>?_))))
 refine Rr (Av0 2 12 [(11,pth p)] (lnm p sc) (Fn0 [0,1,12] [(13,.i 0)] (Bl (h_l (fun(k:Nat)=>([(0,pth p),(1,pth q),(12,.i p.length),(13,.i k)]:Fr)) (fun(k:Nat)=>([]:Hp)) (fun(k:Nat) cn=>(k<=p.length/\p.take k=q.take k)/\cn=0) (fun(k:Nat)=>p.length-k) 0 kr ?_ ?_ ?_ ?_))))
 refine⟨?_,rfl⟩;exact⟨Nat.zero_le _,rfl⟩
 exact⟨kr,kr,kr,kr,trivial⟩
 exact(List.nil_sublist _)
 rintro k n1 hI
 (try dsimp only at hI)
 obtain⟨⟨hi1,hi2⟩,rfl⟩:=hI
 refine Rr (Fn1 [0,1,12,13] [(14,.bool (decide ((k:Int)<(p.length:Int))))] (Ki/\·) ⟨rfl,Sq fun K9 hK9=>?_⟩)
 refine Cc (decide ((k:Int)<(p.length:Int))) (fun hc10 c10=>?_) fun hc10 c10=>?_
 refine Sk (Jn (hK9 (Kp [0,1,12,13] (Sq fun K11 hK11=>?_))))
 refine Bl (Rr (Fn0 [0,1,12,13] [(5,.i k)] (Qr [0,0,3,7,0,0,48,112,255] [(0,[]),(1,[]),(2,[]),(3,[]),(4,[]),(5,[]),(6,[]),(7,[]),(8,[])] (qAv1 3 18 [(17,.i k),(16,pth p)] (congrArg AV.pat (mg_str p k om)) ((1=1/\(0:Int)<=(k:Int)/\(k:Int)<((p.map (fun s=>[AV.str s])).length:Int))/\·) ⟨⟨rfl,om,lmo⟩,?_⟩))))
 refine qAv1 4 22 [(21,.i k),(20,pth q),(19,.str (p.getD k default))] (congrArg AV.pat (mg_str q k om)) ((1<=1/\0<1)/\(1=1/\(0:Int)<=(k:Int)/\(k:Int)<((q.map (fun s=>[AV.str s])).length:Int))/\·) ⟨dc,⟨rfl,om,lmo⟩,qCn1 (!((p.getD k default)==(q.getD k default))) [0,1,12,13] [] ((1<=1/\0<1)/\·) ⟨dc,fun hc14 c14=>?_,fun hc14 c14=>?_⟩⟩
 refine Rr (Fn0 [] [(4,.bool false)] (Rt (.bool false) (fin_lea ?_)))
 rw[show(p==q)=false by rw[beq_eq_false_iff_ne];intro e;subst e;simp at c14];exact lea_refl _
 refine Sk (Bn (Jn (hK11 (Kp [0,1,12,13] (Rn (Av1 1 25 [] (cI (wn1 k om)) (Ki/\·) ⟨rfl,Gn0 [(13,.i ((k+1:Nat):Int))] (nk_n ?_)⟩))))))
 refine Lr (k+1) [] 0 [(0,pth p),(1,pth q),(12,.i p.length),(13,.i ((k+1:Nat):Int))] [] [] ?_ ?_ kr kr
 (try dsimp only);omega
 refine⟨?_,rfl⟩;(try dsimp only);exact⟨om,by rw[take_snoc p k default om,take_snoc q k default om,hi2];simpa using c14⟩
 refine Xt (Jx (Lx (Bh (Jn (hK6 (Kp [] (Rr (Fn0 [] [(4,.bool true)] (Rt (.bool true) (fin_lea ?_))))))))))
 rw[show(p==q)=true by rw[beq_iff_eq,<-List.take_length (l:=p),<-List.take_length (l:=q)];rw[show q.length=k by omega,show p.length=k by omega];exact hi2];exact lea_refl _
theorem mk1_ok (m:Mk) (p:List Str) (hm:m.path.length<2^40) (hp:p.length<2^40):PE G 133 [.agg (mkc m),.pat [pth p]] (.bool (m.path==p)):=by
 refine Pe Tryz.func133 ?_
 refine Rr (Fn2 [1] [(2,.ptr 0 0)] ([(0,mkc m)]++·) 4 (Rr (Bc1 4 [(6,pth p),(5,pth m.path),(4,.ptr 0 0)] 80 [pth m.path,pth p] 7 (((1:Nat)≠0)/\(0+1<=2/\0<2)/\(1<=1/\0<1)/\·) ⟨dc,dc,dc,PE.use (eqP_ok m.path p om om) ?_⟩)))
 refine Ke (Fn0 [] [(3,.bool (m.path==p))] (Rt (.bool (m.path==p)) ?_))
 exact fin_lea (lea_refl _)
open Go Go.Proofs
set_option maxRecDepth 100000
def idxM (p:List Str):Nat->List Mk->Int
  |_,[]=> -1
  |k,m::ms=>if(m.path==p)=true then(k:Int)else idxM p (k+1) ms
theorem idxM_any (p:List Str):∀(l:List Mk) (k:Nat),(l.any fun m=>m.path==p)=decide ((0:Int)<=idxM p k l)
  |[],k=>by simp[idxM]
  |m::ms,k=>by
    rw[List.any_cons]
    by_cases h:(m.path==p)=true
    · rw[show idxM p k (m::ms)=(k:Int) by rw[idxM,if_pos h],h,Bool.true_or];simp
    · rw[show idxM p k (m::ms)=idxM p (k+1) ms by rw[idxM,if_neg h],show(m.path==p)=false by simpa using h,Bool.false_or,idxM_any p ms (k+1)]
theorem idxM_hit {p:List Str} {l:List Mk} {k:Nat} (hk:k<l.length) (h:((l.getD k default).path==p)=true):idxM p k (l.drop k)=(k:Int):=by rw[drop_cons hk,idxM,if_pos h]
theorem idxM_miss {p:List Str} {l:List Mk} {k:Nat} (hk:k<l.length) (h:((l.getD k default).path==p)=false):idxM p k (l.drop k)=idxM p (k+1) (l.drop (k+1)):=by rw[drop_cons hk,idxM,if_neg (by rw[h];simp)]
theorem idxM_end {p:List Str} {l:List Mk} {k:Nat} (hk:l.length<=k):idxM p k (l.drop k)= -1:=by rw[List.drop_eq_nil_of_le hk];rfl
theorem idxM_ok (l:List Mk) (p:List Str) (hl:∀m∈l,wS m.path<2^40) (hn:l.length<2^21) (hp:p.length<2^40):PE G 156 [.sl 2 (l.map mkc),.fn (.func 133) [.pat [pth p]]] (.i (idxM p 0 l)):=by
 refine Pe Tryz.func156 ?_
 refine Rr (Fn0 [0,1] [] (Sq fun K2 hK2=>?_))
 refine Rr (Av0 2 7 [(6,.sl 2 (l.map mkc))] (lnm l mkc) (Fn0 [0,1,7] [(8,.i 0)] (Bl (h_l (fun(k:Nat)=>([(0,.sl 2 (l.map mkc)),(1,.fn (.func 133) [.pat [pth p]]),(7,.i l.length),(8,.i k)]:Fr)) (fun(k:Nat)=>([]:Hp)) (fun(k:Nat) cn=>(k<=l.length/\idxM p 0 l=idxM p k (l.drop k))/\cn=0) (fun(k:Nat)=>l.length-k) 0 kr ?_ ?_ ?_ ?_))))
 refine⟨?_,rfl⟩;exact⟨Nat.zero_le _,rfl⟩
 exact⟨kr,kr,kr,kr,trivial⟩
 exact(List.nil_sublist _)
 rintro k n1 hI
 (try dsimp only at hI)
 obtain⟨⟨hi1,hi2⟩,rfl⟩:=hI
 refine Rr (Fn1 [0,1,7,8] [(9,.bool (decide ((k:Int)<(l.length:Int))))] (Ki/\·) ⟨rfl,Sq fun K5 hK5=>?_⟩)
 refine Cc (decide ((k:Int)<(l.length:Int))) (fun hc6 c6=>?_) fun hc6 c6=>?_
 refine Sk (Jn (hK5 (Kp [0,1,7,8] (Sq fun K7 hK7=>?_))))
 refine Bl (Rr (Fn0 [0,1,7,8] [(5,.i k)] ?_))
 have hgm:=hl _ (getD_mem l k default om);have hgl:=wS_len (l.getD k default).path
 refine Rr (Av1 4 14 [(13,.i k),(12,.sl 2 (l.map mkc)),(11,.fn (.func 133) [.pat [pth p]])] (congrArg AV.pat (mg_mk l k om)) ((2=2/\(0:Int)<=(k:Int)/\(k:Int)<((l.map mkc).length:Int))/\·) ⟨⟨rfl,om,lmo⟩,Pc1 2 [(15,.agg (mkc (l.getD k default)))] 16 (2<=2/\0<2) dc (mk1_ok (l.getD k default) p om om) (Cn0 ((l.getD k default).path==p) [0,1,5,7,8] [] ⟨fun hc10 c10=>?_,fun hc10 c10=>?_⟩)⟩)
 refine Rr (Fn0 [] [(4,.i k)] (Rt (.i k) (fin_lea ?_)))
 rw[hi2,idxM_hit om hc10];exact lea_refl _
 refine Sk (Bn (Jn (hK7 (Kp [0,1,7,8] (Rn (Av1 1 18 [] (cI (wn1 k om)) (Ki/\·) ⟨rfl,Gn0 [(8,.i ((k+1:Nat):Int))] (nk_n ?_)⟩))))))
 refine Lr (k+1) [] 0 [(0,.sl 2 (l.map mkc)),(1,.fn (.func 133) [.pat [pth p]]),(7,.i l.length),(8,.i ((k+1:Nat):Int))] [] [] ?_ ?_ kr kr
 (try dsimp only);omega
 refine⟨?_,rfl⟩;(try dsimp only);exact⟨om,by rw[hi2,idxM_miss om hc10]⟩
 refine Xt (Jx (Lx (Bh (Jn (hK2 (Kp [] (Rr (Fn0 [] [(4,.i (-1))] (Rt (.i (-1)) (fin_lea ?_))))))))))
 rw[hi2,idxM_end om];exact lea_refl _
theorem conM_ok (l:List Mk) (p:List Str) (hl:∀m∈l,wS m.path<2^40) (hn:l.length<2^21) (hp:p.length<2^40):PE G 132 [.sl 2 (l.map mkc),.fn (.func 133) [.pat [pth p]]] (.bool (l.any fun m=>m.path==p)):=by
 refine Pe Tryz.func132 ?_
 refine Rr (Fn0 [0,1] [] (Rr (Pc0 3 [(6,.fn (.func 133) [.pat [pth p]]),(5,.sl 2 (l.map mkc))] 7 (idxM_ok l p hl om om) (Fn1 [] [(4,.bool (decide ((0:Int)<=(idxM p 0 l:Int))))] (Ki/\·) ⟨rfl,?_⟩))))
 refine Rt (.bool (decide ((0:Int)<=(idxM p 0 l:Int)))) (fin_lea ?_)
 rw[idxM_any p l 0];exact lea_refl _
theorem marked_ok (l:List Mk) (p:List Str) (hl:∀m∈l,wS m.path<2^40) (hn:l.length<2^21) (hp:wS p<2^40):PE G 99 [.sl 2 (l.map mkc),pth p] (.bool (mrkM l p)):=by
 have hpl:=wS_len p
 refine Pe Tryz.func99 ?_
 refine Rr (Fn2 [0] [(3,.ptr 0 0)] ([(0,[pth p])]++·) 4 (Rr (Pc1 3 [(6,pth p),(5,.sl 2 (l.map mkc))] 7 (0+1<=1/\0<1) dc (under_ok l p hl om om) (An0 1 [(8,.bool (undM l p))] ?_))))
 refine Rg (fun hg3 g3=>?_) (fun hg3 g3=>?_)
 refine Fn0 [] [(4,.bool true)] (Rt (.bool true) (fin_lea ?_))
 have hr:mrkM l p=(true):=by unfold mrkM;simp only[hg3,Bool.true_or,Bool.false_or]
 rw[hr];exact lea_refl _
 refine Bc0 3 [(10,.fn (.func 133) [.ptr 0 0]),(9,.sl 2 (l.map mkc))] 132 [.sl 2 (l.map mkc),.fn (.func 133) [.ptr 0 0]] 11 ?_
 refine Tz 0 1 1 ([[pth p]]) ([pth p]) [.sl 2 (l.map mkc),.fn (.func 133) [.pat [pth p]]] [] [] kr (by first|decide|simp) ?_
 refine PE.use (conM_ok l p hl om om) ?_
 refine Ke (Fn0 [] [(4,.bool (l.any fun m=>m.path==p))] (Rt (.bool (l.any fun m=>m.path==p)) (fin_lea ?_)))
 have hr:mrkM l p=((l.any fun m=>m.path==p)):=by unfold mrkM;simp only[hg3,Bool.true_or,Bool.false_or]
 rw[hr];exact lea_refl _
theorem TrailOk_ok (l:List Mk) (hl:∀m∈l,wS m.path<2^40) (hn:l.length<2^21):PE G 59 [.sl 2 (l.map mkc)] (.bool (trOk l)):=by
 refine Pe Tryz.func59 ?_
 refine Rr (Fn0 [0] [] (Sq fun K2 hK2=>?_))
 refine Rr (Av0 2 6 [(5,.sl 2 (l.map mkc))] (lnm l mkc) (Fn0 [0,5,6] [(7,.i 0)] (Bl (h_l (fun(k:Nat)=>([(0,.sl 2 (l.map mkc)),(5,.sl 2 (l.map mkc)),(6,.i l.length),(7,.i k)]:Fr)) (fun(k:Nat)=>([]:Hp)) (fun(k:Nat) cn=>(k<=l.length/\(List.range k).all (stepM l)=true)/\cn=0) (fun(k:Nat)=>l.length-k) 0 kr ?_ ?_ ?_ ?_))))
 refine⟨?_,rfl⟩;exact⟨Nat.zero_le _,rfl⟩
 exact⟨kr,kr,kr,kr,trivial⟩
 exact(List.nil_sublist _)
 rintro k n1 hI
 (try dsimp only at hI)
 obtain⟨⟨hi1,hi2⟩,rfl⟩:=hI
 refine Rr (Fn1 [0,5,6,7] [(8,.bool (decide ((k:Int)<(l.length:Int))))] (Ki/\·) ⟨rfl,Sq fun K5 hK5=>?_⟩)
 refine Cc (decide ((k:Int)<(l.length:Int))) (fun hc6 c6=>?_) fun hc6 c6=>?_
 refine Sk (Jn (hK5 (Kp [0,5,6,7] (Sq fun K7 hK7=>?_))))
 refine Bl (Rr (Av1 2 10 [(9,.i k)] (congrArg AV.pat (mg_mk l k om)) ((2=2/\(0:Int)<=(k:Int)/\(k:Int)<((l.map mkc).length:Int))/\·) ⟨⟨rfl,om,lmo⟩,Fn3 [0,5,6,7] [(3,.i k),(4,.ptr 0 0)] ([(0,mkc (l.getD k default))]++·) 4 ((2<=2/\0<2)/\(true=true/\2=2/\0+2<=2)/\·) ⟨dc,dc,?_⟩⟩))
 have hgm:=hl _ (getD_mem l k default om);have hgl:=wS_len (l.getD k default).path;have hgm2:=hl _ (getD_mem l ((k:Int)-1).toNat default om);have hgl2:=wS_len (l.getD ((k:Int)-1).toNat default).path;have htk:(l.take k).length<=l.length:=by rw[List.length_take];omega
 refine Qm [0,1,3,7,15,31,63,127,127,383,1023,2047,4095,127,8319,32767,65535,131071,262143,524287,1048575,1048575,4194303,1048575,9437183,33554431,67108863] [(0,[]),(1,[]),(2,[]),(3,[]),(4,[]),(5,[]),(6,[]),(7,[]),(8,[]),(9,[]),(10,[]),(11,[]),(12,[]),(13,[]),(14,[]),(15,[]),(16,[]),(17,[]),(18,[]),(19,[]),(20,[]),(21,[]),(22,[]),(23,[]),(24,[]),(25,[]),(26,[])] 38 (!stepM l k) [0,5,6,7] ?_ ?_
 refine qBc1 2 [(12,.agg (mkc (l.getD k default)))] [] 96 [.agg (mkc (l.getD k default))] 13 ((0+2<=2/\0<2)/\·) ⟨dc,?_⟩
 refine PE.use (markOk_ok (l.getD k default) om) ?_
 refine Kq (p:=(True)) trivial ?_
 refine qAn0 2 [(15,.bool (!(mkOk (l.getD k default)))),(14,.bool (!(mkOk (l.getD k default))))] (Qg (fun hg10 g10=>?_) (fun hg10 g10=>?_))
 refine qMn0 true (by unfold stepM;first|(simp_all;done)|(rw[Bool.eq_iff_iff];simp_all;done)|(rw[Bool.eq_iff_iff];simp_all;omega)|(simp_all;omega))
 refine qAn1 3 [(18,.bool (decide ((0:Int)<((k:Int):Int)))),(17,.bool (decide ((0:Int)<((k:Int):Int)))),(16,.i k)] (Ki/\·) ⟨rfl,Qg (fun hg11 g11=>?_) (fun hg11 g11=>?_)⟩
 refine qAv1 (r:=.i (IntKind.i64.wrap ((k:Int)-1))) (v:=.i ((k:Int)-1)) 3 21 [(20,.i k),(19,.sl 2 (l.map mkc))] (cI (wrap64 om om)) (Ki/\·) ⟨rfl,qAv1 1 22 [] (congrArg AV.pat (mg_mk l (((k:Int)-1).toNat) om)) ((2=2/\(0:Int)<=((k:Int)-1)/\((k:Int)-1)<((l.map mkc).length:Int))/\·) ⟨⟨rfl,om,lmo⟩,qBc1 5 [(26,pth ((l.getD k default).path)),(25,.ptr 0 0),(24,pth ((l.getD (((k:Int)-1).toNat) default).path)),(23,.pat (mkc (l.getD (((k:Int)-1).toNat) default)))] [] 87 [pth ((l.getD (((k:Int)-1).toNat) default).path),pth ((l.getD k default).path)] 27 (((1:Nat)≠0)/\(1<=2/\0<2)/\((1:Nat)≠0)/\(0+1<=2/\0<2)/\·) ⟨dc,dc,dc,dc,PE.use (cmpP_ok ((l.getD (((k:Int)-1).toNat) default).path) ((l.getD k default).path) om om) (Kq (p:=(True)) trivial ?_)⟩⟩⟩
 refine qAn1 4 [(31,.bool (decide ((0:Int)<=(cmpP ((l.getD (((k:Int)-1).toNat) default).path) ((l.getD k default).path):Int)))),(30,.bool (decide ((0:Int)<=(cmpP ((l.getD (((k:Int)-1).toNat) default).path) ((l.getD k default).path):Int)))),(29,.bool (decide ((0:Int)<=(cmpP ((l.getD (((k:Int)-1).toNat) default).path) ((l.getD k default).path):Int)))),(28,.bool (decide ((0:Int)<=(cmpP ((l.getD (((k:Int)-1).toNat) default).path) ((l.getD k default).path):Int))))] (Ki/\·) ⟨rfl,Qg (fun hg12 g12=>?_) (fun hg12 g12=>?_)⟩
 refine qMn0 true (by unfold stepM;first|(simp_all;done)|(rw[Bool.eq_iff_iff];simp_all;done)|(rw[Bool.eq_iff_iff];simp_all;omega)|(simp_all;omega))
 refine qAv1 (r:=.sl 2 (((l.map mkc).take k).drop 0)) (v:=.sl 2 ((l.take k).map mkc)) 3 34 [(33,.i k),(32,.sl 2 (l.map mkc))] (congrArg (AV.sl 2) (slm_0 _ _ _)) ((2=2/\0<=(0:Int)/\(0:Int)<=(k:Int)/\(k:Int)<=((l.map mkc).length:Int))/\·) ⟨⟨rfl,om,by(try rw[List.length_map]);omega,lmo⟩,qBc1 3 [(36,pth ((l.getD k default).path)),(35,.ptr 0 0)] [] 97 [.sl 2 ((l.take k).map mkc),pth ((l.getD k default).path)] 37 (((1:Nat)≠0)/\(0+1<=2/\0<2)/\·) ⟨dc,dc,PE.use (under_ok (l.take k) ((l.getD k default).path) (fun m hm=>hl m (List.mem_of_mem_take hm)) om om) (Kq (p:=(True)) trivial (qMn0 (undM (l.take k) ((l.getD k default).path)) (by unfold stepM;first|(simp_all;done)|(rw[Bool.eq_iff_iff];simp_all;done)|(rw[Bool.eq_iff_iff];simp_all;omega)|(simp_all;omega))))⟩⟩
 refine qAv1 (r:=.sl 2 (((l.map mkc).take k).drop 0)) (v:=.sl 2 ((l.take k).map mkc)) 16 34 [(33,.i k),(32,.sl 2 (l.map mkc)),(31,.bool false),(30,.bool false),(29,.bool false),(28,.tup []),(27,.tup []),(26,.tup []),(25,.tup []),(24,.tup []),(23,.tup []),(22,.tup []),(21,.tup []),(20,.tup []),(19,.tup [])] (congrArg (AV.sl 2) (slm_0 _ _ _)) ((2=2/\0<=(0:Int)/\(0:Int)<=(k:Int)/\(k:Int)<=((l.map mkc).length:Int))/\·) ⟨⟨rfl,om,by(try rw[List.length_map]);omega,lmo⟩,qBc1 3 [(36,pth ((l.getD k default).path)),(35,.ptr 0 0)] [] 97 [.sl 2 ((l.take k).map mkc),pth ((l.getD k default).path)] 37 (((1:Nat)≠0)/\(0+1<=2/\0<2)/\·) ⟨dc,dc,PE.use (under_ok (l.take k) ((l.getD k default).path) (fun m hm=>hl m (List.mem_of_mem_take hm)) om om) (Kq (p:=(True)) trivial (qMn0 (undM (l.take k) ((l.getD k default).path)) (by unfold stepM;first|(simp_all;done)|(rw[Bool.eq_iff_iff];simp_all;done)|(rw[Bool.eq_iff_iff];simp_all;omega)|(simp_all;omega))))⟩⟩
 refine Cc (!stepM l k) (fun hc13 c13=>?_) fun hc13 c13=>?_
 refine Rr (Fn0 [] [(2,.bool false)] (Rt (.bool false) (fin_lea ?_)))
 rw[show trOk l=false by unfold trOk;rw[Bool.and_eq_false_iff];left;rw[List.all_eq_false];exact⟨k,List.mem_range.2 om,by simpa using c13⟩];exact lea_refl _
 refine Sk (Bn (Jn (hK7 (Kp [0,5,6,7] (Rn (Av1 1 39 [] (cI (wn1 k om)) (Ki/\·) ⟨rfl,Gn0 [(7,.i ((k+1:Nat):Int))] (nk_n ?_)⟩))))))
 refine Lr (k+1) [] 0 [(0,.sl 2 (l.map mkc)),(5,.sl 2 (l.map mkc)),(6,.i l.length),(7,.i ((k+1:Nat):Int))] [] [] ?_ ?_ kr kr
 (try dsimp only);omega
 refine⟨?_,rfl⟩;(try dsimp only);exact⟨om,by rw[List.range_succ,List.all_append,hi2];simpa using c13⟩
 refine Xt (Jx (Lx (Bh (Jn (hK2 (Kp [0] (Rr (Av0 2 41 [(40,.sl 2 (l.map mkc))] (lnm l mkc) (Fn1 [] [(2,.bool (decide ((l.length:Int)<=6)))] (Ki/\·) ⟨rfl,Rt (.bool (decide ((l.length:Int)<=6))) ?_⟩)))))))))
 refine fin_lea ?_
 obtain rfl:k=l.length:=by omega
 rw[show trOk l=decide ((l.length:Int)<=6) by unfold trOk;rw[hi2,Bool.true_and];exact decide_eq_decide.2 ⟨fun h=>by omega,fun h=>by omega⟩];exact lea_refl _
theorem getD_mid {α:Type} [Inhabited α] (A:List α) (x:α) (R:List α):(A++x::R).getD A.length default=x:=by simp[List.getD]
theorem getD_left {α:Type} [Inhabited α] (A:List α) (x:α) (R:List α) {i:Nat} (h:i<A.length):(A++x::R).getD i default=A.getD i default:=by simp[List.getD,List.getElem?_append_left h]
theorem split_last {α:Type} [Inhabited α] {A:List α} (h:0<A.length):A=A.dropLast++[A.getD (A.length-1) default]:=by
 have hne:A≠[]:=fun e=>by rw[e]at h;simp at h
 have:=List.dropLast_concat_getLast hne
 rw[List.getLast_eq_getElem]at this
 rw[show A.getD (A.length-1) default=A[A.length-1]'(by omega) by simp[List.getD,show A.length-1<A.length by omega]]
 exact this.symm
theorem swapM {α:Type} [Inhabited α] {A:List α} {x:α} {R:List α} (h:0<A.length):((A++x::R).set A.length ((A++x::R).getD (A.length-1) default)).set (A.length-1) ((A++x::R).getD A.length default)=A.dropLast++x::(A.getD (A.length-1) default::R):=by
 rw[getD_mid,getD_left A x R (show A.length-1<A.length by omega)]
 generalize hy:A.getD (A.length-1) default=y
 have e:=split_last h
 rw[hy]at e
 have hl:A.dropLast.length=A.length-1:=List.length_dropLast
 generalize A.dropLast=B at e hl⊢
 subst e
 simp only[List.length_append,List.length_singleton,Nat.add_sub_cancel]at*
 simp[List.set_append]
theorem le_last {A:List Mk} {x:Mk} (h:A.Pairwise leM) (hA:0<A.length) (hx:leM (A.getD (A.length-1) default) x):∀a∈A,leM a x:=by
 intro a ha
 obtain⟨i,hi,rfl⟩:=List.mem_iff_getElem.1 ha
 rcases Nat.lt_or_ge i (A.length-1)with h1|h1
 ·have:=getD_pw h h1 (by omega)
  rw[show A.getD i default=A[i] by simp[List.getD,hi]]at this
  exact leM_trans this hx
 ·rw[show A.getD (A.length-1) default=A[i] by rw[show A.length-1=i by omega];simp[List.getD,hi]]at hx
  exact hx
theorem sorted_ins {A B:List Mk} {x:Mk} (hA:A.Pairwise leM) (hB:B.Pairwise leM) (hAB:∀a∈A,∀b∈B,leM a b) (hxB:∀b∈B,leM x b) (hAx:∀a∈A,leM a x):(A++x::B).Pairwise leM:=by
 rw[List.pairwise_append]
 refine⟨hA,List.pairwise_cons.2 ⟨hxB,hB⟩,fun a ha b hb=>?_⟩
 rcases List.mem_cons.1 hb with rfl|hb
 ·exact hAx a ha
 ·exact hAB a ha b hb
theorem oqs_flM (i l:Nat) (ds:List AV):∀X:List Mk,oqs i 1 l ds->oqs i 1 l (fl mkc X++ds)
 |[],h=>h
 |m::X,h=>by
  have:=oqs_flM i l ds X h
  simp only[fl,List.map_cons,List.flatten_cons,List.cons_append,List.nil_append,oqs,oq_pth,oq,true_and,mkc]at this⊢
  exact this
theorem fqs_flM (i:Nat) (es:List (List AV)) (cs ds:List AV):∀X:List Mk,fqs i 1 es cs (fl mkc X++ds)=fl mkc X++fqs i 1 es cs ds
 |[]=>rfl
 |m::X=>by
  have:=fqs_flM i es cs ds X
  simp only[fl,List.map_cons,List.flatten_cons,List.cons_append,List.nil_append,fqs,fq,mkc,pth]at this⊢
  rw[this]
theorem FzM {np:Nat} {G:Prg} {c:Code} {F:Fr} {H:Hp} {n:Nat} {Q:Post} (i j:Nat) (X:List Mk) (p:List Str) (b:Bool) (F1:Fr) (H1:Hp) (m:List Bool) (h:TT np G.P c (fqF i 1 (p.map fun s=>[AV.str s]) (fl sc p) F1) ((j,fl mkc (X++[⟨p,b⟩]))::fqH i 1 (p.map fun s=>[AV.str s]) (fl sc p) m H1) n Q)
  (hF:oqF i 1 p.length F1:=by simp only[oqF,oq,oqs,go_sem,and_self,reduceIte,Nat.reduceEqDiff]) (hH:oqR i 1 p.length m H1:=by simp only[oqR,oqs,oq,go_sem,and_self,reduceIte,Nat.reduceEqDiff]) (hj:(j==i)=false:=by kernel_rfl)
  (h5:(selH (j::i::H1.map (·.1)) H).map Prod.fst=some ((j,fl mkc X++[.osl i 1 0 p.length,.bool b])::(i,fl sc p)::H1):=by kernel_rfl) (h4:keepF (F1.map (·.1)) F=F1:=by kernel_rfl):TT np G.P c F H n Q:=by
 cases hs5:selH (j::i::H1.map (·.1)) H with
 |none=>rw[hs5]at h5;cases h5
 |some q=>
  obtain⟨a,r⟩:=q
  rw[hs5]at h5
  simp only[Option.map_some,Option.some.injEq]at h5
  subst h5
  refine h_pm (selH_perm hs5) (TT_weak (F':=F1) (h4▸keepF_sub F _) (List.sublist_append_left _ _) (TT_fz i (cs:=fl sc p) (by simp only[hgt,hj,cond_false,beq_self_eq_true,cond_true]) ?_))
  rw[show hdel ((j,fl mkc X++[.osl i 1 0 p.length,.bool b])::(i,fl sc p)::H1) i=(j,fl mkc X++[.osl i 1 0 p.length,.bool b])::H1 by simp only[hdel,hj,cond_false,beq_self_eq_true,cond_true]]
  rw[fqF_eq (chkS p) (flS_le p) F1 hF,fqR_eq (chkS p) (flS_le p) (H':=(j,fl mkc (X++[⟨p,b⟩]))::fqH i 1 (p.map fun s=>[AV.str s]) (fl sc p) m H1)]
  ·exact h
  ·refine⟨rfl,.inr ⟨oqs_flM i _ _ X (by simp only[oqs,oq,and_self,if_true]),?_⟩,fqR_of m H1 hH⟩
   rw[fqs_flM,fl_app,fl_one]
   simp only[fqs,fq,Nat.beq_refl,cond_true,mkc,pth]
open Go Go.Proofs
set_option maxRecDepth 100000
theorem add1_ok (a b:Mk) (ha:a.path.length<2^40) (hb:b.path.length<2^40):PE G 101 [.agg (mkc a),.agg (mkc b)] (.i (cmpP a.path b.path)):=by
 refine Pe Tryz.func101 ?_
 refine Rr (Fn2 [] [(3,.ptr 4 0),(2,.ptr 0 0)] ([(4,mkc b),(0,mkc a)]++·) 8 (Rr (Bc1 5 [(8,pth b.path),(7,.ptr 4 0),(6,pth a.path),(5,.ptr 0 0)] 87 [pth a.path,pth b.path] 9 (((1:Nat)≠0)/\(0+1<=2/\0<2)/\((1:Nat)≠0)/\(0+1<=2/\0<2)/\·) ⟨dc,dc,dc,dc,PE.use (cmpP_ok a.path b.path om om) ?_⟩)))
 refine Ke (Fn0 [] [(4,.i (cmpP a.path b.path))] (Rt (.i (cmpP a.path b.path)) ?_))
 exact fin_lea (lea_refl _)
theorem isort_ok (X:List Mk) (hl:∀m∈X,wS m.path<2^40) (hn:X.length<2^20):XC G 157 (fun i=>.osl i 2 0 X.length) [.i 0,.i X.length,.fn (.func 101) []] (fl mkc X) (fun r cs=>r=.tup []/\∃Y,cs=fl mkc Y/\Y.Perm X/\Y.Pairwise leM):=by
 refine h_xc (F:=[(0,.osl 0 2 0 X.length),(1,.i 0),(2,.i X.length),(3,.fn (.func 101) [])]) (by simp only[go_sem]) (by simp only[go_sem]) Tryz.func157 kr kr ?_ kr
 refine Rr (Fn1 [0,1,2,3] [(8,.i 1)] (Ki/\·) ⟨rfl,Bl (h_l (fun(z:Nat×List Mk)=>(match z with|(i,Y)=>([(0,.osl 0 2 0 X.length),(1,.i 0),(2,.i X.length),(3,.fn (.func 101) []),(8,.i i)]:Fr))) (fun(z:Nat×List Mk)=>(match z with|(i,Y)=>([(0,fl mkc Y)]:Hp))) (fun(z:Nat×List Mk) cn=>(match z with|(i,Y)=>(1<=i/\(i<=X.length\/i=1)/\Y.length=X.length/\Y.Perm X/\(Y.take i).Pairwise leM)/\cn=4)) (fun(z:Nat×List Mk)=>X.length+1-z.1) (1,X) kr ?_ ?_ ?_ ?_)⟩)
 refine⟨?_,rfl⟩;refine⟨Nat.le_refl _,om,rfl,List.Perm.refl _,?_⟩;cases X<;>simp[List.take]
 exact⟨kr,kr,kr,kr,kr,trivial⟩
 exact(sub_c kr (List.nil_sublist _))
 rintro⟨i,Y⟩ n1 hI
 (try dsimp only at hI)
 obtain⟨⟨hi1,hi2,hi3,hp1,hs1⟩,rfl⟩:=hI
 refine Sq fun K2 hK2=>?_
 refine Rr (Cn1 (decide ((i:Int)<(X.length:Int))) [0,1,2,3,8] [] (Ki/\·) ⟨rfl,fun hc4 c4=>?_,fun hc4 c4=>?_⟩)
 refine Sk (Jn (hK2 (Kp [0,1,2,3,8] (Sq fun K5 hK5=>?_))))
 refine Bl (Rr (Fn0 [0,1,2,3,8] [(9,.i i)] (Bl (h_l (fun(z:List Mk×Mk×List Mk)=>(match z with|(A,x,B)=>([(0,.osl 0 2 0 X.length),(1,.i 0),(2,.i X.length),(3,.fn (.func 101) []),(8,.i i),(9,.i A.length)]:Fr))) (fun(z:List Mk×Mk×List Mk)=>(match z with|(A,x,B)=>([(0,fl mkc (A++x::(B++Y.drop (i+1))))]:Hp))) (fun(z:List Mk×Mk×List Mk) cn=>(match z with|(A,x,B)=>(A.length+B.length=i/\A.Pairwise leM/\B.Pairwise leM/\(∀a∈A,∀b∈B,leM a b)/\(∀b∈B,leM x b)/\(A++x::(B++Y.drop (i+1))).Perm X)/\cn=4)) (fun(z:List Mk×Mk×List Mk)=>z.1.length) (Y.take i,Y.getD i default,[]) kr ?_ ?_ ?_ ?_))))
 refine⟨?_,rfl⟩;refine⟨by rw[List.length_take,List.length_nil];omega,hs1,List.Pairwise.nil,by simp,by simp,?_⟩
 rw[List.nil_append,<-get_split Y i om default];exact hp1
 exact⟨kr,kr,kr,kr,kr,(by show AV.int .i64 _=AV.int .i64 _;rw[List.length_take,Nat.min_eq_left om]),trivial⟩
 exact(sub_c (by rw[List.nil_append,<-get_split Y i om default]) (List.nil_sublist _))
 rintro⟨A,x,B⟩ n1 hI
 (try dsimp only at hI)
 obtain⟨⟨hAl,hA1,hB1,hAB,hxB,hp2⟩,rfl⟩:=hI
 have hlen:=hp2.length_eq
 simp only[List.length_append,List.length_cons,List.length_drop]at hlen
 have hbd:∀q,q<(A++x::(B++Y.drop (i+1))).length->((A++x::(B++Y.drop (i+1))).getD q default).path.length<2^40:=fun q hq=>Nat.lt_of_le_of_lt (wS_len _) (hl _ (hp2.mem_iff.1 (getD_mem _ q default hq)))
 have hLl:(A++x::(B++Y.drop (i+1))).length=A.length+1+(B.length+(Y.length-(i+1))):=by simp only[List.length_append,List.length_cons,List.length_drop];omega
 refine Sq fun K7 hK7=>?_
 refine Qm [0,0,3,7,15,15,15,111,239,15,15,1039,3599,7695,16383,32767,65535] [(0,[]),(1,[]),(2,[]),(3,[]),(4,[]),(5,[]),(6,[]),(7,[]),(8,[]),(9,[]),(10,[]),(11,[]),(12,[]),(13,[]),(14,[]),(15,[]),(16,[])] 34 ((decide ((0:Int)<((A.length:Int):Int)))&&(decide ((cmpP ((A++x::(B++Y.drop (i+1))).getD A.length default).path ((A++x::(B++Y.drop (i+1))).getD (((A.length:Int)-1).toNat) default).path:Int)<(0:Int)))) [0,1,2,3,8,9] ?_ ?_
 refine qAn1 4 [(21,.bool (decide ((0:Int)<((A.length:Int):Int)))),(20,.bool (decide ((0:Int)<((A.length:Int):Int)))),(19,.i 0),(18,.i A.length)] (Ki/\·) ⟨rfl,Qg (fun hg9 g9=>?_) (fun hg9 g9=>?_)⟩
 refine qAv1 (r:=.agg (((fl mkc (A++x::(B++Y.drop (i+1)))).drop (0+A.length*2)).take 2)) (v:=.agg (mkc ((A++x::(B++Y.drop (i+1))).getD A.length default))) 5 26 [(25,.ptr 0 (0+A.length*2)),(24,.i A.length),(23,.osl 0 2 0 X.length),(22,.fn (.func 101) [])] (congrArg AV.agg (rowM_get (A++x::(B++Y.drop (i+1))) A.length om)) ((2=2/\(0:Int)<=(A.length:Int)/\(A.length:Int)<(X.length:Int))/\(0+A.length*2+2<=(fl mkc (A++x::(B++Y.drop (i+1)))).length/\0+A.length*2<(fl mkc (A++x::(B++Y.drop (i+1)))).length)/\·) ⟨⟨rfl,om,om⟩,⟨by rw[flMl];omega,by rw[flMl];omega⟩,qAv1 (r:=.i (IntKind.i64.wrap ((A.length:Int)-1))) (v:=.i ((A.length:Int)-1)) 3 29 [(28,.i A.length),(27,.osl 0 2 0 X.length)] (cI (wrap64 om om)) (Ki/\·) ⟨rfl,qAv1 (r:=.agg (((fl mkc (A++x::(B++Y.drop (i+1)))).drop (0+(((A.length:Int)-1).toNat)*2)).take 2)) (v:=.agg (mkc ((A++x::(B++Y.drop (i+1))).getD (((A.length:Int)-1).toNat) default))) 2 31 [(30,.ptr 0 (0+(((A.length:Int)-1).toNat)*2))] (congrArg AV.agg (rowM_get (A++x::(B++Y.drop (i+1))) (((A.length:Int)-1).toNat) om)) ((2=2/\(0:Int)<=((A.length:Int)-1)/\((A.length:Int)-1)<(X.length:Int))/\(0+(((A.length:Int)-1).toNat)*2+2<=(fl mkc (A++x::(B++Y.drop (i+1)))).length/\0+(((A.length:Int)-1).toNat)*2<(fl mkc (A++x::(B++Y.drop (i+1)))).length)/\·) ⟨⟨rfl,om,om⟩,⟨by rw[flMl];omega,by rw[flMl];omega⟩,qBc0 1 [] [] 101 [.agg (mkc ((A++x::(B++Y.drop (i+1))).getD A.length default)),.agg (mkc ((A++x::(B++Y.drop (i+1))).getD (((A.length:Int)-1).toNat) default))] 32 (PE.use (add1_ok ((A++x::(B++Y.drop (i+1))).getD A.length default) ((A++x::(B++Y.drop (i+1))).getD (((A.length:Int)-1).toNat) default) (hbd _ om) (hbd _ om)) ?_)⟩⟩⟩
 refine Kq (p:=(True)) trivial ?_
 refine qMn1 (decide ((cmpP ((A++x::(B++Y.drop (i+1))).getD A.length default).path ((A++x::(B++Y.drop (i+1))).getD (((A.length:Int)-1).toNat) default).path:Int)<(0:Int))) (Ki/\·) ⟨rfl,(by rw[hg9];rfl)⟩
 refine qMn0 false (by rw[hg9];rfl)
 refine Cc ((decide ((0:Int)<((A.length:Int):Int)))&&(decide ((cmpP ((A++x::(B++Y.drop (i+1))).getD A.length default).path ((A++x::(B++Y.drop (i+1))).getD (((A.length:Int)-1).toNat) default).path:Int)<(0:Int)))) (fun hc10 c10=>?_) fun hc10 c10=>?_
 refine Sk (Jn (hK7 (Kp [0,1,2,3,8,9] (Sq fun K11 hK11=>?_))))
 refine Bl (Qb [0,0,0,0,8,0,0,64,224,480,0,0,3072,7168,16355,32739,65535,131071] [(0,[]),(1,[]),(2,[]),(3,[]),(4,[]),(5,[]),(6,[]),(7,[]),(8,[]),(9,[]),(10,[]),(11,[]),(12,[]),(13,[]),(14,[]),(15,[]),(16,[]),(17,[])] (fun h=>Bn (Jn (hK11 h))) (qAv1 (r:=.i (IntKind.i64.wrap ((A.length:Int)-1))) (v:=.i ((A.length:Int)-1)) 5 41 [(40,.i A.length),(39,.osl 0 2 0 X.length),(38,.i A.length),(37,.osl 0 2 0 X.length)] (cI (wrap64 om om)) (Ki/\·) ⟨rfl,qAv1 (r:=.i (IntKind.i64.wrap ((A.length:Int)-1))) (v:=.i ((A.length:Int)-1)) 3 44 [(43,.i A.length),(42,.osl 0 2 0 X.length)] (cI (wrap64 om om)) (Ki/\·) ⟨rfl,qAv1 (r:=.agg (((fl mkc (A++x::(B++Y.drop (i+1)))).drop (0+(((A.length:Int)-1).toNat)*2)).take 2)) (v:=.agg (mkc ((A++x::(B++Y.drop (i+1))).getD (((A.length:Int)-1).toNat) default))) 2 46 [(45,.ptr 0 (0+(((A.length:Int)-1).toNat)*2))] (congrArg AV.agg (rowM_get (A++x::(B++Y.drop (i+1))) (((A.length:Int)-1).toNat) om)) ((2=2/\(0:Int)<=((A.length:Int)-1)/\((A.length:Int)-1)<(X.length:Int))/\(0+(((A.length:Int)-1).toNat)*2+2<=(fl mkc (A++x::(B++Y.drop (i+1)))).length/\0+(((A.length:Int)-1).toNat)*2<(fl mkc (A++x::(B++Y.drop (i+1)))).length)/\·) ⟨⟨rfl,om,om⟩,⟨by rw[flMl];omega,by rw[flMl];omega⟩,?_⟩⟩⟩))
 refine qAv1 (r:=.agg (((fl mkc (A++x::(B++Y.drop (i+1)))).drop (0+A.length*2)).take 2)) (v:=.agg (mkc ((A++x::(B++Y.drop (i+1))).getD A.length default))) 4 50 [(49,.ptr 0 (0+A.length*2)),(48,.i A.length),(47,.osl 0 2 0 X.length)] (congrArg AV.agg (rowM_get (A++x::(B++Y.drop (i+1))) A.length om)) ((2=2/\(0:Int)<=(A.length:Int)/\(A.length:Int)<(X.length:Int))/\(0+A.length*2+2<=(fl mkc (A++x::(B++Y.drop (i+1)))).length/\0+A.length*2<(fl mkc (A++x::(B++Y.drop (i+1)))).length)/\·) ⟨⟨rfl,om,om⟩,⟨by rw[flMl];omega,by rw[flMl];omega⟩,qAn3 2 [(51,.ptr 0 (0+A.length*2))] (fun _=>[(0,(fl mkc (A++x::(B++Y.drop (i+1)))).take (0+A.length*2)++mkc ((A++x::(B++Y.drop (i+1))).getD (((A.length:Int)-1).toNat) default)++(fl mkc (A++x::(B++Y.drop (i+1)))).drop (0+A.length*2+2))]) 4 ((2=2/\(0:Int)<=(A.length:Int)/\(A.length:Int)<(X.length:Int))/\(true=true/\2=2/\0+A.length*2+2<=(fl mkc (A++x::(B++Y.drop (i+1)))).length)/\(True)/\·) ⟨⟨rfl,om,om⟩,⟨rfl,rfl,(by(try simp only[flMl,flTl,flSl,ints_len,List.length_set]);omega)⟩,trivial,runq_H (H':=[(0,fl mkc ((A++x::(B++Y.drop (i+1))).set A.length ((A++x::(B++Y.drop (i+1))).getD (((A.length:Int)-1).toNat) default)))]) (by rw[rowM_set (A++x::(B++Y.drop (i+1))) A.length ((A++x::(B++Y.drop (i+1))).getD (((A.length:Int)-1).toNat) default) (by first|omega|(rw[List.length_set];omega)|(simp only[List.length_append,List.length_replicate,List.length_take];omega))]) (qAn3 2 [(52,.ptr 0 (0+(((A.length:Int)-1).toNat)*2))] (fun _=>[(0,(fl mkc ((A++x::(B++Y.drop (i+1))).set A.length ((A++x::(B++Y.drop (i+1))).getD (((A.length:Int)-1).toNat) default))).take (0+(((A.length:Int)-1).toNat)*2)++mkc ((A++x::(B++Y.drop (i+1))).getD A.length default)++(fl mkc ((A++x::(B++Y.drop (i+1))).set A.length ((A++x::(B++Y.drop (i+1))).getD (((A.length:Int)-1).toNat) default))).drop (0+(((A.length:Int)-1).toNat)*2+2))]) 4 (fun Z=>(2=2/\(0:Int)<=((A.length:Int)-1)/\((A.length:Int)-1)<(X.length:Int))/\(true=true/\2=2/\0+(((A.length:Int)-1).toNat)*2+2<=(fl mkc ((A++x::(B++Y.drop (i+1))).set A.length ((A++x::(B++Y.drop (i+1))).getD (((A.length:Int)-1).toNat) default))).length)/\(True)/\Z) ⟨⟨rfl,om,om⟩,⟨rfl,rfl,(by(try simp only[flMl,flTl,flSl,ints_len,List.length_set]);omega)⟩,trivial,runq_H (H':=[(0,fl mkc (((A++x::(B++Y.drop (i+1))).set A.length ((A++x::(B++Y.drop (i+1))).getD (((A.length:Int)-1).toNat) default)).set (((A.length:Int)-1).toNat) ((A++x::(B++Y.drop (i+1))).getD A.length default)))]) (by rw[rowM_set ((A++x::(B++Y.drop (i+1))).set A.length ((A++x::(B++Y.drop (i+1))).getD (((A.length:Int)-1).toNat) default)) (((A.length:Int)-1).toNat) ((A++x::(B++Y.drop (i+1))).getD A.length default) (by first|omega|(rw[List.length_set];omega)|(simp only[List.length_append,List.length_replicate,List.length_take];omega))]) ?_⟩)⟩⟩
 refine qFn0 [0,1,2,3,8,9] [] (Rn (Av1 (r:=.i (IntKind.i64.wrap ((A.length:Int)-1))) (v:=.i ((A.length:Int)-1)) 2 36 [(35,.i A.length)] (cI (wrap64 om om)) (Ki/\·) ⟨rfl,Gn0 [(9,.i ((A.length:Int)-1))] (nk_n ?_)⟩))
 obtain⟨hA0,hcx⟩:0<A.length/\cmpP x.path (A.getD (A.length-1) default).path<0:=by
   have h:=c10
   rw[show((A.length:Int)-1).toNat=A.length-1 by omega]at h
   have hA:0<A.length:=by simp at h;omega
   rw[getD_mid,getD_left A x _ om]at h
   exact⟨hA,by simpa[hA]using h⟩
 have hmem:A.getD (A.length-1) default∈A:=getD_mem A _ default om
 have hsp:=split_last hA0
 have hdl:A.dropLast.length=A.length-1:=List.length_dropLast
 refine Lr (A.dropLast,x,A.getD (A.length-1) default::B) [(0,0)] 4 [(0,.osl 0 2 0 X.length),(1,.i 0),(2,.i X.length),(3,.fn (.func 101) []),(8,.i i),(9,.i ((A.length:Int)-1))] [(0,fl mkc (((A++x::(B++Y.drop (i+1))).set A.length ((A++x::(B++Y.drop (i+1))).getD (((A.length:Int)-1).toNat) default)).set (((A.length:Int)-1).toNat) ((A++x::(B++Y.drop (i+1))).getD A.length default)))] [false] ?_ ?_ (by(try ((try dsimp only);rw[show((A.length:Int)-1).toNat=A.length-1 by omega];rw[swapM hA0]));try kernel_rfl) (by(try ((try dsimp only);rw[hdl];rw[show((A.length-1:Nat):Int)=(A.length:Int)-1 by omega]));try kernel_rfl)
 (try dsimp only);omega
 refine⟨?_,rfl⟩;(try dsimp only)
 refine⟨by simp only[List.length_cons];omega,?_,?_,?_,?_,?_⟩
 · rw[hsp]at hA1;exact(List.pairwise_append.1 hA1).1
 · exact List.pairwise_cons.2 ⟨fun b hb=>hAB _ hmem b hb,hB1⟩
 · intro a ha b hb
   rcases List.mem_cons.1 hb with rfl|hb
   · rw[hsp]at hA1;exact(List.pairwise_append.1 hA1).2.2 a ha _ (List.mem_singleton.2 rfl)
   · exact hAB a (List.dropLast_subset A ha) b hb
 · intro b hb
   rcases List.mem_cons.1 hb with rfl|hb
   · exact Int.le_of_lt hcx
   · exact hxB b hb
 · refine List.Perm.trans ?_ hp2
   conv=>rhs;rw[hsp]
   rw[List.append_assoc]
   exact(List.Perm.swap _ _ _).append_left _
 refine Xt (Jx (Lx (Bh (Bn (Jn (hK5 (Kp [0,1,2,3,8] (Rn (Av1 2 16 [(15,.i i)] (cI (wn1 i om)) (Ki/\·) ⟨rfl,Gn0 [(8,.i ((i+1:Nat):Int))] (nk_n ?_)⟩)))))))))
 have hAx:∀a∈A,leM a x:=by
   have h:=c10
   rcases Nat.eq_zero_or_pos A.length with h0|h0
   · rw[List.eq_nil_of_length_eq_zero h0];simp
   · rw[show((A.length:Int)-1).toNat=A.length-1 by omega]at h
     rw[getD_mid,getD_left A x _ om]at h
     refine le_last hA1 h0 (leM_of ?_)
     intro hc;simp[-List.getD_eq_getElem?_getD,h0,hc]at h
 refine Lr (i+1,A++x::(B++Y.drop (i+1))) [(0,0)] 4 [(0,.osl 0 2 0 X.length),(1,.i 0),(2,.i X.length),(3,.fn (.func 101) []),(8,.i ((i+1:Nat):Int))] [(0,fl mkc (A++x::(B++Y.drop (i+1))))] [false] ?_ ?_ kr kr
 (try dsimp only);omega
 refine⟨?_,rfl⟩;(try dsimp only)
 refine⟨om,om,by rw[hLl];omega,hp2,?_⟩
 rw[show A++x::(B++Y.drop (i+1))=(A++x::B)++Y.drop (i+1) by simp,List.take_left' (by simp only[List.length_append,List.length_cons];omega)]
 exact sorted_ins hA1 hB1 hAB hxB hAx
 refine Xt (Jx (Lx (Bh (Rtn (fun Z=>Z) (.tup []) ?_))))
 exact fin_xc (fl mkc Y) (lea_refl _) (by simp only[go_sem]) (by simp only[go_sem]) kr ⟨rfl,Y,rfl,hp1,by rw[List.take_of_length_le om]at hs1;exact hs1⟩
open Go Go.Proofs
set_option maxRecDepth 100000
def l8tab:Str:=[0,1,2,2,3,3,3,3,4,4,4,4,4,4,4,4,5,5,5,5,5,5,5,5,5,5,5,5,5,5,5,5,6,6,6,6,6,6,6,6,6,6,6,6,6,6,6,6,6,6,6,6,6,6,6,6,6,6,6,6,6,6,6,6,7,7,7,7,7,7,7,7,7,7,7,7,7,7,7,7,7,7,7,7,7,7,7,7,7,7,7,7,7,7,7,7,7,7,7,7,7,7,7,7,7,7,7,7,7,7,7,7,7,7,7,7,7,7,7,7,7,7,7,7,7,7,7,7,8,8,8,8,8,8,8,8,8,8,8,8,8,8,8,8,8,8,8,8,8,8,8,8,8,8,8,8,8,8,8,8,8,8,8,8,8,8,8,8,8,8,8,8,8,8,8,8,8,8,8,8,8,8,8,8,8,8,8,8,8,8,8,8,8,8,8,8,8,8,8,8,8,8,8,8,8,8,8,8,8,8,8,8,8,8,8,8,8,8,8,8,8,8,8,8,8,8,8,8,8,8,8,8,8,8,8,8,8,8,8,8,8,8,8,8,8,8,8,8,8,8,8,8,8,8,8,8]
theorem l8len:l8tab.length=256:=by decide
theorem len64_ok (m:Nat) (hm:m<256):PC G 154 [.int .u64 (m:Int)] (fun r=>∃k:Nat,k<256/\r=.i k):=by
 have h8:=l8len
 refine h_pc (F:=[(0,.int .u64 (m:Int))]) (by simp only[go_sem]) Tryz.func154 kr kr ?_ kr
 refine Rr (Fn0 [0] [(2,.i 0)] (Sq fun K2 hK2=>?_))
 refine Rr (Cn1 (decide ((4294967296:Int)<=((m:Int):Int))) [0,2] [] ((IntKind.u64=IntKind.u64)/\·) ⟨rfl,fun hc4 c4=>?_,fun hc4 c4=>?_⟩)
 omega
 refine Sk (Jn (hK2 (Kp [0,2] (Sq fun K5 hK5=>?_))))
 refine Rr (Cn1 (decide ((65536:Int)<=((m:Int):Int))) [0,2] [] ((IntKind.u64=IntKind.u64)/\·) ⟨rfl,fun hc7 c7=>?_,fun hc7 c7=>?_⟩)
 omega
 refine Sk (Jn (hK5 (Kp [0,2] (Sq fun K8 hK8=>?_))))
 refine Rr (Cn1 (decide ((256:Int)<=((m:Int):Int))) [0,2] [] ((IntKind.u64=IntKind.u64)/\·) ⟨rfl,fun hc10 c10=>?_,fun hc10 c10=>?_⟩)
 omega
 refine Sk (Jn (hK8 (Kp [0,2] (Rr (Av0 (r:=.int .u8 (IntKind.u8.wrap (m:Int))) (v:=.int .u8 (m:Int)) 3 21 [(20,.int .u64 (m:Int)),(19,.i 0)] (congrArg (AV.int .u8) (wrap8 om om)) ?_)))))
 have hu12:=UInt8.toNat_lt (l8tab.getD m 0)
 refine Av1 (r:=.i (IntKind.i64.wrap ((l8tab.getD m 0).toNat:Int))) (v:=.i ((l8tab.getD m 0).toNat:Int)) 2 23 [(22,.int .u8 ((l8tab.getD m 0).toNat:Int))] (cI (wrap64 om om)) (((0:Int)<=(m:Int)/\(m:Int)<(l8tab.length:Int))/\·) ⟨⟨om,om⟩,Av1 1 24 [] (cI (wnn 0 ((l8tab.getD m 0).toNat) om)) (Ki/\·) ⟨rfl,Fn0 [] [(2,.i ((0+((l8tab.getD m 0).toNat):Nat):Int))] (Rt (.i ((0+((l8tab.getD m 0).toNat):Nat):Int)) (⟨[],List.nil_sublist _,_,lea_refl _,⟨_,?_,rfl⟩,rfl⟩))⟩⟩;omega
theorem len_ok (m:Nat) (hm:m<256):PC G 126 [.int .u64 (m:Int)] (fun r=>∃k:Nat,k<256/\r=.i k):=by
 refine h_pc (F:=[(0,.int .u64 (m:Int))]) (by simp only[go_sem]) Tryz.func126 kr kr ?_ kr
 refine Rr (Fn0 [0] [] (Sq fun K2 hK2=>?_))
 refine Cf (Sk (Jn (hK2 (Kp [0] (Rr (Bc0 2 [(6,.int .u64 (m:Int))] 154 [.int .u64 (m:Int)] 7 (PC.use (len64_ok m om) fun r hr=>?_)))))));obtain⟨lk4,hlk4,rfl⟩:=hr
 refine Ke (Fn0 [] [(2,.i lk4)] (Rt (.i lk4) ?_))
 exact⟨[],List.nil_sublist _,_,lea_refl _,⟨_,om,rfl⟩,rfl⟩
theorem pdq_ok (X:List Mk) (lm:Nat) (hl:∀m∈X,wS m.path<2^40) (hn:X.length<=12):XC G 134 (fun i=>.osl i 2 0 X.length) [.i 0,.i X.length,.i lm,.fn (.func 101) []] (fl mkc X) (fun r zs=>r=.tup []/\∃Y,zs=fl mkc Y/\Y.Perm X/\Y.Pairwise leM):=by
 refine h_xc (F:=[(0,.osl 0 2 0 X.length),(1,.i 0),(2,.i X.length),(3,.i lm),(4,.fn (.func 101) [])]) (by simp only[go_sem]) (by simp only[go_sem]) Tryz.func134 kr kr ?_ kr
 refine Rr (Fn0 [0,1,2,3,4] [(10,.bool true)] (Rr (Fn0 [0,1,2,3,4,10] [(11,.bool true)] (Bl ?_))))
 refine h_l (fun(u:Unit)=>(match u with|_=>([(0,.osl 0 2 0 X.length),(1,.i 0),(2,.i X.length),(3,.i lm),(4,.fn (.func 101) []),(10,.bool true),(11,.bool true)]:Fr))) (fun(u:Unit)=>(match u with|_=>([(0,fl mkc X)]:Hp))) (fun(u:Unit) cn=>(match u with|_=>(True)/\cn=4)) (fun(u:Unit)=>0) () kr ?_ ?_ ?_ ?_
 refine⟨?_,rfl⟩;trivial
 exact⟨kr,kr,kr,kr,kr,kr,kr,trivial⟩
 exact(sub_c kr (List.nil_sublist _))
 rintro⟨⟩ n1 hI
 (try dsimp only at hI)
 obtain⟨-,rfl⟩:=hI
 refine Bl (Rr (Av1 (r:=.i (IntKind.i64.wrap ((X.length:Int)-0))) (v:=.i ((X.length:Int)-0)) 3 23 [(22,.i 0),(21,.i X.length)] (cI (wrap64 om om)) (Ki/\·) ⟨rfl,Fn0 [0,1,2,3,4,10,11] [(12,.i ((X.length:Int)-0))] (Sq fun K4 hK4=>?_)⟩))
 refine Rr (Cn1 (decide ((((X.length:Int)-0):Int)<=(12:Int))) [0,1,2,3,4,10,11,12] [] (Ki/\·) ⟨rfl,fun hc6 c6=>?_,fun hc6 c6=>?_⟩)
 refine Rr (Bc0 5 [(29,.fn (.func 101) []),(28,.i X.length),(27,.i 0),(26,.osl 0 2 0 X.length)] 157 [.osl 0 2 0 X.length,.i 0,.i X.length,.fn (.func 101) []] 30 (XC.use (a:=fun i=>.osl i 2 0 X.length) (isort_ok X hl om) kr fun r cs hr=>?_));obtain⟨Y8,rfl,hpY8,hsY8⟩:=hr.2;obtain rfl:=hr.1
 refine Ke (Fn0 [] [] (Rt (.tup []) ?_))
 exact fin_xc (fl mkc Y8) (lea_refl _) (by simp only[go_sem]) (by simp only[go_sem]) kr ⟨rfl,Y8,rfl,hpY8,hsY8⟩
 omega
theorem SortM_ok (X:List Mk) (hl:∀m∈X,wS m.path<2^40) (hn:X.length<=12):XC G 100 (fun i=>.osl i 2 0 X.length) [.fn (.func 101) []] (fl mkc X) (fun r zs=>r=.tup []/\∃Y,zs=fl mkc Y/\Y.Perm X/\Y.Pairwise leM):=by
 refine h_xc (F:=[(0,.osl 0 2 0 X.length),(1,.fn (.func 101) [])]) (by simp only[go_sem]) (by simp only[go_sem]) Tryz.func100 kr kr ?_ kr
 refine Rr (Fn0 [0,1] [(4,.i X.length)] (Rn (Av0 (r:=.int .u64 (IntKind.u64.wrap (X.length:Int))) (v:=.int .u64 (X.length:Int)) 4 10 [(9,.i X.length),(8,.i X.length),(7,.osl 0 2 0 X.length)] (congrArg (AV.int .u64) (wrapu64 om om)) (Bc0 1 [] 126 [.int .u64 (X.length:Int)] 11 ?_))))
 refine PC.use (len_ok X.length om) fun r hr=>?_;obtain⟨lk2,hlk2,rfl⟩:=hr
 refine Ke (Bc0 2 [(12,.fn (.func 101) [])] 134 [.osl 0 2 0 X.length,.i 0,.i X.length,.i lk2,.fn (.func 101) []] 13 (XC.use (a:=fun i=>.osl i 2 0 X.length) (pdq_ok X lk2 hl om) kr fun r cs hr=>?_));obtain⟨Y3,rfl,hpY3,hsY3⟩:=hr.2;obtain rfl:=hr.1
 refine Ke (Gn0 [] (nk_n (Rtn (fun Z=>Z) (.tup []) ?_)))
 exact fin_xc (fl mkc Y3) (lea_refl _) (by simp only[go_sem]) (by simp only[go_sem]) kr ⟨rfl,Y3,rfl,hpY3,hsY3⟩
open Go Go.Proofs
set_option maxRecDepth 100000
theorem cloneM_ok (l:List Mk) (hl:∀m∈l,wS m.path<2^40) (hn:l.length<2^21):PE G 60 [.sl 2 (l.map mkc)] (.sl 2 (l.map mkc)):=by
 refine Pe Tryz.func60 ?_
 refine Rr (Fn0 [0] [] (Rr (Fn3 [0] [(3,.osl 0 2 0 0)] ([(0,[])]++·) 4 ((0*2<=16777216)/\·) ⟨dc,Sq fun K3 hK3=>?_⟩)))
 refine Rr (Av0 2 8 [(7,.sl 2 (l.map mkc))] (lnm l mkc) (Fn0 [3,7,8] [(9,.i 0)] (Bl (h_l (fun(k:Nat)=>([(3,.osl 0 2 0 ((l.take k).length)),(7,.sl 2 (l.map mkc)),(8,.i l.length),(9,.i k)]:Fr)) (fun(k:Nat)=>([(0,fl mkc (l.take k))]:Hp)) (fun(k:Nat) cn=>(k<=l.length)/\cn=4) (fun(k:Nat)=>l.length-k) 0 kr ?_ ?_ ?_ ?_))))
 refine⟨?_,rfl⟩;exact Nat.zero_le _
 exact⟨kr,kr,kr,kr,trivial⟩
 exact(sub_c kr (List.nil_sublist _))
 rintro k n1 hI
 (try dsimp only at hI)
 obtain⟨hi1,rfl⟩:=hI
 refine Rr (Fn1 [3,7,8,9] [(10,.bool (decide ((k:Int)<(l.length:Int))))] (Ki/\·) ⟨rfl,Sq fun K6 hK6=>?_⟩)
 refine Cc (decide ((k:Int)<(l.length:Int))) (fun hc7 c7=>?_) fun hc7 c7=>?_
 refine Sk (Jn (hK6 (Kp [3,7,8,9] (Sq fun K8 hK8=>?_))))
 refine Bl (Rr (Av1 1 11 [] (congrArg AV.pat (mg_mk l k om)) ((2=2/\(0:Int)<=(k:Int)/\(k:Int)<((l.map mkc).length:Int))/\·) ⟨⟨rfl,om,lmo⟩,Fn3 [3,7,8,9] [(5,.ptr 4 0)] ([(4,mkc (l.getD k default))]++·) 8 ((2<=2/\0<2)/\(true=true/\2=2/\0+2<=2)/\·) ⟨dc,dc,?_⟩⟩))
 have hgm:=hl _ (getD_mem l k default om);have hgl:=wS_len (l.getD k default).path;have htk:(l.take k).length=k:=by rw[List.length_take];omega
 refine Qlb [0,0,0,4,14,0,32,126,254,511] [(0,[]),(2,[]),(3,[]),(5,[]),(6,[]),(1,[3,6]),(4,[6]),(7,[]),(8,[]),(9,[])] (fun h=>Bn (Jn (hK8 h))) ?_
 refine qAn3 7 [(17,.osl 12 1 0 (0+(((l.getD k default).path).map (fun s=>[AV.str s])).length)),(14,.osl 8 1 0 0),(19,.bool ((l.getD k default).sub)),(18,.ptr 4 1),(16,pth ((l.getD k default).path)),(15,.ptr 4 0),(13,.osl 0 2 0 ((l.take k).length))] ([(12,apd [] (0*1) ((((l.getD k default).path).map (fun s=>[AV.str s])).flatten))]++·) 16 (fun Z=>((1:Nat)≠0)/\(0+1<=2/\0<2)/\((1:Nat)≠0)/\(1+1<=2/\1<2)/\(0*1<=16777216)/\(((0+1<=2/\0<2)/\(pth ((l.getD k default).path)=pth ((l.getD k default).path)))/\((1+1<=2/\1<2)/\(AV.bool ((l.getD k default).sub)=(.bool ((l.getD k default).sub):AV)))/\True)/\True/\(1=1/\0*1<=0/\0<16/\(0+(((l.getD k default).path).map (fun s=>[AV.str s])).length)*16<=140737488355328)/\(((1+1<=2/\1<2)/\(AV.bool ((l.getD k default).sub)=(.bool ((l.getD k default).sub):AV)))/\True)/\Z) ⟨dc,dc,dc,dc,dc,⟨⟨dc,rfl⟩,⟨dc,rfl⟩,trivial⟩,trivial,⟨rfl,gl,dc,gl⟩,⟨⟨dc,rfl⟩,trivial⟩,runq_v (v':=.osl 12 1 0 (((l.getD k default).path).length)) (by rw[Nat.zero_add,List.length_map]) (runq_h (cs':=fl sc ((l.getD k default).path)) (app0_str _) (qAn3 3 [(22,.osl 20 2 0 ((l.take k).length+1)),(21,.osl 16 2 0 1),(20,.agg [.osl 12 1 0 (((l.getD k default).path).length),.bool ((l.getD k default).sub)])] (fun _=>[(20,apd (fl mkc (l.take k)) ((l.take k).length*2) ((([.osl 12 1 0 (((l.getD k default).path).length),.bool ((l.getD k default).sub)]:List AV).drop 0).take (1*2))),(16,[.osl 12 1 0 (((l.getD k default).path).length),.bool ((l.getD k default).sub)]),(12,fl sc ((l.getD k default).path)),(4,mkc (l.getD k default))]) 24 ((1*2<=16777216)/\(True)/\(0+1*2<=([.osl 12 1 0 (((l.getD k default).path).length),.bool ((l.getD k default).sub)]:List AV).length)/\(2=2/\(l.take k).length*2<=(fl mkc (l.take k)).length/\0<32/\((l.take k).length+1)*32<=140737488355328)/\(True)/\·) ⟨dc,trivial,(by first|decide|simp),⟨rfl,by(first|omega|(simp only[LL,flMl];omega)),dc,by(first|omega|(simp only[LL,flMl];omega))⟩,trivial,runq_H (H':=[(20,fl mkc (l.take k)++[.osl 12 1 0 (((l.getD k default).path).length),.bool ((l.getD k default).sub)]),(16,[.osl 12 1 0 (((l.getD k default).path).length),.bool ((l.getD k default).sub)]),(12,fl sc ((l.getD k default).path)),(4,mkc (l.getD k default))]) (by rw[show apd (fl mkc (l.take k)) ((l.take k).length*2) ((([.osl 12 1 0 (((l.getD k default).path).length),.bool ((l.getD k default).sub)]:List AV).drop 0).take (1*2))=fl mkc (l.take k)++[.osl 12 1 0 (((l.getD k default).path).length),.bool ((l.getD k default).sub)]from(by unfold apd;rw[fl_full mkc_len (l.take k) rfl];rfl)]) ?_⟩))⟩
 refine qGn0 [] (Lo 3 (.osl 20 2 0 ((l.take k).length+1)) (fun Z=>Z) (Cfi [3,7,8,9] (FzM 12 20 (l.take k) ((l.getD k default).path) ((l.getD k default).sub) [(3,.osl 20 2 0 ((l.take k).length+1)),(7,.sl 2 (l.map mkc)),(8,.i l.length),(9,.i k)] [] [] (Rn ?_))))
 refine Av1 1 23 [] (cI (wn1 k om)) (Ki/\·) ⟨rfl,Gn0 [(9,.i ((k+1:Nat):Int))] (nk_n (Lr (k+1) [(20,0)] 4 [(3,.osl 20 2 0 ((l.take k).length+1)),(7,.sl 2 (l.map mkc)),(8,.i l.length),(9,.i ((k+1:Nat):Int))] [(20,fl mkc (l.take k++[Mk.mk ((l.getD k default).path) ((l.getD k default).sub)]))] [false] ?_ ?_ (by(try ((try dsimp only);rw[take_snoc l k default om]));try kernel_rfl) (by(try ((try dsimp only);rw[take_snoc l k default om,List.length_append]));try kernel_rfl)))⟩
 (try dsimp only);omega
 refine⟨?_,rfl⟩;(try dsimp only);omega
 refine Xt (Jx (Lx (Bh (Jn (hK3 (Kp [3] (Rr (Fn0 [] [(2,.osl 0 2 0 ((l.take k).length))] (Fz 0 2 ((l.take k).length) ((l.take k).map mkc) (fl mkc (l.take k)) [(2,.osl 0 2 0 ((l.take k).length))] [] [] (chkM _) (flM_le _) (Rt (.sl 2 ((l.take k).map mkc)) ?_))))))))))
 refine fin_lea ?_
 rw[List.take_of_length_le om];exact lea_refl _
open Go Go.Proofs
set_option maxRecDepth 100000
def aDo (t:Tr) (c:Cl):Tr×Int:=
  bif !callOk c then(t,2)else bif !decide ((iDo t c).2=(0:Int))then(t,(iDo t c).2)else bif !treeOk (iDo t c).1 then(t,6)else((iDo t c).1,0)
def iTreeDo (t:Tr) (c:Cl):Tr×Int:=bif !treeOk t then(.none,1)else aDo t c
set_option maxHeartbeats 2000000 in
set_option maxRecDepth 100000
theorem wrt_l2w {s d:Str} {a:Int} (h:0<=a):wrt s a d=l2w s a.toNat d:=by
 obtain⟨k,rfl⟩:=Int.eq_ofNat_of_zero_le h
 simp only[wrt,l2w,szd,Int.toNat_natCast]
 by_cases h1:((s.length:Nat):Int)<((k:Nat):Int)
 ·rw[if_pos h1,if_neg (show ¬((k:Nat):Int)<=((s.length:Nat):Int) by omega)]
  have e1:(s++List.replicate (((k:Nat):Int)-((s.length:Nat):Int)).toNat (0:UInt8)).take k=s++List.replicate (k-s.length) 0:=by
   rw[List.take_of_length_le (by simp;omega)]
   congr 2;omega
  have e2:(s++List.replicate (k+d.length-s.length) (0:UInt8)).take k=s++List.replicate (k-s.length) 0:=by
   rw[List.take_append,List.take_of_length_le (by omega),List.take_replicate]
   congr 2;omega
  rw[e1,e2,if_neg (by simp;omega),List.drop_eq_nil_of_le (by simp;omega),List.append_nil]
 ·rw[if_neg h1]
  by_cases h2:k+d.length<s.length
  ·rw[if_pos (by simp;omega),show k+d.length-s.length=0 by omega,List.replicate_zero,List.append_nil]
   congr 2
   simp;omega
  ·rw[if_neg (by simp;omega),List.drop_eq_nil_of_le (by simp;omega),List.append_nil,List.take_append_of_le_length (by omega)]
theorem szd_l2w {s:Str} {a:Int} (h:0<=a):l2w (bif decide (a<((s.length:Nat):Int))then s.take a.toNat else s) a.toNat []=szd s a:=by
 have key:∀(u:Str) (k:Nat),l2w u k []=u++List.replicate (k-u.length) 0:=fun u k=>by
  simp only[l2w,List.length_nil,Nat.add_zero,List.append_nil,List.take_append_drop]
 rw[key]
 unfold szd
 by_cases h1:a<((s.length:Nat):Int)
 ·rw[decide_eq_true h1,cond_true,if_pos (by omega),show a.toNat-(s.take a.toNat).length=0 by simp;omega]
  simp
 ·rw[decide_eq_false h1,cond_false]
  by_cases h2:a<=((s.length:Nat):Int)
  ·rw[if_pos h2,show a.toNat-s.length=0 by omega,List.take_of_length_le (by omega)];simp
  ·rw[if_neg h2];congr 2;omega
def ents (t:Tr):List (Str×Tr):=t.names.zip t.kids
def mkE (t:Tr) (l:List (Str×Tr)):Tr:=.mk t.dir t.mode t.data (l.map (·.1)) (l.map (·.2))
theorem ents_mkE (t:Tr) (l:List (Str×Tr)):ents (mkE t l)=l:=by
 simp only[ents,mkE,Tr.names_mk,Tr.kids_mk]
 induction l with
 |nil=>rfl
 |cons e l ih=>simp only[List.map_cons,List.zip_cons_cons,ih]
theorem mkE_mkE (t:Tr) (l m:List (Str×Tr)):mkE (mkE t l) m=mkE t m:=rfl
theorem mkE_len (t:Tr) (l:List (Str×Tr)):(mkE t l).names.length=(mkE t l).kids.length:=by simp[mkE]
def insE (nm:Str) (x:Tr):List (Str×Tr)->List (Str×Tr)
 |[]=>[(nm,x)]
 |e::l=>if blt e.1 nm then e::insE nm x l else(nm,x)::e::l
theorem fA5 {nm:Str} {x:Tr} {r:Tr->Tr}:∀(l:List (Str×Tr)) (a:List Str) (b:List Tr),l.foldl (sstp nm true true x r) (a,b,false)=(a++(l.filter fun e=> !(e.1==nm)).map (·.1),b++(l.filter fun e=> !(e.1==nm)).map (·.2),false)
 |[],a,b=>by simp
 |e::l,a,b=>by
  cases h:e.1==nm with
  |true=>
   have e1:sstp nm true true x r (a,b,false) e=(a,b,false):=by simp[sstp,h]
   rw[List.foldl_cons,e1,fA5 l,List.filter_cons,h];rfl
  |false=>
   have e1:sstp nm true true x r (a,b,false) e=(a++[e.1],b++[e.2],false):=by simp[sstp,h]
   rw[List.foldl_cons,e1,fA5 l,List.filter_cons,h];simp
theorem fA6 {nm:Str} {x:Tr} {r:Tr->Tr} {t:Tr}:∀(l:List (Str×Tr)) (a:List Str) (b:List Tr),(∀e∈l,e.1≠nm)->sE nm true false x t (l.foldl (sstp nm true false x r) (a,b,false))=.mk t.dir t.mode t.data (a++(insE nm x l).map (·.1)) (b++(insE nm x l).map (·.2))
 |[],a,b,_=>by simp[sE,insE]
 |e::l,a,b,h=>by
  have h2:(e.1==nm)=false:=by simpa using h e (by simp)
  cases hb:blt e.1 nm with
  |true=>
   have e1:sstp nm true false x r (a,b,false) e=(a++[e.1],b++[e.2],false):=by simp[sstp,h2,hb]
   rw[List.foldl_cons,e1,fA6 l _ _ fun e' he=>h e' (by simp[he]),insE,if_pos hb];simp
  |false=>
   have e1:sstp nm true false x r (a,b,false) e=(a++[nm]++[e.1],b++[x]++[e.2],true):=by simp[sstp,h2,hb]
   rw[List.foldl_cons,e1,fA2 l _ _ fun e' he=>h e' (by simp[he]),insE,if_neg (by rw[hb];simp)]
   simp[sE]
theorem tsE_gone (t x:Tr) (nm:Str):tset [nm] t x true=mkE t ((ents t).filter fun e=> !(e.1==nm)):=by
 rw[tset,sA_all,List.isEmpty_nil,fA5]
 simp[sE,mkE,ents]
theorem tsE_new (t x:Tr) (nm:Str) (h:∀e∈ents t,e.1≠nm):tset [nm] t x false=mkE t (insE nm x (ents t)):=by
 rw[tset,sA_all,List.isEmpty_nil,show t.names.zip t.kids=ents t from rfl,fA6 _ _ _ h]
 simp[mkE,ents]
theorem tsE_deep (t x:Tr) (n:Str) (p:List Str) (g:Bool) (hp:p≠[]):tset (n::p) t x g=mkE t ((ents t).map fun e=>(e.1,bif e.1==n then tset p e.2 x g else e.2)):=by
 have hpe:p.isEmpty=false:=by cases p with|nil=>exact absurd rfl hp|cons _ _=>rfl
 rw[tset,sA_all,hpe,fA4]
 simp only[sE,Bool.false_and,cond_false,List.nil_append,mkE,ents,List.map_map]
 rfl
theorem ins_map {nm n:Str} {x:Tr} (f:Tr->Tr) (hne:nm≠n):∀l:List (Str×Tr),insE nm x (l.map fun e=>(e.1,bif e.1==n then f e.2 else e.2))=(insE nm x l).map fun e=>(e.1,bif e.1==n then f e.2 else e.2)
 |[]=>by
  have:(nm==n)=false:=by simpa using hne
  simp[insE,this]
 |e::l=>by
  have:(nm==n)=false:=by simpa using hne
  simp only[List.map_cons,insE]
  split
  ·rw[List.map_cons,ins_map f hne l]
  ·simp only[List.map_cons,this,cond_false]
theorem ins_flt {nm n:Str} {x:Tr} (hne:nm≠n):∀l:List (Str×Tr),asc (l.map (·.1))=true->insE nm x (l.filter fun e=> !(e.1==n))=(insE nm x l).filter fun e=> !(e.1==n)
 |[],_=>by
  have:(nm==n)=false:=by simpa using hne
  simp[insE,this]
 |e::l,h=>by
  have hnm:(nm==n)=false:=by simpa using hne
  have hl:asc (l.map (·.1))=true:=by
   cases l with
   |nil=>rfl
   |cons e' l=>simp only[List.map_cons,asc,Bool.and_eq_true]at h⊢;exact h.2
  have hgt:∀e'∈l,blt e.1 e'.1=true:=by
   intro e' he
   obtain⟨i,hi,rfl⟩:=List.mem_iff_getElem.1 he
   have:=asc_lt h (show 0<i+1 by omega) (by simp;omega)
   simpa[List.getD,hi]using this
  cases hb:blt e.1 nm with
  |true=>
   rw[insE,if_pos hb,List.filter_cons,List.filter_cons]
   split
   ·rw[insE,if_pos hb,ins_flt hne l hl]
   ·exact ins_flt hne l hl
  |false=>
   rw[insE,if_neg (by rw[hb];simp)]
   have hc:∀m:List (Str×Tr),(∀e'∈m,blt e'.1 nm=false)->insE nm x m=(nm,x)::m:=by
    intro m hm
    cases m with
    |nil=>rfl
    |cons e' m=>rw[insE,if_neg (by rw[hm e' (by simp)];simp)]
   rw [hc _ (fun e' he=>by
    have he:=(List.mem_filter.1 he).1
    rcases List.mem_cons.1 he with rfl|he
    ·exact hb
    ·cases hx:blt e'.1 nm with
     |false=>rfl
     |true=>rw[blt_trans (hgt e' he) hx]at hb;cases hb)]
   rw[List.filter_cons (x:=(nm,x))]
   simp only[hnm,Bool.not_false,if_true]
theorem tat_mem {t:Tr} {n:Str} {p:List Str} (h:tat t (n::p)=none) (hp:p=[]):∀e∈ents t,e.1≠n:=by
 intro e he hn
 subst hp
 rw[tat_cons]at h
 cases hf:fnd n t.names with
 |none=>exact fnd_none hf (hn▸(List.of_mem_zip he).1)
 |some k=>rw[hf]at h;simp[tat]at h
theorem asc_ents {t:Tr} (hw:t.wf=true) (h:asc t.names=true):asc ((ents t).map (·.1))=true:=by
 rw[show(ents t).map (·.1)=t.names from(zip_f t (wf_len hw)).1];exact h
mutual
def tas:Tr->Prop|.mk _ _ _ ns ks=>asc ns=true/\tass ks
def tass:List Tr->Prop|[]=>True|t::ts=>tas t/\tass ts
end
theorem tas_eq (t:Tr):tas t↔asc t.names=true/\tass t.kids:=by cases t;simp only[tas,Tr.names,Tr.kids]
theorem tass_mem:∀{ks:List Tr},tass ks->∀{x:Tr},x∈ks->tas x
 |[],_,x,hx=>by simp at hx
 |t::ts,h,x,hx=>by
  rcases List.mem_cons.1 hx with rfl|hx
  ·exact h.1
  ·exact tass_mem h.2 hx
mutual
theorem tas_parts:∀(t:Tr) (n:Int),partsOk t n=true->tas t
 |.mk d m s ns ks,n,h=>by
  simp only[partsOk,Bool.and_eq_true]at h
  refine⟨?_,tass_parts ks (n+1) h.2.2⟩
  have h1:=h.1
  simp only[plainOk,Tr.names_mk,Tr.kids_mk,Tr.dir_mk,Tr.data_mk,Bool.and_eq_true,decide_eq_true_eq]at h1
  have h7:=h1.2.2
  cases d with
  |true=>simp only[if_true,Bool.and_eq_true]at h7;exact h7.2.1
  |false=>
   simp only[Bool.false_eq_true,if_false,Bool.and_eq_true]at h7
   have h8:ns=[]:=List.eq_nil_of_length_eq_zero (of_decide_eq_true h7.2)
   subst h8;rfl
theorem tass_parts:∀(ks:List Tr) (n:Int),partsOks ks n=true->tass ks
 |[],_,_=>trivial
 |k::ks,n,h=>by
  simp only[partsOks,Bool.and_eq_true]at h
  exact⟨tas_parts k n h.1,tass_parts ks n h.2⟩
end
theorem ent_fnd {t:Tr} {n:Str} (hw:t.wf=true) (hn:t.names.Nodup) {e:Str×Tr} (he:e∈ents t) (h:e.1=n) (p:List Str):tat t (n::p)=tat e.2 p:=by
 obtain⟨i,hi,rfl⟩:=List.mem_iff_getElem.1 he
 have hwl:=wf_len hw
 simp only[ents,List.length_zip]at hi
 simp only[ents,List.getElem_zip]at h⊢
 rw[tat_cons]
 cases hf:fnd n t.names with
 |none=>exact absurd (h▸List.getElem_mem _) (fnd_none hf)
 |some k=>
  have hk:=fnd_lt hf
  have hg:=fnd_some hf
  have:k=i:=by
   rcases Nat.decEq k i with hne|heq
   ·refine absurd ?_ (nd_ne hn hk (show i<t.names.length by omega) hne)
    rw[hg,<-h]
    simp[List.getD,show i<t.names.length by omega]
   ·exact heq
  subst this
  dsimp only
  congr 1
  simp[List.getD,show k<t.kids.length by omega]
theorem swap_ok {x:Tr}:∀(p q:List Str) (t:Tr),t.wf=true->tas t->tnd t->p≠[]->q≠[]->(tat t p).isSome=true->tat t q=none->p.isPrefixOf q=false->tset q (tset p t .none true) x false=tset p (tset q t x false) .none true
 |[],_,_,_,_,_,h,_,_,_,_=>absurd rfl h
 |_,[],_,_,_,_,_,h,_,_,_=>absurd rfl h
 |[n],[m],t,hw,ha,hn,_,_,hp,hq,hx=>by
  have hne:m≠n:=by rintro rfl;simp[List.isPrefixOf]at hx
  have h1:=tat_mem hq rfl
  rw[tsE_gone,tsE_new t x m h1,tsE_new _ x m (by rw[ents_mkE];exact fun e he=>h1 e (List.mem_filter.1 he).1),tsE_gone,ents_mkE,ents_mkE,mkE_mkE,mkE_mkE,ins_flt hne _ (asc_ents hw ((tas_eq t).1 ha).1)]
 |[n],m::m2::q,t,hw,ha,hn,_,_,hp,hq,hx=>by
  have hne:n≠m:=by rintro rfl;simp[List.isPrefixOf]at hx
  rw[tsE_gone,tsE_deep _ _ m _ _ (by simp),tsE_deep _ _ m _ _ (by simp),tsE_gone,ents_mkE,ents_mkE,mkE_mkE,mkE_mkE]
  congr 1
  rw[List.filter_map]
  rfl
 |n::n2::p,[m],t,hw,ha,hn,_,_,hp,hq,hx=>by
  have h1:=tat_mem hq rfl
  have hne:m≠n:=by
   rintro rfl
   rw[tat_cons]at hp
   cases hf:fnd m t.names with
   |none=>rw[hf]at hp;simp at hp
   |some k=>rw[tat_cons,hf]at hq;simp[tat]at hq
  rw [tsE_deep _ _ n _ _ (by simp), tsE_new t x m h1, tsE_new _ x m (by
   rw[ents_mkE]
   intro e he
   obtain⟨e',he',rfl⟩:=List.mem_map.1 he
   exact h1 e' he'),tsE_deep _ _ n _ _ (by simp),ents_mkE,ents_mkE,mkE_mkE,mkE_mkE]
  rw[ins_map (fun k=>tset (n2::p) k .none true) hne]
 |n::n2::p,m::m2::q,t,hw,ha,hn,_,_,hp,hq,hx=>by
  rw[tsE_deep _ _ n _ _ (by simp),tsE_deep _ _ m _ _ (by simp),tsE_deep _ _ m _ _ (by simp),tsE_deep _ _ n _ _ (by simp),ents_mkE,ents_mkE,mkE_mkE,mkE_mkE]
  congr 1
  rw[List.map_map,List.map_map]
  refine List.map_congr_left fun e he=>?_
  simp only[Function.comp]
  congr 1
  cases h1:e.1==n<;>cases h2:e.1==m<;>simp only[cond_true,cond_false]
  have e1:=eq_of_beq h1
  have e2:=eq_of_beq h2
  have hnm:n=m:=by rw[<-e1,<-e2]
  subst hnm
  have hk:e.2∈t.kids:=(List.of_mem_zip he).2
  have hwk:e.2.wf=true:=by
   have:=hw
   rw[wf_eq]at this
   simp only[Bool.and_eq_true,List.all_eq_true]at this
   exact this.2 _ hk
  have hnk:tnd e.2:=by
   obtain⟨i,hi,h⟩:=List.mem_iff_getElem.1 hk
   have:=tnds_get ((tnd_eq t).1 hn).2 hi
   rw[<-h]
   simpa[List.getD,hi]using this
  have hs:=swap_ok (x:=x) (n2::p) (m2::q) e.2 hwk (tass_mem ((tas_eq t).1 ha).2 hk) hnk (by simp) (by simp) (by rw[<-ent_fnd hw ((tnd_eq t).1 hn).1 he e1];exact hp) (by rw[<-ent_fnd hw ((tnd_eq t).1 hn).1 he e1];exact hq) (by simpa[List.isPrefixOf]using hx)
  exact hs
set_option maxRecDepth 100000
theorem asc_pw {l:List Str} (h:asc l=true):l.Pairwise fun a b=>blt a b=true:=by
 refine List.pairwise_iff_getElem.2 fun i j hi hj hij=>?_
 have:=asc_lt h hij hj
 simpa[List.getD,hi,hj]using this
theorem asc_of_pw:∀{l:List Str},(l.Pairwise fun a b=>blt a b=true)->asc l=true
 |[],_=>rfl
 |[a],_=>rfl
 |a::b::r,h=>by
  rw[asc,Bool.and_eq_true]
  have h1:=List.pairwise_cons.1 h
  exact⟨h1.1 b (by simp),asc_of_pw h1.2⟩
theorem parts_mkE {t:Tr} {n:Int} {l:List (Str×Tr)} (h:partsOk t n=true) (hn:(l.map (·.1)).Sublist t.names) (hk:∀e∈l,partsOk e.2 (n+1)=true):partsOk (mkE t l) n=true:=by
 rw[partsOk_eq]at h⊢
 simp only[Bool.and_eq_true]at h⊢
 refine⟨?_,h.2.1,?_⟩
 ·have h1:=h.1
  simp only[plainOk,Bool.and_eq_true,decide_eq_true_eq]at h1⊢
  refine⟨h1.1,mkE_len t l,?_⟩
  have h7:=h1.2.2
  show(if t.dir then(l.map (·.1)).all nmOk&&(asc (l.map (·.1))&&t.data==[])else decide (t.data.length<=24)&&decide ((l.map (·.1)).length=0))=true
  cases hd:t.dir with
  |true=>
   rw[hd]at h7
   simp only[if_true,Bool.and_eq_true]at h7⊢
   exact⟨List.all_eq_true.2 fun x hx=>List.all_eq_true.1 h7.1 x (hn.subset hx),asc_of_pw ((asc_pw h7.2.1).sublist hn),h7.2.2⟩
  |false=>
   rw[hd]at h7
   simp only[Bool.false_eq_true,if_false,Bool.and_eq_true]at h7⊢
   have h8:=of_decide_eq_true h7.2
   have:=hn.length_le
   exact⟨h7.1,decide_eq_true (by omega)⟩
 ·refine List.all_eq_true.2 fun x hx=>?_
  obtain⟨e,he,rfl⟩:=List.mem_map.1 hx
  exact hk e he
theorem ents_f {t:Tr} (hl:t.names.length=t.kids.length):(ents t).map (·.1)=t.names/\(ents t).map (·.2)=t.kids:=zip_f t hl
theorem parts_len {t:Tr} {n:Int} (h:partsOk t n=true):t.names.length=t.kids.length:=by
 rw[partsOk_eq]at h
 simp only[Bool.and_eq_true]at h
 have h1:=h.1
 simp only[plainOk,Bool.and_eq_true,decide_eq_true_eq]at h1
 exact h1.2.1
theorem parts_kid {t:Tr} {n:Int} (h:partsOk t n=true) {x:Tr} (hx:x∈t.kids):partsOk x (n+1)=true:=by
 rw[partsOk_eq]at h
 simp only[Bool.and_eq_true]at h
 exact List.all_eq_true.1 h.2.2 x hx
theorem cnts_map {α:Type} (g f:α->Tr):∀(l:List α),(∀e∈l,cnt (g e)<=cnt (f e))->cnts (l.map g)<=cnts (l.map f)
 |[],_=>by simp
 |e::l,h=>by
  have:=cnts_map g f l fun e he=>h e (by simp[he])
  have:=h e (by simp)
  simp only[List.map_cons,cnts];omega
theorem cnts_flt (q:Str×Tr->Bool):∀(l:List (Str×Tr)),cnts ((l.filter q).map (·.2))<=cnts (l.map (·.2))
 |[]=>by simp
 |e::l=>by
  have:=cnts_flt q l
  rw[List.filter_cons]
  split<;>simp only[List.map_cons,cnts]<;>omega
theorem gone_parts:∀(p:List Str) (t:Tr) (n:Int),partsOk t n=true->p≠[]->partsOk (tset p t .none true) n=true/\cnt (tset p t .none true)<=cnt t/\(tset p t .none true).dir=t.dir
 |[],_,_,_,h=>absurd rfl h
 |[nm],t,n,h,_=>by
  obtain⟨z1,z2⟩:=ents_f (parts_len h)
  rw[tsE_gone]
  refine⟨parts_mkE h ?_ fun e he=>parts_kid h (List.of_mem_zip (List.mem_filter.1 he).1).2,?_,rfl⟩
  ·conv=>rhs;rw[<-z1]
   exact List.filter_sublist.map _
  ·rw[cnt_eq,cnt_eq]
   conv=>rhs;rw[<-z2]
   exact cnts_flt _ _
 |m::m2::p,t,n,h,_=>by
  obtain⟨z1,z2⟩:=ents_f (parts_len h)
  rw[tsE_deep _ _ _ _ _ (by simp)]
  refine⟨parts_mkE h ?_ fun e he=>?_,?_,rfl⟩
  ·rw[List.map_map]
   exact(z1▸List.Sublist.refl _:((ents t).map (·.1)).Sublist t.names)
  ·obtain⟨e',he',rfl⟩:=List.mem_map.1 he
   have hk:=parts_kid h (List.of_mem_zip he').2
   dsimp only
   cases e'.1==m
   ·exact hk
   ·exact(gone_parts (m2::p) e'.2 (n+1) hk (by simp)).1
  ·rw[cnt_eq,cnt_eq]
   conv=>rhs;rw[<-z2]
   show cnts (((ents t).map _).map _)<=_
   rw[List.map_map]
   refine cnts_map _ _ _ fun e' he'=>?_
   have hk:=parts_kid h (List.of_mem_zip he').2
   simp only[Function.comp]
   cases e'.1==m
   ·exact Nat.le_refl _
   ·exact(gone_parts (m2::p) e'.2 (n+1) hk (by simp)).2.1
theorem gone_ok {t:Tr} {p:List Str} (h:treeOk t=true) (hp:p≠[]):treeOk (tset p t .none true)=true:=by
 simp only[treeOk,Bool.and_eq_true,decide_eq_true_eq]at h⊢
 obtain⟨h1,h2,h3⟩:=gone_parts p t 0 h.2.1 hp
 exact⟨by rw[h3];exact h.1,h1,by omega⟩
theorem mode_parts {m:Int} (hm:inb m 0 7=true):∀(p:List Str) (t x:Tr) (n:Int),partsOk t n=true->t.wf=true->tnd t->p≠[]->tat t p=some x->partsOk (tset p t (wMode x m) false) n=true/\cnt (tset p t (wMode x m) false)<=cnt t/\(tset p t (wMode x m) false).dir=t.dir
 |[],_,_,_,_,_,_,h,_=>absurd rfl h
 |[nm],t,x,n,h,hw,hn,_,hx=>by
  have hl:=parts_len h
  obtain⟨z1,z2⟩:=ents_f hl
  rw[tat_cons]at hx
  cases hf:fnd nm t.names with
  |none=>rw[hf]at hx;cases hx
  |some k=>
   rw[hf]at hx
   simp only[tat,Option.some.injEq]at hx
   have hk:=fnd_lt hf
   have ha:=(tas_eq t).1 (tas_parts t n h)
   rw[tset_hit hl ha.1 hk (fnd_some hf)]
   have hxk:x∈t.kids:=by rw[<-hx];exact getD_mem t.kids k Tr.none (by omega)
   have hpx:=parts_kid h hxk
   have hpm:partsOk (wMode x m) (n+1)=true:=by
    rw[partsOk_eq]at hpx⊢
    simp only[plainOk,wMode,Tr.mode_mk,Tr.names_mk,Tr.kids_mk,Tr.dir_mk,Tr.data_mk,Bool.and_eq_true]at hpx⊢
    exact⟨⟨hm,hpx.1.2⟩,hpx.2⟩
   have hc:cnt (wMode x m)=cnt x:=by rw[cnt_eq,cnt_eq];rfl
   have hs:t.kids.set k (wMode x m)=t.kids.take k++wMode x m::t.kids.drop (k+1):=set_split _ _ (by omega) _
   have hg:t.kids=t.kids.take k++x::t.kids.drop (k+1):=by
    have:=get_split t.kids k (by omega) Tr.none
    rw[hx]at this;exact this
   refine⟨?_,?_,rfl⟩
   ·rw[partsOk_eq]at h⊢
    simp only[Bool.and_eq_true,Tr.kids_mk]at h⊢
    refine⟨?_,h.2.1,List.all_eq_true.2 fun y hy=>?_⟩
    ·have h1:=h.1
     simp only[plainOk,Tr.mode_mk,Tr.names_mk,Tr.kids_mk,Tr.dir_mk,Tr.data_mk,List.length_set]at h1⊢
     exact h1
    ·rcases List.mem_or_eq_of_mem_set hy with hy|rfl
     ·exact List.all_eq_true.1 h.2.2 y hy
     ·exact hpm
   ·rw[cnt_eq,cnt_eq,Tr.kids_mk,hs]
    conv=>rhs;rw[hg]
    have happ:∀(a b:List Tr),cnts (a++b)=cnts a+cnts b:=by
     intro a b
     induction a with
     |nil=>simp[cnts]
     |cons y a ih=>simp only[List.cons_append,cnts,ih];omega
    rw[happ,happ]
    simp only[cnts,hc]
    exact Nat.le_refl _
 |n'::m2::p,t,x,n,h,hw,hn,_,hx=>by
  obtain⟨z1,z2⟩:=ents_f (parts_len h)
  rw[tsE_deep _ _ _ _ _ (by simp)]
  have key:∀e'∈ents t,(e'.1==n')=true->partsOk (tset (m2::p) e'.2 (wMode x m) false) (n+1)=true/\cnt (tset (m2::p) e'.2 (wMode x m) false)<=cnt e'.2:=by
   intro e' he' hb
   have hk:=(List.of_mem_zip he').2
   have hwk:e'.2.wf=true:=by
    have:=hw
    rw[wf_eq]at this
    simp only[Bool.and_eq_true,List.all_eq_true]at this
    exact this.2 _ hk
   have hnk:tnd e'.2:=by
    obtain⟨i,hi,h⟩:=List.mem_iff_getElem.1 hk
    have:=tnds_get ((tnd_eq t).1 hn).2 hi
    rw[<-h]
    simpa[List.getD,hi]using this
   have:=mode_parts hm (m2::p) e'.2 x (n+1) (parts_kid h hk) hwk hnk (by simp) (by rw[<-ent_fnd hw ((tnd_eq t).1 hn).1 he' (eq_of_beq hb)];exact hx)
   exact⟨this.1,this.2.1⟩
  refine⟨parts_mkE h ?_ fun e he=>?_,?_,rfl⟩
  ·rw[List.map_map]
   exact(z1▸List.Sublist.refl _:((ents t).map (·.1)).Sublist t.names)
  ·obtain⟨e',he',rfl⟩:=List.mem_map.1 he
   dsimp only
   cases hb:e'.1==n'
   ·exact parts_kid h (List.of_mem_zip he').2
   ·exact(key e' he' hb).1
  ·rw[cnt_eq,cnt_eq]
   conv=>rhs;rw[<-z2]
   show cnts (((ents t).map _).map _)<=_
   rw[List.map_map]
   refine cnts_map _ _ _ fun e' he'=>?_
   simp only[Function.comp]
   cases hb:e'.1==n'
   ·exact Nat.le_refl _
   ·exact(key e' he' hb).2
theorem mode_ok {t x:Tr} {p:List Str} {m:Int} (h:treeOk t=true) (hm:inb m 0 7=true) (hp:p≠[]) (hx:tat t p=some x):treeOk (tset p t (wMode x m) false)=true:=by
 have hw:=wf_ok h
 have hn:=tnd_ok h
 simp only[treeOk,Bool.and_eq_true,decide_eq_true_eq]at h⊢
 obtain⟨h1,h2,h3⟩:=mode_parts hm p t x 0 h.2.1 hw hn hp hx
 exact⟨by rw[h3];exact h.1,h1,by omega⟩
theorem file_names {t x:Tr} {p:List Str} (h:treeOk t=true) (hx:tat t p=some x) (hd:x.dir=false):x.names.length=0:=by
 simp only[treeOk,Bool.and_eq_true]at h
 obtain⟨m,hm⟩:=parts_tat h.2.1 hx
 rw[partsOk_eq]at hm
 simp only[Bool.and_eq_true]at hm
 have h1:=hm.1
 simp only[plainOk,Bool.and_eq_true,decide_eq_true_eq]at h1
 have h7:=h1.2.2
 rw[hd]at h7
 simp only[Bool.false_eq_true,if_false,Bool.and_eq_true]at h7
 exact of_decide_eq_true h7.2
theorem aDo_err {t:Tr} {c:Cl} {k:Int} (hc:callOk c=true) (h:iDo t c=(t,k)) (hk:k≠0):aDo t c=(t,k):=by
 unfold aDo
 rw[hc,h]
 simp only[Bool.not_true,cond_false,decide_eq_false hk,Bool.not_false,cond_true]
theorem aDo_ok {t y:Tr} {c:Cl} (hc:callOk c=true) (h:iDo t c=(y,0)):aDo t c=fits y t:=by
 unfold aDo fits
 rw[hc,h]
 simp only[Bool.not_true,cond_false,decide_true]
 cases treeOk y<;>rfl
theorem aDo_sDo {t:Tr} {c:Cl} (ht:treeOk t=true) (hc:callOk c=true):aDo t c=sDo t c:=by
 obtain⟨f1,f2,f3,f4⟩:=callOk_facts hc
 have hp:c.path≠[]:=fun h=>by rw[h]at f1;simp at f1
 have hk16:c.kind=1\/c.kind=2\/c.kind=3\/c.kind=4\/c.kind=5\/c.kind=6:=by
  unfold callOk at hc
  split at hc
  ·rename_i h;omega
  split at hc
  ·rename_i h;omega
  split at hc
  ·rename_i h;omega
  split at hc
  ·rename_i h;omega
  ·cases hc
 have hm6:c.kind=6->inb c.at_ 0 7=true:=fun h=>by
  unfold callOk at hc
  rw[if_pos (by omega)]at hc
  simp only[Bool.and_eq_true]at hc
  exact hc.2
 by_cases hP:parC t c.path=0
 case neg=>
  have e:iDo t c=(t,parC t c.path):=by
   unfold iDo
   rw[decide_eq_false hP];rfl
  rw[aDo_err hc e hP]
  unfold sDo
  rw[decide_eq_false hP];rfl
 have hPd:decide (parC t c.path=(0:Int))=true:=decide_eq_true hP
 rcases hk16 with hk|hk|hk|hk|hk|hk
 ·--a new directory
  have es:sDo t c=bif (tat t c.path).isSome then(t,5)else fits (tset c.path t (newDir c.at_) false) t:=by
   unfold sDo;rw[hPd,hk];rfl
  have ei:iDo t c=match tat t c.path with|some _=>(t,5)|none=>(tset c.path t (newDir c.at_) false,0):=by
   unfold iDo;rw[hPd,hk];rfl
  rw[es]
  cases hx:tat t c.path with
  |some x=>rw[hx]at ei;rw[aDo_err hc ei (by decide)];rfl
  |none=>rw[hx]at ei;rw[aDo_ok hc ei];rfl
 ·--a write
  obtain⟨f8,f9⟩:=f3 (.inl hk)
  have es:sDo t c=sFile t c:=by unfold sDo;rw[hPd,hk];rfl
  have hd:decide ((24:Int)<((c.data.length:Nat):Int)+c.at_)=decide ((24:Int)<c.at_+((c.data.length:Nat):Int)):=decide_eq_decide.2 (by omega)
  have ei:iDo t c=match tat t c.path with
   |some x=>bif x.dir then(t,4)else bif decide ((24:Int)<c.at_+((c.data.length:Nat):Int))then(t,6)else(tset c.path t (wData x (wrt x.data c.at_ c.data)) false,0)
   |none=>bif decide ((24:Int)<c.at_+((c.data.length:Nat):Int))then(t,6)else(tset c.path t (wData .none (wrt [] c.at_ c.data)) false,0):=by
   unfold iDo;rw[hPd,hk];rfl
  rw[es]
  unfold sFile
  rw[hd,show decide (c.kind=(3:Int))=false by rw[hk];rfl]
  cases hx:tat t c.path with
  |some x=>
   rw[hx]at ei
   have hxa:xat t c.path=x:=by unfold xat;rw[hx];rfl
   dsimp only at ei
   rw[hxa]
   simp only[Option.isSome_some,Bool.true_and,Bool.not_true,Bool.false_and,cond_false]
   cases hdx:x.dir with
   |true=>rw[hdx]at ei;rw[aDo_err hc ei (by decide)];rfl
   |false=>
    rw[hdx]at ei
    simp only[cond_false]at ei⊢
    cases h24:decide ((24:Int)<c.at_+((c.data.length:Nat):Int))with
    |true=>rw[h24]at ei;rw[aDo_err hc ei (by decide)];rfl
    |false=>rw[h24]at ei;rw[aDo_ok hc ei,wrt_l2w f8];rfl
  |none=>
   rw[hx]at ei
   have hxa:xat t c.path=.none:=by unfold xat;rw[hx];rfl
   dsimp only at ei
   rw[hxa]
   simp only[Option.isSome_none,Bool.false_and,Bool.not_false,Bool.and_false,cond_false]
   cases h24:decide ((24:Int)<c.at_+((c.data.length:Nat):Int))with
   |true=>rw[h24]at ei;rw[aDo_err hc ei (by decide)];rfl
   |false=>rw[h24]at ei;rw[aDo_ok hc ei,wrt_l2w f8];rfl
 ·--a new length
  obtain⟨f8,f9⟩:=f3 (.inr hk)
  have es:sDo t c=sFile t c:=by unfold sDo;rw[hPd,hk];rfl
  have ei:iDo t c=match tat t c.path with
   |none=>(t,3)
   |some x=>bif x.dir then(t,4)else(tset c.path t (wData x (szd x.data c.at_)) false,0):=by
   unfold iDo;rw[hPd,hk];rfl
  rw[es]
  unfold sFile
  rw[show decide (c.kind=(3:Int))=true by rw[hk];rfl]
  cases hx:tat t c.path with
  |some x=>
   rw[hx]at ei
   have hxa:xat t c.path=x:=by unfold xat;rw[hx];rfl
   dsimp only at ei
   rw[hxa]
   simp only[Option.isSome_some,Bool.true_and,Bool.not_true,Bool.false_and,cond_false,cond_true]
   cases hdx:x.dir with
   |true=>rw[hdx]at ei;rw[aDo_err hc ei (by decide)];rfl
   |false=>rw[hdx]at ei;rw[aDo_ok hc ei,szd_l2w f8];rfl
  |none=>
   rw[hx]at ei
   rw[aDo_err hc ei (by decide)];rfl
 ·--a removal
  have es:sDo t c=bif !(tat t c.path).isSome then(t,3)else bif decide ((0:Int)<(((xat t c.path).names.length:Nat):Int))then(t,5)else(tset c.path t .none true,0):=by
   unfold sDo;rw[hPd,hk];rfl
  have ei:iDo t c=match tat t c.path with
   |none=>(t,3)
   |some x=>bif x.dir&&decide ((0:Int)<((x.names.length:Nat):Int))then(t,5)else(tset c.path t .none true,0):=by
   unfold iDo;rw[hPd,hk];rfl
  rw[es]
  cases hx:tat t c.path with
  |some x=>
   rw[hx]at ei
   have hxa:xat t c.path=x:=by unfold xat;rw[hx];rfl
   dsimp only at ei
   rw[hxa]
   simp only[Option.isSome_some,Bool.not_true,cond_false]
   have hb:(x.dir&&decide ((0:Int)<((x.names.length:Nat):Int)))=decide ((0:Int)<((x.names.length:Nat):Int)):=by
    cases hdx:x.dir with
    |true=>rfl
    |false=>have:=file_names ht hx hdx;rw[this];rfl
   rw[hb]at ei
   cases h0:decide ((0:Int)<((x.names.length:Nat):Int))with
   |true=>rw[h0]at ei;rw[aDo_err hc ei (by decide)];rfl
   |false=>
    rw[h0]at ei
    rw[aDo_ok hc ei]
    unfold fits
    rw[gone_ok ht hp];rfl
  |none=>rw[hx]at ei;rw[aDo_err hc ei (by decide)];rfl
 ·--a rename
  obtain⟨f5,f6⟩:=f4 hk
  have hto:c.to≠[]:=fun h=>by rw[h]at f5;simp at f5
  have es:sDo t c=sRename t c:=by unfold sDo;rw[hPd,hk];rfl
  have ei:iDo t c=iRename t c:=by unfold iDo;rw[hPd,hk];rfl
  rw[es]
  unfold sRename
  unfold iRename at ei
  cases hx:tat t c.path with
  |none=>rw[hx]at ei;rw[aDo_err hc ei (by decide)];rfl
  |some x=>
   rw[hx]at ei
   have hxa:xat t c.path=x:=by unfold xat;rw[hx];rfl
   dsimp only at ei
   rw[hxa]
   simp only[Option.isSome_some,Bool.not_true,cond_false]
   cases hpre:c.path.isPrefixOf c.to with
   |true=>rw[hpre]at ei;rw[aDo_err hc ei (by decide)];rfl
   |false=>
    rw[hpre]at ei
    simp only[cond_false]at ei⊢
    by_cases hQ:parC t c.to=0
    case neg=>rw[decide_eq_false hQ]at ei⊢;rw[aDo_err hc ei hQ];rfl
    rw[decide_eq_true hQ]at ei⊢
    cases hy:tat t c.to with
    |some y=>rw[hy]at ei;rw[aDo_err hc ei (by decide)];rfl
    |none=>
     rw[hy]at ei
     rw [aDo_ok hc ei, swap_ok c.path c.to t (wf_ok ht) (by
      simp only[treeOk,Bool.and_eq_true]at ht;exact tas_parts t 0 ht.2.1) (tnd_ok ht) hp hto (by rw[hx];rfl) hy hpre]
     rfl
 ·--a new mode
  have es:sDo t c=bif !(tat t c.path).isSome then(t,3)else(tset c.path t (wMode (xat t c.path) c.at_) false,0):=by
   unfold sDo;rw[hPd,hk];rfl
  have ei:iDo t c=match tat t c.path with
   |none=>(t,3)
   |some x=>(tset c.path t (wMode x c.at_) false,0):=by
   unfold iDo;rw[hPd,hk];rfl
  rw[es]
  cases hx:tat t c.path with
  |some x=>
   rw[hx]at ei
   have hxa:xat t c.path=x:=by unfold xat;rw[hx];rfl
   dsimp only at ei
   rw[hxa,aDo_ok hc ei]
   unfold fits
   rw[mode_ok ht (hm6 hk) hp hx];rfl
  |none=>rw[hx]at ei;rw[aDo_err hc ei (by decide)];rfl
theorem iTreeDo_eq (t:Tr) (c:Cl):iTreeDo t c=sTreeDo t c:=by
 unfold iTreeDo sTreeDo
 cases ht:treeOk t with
 |false=>rfl
 |true=>
  cases hc:callOk c with
  |false=>simp only[Bool.not_true,Bool.not_false,cond_false,cond_true,aDo,hc]
  |true=>simp only[Bool.not_true,cond_false];exact aDo_sDo ht hc
open Go Go.Proofs
set_option maxRecDepth 100000
theorem marksOf_ok (t:Tr) (c:Cl) (hw:t.W<2^40) (hwf:t.wf=true) (h1:wS c.path<2^40) (h2:wS c.to<2^40):PE G 61 [.agg (tcs t),.agg (clc c)] (.sl 2 ((mksOf t c).map mkc)):=by
 have hl1:=wS_len c.path;have hl2:=wS_len c.to
 refine Pe Tryz.func61 ?_
 refine Rr (Fn2 [] [(3,.ptr 4 0),(2,.ptr 0 0)] ([(4,clc c),(0,tcs t)]++·) 8 (Sq fun K2 hK2=>?_))
 refine Rr (Pc1 2 [(8,.agg (clc c))] 9 (0+5<=5/\0<5) dc (isCall_ok c om om) (Cn0 (!(callOk c)) [2,3] [] ⟨fun hc4 c4=>?_,fun hc4 c4=>?_⟩))
 refine Rr (Fn3 [] [(4,.osl 8 2 0 0)] ([(8,[])]++·) 12 ((0*2<=16777216)/\·) ⟨dc,Fz 8 2 0 ([]) ([]) [(4,.osl 8 2 0 0)] [] [] kr dc (Rt (.sl 2 ([].map mkc)) (fin_lea ?_))⟩)
 rw[show mksOf t c=[] by unfold mksOf;simp only[hc4,Bool.not_true,Bool.not_false,cond_true,cond_false]];exact lea_refl _
 refine Sk (Jn (hK2 (Kp [2,3] (Rr (Fn3 [2,3] [(5,.osl 8 2 0 1)] ([(8,[pth c.path,.bool false])]++·) 12 (((1:Nat)≠0)/\(1+1<=5/\1<5)/\(1*2<=16777216)/\·) ⟨dc,dc,dc,Sq fun K7 hK7=>?_⟩)))))
 refine Rr (Cn1 (decide ((c.kind:Int)=(5:Int))) [2,3,5] [] (((1:Nat)≠0)/\(0+1<=5/\0<5)/\Ki/\·) ⟨dc,dc,rfl,fun hc9 c9=>?_,fun hc9 c9=>?_⟩)
 refine Rr (Bc1 3 [(20,pth c.path),(19,.ptr 4 1)] 98 [.ptr 0 0,pth c.path] 21 (((1:Nat)≠0)/\(1+1<=5/\1<5)/\·) ⟨dc,dc,Tz 0 1 5 ([[.bool t.dir],[.i t.mode],[.str t.data],[pth t.names],[.sl 5 (t.kids.map trc)]]) (tcs t) [.pat (tcs t),pth c.path] [(8,[pth c.path,.bool false]),(4,clc c)] [true,true] kr (by first|decide|simp) (PE.use (atp_ok t c.path om (by assumption) om) ?_)⟩)
 unfold atp
 rcases hf:tat t c.path with _|x
 dsimp only
 refine Ke (Fn0 [3] [(6,.nilp)] (Rr (Fn1 [3] [(7,.bool false)] ((∃e,TK.ptr 42=TK.ptr e)/\·) ⟨⟨_,rfl⟩,Rb (fun h=>Jn (hK7 h)) ?_⟩)))
 refine Fn3 [] [(5,.osl 12 2 0 2)] ([(12,[pth c.path,.bool false,pth c.to,.bool false])]++·) 16 (((1:Nat)≠0)/\(1+1<=5/\1<5)/\((1:Nat)≠0)/\(2+1<=5/\2<5)/\(2*2<=16777216)/\·) ⟨dc,dc,dc,dc,dc,Rr (Bc0 2 [(39,.osl 12 2 0 2)] 60 [.osl 12 2 0 2] 40 (Tz 12 2 2 ([[pth c.path,.bool false],[pth c.to,.bool false]]) ([pth c.path,.bool false,pth c.to,.bool false]) [.sl 2 ([Mk.mk c.path false,Mk.mk c.to false].map mkc)] [(8,[pth c.path,.bool false]),(4,clc c)] [true,true] kr (by first|decide|simp) (PE.use (cloneM_ok [Mk.mk c.path false,Mk.mk c.to false] (by intro q hq;simp only[List.mem_cons,List.not_mem_nil,or_false]at hq;first|(subst hq;assumption)|(rcases hq with rfl|rfl<;>assumption)) (by simp)) ?_)))⟩
 refine Ke (Fn0 [] [(4,.sl 2 ([Mk.mk c.path false,Mk.mk c.to false].map mkc))] (Rt (.sl 2 ([Mk.mk c.path false,Mk.mk c.to false].map mkc)) (fin_lea ?_)))
 rw[show mksOf t c=[Mk.mk c.path false,Mk.mk c.to false] by unfold mksOf;unfold dirAt;simp only[hc4,hc9,Bool.not_true,Bool.not_false,cond_true,cond_false,hf]];exact lea_refl _
 dsimp only
 have hxW:=W_tat _ _ _ hf
 have hxd:=data_W x
 have hxn:=wS_len x.names
 have hxE:=W_eq x
 refine Ke (Fn0 [3] [(6,.pat (tcs x))] (Rr (Fn1 [3] [(7,.bool x.dir)] ((∃e,TK.ptr 42=TK.ptr e)/\((1:Nat)≠0)/\(1<=5/\0<5)/\·) ⟨⟨_,rfl⟩,dc,dc,Rb (fun h=>Jn (hK7 h)) ?_⟩)))
 refine Fn3 [] [(5,.osl 12 2 0 2)] ([(12,[pth c.path,.bool x.dir,pth c.to,.bool x.dir])]++·) 16 (((1:Nat)≠0)/\(1+1<=5/\1<5)/\((1:Nat)≠0)/\(2+1<=5/\2<5)/\(2*2<=16777216)/\·) ⟨dc,dc,dc,dc,dc,Rr (Bc0 2 [(39,.osl 12 2 0 2)] 60 [.osl 12 2 0 2] 40 (Tz 12 2 2 ([[pth c.path,.bool x.dir],[pth c.to,.bool x.dir]]) ([pth c.path,.bool x.dir,pth c.to,.bool x.dir]) [.sl 2 ([Mk.mk c.path x.dir,Mk.mk c.to x.dir].map mkc)] [(8,[pth c.path,.bool false]),(4,clc c)] [true,true] kr (by first|decide|simp) (PE.use (cloneM_ok [Mk.mk c.path x.dir,Mk.mk c.to x.dir] (by intro q hq;simp only[List.mem_cons,List.not_mem_nil,or_false]at hq;first|(subst hq;assumption)|(rcases hq with rfl|rfl<;>assumption)) (by simp)) ?_)))⟩
 refine Ke (Fn0 [] [(4,.sl 2 ([Mk.mk c.path x.dir,Mk.mk c.to x.dir].map mkc))] (Rt (.sl 2 ([Mk.mk c.path x.dir,Mk.mk c.to x.dir].map mkc)) (fin_lea ?_)))
 rw[show mksOf t c=[Mk.mk c.path x.dir,Mk.mk c.to x.dir] by unfold mksOf;unfold dirAt;simp only[hc4,hc9,Bool.not_true,Bool.not_false,cond_true,cond_false,hf]];exact lea_refl _
 refine Sk (Jn (hK7 (Kp [5] (Rr (Bc0 2 [(39,.osl 8 2 0 1)] 60 [.osl 8 2 0 1] 40 (Tz 8 2 1 ([[pth c.path,.bool false]]) ([pth c.path,.bool false]) [.sl 2 ([Mk.mk c.path false].map mkc)] [(4,clc c),(0,tcs t)] [true,true] kr (by first|decide|simp) (PE.use (cloneM_ok [Mk.mk c.path false] (by intro q hq;simp only[List.mem_cons,List.not_mem_nil,or_false]at hq;first|(subst hq;assumption)|(rcases hq with rfl|rfl<;>assumption)) (by simp)) ?_)))))))
 refine Ke (Fn0 [] [(4,.sl 2 ([Mk.mk c.path false].map mkc))] (Rt (.sl 2 ([Mk.mk c.path false].map mkc)) (fin_lea ?_)))
 rw[show mksOf t c=[Mk.mk c.path false] by unfold mksOf;simp only[hc4,hc9,Bool.not_true,Bool.not_false,cond_true,cond_false]];exact lea_refl _
open Go Go.Proofs
set_option maxRecDepth 100000
theorem less11_ok (x y:List Str) (hx:x.length<2^40) (hy:y.length<2^40):PE G 74 [pth x,pth y] (.bool (decide (cmpP x y<(0:Int)))):=by
 refine Pe Tryz.func74 ?_
 refine Rr (Fn0 [0,1] [] (Sq fun K2 hK2=>?_))
 refine Rr (Fn0 [0,1] [(5,.i 0)] (Bl (h_l (fun(k:Nat)=>([(0,pth x),(1,pth y),(5,.i k)]:Fr)) (fun(k:Nat)=>([]:Hp)) (fun(k:Nat) cn=>(k<=x.length/\k<=y.length/\cmpP x y=cmpP (x.drop k) (y.drop k))/\cn=0) (fun(k:Nat)=>x.length-k) 0 kr ?_ ?_ ?_ ?_)))
 refine⟨?_,rfl⟩;exact⟨Nat.zero_le _,Nat.zero_le _,rfl⟩
 exact⟨kr,kr,kr,trivial⟩
 exact(List.nil_sublist _)
 rintro k n1 hI
 (try dsimp only at hI)
 obtain⟨⟨hi1,hi3,hi2⟩,rfl⟩:=hI
 refine Sq fun K4 hK4=>?_
 refine Rm 15 ((decide ((k:Int)<(x.length:Int)))&&(decide ((k:Int)<(y.length:Int)))) [0,1,5] ?_ ?_
 refine Av0 3 8 [(7,pth x),(6,.i k)] (lnm x sc) (An1 2 [(10,.bool (decide ((k:Int)<(x.length:Int)))),(9,.bool (decide ((k:Int)<(x.length:Int))))] (Ki/\·) ⟨rfl,Rg (fun hg6 g6=>?_) (fun hg6 g6=>?_)⟩)
 refine Av0 3 13 [(12,pth y),(11,.i k)] (lnm y sc) (Mn1 (decide ((k:Int)<(y.length:Int))) (Ki/\·) ⟨rfl,(by rw[hg6];rfl)⟩)
 refine Mn0 false (by rw[hg6];rfl)
 refine Cc ((decide ((k:Int)<(x.length:Int)))&&(decide ((k:Int)<(y.length:Int)))) (fun hc7 c7=>?_) fun hc7 c7=>?_
 refine Sk (Jn (hK4 (Kp [0,1,5] (Sq fun K8 hK8=>?_))))
 refine Bl (Qr [0,0,3,7,0,0,48,112,255] [(0,[]),(1,[]),(2,[]),(3,[]),(4,[]),(5,[]),(6,[]),(7,[]),(8,[])] (qAv1 3 20 [(19,.i k),(18,pth x)] (congrArg AV.pat (mg_str x k om)) ((1=1/\(0:Int)<=(k:Int)/\(k:Int)<((x.map (fun s=>[AV.str s])).length:Int))/\·) ⟨⟨rfl,om,lmo⟩,qAv1 4 24 [(23,.i k),(22,pth y),(21,.str (x.getD k default))] (congrArg AV.pat (mg_str y k om)) ((1<=1/\0<1)/\(1=1/\(0:Int)<=(k:Int)/\(k:Int)<((y.map (fun s=>[AV.str s])).length:Int))/\·) ⟨dc,⟨rfl,om,lmo⟩,qCn1 (!((x.getD k default)==(y.getD k default))) [0,1,5] [] ((1<=1/\0<1)/\·) ⟨dc,fun hc10 c10=>?_,fun hc10 c10=>?_⟩⟩⟩))
 refine Qr [0,0,3,7,0,0,48,112,255,511] [(0,[]),(1,[]),(2,[]),(3,[]),(4,[]),(5,[]),(6,[]),(7,[]),(8,[]),(9,[])] (qAv1 3 29 [(28,.i k),(27,pth x)] (congrArg AV.pat (mg_str x k om)) ((1=1/\(0:Int)<=(k:Int)/\(k:Int)<((x.map (fun s=>[AV.str s])).length:Int))/\·) ⟨⟨rfl,om,lmo⟩,qAv1 4 33 [(32,.i k),(31,pth y),(30,.str (x.getD k default))] (congrArg AV.pat (mg_str y k om)) ((1<=1/\0<1)/\(1=1/\(0:Int)<=(k:Int)/\(k:Int)<((y.map (fun s=>[AV.str s])).length:Int))/\·) ⟨dc,⟨rfl,om,lmo⟩,qFn1 [] [(4,.bool (blt (x.getD k default) (y.getD k default)))] ((1<=1/\0<1)/\·) ⟨dc,Rt (.bool (blt (x.getD k default) (y.getD k default))) ?_⟩⟩⟩)
 refine fin_lea ?_
 rw[hi2,cmpP_hd om om (fun h=>by have h2:=hc10;rw[cmpS_eq h]at h2;simp at h2),show decide (cmpS (x.getD k default) (y.getD k default)<0)=blt (x.getD k default) (y.getD k default) by rw[Bool.eq_iff_iff,decide_eq_true_eq];exact cmpS_neg];exact lea_refl _
 refine Sk (Bn (Jn (hK8 (Kp [0,1,5] (Rn (Av1 2 17 [(16,.i k)] (cI (wn1 k om)) (Ki/\·) ⟨rfl,Gn0 [(5,.i ((k+1:Nat):Int))] (nk_n ?_)⟩))))))
 refine Lr (k+1) [] 0 [(0,pth x),(1,pth y),(5,.i ((k+1:Nat):Int))] [] [] ?_ ?_ kr kr
 (try dsimp only);omega
 refine⟨?_,rfl⟩;(try dsimp only);exact⟨om,om,by rw[hi2];exact cmpP_drop om om (by have h:=c10;rw[show x.getD k default=y.getD k default by simpa using h];exact cmpS_self _)⟩
 refine Xt (Jx (Lx (Bh (Jn (hK2 (Kp [0,1] (Rr (Av0 2 37 [(36,pth x)] (lnm x sc) (Av0 2 39 [(38,pth y)] (lnm y sc) (Fn1 [] [(4,.bool (decide ((x.length:Int)<(y.length:Int))))] (Ki/\·) ⟨rfl,?_⟩))))))))))
 refine Rt (.bool (decide ((x.length:Int)<(y.length:Int)))) (fin_lea ?_)
 have hr:decide (cmpP x y<0)=(decide ((x.length:Int)<(y.length:Int))):=by
   rw[hi2]
   rcases Nat.lt_or_ge k x.length with h|h
   · rw[cmpP_gt h om];exact decide_eq_decide.2 ⟨fun h=>by omega,fun h=>by omega⟩
   · rcases Nat.lt_or_ge k y.length with h2|h2
     · rw[cmpP_lt h h2];exact decide_eq_decide.2 ⟨fun h=>by omega,fun h=>by omega⟩
     · rw[cmpP_en h h2];exact decide_eq_decide.2 ⟨fun h=>by omega,fun h=>by omega⟩
 rw[hr];exact lea_refl _
theorem same11_ok (p q:List Str) (hp:p.length<2^40) (hq:q.length<2^40):PE G 35 [pth p,pth q] (.bool (p==q)):=by
 refine Pe Tryz.func35 ?_
 refine Rr (Fn0 [0,1] [] (Rm 4 ((decide ((p.length:Int)=(q.length:Int)))&&(q.isPrefixOf p)) [] ?_ ?_))
 refine Av0 2 6 [(5,pth p)] (lnm p sc) (Av0 2 8 [(7,pth q)] (lnm q sc) (An1 2 [(10,.bool (decide ((p.length:Int)=(q.length:Int)))),(9,.bool (decide ((p.length:Int)=(q.length:Int))))] (Ki/\·) ⟨rfl,Rg (fun hg3 g3=>?_) (fun hg3 g3=>?_)⟩))
 refine Pc0 3 [(12,pth q),(11,pth p)] 13 (l2Within_ok p q om om) (Mn0 (q.isPrefixOf p) (by rw[hg3];rfl))
 refine Mn0 false (by rw[hg3];rfl)
 refine Rt (.bool ((decide ((p.length:Int)=(q.length:Int)))&&(q.isPrefixOf p))) (fin_lea ?_)
 have hr:(p==q)=((decide ((p.length:Int)=(q.length:Int)))&&(q.isPrefixOf p)):=by
   rw[Bool.eq_iff_iff,beq_iff_eq]
   simp only[Bool.and_eq_true,decide_eq_true_eq,List.isPrefixOf_iff_prefix]
   exact⟨fun e=>by subst e;exact⟨rfl,List.prefix_refl _⟩,fun h=>(h.2.eq_of_length (by have:=h.1;omega)).symm⟩
 rw[hr];exact lea_refl _
theorem sMarkOk_ok (m:Mk) (hm:wS m.path<2^40):PE G 90 [.agg (mkc m)] (.bool (mkOk m)):=by
 have hl:=wS_len m.path
 refine Pe Tryz.func90 ?_
 refine Rr (Fn2 [] [(1,.ptr 0 0)] ([(0,mkc m)]++·) 4 (Sq fun K2 hK2=>?_))
 refine Rr (Av1 3 5 [(4,pth m.path),(3,.ptr 0 0)] (lnm m.path sc) (((1:Nat)≠0)/\(0+1<=2/\0<2)/\·) ⟨dc,dc,Cn1 (decide ((m.path.length:Int)=0)) [1] [] (Ki/\·) ⟨rfl,fun hc4 c4=>?_,fun hc4 c4=>?_⟩⟩)
 refine Rr (Fn1 [] [(2,.bool m.sub)] (((1:Nat)≠0)/\(1+1<=2/\1<2)/\·) ⟨dc,dc,Rt (.bool m.sub) ?_⟩)
 · refine fin_lea ?_
   have hr:mkOk m=(m.sub):=by
     unfold mkOk pthOk inb
     rcases Nat.eq_zero_or_pos m.path.length with h0|h0
     · have e:=List.eq_nil_of_length_eq_zero h0
       first|(rw[e];simp;done)|omega
     · first|omega|(rw[show decide (0<m.path.length)=true from decide_eq_true h0,Bool.true_or,Bool.and_true];congr 1;rw[Bool.eq_iff_iff];simp only[Bool.and_eq_true,decide_eq_true_eq];omega)
   rw[hr];exact lea_refl _
 refine Sk (Jn (hK2 (Kp [1] (Rr (Bc1 3 [(10,pth m.path),(9,.ptr 0 0)] 106 [pth m.path] 11 (((1:Nat)≠0)/\(0+1<=2/\0<2)/\·) ⟨dc,dc,PE.use (l2PathOk_ok m.path om (fun s hs=>Nat.lt_trans (wS_mem hs) om)) (Ke ?_)⟩)))))
 refine Fn0 [] [(2,.bool (pthOk m.path 1))] (Rt (.bool (pthOk m.path 1)) ?_)
 · refine fin_lea ?_
   have hr:mkOk m=(pthOk m.path 1):=by
     unfold mkOk pthOk inb
     rcases Nat.eq_zero_or_pos m.path.length with h0|h0
     · have e:=List.eq_nil_of_length_eq_zero h0
       first|(rw[e];simp;done)|omega
     · first|omega|(rw[show decide (0<m.path.length)=true from decide_eq_true h0,Bool.true_or,Bool.and_true];congr 1;rw[Bool.eq_iff_iff];simp only[Bool.and_eq_true,decide_eq_true_eq];omega)
   rw[hr];exact lea_refl _
theorem sUnder_ok (l:List Mk) (p:List Str) (hl:∀m∈l,wS m.path<2^40) (hn:l.length<2^21) (hp:wS p<2^40):PE G 129 [.sl 2 (l.map mkc),pth p] (.bool (undM l p)):=by
 have hpl:=wS_len p
 refine Pe Tryz.func129 ?_
 refine Rr (Fn0 [0,1] [] (Sq fun K2 hK2=>?_))
 refine Rr (Fn0 [0,1] [(5,.i 0)] (Bl (h_l (fun(k:Nat)=>([(0,.sl 2 (l.map mkc)),(1,pth p),(5,.i k)]:Fr)) (fun(k:Nat)=>([]:Hp)) (fun(k:Nat) cn=>(k<=l.length/\undM (l.take k) p=false)/\cn=0) (fun(k:Nat)=>l.length-k) 0 kr ?_ ?_ ?_ ?_)))
 refine⟨?_,rfl⟩;exact⟨Nat.zero_le _,rfl⟩
 exact⟨kr,kr,kr,trivial⟩
 exact(List.nil_sublist _)
 rintro k n1 hI
 (try dsimp only at hI)
 obtain⟨⟨hi1,hi2⟩,rfl⟩:=hI
 refine Sq fun K4 hK4=>?_
 refine Rr (Av0 3 8 [(7,.sl 2 (l.map mkc)),(6,.i k)] (lnm l mkc) (Cn1 (decide ((k:Int)<(l.length:Int))) [0,1,5] [] (Ki/\·) ⟨rfl,fun hc6 c6=>?_,fun hc6 c6=>?_⟩))
 refine Sk (Jn (hK4 (Kp [0,1,5] (Sq fun K7 hK7=>?_))))
 refine Bl ?_
 have hgm:=hl _ (getD_mem l k default om);have hgl:=wS_len (l.getD k default).path
 refine Rm 25 (((l.getD k default).sub)&&(((l.getD k default).path).isPrefixOf p)) [0,1,5] ?_ ?_
 refine Av1 3 14 [(13,.i k),(12,.sl 2 (l.map mkc))] (congrArg AV.pat (mg_mk l k om)) ((2=2/\(0:Int)<=(k:Int)/\(k:Int)<((l.map mkc).length:Int))/\·) ⟨⟨rfl,om,lmo⟩,An1 3 [(17,.bool ((l.getD k default).sub)),(16,.bool ((l.getD k default).sub)),(15,.pat [.bool ((l.getD k default).sub)])] (((1:Nat)≠0)/\(1<=1/\0<1)/\·) ⟨dc,dc,Rg (fun hg9 g9=>?_) (fun hg9 g9=>?_)⟩⟩
 refine Av1 4 21 [(20,.i k),(19,.sl 2 (l.map mkc)),(18,pth p)] (congrArg AV.pat (mg_mk l k om)) ((2=2/\(0:Int)<=(k:Int)/\(k:Int)<((l.map mkc).length:Int))/\·) ⟨⟨rfl,om,lmo⟩,Bc1 3 [(23,pth ((l.getD k default).path)),(22,.pat (mkc (l.getD k default)))] 73 [pth p,pth ((l.getD k default).path)] 24 (((1:Nat)≠0)/\(1<=2/\0<2)/\·) ⟨dc,dc,PE.use (l2Within_ok p ((l.getD k default).path) om om) (Ke (Mn0 (((l.getD k default).path).isPrefixOf p) (by rw[hg9];rfl)))⟩⟩
 refine Mn0 false (by rw[hg9];rfl)
 refine Cc (((l.getD k default).sub)&&(((l.getD k default).path).isPrefixOf p)) (fun hc10 c10=>?_) fun hc10 c10=>?_
 refine Rr (Fn0 [] [(4,.bool true)] (Rt (.bool true) (fin_lea ?_)))
 rw[show undM l p=true from List.any_eq_true.2 ⟨_,getD_mem l k default om,hc10⟩];exact lea_refl _
 refine Sk (Bn (Jn (hK7 (Kp [0,1,5] (Rn (Av1 2 11 [(10,.i k)] (cI (wn1 k om)) (Ki/\·) ⟨rfl,Gn0 [(5,.i ((k+1:Nat):Int))] (nk_n ?_)⟩))))))
 refine Lr (k+1) [] 0 [(0,.sl 2 (l.map mkc)),(1,pth p),(5,.i ((k+1:Nat):Int))] [] [] ?_ ?_ kr kr
 (try dsimp only);omega
 refine⟨?_,rfl⟩;(try dsimp only);exact⟨om,by rw[take_snoc l k default om];simp only[undM,List.any_append,List.any_cons,List.any_nil,Bool.or_false]at hi2⊢;rw[hi2,hc10,Bool.or_false]⟩
 refine Xt (Jx (Lx (Bh (Jn (hK2 (Kp [] (Rr (Fn0 [] [(4,.bool false)] (Rt (.bool false) (fin_lea ?_))))))))))
 obtain rfl:k=l.length:=by omega
 rw[List.take_length]at hi2;rw[hi2];exact lea_refl _
theorem sMarked_ok (l:List Mk) (p:List Str) (hl:∀m∈l,wS m.path<2^40) (hn:l.length<2^21) (hp:wS p<2^40):PE G 130 [.sl 2 (l.map mkc),pth p] (.bool (mrkM l p)):=by
 have hpl:=wS_len p
 refine Pe Tryz.func130 ?_
 refine Rr (Fn0 [0,1] [] (Sq fun K2 hK2=>?_))
 refine Rr (Fn0 [0,1] [(5,.i 0)] (Bl (h_l (fun(k:Nat)=>([(0,.sl 2 (l.map mkc)),(1,pth p),(5,.i k)]:Fr)) (fun(k:Nat)=>([]:Hp)) (fun(k:Nat) cn=>(k<=l.length/\mrkM (l.take k) p=false)/\cn=0) (fun(k:Nat)=>l.length-k) 0 kr ?_ ?_ ?_ ?_)))
 refine⟨?_,rfl⟩;exact⟨Nat.zero_le _,rfl⟩
 exact⟨kr,kr,kr,trivial⟩
 exact(List.nil_sublist _)
 rintro k n1 hI
 (try dsimp only at hI)
 obtain⟨⟨hi1,hi2⟩,rfl⟩:=hI
 refine Sq fun K4 hK4=>?_
 refine Rr (Av0 3 8 [(7,.sl 2 (l.map mkc)),(6,.i k)] (lnm l mkc) (Cn1 (decide ((k:Int)<(l.length:Int))) [0,1,5] [] (Ki/\·) ⟨rfl,fun hc6 c6=>?_,fun hc6 c6=>?_⟩))
 refine Sk (Jn (hK4 (Kp [0,1,5] (Sq fun K7 hK7=>?_))))
 refine Bl ?_
 have hgm:=hl _ (getD_mem l k default om);have hgl:=wS_len (l.getD k default).path
 refine Rm 34 ((l.getD k default).path==p||((l.getD k default).sub&&(l.getD k default).path.isPrefixOf p)) [0,1,5] ?_ ?_
 refine Av1 3 14 [(13,.i k),(12,.sl 2 (l.map mkc))] (congrArg AV.pat (mg_mk l k om)) ((2=2/\(0:Int)<=(k:Int)/\(k:Int)<((l.map mkc).length:Int))/\·) ⟨⟨rfl,om,lmo⟩,Bc1 4 [(17,pth p),(16,pth ((l.getD k default).path)),(15,.pat (mkc (l.getD k default)))] 35 [pth ((l.getD k default).path),pth p] 18 (((1:Nat)≠0)/\(1<=2/\0<2)/\·) ⟨dc,dc,PE.use (same11_ok ((l.getD k default).path) p om om) (Ke (An0 1 [(19,.bool (((l.getD k default).path)==p))] ?_))⟩⟩
 refine Rg (fun hg9 g9=>?_) (fun hg9 g9=>?_)
 refine Mn0 true (by first|(simp_all;done)|(rw[Bool.eq_iff_iff];simp_all;done))
 refine Av1 3 22 [(21,.i k),(20,.sl 2 (l.map mkc))] (congrArg AV.pat (mg_mk l k om)) ((2=2/\(0:Int)<=(k:Int)/\(k:Int)<((l.map mkc).length:Int))/\·) ⟨⟨rfl,om,lmo⟩,An1 3 [(25,.bool ((l.getD k default).sub)),(24,.bool ((l.getD k default).sub)),(23,.pat [.bool ((l.getD k default).sub)])] (((1:Nat)≠0)/\(1<=1/\0<1)/\·) ⟨dc,dc,Rg (fun hg10 g10=>?_) (fun hg10 g10=>?_)⟩⟩
 refine Av1 4 29 [(28,.i k),(27,.sl 2 (l.map mkc)),(26,pth p)] (congrArg AV.pat (mg_mk l k om)) ((2=2/\(0:Int)<=(k:Int)/\(k:Int)<((l.map mkc).length:Int))/\·) ⟨⟨rfl,om,lmo⟩,Bc1 3 [(31,pth ((l.getD k default).path)),(30,.pat (mkc (l.getD k default)))] 73 [pth p,pth ((l.getD k default).path)] 32 (((1:Nat)≠0)/\(1<=2/\0<2)/\·) ⟨dc,dc,PE.use (l2Within_ok p ((l.getD k default).path) om om) (Ke (Mn0 (((l.getD k default).path).isPrefixOf p) (by first|(simp_all;done)|(rw[Bool.eq_iff_iff];simp_all;done))))⟩⟩
 refine Mn0 false (by first|(simp_all;done)|(rw[Bool.eq_iff_iff];simp_all;done))
 refine Cc ((l.getD k default).path==p||((l.getD k default).sub&&(l.getD k default).path.isPrefixOf p)) (fun hc11 c11=>?_) fun hc11 c11=>?_
 refine Rr (Fn0 [] [(4,.bool true)] (Rt (.bool true) (fin_lea ?_)))
 have hr:mrkM l p=true:=by
   have hm:=getD_mem l k default om;have h:=hc11
   unfold mrkM undM;rw[Bool.or_eq_true,List.any_eq_true,List.any_eq_true]
   rw[Bool.or_eq_true]at h
   exact h.elim (fun h=>.inr ⟨_,hm,h⟩) (fun h=>.inl ⟨_,hm,h⟩)
 rw[hr];exact lea_refl _
 refine Sk (Bn (Jn (hK7 (Kp [0,1,5] (Rn (Av1 2 11 [(10,.i k)] (cI (wn1 k om)) (Ki/\·) ⟨rfl,Gn0 [(5,.i ((k+1:Nat):Int))] (nk_n ?_)⟩))))))
 refine Lr (k+1) [] 0 [(0,.sl 2 (l.map mkc)),(1,pth p),(5,.i ((k+1:Nat):Int))] [] [] ?_ ?_ kr kr
 (try dsimp only);omega
 refine⟨?_,rfl⟩;(try dsimp only);exact⟨om,by rw[take_snoc l k default om];simp only[mrkM,undM,List.any_append,List.any_cons,List.any_nil,Bool.or_false,Bool.or_eq_false_iff]at hi2⊢;have h:=hc11;simp_all⟩
 refine Xt (Jx (Lx (Bh (Jn (hK2 (Kp [] (Rr (Fn0 [] [(4,.bool false)] (Rt (.bool false) (fin_lea ?_))))))))))
 obtain rfl:k=l.length:=by omega
 rw[List.take_length]at hi2;rw[hi2];exact lea_refl _
def stepA (l:List Mk) (k:Nat):Bool:=mkOk (l.getD k default)&&(decide (k=0)||decide (cmpP (l.getD (k-1) default).path (l.getD k default).path<0))
theorem stepA_M (l:List Mk) (k:Nat):stepM l k=(stepA l k&& !undM (l.take k) (l.getD k default).path):=by unfold stepM stepA;rw[Bool.and_assoc]
theorem trOk_no {l:List Mk} {k:Nat} (hk:k<l.length) (h:stepM l k=false):trOk l=false:=by
  unfold trOk;rw[Bool.and_eq_false_iff];left;rw[List.all_eq_false];exact⟨k,List.mem_range.2 hk,by rw[h];simp⟩
theorem undM_at {l:List Mk} {j k:Nat} {p:List Str} (hj:j<k) (hk:k<=l.length) (h:((l.getD j default).sub&&(l.getD j default).path.isPrefixOf p)=true):undM (l.take k) p=true:=by
  unfold undM;rw[List.any_eq_true]
  exact⟨l.getD j default,by rw[List.mem_take_iff_getElem];exact⟨j,om,by simp[List.getD,show j<l.length by omega]⟩,h⟩
theorem undM_snoc {l:List Mk} {j:Nat} {p:List Str} (hj:j<l.length) (h0:undM (l.take j) p=false) (h:((l.getD j default).sub&&(l.getD j default).path.isPrefixOf p)=false):undM (l.take (j+1)) p=false:=by
  rw[take_snoc l j default hj,undM_app,h0,Bool.false_or];unfold undM;rw[List.any_cons,List.any_nil,h];rfl
theorem sTrailOk_ok (l:List Mk) (hl:∀m∈l,wS m.path<2^40) (hn:l.length<2^21):PE G 53 [.sl 2 (l.map mkc)] (.bool (trOk l)):=by
 refine Pe Tryz.func53 ?_
 refine Rr (Fn0 [0] [] (Sq fun K2 hK2=>?_))
 refine Rr (Fn0 [0] [(3,.i 0)] (Bl (h_l (fun(k:Nat)=>([(0,.sl 2 (l.map mkc)),(3,.i k)]:Fr)) (fun(k:Nat)=>([]:Hp)) (fun(k:Nat) cn=>(k<=l.length/\(List.range k).all (stepM l)=true)/\cn=0) (fun(k:Nat)=>l.length-k) 0 kr ?_ ?_ ?_ ?_)))
 refine⟨?_,rfl⟩;exact⟨Nat.zero_le _,rfl⟩
 exact⟨kr,kr,trivial⟩
 exact(List.nil_sublist _)
 rintro k n1 hI
 (try dsimp only at hI)
 obtain⟨⟨hi1,hi2⟩,rfl⟩:=hI
 refine Sq fun K4 hK4=>?_
 refine Rr (Av0 3 7 [(6,.sl 2 (l.map mkc)),(5,.i k)] (lnm l mkc) (Cn1 (decide ((k:Int)<(l.length:Int))) [0,3] [] (Ki/\·) ⟨rfl,fun hc6 c6=>?_,fun hc6 c6=>?_⟩))
 refine Sk (Jn (hK4 (Kp [0,3] (Sq fun K7 hK7=>?_))))
 refine Bl (Sq fun K8 hK8=>?_)
 have hgm:=hl _ (getD_mem l k default om);have hgl:=wS_len (l.getD k default).path;have hgm2:=hl _ (getD_mem l ((k:Int)-1).toNat default om);have hgl2:=wS_len (l.getD ((k:Int)-1).toNat default).path;have htk:(l.take k).length<=l.length:=by rw[List.length_take];omega
 refine Qm [0,0,3,7,15,31,63,127,255,511,1023,1023,3071,8191,16383,32767,1023,1023,197631,459775,984063,2097151,4194303,8388607,16777215] [(0,[]),(1,[]),(2,[]),(3,[]),(4,[]),(5,[]),(6,[]),(7,[]),(8,[]),(9,[]),(10,[]),(11,[]),(12,[]),(13,[]),(14,[]),(15,[]),(16,[]),(17,[]),(18,[]),(19,[]),(20,[]),(21,[]),(22,[]),(23,[]),(24,[])] 35 (!stepA l k) [0,3] ?_ ?_
 refine qAv1 3 13 [(12,.i k),(11,.sl 2 (l.map mkc))] (congrArg AV.pat (mg_mk l k om)) ((2=2/\(0:Int)<=(k:Int)/\(k:Int)<((l.map mkc).length:Int))/\·) ⟨⟨rfl,om,lmo⟩,qBc1 2 [(14,.agg (mkc (l.getD k default)))] [] 90 [.agg (mkc (l.getD k default))] 15 ((2<=2/\0<2)/\·) ⟨dc,PE.use (sMarkOk_ok (l.getD k default) om) (Kq (p:=(True)) trivial (qAn0 2 [(17,.bool (!(mkOk (l.getD k default)))),(16,.bool (!(mkOk (l.getD k default))))] ?_))⟩⟩
 refine Qg (fun hg10 g10=>?_) (fun hg10 g10=>?_)
 refine qMn0 true (by unfold stepA;first|(simp_all;done)|(rw[Bool.eq_iff_iff];simp_all;done)|(rw[Bool.eq_iff_iff];simp_all;omega)|(simp_all;omega))
 refine qAn1 3 [(20,.bool (decide ((0:Int)<((k:Int):Int)))),(19,.bool (decide ((0:Int)<((k:Int):Int)))),(18,.i k)] (Ki/\·) ⟨rfl,Qg (fun hg11 g11=>?_) (fun hg11 g11=>?_)⟩
 refine qAv1 (r:=.i (IntKind.i64.wrap ((k:Int)-1))) (v:=.i ((k:Int)-1)) 3 23 [(22,.i k),(21,.sl 2 (l.map mkc))] (cI (wrap64 om om)) (Ki/\·) ⟨rfl,qAv1 1 24 [] (congrArg AV.pat (mg_mk l (((k:Int)-1).toNat) om)) ((2=2/\(0:Int)<=((k:Int)-1)/\((k:Int)-1)<((l.map mkc).length:Int))/\·) ⟨⟨rfl,om,lmo⟩,qAv1 5 29 [(28,.i k),(27,.sl 2 (l.map mkc)),(26,pth ((l.getD (((k:Int)-1).toNat) default).path)),(25,.pat (mkc (l.getD (((k:Int)-1).toNat) default)))] (congrArg AV.pat (mg_mk l k om)) (((1:Nat)≠0)/\(1<=2/\0<2)/\(2=2/\(0:Int)<=(k:Int)/\(k:Int)<((l.map mkc).length:Int))/\·) ⟨dc,dc,⟨rfl,om,lmo⟩,qBc1 3 [(31,pth ((l.getD k default).path)),(30,.pat (mkc (l.getD k default)))] [] 74 [pth ((l.getD (((k:Int)-1).toNat) default).path),pth ((l.getD k default).path)] 32 (((1:Nat)≠0)/\(1<=2/\0<2)/\·) ⟨dc,dc,PE.use (less11_ok ((l.getD (((k:Int)-1).toNat) default).path) ((l.getD k default).path) om om) ?_⟩⟩⟩⟩
 refine Kq (p:=(True)) trivial ?_
 refine qMn0 (!(decide (cmpP ((l.getD (((k:Int)-1).toNat) default).path) ((l.getD k default).path)<(0:Int)))) (by unfold stepA;first|(simp_all;done)|(rw[Bool.eq_iff_iff];simp_all;done)|(rw[Bool.eq_iff_iff];simp_all;omega)|(simp_all;omega))
 refine qMn0 false (by unfold stepA;first|(simp_all;done)|(rw[Bool.eq_iff_iff];simp_all;done)|(rw[Bool.eq_iff_iff];simp_all;omega)|(simp_all;omega))
 refine Cc (!stepA l k) (fun hc12 c12=>?_) fun hc12 c12=>?_
 refine Rr (Fn0 [] [(2,.bool false)] (Rt (.bool false) (fin_lea ?_)))
 rw[trOk_no (k:=k) om (by rw[stepA_M,show stepA l k=false by have h:=hc12;simpa using h];rfl)];exact lea_refl _
 refine Sk (Jn (hK8 (Kp [0,3] (Rr (Fn0 [0,3] [(4,.i 0)] (Bl (h_l (fun(j:Nat)=>([(0,.sl 2 (l.map mkc)),(3,.i k),(4,.i j)]:Fr)) (fun(j:Nat)=>([]:Hp)) (fun(j:Nat) cn=>(j<=k/\undM (l.take j) (l.getD k default).path=false)/\cn=0) (fun(j:Nat)=>k-j) 0 kr ?_ ?_ ?_ ?_)))))))
 refine⟨?_,rfl⟩;exact⟨Nat.zero_le _,rfl⟩
 exact⟨kr,kr,kr,trivial⟩
 exact(List.nil_sublist _)
 rintro j n1 hI
 (try dsimp only at hI)
 obtain⟨⟨hj1,hj2⟩,rfl⟩:=hI
 refine Sq fun K15 hK15=>?_
 refine Rr (Cn1 (decide ((j:Int)<(k:Int))) [0,3,4] [] (Ki/\·) ⟨rfl,fun hc17 c17=>?_,fun hc17 c17=>?_⟩)
 refine Sk (Jn (hK15 (Kp [0,3,4] (Sq fun K18 hK18=>?_))))
 refine Bl ?_
 have hgmj:=hl _ (getD_mem l j default om);have hgj:=wS_len (l.getD j default).path
 refine Qm [0,0,3,7,15,31,63,63,255,511,1023,63,63,6207,14399,30783,65535,131071] [(0,[]),(1,[]),(2,[]),(3,[]),(4,[]),(5,[]),(6,[]),(7,[]),(8,[]),(9,[]),(10,[]),(11,[]),(12,[]),(13,[]),(14,[]),(15,[]),(16,[]),(17,[])] 58 (((l.getD j default).sub)&&(((l.getD j default).path).isPrefixOf ((l.getD k default).path))) [0,3,4] ?_ ?_
 refine qAv1 3 43 [(42,.i j),(41,.sl 2 (l.map mkc))] (congrArg AV.pat (mg_mk l j om)) ((2=2/\(0:Int)<=(j:Int)/\(j:Int)<((l.map mkc).length:Int))/\·) ⟨⟨rfl,om,lmo⟩,qAn1 3 [(46,.bool ((l.getD j default).sub)),(45,.bool ((l.getD j default).sub)),(44,.pat [.bool ((l.getD j default).sub)])] (((1:Nat)≠0)/\(1<=1/\0<1)/\·) ⟨dc,dc,Qg (fun hg20 g20=>?_) (fun hg20 g20=>?_)⟩⟩
 refine qAv1 3 49 [(48,.i k),(47,.sl 2 (l.map mkc))] (congrArg AV.pat (mg_mk l k om)) ((2=2/\(0:Int)<=(k:Int)/\(k:Int)<((l.map mkc).length:Int))/\·) ⟨⟨rfl,om,lmo⟩,qAv1 5 54 [(53,.i j),(52,.sl 2 (l.map mkc)),(51,pth ((l.getD k default).path)),(50,.pat (mkc (l.getD k default)))] (congrArg AV.pat (mg_mk l j om)) (((1:Nat)≠0)/\(1<=2/\0<2)/\(2=2/\(0:Int)<=(j:Int)/\(j:Int)<((l.map mkc).length:Int))/\·) ⟨dc,dc,⟨rfl,om,lmo⟩,qBc1 3 [(56,pth ((l.getD j default).path)),(55,.pat (mkc (l.getD j default)))] [] 73 [pth ((l.getD k default).path),pth ((l.getD j default).path)] 57 (((1:Nat)≠0)/\(1<=2/\0<2)/\·) ⟨dc,dc,PE.use (l2Within_ok ((l.getD k default).path) ((l.getD j default).path) om om) (Kq (p:=(True)) trivial ?_)⟩⟩⟩
 refine qMn0 (((l.getD j default).path).isPrefixOf ((l.getD k default).path)) (by rw[hg20];rfl)
 refine qMn0 false (by rw[hg20];rfl)
 refine Cc (((l.getD j default).sub)&&(((l.getD j default).path).isPrefixOf ((l.getD k default).path))) (fun hc21 c21=>?_) fun hc21 c21=>?_
 refine Rr (Fn0 [] [(2,.bool false)] (Rt (.bool false) (fin_lea ?_)))
 rw[trOk_no (k:=k) om (by rw[stepA_M,undM_at (j:=j) om om hc21];simp)];exact lea_refl _
 refine Sk (Bn (Jn (hK18 (Kp [0,3,4] (Rn (Av1 2 40 [(39,.i j)] (cI (wn1 j om)) (Ki/\·) ⟨rfl,Gn0 [(4,.i ((j+1:Nat):Int))] (nk_n ?_)⟩))))))
 refine Lr (j+1) [] 0 [(0,.sl 2 (l.map mkc)),(3,.i k),(4,.i ((j+1:Nat):Int))] [] [] ?_ ?_ kr kr
 (try dsimp only);omega
 refine⟨?_,rfl⟩;(try dsimp only);exact⟨om,undM_snoc om hj2 hc21⟩
 refine Xt (Jx (Lx (Bh (Bn (Jn (hK7 (Kp [0,3] (Rn (Av1 2 10 [(9,.i k)] (cI (wn1 k om)) (Ki/\·) ⟨rfl,Gn0 [(3,.i ((k+1:Nat):Int))] (nk_n ?_)⟩)))))))))
 refine Lr (k+1) [] 0 [(0,.sl 2 (l.map mkc)),(3,.i ((k+1:Nat):Int))] [] [] ?_ ?_ kr kr
 (try dsimp only);omega
 refine⟨?_,rfl⟩;(try dsimp only);obtain rfl:j=k:=by omega
 exact⟨om,by rw[List.range_succ,List.all_append,hi2,List.all_cons,List.all_nil,Bool.and_true,Bool.true_and,stepA_M,hj2];have h:=hc12;simpa using h⟩
 refine Xt (Jx (Lx (Bh (Jn (hK2 (Kp [0] (Rr (Av0 2 60 [(59,.sl 2 (l.map mkc))] (lnm l mkc) (Fn1 [] [(2,.bool (decide ((l.length:Int)<=6)))] (Ki/\·) ⟨rfl,Rt (.bool (decide ((l.length:Int)<=6))) ?_⟩)))))))))
 refine fin_lea ?_
 obtain rfl:k=l.length:=by omega
 rw[show trOk l=decide ((l.length:Int)<=6) by unfold trOk;rw[hi2,Bool.true_and];exact decide_eq_decide.2 ⟨fun h=>by omega,fun h=>by omega⟩];exact lea_refl _
theorem copyM_ok (l:List Mk) (hl:∀m∈l,wS m.path<2^40) (hn:l.length<2^21):PE G 54 [.sl 2 (l.map mkc)] (.sl 2 (l.map mkc)):=by
 refine Pe Tryz.func54 ?_
 refine Rr (Fn0 [0] [] (Rr (Fn3 [0] [(3,.osl 0 2 0 0)] ([(0,[])]++·) 4 ((0*2<=16777216)/\·) ⟨dc,Sq fun K3 hK3=>?_⟩)))
 refine Rr (Fn0 [0,3] [(4,.i 0)] (Bl (h_l (fun(k:Nat)=>([(0,.sl 2 (l.map mkc)),(3,.osl 0 2 0 ((l.take k).length)),(4,.i k)]:Fr)) (fun(k:Nat)=>([(0,fl mkc (l.take k))]:Hp)) (fun(k:Nat) cn=>(k<=l.length)/\cn=4) (fun(k:Nat)=>l.length-k) 0 kr ?_ ?_ ?_ ?_)))
 refine⟨?_,rfl⟩;exact Nat.zero_le _
 exact⟨kr,kr,kr,trivial⟩
 exact(sub_c kr (List.nil_sublist _))
 rintro k n1 hI
 (try dsimp only at hI)
 obtain⟨hi1,rfl⟩:=hI
 refine Sq fun K5 hK5=>?_
 refine Rr (Av0 3 8 [(7,.sl 2 (l.map mkc)),(6,.i k)] (lnm l mkc) (Cn1 (decide ((k:Int)<(l.length:Int))) [0,3,4] [] (Ki/\·) ⟨rfl,fun hc7 c7=>?_,fun hc7 c7=>?_⟩))
 refine Sk (Jn (hK5 (Kp [0,3,4] (Sq fun K8 hK8=>?_))))
 refine Bl ?_
 have hgm:=hl _ (getD_mem l k default om);have hgl:=wS_len (l.getD k default).path;have htk:(l.take k).length=k:=by rw[List.length_take];omega
 refine Qlb [0,0,0,0,12,28,60,126,0,0,768,1792,3840,8190,16382,32767] [(0,[]),(2,[]),(3,[]),(4,[]),(5,[]),(6,[]),(8,[]),(9,[]),(10,[]),(11,[]),(12,[]),(1,[6,12]),(7,[12]),(13,[]),(14,[]),(15,[])] (fun h=>Bn (Jn (hK8 h))) ?_
 refine qAv1 4 16 [(15,.i k),(14,.sl 2 (l.map mkc)),(12,.osl 0 2 0 ((l.take k).length))] (congrArg AV.pat (mg_mk l k om)) ((2=2/\(0:Int)<=(k:Int)/\(k:Int)<((l.map mkc).length:Int))/\·) ⟨⟨rfl,om,lmo⟩,qAv1 5 22 [(21,.i k),(20,.sl 2 (l.map mkc)),(18,pth ((l.getD k default).path)),(17,.pat (mkc (l.getD k default)))] (congrArg AV.pat (mg_mk l k om)) (((1:Nat)≠0)/\(1<=2/\0<2)/\(2=2/\(0:Int)<=(k:Int)/\(k:Int)<((l.map mkc).length:Int))/\·) ⟨dc,dc,⟨rfl,om,lmo⟩,qAn3 4 [(19,.osl 8 1 0 (0+(((l.getD k default).path).map (fun s=>[AV.str s])).length)),(13,.osl 4 1 0 0),(24,.bool ((l.getD k default).sub)),(23,.pat [.bool ((l.getD k default).sub)])] ([(8,apd [] (0*1) ((((l.getD k default).path).map (fun s=>[AV.str s])).flatten))]++·) 12 (fun Z=>((1:Nat)≠0)/\(1<=1/\0<1)/\(0*1<=16777216)/\(((1<=2/\0<2)/\(pth ((l.getD k default).path)=pth ((l.getD k default).path)))/\((1<=1/\0<1)/\(AV.bool ((l.getD k default).sub)=(.bool ((l.getD k default).sub):AV)))/\True)/\True/\(1=1/\0*1<=0/\0<16/\(0+(((l.getD k default).path).map (fun s=>[AV.str s])).length)*16<=140737488355328)/\(((1<=1/\0<1)/\(AV.bool ((l.getD k default).sub)=(.bool ((l.getD k default).sub):AV)))/\True)/\Z) ⟨dc,dc,dc,⟨⟨dc,rfl⟩,⟨dc,rfl⟩,trivial⟩,trivial,⟨rfl,gl,dc,gl⟩,⟨⟨dc,rfl⟩,trivial⟩,runq_v (v':=.osl 8 1 0 (((l.getD k default).path).length)) (by rw[Nat.zero_add,List.length_map]) (runq_h (cs':=fl sc ((l.getD k default).path)) (app0_str _) ?_)⟩⟩⟩
 refine qAn3 3 [(27,.osl 16 2 0 ((l.take k).length+1)),(26,.osl 12 2 0 1),(25,.agg [.osl 8 1 0 (((l.getD k default).path).length),.bool ((l.getD k default).sub)])] (fun _=>[(16,apd (fl mkc (l.take k)) ((l.take k).length*2) ((([.osl 8 1 0 (((l.getD k default).path).length),.bool ((l.getD k default).sub)]:List AV).drop 0).take (1*2))),(12,[.osl 8 1 0 (((l.getD k default).path).length),.bool ((l.getD k default).sub)]),(8,fl sc ((l.getD k default).path))]) 20 ((1*2<=16777216)/\(True)/\(0+1*2<=([.osl 8 1 0 (((l.getD k default).path).length),.bool ((l.getD k default).sub)]:List AV).length)/\(2=2/\(l.take k).length*2<=(fl mkc (l.take k)).length/\0<32/\((l.take k).length+1)*32<=140737488355328)/\(True)/\·) ⟨dc,trivial,(by first|decide|simp),⟨rfl,by(first|omega|(simp only[LL,flMl];omega)),dc,by(first|omega|(simp only[LL,flMl];omega))⟩,trivial,runq_H (H':=[(16,fl mkc (l.take k)++[.osl 8 1 0 (((l.getD k default).path).length),.bool ((l.getD k default).sub)]),(12,[.osl 8 1 0 (((l.getD k default).path).length),.bool ((l.getD k default).sub)]),(8,fl sc ((l.getD k default).path))]) (by rw[show apd (fl mkc (l.take k)) ((l.take k).length*2) ((([.osl 8 1 0 (((l.getD k default).path).length),.bool ((l.getD k default).sub)]:List AV).drop 0).take (1*2))=fl mkc (l.take k)++[.osl 8 1 0 (((l.getD k default).path).length),.bool ((l.getD k default).sub)]from(by unfold apd;rw[fl_full mkc_len (l.take k) rfl];rfl)]) (qGn0 [] (Lo 3 (.osl 16 2 0 ((l.take k).length+1)) (fun Z=>Z) (Cfi [0,3,4] ?_)))⟩
 refine FzM 8 16 (l.take k) ((l.getD k default).path) ((l.getD k default).sub) [(0,.sl 2 (l.map mkc)),(3,.osl 16 2 0 ((l.take k).length+1)),(4,.i k)] [] [] ?_
 refine Rn (Av1 2 11 [(10,.i k)] (cI (wn1 k om)) (Ki/\·) ⟨rfl,Gn0 [(4,.i ((k+1:Nat):Int))] (nk_n (Lr (k+1) [(16,0)] 4 [(0,.sl 2 (l.map mkc)),(3,.osl 16 2 0 ((l.take k).length+1)),(4,.i ((k+1:Nat):Int))] [(16,fl mkc (l.take k++[Mk.mk ((l.getD k default).path) ((l.getD k default).sub)]))] [false] ?_ ?_ (by(try ((try dsimp only);rw[take_snoc l k default om]));try kernel_rfl) (by(try ((try dsimp only);rw[take_snoc l k default om,List.length_append]));try kernel_rfl)))⟩)
 (try dsimp only);omega
 refine⟨?_,rfl⟩;(try dsimp only);omega
 refine Xt (Jx (Lx (Bh (Jn (hK3 (Kp [3] (Rr (Fn0 [] [(2,.osl 0 2 0 ((l.take k).length))] (Fz 0 2 ((l.take k).length) ((l.take k).map mkc) (fl mkc (l.take k)) [(2,.osl 0 2 0 ((l.take k).length))] [] [] (chkM _) (flM_le _) (Rt (.sl 2 ((l.take k).map mkc)) ?_))))))))))
 refine fin_lea ?_
 rw[List.take_of_length_le om];exact lea_refl _
def PutI (m:Mk) (f o:List Mk) (d:Bool):Prop:=(d=false/\o=f/\∀x∈f,¬cmpP m.path x.path<0)\/(d=true/\o=insM m f/\∃x∈f,cmpP m.path x.path<0)
theorem insM_none {m:Mk}:∀{f:List Mk} (g:List Mk),(∀x∈f,¬cmpP m.path x.path<0)->insM m (f++g)=f++insM m g
  |[],_,_=>rfl
  |x::f,g,h=>by
    rw[List.cons_append,insM,if_neg (h x List.mem_cons_self),insM_none g fun y hy=>h y (List.mem_cons_of_mem _ hy)];rfl
theorem insM_some {m:Mk}:∀{f:List Mk} (g:List Mk),(∃x∈f,cmpP m.path x.path<0)->insM m (f++g)=insM m f++g
  |[],_,h=>by obtain⟨x,hx,_⟩:=h;cases hx
  |x::f,g,h=>by
    rw[List.cons_append,insM,insM]
    split
    · rfl
    · rename_i hc
      obtain⟨y,hy,h⟩:=h
      rw[insM_some g ⟨y,(List.mem_cons.1 hy).resolve_left (fun e=>hc (e▸h)),h⟩];rfl
theorem PutI.hit {m x:Mk} {f o:List Mk} {d:Bool} (h:PutI m f o d) (hd:(!d&&decide (cmpP m.path x.path<(0:Int)))=true):PutI m (f++[x]) (o++[m]++[x]) true:=by
  simp only[Bool.and_eq_true,Bool.not_eq_true',decide_eq_true_eq]at hd
  rcases h with ⟨_,rfl,h⟩|⟨e,_⟩
  · exact .inr ⟨rfl,by rw[insM_none _ h,insM,if_pos hd.2,List.append_assoc];rfl,x,by simp,hd.2⟩
  · rw[hd.1]at e;cases e
theorem PutI.go {m x:Mk} {f o:List Mk} {d:Bool} (h:PutI m f o d) (hd:(!d&&decide (cmpP m.path x.path<(0:Int)))=false):PutI m (f++[x]) (o++[x]) d:=by
  rcases h with ⟨rfl,rfl,h⟩|⟨rfl,rfl,y,hy,h⟩
  · exact .inl ⟨rfl,rfl,fun y hy=>(List.mem_append.1 hy).elim (h y) fun hy=>by rw[List.mem_singleton]at hy;subst hy;simpa using hd⟩
  · exact .inr ⟨rfl,(insM_some _ ⟨y,hy,h⟩).symm,y,List.mem_append_left _ hy,h⟩
theorem PutI.fin {m:Mk} {f o:List Mk} {d:Bool} (h:PutI m f o d):(bif d then o else o++[m])=insM m f:=by
  rcases h with ⟨rfl,rfl,h⟩|⟨rfl,rfl,_⟩
  · have:=insM_none [] h;rw[List.append_nil]at this;rw[this];rfl
  · rfl
theorem PutI.len {m:Mk} {f o:List Mk} {d:Bool} (h:PutI m f o d):o.length<=f.length+1:=by
  rcases h with ⟨rfl,rfl,h⟩|⟨rfl,rfl,_⟩
  · omega
  · rw[(insM_perm _ _).length_eq];simp
theorem put11_ok (l:List Mk) (m:Mk) (hl:∀m∈l,wS m.path<2^40) (hn:l.length<2^21) (hm:wS m.path<2^40):PE G 92 [.sl 2 (l.map mkc),.agg (mkc m)] (.sl 2 ((putM l m).map mkc)):=by
 have hml:=wS_len m.path
 refine Pe Tryz.func92 ?_
 refine Rr (Fn2 [0] [(3,.ptr 0 0)] ([(0,mkc m)]++·) 4 (Sq fun K2 hK2=>?_))
 refine Rm 23 (addC l m) [0,3] ?_ ?_
 refine Bc1 4 [(11,pth m.path),(10,.ptr 0 0),(9,.sl 2 (l.map mkc))] 129 [.sl 2 (l.map mkc),pth m.path] 12 (((1:Nat)≠0)/\(0+1<=2/\0<2)/\·) ⟨dc,dc,?_⟩
 refine PE.use (sUnder_ok l m.path hl om om) ?_
 refine Ke (An0 1 [(13,.bool (undM l m.path))] (Rg (fun hg4 g4=>?_) (fun hg4 g4=>?_)))
 refine Mn0 true (by unfold addC;first|(simp_all;done)|(rw[Bool.eq_iff_iff];simp_all;done))
 refine An1 4 [(17,.bool (!m.sub)),(16,.bool (!m.sub)),(15,.bool m.sub),(14,.ptr 0 1)] (((1:Nat)≠0)/\(1+1<=2/\1<2)/\·) ⟨dc,dc,Rg (fun hg5 g5=>?_) (fun hg5 g5=>?_)⟩
 refine Bc1 4 [(20,pth m.path),(19,.ptr 0 0),(18,.sl 2 (l.map mkc))] 130 [.sl 2 (l.map mkc),pth m.path] 21 (((1:Nat)≠0)/\(0+1<=2/\0<2)/\·) ⟨dc,dc,?_⟩
 refine PE.use (sMarked_ok l m.path hl om om) ?_
 refine Ke (Mn0 (mrkM l m.path) (by unfold addC;first|(simp_all;done)|(rw[Bool.eq_iff_iff];simp_all;done)))
 refine Mn0 false (by unfold addC;first|(simp_all;done)|(rw[Bool.eq_iff_iff];simp_all;done))
 refine Cc (addC l m) (fun hc6 c6=>?_) fun hc6 c6=>?_
 refine Rr (Fn0 [] [(4,.sl 2 (l.map mkc))] (Rt (.sl 2 (l.map mkc)) (fin_lea ?_)))
 unfold putM
 rw[if_pos hc6];exact lea_refl _
 refine Sk (Jn (hK2 (Kp [0,3] (Rr (Fn3 [0,3] [(5,.osl 4 2 0 0)] ([(4,[])]++·) 8 ((0*2<=16777216)/\·) ⟨dc,Rr (Fn0 [0,3,5] [(6,.bool false)] ?_)⟩)))))
 refine Sq fun K10 hK10=>?_
 refine Rr (Fn0 [0,3,5,6] [(7,.i 0)] (Bl (h_l (fun(z:Nat×List Mk×Bool)=>(match z with|(k,o,d)=>([(0,.sl 2 (l.map mkc)),(3,.ptr 0 0),(5,.osl 4 2 0 o.length),(6,.bool d),(7,.i k)]:Fr))) (fun(z:Nat×List Mk×Bool)=>(match z with|(k,o,d)=>([(4,fl mkc o),(0,mkc m)]:Hp))) (fun(z:Nat×List Mk×Bool) cn=>(match z with|(k,o,d)=>(k<=l.length/\PutI m ((l.take k).filter (keepM m)) o d)/\cn=8)) (fun(z:Nat×List Mk×Bool)=>l.length-z.1) (0,[],false) kr ?_ ?_ ?_ ?_)))
 refine⟨?_,rfl⟩;exact⟨Nat.zero_le _,.inl ⟨rfl,rfl,by simp⟩⟩
 exact⟨kr,kr,kr,kr,kr,trivial⟩
 exact(sub_c kr (sub_c kr (List.nil_sublist _)))
 rintro⟨k,o,d⟩ n1 hI
 (try dsimp only at hI)
 obtain⟨⟨hi1,hi2⟩,rfl⟩:=hI
 have hol:=hi2.len;have hfl:=List.length_filter_le (keepM m) (l.take k);have htl:(l.take k).length<=l.length:=by rw[List.length_take];omega
 refine Sq fun K12 hK12=>?_
 refine Rr (Av0 3 28 [(27,.sl 2 (l.map mkc)),(26,.i k)] (lnm l mkc) (Cn1 (decide ((k:Int)<(l.length:Int))) [0,3,5,6,7] [] (Ki/\·) ⟨rfl,fun hc14 c14=>?_,fun hc14 c14=>?_⟩))
 refine Sk (Jn (hK12 (Kp [0,3,5,6,7] (Sq fun K15 hK15=>?_))))
 refine Bl ?_
 have hgm:=hl _ (getD_mem l k default om);have hgl:=wS_len (l.getD k default).path;have htk:(l.take k).length=k:=by rw[List.length_take];omega
 refine Rr (Av1 3 34 [(33,.i k),(32,.sl 2 (l.map mkc))] (congrArg AV.pat (mg_mk l k om)) ((2=2/\(0:Int)<=(k:Int)/\(k:Int)<((l.map mkc).length:Int))/\·) ⟨⟨rfl,om,lmo⟩,Fn3 [0,3,5,6,7] [(8,.ptr 8 0)] ([(8,mkc (l.getD k default))]++·) 12 ((2<=2/\0<2)/\(true=true/\2=2/\0+2<=2)/\·) ⟨dc,dc,Sq fun K17 hK17=>?_⟩⟩)
 refine Rm 44 (!keepM m (l.getD k default)) [0,3,5,6,7,8] ?_ ?_
 refine An1 3 [(38,.bool m.sub),(37,.bool m.sub),(36,.ptr 0 1)] (((1:Nat)≠0)/\(1+1<=2/\1<2)/\·) ⟨dc,dc,Rg (fun hg19 g19=>?_) (fun hg19 g19=>?_)⟩
 refine Bc1 5 [(42,pth m.path),(41,.ptr 0 0),(40,pth ((l.getD k default).path)),(39,.ptr 8 0)] 73 [pth ((l.getD k default).path),pth m.path] 43 (((1:Nat)≠0)/\(0+1<=2/\0<2)/\((1:Nat)≠0)/\(0+1<=2/\0<2)/\·) ⟨dc,dc,dc,dc,?_⟩
 refine PE.use (l2Within_ok ((l.getD k default).path) m.path om om) ?_
 refine Ke (Mn0 (m.path.isPrefixOf ((l.getD k default).path)) (by unfold keepM;first|(simp_all;done)|(rw[Bool.eq_iff_iff];simp_all;done)))
 refine Mn0 false (by unfold keepM;first|(simp_all;done)|(rw[Bool.eq_iff_iff];simp_all;done))
 refine Cc (!keepM m (l.getD k default)) (fun hc20 c20=>?_) fun hc20 c20=>?_
 refine Xt (Jx (Bh (Jn (hK15 (Kp [0,3,5,6,7] (Rn (Av1 2 31 [(30,.i k)] (cI (wn1 k om)) (Ki/\·) ⟨rfl,Gn0 [(7,.i ((k+1:Nat):Int))] (nk_n ?_)⟩)))))))
 refine Lr (k+1,o,d) [(0,0),(4,4)] 8 [(0,.sl 2 (l.map mkc)),(3,.ptr 0 0),(5,.osl 4 2 0 o.length),(6,.bool d),(7,.i ((k+1:Nat):Int))] [(4,fl mkc o),(0,mkc m)] [false,true] ?_ ?_ kr kr
 (try dsimp only);omega
 refine⟨?_,rfl⟩;(try dsimp only);refine⟨om,?_⟩
 rw[filt_f om (by simpa using hc20)];exact hi2
 refine Sk (Jn (hK17 (Kp [0,3,5,6,7,8] (Sq fun K21 hK21=>?_))))
 refine Rm 53 ((!d)&&(decide (cmpP m.path ((l.getD k default).path)<(0:Int)))) [0,3,5,6,7,8] ?_ ?_
 refine An0 3 [(47,.bool (!d)),(46,.bool (!d)),(45,.bool d)] (Rg (fun hg23 g23=>?_) (fun hg23 g23=>?_))
 refine Bc1 5 [(51,pth ((l.getD k default).path)),(50,.ptr 8 0),(49,pth m.path),(48,.ptr 0 0)] 74 [pth m.path,pth ((l.getD k default).path)] 52 (((1:Nat)≠0)/\(0+1<=2/\0<2)/\((1:Nat)≠0)/\(0+1<=2/\0<2)/\·) ⟨dc,dc,dc,dc,?_⟩
 refine PE.use (less11_ok m.path ((l.getD k default).path) om om) ?_
 refine Ke (Mn0 (decide (cmpP m.path ((l.getD k default).path)<(0:Int))) (by rw[hg23];rfl))
 refine Mn0 false (by rw[hg23];rfl)
 refine Cc ((!d)&&(decide (cmpP m.path ((l.getD k default).path)<(0:Int)))) (fun hc24 c24=>?_) fun hc24 c24=>?_
 refine Rr (An3 4 [(57,.osl 16 2 0 (o.length+1)),(56,.osl 12 2 0 1),(55,.agg (mkc m)),(54,.osl 4 2 0 o.length)] ([(16,apd (fl mkc o) (o.length*2) (mkc m)),(12,mkc m)]++Hw [] [4] ·) 20 ((0+2<=2/\0<2)/\(1*2<=16777216)/\(0+1*2<=2)/\(2=2/\o.length*2<=(fl mkc o).length/\0<32/\(o.length+1)*32<=140737488355328)/\·) ⟨dc,dc,dc,⟨rfl,by(first|omega|(simp only[LL,flMl];omega)),dc,by(first|omega|(simp only[LL,flMl];omega))⟩,run_v (v':=.osl 16 2 0 ((o++[m]).length)) (push_len _ _ _ _) (run_h (cs':=fl mkc (o++[m])) (push_mk o m) (Fn0 [0,3,7,8] [(5,.osl 16 2 0 ((o++[m]).length))] ?_))⟩)
 refine Rb (fun h=>Jn (hK21 h)) (Fn0 [0,3,5,7,8] [(6,.bool true)] (Rb (fun h=>Bn (Jn (hK15 h))) (An3 4 [(61,.osl 24 2 0 ((o++[m]).length+1)),(60,.osl 20 2 0 1),(59,.agg (mkc (l.getD k default))),(58,.osl 16 2 0 ((o++[m]).length))] ([(24,apd (fl mkc (o++[m])) ((o++[m]).length*2) (mkc (l.getD k default))),(20,mkc (l.getD k default))]++Hw [] [16] ·) 28 ((0+2<=2/\0<2)/\(1*2<=16777216)/\(0+1*2<=2)/\(2=2/\(o++[m]).length*2<=(fl mkc (o++[m])).length/\0<32/\((o++[m]).length+1)*32<=140737488355328)/\·) ⟨dc,dc,dc,⟨rfl,by(first|omega|(simp only[LL,flMl];omega)),dc,by(first|omega|(simp only[LL,flMl];omega))⟩,run_v (v':=.osl 24 2 0 ((o++[m]++[(l.getD k default)]).length)) (push_len _ _ _ _) ?_⟩)))
 refine run_h (cs':=fl mkc (o++[m]++[(l.getD k default)])) (push_mk (o++[m]) (l.getD k default)) ?_
 refine Fn0 [0,3,6,7] [(5,.osl 24 2 0 ((o++[m]++[(l.getD k default)]).length))] (Rn (Av1 2 31 [(30,.i k)] (cI (wn1 k om)) (Ki/\·) ⟨rfl,Gn0 [(7,.i ((k+1:Nat):Int))] (nk_n ?_)⟩))
 refine Lr (k+1,o++[m]++[(l.getD k default)],true) [(0,0),(24,4)] 8 [(0,.sl 2 (l.map mkc)),(3,.ptr 0 0),(5,.osl 24 2 0 ((o++[m]++[(l.getD k default)]).length)),(6,.bool true),(7,.i ((k+1:Nat):Int))] [(24,fl mkc (o++[m]++[(l.getD k default)])),(0,mkc m)] [false,true] ?_ ?_ kr kr
 (try dsimp only);omega
 refine⟨?_,rfl⟩;(try dsimp only);refine⟨om,?_⟩
 rw[filt_t om (by simpa using hc20)];exact hi2.hit hc24
 refine Sk (Jn (hK21 (Kp [0,3,5,6,7,8] (Rb (fun h=>Bn (Jn (hK15 h))) (An3 4 [(61,.osl 16 2 0 (o.length+1)),(60,.osl 12 2 0 1),(59,.agg (mkc (l.getD k default))),(58,.osl 4 2 0 o.length)] ([(16,apd (fl mkc o) (o.length*2) (mkc (l.getD k default))),(12,mkc (l.getD k default))]++Hw [] [4] ·) 20 ((0+2<=2/\0<2)/\(1*2<=16777216)/\(0+1*2<=2)/\(2=2/\o.length*2<=(fl mkc o).length/\0<32/\(o.length+1)*32<=140737488355328)/\·) ⟨dc,dc,dc,⟨rfl,by(first|omega|(simp only[LL,flMl];omega)),dc,by(first|omega|(simp only[LL,flMl];omega))⟩,run_v (v':=.osl 16 2 0 ((o++[(l.getD k default)]).length)) (push_len _ _ _ _) (run_h (cs':=fl mkc (o++[(l.getD k default)])) (push_mk o (l.getD k default)) ?_)⟩)))))
 refine Fn0 [0,3,6,7] [(5,.osl 16 2 0 ((o++[(l.getD k default)]).length))] (Rn (Av1 2 31 [(30,.i k)] (cI (wn1 k om)) (Ki/\·) ⟨rfl,Gn0 [(7,.i ((k+1:Nat):Int))] (nk_n ?_)⟩))
 refine Lr (k+1,o++[(l.getD k default)],d) [(0,0),(16,4)] 8 [(0,.sl 2 (l.map mkc)),(3,.ptr 0 0),(5,.osl 16 2 0 ((o++[(l.getD k default)]).length)),(6,.bool d),(7,.i ((k+1:Nat):Int))] [(16,fl mkc (o++[(l.getD k default)])),(0,mkc m)] [false,true] ?_ ?_ kr kr
 (try dsimp only);omega
 refine⟨?_,rfl⟩;(try dsimp only);refine⟨om,?_⟩
 rw[filt_t om (by simpa using hc20)];exact hi2.go hc24
 refine Xt (Jx (Lx (Bh (Jn (hK10 (Kp [3,5,6] (Sq fun K26 hK26=>?_)))))))
 refine Rr (Cn0 (!d) [3,5] [] ⟨fun hc28 c28=>?_,fun hc28 c28=>?_⟩)
 refine Rb (fun h=>Jn (hK26 h)) (An3 4 [(67,.osl 12 2 0 (o.length+1)),(66,.osl 8 2 0 1),(65,.agg (mkc m)),(64,.osl 4 2 0 o.length)] ([(12,apd (fl mkc o) (o.length*2) (mkc m)),(8,mkc m)]++Hw [] [4] ·) 16 ((0+2<=2/\0<2)/\(1*2<=16777216)/\(0+1*2<=2)/\(2=2/\o.length*2<=(fl mkc o).length/\0<32/\(o.length+1)*32<=140737488355328)/\·) ⟨dc,dc,dc,⟨rfl,by(first|omega|(simp only[LL,flMl];omega)),dc,by(first|omega|(simp only[LL,flMl];omega))⟩,run_v (v':=.osl 12 2 0 ((o++[m]).length)) (push_len _ _ _ _) (run_h (cs':=fl mkc (o++[m])) (push_mk o m) (Fn0 [] [(5,.osl 12 2 0 ((o++[m]).length))] ?_))⟩)
 refine Rr (Fn0 [] [(4,.osl 12 2 0 ((o++[m]).length))] (Fz 12 2 ((o++[m]).length) ((o++[m]).map mkc) (fl mkc (o++[m])) [(4,.osl 12 2 0 ((o++[m]).length))] [] [] (chkM _) (flM_le _) (Rt (.sl 2 ((o++[m]).map mkc)) (fin_lea ?_))))
 unfold putM
 obtain rfl:k=l.length:=by omega
 rw[if_neg (by rw[hc6];simp)];rw[List.take_length]at hi2
 have hd:d=false:=by have h:=hc28;simpa using h
 have hf:=hi2.fin;rw[hd]at hf;dsimp only[cond_true,cond_false]at hf;rw[<-hf];exact lea_refl _
 refine Sk (Jn (hK26 (Kp [5] (Rr (Fn0 [] [(4,.osl 4 2 0 o.length)] (Fz 4 2 o.length (o.map mkc) (fl mkc o) [(4,.osl 4 2 0 o.length)] [] [] (chkM _) (flM_le _) (Rt (.sl 2 (o.map mkc)) ?_)))))))
 refine fin_lea ?_
 unfold putM
 obtain rfl:k=l.length:=by omega
 rw[if_neg (by rw[hc6];simp)];rw[List.take_length]at hi2
 have hd:d=true:=by have h:=hc28;simpa using h
 have hf:=hi2.fin;rw[hd]at hf;dsimp only[cond_true,cond_false]at hf;rw[<-hf];exact lea_refl _
open Go Go.Proofs
set_option maxRecDepth 100000
def TAdd (l:List Mk) (m:Mk) (l2:List Mk):Prop:=(trOk l=false/\l2=[])\/(trOk l=true/\mkOk m=false/\l2=l)\/(trOk l=true/\mkOk m=true/\Coar (putM l m) l2)
theorem bestF_suc (l:List Mk) (k:Nat):bestF l (k+1)=if(l.getD (bestF l k) default).path.length<=(l.getD k default).path.length then k else bestF l k:=rfl
theorem coarser_ok (l:List Mk) (hl:∀m∈l,wS m.path<2^40) (hn:l.length<2^21) (h1:0<l.length) (hp:0<(bestM l).path.length):PE G 93 [.sl 2 (l.map mkc)] (.sl 2 ((putM l (parM (bestM l))).map mkc)):=by
 refine Pe Tryz.func93 ?_
 refine Rr (Fn0 [0] [] (Rr (Fn0 [0] [(3,.i 0)] (Sq fun K3 hK3=>?_))))
 refine Rr (Fn0 [0,3] [(4,.i 1)] (Bl (h_l (fun(k:Nat)=>([(0,.sl 2 (l.map mkc)),(3,.i ((bestF l k:Nat):Int)),(4,.i k)]:Fr)) (fun(k:Nat)=>([]:Hp)) (fun(k:Nat) cn=>(1<=k/\k<=l.length)/\cn=0) (fun(k:Nat)=>l.length-k) 1 kr ?_ ?_ ?_ ?_)))
 refine⟨?_,rfl⟩;exact⟨Nat.le_refl _,om⟩
 exact⟨kr,by show AV.int .i64 _=AV.int .i64 _;simp[bestF],kr,trivial⟩
 exact(List.nil_sublist _)
 rintro k n1 hI
 (try dsimp only at hI)
 obtain⟨⟨hi1,hi2⟩,rfl⟩:=hI
 refine Sq fun K5 hK5=>?_
 refine Rr (Av0 3 8 [(7,.sl 2 (l.map mkc)),(6,.i k)] (lnm l mkc) (Cn1 (decide ((k:Int)<(l.length:Int))) [0,3,4] [] (Ki/\·) ⟨rfl,fun hc7 c7=>?_,fun hc7 c7=>?_⟩))
 refine Sk (Jn (hK5 (Kp [0,3,4] (Sq fun K8 hK8=>?_))))
 refine Bl ?_
 have hgm:=hl _ (getD_mem l k default om);have hgl:=wS_len (l.getD k default).path;have hbb:=bestF_lt l k om;have hgm2:=hl _ (getD_mem l (bestF l k) default om);have hgl2:=wS_len (l.getD (bestF l k) default).path
 refine Qr [0,0,3,7,15,31,0,0,192,448,960,1984,4095] [(0,[]),(1,[]),(2,[]),(3,[]),(4,[]),(5,[]),(6,[]),(7,[]),(8,[]),(9,[]),(10,[]),(11,[]),(12,[])] (qAv1 3 14 [(13,.i k),(12,.sl 2 (l.map mkc))] (congrArg AV.pat (mg_mk l k om)) ((2=2/\(0:Int)<=(k:Int)/\(k:Int)<((l.map mkc).length:Int))/\·) ⟨⟨rfl,om,lmo⟩,qAv1 3 17 [(16,pth ((l.getD k default).path)),(15,.pat (mkc (l.getD k default)))] (lnm ((l.getD k default).path) sc) (((1:Nat)≠0)/\(1<=2/\0<2)/\·) ⟨dc,dc,qAv1 3 20 [(19,.i ((bestF l k:Nat):Int)),(18,.sl 2 (l.map mkc))] (congrArg AV.pat (mg_mk l (bestF l k) om)) ((2=2/\(0:Int)<=((bestF l k:Nat):Int)/\((bestF l k:Nat):Int)<((l.map mkc).length:Int))/\·) ⟨⟨rfl,om,lmo⟩,qAv1 3 23 [(22,pth ((l.getD (bestF l k) default).path)),(21,.pat (mkc (l.getD (bestF l k) default)))] (lnm ((l.getD (bestF l k) default).path) sc) (((1:Nat)≠0)/\(1<=2/\0<2)/\·) ⟨dc,dc,?_⟩⟩⟩⟩)
 refine qCn1 (decide (((((l.getD (bestF l k) default).path).length:Nat):Int)<=(((l.getD k default).path).length:Int))) [0,3,4] [] (Ki/\·) ⟨rfl,fun hc10 c10=>?_,fun hc10 c10=>?_⟩
 refine Rb (fun h=>Bn (Jn (hK8 h))) (Fn0 [0,4] [(3,.i k)] (Rn (Av1 2 11 [(10,.i k)] (cI (wn1 k om)) (Ki/\·) ⟨rfl,Gn0 [(4,.i ((k+1:Nat):Int))] ?_⟩)))
 refine nk_n (Lr (k+1) [] 0 [(0,.sl 2 (l.map mkc)),(3,.i k),(4,.i ((k+1:Nat):Int))] [] [] ?_ ?_ kr (by(try ((try dsimp only);rw[show bestF l (k+1)=k by rw[bestF_suc,if_pos om]]));try kernel_rfl))
 (try dsimp only);omega
 refine⟨?_,rfl⟩;(try dsimp only);omega
 refine Sk (Bn (Jn (hK8 (Kp [0,3,4] (Rn (Av1 2 11 [(10,.i k)] (cI (wn1 k om)) (Ki/\·) ⟨rfl,Gn0 [(4,.i ((k+1:Nat):Int))] (nk_n ?_)⟩))))))
 refine Lr (k+1) [] 0 [(0,.sl 2 (l.map mkc)),(3,.i ((bestF l k:Nat):Int)),(4,.i ((k+1:Nat):Int))] [] [] ?_ ?_ kr (by(try ((try dsimp only);rw[show bestF l (k+1)=bestF l k by rw[bestF_suc,if_neg om]]));try kernel_rfl)
 (try dsimp only);omega
 refine⟨?_,rfl⟩;(try dsimp only);omega
 refine Xt (Jx (Lx (Bh (Jn (hK3 (Kp [0,3] ?_))))))
 have hke:k=l.length:=by omega
 have hbb:=bestF_lt l k om;have hgm2:=hl _ (getD_mem l (bestF l k) default om);have hgl2:=wS_len (l.getD (bestF l k) default).path
 have hp0:0<(l.getD (bestF l k) default).path.length:=hke▸hp
 refine Rr (Av1 3 28 [(27,.i ((bestF l k:Nat):Int)),(26,.sl 2 (l.map mkc))] (congrArg AV.pat (mg_mk l (bestF l k) om)) ((2=2/\(0:Int)<=((bestF l k:Nat):Int)/\((bestF l k:Nat):Int)<((l.map mkc).length:Int))/\·) ⟨⟨rfl,om,lmo⟩,Fn1 [0] [(5,pth ((l.getD (bestF l k) default).path))] (((1:Nat)≠0)/\(1<=2/\0<2)/\·) ⟨dc,dc,Rr (Av3 5 35 [(34,pth ((l.getD (bestF l k) default).path)),(33,pth ((l.getD (bestF l k) default).path)),(32,.osl 0 1 0 0),(31,.sl 2 (l.map mkc))] (lnm ((l.getD (bestF l k) default).path) sc) ([(0,[])]++·) 4 ((0*1<=16777216)/\·) ⟨dc,?_⟩)⟩⟩)
 refine Av1 (r:=.i (IntKind.i64.wrap (((((l.getD (bestF l k) default).path).length:Nat):Int)-1))) (v:=.i (((((l.getD (bestF l k) default).path).length:Nat):Int)-1)) 1 36 [] (cI (wrap64 om om)) (Ki/\·) ⟨rfl,Av1 (r:=.sl 1 (((((l.getD (bestF l k) default).path).map (fun s=>[AV.str s])).take ((((((l.getD (bestF l k) default).path).length:Nat):Int)-1).toNat)).drop 0)) (v:=pth (((l.getD (bestF l k) default).path).take ((((((l.getD (bestF l k) default).path).length:Nat):Int)-1).toNat))) 1 37 [] (congrArg (AV.sl 1) (slm_0 _ _ _)) (fun Z=>(1=1/\0<=(0:Int)/\(0:Int)<=(((((l.getD (bestF l k) default).path).length:Nat):Int)-1)/\(((((l.getD (bestF l k) default).path).length:Nat):Int)-1)<=(((((l.getD (bestF l k) default).path).map (fun s=>[AV.str s])).length:Nat):Int))/\Z) ⟨⟨rfl,om,by(try rw[List.length_map]);omega,lmo⟩,An3 1 [(38,.osl 4 1 0 (0+((((l.getD (bestF l k) default).path).take ((((((l.getD (bestF l k) default).path).length:Nat):Int)-1).toNat)).map (fun s=>[AV.str s])).length))] (fun _=>[(4,apd [] (0*1) (((((l.getD (bestF l k) default).path).take ((((((l.getD (bestF l k) default).path).length:Nat):Int)-1).toNat)).map (fun s=>[AV.str s])).flatten))]) 8 (fun Z=>True/\(1=1/\0*1<=0/\0<16/\(0+((((l.getD (bestF l k) default).path).take ((((((l.getD (bestF l k) default).path).length:Nat):Int)-1).toNat)).map (fun s=>[AV.str s])).length)*16<=140737488355328)/\Z) ⟨trivial,⟨rfl,gl,dc,gl⟩,run_v (v':=.osl 4 1 0 ((((l.getD (bestF l k) default).path).take ((((((l.getD (bestF l k) default).path).length:Nat):Int)-1).toNat)).length)) (by rw[Nat.zero_add,List.length_map]) (run_h (cs':=fl sc (((l.getD (bestF l k) default).path).take ((((((l.getD (bestF l k) default).path).length:Nat):Int)-1).toNat))) (app0_str _) ?_)⟩⟩⟩
 refine Bc0 2 [(39,.agg [.osl 4 1 0 ((((l.getD (bestF l k) default).path).take ((((((l.getD (bestF l k) default).path).length:Nat):Int)-1).toNat)).length),.bool true])] 92 [.sl 2 (l.map mkc),.agg [.osl 4 1 0 ((((l.getD (bestF l k) default).path).take ((((((l.getD (bestF l k) default).path).length:Nat):Int)-1).toNat)).length),.bool true]] 40 ?_
 refine Tz 4 1 ((((l.getD (bestF l k) default).path).take ((((((l.getD (bestF l k) default).path).length:Nat):Int)-1).toNat)).length) ((((l.getD (bestF l k) default).path).take ((((((l.getD (bestF l k) default).path).length:Nat):Int)-1).toNat)).map (fun s=>[AV.str s])) (fl sc (((l.getD (bestF l k) default).path).take ((((((l.getD (bestF l k) default).path).length:Nat):Int)-1).toNat))) [.sl 2 (l.map mkc),.agg [pth (((l.getD (bestF l k) default).path).take ((((((l.getD (bestF l k) default).path).length:Nat):Int)-1).toNat)),.bool true]] [] [] (chkS _) (flS_le _) ?_
 refine PE.use (put11_ok l (Mk.mk (((l.getD (bestF l k) default).path).take ((((((l.getD (bestF l k) default).path).length:Nat):Int)-1).toNat)) true) hl om (by have h:=wS_take (l.getD (bestF l k) default).path ((((l.getD (bestF l k) default).path.length:Int)-1).toNat);(try dsimp only);omega)) ?_
 refine Ke (Fn0 [] [(2,.sl 2 ((putM l (Mk.mk (((l.getD (bestF l k) default).path).take ((((((l.getD (bestF l k) default).path).length:Nat):Int)-1).toNat)) true)).map mkc))] (Rt (.sl 2 ((putM l (Mk.mk (((l.getD (bestF l k) default).path).take ((((((l.getD (bestF l k) default).path).length:Nat):Int)-1).toNat)) true)).map mkc)) (fin_lea ?_)))
 obtain rfl:k=l.length:=hke
 rw[show parM (bestM l)=⟨(l.getD (bestF l l.length) default).path.take ((((l.getD (bestF l l.length) default).path.length:Int)-1).toNat),true⟩ by unfold parM bestM;rw[show(((l.getD (bestF l l.length) default).path.length:Int)-1).toNat=(l.getD (bestF l l.length) default).path.length-1 by omega]];exact lea_refl _
theorem sAdd_ok (l:List Mk) (m:Mk) (hl:∀m∈l,wS m.path<2^40) (hn:l.length<2^21) (hm:wS m.path<2^40):PC G 56 [.sl 2 (l.map mkc),.agg (mkc m)] (fun r=>∃l2,r=.sl 2 (l2.map mkc)/\TAdd l m l2):=by
 refine h_pc (F:=[(0,.sl 2 (l.map mkc)),(1,.agg (mkc m))]) (by simp only[go_sem]) Tryz.func56 kr kr ?_ kr
 refine Rr (Fn2 [0] [(3,.ptr 0 0)] ([(0,mkc m)]++·) 4 (Sq fun K2 hK2=>?_))
 refine Rr (Pc0 2 [(6,.sl 2 (l.map mkc))] 7 (sTrailOk_ok l hl om) (Cn0 (!(trOk l)) [0,3] [] ⟨fun hc4 c4=>?_,fun hc4 c4=>?_⟩))
 refine Rr (Fn3 [] [(4,.osl 4 2 0 0)] ([(4,[])]++·) 8 ((0*2<=16777216)/\·) ⟨dc,Fz 4 2 0 ([]) ([]) [(4,.osl 4 2 0 0)] [] [] kr dc (Rt (.sl 2 ([].map mkc)) ?_)⟩)
 exact⟨[],List.nil_sublist _,_,(by simp[lea,leas]),⟨[],rfl,.inl ⟨by have h:=hc4;simpa using h,rfl⟩⟩,by simp only[pur,puress_mk]⟩
 refine Sk (Jn (hK2 (Kp [0,3] (Rr (Pc0 2 [(10,.sl 2 (l.map mkc))] 11 (copyM_ok l (by first|exact hl|exact hto.wS) om) (Fn0 [3] [(5,.sl 2 (l.map mkc))] (Sq fun K7 hK7=>?_)))))))
 refine Rr (Pc1 2 [(12,.agg (mkc m))] 13 (0+2<=2/\0<2) dc (sMarkOk_ok m om) (Cn0 (!(mkOk m)) [3,5] [] ⟨fun hc9 c9=>?_,fun hc9 c9=>?_⟩))
 refine Rr (Fn0 [] [(4,.sl 2 (l.map mkc))] (Rt (.sl 2 (l.map mkc)) ?_))
 exact⟨[],List.nil_sublist _,_,lea_refl _,⟨l,rfl,.inr (.inl ⟨by have h:=hc4;simpa using h,by have h:=hc9;simpa using h,rfl⟩)⟩,by simp only[pur,puress_mk]⟩
 refine Sk (Jn (hK7 (Kp [3,5] ?_)))
 obtain⟨ht,h6⟩:=trOk_trl (l:=l) (by have h:=hc4;simpa using h)
 have hmk:mkOk m=true:=by have h:=hc9;simpa using h
 have hpl:=putM_len l m
 refine Rr (Pc1 3 [(17,.agg (mkc m)),(16,.sl 2 (l.map mkc))] 18 (0+2<=2/\0<2) dc (put11_ok l m hl om om) (Fn0 [] [(5,.sl 2 ((putM l m).map mkc))] (Sq fun K12 hK12=>?_)))
 refine Bl (h_l (fun(o:List Mk)=>(match o with|o=>([(5,.sl 2 (o.map mkc))]:Fr))) (fun(o:List Mk)=>(match o with|o=>([(0,mkc m)]:Hp))) (fun(o:List Mk) cn=>(match o with|o=>(o.length<=7/\(∀r,Coar o r->Coar (putM l m) r)/\Trl o)/\cn=4)) (fun(o:List Mk)=>lenM o) (putM l m) kr ?_ ?_ ?_ ?_)
 refine⟨?_,rfl⟩;exact⟨om,fun _ h=>h,putM_trl ht hmk⟩
 exact⟨kr,trivial⟩
 exact(sub_c kr (List.nil_sublist _))
 rintro o n1 hI
 (try dsimp only at hI)
 obtain⟨⟨hi1,hi2,hto⟩,rfl⟩:=hI
 refine Sq fun K13 hK13=>?_
 refine Rr (Av0 2 20 [(19,.sl 2 (o.map mkc))] (lnm o mkc) (Cn1 (decide ((6:Int)<((o.length:Int):Int))) [5] [] (Ki/\·) ⟨rfl,fun hc15 c15=>?_,fun hc15 c15=>?_⟩))
 refine Sk (Jn (hK13 (Kp [5] (Bl ?_))))
 have hcl:=putM_coarlen hto om (best_pos hto om);have hcm:=lenM_coar hto om (best_pos hto om)
 refine Rn (Pc0 2 [(22,.sl 2 (o.map mkc))] 23 (coarser_ok o hto.wS om om (best_pos hto om)) (Gn0 [(5,.sl 2 ((putM o (parM (bestM o))).map mkc))] (nk_n (Bn ?_))))
 refine Lr (putM o (parM (bestM o))) [(0,0)] 4 [(5,.sl 2 ((putM o (parM (bestM o))).map mkc))] [(0,mkc m)] [true] ?_ ?_ kr kr
 (try dsimp only);omega
 refine⟨?_,rfl⟩;(try dsimp only);exact⟨om,fun r h=>hi2 r (.step om h),putM_trl hto (par_ok (hto.ok _ (best_mem om)))⟩
 refine Xt (Jx (Lx (Bh (Jn (hK12 (Kp [5] (Rr (Pc0 2 [(24,.sl 2 (o.map mkc))] 25 (copyM_ok o (by first|exact hl|exact hto.wS) om) (Fn0 [] [(4,.sl 2 (o.map mkc))] (Rt (.sl 2 (o.map mkc)) ?_))))))))))
 · exact⟨[],List.nil_sublist _,_,lea_refl _,⟨o,rfl,.inr (.inr ⟨by have h:=hc4;simpa using h,by have h:=hc9;simpa using h,hi2 _ (.done om)⟩)⟩,by simp only[pur,puress_mk]⟩
end Go.Proofs.YtbfeplcaapiaoaaGreatT
