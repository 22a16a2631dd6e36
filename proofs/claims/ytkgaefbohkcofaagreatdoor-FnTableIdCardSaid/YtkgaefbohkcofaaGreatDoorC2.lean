/- A part of the proof that the tied card of FnTableId, on every two slices of bytes true, holds (no conditions): rules of the walk, and what the functions compute. -/
import Derived.Lib.Walk
import Derived.Shelf.Lays
import Derived.Shelf.RegionOpenPlain
import Derived.Shelf.Strings.BuilderF
import Derived.Shelf.Strings.OnBuilder
import Derived.WalkKit
import Derived.Test.YtkgaefbohkcofaaGreatDoorC1
set_option linter.unusedVariables false
set_option linter.unusedSimpArgs false
namespace Go.Proofs.YtkgaefbohkcofaaGreatDoorT
open Go
mutual
def asm:OT->Prop|.mk _ _ _ i _ ks=>i.isSome=true/\asms ks
def asms:List OT->Prop|[]=>True|t::ts=>asm t/\asms ts
end
theorem asm_eq (t:OT):asm t↔t.ids.isSome=true/\asms t.kids:=by cases t;simp only[asm,OT.ids,OT.kids]
theorem asms_app:∀{a b:List OT},asms (a++b)↔asms a/\asms b
 |[],b=>by simp[asms]
 |x::a,b=>by simp only[List.cons_append,asms,asms_app (a:=a),and_assoc]
theorem asms_get:∀{ks:List OT},asms ks->∀{k:Nat},k<ks.length->asm (ks.getD k default)
 |[],_,k,hk=>by simp at hk
 |t::ts,h,0,_=>h.1
 |t::ts,h,k+1,hk=>asms_get (ks:=ts) h.2 (by simpa using hk)
theorem oat_asm:∀{p:List Str} {t x:OT},owf t->asm t->oat t p=some x->asm x
 |[],t,x,_,h,he=>by simp only[oat,Option.some.injEq]at he;exact he▸h
 |n::p,t,x,hw,h,he=>by
  rw[oat]at he
  cases hf:fnd n t.names with
  |none=>rw[hf]at he;cases he
  |some k=>
   rw[hf]at he
   have hk:k<t.kids.length:=by rw[<-owf_len hw];exact fnd_lt hf
   exact oat_asm (owf_kid hw hk) (asms_get ((asm_eq t).1 h).2 hk) he
def ClR (t:Tr) (r:AV) (Z:Hp):Prop:=∃T:OT,er T=t/\shp T/\asm T/\r=.agg (otc T)/\Z=objs T
theorem push_ot (X:List OT) (y:OT):apd (fl otc X) (X.length*5) (otc y)=fl otc (X++[y]):=by
 unfold apd
 rw[List.take_of_length_le (by rw[fl_len otc_len];exact Nat.le_refl _),fl_app,fl_one]
theorem ods_tcs (t:Tr):ods [.agg (tcs t)]:=by
 simp only[ods,od,tcs,true_and,and_true]
 exact⟨purs_pth _,puress_trc _⟩
theorem cl_use {G:Prg} {f:Nat} {t:Tr} {H:Hp} {n:Nat} {arg:AV} (hv:View H [arg] [.agg (tcs t)]) (h:DC G f [.agg (tcs t)] [] (ClR t)):
  TCall G f [arg] H n fun r H' n'=>n'=n/\∃T:OT,H'=H++objs T/\er T=t/\shp T/\asm T/\r=.agg (otc T):=by
 refine TCall.mono (lend_own (R:=ClR t) hv ((h [] n trivial).mono ?_)) ?_
 ·rintro r H' n' _ ⟨rfl,Z',rfl,T,q1,q2,q3,rfl,rfl⟩
  exact⟨rfl,nsls_otc T,nslH_objs T,odH_objs T,T,q1,q2,q3,rfl,rfl⟩
 ·rintro r H' n' _ ⟨rfl,Z',rfl,_,T,q1,q2,q3,rfl,rfl⟩
  exact⟨rfl,T,rfl,q1,q2,q3,rfl⟩
abbrev Ko:=List (Nat×((Nat->Nat)->List AV))
def hp (K:Ko) (g:Nat->Nat):Hp:=K.map fun p=>(g p.1,p.2 g)
def kds (K:Ko):List Nat:=K.map fun p=>p.1
def ntl (D:List Nat) (c:(Nat->Nat)->List AV):Prop:=∀(ρ ρ':Rho) (g g':Nat->Nat) (w:World) (O:Nat->Prop) (vs:List Value),(∀i∈D,ρ (g i)=ρ' (g' i))->VRs ρ w O (c g) vs->VRs ρ' w O (c g') vs
theorem ntl_pur {D:List Nat} {cs:List AV} (h:purs cs=true):ntl D fun _=>cs:=fun _ _ _ _ _ _ _ _ hv=>purs_vr _ _ h hv
theorem ntl_cons {D:List Nat} {a:(Nat->Nat)->AV} {c:(Nat->Nat)->List AV} (ha:ntl D fun g=>[a g]) (hc:ntl D c):ntl D fun g=>a g::c g:=fun ρ ρ' g g' w O vs hd hv=>by
 cases vs with
 |nil=>simp only[VRs]at hv
 |cons v vs=>
  simp only[VRs]at hv⊢
  have h1:=ha ρ ρ' g g' w O [v] hd (by simp only[VRs,and_true];exact hv.1)
  simp only[VRs,and_true]at h1
  exact⟨h1,hc ρ ρ' g g' w O vs hd hv.2⟩
theorem ntl_one {D:List Nat} {a:(Nat->Nat)->AV} (h:∀(ρ ρ':Rho) (g g':Nat->Nat) (w:World) (O:Nat->Prop) (v:Value),(∀i∈D,ρ (g i)=ρ' (g' i))->VR ρ w O (a g) v->VR ρ' w O (a g') v):ntl D fun g=>[a g]:=fun ρ ρ' g g' w O vs hd hv=>by
 match vs,hv with
 |[v],hv=>simp only[VRs,and_true]at hv⊢;exact h ρ ρ' g g' w O v hd hv
 |[],hv=>simp only[VRs]at hv
 |_::_::_,hv=>simp only[VRs,and_false]at hv
theorem ntl_ptr {D:List Nat} {i o:Nat} (hi:i∈D:=by simp[kds]):ntl D fun g=>[.ptr (g i) o]:=ntl_one fun ρ ρ' g g' w O v hd hv=>by simp only[VR]at hv⊢;rw[<-hd i hi];exact hv
theorem ntl_osl {D:List Nat} {i s o l:Nat} (hi:i∈D:=by simp[kds]):ntl D fun g=>[.osl (g i) s o l]:=ntl_one fun ρ ρ' g g' w O v hd hv=>by simp only[VR]at hv⊢;rw[<-hd i hi];exact hv
theorem ntl_fn {D:List Nat} {f:Fn} {c:(Nat->Nat)->List AV} (hc:ntl D c):ntl D fun g=>[.fn f (c g)]:=ntl_one fun ρ ρ' g g' w O v hd hv=>by
 simp only[VR]at hv⊢
 obtain⟨vs,h1,h2⟩:=hv
 exact⟨vs,h1,hc ρ ρ' g g' w O _ hd h2⟩
theorem HR.prm {X:Nat->Prop} {ρ:Rho} {w:World} {H H':Hp} (h:HR X ρ w H) (hp:H'.Perm H):HR X ρ w H':=by
 refine⟨show(H'.map (·.1)).Nodup from((hp.map (fun p:Nat×List AV=>p.1)).nodup_iff).2 h.nodup,fun i j b h1 h2=>h.inj i j b ((ids_perm hp i).1 h1) ((ids_perm hp j).1 h2),fun i b h1=>h.notX i b ((ids_perm hp i).1 h1),h.xold,fun i cs hm=>?_⟩
 rw[OX_perm hp];exact h.obj i cs (hp.mem_iff.1 hm)
theorem ntl_tp {D:List Nat} {i t k:Nat} (hi:i∈D:=by simp[kds]):ntl D fun g=>[.tp (g i) t k]:=ntl_one fun ρ ρ' g g' w O v hd hv=>by simp only[VR]at hv⊢;rw[<-hd i hi];exact hv
theorem ntl_tsl {D:List Nat} {i t l:Nat} (hi:i∈D:=by simp[kds]):ntl D fun g=>[.tsl (g i) t l]:=ntl_one fun ρ ρ' g g' w O v hd hv=>by simp only[VR]at hv⊢;rw[<-hd i hi];exact hv
theorem ntl_patp {D:List Nat} {i t k:Nat} (hi:i∈D:=by simp[kds]):ntl D fun g=>[.pat [.tp (g i) t k]]:=ntl_one fun ρ ρ' g g' w O v hd hv=>by
 simp only[VR,PCs,and_true]at hv⊢
 rw[<-hd i hi];exact hv
def HCx (H H':Hp):Prop:=(∀X ρ w,HR X ρ w H->HR X ρ w H')/\∀i,i∈ids H'->i∈ids H
theorem HCx.refl (H:Hp):HCx H H:=⟨fun _ _ _ h=>h,fun _ h=>h⟩
theorem HCx.fz {H:Hp} {i:Nat} {cs:List AV} (h:hgt H i=some cs):HCx H (fzH i cs (hdel H i)):=⟨fun _ _ _ k=>k.fz h,fun j hj=>by rw[ids_fzH]at hj;exact(List.Sublist.map (fun p:Nat×List AV=>p.1) (hdel_sub H i)).subset hj⟩
theorem HCx.perm {H H':Hp} (h:H'.Perm H):HCx H H':=⟨fun _ _ _ k=>k.prm h,fun i hi=>(ids_perm h i).1 hi⟩
theorem HCx.sub {H H':Hp} (h:H'.Sublist H):HCx H H':=⟨fun _ _ _ k=>k.sub h,fun i hi=>(h.map (·.1)).subset hi⟩
theorem HCx.trans {A B C:Hp} (h:HCx A B) (k:HCx B C):HCx A C:=⟨fun X ρ w q=>k.1 X ρ w (h.1 X ρ w q),fun i hi=>h.2 i (k.2 i hi)⟩
def gx (g:Nat->Nat) (m n:Nat) (i:Nat):Nat:=if i<m then g i else n+(i-m)
def FX (G:Prg) (f:Nat) (ar:(Nat->Nat)->List AV) (K K':Ko) (m n1:Nat) (R:AV->Prop):Prop:=
 ∀(H Hf:Hp) (n:Nat) (g:Nat->Nat),(hp K g++Hf).Perm H->(∀i∈kds K,g i%4=0)->TCall G f (ar g) H n fun r H' n'=>R r/\n'=n+(n1-m)/\H'=hp K' (gx g m n)++Hf
def FQ (K':Ko) (m:Nat) (R:AV->Prop):CPost:=fun r H1 _=>∃(r':AV) (g':Nat->Nat) (H2:Hp),(lea r r'/\pur r'=true/\R r')/\((∀i∈kds K',i<m->g' i=i)/\∀i∈kds K',g' i%4=0)/\HCx H1 H2/\H2=hp K' g'
theorem hp_mem {K:Ko} {g:Nat->Nat} {i:Nat} {cs:List AV} (h:(i,cs)∈hp K g):∃p∈K,g p.1=i/\p.2 g=cs:=by
 obtain⟨p,hp,e⟩:=List.mem_map.1 h
 exact⟨p,hp,congrArg Prod.fst e,congrArg Prod.snd e⟩
theorem hp_ids (K:Ko) (g:Nat->Nat):ids (hp K g)=(kds K).map g:=by simp[ids,hp,kds]
theorem ids_app (A B:Hp):ids (A++B)=ids A++ids B:=by simp[ids]
theorem FX_of {G:Prg} {f:Nat} {ar:(Nat->Nat)->List AV} {K K':Ko} {np m n1:Nat} {R:AV->Prop} (hm:m%4=0) (hn1:n1%4=0) (hmn:m<=n1)
  (hK:∀i∈kds K,i<m) (hK':∀i∈kds K',i%4=0/\i<n1/\(i<m->i<np/\i∈kds K)) (hA:ntl (kds K) ar) (hN:∀p∈K,ntl (kds K) p.2) (hN':∀p∈K',ntl (kds K') p.2)
  (h:TCw np G f (ar id) (hp K id) m (FQ K' m R)):FX G f ar K K' m n1 R:=by
 intro H Hf n g hP hg4 X ρ w vs hf hr hv
 have hrP:HR X ρ w (hp K g++Hf):=hr.prm hP
 have hOP:OX X ρ (hp K g++Hf)=OX X ρ H:=OX_perm hP
 have hnd:=hrP.nodup
 rw[ids_app,hp_ids,List.nodup_append]at hnd
 obtain⟨hnd1,hnd2,hnd3⟩:=hnd
 have hin:∀i∈kds K,g i∈ids (hp K g++Hf):=fun i hi=>by rw[ids_app,hp_ids];exact List.mem_append_left _ (List.mem_map_of_mem hi)
 have hinf:∀i∈ids Hf,i∈ids (hp K g++Hf):=fun i hi=>by rw[ids_app];exact List.mem_append_right _ hi
 have hinj:∀i∈kds K,∀j∈kds K,g i=g j->i=j:=by
  have:∀l:List Nat,(l.map g).Nodup->∀i∈l,∀j∈l,g i=g j->i=j:=by
   intro l
   induction l with
   |nil=>intro _ i hi;cases hi
   |cons a l ih=>
    intro hn i hi j hj e
    rw[List.map_cons,List.nodup_cons]at hn
    rcases List.mem_cons.1 hi with e1|hi'<;>rcases List.mem_cons.1 hj with e2|hj'
    ·rw[e1,e2]
    ·exact absurd (by rw[<-e1,e];exact List.mem_map_of_mem hj') hn.1
    ·exact absurd (by rw[<-e2,<-e];exact List.mem_map_of_mem hi') hn.1
    ·exact ih hn.2 i hi' j hj' e
  exact this _ hnd1
 let ρ0:Rho:=fun i=>if i∈kds K then ρ (g i)else none
 have hρ0:∀i∈kds K,ρ0 i=ρ (g i):=fun i hi=>by simp only[ρ0];rw[if_pos hi]
 let X0:Nat->Prop:=OX X ρ Hf
 have hsome:∀i∈kds K,∃b,ρ (g i)=some b:=fun i hi=>by obtain⟨b,h1,_⟩:=hrP.has (hin i hi);exact⟨b,h1⟩
 have hown0:∀x,Own ρ0 (hp K id) x↔∃i∈kds K,ρ (g i)=some x:=by
  intro x
  constructor
  ·rintro⟨i,hi,hx⟩
   rw[hp_ids,List.map_id]at hi
   rw[hρ0 i hi]at hx
   exact⟨i,hi,hx⟩
  ·rintro⟨i,hi,hx⟩
   exact⟨i,by rw[hp_ids,List.map_id];exact hi,by rw[hρ0 i hi];exact hx⟩
 have hO:∀x,OX X0 ρ0 (hp K id) x↔OX X ρ H x:=by
  intro x
  rw[<-hOP]
  constructor
  ·rintro((hx|⟨i,hi,hx⟩)|hx)
   ·exact .inl hx
   ·exact .inr ⟨i,hinf i hi,hx⟩
   ·obtain⟨i,hi,hx⟩:=(hown0 x).1 hx
    exact .inr ⟨g i,hin i hi,hx⟩
  ·rintro(hx|⟨i,hi,hx⟩)
   ·exact .inl (.inl hx)
   ·rw[ids_app,List.mem_append]at hi
    rcases hi with hi|hi
    ·rw[hp_ids]at hi
     obtain⟨j,hj,rfl⟩:=List.mem_map.1 hi
     exact .inr ((hown0 x).2 ⟨j,hj,hx⟩)
    ·exact .inl (.inr ⟨i,hi,hx⟩)
 have hnX0:∀i∈kds K,∀b,ρ (g i)=some b->¬X0 b:=by
  rintro i hi b hb (hx|⟨k,hk,hx⟩)
  ·exact hrP.notX (g i) b (hin i hi) hb hx
  ·have:=hrP.inj (g i) k b (hin i hi) (hinf k hk) hb hx
   exact hnd3 _ (List.mem_map_of_mem hi) k hk this
 have hr0:HR X0 ρ0 w (hp K id):=by
  refine⟨?_,fun i j b hi hj hx hy=>?_,fun i b hi hb=>?_,fun b hb=>?_,fun i ds hm=>?_⟩
  ·rw[hp_ids,List.map_id];exact(List.pairwise_map.1 hnd1).imp fun h e=>h (congrArg g e)
  ·rw[hp_ids,List.map_id]at hi hj
   rw[hρ0 i hi]at hx;rw[hρ0 j hj]at hy
   exact hinj i hi j hj (hrP.inj _ _ b (hin i hi) (hin j hj) hx hy)
  ·rw[hp_ids,List.map_id]at hi
   rw[hρ0 i hi]at hb
   exact hnX0 i hi b hb
  ·rcases hb with hb|⟨k,hk,hx⟩
   ·exact hr.xold b hb
   ·exact hrP.own_old ⟨k,hinf k hk,hx⟩
  ·obtain⟨p,hpK,rfl,rfl⟩:=hp_mem hm
   have hk:p.1∈kds K:=List.mem_map_of_mem hpK
   obtain⟨b,c,e,fz,k1,k2,k3,k4,k5,k6⟩:=hrP.obj (g p.1) (p.2 g) (List.mem_append_left _ (List.mem_map_of_mem hpK))
   have k7:VRs ρ0 w (OX X0 ρ0 (hp K id)) (p.2 id) (c.toList.take (p.2 g).length):=hN p hpK ρ ρ0 g id w _ _ (fun i hi=>(hρ0 i hi).symm) (VRs_carry (Carry.less fun b hb=>by rw[hOP];exact(hO b).1 hb) _ _ k6)
   have k8:(p.2 id).length=(p.2 g).length:=(VRs_length k7).trans (VRs_length k6).symm
   refine⟨b,c,e,fz,by show ρ0 p.1=_;rw[hρ0 _ hk];exact k1,k2,⟨k3.1,.inl (k3.2.resolve_right (by have:=hg4 _ hk;omega))⟩,k4,by rw[k8];exact k5,by rw[k8];exact k7⟩
 have hv0:VRs ρ0 w (OX X0 ρ0 (hp K id)) (ar id) vs.toList:=hA ρ ρ0 g id w _ _ (fun i hi=>(hρ0 i hi).symm) (VRs_carry (Carry.less fun b hb=>(hO b).1 hb) _ _ hv)
 refine(h X0 ρ0 w vs ⟨hm,fun i hi _=>?_,m,fun i hi=>?_⟩ hr0 hv0).mono ?_
 ·simp only[ρ0];rw[if_neg fun q=>by have:=hK i q;omega]
 ·simp only[ρ0];rw[if_neg fun q=>by have:=hK i q;omega]
 rintro e w' ⟨v,r,ρ1,H1,n1',rfl,q1,q2,q3,q4,r',g',H2,⟨l1,l2,hR⟩,⟨hg1,hg2⟩,hcv,rfl⟩
 have q2':=hcv.1 _ _ _ q2
 have hn4:=hf.1
 let ρ':Rho:=fun k=>if k%2=1\/k<n then ρ k else if k-n<n1-m then ρ1 (g' (m+(k-n)))else none
 have hold:∀k x,ρ k=some x->ρ' k=some x:=fun k x hx=>by
  simp only[ρ']
  by_cases hk:k%2=1\/k<n
  ·rw[if_pos hk];exact hx
  ·have:=hf.2.1 k (by omega) (by omega)
   rw[this]at hx;cases hx
 have hltn:∀i∈kds K,g i<n:=fun i hi=>by
  obtain⟨b,hb⟩:=hsome i hi
  rcases Nat.lt_or_ge (g i) n with h|h
  ·exact h
  ·have:=hf.2.1 (g i) h (by have:=hg4 i hi;omega)
   rw[this]at hb;cases hb
 have key:∀i∈kds K',ρ' (gx g m n i)=ρ1 (g' i):=fun i hi=>by
  obtain⟨a1,a2,a3⟩:=hK' i hi
  unfold gx
  by_cases him:i<m
  ·rw[if_pos him,hg1 i hi him]
   obtain⟨a4,a5⟩:=a3 him
   obtain⟨b,hb⟩:=hsome i a5
   rw[hold _ _ hb,q4.pin i b (.inl a4) (by rw[hρ0 i a5];exact hb)]
  ·rw[if_neg him]
   simp only[ρ']
   rw[if_neg (by omega),if_pos (by omega),show m+(n+(i-m)-n)=i by omega]
 have hfrho:∀k∈ids Hf,ρ' k=ρ k:=fun k hk=>by
  obtain⟨b,hb,_⟩:=hrP.has (hinf k hk)
  rw[hold k b hb,hb]
 have hext:Ext (Own ρ H) w w':=q4.ext.mono fun x _ hx=>by
  obtain⟨i,hi,hx⟩:=(hown0 x).1 hx
  exact⟨g i,(ids_perm hP _).1 (hin i hi),hx⟩
 have hown':∀x,Own ρ' (hp K' (gx g m n)++Hf) x->Own ρ1 (hp K' g') x\/Own ρ Hf x:=by
  rintro x ⟨k,hk,hx⟩
  rw[ids_app,List.mem_append]at hk
  rcases hk with hk|hk
  ·rw[hp_ids]at hk
   obtain⟨i,hi,rfl⟩:=List.mem_map.1 hk
   rw[key i hi]at hx
   exact .inl ⟨g' i,by rw[hp_ids];exact List.mem_map_of_mem hi,hx⟩
  ·rw[hfrho k hk]at hx;exact .inr ⟨k,hk,hx⟩
 have hnew:∀x,Own ρ1 (hp K' g') x->Own ρ H x\/w.heap.size<=x:=by
  rintro x ⟨k,hk,hx⟩
  rcases q4.own x ⟨k,hcv.2 k hk,hx⟩with h1|h1
  ·obtain⟨i,hi,hx⟩:=(hown0 x).1 h1
   exact .inl ⟨g i,(ids_perm hP _).1 (hin i hi),hx⟩
  ·exact .inr h1
 have hfH:∀x,Own ρ Hf x->Own ρ H x:=fun x ⟨k,hk,hx⟩=>⟨k,(ids_perm hP _).1 (hinf k hk),hx⟩
 have hO1:∀x,OX X ρ' (hp K' (gx g m n)++Hf) x->OX X0 ρ1 (hp K' g') x:=by
  rintro x (hx|hx)
  ·exact .inl (.inl hx)
  ·rcases hown' x hx with hx|hx
   ·exact .inr hx
   ·exact .inl (.inr hx)
 have hcar:Carry ρ ρ' w w' (OX X ρ H) (OX X ρ' (hp K' (gx g m n)++Hf)):=by
  refine⟨hold,hext.size,fun x hx hn=>hext.keep x hx fun ho=>hn (.inr ho),hext.shape,?_⟩
  rintro x hlt (hx|hx)
  ·exact .inl hx
  ·rcases hown' x hx with hx|hx
   ·exact .inr ((hnew x hx).resolve_right (by omega))
   ·exact .inr (hfH x hx)
 have hg'in:∀i∈kds K',g' i∈ids (hp K' g'):=fun i hi=>by rw[hp_ids];exact List.mem_map_of_mem hi
 have hnd':=q2'.nodup
 rw[hp_ids]at hnd'
 have hXf:∀i∈kds K',∀k∈ids Hf,∀b,ρ1 (g' i)=some b->ρ k≠some b:=fun i hi k hk b hb hx=>q2'.notX (g' i) b (hg'in i hi) hb (.inr ⟨k,hk,hx⟩)
 refine⟨v,r',ρ',hp K' (gx g m n)++Hf,n+(n1-m),rfl,⟨by omega,fun i hi he=>?_,?_⟩,⟨?_,?_,?_,fun x hx=>Nat.lt_of_lt_of_le (hr.xold x hx) hext.size,?_⟩,?_,⟨hold,by omega,hext,?_⟩,hR,rfl,rfl⟩
 ·simp only[ρ'];rw[if_neg (by omega),if_neg (by omega)]
 ·obtain⟨q,hq⟩:=hf.2.2
  refine⟨max q (n+(n1-m)),fun i hi=>?_⟩
  simp only[ρ']
  by_cases hk:i%2=1\/i<n
  ·rw[if_pos hk];exact hq i (by omega)
  ·rw[if_neg hk,if_neg (by omega)]
 ·rw[ids_app,hp_ids,List.nodup_append]
  refine⟨?_,hnd2,fun a ha k hk e=>?_⟩
  ·have:∀l:List Nat,(∀i∈l,i∈kds K')->(l.map g').Nodup->(l.map (gx g m n)).Nodup:=by
    intro l
    induction l with
    |nil=>intro _ _;exact List.nodup_nil
    |cons a l ih=>
     intro hl hn
     rw[List.map_cons,List.nodup_cons]at hn⊢
     refine⟨fun hx=>hn.1 ?_,ih (fun i hi=>hl i (List.mem_cons_of_mem _ hi)) hn.2⟩
     obtain⟨j,hj,e⟩:=List.mem_map.1 hx
     have e1:=key a (hl a List.mem_cons_self)
     have e2:=key j (hl j (List.mem_cons_of_mem _ hj))
     rw[e]at e2
     obtain⟨b,hb,_⟩:=q2'.has (hg'in a (hl a List.mem_cons_self))
     have:=q2'.inj (g' j) (g' a) b (hg'in j (hl j (List.mem_cons_of_mem _ hj))) (hg'in a (hl a List.mem_cons_self)) (by rw[<-e2,e1];exact hb) hb
     rw[<-this];exact List.mem_map_of_mem hj
   exact this _ (fun _ h=>h) hnd'
  ·obtain⟨i,hi,e0⟩:=List.mem_map.1 ha
   obtain⟨b,hb,_⟩:=q2'.has (hg'in i hi)
   refine hXf i hi k hk b hb ?_
   rw[<-hfrho k hk,<-e,<-e0,key i hi];exact hb
 ·intro i k x hi hk hx hy
  rw[ids_app,List.mem_append,hp_ids]at hi hk
  rcases hi with hi|hi<;>rcases hk with hk|hk
  ·obtain⟨i',hi',rfl⟩:=List.mem_map.1 hi
   obtain⟨k',hk',rfl⟩:=List.mem_map.1 hk
   rw[key i' hi']at hx;rw[key k' hk']at hy
   have e:=q2'.inj _ _ x (hg'in i' hi') (hg'in k' hk') hx hy
   have:∀l:List Nat,(l.map g').Nodup->∀i∈l,∀j∈l,g' i=g' j->i=j:=by
    intro l
    induction l with
    |nil=>intro _ i hi;cases hi
    |cons a l ih=>
     intro hn i hi j hj e
     rw[List.map_cons,List.nodup_cons]at hn
     rcases List.mem_cons.1 hi with e1|hi'<;>rcases List.mem_cons.1 hj with e2|hj'
     ·rw[e1,e2]
     ·exact absurd (by rw[<-e1,e];exact List.mem_map_of_mem hj') hn.1
     ·exact absurd (by rw[<-e2,<-e];exact List.mem_map_of_mem hi') hn.1
     ·exact ih hn.2 i hi' j hj' e
   rw[this _ hnd' i' hi' k' hk' e]
  ·obtain⟨i',hi',rfl⟩:=List.mem_map.1 hi
   rw[key i' hi']at hx;rw[hfrho k hk]at hy
   exact absurd hy (hXf i' hi' k hk x hx)
  ·obtain⟨k',hk',rfl⟩:=List.mem_map.1 hk
   rw[key k' hk']at hy;rw[hfrho i hi]at hx
   exact absurd hx (hXf k' hk' i hi x hy)
  ·rw[hfrho i hi]at hx;rw[hfrho k hk]at hy
   exact hrP.inj i k x (hinf i hi) (hinf k hk) hx hy
 ·intro i x hi hx
  rw[ids_app,List.mem_append,hp_ids]at hi
  rcases hi with hi|hi
  ·obtain⟨i',hi',rfl⟩:=List.mem_map.1 hi
   rw[key i' hi']at hx
   exact fun hX=>q2'.notX _ x (hg'in i' hi') hx (.inl hX)
  ·rw[hfrho i hi]at hx
   exact hrP.notX i x (hinf i hi) hx
 ·intro i ds hm
  rcases List.mem_append.1 hm with hm|hm
  ·obtain⟨p,hpK,rfl,rfl⟩:=hp_mem hm
   have hk:p.1∈kds K':=List.mem_map_of_mem hpK
   obtain⟨b,c,e,fz,k1,k2,k3,k4,k5,k6⟩:=q2'.obj (g' p.1) (p.2 g') (List.mem_map_of_mem hpK)
   have k7:VRs ρ' w' (OX X ρ' (hp K' (gx g m n)++Hf)) (p.2 (gx g m n)) (c.toList.take (p.2 g').length):=hN' p hpK ρ1 ρ' g' (gx g m n) w' _ _ (fun i hi=>(key i hi).symm) (VRs_carry (Carry.less hO1) _ _ k6)
   have k8:(p.2 (gx g m n)).length=(p.2 g').length:=(VRs_length k7).trans (VRs_length k6).symm
   exact⟨b,c,e,fz,by rw[key _ hk];exact k1,k2,⟨k3.1,.inl (k3.2.resolve_right (by have:=hg2 _ hk;omega))⟩,k4,by rw[k8];exact k5,by rw[k8];exact k7⟩
  ·obtain⟨b,c,e,fz,k1,k2,k3,k4,k5,k6⟩:=hrP.obj i ds (List.mem_append_right _ hm)
   have hk:i∈ids Hf:=List.mem_map.2 ⟨_,hm,rfl⟩
   have hlt:=(Array.getElem?_eq_some_iff.1 k2).1
   refine⟨b,c,e,fz,by rw[hfrho i hk];exact k1,?_,k3,k4,k5,VRs_carry hcar _ _ (by rw[<-hOP];exact k6)⟩
   rw[q4.ext.keep b hlt fun hx=>?_];exact k2
   obtain⟨j,hj,hx⟩:=(hown0 b).1 hx
   have:=hrP.inj (g j) i b (hin j hj) (hinf i hk) hx k1
   exact hnd3 _ (List.mem_map_of_mem hj) i hk this
 ·exact pur_vr _ _ l2 (VR_carry (Carry.less fun x hx=>(hO1 x hx).imp id fun⟨i,hi,hb⟩=>⟨i,hcv.2 i hi,hb⟩) _ _ (lea_vr r r' v l1 q3))
 ·intro x hx
  rcases hown' x hx with hx|hx
  ·exact hnew x hx
  ·exact .inl (hfH x hx)
def gtb:List (Nat×Nat)->Nat->Nat
 |[],i=>i
 |(a,b)::l,i=>bif Nat.beq a i then b else gtb l i
theorem FX_mk {G:Prg} {f:Nat} {ar:(Nat->Nat)->List AV} {K K':Ko} {m n1:Nat} {R:AV->Prop} (np:Nat) (hm:(Nat.beq (m%4) 0&&(Nat.beq (n1%4) 0&&Nat.ble m n1))=true)
  (hK:((kds K).all fun i=>decide (i<m))=true) (hK':((kds K').all fun i=>Nat.beq (i%4) 0&&(decide (i<n1)&&(Nat.ble m i||(decide (i<np)&&(kds K).contains i))))=true) (hA:ntl (kds K) ar) (hN:∀p∈K,ntl (kds K) p.2) (hN':∀p∈K',ntl (kds K') p.2)
  (h:TCw np G f (ar id) (hp K id) m (FQ K' m R)):FX G f ar K K' m n1 R:=by
 simp only[Bool.and_eq_true]at hm
 rw[List.all_eq_true]at hK hK'
 refine FX_of (Nat.eq_of_beq_eq_true hm.1) (Nat.eq_of_beq_eq_true hm.2.1) (Nat.le_of_ble_eq_true hm.2.2) (fun i hi=>of_decide_eq_true (hK i hi)) (fun i hi=>?_) hA hN hN' h
 have:=hK' i hi
 simp only[Bool.and_eq_true,Bool.or_eq_true,decide_eq_true_eq,List.contains_iff_mem]at this
 refine⟨Nat.eq_of_beq_eq_true this.1,this.2.1,fun hlt=>this.2.2.resolve_left fun h=>?_⟩
 have:=Nat.le_of_ble_eq_true h;omega
theorem fx_end {K':Ko} {R:AV->Prop} {r:AV} {H1 H0:Hp} {m n:Nat} (r':AV) (tb:List (Nat×Nat)) (is:List Nat) (hc:HCx H1 H0) (hl:lea r r'/\pur r'=true/\R r') (h1:((kds K').all fun i=>(Nat.ble m i||Nat.beq (gtb tb i) i)&&Nat.beq (gtb tb i%4) 0)=true) (hs:(selH is H0).map Prod.fst=some (hp K' (gtb tb))):FQ K' m R r H1 n:=by
 obtain⟨⟨a,rest⟩,hs,ha⟩:=Option.map_eq_some_iff.1 hs
 have ha:a=hp K' (gtb tb):=ha
 rw[List.all_eq_true]at h1
 refine⟨r',gtb tb,_,hl,⟨fun i hi hm=>?_,fun i hi=>?_⟩,hc.trans ((HCx.perm (selH_perm hs)).trans (HCx.sub (List.sublist_append_left _ _))),by assumption⟩
 ·have:=h1 i hi
  simp only[Bool.and_eq_true,Bool.or_eq_true]at this
  rcases this.1 with h|h
  ·have:=Nat.le_of_ble_eq_true h;omega
  ·exact Nat.eq_of_beq_eq_true h
 ·have:=h1 i hi
  simp only[Bool.and_eq_true]at this
  exact Nat.eq_of_beq_eq_true this.2
theorem FX.use {G:Prg} {f:Nat} {ar:(Nat->Nat)->List AV} {K K':Ko} {m n1:Nat} {R:AV->Prop} {args:List AV} {H:Hp} {n:Nat} {Q:CPost} (tb:List (Nat×Nat)) (is:List Nat) (Hf H'':Hp) (n':Nat) (h:FX G f ar K K' m n1 R) (ha:ar (gtb tb)=args) (hs:selH is H=some (hp K (gtb tb),Hf)) (h4:(kds K).all (fun i=>Nat.beq (gtb tb i%4) 0)=true) (hn:n+(n1-m)=n') (hh:hp K' (gx (gtb tb) m n)++Hf=H'')
  (hq:∀r,R r->Q r H'' n'):TCall G f args H n Q:=by
 rw[<-ha]
 refine(h H Hf n (gtb tb) (selH_perm hs) (fun i hi=>Nat.eq_of_beq_eq_true (List.all_eq_true.1 h4 i hi))).mono ?_
 rintro r H' n'' _ ⟨h1,rfl,rfl⟩
 rw[hh,hn];exact hq r h1
open Go Go.Proofs Go.Shelf
def joinL_ren:Go.Shelf.Ren:=⟨fun|156=>106|165=>114|166=>64|169=>66|240=>84|241=>118|276=>105|277=>123|n=>n,fun|31=>23|9=>9|3=>3|4=>4|0=>0|20=>20|72=>88|76=>91|70=>86|37=>22|75=>90|127=>106|164=>120|5=>5|80=>62|n=>n,fun|n=>n⟩
theorem joinL:Go.Proofs.Lays.n156 Tryz.prog joinL_ren where
 mixed:=by kernel_rfl
 f156:=Tryz.func106.trans (congrArg some (by kernel_rfl))
 f165:=Tryz.func114.trans (congrArg some (by kernel_rfl))
 f166:=Tryz.func64.trans (congrArg some (by kernel_rfl))
 f169:=Tryz.func66.trans (congrArg some (by kernel_rfl))
 f240:=Tryz.func84.trans (congrArg some (by kernel_rfl))
 f241:=Tryz.func118.trans (congrArg some (by kernel_rfl))
 f276:=Tryz.func105.trans (congrArg some (by kernel_rfl))
 f277:=Tryz.func123.trans (congrArg some (by kernel_rfl))
 t0:=Tryz.underlying0
 a0:=Tryz.isAgg0
 z0:=Tryz.sizeOf0
 v0:=Tryz.zeroValue0
 t3:=Tryz.underlying3
 a3:=Tryz.isAgg3
 z3:=Tryz.sizeOf3
 v3:=Tryz.zeroValue3
 t4:=Tryz.underlying4
 a4:=Tryz.isAgg4
 z4:=Tryz.sizeOf4
 v4:=Tryz.zeroValue4
 t9:=Tryz.underlying9
 a9:=Tryz.isAgg9
 z9:=Tryz.sizeOf9
 v9:=Tryz.zeroValue9
 t20:=Tryz.underlying20
 a20:=Tryz.isAgg20
 z20:=Tryz.sizeOf20
 v20:=Tryz.zeroValue20
 t31:=Tryz.underlying23
 a31:=Tryz.isAgg23
 z31:=Tryz.sizeOf23
 v31:=Tryz.zeroValue23
 t37:=Tryz.underlying22
 a37:=Tryz.isAgg22
 z37:=Tryz.sizeOf22
 v37:=Tryz.zeroValue22
 t70:=Tryz.underlying86
 a70:=Tryz.isAgg86
 z70:=Tryz.sizeOf86
 v70:=Tryz.zeroValue86
 t72:=Tryz.underlying88
 a72:=Tryz.isAgg88
 z72:=Tryz.sizeOf88
 v72:=Tryz.zeroValue88
 t75:=Tryz.underlying90
 a75:=Tryz.isAgg90
 z75:=Tryz.sizeOf90
 v75:=Tryz.zeroValue90
 t76:=Tryz.underlying91
 a76:=Tryz.isAgg91
 z76:=Tryz.sizeOf91
 v76:=Tryz.zeroValue91
 t127:=Tryz.underlying106
 a127:=Tryz.isAgg106
 z127:=Tryz.sizeOf106
 v127:=Tryz.zeroValue106
 t164:=Tryz.underlying120
 a164:=Tryz.isAgg120
 z164:=Tryz.sizeOf120
 v164:=Tryz.zeroValue120
theorem joinX:Builder.Extra Tryz.prog joinL_ren where
 sizeBuilder:=by kernel_rfl
 liesBuilder:=by kernel_rfl
 t5:=Tryz.underlying5
 a5:=Tryz.isAgg5
 z5:=Tryz.sizeOf5
 v5:=Tryz.zeroValue5
 infoByte:=by kernel_rfl
 cellsByte:=by kernel_rfl
 sizeByte:=by kernel_rfl
 neB5:=by decide
def bT:Nat:=joinL_ren.t 72
def uT:Nat:=joinL_ren.t 5
open Go Go.Proofs Go.Shelf Go.RowKit
set_option maxRecDepth 100000
theorem callsX_of {P:Program} {f:Nat} {vs:Array Value} {w:World} {R:Ending->World->Prop} (he:∀args w,(callFunc f args).run P w=.ok (.enter f args) w) (h:Calls P f vs w R):CallsX P f vs w R:=by
 unfold CallsX;rw[he];exact⟨rfl,h⟩
theorem strs_at {ρ:Rho} {w:World} {O:Nat->Prop} {a:Addr}:∀(p:List Str) (i:Nat),PEs ρ w O 1 (p.map fun s=>[AV.str s]) a i->∀(j:Nat) (x:Str),p[j]?=some x->w.cell? (a.add (i+j))=some (.string (bstr x))
 |[],_,_,j,x,h=>by simp at h
 |s::p,i,hv,j,x,h=>by
  simp only[List.map_cons,PEs,PCs,and_true,Nat.mul_one]at hv
  obtain⟨_,⟨v,h1,_,h2⟩,h3⟩:=hv
  cases j with
  |zero=>
   simp only[List.getElem?_cons_zero,Option.some.injEq]at h
   simp only[VR]at h2
   rw[Nat.add_zero,h1,h2,h]
  |succ j=>
   rw[show i+(j+1)=i+1+j by omega]
   exact strs_at p (i+1) h3 j x (by simpa using h)
theorem ext_below {w w':World} (h:Below w.heap.size w w'):Ext (fun _=>False) w w':=
 ⟨h.os,h.tape,h.output,h.size,fun b hb _=>h.block b hb,fun b cs e f hc=>⟨cs,f,by rw[h.block b (Array.getElem?_eq_some_iff.1 hc).1];exact hc,rfl⟩⟩
theorem join_ok (p:List Str) (sep:Str) (hp:p≠[]) (hn:p.length<=140737488355328) (hl:(Lib.join p sep).length<=140737488355328):PE G 106 [pth p,.str sep] (.str (Lib.join p sep)):=by
 intro ρ n X w vs hf hx hv
 obtain⟨v1,v2,rfl⟩:∃v1 v2,vs=#[v1,v2]:=by
  have hl:=VRs_length hv
  cases vs with
  |mk l=>
   match l,hl with
   |[x,y],_=>exact⟨x,y,rfl⟩
 simp only[VRs,and_true,pth]at hv
 obtain⟨h1,h2⟩:=hv
 simp only[VR]at h1 h2
 obtain⟨A,c,rfl,hc,hne⟩:=h1
 subst h2
 obtain⟨a,rfl,_,hb,hpe⟩:=hne (by simpa using hp)
 have hcell:=strs_at p 0 hpe
 have hsp:a=⟨a.block,a.off,none⟩:=by
  obtain⟨x,q,rfl⟩:=List.exists_cons_of_ne_nil hp
  have h0:=hcell 0 x rfl
  rw[show a.add (0+0)=a from rfl]at h0
  unfold World.cell? at h0
  cases a with
  |mk b o s=>
   cases s with
   |none=>rfl
   |some k=>
    split at h0
    ·simp at h0
    ·cases h0
 rw[hsp]at hcell hb⊢
 have hm:((p.map bstr).map fun x:ByteArray=>x.data.toList)=p:=by
  rw[List.map_map]
  exact(List.map_congr_left fun x _=>by simp[bstr]).trans (List.map_id p)
 have hs:(bstr sep).data.toList=sep:=by simp[bstr]
 have hlen:(p.map fun s=>[AV.str s]).length=(p.map bstr).length:=by simp
 rw[hlen]at hc⊢
 refine callsX_of (enters_of joinL.f156 (by kernel_rfl) rfl) ((Any.strings_Join joinL joinX a.block a.off c (p.map bstr) (bstr sep) w (fun j x hx=>?_) hb (by simpa using hn) hc (by rw[hm,hs];exact hl)).mono ?_)
 ·rw[List.getElem?_map]at hx
  cases hq:p[j]? with
  |none=>rw[hq]at hx;cases hx
  |some y=>
   rw[hq]at hx
   simp only[Option.map_some,Option.some.injEq]at hx
   have:=hcell j y hq
   rw[Nat.zero_add,add_plain]at this
   rw[this,hx]
 ·rintro e w' ⟨rfl,hw⟩
  refine⟨_,.str (Lib.join p sep),rfl,rfl,?_,ext_below hw⟩
  simp only[VR];rw[hm,hs];rfl
theorem vs1 {ρ:Rho} {w:World} {O:Nat->Prop} {a:AV} {vs:Array Value} (hv:VRs ρ w O [a] vs.toList):∃v,vs=#[v]/\VR ρ w O a v:=by
 obtain⟨v,h1,h2⟩:=vrs1 hv
 exact⟨v,by apply Array.ext';simpa using h1,h2⟩
theorem cell_head {ρ:Rho} {w:World} {O:Nat->Prop} {a:AV} {rest:List AV} {bk:Nat} {c:Array Value} {e:TypeId} {f:Nat×Nat} (h2:w.heap[bk]?=some (Obj.cells c e f)) (k6:VRs ρ w O (a::rest) (c.toList.take (a::rest).length)):
  ∃x l,c.toList=x::l/\VR ρ w O a x/\VRs ρ w O rest (l.take rest.length)/\w.cell? ⟨bk,0,none⟩=some x:=by
 cases hc:c.toList with
 |nil=>rw[hc]at k6;simp only[List.take_nil,VRs]at k6
 |cons x l=>
  rw[hc,List.length_cons,List.take_succ_cons]at k6
  simp only[VRs]at k6
  refine⟨x,l,rfl,k6.1,k6.2,?_⟩
  unfold World.cell?
  rw[h2]
  have:c[0]?=c.toList[0]?:=by simp
  rw[hc]at this
  simpa using this
theorem tup0_vr {ρ:Rho} {w:World} {O:Nat->Prop}:VR ρ w O (.tup []) (.tuple #[]):=by simp only[VR];exact⟨#[],rfl,by simp only[VRs]⟩
theorem cck_used {H:Hp} {n b:Nat} {rest:List AV} (hg:hgt H b=some (.ptr b 0::rest)):TCall G 84 [.ptr b 0] H n fun r H' n'=>r=.tup []/\H'=H/\n'=n:=by
 intro X ρ w vs hf hr hv
 obtain⟨v,rfl,hv1⟩:=vs1 hv
 simp only[VR]at hv1
 obtain⟨bk,hb,rfl⟩:=hv1
 obtain⟨b',c,e,f,k1,k2,k3,k4,k5,k6⟩:=hr.obj b _ (hgt_mem hg)
 rw[hb]at k1;cases k1
 obtain⟨x,l,hc,hx,_,h0⟩:=cell_head k2 k6
 simp only[VR]at hx
 obtain⟨b2,q1,rfl⟩:=hx
 rw[hb]at q1;cases q1
 refine callsX_of (enters_of joinL.f240 (by kernel_rfl) rfl) ((Any.Builder_copyCheck_used {joinL with} joinX.toX72 bk w h0).mono ?_)
 rintro e w' ⟨rfl,rfl⟩
 exact⟨_,.tup [],ρ,H,n,rfl,hf,hr,tup0_vr,Nx.refl ..,rfl,rfl,rfl⟩
theorem cck_fresh {H:Hp} {n b k:Nat} {rest:List AV} (hg:hgt H b=some (.nilp::rest)) (h4:b%4=0) (hk:k=2):TCall G 84 [.tp b bT k] H n fun r H' n'=>r=.tup []/\H'=hset H b (.ptr b 0::rest)/\n'=n:=by
 subst hk
 intro X ρ w vs hf hr hv
 obtain⟨v,rfl,hv1⟩:=vs1 hv
 simp only[VR]at hv1
 obtain⟨bk,c',f',hb,rfl,hh,hsz⟩:=hv1
 obtain⟨b',c,e,f,k1,k2,k3,k4,k5,k6⟩:=hr.obj b _ (hgt_mem hg)
 rw[hb]at k1;cases k1
 rw[hh]at k2;cases k2
 have hf0:f'=(0,0):=k3.2.resolve_right (by omega)
 subst hf0
 obtain⟨x,l,hc,hx,hl,h0⟩:=cell_head hh k6
 simp only[VR]at hx
 subst hx
 have hset:w.setCell ⟨bk,0,none⟩ (.pointer (some ⟨bk,0,none⟩))=wput w bk (c'.setIfInBounds 0 (.pointer (some ⟨bk,0,none⟩))) bT (0,0):=by
  simp only[World.setCell,wput]
  congr 1
  apply Array.ext_getElem?
  intro i
  rw[Array.getElem?_modify,Array.getElem?_setIfInBounds]
  by_cases hi:bk=i
  ·subst hi
   rw[if_pos rfl,if_pos rfl,hh,if_pos (Array.getElem?_eq_some_iff.1 hh).1]
   rfl
  ·rw[if_neg hi,if_neg hi]
 have hcl:(c'.setIfInBounds 0 (.pointer (some ⟨bk,0,none⟩))).toList=.pointer (some ⟨bk,0,none⟩)::l:=by rw[Array.toList_setIfInBounds,hc];rfl
 obtain⟨r1,r2⟩:=hr.put (n:=n) (cs:=.ptr b 0::rest) (hgt_ids hg) hb hh (c':=c'.setIfInBounds 0 (.pointer (some ⟨bk,0,none⟩))) (by simp) (f:=(0,0)) ⟨fun o ho h=>by simp at h,.inl rfl⟩
  (fun y hy=>by
   rw[hcl]at hy
   rcases List.mem_cons.1 hy with rfl|hy;rfl;exact k4 y (by rw[hc];exact List.mem_cons_of_mem _ hy))
  (by simpa using k5) (by rw[hcl,List.length_cons,List.take_succ_cons];simp only[VRs,VR];exact⟨⟨bk,hb,rfl⟩,hl⟩)
 refine callsX_of (enters_of joinL.f240 (by kernel_rfl) rfl) ((Any.Builder_copyCheck_fresh {joinL with} joinX.toX72 bk w h0 (by unfold World.shape?;rw[hh];show some (bT,c'.size)=some (joinL_ren.t 72,2);rw[hsz];rfl) (by unfold World.frozen?;rw[hh];simp)).mono ?_)
 rintro e w' ⟨rfl,rfl⟩
 rw[hset]
 exact⟨_,.tup [],ρ,_,n,rfl,hf,r1,tup0_vr,r2,rfl,rfl,rfl⟩
set_option maxHeartbeats 2000000 in
theorem bstring {P:Program} {ρ:Ren} (L:Lays.n169 P ρ) (X:Builder.Extra P ρ) (b g cap:Nat) (cur:Array Value) (fz:Nat×Nat) (l:List UInt8) (w:World) (h0:l≠[]) (c0:w.cell? ⟨b,1,none⟩=some (.slice (some ⟨g,0,none⟩) l.length cap))
  (hg:w.heap[g]?=some (.cells cur (ρ.t 5) fz)) (hnc:l.length<=cap) (hcm:cap<=maxLen) (hcs:l.length<=cur.size) (hcell:∀j x,l[j]?=some x->w.cell? ⟨g,j,none⟩=some (.int .u8 x.toNat)):
  Calls P (ρ.f 169) #[.pointer (some ⟨b,0,none⟩)] w fun e w'=>e=.returned (.string ⟨l.toArray⟩)/\w'=w.drew.freeze ⟨g,0,none⟩ l.length:=by
 have hl0:l.length≠0:=by simpa using h0
 have c1:w.drew.cell? ⟨b,1,none⟩=some (.slice (some ⟨g,0,none⟩) l.length cap):=c0
 have hSD:(Builtin.unsafeSliceData_ #[(ρ.t 37)] (ρ.t 127) #[.slice (some ⟨g,0,none⟩) l.length cap]).run P w.drew=.ok (.pointer (some ⟨g,0,none⟩)) w.drew:=
  Lib.run_unsafeSliceData_row _ _ _ _ _ _ (by omega)
 have hUS:(Builtin.unsafeString_ #[(ρ.t 127),(ρ.t 3)] (ρ.t 9) #[.pointer (some ⟨g,0,none⟩),.int .i64 l.length]).run P w.drew=.ok (.string ⟨l.toArray⟩) (w.drew.freeze ⟨g,0,none⟩ l.length):=by
  refine Lib.run_unsafeString_row w.drew (ρ.t 127) (ρ.t 3) (ρ.t 9) (ρ.t 5) L.t127 X.cellsByte g cur.size (by have hg':w.drew.heap[g]?=some (.cells cur (ρ.t 5) fz):=hg;simp[World.shape?,hg']) l h0 hcs (by unfold maxLen at hcm;omega) ?_
  intro j x hx
  have:=hcell j x hx
  rw[add_plain,Nat.zero_add];exact this
 have mixed:=L.mixed
 have t72:=L.t72;have a72:=L.a72;have z72:=L.z72;have v72:=L.v72;have u72:=run_underlying L.t72
 have t70:=L.t70;have a70:=L.a70;have z70:=L.z70;have v70:=L.v70;have u70:=run_underlying L.t70
 have t37:=L.t37;have a37:=L.a37;have z37:=L.z37;have v37:=L.v37;have u37:=run_underlying L.t37
 have t127:=L.t127;have a127:=L.a127;have z127:=L.z127;have v127:=L.v127;have u127:=run_underlying L.t127
 have t3:=L.t3;have a3:=L.a3;have z3:=L.z3;have v3:=L.v3;have u3:=run_underlying L.t3
 have t9:=L.t9;have a9:=L.a9;have z9:=L.z9;have v9:=L.v9;have u9:=run_underlying L.t9
 have t5:=X.t5;have a5:=X.a5;have z5:=X.z5;have v5:=X.v5;have u5:=run_underlying X.t5
 go_enter L.f169,Body.n169_ntmps ρ
 go_wp2
 go_region_o
 all_goals (go_wp2;go_ret;exact⟨rfl,rfl⟩)
theorem app_b (X s:Str):apd (ints X) X.length (ints s)=ints (X++s):=by
 unfold apd
 rw[List.take_of_length_le (by rw[ints_len];exact Nat.le_refl _)]
 simp[ints]
theorem cku {H:Hp} {n b:Nat} {rest:List AV} {Q:CPost} (hg:hgt H b=some (.ptr b 0::rest)) (hq:Q (.tup []) H n):TCall G 84 [.ptr b 0] H n Q:=
 (cck_used hg).mono fun r H' n' _ h=>by obtain⟨rfl,rfl,rfl⟩:=h;exact hq
theorem ckf {H H'':Hp} {n b:Nat} {rest:List AV} {Q:CPost} (hg:hgt H b=some (.nilp::rest)) (h4:b%4=0) (hh:hset H b (.ptr b 0::rest)=H'') (hq:Q (.tup []) H'' n):TCall G 84 [.tp b bT 2] H n Q:=
 (cck_fresh hg h4 rfl).mono fun r H' n' _ h=>by obtain⟨rfl,rfl,rfl⟩:=h;rw[hh];exact hq
def untp:AV->AV
 |.tp i _ _=>.ptr i 0
 |a=>a
theorem untp_vr {ρ:Rho} {w:World} {O:Nat->Prop} {a:AV} {v:Value} (h:VR ρ w O a v):VR ρ w O (untp a) v:=by
 cases a<;>first|exact h|skip
 simp only[untp,VR]at h⊢
 obtain⟨b,_,_,h1,h2,_⟩:=h
 exact⟨b,h1,h2⟩
theorem untps_vr {ρ:Rho} {w:World} {O:Nat->Prop}:∀{xs:List AV} {vs:List Value},VRs ρ w O xs vs->VRs ρ w O (xs.map untp) vs
 |[],[],_=>by simp only[List.map_nil,VRs]
 |a::xs,v::vs,h=>by
  simp only[VRs,List.map_cons]at h⊢
  exact⟨untp_vr h.1,untps_vr h.2⟩
 |[],_::_,h=>by simp only[VRs]at h
 |_::_,[],h=>by simp only[VRs]at h
theorem tc_untp {G:Prg} {f:Nat} {args args':List AV} {H:Hp} {n:Nat} {Q:CPost} (he:args.map untp=args') (h:TCall G f args' H n Q):TCall G f args H n Q:=by
 subst he
 exact fun X ρ w vs hf hr hv=>h X ρ w vs hf hr (untps_vr hv)
def untF (F:Fr):Fr:=F.map fun p=>(p.1,untp p.2)
theorem gt_unt:∀(F:Fr) (t:Nat),gt (untF F) t=untp (gt F t)
 |[],_=>rfl
 |(k,v)::F,t=>by
  show gt ((k,untp v)::untF F) t=_
  simp only[gt]
  cases k==t
  ·exact gt_unt F t
  ·rfl
theorem h_untp {np:Nat} {G:Prg} {c:Code} {F:Fr} {H:Hp} {n:Nat} {Q:Post} (F':Fr) (hF:untF F=F') (h:TT np G.P c F' H n Q):TT np G.P c F H n Q:=by
 subst hF
 exact TT_conv h fun X N ρ a w hs=>⟨ρ,⟨hs.fresh,hs.hr,fun t=>by rw[gt_unt];exact untp_vr (hs.fr t),hs.df,hs.sz⟩,fun _ h=>h,fun _ _ _ h=>h⟩
theorem freeze_heap (w : World) (g n : Nat) (hn : n ≠ 0) (k : Nat) : (w.freeze ⟨g, 0, none⟩ n).heap[k]? = if g = k then (w.heap[k]?).map (fun o=>match o with
  |.cells c elem (lo,hi)=>.cells c elem (if lo==hi then(0,0+n)else(min lo 0,max hi (0+n)))
  |o=>o)else w.heap[k]?:=by
 unfold World.freeze
 rw[if_neg hn]
 show(w.heap.modify g _)[k]?=_
 rw[Array.getElem?_modify]
 rfl
theorem hdel_mem2 {H:Hp} {i j:Nat} {cs:List AV} (hn:(ids H).Nodup) (h:(j,cs)∈hdel H i):j≠i:=fun e=>hdel_not hn (e▸List.mem_map.2 ⟨_,h,rfl⟩)
theorem bstr_tc {H:Hp} {n b j:Nat} {a0:AV} {rest:List AV} {X:Str} (hg:hgt H b=some (a0::.tsl j uT X.length::rest)) (hj:hgt H j=some (ints X)) (hX:X≠[]):
  TCall G 66 [.ptr b 0] H n fun r H' n'=>r=.str X/\H'=hdel H j/\n'=n:=by
 intro Xs ρ w vs hf hr hv
 obtain⟨v,rfl,hv1⟩:=vs1 hv
 simp only[VR]at hv1
 obtain⟨bk,hb,rfl⟩:=hv1
 obtain⟨b',c,e,f,k1,k2,k3,k4,k5,k6⟩:=hr.obj b _ (hgt_mem hg)
 rw[hb]at k1;cases k1
 obtain⟨x,l,hc,_,hl,_⟩:=cell_head k2 k6
 cases l with
 |nil=>simp only[List.length_cons,List.take_nil,VRs]at hl
 |cons y l=>
  simp only[List.length_cons,List.take_succ_cons,VRs]at hl
  obtain⟨hy,_⟩:=hl
  simp only[VR]at hy
  obtain⟨g,cap,cur,fz,q1,rfl,q2,q3,q4,q5⟩:=hy
  obtain⟨g',c2,e2,f2,m1,m2,m3,m4,m5,m6⟩:=hr.obj j _ (hgt_mem hj)
  rw[q1]at m1;cases m1
  rw[q4]at m2;cases m2
  have hln:X.length≠0:=by simpa using hX
  have c0:w.cell? ⟨bk,1,none⟩=some (.slice (some ⟨g,0,none⟩) X.length cap):=by
   unfold World.cell?
   rw[k2]
   have:c[1]?=c.toList[1]?:=by simp
   rw[hc]at this
   simpa using this
  have hil:(ints X).length=X.length:=by simp[ints]
  have hcell:∀i x,X[i]?=some x->w.cell? ⟨g,i,none⟩=some (.int .u8 x.toNat):=by
   intro i x hx
   have hi:i<X.length:=(List.getElem?_eq_some_iff.1 hx).1
   have key:∀(Y:Str) (us:List Value) (i:Nat) (x:UInt8),VRs ρ w (OX Xs ρ H) (ints Y) us->Y[i]?=some x->us[i]?=some (.int .u8 x.toNat):=by
    intro Y
    induction Y with
    |nil=>intro us i x _ h;simp at h
    |cons a Y ih=>
     intro us i x hv h
     cases us with
     |nil=>simp only[ints,List.map_cons,VRs]at hv
     |cons u us=>
      simp only[ints,List.map_cons,VRs,VR]at hv
      cases i with
      |zero=>simp only[List.getElem?_cons_zero,Option.some.injEq]at h⊢;rw[hv.1,h]
      |succ i=>simp only[List.getElem?_cons_succ]at h⊢;exact ih us i x hv.2 h
   have:=key X _ i x m6 hx
   rw[List.getElem?_take_of_lt (by rw[hil];exact hi),Array.getElem?_toList]at this
   unfold World.cell?
   rw[q4];simpa using this
  refine callsX_of (enters_of joinL.f169 (by kernel_rfl) rfl) ((bstring {joinL with} joinX bk g cap cur fz X w hX c0 q4 q2 (by unfold maxLen;exact q3) (by omega) hcell).mono ?_)
  rintro e' w' ⟨rfl,rfl⟩
  have hheap:=freeze_heap w.drew g X.length hln
  have hkeep:∀k,k≠g->(w.drew.freeze ⟨g,0,none⟩ X.length).heap[k]?=w.heap[k]?:=fun k hk=>by rw[hheap,if_neg (fun e=>hk e.symm)];rfl
  have hjH:=hgt_ids hj
  have hsub:=hdel_sub H j
  have hext:Ext (Own ρ H) w (w.drew.freeze ⟨g,0,none⟩ X.length):=by
   refine⟨?_,?_,?_,?_,fun k _ hn=>hkeep k fun e=>hn ⟨j,hjH,e▸q1⟩,fun k cs e f h=>?_⟩
   ·unfold World.freeze;rw[if_neg hln];rfl
   ·unfold World.freeze;rw[if_neg hln];rfl
   ·unfold World.freeze;rw[if_neg hln];rfl
   ·unfold World.freeze;rw[if_neg hln];show _<=(w.heap.modify g _).size;rw[Array.size_modify];exact Nat.le_refl _
   ·by_cases hk:k=g
    ·subst hk
     refine⟨cs,(if f.1==f.2 then(0,0+X.length)else(min f.1 0,max f.2 (0+X.length))),?_,rfl⟩
     rw[hheap,if_pos rfl]
     show(w.heap[k]?).map _=_
     rw[h];rfl
    ·exact⟨cs,f,by rw[hkeep k hk];exact h,rfl⟩
  have hcar:Carry ρ ρ w (w.drew.freeze ⟨g,0,none⟩ X.length) (OX Xs ρ H) (OX Xs ρ (hdel H j)):=⟨fun _ _ h=>h,hext.size,fun k hk hn=>hext.keep k hk fun ho=>hn (.inr ho),hext.shape,fun k _ ho=>ho.imp (fun h=>h) (Own.sub hsub)⟩
  refine⟨_,.str X,ρ,hdel H j,n,rfl,hf,⟨(hr.sub hsub).nodup,(hr.sub hsub).inj,(hr.sub hsub).notX,fun k hk=>Nat.lt_of_lt_of_le (hr.xold k hk) hext.size,fun i ds hm=>?_⟩,by simp only[VR];rfl,⟨fun _ _ h=>h,Nat.le_refl _,hext,fun k hk=>.inl (Own.sub hsub hk)⟩,rfl,rfl,rfl⟩
  obtain⟨d,c3,e3,f3,n1,n2,n3,n4,n5,n6⟩:=hr.obj i ds (hsub.subset hm)
  have hne:d≠g:=fun e=>hdel_mem2 hr.nodup hm (hr.inj i j d (List.mem_map.2 ⟨_,hsub.subset hm,rfl⟩) hjH n1 (e▸q1))
  exact⟨d,c3,e3,f3,n1,by rw[hkeep d hne];exact n2,n3,n4,n5,VRs_carry hcar _ _ n6⟩
section
variable {np:Nat} {G:Prg} {c:Code} {F:Fr} {H:Hp} {n f:Nat} {Q:Post} {ls:List Nat}
end
open Go Go.Proofs
set_option maxRecDepth 100000
theorem within_ok (n lo hi:Int):PE G 52 [.i n,.i lo,.i hi] (.bool (inb n lo hi)):=by
 refine Pe Tryz.func52 ?_
 refine Rr (Fn0 [0,1,2] [] (Rm 6 ((decide ((lo:Int)<=(n:Int)))&&(decide ((n:Int)<=(hi:Int)))) [] ?_ ?_))
 refine An1 4 [(10,.bool (decide ((lo:Int)<=(n:Int)))),(9,.bool (decide ((lo:Int)<=(n:Int)))),(8,.i lo),(7,.i n)] (Ki/\·) ⟨rfl,Rg (fun hg3 g3=>?_) (fun hg3 g3=>?_)⟩
 refine Mn1 (decide ((n:Int)<=(hi:Int))) (Ki/\·) ⟨rfl,(by rw[hg3];rfl)⟩
 refine Mn0 false (by rw[hg3];rfl)
 refine Rt (.bool ((decide ((lo:Int)<=(n:Int)))&&(decide ((n:Int)<=(hi:Int))))) ?_
 exact fin_lea (lea_refl _)
theorem l1In_ok (n lo hi:Int):PE G 69 [.i n,.i lo,.i hi] (.bool (inb n lo hi)):=by
 refine Pe Tryz.func69 ?_
 refine Rr (Fn0 [0,1,2] [] (Rm 6 ((decide ((lo:Int)<=(n:Int)))&&(decide ((n:Int)<=(hi:Int)))) [] ?_ ?_))
 refine An1 4 [(10,.bool (decide ((lo:Int)<=(n:Int)))),(9,.bool (decide ((lo:Int)<=(n:Int)))),(8,.i lo),(7,.i n)] (Ki/\·) ⟨rfl,Rg (fun hg3 g3=>?_) (fun hg3 g3=>?_)⟩
 refine Mn1 (decide ((n:Int)<=(hi:Int))) (Ki/\·) ⟨rfl,(by rw[hg3];rfl)⟩
 refine Mn0 false (by rw[hg3];rfl)
 refine Rt (.bool ((decide ((lo:Int)<=(n:Int)))&&(decide ((n:Int)<=(hi:Int))))) ?_
 exact fin_lea (lea_refl _)
theorem nameOk_ok (s:List UInt8) (hs:s.length<2^62):PE G 62 [.str s] (.bool (nmOk s)):=by
 refine Pe Tryz.func62 ?_
 refine Rr (Fn0 [0] [] (Sq fun K2 hK2=>?_))
 refine Rr (Fn0 [0] [(6,.i 0),(5,.i s.length)] (Bl (h_l (fun(k:Nat)=>([(0,.str s),(5,.i s.length),(6,.i k)]:Fr)) (fun(k:Nat)=>([]:Hp)) (fun(k:Nat) cn=>(k<=s.length/\(s.take k).all chOk=true)/\cn=0) (fun(k:Nat)=>s.length-k) 0 kr ?_ ?_ ?_ ?_)))
 refine⟨?_,rfl⟩;exact⟨Nat.zero_le _,rfl⟩
 exact⟨kr,kr,kr,trivial⟩
 exact(List.nil_sublist _)
 rintro k n1 hI
 (try dsimp only at hI)
 obtain⟨⟨hi1,hi2⟩,rfl⟩:=hI
 refine Rr (Fn1 [0,5,6] [(7,.bool (decide ((k:Int)<(s.length:Int))))] (Ki/\·) ⟨rfl,Sq fun K5 hK5=>?_⟩)
 refine Cc (decide ((k:Int)<(s.length:Int))) (fun hc6 c6=>?_) fun hc6 c6=>?_
 refine Sk (Jn (hK5 (Kp [0,5,6] (Sq fun K7 hK7=>?_))))
 refine Bl (Rr (Fn0 [0,5,6] [(3,.i k)] (Rm 30 (!chOk (s.getD k 0)) [0,5,6] ?_ ?_)))
 refine An1 5 [(13,.bool (decide (((s.getD k 0).toNat:Int)<97))),(12,.bool (decide (((s.getD k 0).toNat:Int)<97))),(11,.int .u8 ((s.getD k 0).toNat:Int)),(10,.i k),(9,.str s)] (((0:Int)<=(k:Int)/\(k:Int)<(s.length:Int))/\(IntKind.u8=IntKind.u8)/\·) ⟨⟨om,om⟩,rfl,Rg (fun hg10 g10=>?_) (fun hg10 g10=>?_)⟩
 refine An1 11 [(24,.bool (decide (((s.getD k 0).toNat:Int)<48))),(23,.bool (decide (((s.getD k 0).toNat:Int)<48))),(22,.int .u8 ((s.getD k 0).toNat:Int)),(21,.i k),(20,.str s),(19,.bool true),(18,.bool true),(17,.tup []),(16,.tup []),(15,.tup []),(14,.tup [])] (((0:Int)<=(k:Int)/\(k:Int)<(s.length:Int))/\(IntKind.u8=IntKind.u8)/\·) ⟨⟨om,om⟩,rfl,Rg (fun hg11 g11=>?_) (fun hg11 g11=>?_)⟩
 refine Mn0 true (by rw[Bool.eq_iff_iff];simp[chOk,-List.getD_eq_getElem?_getD];omega)
 refine Mn1 (decide ((57:Int)<(((s.getD k 0).toNat:Int):Int))) (((0:Int)<=(k:Int)/\(k:Int)<(s.length:Int))/\(IntKind.u8=IntKind.u8)/\·) ⟨⟨om,om⟩,rfl,(by rw[Bool.eq_iff_iff];simp[chOk,-List.getD_eq_getElem?_getD];omega)⟩
 refine An1 6 [(19,.bool (decide ((122:Int)<(((s.getD k 0).toNat:Int):Int)))),(18,.bool (decide ((122:Int)<(((s.getD k 0).toNat:Int):Int)))),(17,.bool (decide ((122:Int)<(((s.getD k 0).toNat:Int):Int)))),(16,.int .u8 ((s.getD k 0).toNat:Int)),(15,.i k),(14,.str s)] (((0:Int)<=(k:Int)/\(k:Int)<(s.length:Int))/\(IntKind.u8=IntKind.u8)/\·) ⟨⟨om,om⟩,rfl,Rg (fun hg12 g12=>?_) (fun hg12 g12=>?_)⟩
 refine An1 5 [(24,.bool (decide (((s.getD k 0).toNat:Int)<48))),(23,.bool (decide (((s.getD k 0).toNat:Int)<48))),(22,.int .u8 ((s.getD k 0).toNat:Int)),(21,.i k),(20,.str s)] (((0:Int)<=(k:Int)/\(k:Int)<(s.length:Int))/\(IntKind.u8=IntKind.u8)/\·) ⟨⟨om,om⟩,rfl,Rg (fun hg13 g13=>?_) (fun hg13 g13=>?_)⟩
 refine Mn0 true (by rw[Bool.eq_iff_iff];simp[chOk,-List.getD_eq_getElem?_getD];omega)
 refine Mn1 (decide ((57:Int)<(((s.getD k 0).toNat:Int):Int))) (((0:Int)<=(k:Int)/\(k:Int)<(s.length:Int))/\(IntKind.u8=IntKind.u8)/\·) ⟨⟨om,om⟩,rfl,(by rw[Bool.eq_iff_iff];simp[chOk,-List.getD_eq_getElem?_getD];omega)⟩
 refine Mn0 false (by rw[Bool.eq_iff_iff];simp[chOk,-List.getD_eq_getElem?_getD];omega)
 refine Cc (!chOk (s.getD k 0)) (fun hc14 c14=>?_) fun hc14 c14=>?_
 refine Rr (Fn0 [] [(2,.bool false)] (Rt (.bool false) (fin_lea ?_)))
 rw[show nmOk s=false by simp[-List.getD_eq_getElem?_getD,nmOk,all_false_at chOk s k 0 om c14]];exact lea_refl _
 refine Sk (Bn (Jn (hK7 (Kp [0,5,6] (Rn (Av1 1 31 [] (cI (wn1 k om)) (Ki/\·) ⟨rfl,Gn0 [(6,.i ((k+1:Nat):Int))] (nk_n ?_)⟩))))))
 refine Lr (k+1) [] 0 [(0,.str s),(5,.i s.length),(6,.i ((k+1:Nat):Int))] [] [] ?_ ?_ kr kr
 (try dsimp only);omega
 refine⟨?_,rfl⟩;(try dsimp only);exact⟨om,by rw[all_take_snoc chOk s k 0 om,hi2,c14];rfl⟩
 refine Xt (Jx (Lx (Bh (Jn (hK2 (Kp [0] (Rr (Pc0 3 [(33,.i s.length),(32,.str s)] 34 (within_ok (s.length:Int) 1 5) (Fn0 [] [(2,.bool (inb (s.length:Int) 1 5))] (Rt (.bool (inb (s.length:Int) 1 5)) ?_))))))))))
 refine fin_lea ?_
 rw[show nmOk s=inb (s.length:Int) 1 5 by simp[nmOk,all_take_full chOk s k om hi2]];exact lea_refl _
theorem l1NameOk_ok (s:List UInt8) (hs:s.length<2^62):PE G 70 [.str s] (.bool (nmOk s)):=by
 refine Pe Tryz.func70 ?_
 refine Rr (Fn0 [0] [] (Sq fun K2 hK2=>?_))
 refine Rr (Fn0 [0] [(3,.i 0)] (Bl (h_l (fun(k:Nat)=>([(0,.str s),(3,.i k)]:Fr)) (fun(k:Nat)=>([]:Hp)) (fun(k:Nat) cn=>(k<=s.length/\(s.take k).all chOk=true)/\cn=0) (fun(k:Nat)=>s.length-k) 0 kr ?_ ?_ ?_ ?_)))
 refine⟨?_,rfl⟩;exact⟨Nat.zero_le _,rfl⟩
 exact⟨kr,kr,trivial⟩
 exact(List.nil_sublist _)
 rintro k n1 hI
 (try dsimp only at hI)
 obtain⟨⟨hi1,hi2⟩,rfl⟩:=hI
 refine Sq fun K4 hK4=>?_
 refine Rr (Cn1 (decide ((k:Int)<(s.length:Int))) [0,3] [] (Ki/\·) ⟨rfl,fun hc6 c6=>?_,fun hc6 c6=>?_⟩)
 refine Sk (Jn (hK4 (Kp [0,3] (Sq fun K7 hK7=>?_))))
 refine Bl (Rm 32 (!chOk (s.getD k 0)) [0,3] ?_ ?_)
 refine An1 5 [(14,.bool (decide ((97:Int)<=(((s.getD k 0).toNat:Int):Int)))),(13,.bool (decide ((97:Int)<=(((s.getD k 0).toNat:Int):Int)))),(12,.int .u8 ((s.getD k 0).toNat:Int)),(11,.i k),(10,.str s)] (((0:Int)<=(k:Int)/\(k:Int)<(s.length:Int))/\(IntKind.u8=IntKind.u8)/\·) ⟨⟨om,om⟩,rfl,Rg (fun hg9 g9=>?_) (fun hg9 g9=>?_)⟩
 refine An1 6 [(20,.bool (decide (((s.getD k 0).toNat:Int)<=122))),(19,.bool (decide (((s.getD k 0).toNat:Int)<=122))),(18,.bool (decide (((s.getD k 0).toNat:Int)<=122))),(17,.int .u8 ((s.getD k 0).toNat:Int)),(16,.i k),(15,.str s)] (((0:Int)<=(k:Int)/\(k:Int)<(s.length:Int))/\(IntKind.u8=IntKind.u8)/\·) ⟨⟨om,om⟩,rfl,Rg (fun hg10 g10=>?_) (fun hg10 g10=>?_)⟩
 refine Mn0 false (by rw[Bool.eq_iff_iff];simp[chOk,-List.getD_eq_getElem?_getD];omega)
 refine An1 5 [(25,.bool (decide ((48:Int)<=(((s.getD k 0).toNat:Int):Int)))),(24,.bool (decide ((48:Int)<=(((s.getD k 0).toNat:Int):Int)))),(23,.int .u8 ((s.getD k 0).toNat:Int)),(22,.i k),(21,.str s)] (((0:Int)<=(k:Int)/\(k:Int)<(s.length:Int))/\(IntKind.u8=IntKind.u8)/\·) ⟨⟨om,om⟩,rfl,Rg (fun hg11 g11=>?_) (fun hg11 g11=>?_)⟩
 refine Mn1 (!(decide (((s.getD k 0).toNat:Int)<=57))) (((0:Int)<=(k:Int)/\(k:Int)<(s.length:Int))/\(IntKind.u8=IntKind.u8)/\·) ⟨⟨om,om⟩,rfl,(by rw[Bool.eq_iff_iff];simp[chOk,-List.getD_eq_getElem?_getD];omega)⟩
 refine Mn0 true (by rw[Bool.eq_iff_iff];simp[chOk,-List.getD_eq_getElem?_getD];omega)
 refine An1 11 [(25,.bool (decide ((48:Int)<=(((s.getD k 0).toNat:Int):Int)))),(24,.bool (decide ((48:Int)<=(((s.getD k 0).toNat:Int):Int)))),(23,.int .u8 ((s.getD k 0).toNat:Int)),(22,.i k),(21,.str s),(20,.bool false),(19,.bool false),(18,.tup []),(17,.tup []),(16,.tup []),(15,.tup [])] (((0:Int)<=(k:Int)/\(k:Int)<(s.length:Int))/\(IntKind.u8=IntKind.u8)/\·) ⟨⟨om,om⟩,rfl,Rg (fun hg12 g12=>?_) (fun hg12 g12=>?_)⟩
 refine Mn1 (!(decide (((s.getD k 0).toNat:Int)<=57))) (((0:Int)<=(k:Int)/\(k:Int)<(s.length:Int))/\(IntKind.u8=IntKind.u8)/\·) ⟨⟨om,om⟩,rfl,(by rw[Bool.eq_iff_iff];simp[chOk,-List.getD_eq_getElem?_getD];omega)⟩
 refine Mn0 true (by rw[Bool.eq_iff_iff];simp[chOk,-List.getD_eq_getElem?_getD];omega)
 refine Cc (!chOk (s.getD k 0)) (fun hc13 c13=>?_) fun hc13 c13=>?_
 refine Rr (Fn0 [] [(2,.bool false)] (Rt (.bool false) (fin_lea ?_)))
 rw[show nmOk s=false by simp[-List.getD_eq_getElem?_getD,nmOk,all_false_at chOk s k 0 om c13]];exact lea_refl _
 refine Sk (Bn (Jn (hK7 (Kp [0,3] (Rn (Av1 2 9 [(8,.i k)] (cI (wn1 k om)) (Ki/\·) ⟨rfl,Gn0 [(3,.i ((k+1:Nat):Int))] (nk_n ?_)⟩))))))
 refine Lr (k+1) [] 0 [(0,.str s),(3,.i ((k+1:Nat):Int))] [] [] ?_ ?_ kr kr
 (try dsimp only);omega
 refine⟨?_,rfl⟩;(try dsimp only);exact⟨om,by rw[all_take_snoc chOk s k 0 om,hi2,c13];rfl⟩
 refine Xt (Jx (Lx (Bh (Jn (hK2 (Kp [0] (Rr (Pc0 3 [(34,.i s.length),(33,.str s)] 35 (l1In_ok (s.length:Int) 1 5) (Fn0 [] [(2,.bool (inb (s.length:Int) 1 5))] (Rt (.bool (inb (s.length:Int) 1 5)) ?_))))))))))
 refine fin_lea ?_
 rw[show nmOk s=inb (s.length:Int) 1 5 by simp[nmOk,all_take_full chOk s k om hi2]];exact lea_refl _
theorem namesOk_ok (p:List Str) (lo:Int) (hp:p.length<2^62) (hs:∀s∈p,s.length<2^62):PE G 72 [pth p,.i lo] (.bool (pthOk p lo)):=by
 refine Pe Tryz.func72 ?_
 refine Rr (Fn0 [0,1] [] (Sq fun K2 hK2=>?_))
 refine Rr (Av0 2 8 [(7,pth p)] (lnm p sc) (Fn0 [0,1,7,8] [(9,.i 0)] (Bl (h_l (fun(k:Nat)=>([(0,pth p),(1,.i lo),(7,pth p),(8,.i p.length),(9,.i k)]:Fr)) (fun(k:Nat)=>([]:Hp)) (fun(k:Nat) cn=>(k<=p.length/\(p.take k).all nmOk=true)/\cn=0) (fun(k:Nat)=>p.length-k) 0 kr ?_ ?_ ?_ ?_))))
 refine⟨?_,rfl⟩;exact⟨Nat.zero_le _,rfl⟩
 exact⟨kr,kr,kr,kr,kr,trivial⟩
 exact(List.nil_sublist _)
 rintro k n1 hI
 (try dsimp only at hI)
 obtain⟨⟨hi1,hi2⟩,rfl⟩:=hI
 refine Rr (Fn1 [0,1,7,8,9] [(10,.bool (decide ((k:Int)<(p.length:Int))))] (Ki/\·) ⟨rfl,Sq fun K5 hK5=>?_⟩)
 refine Cc (decide ((k:Int)<(p.length:Int))) (fun hc6 c6=>?_) fun hc6 c6=>?_
 refine Sk (Jn (hK5 (Kp [0,1,7,8,9] (Sq fun K7 hK7=>?_))))
 refine Bl (Rr (Av1 1 11 [] (congrArg AV.pat (mg_str p k om)) ((1=1/\(0:Int)<=(k:Int)/\(k:Int)<((p.map (fun s=>[AV.str s])).length:Int))/\·) ⟨⟨rfl,om,lmo⟩,Fn1 [0,1,7,8,9] [(6,.str (p.getD k default))] ((1<=1/\0<1)/\·) ⟨dc,Rr ?_⟩⟩))
 refine Pc0 2 [(13,.str (p.getD k default))] 14 (nameOk_ok (p.getD k default) (hs _ (getD_mem p k default om))) (Cn0 (!(nmOk (p.getD k default))) [0,1,7,8,9] [] ⟨fun hc10 c10=>?_,fun hc10 c10=>?_⟩)
 refine Rr (Fn0 [] [(4,.bool false)] (Rt (.bool false) (fin_lea ?_)))
 rw[show pthOk p lo=false by simp[-List.getD_eq_getElem?_getD,pthOk,all_false_at nmOk p k default om c10]];exact lea_refl _
 refine Sk (Bn (Jn (hK7 (Kp [0,1,7,8,9] (Rn (Av1 1 16 [] (cI (wn1 k om)) (Ki/\·) ⟨rfl,Gn0 [(9,.i ((k+1:Nat):Int))] (nk_n ?_)⟩))))))
 refine Lr (k+1) [] 0 [(0,pth p),(1,.i lo),(7,pth p),(8,.i p.length),(9,.i ((k+1:Nat):Int))] [] [] ?_ ?_ kr kr
 (try dsimp only);omega
 refine⟨?_,rfl⟩;(try dsimp only);exact⟨om,by rw[all_take_snoc nmOk p k default om,hi2,c10];rfl⟩
 refine Xt (Jx (Lx (Bh (Jn (hK2 (Kp [0,1] (Rr (Av0 2 18 [(17,pth p)] (lnm p sc) (Pc0 2 [(19,.i lo)] 20 (within_ok (p.length:Int) lo 4) (Fn0 [] [(4,.bool (inb (p.length:Int) lo 4))] ?_))))))))))
 refine Rt (.bool (inb (p.length:Int) lo 4)) (fin_lea ?_)
 rw[show pthOk p lo=inb (p.length:Int) lo 4 by simp[pthOk,all_take_full nmOk p k om hi2]];exact lea_refl _
theorem l2PathOk_ok (p:List Str) (hp:p.length<2^62) (hs:∀s∈p,s.length<2^62):PE G 98 [pth p] (.bool (pthOk p 1)):=by
 refine Pe Tryz.func98 ?_
 refine Rr (Fn0 [0] [] (Sq fun K2 hK2=>?_))
 refine Rr (Fn0 [0] [(3,.i 0)] (Bl (h_l (fun(k:Nat)=>([(0,pth p),(3,.i k)]:Fr)) (fun(k:Nat)=>([]:Hp)) (fun(k:Nat) cn=>(k<=p.length/\(p.take k).all nmOk=true)/\cn=0) (fun(k:Nat)=>p.length-k) 0 kr ?_ ?_ ?_ ?_)))
 refine⟨?_,rfl⟩;exact⟨Nat.zero_le _,rfl⟩
 exact⟨kr,kr,trivial⟩
 exact(List.nil_sublist _)
 rintro k n1 hI
 (try dsimp only at hI)
 obtain⟨⟨hi1,hi2⟩,rfl⟩:=hI
 refine Sq fun K4 hK4=>?_
 refine Rr (Av0 3 6 [(5,pth p),(4,.i k)] (lnm p sc) (Cn1 (decide ((k:Int)<(p.length:Int))) [0,3] [] (Ki/\·) ⟨rfl,fun hc6 c6=>?_,fun hc6 c6=>?_⟩))
 refine Sk (Jn (hK4 (Kp [0,3] (Sq fun K7 hK7=>?_))))
 refine Bl (Rr (Av1 3 12 [(11,.i k),(10,pth p)] (congrArg AV.pat (mg_str p k om)) ((1=1/\(0:Int)<=(k:Int)/\(k:Int)<((p.map (fun s=>[AV.str s])).length:Int))/\·) ⟨⟨rfl,om,lmo⟩,Pc1 2 [(13,.str (p.getD k default))] 14 (1<=1/\0<1) dc (l1NameOk_ok (p.getD k default) (hs _ (getD_mem p k default om))) (Cn0 (!(nmOk (p.getD k default))) [0,3] [] ⟨fun hc9 c9=>?_,fun hc9 c9=>?_⟩)⟩))
 refine Rr (Fn0 [] [(2,.bool false)] (Rt (.bool false) (fin_lea ?_)))
 rw[show pthOk p 1=false by simp[-List.getD_eq_getElem?_getD,pthOk,all_false_at nmOk p k default om c9]];exact lea_refl _
 refine Sk (Bn (Jn (hK7 (Kp [0,3] (Rn (Av1 2 9 [(8,.i k)] (cI (wn1 k om)) (Ki/\·) ⟨rfl,Gn0 [(3,.i ((k+1:Nat):Int))] (nk_n ?_)⟩))))))
 refine Lr (k+1) [] 0 [(0,pth p),(3,.i ((k+1:Nat):Int))] [] [] ?_ ?_ kr kr
 (try dsimp only);omega
 refine⟨?_,rfl⟩;(try dsimp only);exact⟨om,by rw[all_take_snoc nmOk p k default om,hi2,c9];rfl⟩
 refine Xt (Jx (Lx (Bh (Jn (hK2 (Kp [0] (Rr (Av0 2 17 [(16,pth p)] (lnm p sc) (Pc0 1 [] 18 (l1In_ok (p.length:Int) 1 4) (Fn0 [] [(2,.bool (inb (p.length:Int) 1 4))] ?_))))))))))
 refine Rt (.bool (inb (p.length:Int) 1 4)) (fin_lea ?_)
 rw[show pthOk p 1=inb (p.length:Int) 1 4 by simp[pthOk,all_take_full nmOk p k om hi2]];exact lea_refl _
theorem l2Within_ok (p q:List Str) (hp:p.length<2^62) (hq:q.length<2^62):PE G 113 [pth p,pth q] (.bool (q.isPrefixOf p)):=by
 refine Pe Tryz.func113 ?_
 refine Rr (Fn0 [0,1] [] (Sq fun K2 hK2=>?_))
 refine Rr (Av0 2 7 [(6,pth p)] (lnm p sc) (Av0 2 9 [(8,pth q)] (lnm q sc) (Cn1 (decide ((p.length:Int)<(q.length:Int))) [0,1] [] (Ki/\·) ⟨rfl,fun hc4 c4=>?_,fun hc4 c4=>?_⟩)))
 refine Rr (Fn0 [] [(4,.bool false)] (Rt (.bool false) (fin_lea ?_)))
 rw[pre_no om];exact lea_refl _
 refine Sk (Jn (hK2 (Kp [0,1] (Sq fun K6 hK6=>?_))))
 refine Rr (Fn0 [0,1] [(5,.i 0)] (Bl (h_l (fun(k:Nat)=>([(0,pth p),(1,pth q),(5,.i k)]:Fr)) (fun(k:Nat)=>([]:Hp)) (fun(k:Nat) cn=>(k<=q.length/\q.take k=p.take k)/\cn=0) (fun(k:Nat)=>q.length-k) 0 kr ?_ ?_ ?_ ?_)))
 refine⟨?_,rfl⟩;exact⟨Nat.zero_le _,rfl⟩
 exact⟨kr,kr,kr,trivial⟩
 exact(List.nil_sublist _)
 rintro k n1 hI
 (try dsimp only at hI)
 obtain⟨⟨hi1,hi2⟩,rfl⟩:=hI
 refine Sq fun K8 hK8=>?_
 refine Rr (Av0 3 13 [(12,pth q),(11,.i k)] (lnm q sc) (Cn1 (decide ((k:Int)<(q.length:Int))) [0,1,5] [] (Ki/\·) ⟨rfl,fun hc10 c10=>?_,fun hc10 c10=>?_⟩))
 refine Sk (Jn (hK8 (Kp [0,1,5] (Sq fun K11 hK11=>?_))))
 refine Bl (Qr [0,0,3,7,0,0,48,112,255] [(0,[]),(1,[]),(2,[]),(3,[]),(4,[]),(5,[]),(6,[]),(7,[]),(8,[])] (qAv1 3 19 [(18,.i k),(17,pth p)] (congrArg AV.pat (mg_str p k om)) ((1=1/\(0:Int)<=(k:Int)/\(k:Int)<((p.map (fun s=>[AV.str s])).length:Int))/\·) ⟨⟨rfl,om,lmo⟩,qAv1 4 23 [(22,.i k),(21,pth q),(20,.str (p.getD k default))] (congrArg AV.pat (mg_str q k om)) ((1<=1/\0<1)/\(1=1/\(0:Int)<=(k:Int)/\(k:Int)<((q.map (fun s=>[AV.str s])).length:Int))/\·) ⟨dc,⟨rfl,om,lmo⟩,qCn1 (!((p.getD k default)==(q.getD k default))) [0,1,5] [] ((1<=1/\0<1)/\·) ⟨dc,fun hc13 c13=>?_,fun hc13 c13=>?_⟩⟩⟩))
 refine Rr (Fn0 [] [(4,.bool false)] (Rt (.bool false) (fin_lea ?_)))
 rw[pre_ne (k:=k) om c13];exact lea_refl _
 refine Sk (Bn (Jn (hK11 (Kp [0,1,5] (Rn (Av1 2 16 [(15,.i k)] (cI (wn1 k om)) (Ki/\·) ⟨rfl,Gn0 [(5,.i ((k+1:Nat):Int))] (nk_n ?_)⟩))))))
 refine Lr (k+1) [] 0 [(0,pth p),(1,pth q),(5,.i ((k+1:Nat):Int))] [] [] ?_ ?_ kr kr
 (try dsimp only);omega
 refine⟨?_,rfl⟩;(try dsimp only);exact⟨om,by rw[take_snoc q k default om,take_snoc p k default om,hi2,eq_of_beq c13]⟩
 refine Xt (Jx (Lx (Bh (Jn (hK6 (Kp [] (Rr (Fn0 [] [(4,.bool true)] (Rt (.bool true) (fin_lea ?_))))))))))
 rw[pre_yes (k:=k) om hi2];exact lea_refl _
theorem l1Find_c (t:Tr) (s:Str) (hw:t.W<2^60):PE G 71 [.agg (tcs t),.str s] (.i (fndI s t.names)):=by
 rw[W_eq]at hw;have hns:=wS_len t.names
 refine Pe Tryz.func71 ?_
 refine Rr (Fn2 [1] [(2,.ptr 0 0)] ([(0,tcs t)]++·) 4 (Sq fun K2 hK2=>?_))
 refine Rr (Fn0 [1,2] [(5,.i 0)] (Bl (h_l (fun(k:Nat)=>([(1,.str s),(2,.ptr 0 0),(5,.i k)]:Fr)) (fun(k:Nat)=>([(0,tcs t)]:Hp)) (fun(k:Nat) cn=>(k<=t.names.length/\fnd s (t.names.take k)=none)/\cn=4) (fun(k:Nat)=>t.names.length-k) 0 kr ?_ ?_ ?_ ?_)))
 refine⟨?_,rfl⟩;exact⟨Nat.zero_le _,rfl⟩
 exact⟨kr,kr,kr,trivial⟩
 exact(sub_c kr (List.nil_sublist _))
 rintro k n1 hI
 (try dsimp only at hI)
 obtain⟨⟨hi1,hi2⟩,rfl⟩:=hI
 refine Sq fun K4 hK4=>?_
 refine Rr (Av1 4 9 [(8,pth t.names),(7,.ptr 0 3),(6,.i k)] (lnm t.names sc) (((1:Nat)≠0)/\(3+1<=5/\3<5)/\·) ⟨dc,dc,Cn1 (decide ((k:Int)<(t.names.length:Int))) [1,2,5] [] (Ki/\·) ⟨rfl,fun hc6 c6=>?_,fun hc6 c6=>?_⟩⟩)
 refine Sk (Jn (hK4 (Kp [1,2,5] (Sq fun K7 hK7=>?_))))
 refine Bl (Rr (Av1 4 16 [(15,.i k),(14,pth t.names),(13,.ptr 0 3)] (congrArg AV.pat (mg_str t.names k om)) (((1:Nat)≠0)/\(3+1<=5/\3<5)/\(1=1/\(0:Int)<=(k:Int)/\(k:Int)<((t.names.map (fun s=>[AV.str s])).length:Int))/\·) ⟨dc,dc,⟨rfl,om,lmo⟩,Cn1 ((t.names.getD k default)==s) [1,2,5] [] ((1<=1/\0<1)/\·) ⟨dc,fun hc9 c9=>?_,fun hc9 c9=>?_⟩⟩))
 refine Rr (Fn0 [] [(4,.i k)] (Rt (.i k) (fin_lea ?_)))
 simp only[fndI];rw[fnd_found s _ k om hi2 (by simpa using c9)];exact lea_refl _
 refine Sk (Bn (Jn (hK7 (Kp [1,2,5] (Rn (Av1 2 12 [(11,.i k)] (cI (wn1 k om)) (Ki/\·) ⟨rfl,Gn0 [(5,.i ((k+1:Nat):Int))] (nk_n ?_)⟩))))))
 refine Lr (k+1) [(0,0)] 4 [(1,.str s),(2,.ptr 0 0),(5,.i ((k+1:Nat):Int))] [(0,tcs t)] [true] ?_ ?_ kr kr
 (try dsimp only);omega
 refine⟨?_,rfl⟩;(try dsimp only);exact⟨om,fnd_step s _ k om hi2 (by simpa using c9)⟩
 refine Xt (Jx (Lx (Bh (Jn (hK2 (Kp [] (Rr (Fn0 [] [(4,.i (-1))] (Rt (.i (-1)) (fin_lea ?_))))))))))
 simp only[fndI];rw[fnd_full s _ k om hi2];exact lea_refl _
theorem l1Plain_ok (t:Tr) (hw:t.W<2^60):PE G 43 [.agg (tcs t)] (.bool (plainOk t)):=by
 rw[W_eq]at hw;have hns:=wS_len t.names;have hks:=Ws_len t.kids
 refine Pe Tryz.func43 ?_
 refine Rr (Fn2 [] [(1,.ptr 0 0)] ([(0,tcs t)]++·) 4 (Sq fun K2 hK2=>?_))
 refine Rm 16 ((!(inb t.mode 0 7))||(!decide ((t.names.length:Int)=(t.kids.length:Int)))) [1] ?_ ?_
 refine Bc1 3 [(5,.i t.mode),(4,.ptr 0 1)] 69 [.i t.mode,.i 0,.i 7] 6 (((1:Nat)≠0)/\(1+1<=5/\1<5)/\·) ⟨dc,dc,?_⟩
 refine PE.use (l1In_ok t.mode 0 7) ?_
 refine Ke (An0 2 [(8,.bool (!(inb t.mode 0 7))),(7,.bool (!(inb t.mode 0 7)))] (Rg (fun hg4 g4=>?_) (fun hg4 g4=>?_)))
 refine Mn0 true (by rw[hg4];rfl)
 refine Av1 3 11 [(10,pth t.names),(9,.ptr 0 3)] (lnm t.names sc) (((1:Nat)≠0)/\(3+1<=5/\3<5)/\·) ⟨dc,dc,Av1 3 14 [(13,.sl 5 (t.kids.map trc)),(12,.ptr 0 4)] (lnm t.kids trc) (((1:Nat)≠0)/\(4+1<=5/\4<5)/\·) ⟨dc,dc,Mn1 (!decide ((t.names.length:Int)=(t.kids.length:Int))) (Ki/\·) ⟨rfl,(by rw[hg4];rfl)⟩⟩⟩
 refine Cc ((!(inb t.mode 0 7))||(!decide ((t.names.length:Int)=(t.kids.length:Int)))) (fun hc5 c5=>?_) fun hc5 c5=>?_
 refine Rr (Fn0 [] [(2,.bool false)] (Rt (.bool false) (fin_lea ?_)))
 rw [show plainOk t=(false) by
   rcases c5 with h|h
   · simp[plainOk,h]
   · simp[plainOk,show t.names.length≠t.kids.length by omega]
   ];exact lea_refl _
 refine Sk (Jn (hK2 (Kp [1] (Sq fun K7 hK7=>?_))))
 refine Rr (Cn1 (!t.dir) [1] [] (((1:Nat)≠0)/\(0+1<=5/\0<5)/\·) ⟨dc,dc,fun hc9 c9=>?_,fun hc9 c9=>?_⟩)
 refine Rm 2 ((decide ((t.data.length:Int)<=24))&&(decide ((t.names.length:Int)=0))) [] ?_ ?_
 refine An1 5 [(24,.bool (decide ((t.data.length:Int)<=24))),(23,.bool (decide ((t.data.length:Int)<=24))),(22,.i t.data.length),(21,.str t.data),(20,.ptr 0 2)] (((1:Nat)≠0)/\(2+1<=5/\2<5)/\Ki/\·) ⟨dc,dc,rfl,Rg (fun hg11 g11=>?_) (fun hg11 g11=>?_)⟩
 refine Av1 3 27 [(26,pth t.names),(25,.ptr 0 3)] (lnm t.names sc) (((1:Nat)≠0)/\(3+1<=5/\3<5)/\·) ⟨dc,dc,Mn1 (decide ((t.names.length:Int)=0)) (Ki/\·) ⟨rfl,(by rw[hg11];rfl)⟩⟩
 refine Mn0 false (by rw[hg11];rfl)
 refine Rt (.bool ((decide ((t.data.length:Int)<=24))&&(decide ((t.names.length:Int)=0)))) (fin_lea ?_)
 rw [show plainOk t=((decide ((t.data.length:Int)<=24))&&(decide ((t.names.length:Int)=0))) by
   have e1:=c5.1;have e2:t.names.length=t.kids.length:=(by have:=c5.2;omega)
   have hd:t.dir=false:=c9
   simp[plainOk,e1,e2,hd];rw[Bool.eq_iff_iff];simp;omega
   ];exact lea_refl _
 refine Sk (Jn (hK7 (Kp [1] (Sq fun K12 hK12=>?_))))
 refine Rr (Fn0 [1] [(3,.i 0)] (Bl (h_l (fun(k:Nat)=>([(1,.ptr 0 0),(3,.i k)]:Fr)) (fun(k:Nat)=>([(0,tcs t)]:Hp)) (fun(k:Nat) cn=>(k<=t.names.length/\(t.names.take k).all nmOk=true/\asc (t.names.take k)=true)/\cn=4) (fun(k:Nat)=>t.names.length-k) 0 kr ?_ ?_ ?_ ?_)))
 refine⟨?_,rfl⟩;exact⟨Nat.zero_le _,rfl,rfl⟩
 exact⟨kr,kr,trivial⟩
 exact(sub_c kr (List.nil_sublist _))
 rintro k n1 hI
 (try dsimp only at hI)
 obtain⟨⟨hi1,hi2,hi3⟩,rfl⟩:=hI
 refine Sq fun K14 hK14=>?_
 refine Rr (Av1 4 33 [(32,pth t.names),(31,.ptr 0 3),(30,.i k)] (lnm t.names sc) (((1:Nat)≠0)/\(3+1<=5/\3<5)/\·) ⟨dc,dc,Cn1 (decide ((k:Int)<(t.names.length:Int))) [1,3] [] (Ki/\·) ⟨rfl,fun hc16 c16=>?_,fun hc16 c16=>?_⟩⟩)
 refine Sk (Jn (hK14 (Kp [1,3] (Sq fun K17 hK17=>?_))))
 refine Bl (Qm [0,1,0,7,15,31,63,127,255,511,1023,2047,4095,2047,10239,32767,65535,2047,133119,2047,919551,1968127,4194303,8388607,16777215] [(0,[]),(1,[]),(2,[]),(3,[]),(4,[]),(5,[]),(6,[]),(7,[]),(8,[]),(9,[]),(10,[]),(11,[]),(12,[]),(13,[]),(14,[]),(15,[]),(16,[]),(17,[]),(18,[]),(19,[]),(20,[]),(21,[]),(22,[]),(23,[]),(24,[])] 61 (!nmOk (t.names.getD k default)||(decide (0<k)&& !blt (t.names.getD (k-1) default) (t.names.getD k default))) [1,3] ?_ ?_)
 refine qAv1 4 40 [(39,.i k),(38,pth t.names),(37,.ptr 0 3)] (congrArg AV.pat (mg_str t.names k om)) (((1:Nat)≠0)/\(3+1<=5/\3<5)/\(1=1/\(0:Int)<=(k:Int)/\(k:Int)<((t.names.map (fun s=>[AV.str s])).length:Int))/\·) ⟨dc,dc,⟨rfl,om,lmo⟩,qBc1 2 [(41,.str (t.names.getD k default))] [] 70 [.str (t.names.getD k default)] 42 ((1<=1/\0<1)/\·) ⟨dc,PE.use (l1NameOk_ok (t.names.getD k default) (Nat.lt_trans (wS_get t.names k om) om)) (Kq (p:=(True)) trivial (qAn0 2 [(44,.bool (!(nmOk (t.names.getD k default)))),(43,.bool (!(nmOk (t.names.getD k default))))] ?_))⟩⟩
 refine Qg (fun hg19 g19=>?_) (fun hg19 g19=>?_)
 refine qMn0 true (by(try rw[show((k:Int)-1).toNat=k-1 by omega]);first|(simp_all;done)|(rw[Bool.eq_iff_iff];simp_all;done)|(rw[Bool.eq_iff_iff];simp_all;omega)|(simp_all;omega))
 refine qAn1 3 [(47,.bool (decide ((0:Int)<((k:Int):Int)))),(46,.bool (decide ((0:Int)<((k:Int):Int)))),(45,.i k)] (Ki/\·) ⟨rfl,Qg (fun hg20 g20=>?_) (fun hg20 g20=>?_)⟩
 refine qAv1 (r:=.i (IntKind.i64.wrap ((k:Int)-1))) (v:=.i ((k:Int)-1)) 4 51 [(50,.i k),(49,pth t.names),(48,.ptr 0 3)] (cI (wrap64 om om)) (((1:Nat)≠0)/\(3+1<=5/\3<5)/\Ki/\·) ⟨dc,dc,rfl,qAv1 1 52 [] (congrArg AV.pat (mg_str t.names (((k:Int)-1).toNat) om)) ((1=1/\(0:Int)<=((k:Int)-1)/\((k:Int)-1)<((t.names.map (fun s=>[AV.str s])).length:Int))/\·) ⟨⟨rfl,om,lmo⟩,qAv1 5 57 [(56,.i k),(55,pth t.names),(54,.ptr 0 3),(53,.str (t.names.getD (((k:Int)-1).toNat) default))] (congrArg AV.pat (mg_str t.names k om)) ((1<=1/\0<1)/\((1:Nat)≠0)/\(3+1<=5/\3<5)/\(1=1/\(0:Int)<=(k:Int)/\(k:Int)<((t.names.map (fun s=>[AV.str s])).length:Int))/\·) ⟨dc,dc,dc,⟨rfl,om,lmo⟩,qMn1 (!blt (t.names.getD (((k:Int)-1).toNat) default) (t.names.getD k default)) ((1<=1/\0<1)/\·) ⟨dc,(by(try rw[show((k:Int)-1).toNat=k-1 by omega]);first|(simp_all;done)|(rw[Bool.eq_iff_iff];simp_all;done)|(rw[Bool.eq_iff_iff];simp_all;omega)|(simp_all;omega))⟩⟩⟩⟩
 refine qMn0 false (by(try rw[show((k:Int)-1).toNat=k-1 by omega]);first|(simp_all;done)|(rw[Bool.eq_iff_iff];simp_all;done)|(rw[Bool.eq_iff_iff];simp_all;omega)|(simp_all;omega))
 refine Cc (!nmOk (t.names.getD k default)||(decide (0<k)&& !blt (t.names.getD (k-1) default) (t.names.getD k default))) (fun hc21 c21=>?_) fun hc21 c21=>?_
 refine Rr (Fn0 [] [(2,.bool false)] (Rt (.bool false) ?_))
 (try rw[show((k:Int)-1).toNat=k-1 by omega]at c21)
 refine fin_lea ?_
 rw [show plainOk t=(false) by
   have e1:=c5.1;have e2:t.names.length=t.kids.length:=(by have:=c5.2;omega)
   have hd:t.dir=true:=c9
   rcases c21 with h|⟨h1,h2⟩
   · simp[-List.getD_eq_getElem?_getD,plainOk,hd,all_false_at nmOk t.names k default om h]
   · simp[-List.getD_eq_getElem?_getD,plainOk,hd,asc_no om om h2]
   ];exact lea_refl _
 refine Sk (Bn (Jn (hK17 (Kp [1,3] (Rn (Av1 2 36 [(35,.i k)] (cI (wn1 k om)) (Ki/\·) ⟨rfl,Gn0 [(3,.i ((k+1:Nat):Int))] (nk_n ?_)⟩))))))
 (try rw[show((k:Int)-1).toNat=k-1 by omega]at c21)
 refine Lr (k+1) [(0,0)] 4 [(1,.ptr 0 0),(3,.i ((k+1:Nat):Int))] [(0,tcs t)] [true] ?_ ?_ kr kr
 (try dsimp only);omega
 refine⟨?_,rfl⟩;(try dsimp only);exact⟨om,by rw[all_take_snoc nmOk _ k default om,hi2,c21.1];rfl,by rw[asc_take _ k om,hi3];rcases c21.2 with h|h<;>simp[-List.getD_eq_getElem?_getD,h];omega⟩
 refine Xt (Jx (Lx (Bh (Jn (hK12 (Kp [1] (Rr (Fn1 [] [(2,.bool (t.data==[]))] (((1:Nat)≠0)/\(2+1<=5/\2<5)/\·) ⟨dc,dc,Rt (.bool (t.data==[])) (fin_lea ?_)⟩))))))))
 rw [show plainOk t=(t.data==[]) by
   have e1:=c5.1;have e2:t.names.length=t.kids.length:=(by have:=c5.2;omega)
   have hd:t.dir=true:=c9
   simp[plainOk,hd,e1,e2,all_take_full nmOk t.names k om hi2,asc_full om hi3]
   ];exact lea_refl _
theorem l1Count_ok:∀(N:Nat) (t:Tr),t.W=N->t.W<2^60->PE G 23 [.agg (tcs t)] (.i (cnt t)):=by
 intro N;refine Nat.strongRecOn N fun N ih=>?_;intro t hN hw;rw[W_eq]at hN hw;have hks:=Ws_len t.kids;have hcn:=cnts_W t.kids
 refine Pe Tryz.func23 ?_
 refine Rr (Fn2 [] [(1,.ptr 0 0)] ([(0,tcs t)]++·) 4 (Rr (Av1 3 7 [(6,.sl 5 (t.kids.map trc)),(5,.ptr 0 4)] (lnm t.kids trc) (((1:Nat)≠0)/\(4+1<=5/\4<5)/\·) ⟨dc,dc,Fn0 [1] [(3,.i t.kids.length)] ?_⟩)))
 refine Sq fun K3 hK3=>?_
 refine Rr (Fn0 [1,3] [(4,.i 0)] (Bl (h_l (fun(k:Nat)=>([(1,.ptr 0 0),(3,.i ((t.kids.length:Int)+((cnts (t.kids.take k):Nat):Int)-(k:Int))),(4,.i k)]:Fr)) (fun(k:Nat)=>([(0,tcs t)]:Hp)) (fun(k:Nat) cn=>(k<=t.kids.length)/\cn=4) (fun(k:Nat)=>t.kids.length-k) 0 kr ?_ ?_ ?_ ?_)))
 refine⟨?_,rfl⟩;exact Nat.zero_le _
 exact⟨kr,by show AV.int .i64 _=AV.int .i64 _;simp[cnts],kr,trivial⟩
 exact(sub_c kr (List.nil_sublist _))
 rintro k n1 hI
 (try dsimp only at hI)
 obtain⟨hk,rfl⟩:=hI
 refine Sq fun K5 hK5=>?_
 refine Rr (Av1 4 11 [(10,.sl 5 (t.kids.map trc)),(9,.ptr 0 4),(8,.i k)] (lnm t.kids trc) (((1:Nat)≠0)/\(4+1<=5/\4<5)/\·) ⟨dc,dc,Cn1 (decide ((k:Int)<(t.kids.length:Int))) [1,3,4] [] (Ki/\·) ⟨rfl,fun hc7 c7=>?_,fun hc7 c7=>?_⟩⟩)
 refine Sk (Jn (hK5 (Kp [1,3,4] (Sq fun K8 hK8=>?_))))
 refine Bl ?_
 have hct:=cnts_take t.kids k om;have hcl:=cnts_take_le t.kids (k+1);have hW:=Ws_get t.kids k om
 refine Rb (fun h=>Bn (Jn (hK8 h))) (Av1 5 19 [(18,.i k),(17,.sl 5 (t.kids.map trc)),(16,.ptr 0 4),(15,.i ((t.kids.length:Int)+((cnts (t.kids.take k):Nat):Int)-(k:Int)))] (congrArg AV.pat (mg_trc t.kids k om)) (((1:Nat)≠0)/\(4+1<=5/\4<5)/\(5=5/\(0:Int)<=(k:Int)/\(k:Int)<((t.kids.map trc).length:Int))/\·) ⟨dc,dc,⟨rfl,om,lmo⟩,Pc1 2 [(20,.agg (tcs (t.kids.getD k default)))] 21 (5<=5/\0<5) dc (ih _ om (t.kids.getD k default) rfl om) (Av1 (r:=.i (IntKind.i64.wrap (((t.kids.length:Int)+((cnts (t.kids.take k):Nat):Int)-(k:Int))+((cnt (t.kids.getD k default):Nat):Int)))) (v:=.i (((t.kids.length:Int)+((cnts (t.kids.take k):Nat):Int)-(k:Int))+((cnt (t.kids.getD k default):Nat):Int))) 1 22 [] (cI (wrap64 om om)) (Ki/\·) ⟨rfl,Fn0 [1,4] [(3,.i (((t.kids.length:Int)+((cnts (t.kids.take k):Nat):Int)-(k:Int))+((cnt (t.kids.getD k default):Nat):Int)))] ?_⟩)⟩)
 refine Rn (Av1 2 14 [(13,.i k)] (cI (wn1 k om)) (Ki/\·) ⟨rfl,Gn0 [(4,.i ((k+1:Nat):Int))] (nk_n (Lr (k+1) [(0,0)] 4 [(1,.ptr 0 0),(3,.i (((t.kids.length:Int)+((cnts (t.kids.take k):Nat):Int)-(k:Int))+((cnt (t.kids.getD k default):Nat):Int))),(4,.i ((k+1:Nat):Int))] [(0,tcs t)] [true] ?_ ?_ kr (by(try rw[show((t.kids.length:Int)+((cnts (t.kids.take (k+1)):Nat):Int)-((k+1:Nat):Int))=(((t.kids.length:Int)+((cnts (t.kids.take k):Nat):Int)-(k:Int))+((cnt (t.kids.getD k default):Nat):Int)) by omega]);try kernel_rfl)))⟩)
 (try dsimp only);omega
 refine⟨?_,rfl⟩;(try dsimp only);omega
 refine Xt (Jx (Lx (Bh (Jn (hK3 (Kp [3] (Rr (Fn0 [] [(2,.i ((t.kids.length:Int)+((cnts (t.kids.take k):Nat):Int)-(k:Int)))] (Rt (.i ((t.kids.length:Int)+((cnts (t.kids.take k):Nat):Int)-(k:Int))) (fin_lea ?_))))))))))
 rw[show((t.kids.length:Int)+((cnts (t.kids.take k):Nat):Int)-(k:Int))=((cnt t:Nat):Int) by rw[cnt_eq,List.take_of_length_le om];omega];exact lea_refl _
theorem l1Parts_ok:∀(N:Nat) (t:Tr) (n:Int),t.W=N->t.W<2^60-> -1000<=n->n<1000000->PE G 22 [.agg (tcs t),.i n] (.bool (partsOk t n)):=by
 intro N;refine Nat.strongRecOn N fun N ih=>?_;intro t n hN hw hn1 hn2;have hw0:=hw;rw[W_eq]at hN hw;have hks:=Ws_len t.kids
 refine Pe Tryz.func22 ?_
 refine Rr (Fn2 [1] [(2,.ptr 0 0)] ([(0,tcs t)]++·) 4 (Sq fun K2 hK2=>?_))
 refine Rm 12 ((!(plainOk t))||(decide ((4:Int)<(n:Int)))) [1,2] ?_ ?_
 refine Pc1 2 [(6,.agg (tcs t))] 7 (0+5<=5/\0<5) dc (l1Plain_ok t hw0) (An0 2 [(9,.bool (!(plainOk t))),(8,.bool (!(plainOk t)))] (Rg (fun hg4 g4=>?_) (fun hg4 g4=>?_)))
 refine Mn0 true (by rw[hg4];rfl)
 refine Mn1 (decide ((4:Int)<(n:Int))) (Ki/\·) ⟨rfl,(by rw[hg4];rfl)⟩
 refine Cc ((!(plainOk t))||(decide ((4:Int)<(n:Int)))) (fun hc5 c5=>?_) fun hc5 c5=>?_
 refine Rr (Fn0 [] [(4,.bool false)] (Rt (.bool false) (fin_lea ?_)))
 rw[partsOk_eq]
 rcases c5 with h|h
 · rw[h];exact lea_refl _
 · rw[show decide (n<=4)=false by simpa using h,Bool.false_and,Bool.and_false];exact lea_refl _
 refine Sk (Jn (hK2 (Kp [1,2] (Sq fun K7 hK7=>?_))))
 refine Rr (Fn0 [1,2] [(5,.i 0)] (Bl (h_l (fun(k:Nat)=>([(1,.i n),(2,.ptr 0 0),(5,.i k)]:Fr)) (fun(k:Nat)=>([(0,tcs t)]:Hp)) (fun(k:Nat) cn=>(k<=t.kids.length/\(t.kids.take k).all (partsOk · (n+1))=true)/\cn=4) (fun(k:Nat)=>t.kids.length-k) 0 kr ?_ ?_ ?_ ?_)))
 refine⟨?_,rfl⟩;exact⟨Nat.zero_le _,rfl⟩
 exact⟨kr,kr,kr,trivial⟩
 exact(sub_c kr (List.nil_sublist _))
 rintro k n1 hI
 (try dsimp only at hI)
 obtain⟨⟨hi1,hi2⟩,rfl⟩:=hI
 refine Sq fun K9 hK9=>?_
 refine Rr (Av1 4 16 [(15,.sl 5 (t.kids.map trc)),(14,.ptr 0 4),(13,.i k)] (lnm t.kids trc) (((1:Nat)≠0)/\(4+1<=5/\4<5)/\·) ⟨dc,dc,Cn1 (decide ((k:Int)<(t.kids.length:Int))) [1,2,5] [] (Ki/\·) ⟨rfl,fun hc11 c11=>?_,fun hc11 c11=>?_⟩⟩)
 refine Sk (Jn (hK9 (Kp [1,2,5] (Sq fun K12 hK12=>?_))))
 refine Bl ?_
 have hW:=Ws_get t.kids k om;have h4:=c5.2
 refine Rr (Av1 4 23 [(22,.i k),(21,.sl 5 (t.kids.map trc)),(20,.ptr 0 4)] (congrArg AV.pat (mg_trc t.kids k om)) (((1:Nat)≠0)/\(4+1<=5/\4<5)/\(5=5/\(0:Int)<=(k:Int)/\(k:Int)<((t.kids.map trc).length:Int))/\·) ⟨dc,dc,⟨rfl,om,lmo⟩,Av1 (r:=.i (IntKind.i64.wrap (n+1))) (v:=.i (n+1)) 3 26 [(25,.i n),(24,.agg (tcs (t.kids.getD k default)))] (cI (wrap64 om om)) ((5<=5/\0<5)/\Ki/\·) ⟨dc,rfl,Pc0 1 [] 27 (ih _ om (t.kids.getD k default) (n+1) rfl om om om) (Cn0 (!(partsOk (t.kids.getD k default) (n+1))) [1,2,5] [] ⟨fun hc14 c14=>?_,fun hc14 c14=>?_⟩)⟩⟩)
 refine Rr (Fn0 [] [(4,.bool false)] (Rt (.bool false) (fin_lea ?_)))
 rw[partsOk_eq,all_false_at (partsOk · (n+1)) t.kids k default om c14,Bool.and_false,Bool.and_false];exact lea_refl _
 refine Sk (Bn (Jn (hK12 (Kp [1,2,5] (Rn (Av1 2 19 [(18,.i k)] (cI (wn1 k om)) (Ki/\·) ⟨rfl,Gn0 [(5,.i ((k+1:Nat):Int))] (nk_n ?_)⟩))))))
 refine Lr (k+1) [(0,0)] 4 [(1,.i n),(2,.ptr 0 0),(5,.i ((k+1:Nat):Int))] [(0,tcs t)] [true] ?_ ?_ kr kr
 (try dsimp only);omega
 refine⟨?_,rfl⟩;(try dsimp only);exact⟨om,by rw[all_take_snoc (partsOk · (n+1)) _ k default om,hi2,c14];rfl⟩
 refine Xt (Jx (Lx (Bh (Jn (hK7 (Kp [] (Rr (Fn0 [] [(4,.bool true)] (Rt (.bool true) (fin_lea ?_))))))))))
 rw[partsOk_eq,all_take_full (partsOk · (n+1)) t.kids k om hi2,c5.1,show decide (n<=4)=true by have:=c5.2;simpa using this];exact lea_refl _
theorem sTreeOk_c (t:Tr) (hw:t.W<2^60):PE G 10 [.agg (tcs t)] (.bool (treeOk t)):=by
 refine Pe Tryz.func10 ?_
 refine Rr (Fn2 [] [(1,.ptr 0 0)] ([(0,tcs t)]++·) 4 (Rm 2 (t.dir&&((partsOk t 0)&&(decide (((cnt t:Nat):Int)<=30)))) [] ?_ ?_))
 refine An1 3 [(5,.bool t.dir),(4,.bool t.dir),(3,.ptr 0 0)] (((1:Nat)≠0)/\(0+1<=5/\0<5)/\·) ⟨dc,dc,Rg (fun hg3 g3=>?_) (fun hg3 g3=>?_)⟩
 refine Pc1 2 [(6,.agg (tcs t))] 7 (0+5<=5/\0<5) dc (l1Parts_ok _ t 0 rfl hw om om) (An0 2 [(9,.bool (partsOk t 0)),(8,.bool (partsOk t 0))] (Rg (fun hg4 g4=>?_) (fun hg4 g4=>?_)))
 refine Pc1 2 [(10,.agg (tcs t))] 11 (0+5<=5/\0<5) dc (l1Count_ok _ t rfl hw) (Mn1 (decide (((cnt t:Nat):Int)<=30)) (Ki/\·) ⟨rfl,(by rw[hg3,hg4];rfl)⟩)
 refine Mn0 false (by rw[hg3,hg4];rfl)
 refine Mn0 false (by rw[hg3];rfl)
 refine Rt (.bool (t.dir&&((partsOk t 0)&&(decide (((cnt t:Nat):Int)<=30))))) (fin_lea ?_)
 have hr:treeOk t=(t.dir&&((partsOk t 0)&&(decide (((cnt t:Nat):Int)<=30)))):=by
   unfold treeOk;rw[show decide (cnt t<=30)=decide (((cnt t:Nat):Int)<=(30:Int))from decide_eq_decide.2 ⟨fun h=>by omega,fun h=>by omega⟩];try rw[Bool.and_assoc]
 rw[hr];exact lea_refl _
theorem l1At_r:∀(N:Nat) (p:List Str) (t:Tr),p.length=N->t.W<2^60->t.wf=true->p.length<2^60->PE G 100 [.agg (tcs t),pth p] (.tup [.agg (tcs ((tat t p).getD .none)),.bool (tat t p).isSome]):=by
 intro N;refine Nat.strongRecOn N fun N ih=>?_;intro p t hN hw hwf hp;have hw0:=hw;rw[W_eq]at hw;have hks:=Ws_len t.kids;have hwl:=wf_len hwf
 refine Pe Tryz.func100 ?_
 refine Rr (Fn2 [1] [(4,.ptr 4 0),(2,.ptr 0 0)] ([(4,zt),(0,tcs t)]++·) 8 (Sq fun K2 hK2=>?_))
 refine Rr (Av0 2 8 [(7,pth p)] (lnm p sc) (Cn1 (decide ((p.length:Int)=0)) [1,2,4] [] (Ki/\·) ⟨rfl,fun hc4 c4=>?_,fun hc4 c4=>?_⟩))
 refine Rr (Fn3 [4] [(5,.bool true)] (Hw [(4,tcs t)] [] ·) 8 ((0+5<=5/\0<5)/\(true=true/\5=5/\0+5<=5)/\·) ⟨dc,dc,Rt1 ((0+5<=5/\0<5)/\·) (.tup [.agg (tcs t),.bool true]) ⟨dc,fin_lea ?_⟩⟩)
 rw[tat_zero t om];exact lea_refl _
 refine Sk (Jn (hK2 (Kp [1,2,4] (Qr [0,0,2,6,15,31] [(0,[]),(1,[]),(2,[]),(3,[]),(4,[]),(5,[])] (qAv1 3 13 [(12,pth p),(11,.agg (tcs t))] (congrArg AV.pat (mg_str p 0 om)) ((0+5<=5/\0<5)/\(1=1/\(0:Int)<=0/\0<((p.map (fun s=>[AV.str s])).length:Int))/\·) ⟨dc,⟨rfl,om,lmo⟩,qBc1 2 [(14,.str (p.getD 0 default))] [] 71 [.agg (tcs t),.str (p.getD 0 default)] 15 ((1<=1/\0<1)/\·) ⟨dc,PE.use (l1Find_c t (p.getD 0 default) hw0) ?_⟩⟩)))))
 refine Kq (p:=(True)) trivial ?_
 refine qFn0 [1,2,4] [(6,.i (fndI (p.getD 0 default) t.names))] (Sq fun K7 hK7=>?_)
 refine Rr (Cn1 (decide ((fndI (p.getD 0 default) t.names:Int)<(0:Int))) [1,2,4,6] [] (Ki/\·) ⟨rfl,fun hc9 c9=>?_,fun hc9 c9=>?_⟩)
 refine Rr (Fn1 [4] [(5,.bool false)] ((true=true/\5=5/\0+5<=5)/\·) ⟨dc,Rt1 ((0+5<=5/\0<5)/\·) (.tup [.agg zt,.bool false]) ⟨dc,fin_lea ?_⟩⟩)
 rw[tat_step t om,fndI_no c9];simp[lea,leas,tcs,Tr.none,pth]
 refine Sk (Jn (hK7 (Kp [1,2,4,6] (h_k [1,2,4,6] (F':=[(1,pth p),(2,.ptr 0 0),(4,.ptr 4 0),(6,.i (fndI (p.getD 0 default) t.names))]) kr ?_))))
 obtain⟨k,hk1,hk2,hk3⟩:=fndI_lt c9
 have hW:=Ws_get t.kids k om
 refine h_st (F':=[(1,pth p),(2,.ptr 0 0),(4,.ptr 4 0),(6,.i k)]) (H':=[(4,zt),(0,tcs t)]) (by rw[hk2]) rfl ?_
 refine Qr [0,1,0,7,15,0,32,127,255,255,1023,2047] [(0,[]),(1,[]),(2,[]),(3,[]),(4,[]),(5,[]),(6,[]),(7,[]),(8,[]),(9,[]),(10,[]),(11,[])] (qAv1 4 22 [(21,.i k),(20,.sl 5 (t.kids.map trc)),(19,.ptr 0 4)] (congrArg AV.pat (mg_trc t.kids k om)) (((1:Nat)≠0)/\(4+1<=5/\4<5)/\(5=5/\(0:Int)<=(k:Int)/\(k:Int)<((t.kids.map trc).length:Int))/\·) ⟨dc,dc,⟨rfl,om,lmo⟩,qAv1 (r:=.sl 1 (((p.map (fun s=>[AV.str s])).take ((p.map (fun s=>[AV.str s])).length)).drop 1)) (v:=pth (p.drop 1)) 3 25 [(24,pth p),(23,.agg (tcs (t.kids.getD k default)))] (congrArg (AV.sl 1) (slm_all _ _ _)) ((5<=5/\0<5)/\(1=1/\0<=(1:Int)/\(1:Int)<=((p.map (fun s=>[AV.str s])).length:Int)/\((p.map (fun s=>[AV.str s])).length:Int)<=((p.map (fun s=>[AV.str s])).length:Int))/\·) ⟨dc,⟨rfl,om,lmo,om⟩,qBc0 1 [] [] 100 [.agg (tcs (t.kids.getD k default)),pth (p.drop 1)] 26 (PE.use (ih _ (by simp;omega) (p.drop 1) (t.kids.getD k default) rfl om (wf_kid hwf om _) (by simp;omega)) ?_)⟩⟩)
 refine Kq (p:=(True)) trivial ?_
 refine qFn3 [4] [(5,.bool ((tat (t.kids.getD k default) (p.drop 1)).isSome))] (Hw [(4,tcs ((tat (t.kids.getD k default) (p.drop 1)).getD .none))] [] ·) 8 ((0<2)/\(1<2)/\(true=true/\5=5/\0+5<=5)/\(True)/\·) ⟨dc,dc,dc,trivial,Rt1 ((0+5<=5/\0<5)/\·) (.tup [.agg (tcs ((tat (t.kids.getD k default) (p.drop 1)).getD .none)),.bool ((tat (t.kids.getD k default) (p.drop 1)).isSome)]) ⟨dc,fin_lea ?_⟩⟩
 rw[tat_step t om,hk1];exact lea_refl _
theorem l1At_c (p:List Str) (t:Tr) (hw:t.W<2^60) (hf:t.wf=true) (hp:p.length<2^60):PE G 100 [.agg (tcs t),pth p] (.tup [.agg (tcs ((tat t p).getD .none)),.bool (tat t p).isSome]):=l1At_r _ p t rfl hw hf hp
theorem l2Fits_c (x t:Tr) (hw:x.W<2^60):PE G 101 [.agg (tcs x),.agg (tcs t)] (.tup [.agg (tcs (if treeOk x then x else t)),.i (if treeOk x then 0 else 6)]):=by
 refine Pe Tryz.func101 ?_
 refine Rr (Fn2 [] [(4,.ptr 8 0),(3,.ptr 4 0),(2,.ptr 0 0)] ([(8,zt),(4,tcs t),(0,tcs x)]++·) 12 (Sq fun K2 hK2=>?_))
 refine Rr (Pc1 2 [(6,.agg (tcs x))] 7 (0+5<=5/\0<5) dc (sTreeOk_c x hw) (Cn0 (!(treeOk x)) [2,3,4] [] ⟨fun hc4 c4=>?_,fun hc4 c4=>?_⟩))
 refine Rr (Fn3 [4] [(5,.i 6)] (Hw [(8,tcs t)] [] ·) 12 ((0+5<=5/\0<5)/\(true=true/\5=5/\0+5<=5)/\·) ⟨dc,dc,Rt1 ((0+5<=5/\0<5)/\·) (.tup [.agg (tcs t),.i 6]) ⟨dc,fin_lea ?_⟩⟩)
 rw[show treeOk x=false by simpa using c4];exact lea_refl _
 refine Sk (Jn (hK2 (Kp [2,4] (Rr (Fn3 [4] [(5,.i 0)] (Hw [(8,tcs x)] [] ·) 12 ((0+5<=5/\0<5)/\(true=true/\5=5/\0+5<=5)/\·) ⟨dc,dc,Rt1 ((0+5<=5/\0<5)/\·) (.tup [.agg (tcs x),.i 0]) ⟨dc,fin_lea ?_⟩⟩)))))
 rw[show treeOk x=true by simpa using c4];exact lea_refl _
theorem l2Parent_c (t:Tr) (p:List Str) (hw:t.W<2^60) (hwf:t.wf=true) (hp:p.length<2^60) (h0:0<p.length):PE G 99 [.agg (tcs t),pth p] (.i (parC t p)):=by
 refine Pe Tryz.func99 ?_
 refine Rr (Fn2 [1] [(2,.ptr 0 0)] ([(0,tcs t)]++·) 4 (Qr [0,0,0,4,12,30,63,127,255,255,0,1535,4095] [(0,[]),(1,[]),(2,[]),(3,[]),(4,[]),(5,[]),(6,[]),(7,[]),(8,[]),(9,[]),(10,[0]),(11,[]),(12,[])] (qAv1 4 11 [(10,pth p),(9,pth p),(8,.agg (tcs t))] (lnm p sc) ((0+5<=5/\0<5)/\·) ⟨dc,qAv1 (r:=.i (IntKind.i64.wrap ((p.length:Int)-1))) (v:=.i ((p.length:Int)-1)) 1 12 [] (cI (wrap64 om om)) (Ki/\·) ⟨rfl,?_⟩⟩)))
 refine qAv1 (r:=.sl 1 (((p.map (fun s=>[AV.str s])).take (((p.length:Int)-1).toNat)).drop 0)) (v:=pth (p.take (((p.length:Int)-1).toNat))) 1 13 [] (congrArg (AV.sl 1) (slm_0 _ _ _)) ((1=1/\0<=(0:Int)/\(0:Int)<=((p.length:Int)-1)/\((p.length:Int)-1)<=((p.map (fun s=>[AV.str s])).length:Int))/\·) ⟨⟨rfl,om,by(try rw[List.length_map]);omega,lmo⟩,qBc0 1 [] [] 100 [.agg (tcs t),pth (p.take (((p.length:Int)-1).toNat))] 14 (PE.use (l1At_c (p.take (((p.length:Int)-1).toNat)) t hw hwf (by rw[List.length_take];omega)) (Kq (p:=(True)) trivial (qFn3 [] [(6,.bool ((tat t (p.take (((p.length:Int)-1).toNat))).isSome)),(5,.ptr 4 0)] ([(4,tcs ((tat t (p.take (((p.length:Int)-1).toNat))).getD .none))]++·) 8 ((0<2)/\(1<2)/\(((0+5<=5/\0<5)/\(AV.agg (tcs t)=(.agg (tcs t):AV)))/\True)/\(true=true/\5=5/\0+5<=5)/\(True)/\·) ⟨dc,dc,⟨⟨dc,rfl⟩,trivial⟩,dc,trivial,?_⟩)))⟩
 refine Sq fun K3 hK3=>?_
 refine Bl (Rr (Cn0 (!((tat t (p.take (((p.length:Int)-1).toNat))).isSome)) [5] [] ⟨fun hc5 c5=>?_,fun hc5 c5=>?_⟩))
 refine Rr (Fn0 [] [(4,.i 3)] (Rt (.i 3) (fin_lea ?_)))
 have hr:parC t p=3:=by
   unfold parC
   rw[show((p.length:Int)-1).toNat=p.length-1 by omega]at*
   cases hx:tat t (p.take (p.length-1))<;>simp_all
 rw[hr];exact lea_refl _
 refine Rr (Cn1 (!(((tat t (p.take (((p.length:Int)-1).toNat))).getD .none).dir)) [] [] (((1:Nat)≠0)/\(0+1<=5/\0<5)/\·) ⟨dc,dc,fun hc8 c8=>?_,fun hc8 c8=>?_⟩)
 refine Rr (Fn0 [] [(4,.i 4)] (Rt (.i 4) (fin_lea ?_)))
 have hr:parC t p=4:=by
   unfold parC
   rw[show((p.length:Int)-1).toNat=p.length-1 by omega]at*
   cases hx:tat t (p.take (p.length-1))<;>simp_all
 rw[hr];exact lea_refl _
 refine Sk (Bn (Jn (hK3 (Kp [] (Rr (Fn0 [] [(4,.i 0)] (Rt (.i 0) (fin_lea ?_))))))))
 have hr:parC t p=0:=by
   unfold parC
   rw[show((p.length:Int)-1).toNat=p.length-1 by omega]at*
   cases hx:tat t (p.take (p.length-1))<;>simp_all
 rw[hr];exact lea_refl _
theorem l2CallOk_ok (c:Cl) (h1:c.path.length<2^62) (h2:∀s∈c.path,s.length<2^62) (h3:c.to.length<2^62) (h4:∀s∈c.to,s.length<2^62):PE G 82 [.agg (clc c)] (.bool (callOk c)):=by
 refine Pe Tryz.func82 ?_
 refine Rr (Fn2 [] [(1,.ptr 0 0)] ([(0,clc c)]++·) 4 (Sq fun K2 hK2=>?_))
 refine Rr (Fn1 [1] [(4,.i c.kind)] (((1:Nat)≠0)/\(0+1<=5/\0<5)/\·) ⟨dc,dc,Bl (Sq fun K4 hK4=>?_)⟩)
 refine Rr (Cn1 (decide ((c.kind:Int)=(1:Int))) [1,4] [(5,.bool (decide ((c.kind:Int)=(1:Int))))] (Ki/\·) ⟨rfl,fun hc6 c6=>?_,fun hc6 c6=>?_⟩)
 refine Sk (Jn (hK4 (Kp [1,4,5] (C1 (t:=decide ((c.kind:Int)=(1:Int))) hc6 (Rm 2 ((pthOk c.path 1)&&(inb c.at_ 0 7)) [] ?_ ?_)))))
 refine Bc1 3 [(9,pth c.path),(8,.ptr 0 1)] 98 [pth c.path] 10 (((1:Nat)≠0)/\(1+1<=5/\1<5)/\·) ⟨dc,dc,?_⟩
 refine PE.use (l2PathOk_ok c.path h1 h2) ?_
 refine Ke (An0 1 [(11,.bool (pthOk c.path 1))] (Rg (fun hg8 g8=>?_) (fun hg8 g8=>?_)))
 refine Bc1 3 [(13,.i c.at_),(12,.ptr 0 3)] 69 [.i c.at_,.i 0,.i 7] 14 (((1:Nat)≠0)/\(3+1<=5/\3<5)/\·) ⟨dc,dc,?_⟩
 refine PE.use (l1In_ok c.at_ 0 7) ?_
 refine Ke (Mn0 (inb c.at_ 0 7) (by rw[hg8];rfl))
 refine Mn0 false (by rw[hg8];rfl)
 refine Rt (.bool ((pthOk c.path 1)&&(inb c.at_ 0 7))) (fin_lea ?_)
 have hr:callOk c=((pthOk c.path 1)&&(inb c.at_ 0 7)):=by
   unfold callOk
   (repeat' split)<;>first|omega|rfl
 rw[hr];exact lea_refl _
 refine Rb (fun h=>Jn (hK4 h)) (Fn1 [1,4] [(5,.bool (decide ((c.kind:Int)=(6:Int))))] (Ki/\·) ⟨rfl,Cc (decide ((c.kind:Int)=(6:Int))) (fun hc9 c9=>?_) fun hc9 c9=>?_⟩)
 refine Rm 2 ((pthOk c.path 1)&&(inb c.at_ 0 7)) [] ?_ ?_
 refine Bc1 3 [(9,pth c.path),(8,.ptr 0 1)] 98 [pth c.path] 10 (((1:Nat)≠0)/\(1+1<=5/\1<5)/\·) ⟨dc,dc,?_⟩
 refine PE.use (l2PathOk_ok c.path h1 h2) ?_
 refine Ke (An0 1 [(11,.bool (pthOk c.path 1))] (Rg (fun hg11 g11=>?_) (fun hg11 g11=>?_)))
 refine Bc1 3 [(13,.i c.at_),(12,.ptr 0 3)] 69 [.i c.at_,.i 0,.i 7] 14 (((1:Nat)≠0)/\(3+1<=5/\3<5)/\·) ⟨dc,dc,?_⟩
 refine PE.use (l1In_ok c.at_ 0 7) ?_
 refine Ke (Mn0 (inb c.at_ 0 7) (by rw[hg11];rfl))
 refine Mn0 false (by rw[hg11];rfl)
 refine Rt (.bool ((pthOk c.path 1)&&(inb c.at_ 0 7))) (fin_lea ?_)
 have hr:callOk c=((pthOk c.path 1)&&(inb c.at_ 0 7)):=by
   unfold callOk
   (repeat' split)<;>first|omega|rfl
 rw[hr];exact lea_refl _
 refine Sq fun K12 hK12=>?_
 refine Rr (Cn1 (decide ((c.kind:Int)=(2:Int))) [1,4] [(16,.bool (decide ((c.kind:Int)=(2:Int))))] (Ki/\·) ⟨rfl,fun hc14 c14=>?_,fun hc14 c14=>?_⟩)
 refine Sk (Jn (hK12 (Kp [1,4,16] (C1 (t:=decide ((c.kind:Int)=(2:Int))) hc14 (Rm 2 ((pthOk c.path 1)&&(inb c.at_ 0 24)) [] ?_ ?_)))))
 refine Bc1 3 [(20,pth c.path),(19,.ptr 0 1)] 98 [pth c.path] 21 (((1:Nat)≠0)/\(1+1<=5/\1<5)/\·) ⟨dc,dc,?_⟩
 refine PE.use (l2PathOk_ok c.path h1 h2) ?_
 refine Ke (An0 1 [(22,.bool (pthOk c.path 1))] (Rg (fun hg16 g16=>?_) (fun hg16 g16=>?_)))
 refine Bc1 3 [(24,.i c.at_),(23,.ptr 0 3)] 69 [.i c.at_,.i 0,.i 24] 25 (((1:Nat)≠0)/\(3+1<=5/\3<5)/\·) ⟨dc,dc,?_⟩
 refine PE.use (l1In_ok c.at_ 0 24) ?_
 refine Ke (Mn0 (inb c.at_ 0 24) (by rw[hg16];rfl))
 refine Mn0 false (by rw[hg16];rfl)
 refine Rt (.bool ((pthOk c.path 1)&&(inb c.at_ 0 24))) (fin_lea ?_)
 have hr:callOk c=((pthOk c.path 1)&&(inb c.at_ 0 24)):=by
   unfold callOk
   (repeat' split)<;>first|omega|rfl
 rw[hr];exact lea_refl _
 refine Rb (fun h=>Jn (hK12 h)) (Fn1 [1,4] [(16,.bool (decide ((c.kind:Int)=(3:Int))))] (Ki/\·) ⟨rfl,Cc (decide ((c.kind:Int)=(3:Int))) (fun hc17 c17=>?_) fun hc17 c17=>?_⟩)
 refine Rm 2 ((pthOk c.path 1)&&(inb c.at_ 0 24)) [] ?_ ?_
 refine Bc1 3 [(20,pth c.path),(19,.ptr 0 1)] 98 [pth c.path] 21 (((1:Nat)≠0)/\(1+1<=5/\1<5)/\·) ⟨dc,dc,?_⟩
 refine PE.use (l2PathOk_ok c.path h1 h2) ?_
 refine Ke (An0 1 [(22,.bool (pthOk c.path 1))] (Rg (fun hg19 g19=>?_) (fun hg19 g19=>?_)))
 refine Bc1 3 [(24,.i c.at_),(23,.ptr 0 3)] 69 [.i c.at_,.i 0,.i 24] 25 (((1:Nat)≠0)/\(3+1<=5/\3<5)/\·) ⟨dc,dc,?_⟩
 refine PE.use (l1In_ok c.at_ 0 24) ?_
 refine Ke (Mn0 (inb c.at_ 0 24) (by rw[hg19];rfl))
 refine Mn0 false (by rw[hg19];rfl)
 refine Rt (.bool ((pthOk c.path 1)&&(inb c.at_ 0 24))) (fin_lea ?_)
 have hr:callOk c=((pthOk c.path 1)&&(inb c.at_ 0 24)):=by
   unfold callOk
   (repeat' split)<;>first|omega|rfl
 rw[hr];exact lea_refl _
 refine Rr (Cn1 (decide ((c.kind:Int)=(4:Int))) [1,4] [] (Ki/\·) ⟨rfl,fun hc21 c21=>?_,fun hc21 c21=>?_⟩)
 refine Rr (Bc1 3 [(30,pth c.path),(29,.ptr 0 1)] 98 [pth c.path] 31 (((1:Nat)≠0)/\(1+1<=5/\1<5)/\·) ⟨dc,dc,PE.use (l2PathOk_ok c.path h1 h2) (Ke (Fn0 [] [(2,.bool (pthOk c.path 1))] ?_))⟩)
 refine Rt (.bool (pthOk c.path 1)) (fin_lea ?_)
 have hr:callOk c=(pthOk c.path 1):=by
   unfold callOk
   (repeat' split)<;>first|omega|rfl
 rw[hr];exact lea_refl _
 refine Rr (Cn1 (decide ((c.kind:Int)=(5:Int))) [1] [] (Ki/\·) ⟨rfl,fun hc24 c24=>?_,fun hc24 c24=>?_⟩)
 refine Rm 2 ((pthOk c.path 1)&&(pthOk c.to 1)) [] ?_ ?_
 refine Bc1 3 [(35,pth c.path),(34,.ptr 0 1)] 98 [pth c.path] 36 (((1:Nat)≠0)/\(1+1<=5/\1<5)/\·) ⟨dc,dc,?_⟩
 refine PE.use (l2PathOk_ok c.path h1 h2) ?_
 refine Ke (An0 1 [(37,.bool (pthOk c.path 1))] (Rg (fun hg26 g26=>?_) (fun hg26 g26=>?_)))
 refine Bc1 3 [(39,pth c.to),(38,.ptr 0 2)] 98 [pth c.to] 40 (((1:Nat)≠0)/\(2+1<=5/\2<5)/\·) ⟨dc,dc,?_⟩
 refine PE.use (l2PathOk_ok c.to h3 h4) ?_
 refine Ke (Mn0 (pthOk c.to 1) (by rw[hg26];rfl))
 refine Mn0 false (by rw[hg26];rfl)
 refine Rt (.bool ((pthOk c.path 1)&&(pthOk c.to 1))) (fin_lea ?_)
 have hr:callOk c=((pthOk c.path 1)&&(pthOk c.to 1)):=by
   unfold callOk
   (repeat' split)<;>first|omega|rfl
 rw[hr];exact lea_refl _
 refine Sk (Bn (Jn (hK2 (Kp [] (Rr (Fn0 [] [(2,.bool false)] (Rt (.bool false) (fin_lea ?_))))))))
 have hr:callOk c=(false):=by
   unfold callOk
   (repeat' split)<;>first|omega|rfl
 rw[hr];exact lea_refl _
open Go Go.Proofs
set_option maxRecDepth 100000
theorem l1Copy_ok:∀(N:Nat) (t:Tr),t.W=N->t.W<2^40->PE G 57 [.agg (tcs t)] (.agg (tcs t)):=by
 intro N;refine Nat.strongRecOn N fun N ih=>?_;intro t hN hw;rw[W_eq]at hN hw;have hks:=Ws_len t.kids;have hns:=wS_len t.names
 refine Pe Tryz.func57 ?_
 refine Rr (Fn2 [] [(2,.ptr 4 0),(1,.ptr 0 0)] ([(4,zt),(0,tcs t)]++·) 8 (Qr [0,1,0,4,0,16,0,0,128,448,1023,0,4095] [(0,[]),(1,[]),(2,[]),(3,[]),(4,[]),(5,[]),(7,[]),(8,[]),(6,[1,3,5,8]),(9,[1,3,5]),(10,[]),(11,[1,3,5,8]),(12,[])] (qAn3 10 [(14,.osl 12 1 0 (0+(t.names.map (fun s=>[AV.str s])).length)),(11,.osl 8 1 0 0),(13,pth t.names),(12,.ptr 0 3),(10,.str t.data),(9,.ptr 0 2),(8,.i t.mode),(7,.ptr 0 1),(6,.bool t.dir),(5,.ptr 0 0)] ([(12,apd [] (0*1) ((t.names.map (fun s=>[AV.str s])).flatten))]++·) 16 (((1:Nat)≠0)/\(0+1<=5/\0<5)/\((1:Nat)≠0)/\(1+1<=5/\1<5)/\((1:Nat)≠0)/\(2+1<=5/\2<5)/\((1:Nat)≠0)/\(3+1<=5/\3<5)/\(0*1<=16777216)/\(((0+1<=5/\0<5)/\(AV.bool t.dir=(.bool t.dir:AV)))/\((1+1<=5/\1<5)/\(AV.int .i64 t.mode=(.i t.mode:AV)))/\((2+1<=5/\2<5)/\(AV.str t.data=(.str t.data:AV)))/\((3+1<=5/\3<5)/\(pth t.names=pth t.names))/\True)/\True/\(1=1/\0*1<=0/\0<16/\(0+(t.names.map (fun s=>[AV.str s])).length)*16<=140737488355328)/\(((0+1<=5/\0<5)/\(AV.bool t.dir=(.bool t.dir:AV)))/\((1+1<=5/\1<5)/\(AV.int .i64 t.mode=(.i t.mode:AV)))/\((2+1<=5/\2<5)/\(AV.str t.data=(.str t.data:AV)))/\True)/\·) ⟨dc,dc,dc,dc,dc,dc,dc,dc,dc,⟨⟨dc,rfl⟩,⟨dc,rfl⟩,⟨dc,rfl⟩,⟨dc,rfl⟩,trivial⟩,trivial,⟨rfl,gl,dc,gl⟩,⟨⟨dc,rfl⟩,⟨dc,rfl⟩,⟨dc,rfl⟩,trivial⟩,runq_v (v':=.osl 12 1 0 t.names.length) (by rw[Nat.zero_add,List.length_map]) ?_⟩)))
 refine runq_h (cs':=fl sc t.names) (app0_str _) ?_
 refine qFn3 [1,2] [(3,.ptr 16 0)] ([(16,(tr5 t (.osl 12 1 0 t.names.length)  .nils))]++·) 20 ((((0+1<=5/\0<5)/\(AV.bool t.dir=(.bool t.dir:AV)))/\((1+1<=5/\1<5)/\(AV.int .i64 t.mode=(.i t.mode:AV)))/\((2+1<=5/\2<5)/\(AV.str t.data=(.str t.data:AV)))/\((3+1<=5/\3<5)/\(pth t.names=pth t.names))/\True)/\(true=true/\5=5/\0+5<=5)/\(True)/\·) ⟨⟨⟨dc,rfl⟩,⟨dc,rfl⟩,⟨dc,rfl⟩,⟨dc,rfl⟩,trivial⟩,dc,trivial,Sq fun K3 hK3=>?_⟩
 refine Rr (Fn0 [1,2,3] [(4,.i 0)] (Bl (h_l (fun(x:Nat×Option Unit)=>(match x with|(_,none)=>([(1,.ptr 0 0),(2,.ptr 4 0),(3,.ptr 16 0),(4,.i 0)]:Fr)|(k,some ())=>([(1,.ptr 0 0),(2,.ptr 4 0),(3,.ptr 16 0),(4,.i k)]:Fr))) (fun(x:Nat×Option Unit)=>(match x with|(_,none)=>([(16,(tr5 t (.osl 12 1 0 t.names.length)  .nils)),(12,fl sc t.names),(4,zt),(0,tcs t)]:Hp)|(k,some ())=>([(20,fl trc (t.kids.take k)),(16,(tr5 t (.osl 12 1 0 t.names.length) (.osl 20 5 0 ((t.kids.take k).length)))),(12,fl sc t.names),(4,zt),(0,tcs t)]:Hp))) (fun(x:Nat×Option Unit) cn=>(match x with|(_,none)=>(x.1=0)/\cn=20|(k,some ())=>(0<k/\k<=t.kids.length)/\cn=24)) (fun(x:Nat×Option Unit)=>t.kids.length-x.1) (0,none) kr ?_ ?_ ?_ ?_)))
 refine⟨?_,rfl⟩;rfl
 exact⟨kr,kr,kr,kr,trivial⟩
 exact(sub_c kr (sub_c kr (sub_c kr (sub_c kr (List.nil_sublist _)))))
 rintro⟨k,_|⟨⟩⟩ n1 hI
 (try dsimp only at hI)
 obtain⟨rfl,rfl⟩:=hI
 dsimp only
 refine Sq fun K5 hK5=>?_
 refine Rr (Av1 4 19 [(18,.sl 5 (t.kids.map trc)),(17,.ptr 0 4),(16,.i 0)] (lnm t.kids trc) (((1:Nat)≠0)/\(4+1<=5/\4<5)/\·) ⟨dc,dc,Cn1 (decide ((0:Int)<((t.kids.length:Int):Int))) [1,2,3,4] [] (Ki/\·) ⟨rfl,fun hc7 c7=>?_,fun hc7 c7=>?_⟩⟩)
 refine Sk (Jn (hK5 (Kp [1,2,3,4] (Sq fun K8 hK8=>?_))))
 refine Bl (Qb [0,1,0,4,0,28,60,124,252,511,1023,2047] [(0,[]),(1,[]),(2,[]),(3,[]),(4,[]),(5,[]),(6,[]),(7,[1]),(8,[1]),(9,[]),(10,[]),(11,[])] (fun h=>Bn (Jn (hK8 h))) (qAv1 6 28 [(27,.i 0),(26,.sl 5 (t.kids.map trc)),(25,.ptr 0 4),(24,.nils),(23,.ptr 16 4)] (congrArg AV.pat (mg_trc t.kids 0 om)) (((1:Nat)≠0)/\(4+1<=5/\4<5)/\((1:Nat)≠0)/\(4+1<=5/\4<5)/\(5=5/\(0:Int)<=0/\0<((t.kids.map trc).length:Int))/\·) ⟨dc,dc,dc,dc,⟨rfl,om,lmo⟩,qBc1 2 [(29,.agg (tcs (t.kids.getD 0 default)))] [1] 57 [.agg (tcs (t.kids.getD 0 default))] 30 ((5<=5/\0<5)/\·) ⟨dc,?_⟩⟩))
 have hW:=Ws_get t.kids 0 om
 refine PE.use (ih _ om (t.kids.getD 0 default) rfl om) ?_
 refine Kq (p:=(((4+1<=5/\4<5)/\(AV.nils=(.nils:AV)))/\True)) ⟨⟨dc,rfl⟩,trivial⟩ ?_
 refine qAn3 2 [(32,.osl 24 5 0 1),(31,.osl 20 5 0 1)] ([(24,tcs (t.kids.getD 0 default)),(20,tcs (t.kids.getD 0 default))]++·) 28 ((1*5<=16777216)/\(((4+1<=5/\4<5)/\(AV.nils=(.nils:AV)))/\True)/\(0+1*5<=5)/\(0<1/\0<80/\1*80<=140737488355328)/\(True)/\·) ⟨dc,⟨⟨dc,rfl⟩,trivial⟩,dc,dc,trivial,runq_v (v':=.osl 24 5 0 ([(t.kids.getD 0 default)].length)) rfl (runq_h (cs':=fl trc [(t.kids.getD 0 default)]) (s1_trc (t.kids.getD 0 default)) (qFn3 [1,2,3,4] [] (Hw [(16,(tr5 t (.osl 12 1 0 t.names.length) (.osl 24 5 0 ([(t.kids.getD 0 default)].length))))] [] ·) 28 (((1:Nat)≠0)/\(true=true/\1=1/\4+1<=5)/\(True)/\·) ⟨dc,dc,trivial,Rn ?_⟩))⟩
 refine Gn1 [(4,.i 1),(22,.i 1),(21,.i 0)] (Ki/\·) ⟨rfl,nk_n (Lr (1,some ()) [(0,0),(4,4),(12,12),(16,16),(24,20)] 24 [(1,.ptr 0 0),(2,.ptr 4 0),(3,.ptr 16 0),(4,.i 1)] [(24,fl trc [(t.kids.getD 0 default)]),(16,(tr5 t (.osl 12 1 0 t.names.length) (.osl 24 5 0 ([(t.kids.getD 0 default)].length)))),(12,fl sc t.names),(4,zt),(0,tcs t)] [false,true,false,true,true] ?_ ?_ (by(try rw[one_take default om]);try kernel_rfl) kr)⟩
 (try dsimp only);omega
 refine⟨?_,rfl⟩;(try dsimp only);omega
 refine Xt (Jx (Lx (Bh (Jn (hK3 (Kp [2,3] (Rr (Fn3 [2] [] (Hw [(4,(tr5 t (.osl 12 1 0 t.names.length)  .nils))] [] ·) 20 ((0+5<=5/\0<5)/\(true=true/\5=5/\0+5<=5)/\·) ⟨dc,dc,FzS 12 t.names [(2,.ptr 4 0)] [(4,(tr5 t (.osl 12 1 0 t.names.length)  .nils))] [true] (Rt1 ((0+5<=5/\0<5)/\·) (.agg (tr5 t (pth t.names)  .nils)) ⟨dc,?_⟩)⟩))))))))
 refine fin_lea ?_
 first
   |(rw[List.take_of_length_le om];exact lea_refl _)
   | (have:t.kids=[]:=List.eq_nil_of_length_eq_zero om
      simp only[tcs,this];simp[lea,leas])
 (try dsimp only at hI)
 obtain⟨⟨hk0,hk⟩,rfl⟩:=hI
 dsimp only
 have hkl:(t.kids.take k).length=k:=tkl hk
 refine Sq fun K10 hK10=>?_
 refine Rr (Av1 4 19 [(18,.sl 5 (t.kids.map trc)),(17,.ptr 0 4),(16,.i k)] (lnm t.kids trc) (((1:Nat)≠0)/\(4+1<=5/\4<5)/\·) ⟨dc,dc,Cn1 (decide ((k:Int)<(t.kids.length:Int))) [1,2,3,4] [] (Ki/\·) ⟨rfl,fun hc12 c12=>?_,fun hc12 c12=>?_⟩⟩)
 refine Sk (Jn (hK10 (Kp [1,2,3,4] (Sq fun K13 hK13=>?_))))
 refine Bl (Qb [0,1,0,4,0,28,60,124,252,511,1023,2047] [(0,[]),(1,[]),(2,[]),(3,[]),(4,[]),(5,[]),(6,[]),(7,[1]),(8,[1]),(9,[]),(10,[]),(11,[])] (fun h=>Bn (Jn (hK13 h))) (qAv1 6 28 [(27,.i k),(26,.sl 5 (t.kids.map trc)),(25,.ptr 0 4),(24,.osl 20 5 0 ((t.kids.take k).length)),(23,.ptr 16 4)] (congrArg AV.pat (mg_trc t.kids k om)) (((1:Nat)≠0)/\(4+1<=5/\4<5)/\((1:Nat)≠0)/\(4+1<=5/\4<5)/\(5=5/\(0:Int)<=(k:Int)/\(k:Int)<((t.kids.map trc).length:Int))/\·) ⟨dc,dc,dc,dc,⟨rfl,om,lmo⟩,qBc1 2 [(29,.agg (tcs (t.kids.getD k default)))] [1] 57 [.agg (tcs (t.kids.getD k default))] 30 ((5<=5/\0<5)/\·) ⟨dc,?_⟩⟩))
 have hW:=Ws_get t.kids k om
 refine PE.use (ih _ om (t.kids.getD k default) rfl om) ?_
 refine Kq (p:=(((4+1<=5/\4<5)/\(AV.osl 20 5 0 ((t.kids.take k).length)=(.osl 20 5 0 ((t.kids.take k).length):AV)))/\True)) ⟨⟨dc,rfl⟩,trivial⟩ ?_
 refine qAn3 2 [(32,.osl 28 5 0 ((t.kids.take k).length+1)),(31,.osl 24 5 0 1)] ([(28,apd (fl trc (t.kids.take k)) ((t.kids.take k).length*5) (tcs (t.kids.getD k default))),(24,tcs (t.kids.getD k default))]++Hw [] [20] ·) 32 (fun Z=>(1*5<=16777216)/\(((4+1<=5/\4<5)/\(AV.osl 20 5 0 ((t.kids.take k).length)=(.osl 20 5 0 ((t.kids.take k).length):AV)))/\True)/\(0+1*5<=5)/\(5=5/\(t.kids.take k).length*5<=(fl trc (t.kids.take k)).length/\0<80/\((t.kids.take k).length+1)*80<=140737488355328)/\(True)/\Z) ⟨dc,⟨⟨dc,rfl⟩,trivial⟩,dc,⟨rfl,gl,dc,gl⟩,trivial,runq_v (v':=.osl 28 5 0 ((t.kids.take k++[(t.kids.getD k default)]).length)) (push_len _ _ _ _) (runq_h (cs':=fl trc (t.kids.take k++[(t.kids.getD k default)])) (push_trc (t.kids.take k) (t.kids.getD k default)) (qFn3 [1,2,3,4] [] (Hw [(16,(tr5 t (.osl 12 1 0 t.names.length) (.osl 28 5 0 ((t.kids.take k++[(t.kids.getD k default)]).length))))] [] ·) 32 (((1:Nat)≠0)/\(true=true/\1=1/\4+1<=5)/\(True)/\·) ⟨dc,dc,trivial,Rn ?_⟩))⟩
 refine Av1 2 22 [(21,.i k)] (cI (wn1 k om)) (Ki/\·) ⟨rfl,Gn0 [(4,.i ((k+1:Nat):Int))] (nk_n (Lr (k+1,some ()) [(0,0),(4,4),(12,12),(16,16),(28,20)] 24 [(1,.ptr 0 0),(2,.ptr 4 0),(3,.ptr 16 0),(4,.i ((k+1:Nat):Int))] [(28,fl trc (t.kids.take k++[(t.kids.getD k default)])),(16,(tr5 t (.osl 12 1 0 t.names.length) (.osl 28 5 0 ((t.kids.take k++[(t.kids.getD k default)]).length)))),(12,fl sc t.names),(4,zt),(0,tcs t)] [false,true,false,true,true] ?_ ?_ (by(try rw[<-take_snoc t.kids k default om]);try kernel_rfl) kr))⟩
 (try dsimp only);omega
 refine⟨?_,rfl⟩;(try dsimp only);omega
 refine Xt (Jx (Lx (Bh (Jn (hK3 (Kp [2,3] (Rr (Fn3 [2] [] (Hw [(4,(tr5 t (.osl 12 1 0 t.names.length) (.osl 20 5 0 ((t.kids.take k).length))))] [] ·) 24 ((0+5<=5/\0<5)/\(true=true/\5=5/\0+5<=5)/\·) ⟨dc,dc,FzS 12 t.names [(2,.ptr 4 0)] [(20,fl trc (t.kids.take k)),(4,(tr5 t (.osl 12 1 0 t.names.length) (.osl 20 5 0 ((t.kids.take k).length))))] [false,true] (FzT 20 (t.kids.take k) [(2,.ptr 4 0)] [(4,(tr5 t (pth t.names) (.osl 20 5 0 ((t.kids.take k).length))))] [true] ?_)⟩))))))))
 refine Rt1 ((0+5<=5/\0<5)/\·) (.agg (tr5 t (pth t.names) (.sl 5 ((t.kids.take k).map trc)))) ⟨dc,fin_lea ?_⟩
 first
   |(rw[List.take_of_length_le om];exact lea_refl _)
   | (have:t.kids=[]:=List.eq_nil_of_length_eq_zero om
      simp only[tcs,this];simp[lea,leas])
open Go Go.Proofs
set_option maxRecDepth 100000
theorem l2Set_ok:∀(N:Nat) (p:List Str) (t x:Tr) (gn:Bool),p.length=N->t.W<2^40->t.wf=true->0<p.length->p.length<2^40->PE G 102 [.agg (tcs t),pth p,.agg (tcs x),.bool gn] (.agg (tcs (tset p t x gn))):=by
 intro N;refine Nat.strongRecOn N fun N ih=>?_;intro p t x gn hN hw hwf hp0 hp;rw[W_eq]at hw;have hks:=Ws_len t.kids;have hns:=wS_len t.names;have hwl:=wf_len hwf
 obtain⟨A,hA0,hAs,hAl,hAe⟩:∃A:Nat->List Str×List Tr×Bool,A 0=([],[],false)/\(∀k,k<t.names.length->A (k+1)=sstp (p.getD 0 default) (decide ((p.length:Int)=(1:Int))) gn x (fun k=>tset (p.drop 1) k x gn) (A k) (t.names.getD k default,t.kids.getD k default))/\(∀k,k<=t.names.length->(A k).1.length=(A k).2.1.length/\(A k).1.length<=2*k)/\tset p t x gn=sE (p.getD 0 default) (decide ((p.length:Int)=(1:Int))) gn x t (A t.names.length):=⟨sA (p.getD 0 default) (decide ((p.length:Int)=(1:Int))) gn x (fun k=>tset (p.drop 1) k x gn) t,rfl,fun k hk=>sA_succ hk hwl,fun k hk=>sA_len hwl k hk,tset_eq hp0 t x gn⟩
 refine Pe Tryz.func102 ?_
 refine Rr (Fn2 [1,3] [(8,.ptr 8 0),(6,.ptr 4 0),(4,.ptr 0 0)] ([(8,zt),(4,tcs x),(0,tcs t)]++·) 12 (Rr (Fn3 [1,3,4,6,8] [(9,.ptr 12 0)] ([(12,(tr5 t .nils  .nils))]++·) 16 (((1:Nat)≠0)/\(0+1<=5/\0<5)/\((1:Nat)≠0)/\(1+1<=5/\1<5)/\((1:Nat)≠0)/\(2+1<=5/\2<5)/\(true=true/\5=5/\0+5<=5)/\·) ⟨dc,dc,dc,dc,dc,dc,dc,Rr ?_⟩)))
 refine Fn0 [1,3,4,6,8,9] [(10,.bool false)] (Sq fun K4 hK4=>?_)
 refine Rr (Fn0 [1,3,4,6,8,9,10] [(11,.i 0)] (Bl (h_l (fun(z:Nat×Option Unit)=>(match z with|(k,none)=>([(1,pth p),(3,.bool gn),(4,.ptr 0 0),(6,.ptr 4 0),(8,.ptr 8 0),(9,.ptr 12 0),(10,.bool ((A k).2.2)),(11,.i k)]:Fr)|(k,some ())=>([(1,pth p),(3,.bool gn),(4,.ptr 0 0),(6,.ptr 4 0),(8,.ptr 8 0),(9,.ptr 12 0),(10,.bool ((A k).2.2)),(11,.i k)]:Fr))) (fun(z:Nat×Option Unit)=>(match z with|(k,none)=>([(12,(tr5 t .nils  .nils)),(8,zt),(4,tcs x),(0,tcs t)]:Hp)|(k,some ())=>([(20,fl trc ((A k).2.1)),(16,fl sc ((A k).1)),(12,(tr5 t (.osl 16 1 0 ((A k).1.length)) (.osl 20 5 0 ((A k).2.1.length)))),(8,zt),(4,tcs x),(0,tcs t)]:Hp))) (fun(z:Nat×Option Unit) cn=>(match z with|(k,none)=>(k<=t.names.length/\(A k).1=[]/\(A k).2.1=[])/\cn=16|(k,some ())=>(k<=t.names.length)/\cn=24)) (fun(z:Nat×Option Unit)=>t.names.length-z.1) (0,none) kr ?_ ?_ ?_ ?_)))
 refine⟨?_,rfl⟩;simp[hA0]
 exact⟨kr,kr,kr,kr,kr,kr,(by show AV.bool false=AV.bool (A 0).2.2;rw[hA0]),kr,trivial⟩
 exact(sub_c kr (sub_c kr (sub_c kr (sub_c kr (List.nil_sublist _)))))
 rintro⟨k,_|⟨⟩⟩ n1 hI
 (try dsimp only at hI)
 obtain⟨⟨hk,hn1,hn2⟩,rfl⟩:=hI
 dsimp only
 have hal:=hAl k hk
 refine Sq fun K6 hK6=>?_
 refine Rr (Av1 4 24 [(23,pth t.names),(22,.ptr 0 3),(21,.i k)] (lnm t.names sc) (((1:Nat)≠0)/\(3+1<=5/\3<5)/\·) ⟨dc,dc,Cn1 (decide ((k:Int)<(t.names.length:Int))) [1,3,4,6,8,9,10,11] [] (Ki/\·) ⟨rfl,fun hc8 c8=>?_,fun hc8 c8=>?_⟩⟩)
 refine Sk (Jn (hK6 (Kp [1,3,4,6,8,9,10,11] (Sq fun K9 hK9=>?_))))
 refine Bl (Rr (Av1 4 31 [(30,.i k),(29,pth t.names),(28,.ptr 0 3)] (congrArg AV.pat (mg_str t.names k om)) (((1:Nat)≠0)/\(3+1<=5/\3<5)/\(1=1/\(0:Int)<=(k:Int)/\(k:Int)<((t.names.map (fun s=>[AV.str s])).length:Int))/\·) ⟨dc,dc,⟨rfl,om,lmo⟩,Fn1 [1,3,4,6,8,9,10,11] [(12,.str (t.names.getD k default))] ((1<=1/\0<1)/\·) ⟨dc,Sq fun K11 hK11=>?_⟩⟩))
 refine Rm 50 ((decide ((p.length:Int)=1))&&((!((A k).2.2))&&((!gn)&&(!blt (t.names.getD k default) (p.getD 0 default))))) [1,3,4,6,8,9,10,11,12] ?_ ?_
 refine Av0 2 34 [(33,pth p)] (lnm p sc) (An1 2 [(36,.bool (decide ((p.length:Int)=1))),(35,.bool (decide ((p.length:Int)=1)))] (Ki/\·) ⟨rfl,Rg (fun hg13 g13=>?_) (fun hg13 g13=>?_)⟩)
 refine An0 4 [(40,.bool (!((A k).2.2))),(39,.bool (!((A k).2.2))),(38,.bool (!((A k).2.2))),(37,.bool ((A k).2.2))] (Rg (fun hg14 g14=>?_) (fun hg14 g14=>?_))
 refine An0 4 [(44,.bool (!gn)),(43,.bool (!gn)),(42,.bool (!gn)),(41,.bool gn)] (Rg (fun hg15 g15=>?_) (fun hg15 g15=>?_))
 refine Av1 3 47 [(46,pth p),(45,.str (t.names.getD k default))] (congrArg AV.pat (mg_str p 0 om)) ((1=1/\(0:Int)<=0/\0<((p.map (fun s=>[AV.str s])).length:Int))/\·) ⟨⟨rfl,om,lmo⟩,Mn1 (!blt (t.names.getD k default) (p.getD 0 default)) ((1<=1/\0<1)/\·) ⟨dc,(by rw[hg13,hg14,hg15];rfl)⟩⟩
 refine Mn0 false (by rw[hg13,hg14,hg15];rfl)
 refine Mn0 false (by rw[hg13,hg14];rfl)
 refine Mn0 false (by rw[hg13];rfl)
 refine Cc ((decide ((p.length:Int)=1))&&((!((A k).2.2))&&((!gn)&&(!blt (t.names.getD k default) (p.getD 0 default))))) (fun hc16 c16=>?_) fun hc16 c16=>?_
 refine Qr [0,1,0,4,12,28,63,127,255] [(0,[]),(1,[]),(2,[]),(3,[]),(4,[]),(5,[1]),(6,[]),(7,[]),(8,[])] (qAv1 4 54 [(53,pth p),(52,.nils),(51,.ptr 12 3)] (congrArg AV.pat (mg_str p 0 om)) (((1:Nat)≠0)/\(3+1<=5/\3<5)/\(1=1/\(0:Int)<=0/\0<((p.map (fun s=>[AV.str s])).length:Int))/\·) ⟨dc,dc,⟨rfl,om,lmo⟩,qAn3 3 [(57,.osl 20 1 0 1),(56,.osl 16 1 0 1),(55,.str (p.getD 0 default))] ([(20,[.str (p.getD 0 default)]),(16,[.str (p.getD 0 default)])]++·) 24 ((1<=1/\0<1)/\(1*1<=16777216)/\(((3+1<=5/\3<5)/\(AV.nils=(.nils:AV)))/\True)/\(0+1*1<=1)/\(0<1/\0<16/\1*16<=140737488355328)/\(True)/\·) ⟨dc,dc,⟨⟨dc,rfl⟩,trivial⟩,dc,dc,trivial,runq_v (v':=.osl 20 1 0 ([p.getD 0 default].length)) rfl (runq_h (cs':=fl sc [p.getD 0 default]) (s1_str (p.getD 0 default)) ?_)⟩⟩)
 refine qFn3 [1,3,4,6,8,9,11,12] [] (Hw [(12,(tr5 t (.osl 20 1 0 ([p.getD 0 default].length))  .nils))] [] ·) 24 (((1:Nat)≠0)/\(true=true/\1=1/\3+1<=5)/\(True)/\·) ⟨dc,dc,trivial,Rr (An3 5 [(63,.osl 28 5 0 1),(62,.osl 24 5 0 1),(61,.agg (tcs x)),(60,.nils),(59,.ptr 12 4)] ([(28,tcs x),(24,tcs x)]++·) 32 (((1:Nat)≠0)/\(4+1<=5/\4<5)/\(0+5<=5/\0<5)/\(1*5<=16777216)/\(0+1*5<=5)/\(0<1/\0<80/\1*80<=140737488355328)/\·) ⟨dc,dc,dc,dc,dc,dc,run_v (v':=.osl 28 5 0 ([x].length)) rfl (run_h (cs':=fl trc [x]) (s1_trc x) ?_)⟩)⟩
 refine Fn3 [1,3,4,6,8,9,11,12] [] (Hw [(12,(tr5 t (.osl 20 1 0 ([p.getD 0 default].length)) (.osl 28 5 0 ([x].length))))] [] ·) 32 (((1:Nat)≠0)/\(true=true/\1=1/\4+1<=5)/\·) ⟨dc,dc,Rb (fun h=>Jn (hK11 h)) (Fn0 [1,3,4,6,8,9,11,12] [(10,.bool true)] (Sq fun K19 hK19=>?_))⟩
 refine Rm 74 (((t.names.getD k default)==(p.getD 0 default))&&(decide ((p.length:Int)=1))) [1,3,4,6,8,9,10,11,12] ?_ ?_
 refine Av1 3 67 [(66,pth p),(65,.str (t.names.getD k default))] (congrArg AV.pat (mg_str p 0 om)) ((1=1/\(0:Int)<=0/\0<((p.map (fun s=>[AV.str s])).length:Int))/\·) ⟨⟨rfl,om,lmo⟩,An1 3 [(70,.bool ((t.names.getD k default)==(p.getD 0 default))),(69,.bool ((t.names.getD k default)==(p.getD 0 default))),(68,.str (p.getD 0 default))] ((1<=1/\0<1)/\·) ⟨dc,Rg (fun hg21 g21=>?_) (fun hg21 g21=>?_)⟩⟩
 refine Av0 2 72 [(71,pth p)] (lnm p sc) (Mn1 (decide ((p.length:Int)=1)) (Ki/\·) ⟨rfl,(by rw[hg21];rfl)⟩)
 refine Mn0 false (by rw[hg21];rfl)
 refine Cc (((t.names.getD k default)==(p.getD 0 default))&&(decide ((p.length:Int)=1))) (fun hc22 c22=>?_) fun hc22 c22=>?_
 refine Xt (Jx (Bh (Jn (hK9 (Kp [1,3,4,6,8,9,10,11] (Rn (Av1 2 27 [(26,.i k)] (cI (wn1 k om)) (Ki/\·) ⟨rfl,Gn0 [(11,.i ((k+1:Nat):Int))] (nk_n ?_)⟩)))))))
 have e:=hAs k om;simp only[sstp,hc8,hc16,hc22,Bool.true_and,Bool.false_and,cond_true,cond_false,hn1,hn2,List.nil_append]at e
 refine Lr (k+1,some ()) [(0,0),(4,4),(8,8),(12,12),(20,16),(28,20)] 24 [(1,pth p),(3,.bool gn),(4,.ptr 0 0),(6,.ptr 4 0),(8,.ptr 8 0),(9,.ptr 12 0),(10,.bool true),(11,.i ((k+1:Nat):Int))] [(28,fl trc [x]),(20,fl sc [p.getD 0 default]),(12,(tr5 t (.osl 20 1 0 ([p.getD 0 default].length)) (.osl 28 5 0 ([x].length)))),(8,zt),(4,tcs x),(0,tcs t)] [false,false,true,true,true,true] ?_ ?_ (by(try ((try dsimp only);rw[e]));try kernel_rfl) (by(try ((try dsimp only);rw[e]));try kernel_rfl)
 (try dsimp only);omega
 refine⟨?_,rfl⟩;(try dsimp only);first|omega|exact⟨om,by rw[e]⟩
 refine Sk (Jn (hK19 (Kp [1,3,4,6,8,9,10,11,12] (Rr (Av1 4 78 [(77,.i k),(76,.sl 5 (t.kids.map trc)),(75,.ptr 0 4)] (congrArg AV.pat (mg_trc t.kids k om)) (((1:Nat)≠0)/\(4+1<=5/\4<5)/\(5=5/\(0:Int)<=(k:Int)/\(k:Int)<((t.kids.map trc).length:Int))/\·) ⟨dc,dc,⟨rfl,om,lmo⟩,Fn3 [1,3,4,6,8,9,10,11,12] [(13,.ptr 32 0)] ([(32,tcs (t.kids.getD k default))]++·) 36 ((5<=5/\0<5)/\(true=true/\5=5/\0+5<=5)/\·) ⟨dc,dc,Sj (fun(z:Tr)=>match z with|kk=>([(1,pth p),(3,.bool gn),(4,.ptr 0 0),(6,.ptr 4 0),(8,.ptr 8 0),(9,.ptr 12 0),(10,.bool true),(11,.i k),(12,.str (t.names.getD k default)),(13,.ptr 32 0)]:Fr)) (fun(z:Tr)=>match z with|kk=>([(32,tcs kk),(28,fl trc [x]),(24,tcs x),(20,fl sc [p.getD 0 default]),(16,[.str (p.getD 0 default)]),(12,(tr5 t (.osl 20 1 0 ([p.getD 0 default].length)) (.osl 28 5 0 ([x].length)))),(8,zt),(4,tcs x),(0,tcs t)]:Hp)) (fun(z:Tr)=>match z with|kk=>A (k+1)=([p.getD 0 default]++[t.names.getD k default],[x]++[kk],true)) 36 ?_ fun J24 K25 hK25=>?_⟩⟩)))))
 rintro kk hi
 dsimp only at hi⊢
 have hj:=hi
 refine Rr (An3 5 [(95,.osl 40 1 0 ([p.getD 0 default].length+1)),(94,.osl 36 1 0 1),(93,.str (t.names.getD k default)),(92,.osl 20 1 0 ([p.getD 0 default].length)),(91,.ptr 12 3)] ([(40,apd (fl sc [p.getD 0 default]) ([p.getD 0 default].length*1) [.str (t.names.getD k default)]),(36,[.str (t.names.getD k default)])]++Hw [] [20] ·) 44 (((1:Nat)≠0)/\(3+1<=5/\3<5)/\(1*1<=16777216)/\(0+1*1<=1)/\(1=1/\[p.getD 0 default].length*1<=(fl sc [p.getD 0 default]).length/\0<16/\([p.getD 0 default].length+1)*16<=140737488355328)/\·) ⟨dc,dc,dc,dc,⟨rfl,gl,dc,gl⟩,run_v (v':=.osl 40 1 0 (([p.getD 0 default]++[t.names.getD k default]).length)) (push_len _ _ _ _) (run_h (cs':=fl sc ([p.getD 0 default]++[t.names.getD k default])) (push_str [p.getD 0 default] (t.names.getD k default)) (Fn3 [1,3,4,6,8,9,10,11,13] [] (Hw [(12,(tr5 t (.osl 40 1 0 (([p.getD 0 default]++[t.names.getD k default]).length)) (.osl 28 5 0 ([x].length))))] [] ·) 44 (((1:Nat)≠0)/\(true=true/\1=1/\3+1<=5)/\·) ⟨dc,dc,?_⟩))⟩)
 refine Rb (fun h=>Bn (Jn (hK9 h))) (An3 5 [(101,.osl 48 5 0 ([x].length+1)),(100,.osl 44 5 0 1),(99,.agg (tcs kk)),(98,.osl 28 5 0 ([x].length)),(97,.ptr 12 4)] ([(48,apd (fl trc [x]) ([x].length*5) (tcs kk)),(44,tcs kk)]++Hw [] [28] ·) 52 (((1:Nat)≠0)/\(4+1<=5/\4<5)/\(0+5<=5/\0<5)/\(1*5<=16777216)/\(0+1*5<=5)/\(5=5/\[x].length*5<=(fl trc [x]).length/\0<80/\([x].length+1)*80<=140737488355328)/\·) ⟨dc,dc,dc,dc,dc,⟨rfl,gl,dc,gl⟩,run_v (v':=.osl 48 5 0 (([x]++[kk]).length)) (push_len _ _ _ _) (run_h (cs':=fl trc ([x]++[kk])) (push_trc [x] kk) (Fn3 [1,3,4,6,8,9,10,11] [] (Hw [(12,(tr5 t (.osl 40 1 0 (([p.getD 0 default]++[t.names.getD k default]).length)) (.osl 48 5 0 (([x]++[kk]).length))))] [] ·) 52 (((1:Nat)≠0)/\(true=true/\1=1/\4+1<=5)/\·) ⟨dc,dc,?_⟩))⟩)
 refine Rn (Av1 2 27 [(26,.i k)] (cI (wn1 k om)) (Ki/\·) ⟨rfl,Gn0 [(11,.i ((k+1:Nat):Int))] (nk_n ?_)⟩)
 have e:=hj
 refine Lr (k+1,some ()) [(0,0),(4,4),(8,8),(12,12),(40,16),(48,20)] 24 [(1,pth p),(3,.bool gn),(4,.ptr 0 0),(6,.ptr 4 0),(8,.ptr 8 0),(9,.ptr 12 0),(10,.bool true),(11,.i ((k+1:Nat):Int))] [(48,fl trc ([x]++[kk])),(40,fl sc ([p.getD 0 default]++[t.names.getD k default])),(12,(tr5 t (.osl 40 1 0 (([p.getD 0 default]++[t.names.getD k default]).length)) (.osl 48 5 0 (([x]++[kk]).length)))),(8,zt),(4,tcs x),(0,tcs t)] [false,false,true,true,true,true] ?_ ?_ (by(try ((try dsimp only);rw[e]));try kernel_rfl) (by(try ((try dsimp only);rw[e]));try kernel_rfl)
 (try dsimp only);omega
 refine⟨?_,rfl⟩;(try dsimp only);first|omega|exact⟨om,by rw[e]⟩
 refine Rr (Av1 3 82 [(81,pth p),(80,.str (t.names.getD k default))] (congrArg AV.pat (mg_str p 0 om)) ((1=1/\(0:Int)<=0/\0<((p.map (fun s=>[AV.str s])).length:Int))/\·) ⟨⟨rfl,om,lmo⟩,Cn1 ((t.names.getD k default)==(p.getD 0 default)) [1,3,4,6,8,9,10,11,12,13] [] ((1<=1/\0<1)/\·) ⟨dc,fun hc28 c28=>?_,fun hc28 c28=>?_⟩⟩)
 exfalso;rw[hc28,Bool.true_and]at hc22;simp only[decide_eq_false_iff_not]at hc22;omega
 refine Sk (Jn (hK25 (Kp [1,3,4,6,8,9,10,11,12,13] (Tr2 J24 (t.kids.getD k default) [(0,0),(4,4),(8,8),(12,12),(16,16),(20,20),(24,24),(28,28),(32,32)] [(1,pth p),(3,.bool gn),(4,.ptr 0 0),(6,.ptr 4 0),(8,.ptr 8 0),(9,.ptr 12 0),(10,.bool true),(11,.i k),(12,.str (t.names.getD k default)),(13,.ptr 32 0)] [(32,tcs (t.kids.getD k default)),(28,fl trc [x]),(24,tcs x),(20,fl sc [p.getD 0 default]),(16,[.str (p.getD 0 default)]),(12,(tr5 t (.osl 20 1 0 ([p.getD 0 default].length)) (.osl 28 5 0 ([x].length)))),(8,zt),(4,tcs x),(0,tcs t)] [true,false,true,false,true,true,true,true,true] ?_ kr kr))))
 (try dsimp only)
 have e:=hAs k om;simp only[sstp,hc8,hc16,hc22,hc28,Bool.true_and,Bool.false_and,cond_true,cond_false,hn1,hn2,List.nil_append]at e
 exact e
 refine Sk (Jn (hK11 (Kp [1,3,4,6,8,9,10,11,12] (Sq fun K29 hK29=>?_))))
 refine Rm 74 (((t.names.getD k default)==(p.getD 0 default))&&(decide ((p.length:Int)=1))) [1,3,4,6,8,9,10,11,12] ?_ ?_
 refine Av1 3 67 [(66,pth p),(65,.str (t.names.getD k default))] (congrArg AV.pat (mg_str p 0 om)) ((1=1/\(0:Int)<=0/\0<((p.map (fun s=>[AV.str s])).length:Int))/\·) ⟨⟨rfl,om,lmo⟩,An1 3 [(70,.bool ((t.names.getD k default)==(p.getD 0 default))),(69,.bool ((t.names.getD k default)==(p.getD 0 default))),(68,.str (p.getD 0 default))] ((1<=1/\0<1)/\·) ⟨dc,Rg (fun hg31 g31=>?_) (fun hg31 g31=>?_)⟩⟩
 refine Av0 2 72 [(71,pth p)] (lnm p sc) (Mn1 (decide ((p.length:Int)=1)) (Ki/\·) ⟨rfl,(by rw[hg31];rfl)⟩)
 refine Mn0 false (by rw[hg31];rfl)
 refine Cc (((t.names.getD k default)==(p.getD 0 default))&&(decide ((p.length:Int)=1))) (fun hc32 c32=>?_) fun hc32 c32=>?_
 refine Xt (Jx (Bh (Jn (hK9 (Kp [1,3,4,6,8,9,10,11] (Rn (Av1 2 27 [(26,.i k)] (cI (wn1 k om)) (Ki/\·) ⟨rfl,Gn0 [(11,.i ((k+1:Nat):Int))] (nk_n ?_)⟩)))))))
 have e:=hAs k om;simp only[sstp,hc8,hc16,hc32,Bool.true_and,Bool.false_and,cond_true,cond_false,hn1,hn2,List.nil_append]at e
 refine Lr (k+1,none) [(0,0),(4,4),(8,8),(12,12)] 16 [(1,pth p),(3,.bool gn),(4,.ptr 0 0),(6,.ptr 4 0),(8,.ptr 8 0),(9,.ptr 12 0),(10,.bool ((A k).2.2)),(11,.i ((k+1:Nat):Int))] [(12,(tr5 t .nils  .nils)),(8,zt),(4,tcs x),(0,tcs t)] [true,true,true,true] ?_ ?_ (by(try ((try dsimp only);rw[e]));try kernel_rfl) (by(try ((try dsimp only);rw[e]));try kernel_rfl)
 (try dsimp only);omega
 refine⟨?_,rfl⟩;(try dsimp only);exact⟨om,by rw[e];exact hn1,by rw[e];exact hn2⟩
 refine Sk (Jn (hK29 (Kp [1,3,4,6,8,9,10,11,12] (Rr (Av1 4 78 [(77,.i k),(76,.sl 5 (t.kids.map trc)),(75,.ptr 0 4)] (congrArg AV.pat (mg_trc t.kids k om)) (((1:Nat)≠0)/\(4+1<=5/\4<5)/\(5=5/\(0:Int)<=(k:Int)/\(k:Int)<((t.kids.map trc).length:Int))/\·) ⟨dc,dc,⟨rfl,om,lmo⟩,Fn3 [1,3,4,6,8,9,10,11,12] [(13,.ptr 16 0)] ([(16,tcs (t.kids.getD k default))]++·) 20 ((5<=5/\0<5)/\(true=true/\5=5/\0+5<=5)/\·) ⟨dc,dc,Sj (fun(z:Tr)=>match z with|kk=>([(1,pth p),(3,.bool gn),(4,.ptr 0 0),(6,.ptr 4 0),(8,.ptr 8 0),(9,.ptr 12 0),(10,.bool ((A k).2.2)),(11,.i k),(12,.str (t.names.getD k default)),(13,.ptr 16 0)]:Fr)) (fun(z:Tr)=>match z with|kk=>([(16,tcs kk),(12,(tr5 t .nils  .nils)),(8,zt),(4,tcs x),(0,tcs t)]:Hp)) (fun(z:Tr)=>match z with|kk=>A (k+1)=([t.names.getD k default],[kk],(A k).2.2)) 20 ?_ fun J34 K35 hK35=>?_⟩⟩)))))
 rintro kk hi
 dsimp only at hi⊢
 have hj:=hi
 refine Rr (An3 5 [(95,.osl 24 1 0 1),(94,.osl 20 1 0 1),(93,.str (t.names.getD k default)),(92,.nils),(91,.ptr 12 3)] ([(24,[.str (t.names.getD k default)]),(20,[.str (t.names.getD k default)])]++·) 28 (((1:Nat)≠0)/\(3+1<=5/\3<5)/\(1*1<=16777216)/\(0+1*1<=1)/\(0<1/\0<16/\1*16<=140737488355328)/\·) ⟨dc,dc,dc,dc,dc,run_v (v':=.osl 24 1 0 ([t.names.getD k default].length)) rfl (run_h (cs':=fl sc [t.names.getD k default]) (s1_str (t.names.getD k default)) (Fn3 [1,3,4,6,8,9,10,11,13] [] (Hw [(12,(tr5 t (.osl 24 1 0 ([t.names.getD k default].length))  .nils))] [] ·) 28 (((1:Nat)≠0)/\(true=true/\1=1/\3+1<=5)/\·) ⟨dc,dc,?_⟩))⟩)
 refine Rb (fun h=>Bn (Jn (hK9 h))) (An3 5 [(101,.osl 32 5 0 1),(100,.osl 28 5 0 1),(99,.agg (tcs kk)),(98,.nils),(97,.ptr 12 4)] ([(32,tcs kk),(28,tcs kk)]++·) 36 (((1:Nat)≠0)/\(4+1<=5/\4<5)/\(0+5<=5/\0<5)/\(1*5<=16777216)/\(0+1*5<=5)/\(0<1/\0<80/\1*80<=140737488355328)/\·) ⟨dc,dc,dc,dc,dc,dc,run_v (v':=.osl 32 5 0 ([kk].length)) rfl (run_h (cs':=fl trc [kk]) (s1_trc kk) (Fn3 [1,3,4,6,8,9,10,11] [] (Hw [(12,(tr5 t (.osl 24 1 0 ([t.names.getD k default].length)) (.osl 32 5 0 ([kk].length))))] [] ·) 36 (((1:Nat)≠0)/\(true=true/\1=1/\4+1<=5)/\·) ⟨dc,dc,?_⟩))⟩)
 refine Rn (Av1 2 27 [(26,.i k)] (cI (wn1 k om)) (Ki/\·) ⟨rfl,Gn0 [(11,.i ((k+1:Nat):Int))] (nk_n ?_)⟩)
 have e:=hj
 refine Lr (k+1,some ()) [(0,0),(4,4),(8,8),(12,12),(24,16),(32,20)] 24 [(1,pth p),(3,.bool gn),(4,.ptr 0 0),(6,.ptr 4 0),(8,.ptr 8 0),(9,.ptr 12 0),(10,.bool ((A k).2.2)),(11,.i ((k+1:Nat):Int))] [(32,fl trc [kk]),(24,fl sc [t.names.getD k default]),(12,(tr5 t (.osl 24 1 0 ([t.names.getD k default].length)) (.osl 32 5 0 ([kk].length)))),(8,zt),(4,tcs x),(0,tcs t)] [false,false,true,true,true,true] ?_ ?_ (by(try ((try dsimp only);rw[e]));try kernel_rfl) (by(try ((try dsimp only);rw[e]));try kernel_rfl)
 (try dsimp only);omega
 refine⟨?_,rfl⟩;(try dsimp only);first|omega|exact⟨om,by rw[e]⟩
 refine Rr (Av1 3 82 [(81,pth p),(80,.str (t.names.getD k default))] (congrArg AV.pat (mg_str p 0 om)) ((1=1/\(0:Int)<=0/\0<((p.map (fun s=>[AV.str s])).length:Int))/\·) ⟨⟨rfl,om,lmo⟩,Cn1 ((t.names.getD k default)==(p.getD 0 default)) [1,3,4,6,8,9,10,11,12,13] [] ((1<=1/\0<1)/\·) ⟨dc,fun hc38 c38=>?_,fun hc38 c38=>?_⟩⟩)
 refine Qb [0,0,2,0,0,31,63] [(0,[]),(1,[]),(2,[]),(3,[]),(4,[]),(5,[]),(6,[])] (fun h=>Jn (hK35 h)) (qAv1 (r:=.sl 1 (((p.map (fun s=>[AV.str s])).take ((p.map (fun s=>[AV.str s])).length)).drop 1)) (v:=pth (p.drop 1)) 3 87 [(86,pth p),(85,.agg (tcs (t.kids.getD k default)))] (congrArg (AV.sl 1) (slm_all _ _ _)) ((0+5<=5/\0<5)/\(1=1/\0<=(1:Int)/\(1:Int)<=((p.map (fun s=>[AV.str s])).length:Int)/\((p.map (fun s=>[AV.str s])).length:Int)<=((p.map (fun s=>[AV.str s])).length:Int))/\·) ⟨dc,⟨rfl,om,lmo,om⟩,qBc1 3 [(89,.bool gn),(88,.agg (tcs x))] [] 102 [.agg (tcs (t.kids.getD k default)),pth (p.drop 1),.agg (tcs x),.bool gn] 90 ((0+5<=5/\0<5)/\·) ⟨dc,?_⟩⟩)
 have hW:=Ws_get t.kids k om
 have hp2:1<p.length:=by
   rcases Nat.lt_or_ge 1 p.length with h|h
   · exact h
   · exfalso;have h1:p.length=1:=by omega
     rw[hc38,h1]at hc32;simp at hc32
 have hdd:decide ((p.length:Int)=(1:Int))=false:=by rw[decide_eq_false_iff_not];omega
 refine PE.use (ih _ (by simp only[List.length_drop];omega) (p.drop 1) (t.kids.getD k default) x gn rfl om (wf_kid hwf om _) (by simp only[List.length_drop];omega) (by simp only[List.length_drop];omega)) ?_
 refine Kq (p:=(True)) trivial ?_
 refine qFn3 [1,3,4,6,8,9,10,11,12,13] [] (Hw [(16,tcs (tset (p.drop 1) (t.kids.getD k default) x gn))] [] ·) 20 ((true=true/\5=5/\0+5<=5)/\(True)/\·) ⟨dc,trivial,Tr2 J34 (tset (p.drop 1) (t.kids.getD k default) x gn) [(0,0),(4,4),(8,8),(12,12),(16,16)] [(1,pth p),(3,.bool gn),(4,.ptr 0 0),(6,.ptr 4 0),(8,.ptr 8 0),(9,.ptr 12 0),(10,.bool ((A k).2.2)),(11,.i k),(12,.str (t.names.getD k default)),(13,.ptr 16 0)] [(16,tcs (tset (p.drop 1) (t.kids.getD k default) x gn)),(12,(tr5 t .nils  .nils)),(8,zt),(4,tcs x),(0,tcs t)] [true,true,true,true,true] ?_ kr kr⟩
 (try dsimp only)
 have e:=hAs k om;simp only[sstp,hc8,hc16,hc32,hc38,hdd,Bool.true_and,Bool.false_and,cond_true,cond_false,hn1,hn2,List.nil_append]at e
 exact e
 refine Sk (Jn (hK35 (Kp [1,3,4,6,8,9,10,11,12,13] (Tr2 J34 (t.kids.getD k default) [(0,0),(4,4),(8,8),(12,12),(16,16)] [(1,pth p),(3,.bool gn),(4,.ptr 0 0),(6,.ptr 4 0),(8,.ptr 8 0),(9,.ptr 12 0),(10,.bool ((A k).2.2)),(11,.i k),(12,.str (t.names.getD k default)),(13,.ptr 16 0)] [(16,tcs (t.kids.getD k default)),(12,(tr5 t .nils  .nils)),(8,zt),(4,tcs x),(0,tcs t)] [true,true,true,true,true] ?_ kr kr))))
 (try dsimp only)
 have e:=hAs k om;simp only[sstp,hc8,hc16,hc32,hc38,Bool.true_and,Bool.false_and,cond_true,cond_false,hn1,hn2,List.nil_append]at e
 exact e
 refine Xt (Jx (Lx (Bh (Jn (hK4 (Kp [1,3,6,8,9,10] (Sq fun K39 hK39=>?_)))))))
 refine Rm 113 ((decide ((p.length:Int)=1))&&((!((A k).2.2))&&(!gn))) [1,6,8,9] ?_ ?_
 refine Av0 2 104 [(103,pth p)] (lnm p sc) (An1 2 [(106,.bool (decide ((p.length:Int)=1))),(105,.bool (decide ((p.length:Int)=1)))] (Ki/\·) ⟨rfl,Rg (fun hg41 g41=>?_) (fun hg41 g41=>?_)⟩)
 refine An0 4 [(110,.bool (!((A k).2.2))),(109,.bool (!((A k).2.2))),(108,.bool (!((A k).2.2))),(107,.bool ((A k).2.2))] (Rg (fun hg42 g42=>?_) (fun hg42 g42=>?_))
 refine Mn0 (!gn) (by rw[hg41,hg42];rfl)
 refine Mn0 false (by rw[hg41,hg42];rfl)
 refine Mn0 false (by rw[hg41];rfl)
 refine Cc ((decide ((p.length:Int)=1))&&((!((A k).2.2))&&(!gn))) (fun hc43 c43=>?_) fun hc43 c43=>?_
 refine Qr [0,1,0,4,12,28,63,127,255] [(0,[]),(1,[]),(2,[]),(3,[]),(4,[]),(5,[1]),(6,[]),(7,[]),(8,[])] (qAv1 4 117 [(116,pth p),(115,.nils),(114,.ptr 12 3)] (congrArg AV.pat (mg_str p 0 om)) (((1:Nat)≠0)/\(3+1<=5/\3<5)/\(1=1/\(0:Int)<=0/\0<((p.map (fun s=>[AV.str s])).length:Int))/\·) ⟨dc,dc,⟨rfl,om,lmo⟩,qAn3 3 [(120,.osl 20 1 0 1),(119,.osl 16 1 0 1),(118,.str (p.getD 0 default))] ([(20,[.str (p.getD 0 default)]),(16,[.str (p.getD 0 default)])]++·) 24 ((1<=1/\0<1)/\(1*1<=16777216)/\(((3+1<=5/\3<5)/\(AV.nils=(.nils:AV)))/\True)/\(0+1*1<=1)/\(0<1/\0<16/\1*16<=140737488355328)/\(True)/\·) ⟨dc,dc,⟨⟨dc,rfl⟩,trivial⟩,dc,dc,trivial,runq_v (v':=.osl 20 1 0 ([p.getD 0 default].length)) rfl (runq_h (cs':=fl sc [p.getD 0 default]) (s1_str (p.getD 0 default)) ?_)⟩⟩)
 refine qFn3 [6,8,9] [] (Hw [(12,(tr5 t (.osl 20 1 0 ([p.getD 0 default].length))  .nils))] [] ·) 24 (((1:Nat)≠0)/\(true=true/\1=1/\3+1<=5)/\(True)/\·) ⟨dc,dc,trivial,Rb (fun h=>Jn (hK39 h)) (An3 5 [(126,.osl 28 5 0 1),(125,.osl 24 5 0 1),(124,.agg (tcs x)),(123,.nils),(122,.ptr 12 4)] ([(28,tcs x),(24,tcs x)]++·) 32 (((1:Nat)≠0)/\(4+1<=5/\4<5)/\(0+5<=5/\0<5)/\(1*5<=16777216)/\(0+1*5<=5)/\(0<1/\0<80/\1*80<=140737488355328)/\·) ⟨dc,dc,dc,dc,dc,dc,run_v (v':=.osl 28 5 0 ([x].length)) rfl (run_h (cs':=fl trc [x]) (s1_trc x) ?_)⟩)⟩
 refine Fn3 [8,9] [] (Hw [(12,(tr5 t (.osl 20 1 0 ([p.getD 0 default].length)) (.osl 28 5 0 ([x].length))))] [] ·) 32 (((1:Nat)≠0)/\(true=true/\1=1/\4+1<=5)/\·) ⟨dc,dc,Rr (Fn3 [8] [] (Hw [(8,(tr5 t (.osl 20 1 0 ([p.getD 0 default].length)) (.osl 28 5 0 ([x].length))))] [] ·) 32 ((0+5<=5/\0<5)/\(true=true/\5=5/\0+5<=5)/\·) ⟨dc,dc,FzT 28 [x] [(8,.ptr 8 0)] [(20,fl sc [p.getD 0 default]),(8,(tr5 t (.osl 20 1 0 ([p.getD 0 default].length)) (.osl 28 5 0 ([x].length))))] [false,true] (FzS 20 [p.getD 0 default] [(8,.ptr 8 0)] [(8,(tr5 t (.osl 20 1 0 ([p.getD 0 default].length)) (.sl 5 ([x].map trc))))] [true] ?_)⟩)⟩
 refine Rt1 ((0+5<=5/\0<5)/\·) (.agg (tr5 t (pth [p.getD 0 default]) (.sl 5 ([x].map trc)))) ⟨dc,fin_lea ?_⟩
 obtain rfl:k=t.names.length:=by omega
 simp only[sE,hc8,hc43,Bool.true_and,Bool.false_and,cond_true,cond_false]at hAe
 rw[hAe]
 first
   |exact lea_refl _
   |(simp only[tcs,Tr.dir_mk,Tr.mode_mk,Tr.data_mk,Tr.names_mk,Tr.kids_mk,hn1,hn2,List.nil_append];first|exact lea_refl _|(simp[lea,leas,pth]))
 refine Sk (Jn (hK39 (Kp [8,9] (Rr (Fn3 [8] [] (Hw [(8,(tr5 t .nils  .nils))] [] ·) 16 ((0+5<=5/\0<5)/\(true=true/\5=5/\0+5<=5)/\·) ⟨dc,dc,Rt1 ((0+5<=5/\0<5)/\·) (.agg (tr5 t .nils  .nils)) ⟨dc,fin_lea ?_⟩⟩)))))
 obtain rfl:k=t.names.length:=by omega
 simp only[sE,hc8,hc43,Bool.true_and,Bool.false_and,cond_true,cond_false]at hAe
 rw[hAe]
 first
   |exact lea_refl _
   |(simp only[tcs,Tr.dir_mk,Tr.mode_mk,Tr.data_mk,Tr.names_mk,Tr.kids_mk,hn1,hn2,List.nil_append];first|exact lea_refl _|(simp[lea,leas,pth]))
 (try dsimp only at hI)
 obtain⟨hk,rfl⟩:=hI
 dsimp only
 have hal:=hAl k hk
 refine Sq fun K47 hK47=>?_
 refine Rr (Av1 4 24 [(23,pth t.names),(22,.ptr 0 3),(21,.i k)] (lnm t.names sc) (((1:Nat)≠0)/\(3+1<=5/\3<5)/\·) ⟨dc,dc,Cn1 (decide ((k:Int)<(t.names.length:Int))) [1,3,4,6,8,9,10,11] [] (Ki/\·) ⟨rfl,fun hc49 c49=>?_,fun hc49 c49=>?_⟩⟩)
 refine Sk (Jn (hK47 (Kp [1,3,4,6,8,9,10,11] (Sq fun K50 hK50=>?_))))
 refine Bl (Rr (Av1 4 31 [(30,.i k),(29,pth t.names),(28,.ptr 0 3)] (congrArg AV.pat (mg_str t.names k om)) (((1:Nat)≠0)/\(3+1<=5/\3<5)/\(1=1/\(0:Int)<=(k:Int)/\(k:Int)<((t.names.map (fun s=>[AV.str s])).length:Int))/\·) ⟨dc,dc,⟨rfl,om,lmo⟩,Fn1 [1,3,4,6,8,9,10,11] [(12,.str (t.names.getD k default))] ((1<=1/\0<1)/\·) ⟨dc,Sq fun K52 hK52=>?_⟩⟩))
 refine Rm 50 ((decide ((p.length:Int)=1))&&((!((A k).2.2))&&((!gn)&&(!blt (t.names.getD k default) (p.getD 0 default))))) [1,3,4,6,8,9,10,11,12] ?_ ?_
 refine Av0 2 34 [(33,pth p)] (lnm p sc) (An1 2 [(36,.bool (decide ((p.length:Int)=1))),(35,.bool (decide ((p.length:Int)=1)))] (Ki/\·) ⟨rfl,Rg (fun hg54 g54=>?_) (fun hg54 g54=>?_)⟩)
 refine An0 4 [(40,.bool (!((A k).2.2))),(39,.bool (!((A k).2.2))),(38,.bool (!((A k).2.2))),(37,.bool ((A k).2.2))] (Rg (fun hg55 g55=>?_) (fun hg55 g55=>?_))
 refine An0 4 [(44,.bool (!gn)),(43,.bool (!gn)),(42,.bool (!gn)),(41,.bool gn)] (Rg (fun hg56 g56=>?_) (fun hg56 g56=>?_))
 refine Av1 3 47 [(46,pth p),(45,.str (t.names.getD k default))] (congrArg AV.pat (mg_str p 0 om)) ((1=1/\(0:Int)<=0/\0<((p.map (fun s=>[AV.str s])).length:Int))/\·) ⟨⟨rfl,om,lmo⟩,Mn1 (!blt (t.names.getD k default) (p.getD 0 default)) ((1<=1/\0<1)/\·) ⟨dc,(by rw[hg54,hg55,hg56];rfl)⟩⟩
 refine Mn0 false (by rw[hg54,hg55,hg56];rfl)
 refine Mn0 false (by rw[hg54,hg55];rfl)
 refine Mn0 false (by rw[hg54];rfl)
 refine Cc ((decide ((p.length:Int)=1))&&((!((A k).2.2))&&((!gn)&&(!blt (t.names.getD k default) (p.getD 0 default))))) (fun hc57 c57=>?_) fun hc57 c57=>?_
 refine Qr [0,1,0,4,12,28,63,127,255] [(0,[]),(1,[]),(2,[]),(3,[]),(4,[]),(5,[1]),(6,[]),(7,[]),(8,[])] (qAv1 4 54 [(53,pth p),(52,.osl 16 1 0 ((A k).1.length)),(51,.ptr 12 3)] (congrArg AV.pat (mg_str p 0 om)) (((1:Nat)≠0)/\(3+1<=5/\3<5)/\(1=1/\(0:Int)<=0/\0<((p.map (fun s=>[AV.str s])).length:Int))/\·) ⟨dc,dc,⟨rfl,om,lmo⟩,qAn3 3 [(57,.osl 28 1 0 ((A k).1.length+1)),(56,.osl 24 1 0 1),(55,.str (p.getD 0 default))] ([(28,apd (fl sc ((A k).1)) ((A k).1.length*1) [.str (p.getD 0 default)]),(24,[.str (p.getD 0 default)])]++Hw [] [16] ·) 32 (fun Z=>(1<=1/\0<1)/\(1*1<=16777216)/\(((3+1<=5/\3<5)/\(AV.osl 16 1 0 ((A k).1.length)=(.osl 16 1 0 ((A k).1.length):AV)))/\True)/\(0+1*1<=1)/\(1=1/\(A k).1.length*1<=(fl sc ((A k).1)).length/\0<16/\((A k).1.length+1)*16<=140737488355328)/\(True)/\Z) ⟨dc,dc,⟨⟨dc,rfl⟩,trivial⟩,dc,⟨rfl,gl,dc,gl⟩,trivial,runq_v (v':=.osl 28 1 0 (((A k).1++[p.getD 0 default]).length)) (push_len _ _ _ _) (runq_h (cs':=fl sc ((A k).1++[p.getD 0 default])) (push_str ((A k).1) (p.getD 0 default)) ?_)⟩⟩)
 refine qFn3 [1,3,4,6,8,9,11,12] [] (Hw [(12,(tr5 t (.osl 28 1 0 (((A k).1++[p.getD 0 default]).length)) (.osl 20 5 0 ((A k).2.1.length))))] [] ·) 32 (((1:Nat)≠0)/\(true=true/\1=1/\3+1<=5)/\(True)/\·) ⟨dc,dc,trivial,Rr (An3 5 [(63,.osl 36 5 0 ((A k).2.1.length+1)),(62,.osl 32 5 0 1),(61,.agg (tcs x)),(60,.osl 20 5 0 ((A k).2.1.length)),(59,.ptr 12 4)] ([(36,apd (fl trc ((A k).2.1)) ((A k).2.1.length*5) (tcs x)),(32,tcs x)]++Hw [] [20] ·) 40 (((1:Nat)≠0)/\(4+1<=5/\4<5)/\(0+5<=5/\0<5)/\(1*5<=16777216)/\(0+1*5<=5)/\(5=5/\(A k).2.1.length*5<=(fl trc ((A k).2.1)).length/\0<80/\((A k).2.1.length+1)*80<=140737488355328)/\·) ⟨dc,dc,dc,dc,dc,⟨rfl,gl,dc,gl⟩,run_v (v':=.osl 36 5 0 (((A k).2.1++[x]).length)) (push_len _ _ _ _) (run_h (cs':=fl trc ((A k).2.1++[x])) (push_trc ((A k).2.1) x) ?_)⟩)⟩
 refine Fn3 [1,3,4,6,8,9,11,12] [] (Hw [(12,(tr5 t (.osl 28 1 0 (((A k).1++[p.getD 0 default]).length)) (.osl 36 5 0 (((A k).2.1++[x]).length))))] [] ·) 40 (((1:Nat)≠0)/\(true=true/\1=1/\4+1<=5)/\·) ⟨dc,dc,Rb (fun h=>Jn (hK52 h)) (Fn0 [1,3,4,6,8,9,11,12] [(10,.bool true)] (Sq fun K60 hK60=>?_))⟩
 refine Rm 74 (((t.names.getD k default)==(p.getD 0 default))&&(decide ((p.length:Int)=1))) [1,3,4,6,8,9,10,11,12] ?_ ?_
 refine Av1 3 67 [(66,pth p),(65,.str (t.names.getD k default))] (congrArg AV.pat (mg_str p 0 om)) ((1=1/\(0:Int)<=0/\0<((p.map (fun s=>[AV.str s])).length:Int))/\·) ⟨⟨rfl,om,lmo⟩,An1 3 [(70,.bool ((t.names.getD k default)==(p.getD 0 default))),(69,.bool ((t.names.getD k default)==(p.getD 0 default))),(68,.str (p.getD 0 default))] ((1<=1/\0<1)/\·) ⟨dc,Rg (fun hg62 g62=>?_) (fun hg62 g62=>?_)⟩⟩
 refine Av0 2 72 [(71,pth p)] (lnm p sc) (Mn1 (decide ((p.length:Int)=1)) (Ki/\·) ⟨rfl,(by rw[hg62];rfl)⟩)
 refine Mn0 false (by rw[hg62];rfl)
 refine Cc (((t.names.getD k default)==(p.getD 0 default))&&(decide ((p.length:Int)=1))) (fun hc63 c63=>?_) fun hc63 c63=>?_
 refine Xt (Jx (Bh (Jn (hK50 (Kp [1,3,4,6,8,9,10,11] (Rn (Av1 2 27 [(26,.i k)] (cI (wn1 k om)) (Ki/\·) ⟨rfl,Gn0 [(11,.i ((k+1:Nat):Int))] (nk_n ?_)⟩)))))))
 have e:=hAs k om;simp only[sstp,hc49,hc57,hc63,Bool.true_and,Bool.false_and,cond_true,cond_false]at e
 refine Lr (k+1,some ()) [(0,0),(4,4),(8,8),(12,12),(28,16),(36,20)] 24 [(1,pth p),(3,.bool gn),(4,.ptr 0 0),(6,.ptr 4 0),(8,.ptr 8 0),(9,.ptr 12 0),(10,.bool true),(11,.i ((k+1:Nat):Int))] [(36,fl trc ((A k).2.1++[x])),(28,fl sc ((A k).1++[p.getD 0 default])),(12,(tr5 t (.osl 28 1 0 (((A k).1++[p.getD 0 default]).length)) (.osl 36 5 0 (((A k).2.1++[x]).length)))),(8,zt),(4,tcs x),(0,tcs t)] [false,false,true,true,true,true] ?_ ?_ (by(try ((try dsimp only);rw[e]));try kernel_rfl) (by(try ((try dsimp only);rw[e]));try kernel_rfl)
 (try dsimp only);omega
 refine⟨?_,rfl⟩;(try dsimp only);first|omega|exact⟨om,by rw[e]⟩
 refine Sk (Jn (hK60 (Kp [1,3,4,6,8,9,10,11,12] (Rr (Av1 4 78 [(77,.i k),(76,.sl 5 (t.kids.map trc)),(75,.ptr 0 4)] (congrArg AV.pat (mg_trc t.kids k om)) (((1:Nat)≠0)/\(4+1<=5/\4<5)/\(5=5/\(0:Int)<=(k:Int)/\(k:Int)<((t.kids.map trc).length:Int))/\·) ⟨dc,dc,⟨rfl,om,lmo⟩,Fn3 [1,3,4,6,8,9,10,11,12] [(13,.ptr 40 0)] ([(40,tcs (t.kids.getD k default))]++·) 44 ((5<=5/\0<5)/\(true=true/\5=5/\0+5<=5)/\·) ⟨dc,dc,Sj (fun(z:Tr)=>match z with|kk=>([(1,pth p),(3,.bool gn),(4,.ptr 0 0),(6,.ptr 4 0),(8,.ptr 8 0),(9,.ptr 12 0),(10,.bool true),(11,.i k),(12,.str (t.names.getD k default)),(13,.ptr 40 0)]:Fr)) (fun(z:Tr)=>match z with|kk=>([(40,tcs kk),(36,fl trc ((A k).2.1++[x])),(32,tcs x),(28,fl sc ((A k).1++[p.getD 0 default])),(24,[.str (p.getD 0 default)]),(12,(tr5 t (.osl 28 1 0 (((A k).1++[p.getD 0 default]).length)) (.osl 36 5 0 (((A k).2.1++[x]).length)))),(8,zt),(4,tcs x),(0,tcs t)]:Hp)) (fun(z:Tr)=>match z with|kk=>A (k+1)=((A k).1++[p.getD 0 default]++[t.names.getD k default],(A k).2.1++[x]++[kk],true)) 44 ?_ fun J65 K66 hK66=>?_⟩⟩)))))
 rintro kk hi
 dsimp only at hi⊢
 have hj:=hi
 refine Rr (An3 5 [(95,.osl 48 1 0 (((A k).1++[p.getD 0 default]).length+1)),(94,.osl 44 1 0 1),(93,.str (t.names.getD k default)),(92,.osl 28 1 0 (((A k).1++[p.getD 0 default]).length)),(91,.ptr 12 3)] ([(48,apd (fl sc ((A k).1++[p.getD 0 default])) (((A k).1++[p.getD 0 default]).length*1) [.str (t.names.getD k default)]),(44,[.str (t.names.getD k default)])]++Hw [] [28] ·) 52 (((1:Nat)≠0)/\(3+1<=5/\3<5)/\(1*1<=16777216)/\(0+1*1<=1)/\(1=1/\((A k).1++[p.getD 0 default]).length*1<=(fl sc ((A k).1++[p.getD 0 default])).length/\0<16/\(((A k).1++[p.getD 0 default]).length+1)*16<=140737488355328)/\·) ⟨dc,dc,dc,dc,⟨rfl,gl,dc,gl⟩,run_v (v':=.osl 48 1 0 (((A k).1++[p.getD 0 default]++[t.names.getD k default]).length)) (push_len _ _ _ _) (run_h (cs':=fl sc ((A k).1++[p.getD 0 default]++[t.names.getD k default])) (push_str ((A k).1++[p.getD 0 default]) (t.names.getD k default)) (Fn3 [1,3,4,6,8,9,10,11,13] [] (Hw [(12,(tr5 t (.osl 48 1 0 (((A k).1++[p.getD 0 default]++[t.names.getD k default]).length)) (.osl 36 5 0 (((A k).2.1++[x]).length))))] [] ·) 52 (((1:Nat)≠0)/\(true=true/\1=1/\3+1<=5)/\·) ⟨dc,dc,?_⟩))⟩)
 refine Rb (fun h=>Bn (Jn (hK50 h))) (An3 5 [(101,.osl 56 5 0 (((A k).2.1++[x]).length+1)),(100,.osl 52 5 0 1),(99,.agg (tcs kk)),(98,.osl 36 5 0 (((A k).2.1++[x]).length)),(97,.ptr 12 4)] ([(56,apd (fl trc ((A k).2.1++[x])) (((A k).2.1++[x]).length*5) (tcs kk)),(52,tcs kk)]++Hw [] [36] ·) 60 (((1:Nat)≠0)/\(4+1<=5/\4<5)/\(0+5<=5/\0<5)/\(1*5<=16777216)/\(0+1*5<=5)/\(5=5/\((A k).2.1++[x]).length*5<=(fl trc ((A k).2.1++[x])).length/\0<80/\(((A k).2.1++[x]).length+1)*80<=140737488355328)/\·) ⟨dc,dc,dc,dc,dc,⟨rfl,gl,dc,gl⟩,run_v (v':=.osl 56 5 0 (((A k).2.1++[x]++[kk]).length)) (push_len _ _ _ _) (run_h (cs':=fl trc ((A k).2.1++[x]++[kk])) (push_trc ((A k).2.1++[x]) kk) (Fn3 [1,3,4,6,8,9,10,11] [] (Hw [(12,(tr5 t (.osl 48 1 0 (((A k).1++[p.getD 0 default]++[t.names.getD k default]).length)) (.osl 56 5 0 (((A k).2.1++[x]++[kk]).length))))] [] ·) 60 (((1:Nat)≠0)/\(true=true/\1=1/\4+1<=5)/\·) ⟨dc,dc,?_⟩))⟩)
 refine Rn (Av1 2 27 [(26,.i k)] (cI (wn1 k om)) (Ki/\·) ⟨rfl,Gn0 [(11,.i ((k+1:Nat):Int))] (nk_n ?_)⟩)
 have e:=hj
 refine Lr (k+1,some ()) [(0,0),(4,4),(8,8),(12,12),(48,16),(56,20)] 24 [(1,pth p),(3,.bool gn),(4,.ptr 0 0),(6,.ptr 4 0),(8,.ptr 8 0),(9,.ptr 12 0),(10,.bool true),(11,.i ((k+1:Nat):Int))] [(56,fl trc ((A k).2.1++[x]++[kk])),(48,fl sc ((A k).1++[p.getD 0 default]++[t.names.getD k default])),(12,(tr5 t (.osl 48 1 0 (((A k).1++[p.getD 0 default]++[t.names.getD k default]).length)) (.osl 56 5 0 (((A k).2.1++[x]++[kk]).length)))),(8,zt),(4,tcs x),(0,tcs t)] [false,false,true,true,true,true] ?_ ?_ (by(try ((try dsimp only);rw[e]));try kernel_rfl) (by(try ((try dsimp only);rw[e]));try kernel_rfl)
 (try dsimp only);omega
 refine⟨?_,rfl⟩;(try dsimp only);first|omega|exact⟨om,by rw[e]⟩
 refine Rr (Av1 3 82 [(81,pth p),(80,.str (t.names.getD k default))] (congrArg AV.pat (mg_str p 0 om)) ((1=1/\(0:Int)<=0/\0<((p.map (fun s=>[AV.str s])).length:Int))/\·) ⟨⟨rfl,om,lmo⟩,Cn1 ((t.names.getD k default)==(p.getD 0 default)) [1,3,4,6,8,9,10,11,12,13] [] ((1<=1/\0<1)/\·) ⟨dc,fun hc69 c69=>?_,fun hc69 c69=>?_⟩⟩)
 exfalso;rw[hc69,Bool.true_and]at hc63;simp only[decide_eq_false_iff_not]at hc63;omega
 refine Sk (Jn (hK66 (Kp [1,3,4,6,8,9,10,11,12,13] (Tr2 J65 (t.kids.getD k default) [(0,0),(4,4),(8,8),(12,12),(24,24),(28,28),(32,32),(36,36),(40,40)] [(1,pth p),(3,.bool gn),(4,.ptr 0 0),(6,.ptr 4 0),(8,.ptr 8 0),(9,.ptr 12 0),(10,.bool true),(11,.i k),(12,.str (t.names.getD k default)),(13,.ptr 40 0)] [(40,tcs (t.kids.getD k default)),(36,fl trc ((A k).2.1++[x])),(32,tcs x),(28,fl sc ((A k).1++[p.getD 0 default])),(24,[.str (p.getD 0 default)]),(12,(tr5 t (.osl 28 1 0 (((A k).1++[p.getD 0 default]).length)) (.osl 36 5 0 (((A k).2.1++[x]).length)))),(8,zt),(4,tcs x),(0,tcs t)] [true,false,true,false,true,true,true,true,true] ?_ kr kr))))
 (try dsimp only)
 have e:=hAs k om;simp only[sstp,hc49,hc57,hc63,hc69,Bool.true_and,Bool.false_and,cond_true,cond_false]at e
 exact e
 refine Sk (Jn (hK52 (Kp [1,3,4,6,8,9,10,11,12] (Sq fun K70 hK70=>?_))))
 refine Rm 74 (((t.names.getD k default)==(p.getD 0 default))&&(decide ((p.length:Int)=1))) [1,3,4,6,8,9,10,11,12] ?_ ?_
 refine Av1 3 67 [(66,pth p),(65,.str (t.names.getD k default))] (congrArg AV.pat (mg_str p 0 om)) ((1=1/\(0:Int)<=0/\0<((p.map (fun s=>[AV.str s])).length:Int))/\·) ⟨⟨rfl,om,lmo⟩,An1 3 [(70,.bool ((t.names.getD k default)==(p.getD 0 default))),(69,.bool ((t.names.getD k default)==(p.getD 0 default))),(68,.str (p.getD 0 default))] ((1<=1/\0<1)/\·) ⟨dc,Rg (fun hg72 g72=>?_) (fun hg72 g72=>?_)⟩⟩
 refine Av0 2 72 [(71,pth p)] (lnm p sc) (Mn1 (decide ((p.length:Int)=1)) (Ki/\·) ⟨rfl,(by rw[hg72];rfl)⟩)
 refine Mn0 false (by rw[hg72];rfl)
 refine Cc (((t.names.getD k default)==(p.getD 0 default))&&(decide ((p.length:Int)=1))) (fun hc73 c73=>?_) fun hc73 c73=>?_
 refine Xt (Jx (Bh (Jn (hK50 (Kp [1,3,4,6,8,9,10,11] (Rn (Av1 2 27 [(26,.i k)] (cI (wn1 k om)) (Ki/\·) ⟨rfl,Gn0 [(11,.i ((k+1:Nat):Int))] (nk_n ?_)⟩)))))))
 have e:=hAs k om;simp only[sstp,hc49,hc57,hc73,Bool.true_and,Bool.false_and,cond_true,cond_false]at e
 refine Lr (k+1,some ()) [(0,0),(4,4),(8,8),(12,12),(16,16),(20,20)] 24 [(1,pth p),(3,.bool gn),(4,.ptr 0 0),(6,.ptr 4 0),(8,.ptr 8 0),(9,.ptr 12 0),(10,.bool ((A k).2.2)),(11,.i ((k+1:Nat):Int))] [(20,fl trc ((A k).2.1)),(16,fl sc ((A k).1)),(12,(tr5 t (.osl 16 1 0 ((A k).1.length)) (.osl 20 5 0 ((A k).2.1.length)))),(8,zt),(4,tcs x),(0,tcs t)] [false,false,true,true,true,true] ?_ ?_ (by(try ((try dsimp only);rw[e]));try kernel_rfl) (by(try ((try dsimp only);rw[e]));try kernel_rfl)
 (try dsimp only);omega
 refine⟨?_,rfl⟩;(try dsimp only);first|omega|exact⟨om,by rw[e]⟩
 refine Sk (Jn (hK70 (Kp [1,3,4,6,8,9,10,11,12] (Rr (Av1 4 78 [(77,.i k),(76,.sl 5 (t.kids.map trc)),(75,.ptr 0 4)] (congrArg AV.pat (mg_trc t.kids k om)) (((1:Nat)≠0)/\(4+1<=5/\4<5)/\(5=5/\(0:Int)<=(k:Int)/\(k:Int)<((t.kids.map trc).length:Int))/\·) ⟨dc,dc,⟨rfl,om,lmo⟩,Fn3 [1,3,4,6,8,9,10,11,12] [(13,.ptr 24 0)] ([(24,tcs (t.kids.getD k default))]++·) 28 ((5<=5/\0<5)/\(true=true/\5=5/\0+5<=5)/\·) ⟨dc,dc,Sj (fun(z:Tr)=>match z with|kk=>([(1,pth p),(3,.bool gn),(4,.ptr 0 0),(6,.ptr 4 0),(8,.ptr 8 0),(9,.ptr 12 0),(10,.bool ((A k).2.2)),(11,.i k),(12,.str (t.names.getD k default)),(13,.ptr 24 0)]:Fr)) (fun(z:Tr)=>match z with|kk=>([(24,tcs kk),(20,fl trc ((A k).2.1)),(16,fl sc ((A k).1)),(12,(tr5 t (.osl 16 1 0 ((A k).1.length)) (.osl 20 5 0 ((A k).2.1.length)))),(8,zt),(4,tcs x),(0,tcs t)]:Hp)) (fun(z:Tr)=>match z with|kk=>A (k+1)=((A k).1++[t.names.getD k default],(A k).2.1++[kk],(A k).2.2)) 28 ?_ fun J75 K76 hK76=>?_⟩⟩)))))
 rintro kk hi
 dsimp only at hi⊢
 have hj:=hi
 refine Rr (An3 5 [(95,.osl 32 1 0 ((A k).1.length+1)),(94,.osl 28 1 0 1),(93,.str (t.names.getD k default)),(92,.osl 16 1 0 ((A k).1.length)),(91,.ptr 12 3)] ([(32,apd (fl sc ((A k).1)) ((A k).1.length*1) [.str (t.names.getD k default)]),(28,[.str (t.names.getD k default)])]++Hw [] [16] ·) 36 (((1:Nat)≠0)/\(3+1<=5/\3<5)/\(1*1<=16777216)/\(0+1*1<=1)/\(1=1/\(A k).1.length*1<=(fl sc ((A k).1)).length/\0<16/\((A k).1.length+1)*16<=140737488355328)/\·) ⟨dc,dc,dc,dc,⟨rfl,gl,dc,gl⟩,run_v (v':=.osl 32 1 0 (((A k).1++[t.names.getD k default]).length)) (push_len _ _ _ _) (run_h (cs':=fl sc ((A k).1++[t.names.getD k default])) (push_str ((A k).1) (t.names.getD k default)) (Fn3 [1,3,4,6,8,9,10,11,13] [] (Hw [(12,(tr5 t (.osl 32 1 0 (((A k).1++[t.names.getD k default]).length)) (.osl 20 5 0 ((A k).2.1.length))))] [] ·) 36 (((1:Nat)≠0)/\(true=true/\1=1/\3+1<=5)/\·) ⟨dc,dc,?_⟩))⟩)
 refine Rb (fun h=>Bn (Jn (hK50 h))) (An3 5 [(101,.osl 40 5 0 ((A k).2.1.length+1)),(100,.osl 36 5 0 1),(99,.agg (tcs kk)),(98,.osl 20 5 0 ((A k).2.1.length)),(97,.ptr 12 4)] ([(40,apd (fl trc ((A k).2.1)) ((A k).2.1.length*5) (tcs kk)),(36,tcs kk)]++Hw [] [20] ·) 44 (((1:Nat)≠0)/\(4+1<=5/\4<5)/\(0+5<=5/\0<5)/\(1*5<=16777216)/\(0+1*5<=5)/\(5=5/\(A k).2.1.length*5<=(fl trc ((A k).2.1)).length/\0<80/\((A k).2.1.length+1)*80<=140737488355328)/\·) ⟨dc,dc,dc,dc,dc,⟨rfl,gl,dc,gl⟩,run_v (v':=.osl 40 5 0 (((A k).2.1++[kk]).length)) (push_len _ _ _ _) (run_h (cs':=fl trc ((A k).2.1++[kk])) (push_trc ((A k).2.1) kk) (Fn3 [1,3,4,6,8,9,10,11] [] (Hw [(12,(tr5 t (.osl 32 1 0 (((A k).1++[t.names.getD k default]).length)) (.osl 40 5 0 (((A k).2.1++[kk]).length))))] [] ·) 44 (((1:Nat)≠0)/\(true=true/\1=1/\4+1<=5)/\·) ⟨dc,dc,?_⟩))⟩)
 refine Rn (Av1 2 27 [(26,.i k)] (cI (wn1 k om)) (Ki/\·) ⟨rfl,Gn0 [(11,.i ((k+1:Nat):Int))] (nk_n ?_)⟩)
 have e:=hj
 refine Lr (k+1,some ()) [(0,0),(4,4),(8,8),(12,12),(32,16),(40,20)] 24 [(1,pth p),(3,.bool gn),(4,.ptr 0 0),(6,.ptr 4 0),(8,.ptr 8 0),(9,.ptr 12 0),(10,.bool ((A k).2.2)),(11,.i ((k+1:Nat):Int))] [(40,fl trc ((A k).2.1++[kk])),(32,fl sc ((A k).1++[t.names.getD k default])),(12,(tr5 t (.osl 32 1 0 (((A k).1++[t.names.getD k default]).length)) (.osl 40 5 0 (((A k).2.1++[kk]).length)))),(8,zt),(4,tcs x),(0,tcs t)] [false,false,true,true,true,true] ?_ ?_ (by(try ((try dsimp only);rw[e]));try kernel_rfl) (by(try ((try dsimp only);rw[e]));try kernel_rfl)
 (try dsimp only);omega
 refine⟨?_,rfl⟩;(try dsimp only);first|omega|exact⟨om,by rw[e]⟩
 refine Rr (Av1 3 82 [(81,pth p),(80,.str (t.names.getD k default))] (congrArg AV.pat (mg_str p 0 om)) ((1=1/\(0:Int)<=0/\0<((p.map (fun s=>[AV.str s])).length:Int))/\·) ⟨⟨rfl,om,lmo⟩,Cn1 ((t.names.getD k default)==(p.getD 0 default)) [1,3,4,6,8,9,10,11,12,13] [] ((1<=1/\0<1)/\·) ⟨dc,fun hc79 c79=>?_,fun hc79 c79=>?_⟩⟩)
 refine Qb [0,0,2,0,0,31,63] [(0,[]),(1,[]),(2,[]),(3,[]),(4,[]),(5,[]),(6,[])] (fun h=>Jn (hK76 h)) (qAv1 (r:=.sl 1 (((p.map (fun s=>[AV.str s])).take ((p.map (fun s=>[AV.str s])).length)).drop 1)) (v:=pth (p.drop 1)) 3 87 [(86,pth p),(85,.agg (tcs (t.kids.getD k default)))] (congrArg (AV.sl 1) (slm_all _ _ _)) ((0+5<=5/\0<5)/\(1=1/\0<=(1:Int)/\(1:Int)<=((p.map (fun s=>[AV.str s])).length:Int)/\((p.map (fun s=>[AV.str s])).length:Int)<=((p.map (fun s=>[AV.str s])).length:Int))/\·) ⟨dc,⟨rfl,om,lmo,om⟩,qBc1 3 [(89,.bool gn),(88,.agg (tcs x))] [] 102 [.agg (tcs (t.kids.getD k default)),pth (p.drop 1),.agg (tcs x),.bool gn] 90 ((0+5<=5/\0<5)/\·) ⟨dc,?_⟩⟩)
 have hW:=Ws_get t.kids k om
 have hp2:1<p.length:=by
   rcases Nat.lt_or_ge 1 p.length with h|h
   · exact h
   · exfalso;have h1:p.length=1:=by omega
     rw[hc79,h1]at hc73;simp at hc73
 have hdd:decide ((p.length:Int)=(1:Int))=false:=by rw[decide_eq_false_iff_not];omega
 refine PE.use (ih _ (by simp only[List.length_drop];omega) (p.drop 1) (t.kids.getD k default) x gn rfl om (wf_kid hwf om _) (by simp only[List.length_drop];omega) (by simp only[List.length_drop];omega)) ?_
 refine Kq (p:=(True)) trivial ?_
 refine qFn3 [1,3,4,6,8,9,10,11,12,13] [] (Hw [(24,tcs (tset (p.drop 1) (t.kids.getD k default) x gn))] [] ·) 28 ((true=true/\5=5/\0+5<=5)/\(True)/\·) ⟨dc,trivial,Tr2 J75 (tset (p.drop 1) (t.kids.getD k default) x gn) [(0,0),(4,4),(8,8),(12,12),(16,16),(20,20),(24,24)] [(1,pth p),(3,.bool gn),(4,.ptr 0 0),(6,.ptr 4 0),(8,.ptr 8 0),(9,.ptr 12 0),(10,.bool ((A k).2.2)),(11,.i k),(12,.str (t.names.getD k default)),(13,.ptr 24 0)] [(24,tcs (tset (p.drop 1) (t.kids.getD k default) x gn)),(20,fl trc ((A k).2.1)),(16,fl sc ((A k).1)),(12,(tr5 t (.osl 16 1 0 ((A k).1.length)) (.osl 20 5 0 ((A k).2.1.length)))),(8,zt),(4,tcs x),(0,tcs t)] [true,false,false,true,true,true,true] ?_ kr kr⟩
 (try dsimp only)
 have e:=hAs k om;simp only[sstp,hc49,hc57,hc73,hc79,hdd,Bool.true_and,Bool.false_and,cond_true,cond_false]at e
 exact e
 refine Sk (Jn (hK76 (Kp [1,3,4,6,8,9,10,11,12,13] (Tr2 J75 (t.kids.getD k default) [(0,0),(4,4),(8,8),(12,12),(16,16),(20,20),(24,24)] [(1,pth p),(3,.bool gn),(4,.ptr 0 0),(6,.ptr 4 0),(8,.ptr 8 0),(9,.ptr 12 0),(10,.bool ((A k).2.2)),(11,.i k),(12,.str (t.names.getD k default)),(13,.ptr 24 0)] [(24,tcs (t.kids.getD k default)),(20,fl trc ((A k).2.1)),(16,fl sc ((A k).1)),(12,(tr5 t (.osl 16 1 0 ((A k).1.length)) (.osl 20 5 0 ((A k).2.1.length)))),(8,zt),(4,tcs x),(0,tcs t)] [true,false,false,true,true,true,true] ?_ kr kr))))
 (try dsimp only)
 have e:=hAs k om;simp only[sstp,hc49,hc57,hc73,hc79,Bool.true_and,Bool.false_and,cond_true,cond_false]at e
 exact e
 refine Xt (Jx (Lx (Bh (Jn (hK4 (Kp [1,3,6,8,9,10] (Sq fun K80 hK80=>?_)))))))
 refine Rm 113 ((decide ((p.length:Int)=1))&&((!((A k).2.2))&&(!gn))) [1,6,8,9] ?_ ?_
 refine Av0 2 104 [(103,pth p)] (lnm p sc) (An1 2 [(106,.bool (decide ((p.length:Int)=1))),(105,.bool (decide ((p.length:Int)=1)))] (Ki/\·) ⟨rfl,Rg (fun hg82 g82=>?_) (fun hg82 g82=>?_)⟩)
 refine An0 4 [(110,.bool (!((A k).2.2))),(109,.bool (!((A k).2.2))),(108,.bool (!((A k).2.2))),(107,.bool ((A k).2.2))] (Rg (fun hg83 g83=>?_) (fun hg83 g83=>?_))
 refine Mn0 (!gn) (by rw[hg82,hg83];rfl)
 refine Mn0 false (by rw[hg82,hg83];rfl)
 refine Mn0 false (by rw[hg82];rfl)
 refine Cc ((decide ((p.length:Int)=1))&&((!((A k).2.2))&&(!gn))) (fun hc84 c84=>?_) fun hc84 c84=>?_
 refine Qr [0,1,0,4,12,28,63,127,255] [(0,[]),(1,[]),(2,[]),(3,[]),(4,[]),(5,[1]),(6,[]),(7,[]),(8,[])] (qAv1 4 117 [(116,pth p),(115,.osl 16 1 0 ((A k).1.length)),(114,.ptr 12 3)] (congrArg AV.pat (mg_str p 0 om)) (((1:Nat)≠0)/\(3+1<=5/\3<5)/\(1=1/\(0:Int)<=0/\0<((p.map (fun s=>[AV.str s])).length:Int))/\·) ⟨dc,dc,⟨rfl,om,lmo⟩,qAn3 3 [(120,.osl 28 1 0 ((A k).1.length+1)),(119,.osl 24 1 0 1),(118,.str (p.getD 0 default))] ([(28,apd (fl sc ((A k).1)) ((A k).1.length*1) [.str (p.getD 0 default)]),(24,[.str (p.getD 0 default)])]++Hw [] [16] ·) 32 (fun Z=>(1<=1/\0<1)/\(1*1<=16777216)/\(((3+1<=5/\3<5)/\(AV.osl 16 1 0 ((A k).1.length)=(.osl 16 1 0 ((A k).1.length):AV)))/\True)/\(0+1*1<=1)/\(1=1/\(A k).1.length*1<=(fl sc ((A k).1)).length/\0<16/\((A k).1.length+1)*16<=140737488355328)/\(True)/\Z) ⟨dc,dc,⟨⟨dc,rfl⟩,trivial⟩,dc,⟨rfl,gl,dc,gl⟩,trivial,runq_v (v':=.osl 28 1 0 (((A k).1++[p.getD 0 default]).length)) (push_len _ _ _ _) (runq_h (cs':=fl sc ((A k).1++[p.getD 0 default])) (push_str ((A k).1) (p.getD 0 default)) ?_)⟩⟩)
 refine qFn3 [6,8,9] [] (Hw [(12,(tr5 t (.osl 28 1 0 (((A k).1++[p.getD 0 default]).length)) (.osl 20 5 0 ((A k).2.1.length))))] [] ·) 32 (((1:Nat)≠0)/\(true=true/\1=1/\3+1<=5)/\(True)/\·) ⟨dc,dc,trivial,Rb (fun h=>Jn (hK80 h)) (An3 5 [(126,.osl 36 5 0 ((A k).2.1.length+1)),(125,.osl 32 5 0 1),(124,.agg (tcs x)),(123,.osl 20 5 0 ((A k).2.1.length)),(122,.ptr 12 4)] ([(36,apd (fl trc ((A k).2.1)) ((A k).2.1.length*5) (tcs x)),(32,tcs x)]++Hw [] [20] ·) 40 (((1:Nat)≠0)/\(4+1<=5/\4<5)/\(0+5<=5/\0<5)/\(1*5<=16777216)/\(0+1*5<=5)/\(5=5/\(A k).2.1.length*5<=(fl trc ((A k).2.1)).length/\0<80/\((A k).2.1.length+1)*80<=140737488355328)/\·) ⟨dc,dc,dc,dc,dc,⟨rfl,gl,dc,gl⟩,run_v (v':=.osl 36 5 0 (((A k).2.1++[x]).length)) (push_len _ _ _ _) (run_h (cs':=fl trc ((A k).2.1++[x])) (push_trc ((A k).2.1) x) ?_)⟩)⟩
 refine Fn3 [8,9] [] (Hw [(12,(tr5 t (.osl 28 1 0 (((A k).1++[p.getD 0 default]).length)) (.osl 36 5 0 (((A k).2.1++[x]).length))))] [] ·) 40 (((1:Nat)≠0)/\(true=true/\1=1/\4+1<=5)/\·) ⟨dc,dc,Rr (Fn3 [8] [] (Hw [(8,(tr5 t (.osl 28 1 0 (((A k).1++[p.getD 0 default]).length)) (.osl 36 5 0 (((A k).2.1++[x]).length))))] [] ·) 40 ((0+5<=5/\0<5)/\(true=true/\5=5/\0+5<=5)/\·) ⟨dc,dc,FzT 36 ((A k).2.1++[x]) [(8,.ptr 8 0)] [(28,fl sc ((A k).1++[p.getD 0 default])),(8,(tr5 t (.osl 28 1 0 (((A k).1++[p.getD 0 default]).length)) (.osl 36 5 0 (((A k).2.1++[x]).length))))] [false,true] (FzS 28 ((A k).1++[p.getD 0 default]) [(8,.ptr 8 0)] [(8,(tr5 t (.osl 28 1 0 (((A k).1++[p.getD 0 default]).length)) (.sl 5 (((A k).2.1++[x]).map trc))))] [true] ?_)⟩)⟩
 refine Rt1 ((0+5<=5/\0<5)/\·) (.agg (tr5 t (pth ((A k).1++[p.getD 0 default])) (.sl 5 (((A k).2.1++[x]).map trc)))) ⟨dc,fin_lea ?_⟩
 obtain rfl:k=t.names.length:=by omega
 simp only[sE,hc49,hc84,Bool.true_and,Bool.false_and,cond_true,cond_false]at hAe
 rw[hAe]
 first
   |exact lea_refl _
   |(simp only[tcs,Tr.dir_mk,Tr.mode_mk,Tr.data_mk,Tr.names_mk,Tr.kids_mk,hn1,hn2,List.nil_append];first|exact lea_refl _|(simp[lea,leas,pth]))
 refine Sk (Jn (hK80 (Kp [8,9] (Rr (Fn3 [8] [] (Hw [(8,(tr5 t (.osl 16 1 0 ((A k).1.length)) (.osl 20 5 0 ((A k).2.1.length))))] [] ·) 24 ((0+5<=5/\0<5)/\(true=true/\5=5/\0+5<=5)/\·) ⟨dc,dc,FzT 20 ((A k).2.1) [(8,.ptr 8 0)] [(16,fl sc ((A k).1)),(8,(tr5 t (.osl 16 1 0 ((A k).1.length)) (.osl 20 5 0 ((A k).2.1.length))))] [false,true] (FzS 16 ((A k).1) [(8,.ptr 8 0)] [(8,(tr5 t (.osl 16 1 0 ((A k).1.length)) (.sl 5 (((A k).2.1).map trc))))] [true] ?_)⟩)))))
 refine Rt1 ((0+5<=5/\0<5)/\·) (.agg (tr5 t (pth ((A k).1)) (.sl 5 (((A k).2.1).map trc)))) ⟨dc,fin_lea ?_⟩
 obtain rfl:k=t.names.length:=by omega
 simp only[sE,hc49,hc84,Bool.true_and,Bool.false_and,cond_true,cond_false]at hAe
 rw[hAe]
 first
   |exact lea_refl _
   |(simp only[tcs,Tr.dir_mk,Tr.mode_mk,Tr.data_mk,Tr.names_mk,Tr.kids_mk,hn1,hn2,List.nil_append];first|exact lea_refl _|(simp[lea,leas,pth]))
open Go Go.Proofs
set_option maxRecDepth 100000
theorem l2Write_ok (s:Str) (a:Nat) (d:Str) (hs:s.length<2^40) (ha:a<2^40) (hd:d.length<2^40):PE G 112 [.str s,.i a,.str d] (.str (l2w s a d)):=by
 refine Pe Tryz.func112 ?_
 refine Rr (Fn0 [0,1,2] [] (Rr (Fn2 [1,2] [(7,.osl 2 1 0 s.length)] ([(2,ints s)]++·) 4 (Sq fun K3 hK3=>?_))))
 refine Bl (h_l (fun(j:Nat)=>([(1,.i a),(2,.str d),(7,.osl 2 1 0 ((s++List.replicate j 0).length))]:Fr)) (fun(j:Nat)=>([(2,ints (s++List.replicate j 0))]:Hp)) (fun(j:Nat) cn=>(s.length+j<=max s.length (a+d.length))/\cn=4) (fun(j:Nat)=>a+d.length-(s.length+j)) 0 kr ?_ ?_ ?_ ?_)
 refine⟨?_,rfl⟩;omega
 exact⟨kr,kr,(by show AV.osl 2 1 0 s.length=AV.osl 2 1 0 (s++List.replicate 0 0).length;simp),trivial⟩
 exact(sub_c (by simp) (List.nil_sublist _))
 rintro j n1 hI
 (try dsimp only at hI)
 obtain⟨hj,rfl⟩:=hI
 have he:(s++List.replicate j 0).length=s.length+j:=by simp
 refine Sq fun K4 hK4=>?_
 refine Rr (Av1 6 16 [(15,.i d.length),(14,.str d),(13,.i a),(12,.i ((s++List.replicate j 0).length:Int)),(11,.osl 2 1 0 ((s++List.replicate j 0).length))] (cI (wnn a d.length om)) (Ki/\·) ⟨rfl,Cn1 (decide (((s++List.replicate j 0).length:Int)<((a+d.length:Nat):Int))) [1,2,7] [] (Ki/\·) ⟨rfl,fun hc6 c6=>?_,fun hc6 c6=>?_⟩⟩)
 refine Sk (Jn (hK4 (Kp [1,2,7] (Bl (Rn (An3 3 [(20,.osl 10 1 0 ((s++List.replicate j 0).length+1)),(19,.osl 4 1 0 1),(18,.osl 2 1 0 ((s++List.replicate j 0).length))] (fun _=>[(10,apd (ints (s++List.replicate j 0)) ((s++List.replicate j 0).length*1) [.int .u8 0]),(4,[.int .u8 0])]) 12 ((1*1<=16777216)/\(0+1*1<=1)/\(1=1/\(s++List.replicate j 0).length*1<=(ints (s++List.replicate j 0)).length/\0<1/\((s++List.replicate j 0).length+1)*1<=140737488355328)/\·) ⟨dc,dc,⟨rfl,gl,dc,gl⟩,run_v (v':=.osl 10 1 0 ((s++List.replicate j 0++[(0:UInt8)]).length)) (push_len _ _ _ _) ?_⟩))))))
 refine run_h (cs':=ints (s++List.replicate j 0++[(0:UInt8)])) (push_u8 (s++List.replicate j 0) (0:UInt8)) ?_
 refine Gn0 [(7,.osl 10 1 0 ((s++List.replicate j 0++[(0:UInt8)]).length))] (nk_n (Bn (Lr (j+1) [(10,2)] 4 [(1,.i a),(2,.str d),(7,.osl 10 1 0 ((s++List.replicate j 0++[(0:UInt8)]).length))] [(10,ints (s++List.replicate j 0++[(0:UInt8)]))] [false] ?_ ?_ (by(try rw[List.append_assoc,<-List.replicate_succ']);try kernel_rfl) (by(try rw[List.append_assoc,<-List.replicate_succ']);try kernel_rfl))))
 (try dsimp only);omega
 refine⟨?_,rfl⟩;(try dsimp only);omega
 refine Xt (Jx (Lx (Bh (Jn (hK3 (Kp [1,2,7] (Sq fun K7 hK7=>?_)))))))
 have hol:a+d.length<=(s++List.replicate j 0).length:=by omega
 refine Rr (Fn0 [1,2,7] [(8,.i 0)] (Bl (h_l (fun(i:Nat)=>([(1,.i a),(2,.str d),(7,.osl 2 1 0 ((s++List.replicate j 0).length)),(8,.i i)]:Fr)) (fun(i:Nat)=>([(2,ints ((s++List.replicate j 0).take a++d.take i++(s++List.replicate j 0).drop (a+i)))]:Hp)) (fun(i:Nat) cn=>(i<=d.length/\((s++List.replicate j 0).take a++d.take i++(s++List.replicate j 0).drop (a+i)).length=(s++List.replicate j 0).length)/\cn=4) (fun(i:Nat)=>d.length-i) 0 kr ?_ ?_ ?_ ?_)))
 refine⟨?_,rfl⟩;exact⟨Nat.zero_le _,by simp⟩
 exact⟨kr,kr,kr,kr,trivial⟩
 exact(sub_c (by simp) (List.nil_sublist _))
 rintro i n1 hI
 (try dsimp only at hI)
 obtain⟨⟨hi,hil⟩,rfl⟩:=hI
 refine Sq fun K9 hK9=>?_
 refine Rr (Cn1 (decide ((i:Int)<(d.length:Int))) [1,2,7,8] [] (Ki/\·) ⟨rfl,fun hc11 c11=>?_,fun hc11 c11=>?_⟩)
 refine Sk (Jn (hK9 (Kp [1,2,7,8] (Sq fun K12 hK12=>?_))))
 refine Bl (Rb (fun h=>Bn (Jn (hK12 h))) (Av1 4 30 [(29,.i i),(28,.i a),(27,.osl 2 1 0 ((s++List.replicate j 0).length))] (cI (wnn a i om)) (Ki/\·) ⟨rfl,An3 5 [(34,.ptr 2 (0+(a+i)*1)),(33,.int .u8 ((d.getD i 0).toNat:Int)),(32,.i i),(31,.str d)] (fun _=>[(2,(ints ((s++List.replicate j 0).take a++d.take i++(s++List.replicate j 0).drop (a+i))).take (0+(a+i)*1)++[.int .u8 ((d.getD i 0).toNat:Int)]++(ints ((s++List.replicate j 0).take a++d.take i++(s++List.replicate j 0).drop (a+i))).drop (0+(a+i)*1+1))]) 4 (((0:Int)<=(i:Int)/\(i:Int)<(d.length:Int))/\(1=1/\(0:Int)<=((a+i:Nat):Int)/\((a+i:Nat):Int)<((s++List.replicate j 0).length:Int))/\(true=true/\1=1/\0+(a+i)*1+1<=(ints ((s++List.replicate j 0).take a++d.take i++(s++List.replicate j 0).drop (a+i))).length)/\·) ⟨⟨om,om⟩,⟨rfl,om,om⟩,⟨rfl,rfl,(by(try simp only[flTl,flSl,ints_len,List.length_set]);omega)⟩,run_H (H':=[(2,ints (((s++List.replicate j 0).take a++d.take i++(s++List.replicate j 0).drop (a+i)).set (a+i) (d.getD i 0)))]) (by rw[set_ints _ _ _ om]) ?_⟩⟩))
 refine Fn0 [1,2,7,8] [] (Rn (Av1 2 26 [(25,.i i)] (cI (wn1 i om)) (Ki/\·) ⟨rfl,Gn0 [(8,.i ((i+1:Nat):Int))] (nk_n ?_)⟩))
 refine Lr (i+1) [(2,2)] 4 [(1,.i a),(2,.str d),(7,.osl 2 1 0 ((s++List.replicate j 0).length)),(8,.i ((i+1:Nat):Int))] [(2,ints (((s++List.replicate j 0).take a++d.take i++(s++List.replicate j 0).drop (a+i)).set (a+i) (d.getD i 0)))] [false] ?_ ?_ (by(try rw[l2w_step om om]);try kernel_rfl) kr
 (try dsimp only);omega
 refine⟨?_,rfl⟩;(try dsimp only);exact⟨om,by rw[<-hil,<-l2w_step om om,List.length_set]⟩
 refine Xt (Jx (Lx (Bh (Jn (hK7 (Kp [7] (h_k [7] (F':=[(7,.osl 2 1 0 ((s++List.replicate j 0).length))]) kr (h_st (F':=[(7,.osl 2 1 0 (((s++List.replicate j 0).take a++d.take i++(s++List.replicate j 0).drop (a+i)).length))]) (H':=[(2,ints ((s++List.replicate j 0).take a++d.take i++(s++List.replicate j 0).drop (a+i)))]) (by rw[hil]) rfl (Rr (Av1 (r:=.str ((((ints ((s++List.replicate j 0).take a++d.take i++(s++List.replicate j 0).drop (a+i))).drop 0).take ((s++List.replicate j 0).take a++d.take i++(s++List.replicate j 0).drop (a+i)).length).map unu)) (v:=.str ((s++List.replicate j 0).take a++d.take i++(s++List.replicate j 0).drop (a+i))) 2 36 [(35,.osl 2 1 0 (((s++List.replicate j 0).take a++d.take i++(s++List.replicate j 0).drop (a+i)).length))] (congrArg AV.str (unu_ints _)) (fun Z=>(1=1/\0+((s++List.replicate j 0).take a++d.take i++(s++List.replicate j 0).drop (a+i)).length<=(ints ((s++List.replicate j 0).take a++d.take i++(s++List.replicate j 0).drop (a+i))).length/\allu (((ints ((s++List.replicate j 0).take a++d.take i++(s++List.replicate j 0).drop (a+i))).drop 0).take ((s++List.replicate j 0).take a++d.take i++(s++List.replicate j 0).drop (a+i)).length))/\Z) ⟨⟨rfl,by rw[ints_len];omega,allu_ints _⟩,?_⟩))))))))))
 refine Fn0 [] [(6,.str ((s++List.replicate j 0).take a++d.take i++(s++List.replicate j 0).drop (a+i)))] (Rt (.str ((s++List.replicate j 0).take a++d.take i++(s++List.replicate j 0).drop (a+i))) (fin_lea ?_))
 obtain rfl:i=d.length:=by omega
 obtain rfl:j=a+d.length-s.length:=by omega
 rw[List.take_length];exact lea_refl _
theorem l2Write_i (s:Str) (a:Int) (d:Str) (h0:0<=a) (ha:a<2^40) (hs:s.length<2^40) (hd:d.length<2^40):PE G 112 [.str s,.i a,.str d] (.str (l2w s a.toNat d)):=by
  obtain⟨k,rfl⟩:=Int.eq_ofNat_of_zero_le h0
  exact l2Write_ok s k d hs om hd
open Go Go.Proofs
set_option maxRecDepth 100000
theorem l2File_ok (t:Tr) (c:Cl) (hw:t.W<2^12) (hwf:t.wf=true) (h1:wS c.path<2^10) (h2:wS c.to<2^40) (h3:c.data.length<2^20) (h4:0<c.path.length) (h5:0<=c.at_) (h6:c.at_<=24):PE G 103 [.agg (tcs t),.agg (clc c)] (.tup [.agg (tcs (sFile t c).1),.i (sFile t c).2]):=by
 have hl1:=wS_len c.path;have hl2:=wS_len c.to;have hxw:=W_xat t c.path;have hxd:=data_W (xat t c.path);have hxf:=xat_wf hwf c.path
 refine Pe Tryz.func103 ?_
 refine Rr (Fn2 [] [(4,.ptr 8 0),(3,.ptr 4 0),(2,.ptr 0 0)] ([(8,zt),(4,clc c),(0,tcs t)]++·) 12 (Rr (Bc1 4 [(12,pth c.path),(11,.ptr 4 1),(10,.agg (tcs t))] 100 [.agg (tcs t),pth c.path] 13 ((0+5<=5/\0<5)/\((1:Nat)≠0)/\(1+1<=5/\1<5)/\·) ⟨dc,dc,dc,PE.use (l1At_c c.path t om (by assumption) om) ?_⟩)))
 refine Ke (Fn3 [2,3,4] [(7,.bool ((tat t c.path).isSome)),(6,.ptr 12 0)] ([(12,tcs (xat t c.path))]++·) 16 ((0<2)/\(1<2)/\(true=true/\5=5/\0+5<=5)/\·) ⟨dc,dc,dc,Sq fun K3 hK3=>?_⟩)
 refine Bl (Rm 16 (((tat t c.path).isSome)&&((xat t c.path).dir)) [2,3,4,6,7] ?_ ?_)
 refine An0 2 [(18,.bool ((tat t c.path).isSome)),(17,.bool ((tat t c.path).isSome))] (Rg (fun hg5 g5=>?_) (fun hg5 g5=>?_))
 refine Mn1 ((xat t c.path).dir) (((1:Nat)≠0)/\(0+1<=5/\0<5)/\·) ⟨dc,dc,(by rw[hg5];rfl)⟩
 refine Mn0 false (by rw[hg5];rfl)
 refine Cc (((tat t c.path).isSome)&&((xat t c.path).dir)) (fun hc6 c6=>?_) fun hc6 c6=>?_
 refine Rr (Fn3 [4] [(5,.i 4)] (Hw [(8,tcs t)] [] ·) 16 ((0+5<=5/\0<5)/\(true=true/\5=5/\0+5<=5)/\·) ⟨dc,dc,Rt1 ((0+5<=5/\0<5)/\·) (.tup [.agg (tcs t),.i 4]) ⟨dc,?_⟩⟩)
 · have e:sFile t c=(t,4):=by
     unfold sFile;(try rw[hc6]);(try simp only[cond_true,cond_false])
     try first|rfl|(simp only[sFile,wData,fits];done)|(simp only[sFile,wData,fits];rfl)
   refine fin_lea ?_
   rw[e];exact lea_refl _
 refine Rm 23 ((!((tat t c.path).isSome))&&(decide ((c.kind:Int)=(3:Int)))) [2,3,4,6] ?_ ?_
 refine An0 3 [(26,.bool (!((tat t c.path).isSome))),(25,.bool (!((tat t c.path).isSome))),(24,.bool ((tat t c.path).isSome))] (Rg (fun hg9 g9=>?_) (fun hg9 g9=>?_))
 refine Mn1 (decide ((c.kind:Int)=(3:Int))) (((1:Nat)≠0)/\(0+1<=5/\0<5)/\Ki/\·) ⟨dc,dc,rfl,(by rw[hg9];rfl)⟩
 refine Mn0 false (by rw[hg9];rfl)
 refine Cc ((!((tat t c.path).isSome))&&(decide ((c.kind:Int)=(3:Int)))) (fun hc10 c10=>?_) fun hc10 c10=>?_
 refine Rr (Fn3 [4] [(5,.i 3)] (Hw [(8,tcs t)] [] ·) 16 ((0+5<=5/\0<5)/\(true=true/\5=5/\0+5<=5)/\·) ⟨dc,dc,Rt1 ((0+5<=5/\0<5)/\·) (.tup [.agg (tcs t),.i 3]) ⟨dc,?_⟩⟩)
 · have e:sFile t c=(t,3):=by
     unfold sFile;(try rw[hc6]);(try simp only[cond_true,cond_false]);(try rw[hc10]);(try simp only[cond_true,cond_false])
     try first|rfl|(simp only[sFile,wData,fits];done)|(simp only[sFile,wData,fits];rfl)
   refine fin_lea ?_
   rw[e];exact lea_refl _
 refine Sk (Bn (Jn (hK3 (Kp [2,3,4,6] (Sq fun K12 hK12=>?_)))))
 refine Rr (Cn1 (decide ((c.kind:Int)=(3:Int))) [2,3,4,6] [] (((1:Nat)≠0)/\(0+1<=5/\0<5)/\Ki/\·) ⟨dc,dc,rfl,fun hc14 c14=>?_,fun hc14 c14=>?_⟩)
 refine Rr (Fn1 [2,3,4,6] [(8,.str ((xat t c.path).data))] (((1:Nat)≠0)/\(2+1<=5/\2<5)/\·) ⟨dc,dc,Sq fun K16 hK16=>?_⟩)
 refine Rr (Cn1 (decide ((c.at_:Int)<((((xat t c.path).data).length:Int):Int))) [2,3,4,6,8] [] (((1:Nat)≠0)/\(3+1<=5/\3<5)/\Ki/\·) ⟨dc,dc,rfl,fun hc18 c18=>?_,fun hc18 c18=>?_⟩)
 refine Rb (fun h=>Jn (hK16 h)) (Fn1 [2,3,4,6] [(8,.str (((xat t c.path).data).take c.at_.toNat))] (((1:Nat)≠0)/\(3+1<=5/\3<5)/\(0<=(0:Int)/\(0:Int)<=c.at_/\c.at_<=(((xat t c.path).data).length:Int))/\·) ⟨dc,dc,⟨om,om,om⟩,Rb (fun h=>Jn (hK12 h)) (Bc1 4 [(48,.i c.at_),(47,.ptr 4 3),(46,.str (((xat t c.path).data).take c.at_.toNat))] 112 [.str (((xat t c.path).data).take c.at_.toNat),.i c.at_,.str []] 49 (((1:Nat)≠0)/\(3+1<=5/\3<5)/\·) ⟨dc,dc,PE.use (l2Write_i (((xat t c.path).data).take c.at_.toNat) c.at_ [] om om (by first|omega|(simp;omega)) (by first|omega|simp)) ?_⟩)⟩)
 refine Ke (Fn3 [2,3,4,6] [] (Hw [(12,[.bool ((xat t c.path).dir),.i ((xat t c.path).mode),.str (l2w (((xat t c.path).data).take c.at_.toNat) c.at_.toNat []),pth ((xat t c.path).names),.sl 5 (((xat t c.path).kids).map trc)])] [] ·) 16 (((1:Nat)≠0)/\(true=true/\1=1/\2+1<=5)/\·) ⟨dc,dc,Qr [0,0,2,0,15,0,63,127,127,511,1023] [(0,[]),(1,[]),(2,[]),(3,[]),(5,[]),(4,[5]),(6,[]),(7,[]),(8,[]),(9,[]),(10,[])] (qBc1 6 [(72,.agg (tcs t)),(70,.agg [.bool ((xat t c.path).dir),.i ((xat t c.path).mode),.str (l2w (((xat t c.path).data).take c.at_.toNat) c.at_.toNat []),pth ((xat t c.path).names),.sl 5 (((xat t c.path).kids).map trc)]),(69,pth c.path),(68,.ptr 4 1),(67,.agg (tcs t))] [5] 102 [.agg (tcs t),pth c.path,.agg [.bool ((xat t c.path).dir),.i ((xat t c.path).mode),.str (l2w (((xat t c.path).data).take c.at_.toNat) c.at_.toNat []),pth ((xat t c.path).names),.sl 5 (((xat t c.path).kids).map trc)],.bool false] 71 ((0+5<=5/\0<5)/\((1:Nat)≠0)/\(1+1<=5/\1<5)/\(0+5<=5/\0<5)/\(0+5<=5/\0<5)/\·) ⟨dc,dc,dc,dc,dc,?_⟩)⟩)
 have hX:((Tr.mk ((xat t c.path).dir) ((xat t c.path).mode) (l2w (((xat t c.path).data).take c.at_.toNat) c.at_.toNat []) ((xat t c.path).names) ((xat t c.path).kids))).W<2^30:=by rw[W_eq];simp only[Tr.data_mk,Tr.names_mk,Tr.kids_mk,l2w_len,List.length_take,List.length_nil];rw[W_eq (xat t c.path)]at hxw hxd;omega
 have hB:=W_tset_lt (g:=false) hw hX h1
 refine TCall_le [.agg (tcs t),pth c.path,.agg (tcs (Tr.mk ((xat t c.path).dir) ((xat t c.path).mode) (l2w (((xat t c.path).data).take c.at_.toNat) c.at_.toNat []) ((xat t c.path).names) ((xat t c.path).kids))),.bool false] (by simp[lea,leas,pth,Tr.none,tcs,clc]) ?_
 refine PE.use (l2Set_ok _ c.path t (Tr.mk ((xat t c.path).dir) ((xat t c.path).mode) (l2w (((xat t c.path).data).take c.at_.toNat) c.at_.toNat []) ((xat t c.path).names) ((xat t c.path).kids)) false rfl om (by assumption) om om) ?_
 refine Kq (p:=(((0+5<=5/\0<5)/\(AV.agg (tcs t)=(.agg (tcs t):AV)))/\True)) ⟨⟨dc,rfl⟩,trivial⟩ ?_
 refine qBc0 1 [] [] 101 [.agg (tcs (tset c.path t (Tr.mk ((xat t c.path).dir) ((xat t c.path).mode) (l2w (((xat t c.path).data).take c.at_.toNat) c.at_.toNat []) ((xat t c.path).names) ((xat t c.path).kids)) false)),.agg (tcs t)] 73 ?_
 refine PE.use (l2Fits_c (tset c.path t (Tr.mk ((xat t c.path).dir) ((xat t c.path).mode) (l2w (((xat t c.path).data).take c.at_.toNat) c.at_.toNat []) ((xat t c.path).names) ((xat t c.path).kids)) false) t om) ?_
 refine Kq (p:=(True)) trivial ?_
 refine qFn3 [4] [(5,.i (if treeOk (tset c.path t (Tr.mk ((xat t c.path).dir) ((xat t c.path).mode) (l2w (((xat t c.path).data).take c.at_.toNat) c.at_.toNat []) ((xat t c.path).names) ((xat t c.path).kids)) false)then 0 else 6))] (Hw [(8,tcs (if treeOk (tset c.path t (Tr.mk ((xat t c.path).dir) ((xat t c.path).mode) (l2w (((xat t c.path).data).take c.at_.toNat) c.at_.toNat []) ((xat t c.path).names) ((xat t c.path).kids)) false)then(tset c.path t (Tr.mk ((xat t c.path).dir) ((xat t c.path).mode) (l2w (((xat t c.path).data).take c.at_.toNat) c.at_.toNat []) ((xat t c.path).names) ((xat t c.path).kids)) false)else t))] [] ·) 16 ((0<2)/\(1<2)/\(true=true/\5=5/\0+5<=5)/\(True)/\·) ⟨dc,dc,dc,trivial,Rt1 ((0+5<=5/\0<5)/\·) (.tup [.agg (tcs (if treeOk (tset c.path t (Tr.mk ((xat t c.path).dir) ((xat t c.path).mode) (l2w (((xat t c.path).data).take c.at_.toNat) c.at_.toNat []) ((xat t c.path).names) ((xat t c.path).kids)) false)then(tset c.path t (Tr.mk ((xat t c.path).dir) ((xat t c.path).mode) (l2w (((xat t c.path).data).take c.at_.toNat) c.at_.toNat []) ((xat t c.path).names) ((xat t c.path).kids)) false)else t)),.i (if treeOk (tset c.path t (Tr.mk ((xat t c.path).dir) ((xat t c.path).mode) (l2w (((xat t c.path).data).take c.at_.toNat) c.at_.toNat []) ((xat t c.path).names) ((xat t c.path).kids)) false)then 0 else 6)]) ⟨dc,?_⟩⟩
 · have e:sFile t c=((if treeOk (tset c.path t (Tr.mk ((xat t c.path).dir) ((xat t c.path).mode) (l2w (((xat t c.path).data).take c.at_.toNat) c.at_.toNat []) ((xat t c.path).names) ((xat t c.path).kids)) false)then(tset c.path t (Tr.mk ((xat t c.path).dir) ((xat t c.path).mode) (l2w (((xat t c.path).data).take c.at_.toNat) c.at_.toNat []) ((xat t c.path).names) ((xat t c.path).kids)) false)else t),(if treeOk (tset c.path t (Tr.mk ((xat t c.path).dir) ((xat t c.path).mode) (l2w (((xat t c.path).data).take c.at_.toNat) c.at_.toNat []) ((xat t c.path).names) ((xat t c.path).kids)) false)then 0 else 6)):=by
     unfold sFile;(try rw[hc6]);(try simp only[cond_true,cond_false]);(try rw[hc10]);(try simp only[cond_true,cond_false]);(try rw[hc14]);(try simp only[cond_true,cond_false]);(try rw[hc18]);(try simp only[cond_true,cond_false])
     try first|rfl|(simp only[sFile,wData,fits];done)|(simp only[sFile,wData,fits];rfl)
   refine fin_lea ?_
   rw[e];exact lea_refl _
 refine Sk (Jn (hK16 (Kp [2,3,4,6,8] (Rb (fun h=>Jn (hK12 h)) (Bc1 4 [(48,.i c.at_),(47,.ptr 4 3),(46,.str ((xat t c.path).data))] 112 [.str ((xat t c.path).data),.i c.at_,.str []] 49 (((1:Nat)≠0)/\(3+1<=5/\3<5)/\·) ⟨dc,dc,PE.use (l2Write_i ((xat t c.path).data) c.at_ [] om om (by first|omega|(simp;omega)) (by first|omega|simp)) (Ke ?_)⟩)))))
 refine Fn3 [2,3,4,6] [] (Hw [(12,[.bool ((xat t c.path).dir),.i ((xat t c.path).mode),.str (l2w ((xat t c.path).data) c.at_.toNat []),pth ((xat t c.path).names),.sl 5 (((xat t c.path).kids).map trc)])] [] ·) 16 (((1:Nat)≠0)/\(true=true/\1=1/\2+1<=5)/\·) ⟨dc,dc,Qr [0,0,2,0,15,0,63,127,127,511,1023] [(0,[]),(1,[]),(2,[]),(3,[]),(5,[]),(4,[5]),(6,[]),(7,[]),(8,[]),(9,[]),(10,[])] (qBc1 6 [(72,.agg (tcs t)),(70,.agg [.bool ((xat t c.path).dir),.i ((xat t c.path).mode),.str (l2w ((xat t c.path).data) c.at_.toNat []),pth ((xat t c.path).names),.sl 5 (((xat t c.path).kids).map trc)]),(69,pth c.path),(68,.ptr 4 1),(67,.agg (tcs t))] [5] 102 [.agg (tcs t),pth c.path,.agg [.bool ((xat t c.path).dir),.i ((xat t c.path).mode),.str (l2w ((xat t c.path).data) c.at_.toNat []),pth ((xat t c.path).names),.sl 5 (((xat t c.path).kids).map trc)],.bool false] 71 ((0+5<=5/\0<5)/\((1:Nat)≠0)/\(1+1<=5/\1<5)/\(0+5<=5/\0<5)/\(0+5<=5/\0<5)/\·) ⟨dc,dc,dc,dc,dc,?_⟩)⟩
 have hX:((Tr.mk ((xat t c.path).dir) ((xat t c.path).mode) (l2w ((xat t c.path).data) c.at_.toNat []) ((xat t c.path).names) ((xat t c.path).kids))).W<2^30:=by rw[W_eq];simp only[Tr.data_mk,Tr.names_mk,Tr.kids_mk,l2w_len,List.length_take,List.length_nil];rw[W_eq (xat t c.path)]at hxw hxd;omega
 have hB:=W_tset_lt (g:=false) hw hX h1
 refine TCall_le [.agg (tcs t),pth c.path,.agg (tcs (Tr.mk ((xat t c.path).dir) ((xat t c.path).mode) (l2w ((xat t c.path).data) c.at_.toNat []) ((xat t c.path).names) ((xat t c.path).kids))),.bool false] (by simp[lea,leas,pth,Tr.none,tcs,clc]) ?_
 refine PE.use (l2Set_ok _ c.path t (Tr.mk ((xat t c.path).dir) ((xat t c.path).mode) (l2w ((xat t c.path).data) c.at_.toNat []) ((xat t c.path).names) ((xat t c.path).kids)) false rfl om (by assumption) om om) ?_
 refine Kq (p:=(((0+5<=5/\0<5)/\(AV.agg (tcs t)=(.agg (tcs t):AV)))/\True)) ⟨⟨dc,rfl⟩,trivial⟩ ?_
 refine qBc0 1 [] [] 101 [.agg (tcs (tset c.path t (Tr.mk ((xat t c.path).dir) ((xat t c.path).mode) (l2w ((xat t c.path).data) c.at_.toNat []) ((xat t c.path).names) ((xat t c.path).kids)) false)),.agg (tcs t)] 73 ?_
 refine PE.use (l2Fits_c (tset c.path t (Tr.mk ((xat t c.path).dir) ((xat t c.path).mode) (l2w ((xat t c.path).data) c.at_.toNat []) ((xat t c.path).names) ((xat t c.path).kids)) false) t om) ?_
 refine Kq (p:=(True)) trivial ?_
 refine qFn3 [4] [(5,.i (if treeOk (tset c.path t (Tr.mk ((xat t c.path).dir) ((xat t c.path).mode) (l2w ((xat t c.path).data) c.at_.toNat []) ((xat t c.path).names) ((xat t c.path).kids)) false)then 0 else 6))] (Hw [(8,tcs (if treeOk (tset c.path t (Tr.mk ((xat t c.path).dir) ((xat t c.path).mode) (l2w ((xat t c.path).data) c.at_.toNat []) ((xat t c.path).names) ((xat t c.path).kids)) false)then(tset c.path t (Tr.mk ((xat t c.path).dir) ((xat t c.path).mode) (l2w ((xat t c.path).data) c.at_.toNat []) ((xat t c.path).names) ((xat t c.path).kids)) false)else t))] [] ·) 16 ((0<2)/\(1<2)/\(true=true/\5=5/\0+5<=5)/\(True)/\·) ⟨dc,dc,dc,trivial,Rt1 ((0+5<=5/\0<5)/\·) (.tup [.agg (tcs (if treeOk (tset c.path t (Tr.mk ((xat t c.path).dir) ((xat t c.path).mode) (l2w ((xat t c.path).data) c.at_.toNat []) ((xat t c.path).names) ((xat t c.path).kids)) false)then(tset c.path t (Tr.mk ((xat t c.path).dir) ((xat t c.path).mode) (l2w ((xat t c.path).data) c.at_.toNat []) ((xat t c.path).names) ((xat t c.path).kids)) false)else t)),.i (if treeOk (tset c.path t (Tr.mk ((xat t c.path).dir) ((xat t c.path).mode) (l2w ((xat t c.path).data) c.at_.toNat []) ((xat t c.path).names) ((xat t c.path).kids)) false)then 0 else 6)]) ⟨dc,?_⟩⟩
 · have e:sFile t c=((if treeOk (tset c.path t (Tr.mk ((xat t c.path).dir) ((xat t c.path).mode) (l2w ((xat t c.path).data) c.at_.toNat []) ((xat t c.path).names) ((xat t c.path).kids)) false)then(tset c.path t (Tr.mk ((xat t c.path).dir) ((xat t c.path).mode) (l2w ((xat t c.path).data) c.at_.toNat []) ((xat t c.path).names) ((xat t c.path).kids)) false)else t),(if treeOk (tset c.path t (Tr.mk ((xat t c.path).dir) ((xat t c.path).mode) (l2w ((xat t c.path).data) c.at_.toNat []) ((xat t c.path).names) ((xat t c.path).kids)) false)then 0 else 6)):=by
     unfold sFile;(try rw[hc6]);(try simp only[cond_true,cond_false]);(try rw[hc10]);(try simp only[cond_true,cond_false]);(try rw[hc14]);(try simp only[cond_true,cond_false]);(try rw[hc18]);(try simp only[cond_true,cond_false])
     try first|rfl|(simp only[sFile,wData,fits];done)|(simp only[sFile,wData,fits];rfl)
   refine fin_lea ?_
   rw[e];exact lea_refl _
 refine Rr (Av1 (r:=.i (IntKind.i64.wrap ((c.data.length:Int)+c.at_))) (v:=.i ((c.data.length:Int)+c.at_)) 6 56 [(55,.i c.at_),(54,.ptr 4 3),(53,.i c.data.length),(52,.str c.data),(51,.ptr 4 4)] (cI (wrap64 om om)) (((1:Nat)≠0)/\(4+1<=5/\4<5)/\((1:Nat)≠0)/\(3+1<=5/\3<5)/\Ki/\·) ⟨dc,dc,dc,dc,rfl,Cn1 (decide ((24:Int)<(((c.data.length:Int)+c.at_):Int))) [2,3,4,6] [] (Ki/\·) ⟨rfl,fun hc22 c22=>?_,fun hc22 c22=>?_⟩⟩)
 refine Rr (Fn3 [4] [(5,.i 6)] (Hw [(8,tcs t)] [] ·) 16 ((0+5<=5/\0<5)/\(true=true/\5=5/\0+5<=5)/\·) ⟨dc,dc,Rt1 ((0+5<=5/\0<5)/\·) (.tup [.agg (tcs t),.i 6]) ⟨dc,?_⟩⟩)
 · have e:sFile t c=(t,6):=by
     unfold sFile;(try rw[hc6]);(try simp only[cond_true,cond_false]);(try rw[hc10]);(try simp only[cond_true,cond_false]);(try rw[hc14]);(try simp only[cond_true,cond_false]);(try rw[hc22]);(try simp only[cond_true,cond_false])
     try first|rfl|(simp only[sFile,wData,fits];done)|(simp only[sFile,wData,fits];rfl)
   refine fin_lea ?_
   rw[e];exact lea_refl _
 refine Rb (fun h=>Jn (hK12 h)) (Bc1 7 [(64,.str c.data),(63,.ptr 4 4),(62,.i c.at_),(61,.ptr 4 3),(60,.str ((xat t c.path).data)),(59,.ptr 12 2)] 112 [.str ((xat t c.path).data),.i c.at_,.str c.data] 65 (((1:Nat)≠0)/\(2+1<=5/\2<5)/\((1:Nat)≠0)/\(3+1<=5/\3<5)/\((1:Nat)≠0)/\(4+1<=5/\4<5)/\·) ⟨dc,dc,dc,dc,dc,dc,PE.use (l2Write_i ((xat t c.path).data) c.at_ c.data om om (by first|omega|(simp;omega)) (by first|omega|simp)) (Ke (Fn3 [2,3,4,6] [] (Hw [(12,[.bool ((xat t c.path).dir),.i ((xat t c.path).mode),.str (l2w ((xat t c.path).data) c.at_.toNat c.data),pth ((xat t c.path).names),.sl 5 (((xat t c.path).kids).map trc)])] [] ·) 16 (((1:Nat)≠0)/\(true=true/\1=1/\2+1<=5)/\·) ⟨dc,dc,?_⟩))⟩)
 refine Qr [0,0,2,0,15,0,63,127,127,511,1023] [(0,[]),(1,[]),(2,[]),(3,[]),(5,[]),(4,[5]),(6,[]),(7,[]),(8,[]),(9,[]),(10,[])] (qBc1 6 [(72,.agg (tcs t)),(70,.agg [.bool ((xat t c.path).dir),.i ((xat t c.path).mode),.str (l2w ((xat t c.path).data) c.at_.toNat c.data),pth ((xat t c.path).names),.sl 5 (((xat t c.path).kids).map trc)]),(69,pth c.path),(68,.ptr 4 1),(67,.agg (tcs t))] [5] 102 [.agg (tcs t),pth c.path,.agg [.bool ((xat t c.path).dir),.i ((xat t c.path).mode),.str (l2w ((xat t c.path).data) c.at_.toNat c.data),pth ((xat t c.path).names),.sl 5 (((xat t c.path).kids).map trc)],.bool false] 71 ((0+5<=5/\0<5)/\((1:Nat)≠0)/\(1+1<=5/\1<5)/\(0+5<=5/\0<5)/\(0+5<=5/\0<5)/\·) ⟨dc,dc,dc,dc,dc,?_⟩)
 have hX:((Tr.mk ((xat t c.path).dir) ((xat t c.path).mode) (l2w ((xat t c.path).data) c.at_.toNat c.data) ((xat t c.path).names) ((xat t c.path).kids))).W<2^30:=by rw[W_eq];simp only[Tr.data_mk,Tr.names_mk,Tr.kids_mk,l2w_len,List.length_take,List.length_nil];rw[W_eq (xat t c.path)]at hxw hxd;omega
 have hB:=W_tset_lt (g:=false) hw hX h1
 refine TCall_le [.agg (tcs t),pth c.path,.agg (tcs (Tr.mk ((xat t c.path).dir) ((xat t c.path).mode) (l2w ((xat t c.path).data) c.at_.toNat c.data) ((xat t c.path).names) ((xat t c.path).kids))),.bool false] (by simp[lea,leas,pth,Tr.none,tcs,clc]) ?_
 refine PE.use (l2Set_ok _ c.path t (Tr.mk ((xat t c.path).dir) ((xat t c.path).mode) (l2w ((xat t c.path).data) c.at_.toNat c.data) ((xat t c.path).names) ((xat t c.path).kids)) false rfl om (by assumption) om om) ?_
 refine Kq (p:=(((0+5<=5/\0<5)/\(AV.agg (tcs t)=(.agg (tcs t):AV)))/\True)) ⟨⟨dc,rfl⟩,trivial⟩ ?_
 refine qBc0 1 [] [] 101 [.agg (tcs (tset c.path t (Tr.mk ((xat t c.path).dir) ((xat t c.path).mode) (l2w ((xat t c.path).data) c.at_.toNat c.data) ((xat t c.path).names) ((xat t c.path).kids)) false)),.agg (tcs t)] 73 ?_
 refine PE.use (l2Fits_c (tset c.path t (Tr.mk ((xat t c.path).dir) ((xat t c.path).mode) (l2w ((xat t c.path).data) c.at_.toNat c.data) ((xat t c.path).names) ((xat t c.path).kids)) false) t om) ?_
 refine Kq (p:=(True)) trivial ?_
 refine qFn3 [4] [(5,.i (if treeOk (tset c.path t (Tr.mk ((xat t c.path).dir) ((xat t c.path).mode) (l2w ((xat t c.path).data) c.at_.toNat c.data) ((xat t c.path).names) ((xat t c.path).kids)) false)then 0 else 6))] (Hw [(8,tcs (if treeOk (tset c.path t (Tr.mk ((xat t c.path).dir) ((xat t c.path).mode) (l2w ((xat t c.path).data) c.at_.toNat c.data) ((xat t c.path).names) ((xat t c.path).kids)) false)then(tset c.path t (Tr.mk ((xat t c.path).dir) ((xat t c.path).mode) (l2w ((xat t c.path).data) c.at_.toNat c.data) ((xat t c.path).names) ((xat t c.path).kids)) false)else t))] [] ·) 16 ((0<2)/\(1<2)/\(true=true/\5=5/\0+5<=5)/\(True)/\·) ⟨dc,dc,dc,trivial,Rt1 ((0+5<=5/\0<5)/\·) (.tup [.agg (tcs (if treeOk (tset c.path t (Tr.mk ((xat t c.path).dir) ((xat t c.path).mode) (l2w ((xat t c.path).data) c.at_.toNat c.data) ((xat t c.path).names) ((xat t c.path).kids)) false)then(tset c.path t (Tr.mk ((xat t c.path).dir) ((xat t c.path).mode) (l2w ((xat t c.path).data) c.at_.toNat c.data) ((xat t c.path).names) ((xat t c.path).kids)) false)else t)),.i (if treeOk (tset c.path t (Tr.mk ((xat t c.path).dir) ((xat t c.path).mode) (l2w ((xat t c.path).data) c.at_.toNat c.data) ((xat t c.path).names) ((xat t c.path).kids)) false)then 0 else 6)]) ⟨dc,?_⟩⟩
 · have e:sFile t c=((if treeOk (tset c.path t (Tr.mk ((xat t c.path).dir) ((xat t c.path).mode) (l2w ((xat t c.path).data) c.at_.toNat c.data) ((xat t c.path).names) ((xat t c.path).kids)) false)then(tset c.path t (Tr.mk ((xat t c.path).dir) ((xat t c.path).mode) (l2w ((xat t c.path).data) c.at_.toNat c.data) ((xat t c.path).names) ((xat t c.path).kids)) false)else t),(if treeOk (tset c.path t (Tr.mk ((xat t c.path).dir) ((xat t c.path).mode) (l2w ((xat t c.path).data) c.at_.toNat c.data) ((xat t c.path).names) ((xat t c.path).kids)) false)then 0 else 6)):=by
     unfold sFile;(try rw[hc6]);(try simp only[cond_true,cond_false]);(try rw[hc10]);(try simp only[cond_true,cond_false]);(try rw[hc14]);(try simp only[cond_true,cond_false]);(try rw[hc22]);(try simp only[cond_true,cond_false])
     try first|rfl|(simp only[sFile,wData,fits];done)|(simp only[sFile,wData,fits];rfl)
   refine fin_lea ?_
   rw[e];exact lea_refl _
theorem l2Rename_ok (t:Tr) (c:Cl) (hw:t.W<2^12) (hwf:t.wf=true) (h1:wS c.path<2^10) (h2:wS c.to<2^40) (h3:c.data.length<2^20) (h4:0<c.path.length) (h5:0<c.to.length) (h7:wS c.to<2^10):PE G 104 [.agg (tcs t),.agg (clc c)] (.tup [.agg (tcs (sRename t c).1),.i (sRename t c).2]):=by
 have hl1:=wS_len c.path;have hl2:=wS_len c.to;have hxw:=W_xat t c.path;have hxd:=data_W (xat t c.path);have hxf:=xat_wf hwf c.path
 refine Pe Tryz.func104 ?_
 refine Rr (Fn2 [] [(4,.ptr 8 0),(3,.ptr 4 0),(2,.ptr 0 0)] ([(8,zt),(4,clc c),(0,tcs t)]++·) 12 (Rr (Bc1 4 [(14,pth c.path),(13,.ptr 4 1),(12,.agg (tcs t))] 100 [.agg (tcs t),pth c.path] 15 ((0+5<=5/\0<5)/\((1:Nat)≠0)/\(1+1<=5/\1<5)/\·) ⟨dc,dc,dc,PE.use (l1At_c c.path t om (by assumption) om) ?_⟩)))
 refine Ke (Fn3 [2,3,4] [(7,.bool ((tat t c.path).isSome)),(6,.ptr 12 0)] ([(12,tcs (xat t c.path))]++·) 16 ((0<2)/\(1<2)/\(true=true/\5=5/\0+5<=5)/\·) ⟨dc,dc,dc,Sq fun K3 hK3=>?_⟩)
 refine Rr (Cn0 (!((tat t c.path).isSome)) [2,3,4,6] [] ⟨fun hc5 c5=>?_,fun hc5 c5=>?_⟩)
 refine Rr (Fn3 [4] [(5,.i 3)] (Hw [(8,tcs t)] [] ·) 16 ((0+5<=5/\0<5)/\(true=true/\5=5/\0+5<=5)/\·) ⟨dc,dc,Rt1 ((0+5<=5/\0<5)/\·) (.tup [.agg (tcs t),.i 3]) ⟨dc,?_⟩⟩)
 · have e:sRename t c=(t,3):=by
     unfold sRename;(try rw[hc5]);(try simp only[cond_true,cond_false])
     try first|rfl|(simp only[sRename,Tr.none,fits];done)|(simp only[sRename,Tr.none,fits];rfl)
   refine fin_lea ?_
   rw[e];exact lea_refl _
 refine Sk (Jn (hK3 (Kp [2,3,4,6] (Sq fun K7 hK7=>?_))))
 refine Rr (Bc1 5 [(24,pth c.path),(23,.ptr 4 1),(22,pth c.to),(21,.ptr 4 2)] 113 [pth c.to,pth c.path] 25 (((1:Nat)≠0)/\(2+1<=5/\2<5)/\((1:Nat)≠0)/\(1+1<=5/\1<5)/\·) ⟨dc,dc,dc,dc,PE.use (l2Within_ok c.to c.path om om) (Ke (Cn0 (c.path.isPrefixOf c.to) [2,3,4,6] [] ⟨fun hc9 c9=>?_,fun hc9 c9=>?_⟩))⟩)
 refine Rr (Fn3 [4] [(5,.i 7)] (Hw [(8,tcs t)] [] ·) 16 ((0+5<=5/\0<5)/\(true=true/\5=5/\0+5<=5)/\·) ⟨dc,dc,Rt1 ((0+5<=5/\0<5)/\·) (.tup [.agg (tcs t),.i 7]) ⟨dc,?_⟩⟩)
 · have e:sRename t c=(t,7):=by
     unfold sRename;(try rw[hc5]);(try simp only[cond_true,cond_false]);(try rw[hc9]);(try simp only[cond_true,cond_false])
     try first|rfl|(simp only[sRename,Tr.none,fits];done)|(simp only[sRename,Tr.none,fits];rfl)
   refine fin_lea ?_
   rw[e];exact lea_refl _
 refine Sk (Jn (hK7 (Kp [2,3,4,6] (Rr (Bc1 4 [(29,pth c.to),(28,.ptr 4 2),(27,.agg (tcs t))] 99 [.agg (tcs t),pth c.to] 30 ((0+5<=5/\0<5)/\((1:Nat)≠0)/\(2+1<=5/\2<5)/\·) ⟨dc,dc,dc,PE.use (l2Parent_c t c.to om (by assumption) om om) (Ke ?_)⟩)))))
 refine Fn0 [2,3,4,6] [(8,.i (parC t c.to))] (Sq fun K12 hK12=>?_)
 refine Rr (Cn1 (!decide ((parC t c.to:Int)=(0:Int))) [2,3,4,6,8] [] (Ki/\·) ⟨rfl,fun hc14 c14=>?_,fun hc14 c14=>?_⟩)
 refine Rr (Fn3 [4] [(5,.i (parC t c.to))] (Hw [(8,tcs t)] [] ·) 16 ((0+5<=5/\0<5)/\(true=true/\5=5/\0+5<=5)/\·) ⟨dc,dc,Rt1 ((0+5<=5/\0<5)/\·) (.tup [.agg (tcs t),.i (parC t c.to)]) ⟨dc,?_⟩⟩)
 · have e:sRename t c=(t,parC t c.to):=by
     unfold sRename;(try rw[hc5]);(try simp only[cond_true,cond_false]);(try rw[hc9]);(try simp only[cond_true,cond_false]);(try rw[hc14]);(try simp only[cond_true,cond_false])
     try first|rfl|(simp only[sRename,Tr.none,fits];done)|(simp only[sRename,Tr.none,fits];rfl)
   refine fin_lea ?_
   rw[e];exact lea_refl _
 refine Sk (Jn (hK12 (Kp [2,3,4,6] (Rr (Bc1 4 [(38,pth c.to),(37,.ptr 4 2),(36,.agg (tcs t))] 100 [.agg (tcs t),pth c.to] 39 ((0+5<=5/\0<5)/\((1:Nat)≠0)/\(2+1<=5/\2<5)/\·) ⟨dc,dc,dc,PE.use (l1At_c c.to t om (by assumption) om) (Ke ?_)⟩)))))
 refine Fn3 [2,3,4,6] [(10,.bool ((tat t c.to).isSome))] ([(16,tcs (xat t c.to))]++·) 20 ((0<2)/\(1<2)/\(true=true/\5=5/\0+5<=5)/\·) ⟨dc,dc,dc,Sq fun K17 hK17=>?_⟩
 refine Rr (Cn0 ((tat t c.to).isSome) [2,3,4,6] [] ⟨fun hc19 c19=>?_,fun hc19 c19=>?_⟩)
 refine Rr (Fn3 [4] [(5,.i 5)] (Hw [(8,tcs t)] [] ·) 20 ((0+5<=5/\0<5)/\(true=true/\5=5/\0+5<=5)/\·) ⟨dc,dc,Rt1 ((0+5<=5/\0<5)/\·) (.tup [.agg (tcs t),.i 5]) ⟨dc,?_⟩⟩)
 · have e:sRename t c=(t,5):=by
     unfold sRename;(try rw[hc5]);(try simp only[cond_true,cond_false]);(try rw[hc9]);(try simp only[cond_true,cond_false]);(try rw[hc14]);(try simp only[cond_true,cond_false]);(try rw[hc19]);(try simp only[cond_true,cond_false])
     try first|rfl|(simp only[sRename,Tr.none,fits];done)|(simp only[sRename,Tr.none,fits];rfl)
   refine fin_lea ?_
   rw[e];exact lea_refl _
 refine Sk (Jn (hK17 (Kp [2,3,4,6] (Qr [0,0,2,0,15,0,32,0,255,0,1023,2047,2047,8191,16383] [(0,[]),(1,[]),(2,[]),(3,[]),(5,[]),(6,[]),(7,[]),(9,[]),(4,[6,7,9]),(8,[9]),(10,[]),(11,[]),(12,[]),(13,[]),(14,[])] (qBc1 9 [(53,.agg (tcs t)),(51,.agg (tcs (xat t c.path))),(50,pth c.to),(49,.ptr 4 2),(47,.agg zt),(46,pth c.path),(45,.ptr 4 1),(44,.agg (tcs t))] [6,7,9] 102 [.agg (tcs t),pth c.path,.agg zt,.bool true] 48 ((0+5<=5/\0<5)/\((1:Nat)≠0)/\(1+1<=5/\1<5)/\((1:Nat)≠0)/\(2+1<=5/\2<5)/\(0+5<=5/\0<5)/\(0+5<=5/\0<5)/\·) ⟨dc,dc,dc,dc,dc,dc,dc,?_⟩)))))
 have hn:(Tr.mk false 0 [] [] []).W<2^12:=by simp[Tr.W,wS,Tr.Ws]
 have hB:=W_tset_lt2 (p:=c.path) (g:=true) hw hn h1
 have hBf:(tset c.path t (Tr.mk false 0 [] [] []) true).wf=true:=wf_tset _ _ _ _ hwf rfl
 refine TCall_le [.agg (tcs t),pth c.path,.agg (tcs (Tr.mk false 0 [] [] [])),.bool true] (by simp[lea,leas,pth,Tr.none,tcs,clc]) ?_
 refine PE.use (l2Set_ok _ c.path t (Tr.mk false 0 [] [] []) true rfl om (by assumption) om om) ?_
 refine Kq (p:=(((2+1<=5/\2<5)/\(pth c.to=pth c.to))/\((0+5<=5/\0<5)/\(AV.agg (tcs (xat t c.path))=(.agg (tcs (xat t c.path)):AV)))/\((0+5<=5/\0<5)/\(AV.agg (tcs t)=(.agg (tcs t):AV)))/\True)) ⟨⟨dc,rfl⟩,⟨dc,rfl⟩,⟨dc,rfl⟩,trivial⟩ ?_
 refine qBc0 1 [] [9] 102 [.agg (tcs (tset c.path t (Tr.mk false 0 [] [] []) true)),pth c.to,.agg (tcs (xat t c.path)),.bool false] 52 ?_
 have hB2:=W_tset_lt3 (p:=c.to) (x:=xat t c.path) (g:=false) hB om h7
 refine TCall_le [.agg (tcs (tset c.path t (Tr.mk false 0 [] [] []) true)),pth c.to,.agg (tcs (xat t c.path)),.bool false] (by simp[lea,leas,pth,Tr.none,tcs,clc]) ?_
 refine PE.use (l2Set_ok _ c.to (tset c.path t (Tr.mk false 0 [] [] []) true) (xat t c.path) false rfl om (by assumption) om om) ?_
 refine Kq (p:=(((0+5<=5/\0<5)/\(AV.agg (tcs t)=(.agg (tcs t):AV)))/\True)) ⟨⟨dc,rfl⟩,trivial⟩ ?_
 refine qBc0 1 [] [] 101 [.agg (tcs (tset c.to (tset c.path t (Tr.mk false 0 [] [] []) true) (xat t c.path) false)),.agg (tcs t)] 54 ?_
 refine PE.use (l2Fits_c (tset c.to (tset c.path t (Tr.mk false 0 [] [] []) true) (xat t c.path) false) t om) ?_
 refine Kq (p:=(True)) trivial ?_
 refine qFn3 [4] [(5,.i (if treeOk (tset c.to (tset c.path t (Tr.mk false 0 [] [] []) true) (xat t c.path) false)then 0 else 6))] (Hw [(8,tcs (if treeOk (tset c.to (tset c.path t (Tr.mk false 0 [] [] []) true) (xat t c.path) false)then(tset c.to (tset c.path t (Tr.mk false 0 [] [] []) true) (xat t c.path) false)else t))] [] ·) 20 ((0<2)/\(1<2)/\(true=true/\5=5/\0+5<=5)/\(True)/\·) ⟨dc,dc,dc,trivial,Rt1 ((0+5<=5/\0<5)/\·) (.tup [.agg (tcs (if treeOk (tset c.to (tset c.path t (Tr.mk false 0 [] [] []) true) (xat t c.path) false)then(tset c.to (tset c.path t (Tr.mk false 0 [] [] []) true) (xat t c.path) false)else t)),.i (if treeOk (tset c.to (tset c.path t (Tr.mk false 0 [] [] []) true) (xat t c.path) false)then 0 else 6)]) ⟨dc,?_⟩⟩
 · have e:sRename t c=((if treeOk (tset c.to (tset c.path t (Tr.mk false 0 [] [] []) true) (xat t c.path) false)then(tset c.to (tset c.path t (Tr.mk false 0 [] [] []) true) (xat t c.path) false)else t),(if treeOk (tset c.to (tset c.path t (Tr.mk false 0 [] [] []) true) (xat t c.path) false)then 0 else 6)):=by
     unfold sRename;(try rw[hc5]);(try simp only[cond_true,cond_false]);(try rw[hc9]);(try simp only[cond_true,cond_false]);(try rw[hc14]);(try simp only[cond_true,cond_false]);(try rw[hc19]);(try simp only[cond_true,cond_false])
     try first|rfl|(simp only[sRename,Tr.none,fits];done)|(simp only[sRename,Tr.none,fits];rfl)
   refine fin_lea ?_
   rw[e];exact lea_refl _
theorem l2Do_ok (t:Tr) (c:Cl) (hw:t.W<2^12) (hwf:t.wf=true) (h1:wS c.path<2^10) (h2:wS c.to<2^40) (h3:c.data.length<2^20) (h4:0<c.path.length) (h9:c.kind=2\/c.kind=3->0<=c.at_/\c.at_<=24) (h10:c.kind=5->0<c.to.length/\wS c.to<2^10):PE G 83 [.agg (tcs t),.agg (clc c)] (.tup [.agg (tcs (sDo t c).1),.i (sDo t c).2]):=by
 have hl1:=wS_len c.path;have hl2:=wS_len c.to;have hxw:=W_xat t c.path;have hxd:=data_W (xat t c.path);have hxf:=xat_wf hwf c.path
 refine Pe Tryz.func83 ?_
 refine Rr (Fn2 [] [(4,.ptr 8 0),(3,.ptr 4 0),(2,.ptr 0 0)] ([(8,zt),(4,clc c),(0,tcs t)]++·) 12 (Rr (Bc1 4 [(11,pth c.path),(10,.ptr 4 1),(9,.agg (tcs t))] 99 [.agg (tcs t),pth c.path] 12 ((0+5<=5/\0<5)/\((1:Nat)≠0)/\(1+1<=5/\1<5)/\·) ⟨dc,dc,dc,PE.use (l2Parent_c t c.path om (by assumption) om om) ?_⟩)))
 refine Ke (Fn0 [2,3,4] [(6,.i (parC t c.path))] (Sq fun K3 hK3=>?_))
 refine Rr (Cn1 (!decide ((parC t c.path:Int)=(0:Int))) [2,3,4,6] [] (Ki/\·) ⟨rfl,fun hc5 c5=>?_,fun hc5 c5=>?_⟩)
 refine Rr (Fn3 [4] [(5,.i (parC t c.path))] (Hw [(8,tcs t)] [] ·) 12 ((0+5<=5/\0<5)/\(true=true/\5=5/\0+5<=5)/\·) ⟨dc,dc,Rt1 ((0+5<=5/\0<5)/\·) (.tup [.agg (tcs t),.i (parC t c.path)]) ⟨dc,?_⟩⟩)
 · have e:sDo t c=(t,parC t c.path):=by
     unfold sDo;(try rw[hc5]);(try simp only[cond_true,cond_false])
     try first|rfl|(simp only[sDo,newDir,wMode,Tr.none,fits];done)|(simp only[sDo,newDir,wMode,Tr.none,fits];rfl)
   refine fin_lea ?_
   rw[e];exact lea_refl _
 refine Sk (Jn (hK3 (Kp [2,3,4] (Rr (Bc1 4 [(20,pth c.path),(19,.ptr 4 1),(18,.agg (tcs t))] 100 [.agg (tcs t),pth c.path] 21 ((0+5<=5/\0<5)/\((1:Nat)≠0)/\(1+1<=5/\1<5)/\·) ⟨dc,dc,dc,PE.use (l1At_c c.path t om (by assumption) om) (Ke ?_)⟩)))))
 refine Fn3 [2,3,4] [(8,.bool ((tat t c.path).isSome)),(7,.ptr 12 0)] ([(12,tcs (xat t c.path))]++·) 16 ((0<2)/\(1<2)/\(true=true/\5=5/\0+5<=5)/\·) ⟨dc,dc,dc,Sq fun K8 hK8=>?_⟩
 refine Rr (Fn1 [2,3,4,7,8] [(25,.i c.kind)] (((1:Nat)≠0)/\(0+1<=5/\0<5)/\·) ⟨dc,dc,Bl (Rr (Cn1 (decide ((c.kind:Int)=(1:Int))) [2,3,4,7,8,25] [] (Ki/\·) ⟨rfl,fun hc11 c11=>?_,fun hc11 c11=>?_⟩))⟩)
 refine Sq fun K12 hK12=>?_
 refine Rr (Cn0 ((tat t c.path).isSome) [2,3,4] [] ⟨fun hc14 c14=>?_,fun hc14 c14=>?_⟩)
 refine Rr (Fn3 [4] [(5,.i 5)] (Hw [(8,tcs t)] [] ·) 16 ((0+5<=5/\0<5)/\(true=true/\5=5/\0+5<=5)/\·) ⟨dc,dc,Rt1 ((0+5<=5/\0<5)/\·) (.tup [.agg (tcs t),.i 5]) ⟨dc,?_⟩⟩)
 · have e:sDo t c=(t,5):=by
     unfold sDo;(try rw[hc5]);(try simp only[cond_true,cond_false]);(try rw[hc11]);(try simp only[cond_true,cond_false]);(try rw[hc14]);(try simp only[cond_true,cond_false])
     try first|rfl|(simp only[sDo,newDir,wMode,Tr.none,fits];done)|(simp only[sDo,newDir,wMode,Tr.none,fits];rfl)
   refine fin_lea ?_
   rw[e];exact lea_refl _
 refine Sk (Jn (hK12 (Kp [2,3,4] (Qr [0,0,2,0,8,24,63,0,255,511,511,2047,4095] [(0,[]),(1,[]),(2,[]),(3,[]),(4,[]),(5,[]),(7,[]),(6,[7]),(8,[]),(9,[]),(10,[]),(11,[]),(12,[])] (qBc1 8 [(37,.agg (tcs t)),(35,.agg [.bool true,.i c.at_,.str [],.nils,.nils]),(34,.i c.at_),(33,.ptr 4 3),(32,pth c.path),(31,.ptr 4 1),(30,.agg (tcs t))] [7] 102 [.agg (tcs t),pth c.path,.agg [.bool true,.i c.at_,.str [],.nils,.nils],.bool false] 36 ((0+5<=5/\0<5)/\((1:Nat)≠0)/\(1+1<=5/\1<5)/\((1:Nat)≠0)/\(3+1<=5/\3<5)/\(0+5<=5/\0<5)/\·) ⟨dc,dc,dc,dc,dc,dc,?_⟩)))))
 have hX:((Tr.mk true c.at_ [] [] [])).W<2^12:=by simp only[W_eq (Tr.mk _ _ _ _ _),Tr.data_mk,Tr.names_mk,Tr.kids_mk,wS,Tr.Ws,List.length_nil];rw[W_eq (xat t c.path)]at hxw;omega
 have hB:=W_tset_lt2 (g:=false) hw hX h1
 refine TCall_le [.agg (tcs t),pth c.path,.agg (tcs (Tr.mk true c.at_ [] [] [])),.bool false] (by simp[lea,leas,pth,Tr.none,tcs,clc]) ?_
 refine PE.use (l2Set_ok _ c.path t (Tr.mk true c.at_ [] [] []) false rfl om (by assumption) om om) ?_
 refine Kq (p:=(((0+5<=5/\0<5)/\(AV.agg (tcs t)=(.agg (tcs t):AV)))/\True)) ⟨⟨dc,rfl⟩,trivial⟩ ?_
 refine qBc0 1 [] [] 101 [.agg (tcs (tset c.path t (Tr.mk true c.at_ [] [] []) false)),.agg (tcs t)] 38 ?_
 refine PE.use (l2Fits_c (tset c.path t (Tr.mk true c.at_ [] [] []) false) t om) ?_
 refine Kq (p:=(True)) trivial ?_
 refine qFn3 [4] [(5,.i (if treeOk (tset c.path t (Tr.mk true c.at_ [] [] []) false)then 0 else 6))] (Hw [(8,tcs (if treeOk (tset c.path t (Tr.mk true c.at_ [] [] []) false)then(tset c.path t (Tr.mk true c.at_ [] [] []) false)else t))] [] ·) 16 ((0<2)/\(1<2)/\(true=true/\5=5/\0+5<=5)/\(True)/\·) ⟨dc,dc,dc,trivial,Rt1 ((0+5<=5/\0<5)/\·) (.tup [.agg (tcs (if treeOk (tset c.path t (Tr.mk true c.at_ [] [] []) false)then(tset c.path t (Tr.mk true c.at_ [] [] []) false)else t)),.i (if treeOk (tset c.path t (Tr.mk true c.at_ [] [] []) false)then 0 else 6)]) ⟨dc,?_⟩⟩
 · have e:sDo t c=((if treeOk (tset c.path t (Tr.mk true c.at_ [] [] []) false)then(tset c.path t (Tr.mk true c.at_ [] [] []) false)else t),(if treeOk (tset c.path t (Tr.mk true c.at_ [] [] []) false)then 0 else 6)):=by
     unfold sDo;(try rw[hc5]);(try simp only[cond_true,cond_false]);(try rw[hc11]);(try simp only[cond_true,cond_false]);(try rw[hc14]);(try simp only[cond_true,cond_false])
     try first|rfl|(simp only[sDo,newDir,wMode,Tr.none,fits];done)|(simp only[sDo,newDir,wMode,Tr.none,fits];rfl)
   refine fin_lea ?_
   rw[e];exact lea_refl _
 refine Sq fun K17 hK17=>?_
 refine Rr (Cn1 (decide ((c.kind:Int)=(2:Int))) [2,3,4,7,8,25] [(41,.bool (decide ((c.kind:Int)=(2:Int))))] (Ki/\·) ⟨rfl,fun hc19 c19=>?_,fun hc19 c19=>?_⟩)
 refine Sk (Jn (hK17 (Kp [2,3,4,7,8,25,41] (C1 (t:=decide ((c.kind:Int)=(2:Int))) hc19 (Rr (Bc1 3 [(45,.agg (clc c)),(44,.agg (tcs t))] 103 [.agg (tcs t),.agg (clc c)] 46 ((0+5<=5/\0<5)/\(0+5<=5/\0<5)/\·) ⟨dc,dc,PE.use (l2File_ok t c om (by assumption) om om om om (by have:=h9 (by first|(left;simpa using hc19)|(right;simpa using hc19));omega) (by have:=h9 (by first|(left;simpa using hc19)|(right;simpa using hc19));omega)) ?_⟩))))))
 refine Ke (Fn3 [4] [(5,.i ((sFile t c).2))] (Hw [(8,tcs ((sFile t c).1))] [] ·) 16 ((0<2)/\(1<2)/\(true=true/\5=5/\0+5<=5)/\·) ⟨dc,dc,dc,Rt1 ((0+5<=5/\0<5)/\·) (.tup [.agg (tcs ((sFile t c).1)),.i ((sFile t c).2)]) ⟨dc,?_⟩⟩)
 · have e:sDo t c=(((sFile t c).1),(sFile t c).2):=by
     unfold sDo;(try rw[hc5]);(try simp only[cond_true,cond_false]);(try rw[hc11]);(try simp only[cond_true,cond_false]);(try rw[hc19]);(try simp only[cond_true,cond_false])
     try first|rfl|(simp only[sDo,newDir,wMode,Tr.none,fits];done)|(simp only[sDo,newDir,wMode,Tr.none,fits];rfl)
   refine fin_lea ?_
   rw[e];exact lea_refl _
 refine Rb (fun h=>Jn (hK17 h)) (Fn1 [2,3,4,7,8,25] [(41,.bool (decide ((c.kind:Int)=(3:Int))))] (Ki/\·) ⟨rfl,Cc (decide ((c.kind:Int)=(3:Int))) (fun hc21 c21=>?_) fun hc21 c21=>?_⟩)
 refine Rr (Bc1 3 [(45,.agg (clc c)),(44,.agg (tcs t))] 103 [.agg (tcs t),.agg (clc c)] 46 ((0+5<=5/\0<5)/\(0+5<=5/\0<5)/\·) ⟨dc,dc,PE.use (l2File_ok t c om (by assumption) om om om om (by have:=h9 (by first|(left;simpa using hc21)|(right;simpa using hc21));omega) (by have:=h9 (by first|(left;simpa using hc21)|(right;simpa using hc21));omega)) (Ke (Fn3 [4] [(5,.i ((sFile t c).2))] (Hw [(8,tcs ((sFile t c).1))] [] ·) 16 ((0<2)/\(1<2)/\(true=true/\5=5/\0+5<=5)/\·) ⟨dc,dc,dc,?_⟩))⟩)
 refine Rt1 ((0+5<=5/\0<5)/\·) (.tup [.agg (tcs ((sFile t c).1)),.i ((sFile t c).2)]) ⟨dc,?_⟩
 · have e:sDo t c=(((sFile t c).1),(sFile t c).2):=by
     unfold sDo;(try rw[hc5]);(try simp only[cond_true,cond_false]);(try rw[hc11]);(try simp only[cond_true,cond_false]);(try rw[hc19]);(try simp only[cond_true,cond_false]);(try rw[hc21]);(try simp only[cond_true,cond_false])
     try first|rfl|(simp only[sDo,newDir,wMode,Tr.none,fits];done)|(simp only[sDo,newDir,wMode,Tr.none,fits];rfl)
   refine fin_lea ?_
   rw[e];exact lea_refl _
 refine Rr (Cn1 (decide ((c.kind:Int)=(5:Int))) [2,3,4,7,8] [] (Ki/\·) ⟨rfl,fun hc24 c24=>?_,fun hc24 c24=>?_⟩)
 refine Rr (Bc1 3 [(52,.agg (clc c)),(51,.agg (tcs t))] 104 [.agg (tcs t),.agg (clc c)] 53 ((0+5<=5/\0<5)/\(0+5<=5/\0<5)/\·) ⟨dc,dc,PE.use (l2Rename_ok t c om (by assumption) om om om om (h10 (by simpa using hc24)).1 (h10 (by simpa using hc24)).2) (Ke (Fn3 [4] [(5,.i ((sRename t c).2))] (Hw [(8,tcs ((sRename t c).1))] [] ·) 16 ((0<2)/\(1<2)/\(true=true/\5=5/\0+5<=5)/\·) ⟨dc,dc,dc,?_⟩))⟩)
 refine Rt1 ((0+5<=5/\0<5)/\·) (.tup [.agg (tcs ((sRename t c).1)),.i ((sRename t c).2)]) ⟨dc,?_⟩
 · have e:sDo t c=(((sRename t c).1),(sRename t c).2):=by
     unfold sDo;(try rw[hc5]);(try simp only[cond_true,cond_false]);(try rw[hc11]);(try simp only[cond_true,cond_false]);(try rw[hc19]);(try simp only[cond_true,cond_false]);(try rw[hc21]);(try simp only[cond_true,cond_false]);(try rw[hc24]);(try simp only[cond_true,cond_false])
     try first|rfl|(simp only[sDo,newDir,wMode,Tr.none,fits];done)|(simp only[sDo,newDir,wMode,Tr.none,fits];rfl)
   refine fin_lea ?_
   rw[e];exact lea_refl _
 refine Sk (Bn (Jn (hK8 (Kp [2,3,4,7,8] (Sq fun K26 hK26=>?_)))))
 refine Rr (Cn0 (!((tat t c.path).isSome)) [2,3,4,7] [] ⟨fun hc28 c28=>?_,fun hc28 c28=>?_⟩)
 refine Rr (Fn3 [4] [(5,.i 3)] (Hw [(8,tcs t)] [] ·) 16 ((0+5<=5/\0<5)/\(true=true/\5=5/\0+5<=5)/\·) ⟨dc,dc,Rt1 ((0+5<=5/\0<5)/\·) (.tup [.agg (tcs t),.i 3]) ⟨dc,?_⟩⟩)
 · have e:sDo t c=(t,3):=by
     unfold sDo;(try rw[hc5]);(try simp only[cond_true,cond_false]);(try rw[hc11]);(try simp only[cond_true,cond_false]);(try rw[hc19]);(try simp only[cond_true,cond_false]);(try rw[hc21]);(try simp only[cond_true,cond_false]);(try rw[hc24]);(try simp only[cond_true,cond_false]);(try rw[hc28]);(try simp only[cond_true,cond_false])
     try first|rfl|(simp only[sDo,newDir,wMode,Tr.none,fits];done)|(simp only[sDo,newDir,wMode,Tr.none,fits];rfl)
   refine fin_lea ?_
   rw[e];exact lea_refl _
 refine Sk (Jn (hK26 (Kp [2,3,4,7] (Sq fun K30 hK30=>?_))))
 refine Rr (Cn1 (decide ((c.kind:Int)=(4:Int))) [2,3,4,7] [] (((1:Nat)≠0)/\(0+1<=5/\0<5)/\Ki/\·) ⟨dc,dc,rfl,fun hc32 c32=>?_,fun hc32 c32=>?_⟩)
 refine Sq fun K33 hK33=>?_
 refine Rr (Av1 3 64 [(63,pth ((xat t c.path).names)),(62,.ptr 12 3)] (lnm ((xat t c.path).names) sc) (((1:Nat)≠0)/\(3+1<=5/\3<5)/\·) ⟨dc,dc,Cn1 (decide ((0:Int)<((((xat t c.path).names).length:Int):Int))) [2,3,4] [] (Ki/\·) ⟨rfl,fun hc35 c35=>?_,fun hc35 c35=>?_⟩⟩)
 refine Rr (Fn3 [4] [(5,.i 5)] (Hw [(8,tcs t)] [] ·) 16 ((0+5<=5/\0<5)/\(true=true/\5=5/\0+5<=5)/\·) ⟨dc,dc,Rt1 ((0+5<=5/\0<5)/\·) (.tup [.agg (tcs t),.i 5]) ⟨dc,?_⟩⟩)
 · have e:sDo t c=(t,5):=by
     unfold sDo;(try rw[hc5]);(try simp only[cond_true,cond_false]);(try rw[hc11]);(try simp only[cond_true,cond_false]);(try rw[hc19]);(try simp only[cond_true,cond_false]);(try rw[hc21]);(try simp only[cond_true,cond_false]);(try rw[hc24]);(try simp only[cond_true,cond_false]);(try rw[hc28]);(try simp only[cond_true,cond_false]);(try rw[hc32]);(try simp only[cond_true,cond_false]);(try rw[hc35]);(try simp only[cond_true,cond_false])
     try first|rfl|(simp only[sDo,newDir,wMode,Tr.none,fits];done)|(simp only[sDo,newDir,wMode,Tr.none,fits];rfl)
   refine fin_lea ?_
   rw[e];exact lea_refl _
 refine Sk (Jn (hK33 (Kp [2,3,4] (Rr (Bc1 5 [(70,.agg zt),(69,pth c.path),(68,.ptr 4 1),(67,.agg (tcs t))] 102 [.agg (tcs t),pth c.path,.agg zt,.bool true] 71 ((0+5<=5/\0<5)/\((1:Nat)≠0)/\(1+1<=5/\1<5)/\·) ⟨dc,dc,dc,?_⟩)))))
 have hX:((Tr.mk false 0 [] [] [])).W<2^12:=by simp only[W_eq (Tr.mk _ _ _ _ _),Tr.data_mk,Tr.names_mk,Tr.kids_mk,wS,Tr.Ws,List.length_nil];rw[W_eq (xat t c.path)]at hxw;omega
 have hB:=W_tset_lt2 (g:=true) hw hX h1
 refine TCall_le [.agg (tcs t),pth c.path,.agg (tcs (Tr.mk false 0 [] [] [])),.bool true] (by simp[lea,leas,pth,Tr.none,tcs,clc]) ?_
 refine PE.use (l2Set_ok _ c.path t (Tr.mk false 0 [] [] []) true rfl om (by assumption) om om) ?_
 refine Ke (Fn3 [4] [(5,.i 0)] (Hw [(8,tcs (tset c.path t (Tr.mk false 0 [] [] []) true))] [] ·) 16 ((true=true/\5=5/\0+5<=5)/\·) ⟨dc,Rt1 ((0+5<=5/\0<5)/\·) (.tup [.agg (tcs (tset c.path t (Tr.mk false 0 [] [] []) true)),.i 0]) ⟨dc,?_⟩⟩)
 · have e:sDo t c=((tset c.path t (Tr.mk false 0 [] [] []) true),0):=by
     unfold sDo;(try rw[hc5]);(try simp only[cond_true,cond_false]);(try rw[hc11]);(try simp only[cond_true,cond_false]);(try rw[hc19]);(try simp only[cond_true,cond_false]);(try rw[hc21]);(try simp only[cond_true,cond_false]);(try rw[hc24]);(try simp only[cond_true,cond_false]);(try rw[hc28]);(try simp only[cond_true,cond_false]);(try rw[hc32]);(try simp only[cond_true,cond_false]);(try rw[hc35]);(try simp only[cond_true,cond_false])
     try first|rfl|(simp only[sDo,newDir,wMode,Tr.none,fits];done)|(simp only[sDo,newDir,wMode,Tr.none,fits];rfl)
   refine fin_lea ?_
   rw[e];exact lea_refl _
 refine Sk (Jn (hK30 (Kp [2,3,4,7] (Rr (Fn3 [2,3,4,7] [] (Hw [(12,[.bool ((xat t c.path).dir),.i c.at_,.str ((xat t c.path).data),pth ((xat t c.path).names),.sl 5 (((xat t c.path).kids).map trc)])] [] ·) 16 (((1:Nat)≠0)/\(3+1<=5/\3<5)/\((1:Nat)≠0)/\(true=true/\1=1/\1+1<=5)/\·) ⟨dc,dc,dc,dc,Rr (Bc1 5 [(78,.agg [.bool ((xat t c.path).dir),.i c.at_,.str ((xat t c.path).data),pth ((xat t c.path).names),.sl 5 (((xat t c.path).kids).map trc)]),(77,pth c.path),(76,.ptr 4 1),(75,.agg (tcs t))] 102 [.agg (tcs t),pth c.path,.agg [.bool ((xat t c.path).dir),.i c.at_,.str ((xat t c.path).data),pth ((xat t c.path).names),.sl 5 (((xat t c.path).kids).map trc)],.bool false] 79 ((0+5<=5/\0<5)/\((1:Nat)≠0)/\(1+1<=5/\1<5)/\(0+5<=5/\0<5)/\·) ⟨dc,dc,dc,dc,?_⟩)⟩)))))
 have hX:((Tr.mk ((xat t c.path).dir) c.at_ ((xat t c.path).data) ((xat t c.path).names) ((xat t c.path).kids))).W<2^12:=by simp only[W_eq (Tr.mk _ _ _ _ _),Tr.data_mk,Tr.names_mk,Tr.kids_mk,wS,Tr.Ws,List.length_nil];rw[W_eq (xat t c.path)]at hxw;omega
 have hB:=W_tset_lt2 (g:=false) hw hX h1
 refine TCall_le [.agg (tcs t),pth c.path,.agg (tcs (Tr.mk ((xat t c.path).dir) c.at_ ((xat t c.path).data) ((xat t c.path).names) ((xat t c.path).kids))),.bool false] (by simp[lea,leas,pth,Tr.none,tcs,clc]) ?_
 refine PE.use (l2Set_ok _ c.path t (Tr.mk ((xat t c.path).dir) c.at_ ((xat t c.path).data) ((xat t c.path).names) ((xat t c.path).kids)) false rfl om (by assumption) om om) ?_
 refine Ke (Fn3 [4] [(5,.i 0)] (Hw [(8,tcs (tset c.path t (Tr.mk ((xat t c.path).dir) c.at_ ((xat t c.path).data) ((xat t c.path).names) ((xat t c.path).kids)) false))] [] ·) 16 ((true=true/\5=5/\0+5<=5)/\·) ⟨dc,Rt1 ((0+5<=5/\0<5)/\·) (.tup [.agg (tcs (tset c.path t (Tr.mk ((xat t c.path).dir) c.at_ ((xat t c.path).data) ((xat t c.path).names) ((xat t c.path).kids)) false)),.i 0]) ⟨dc,?_⟩⟩)
 · have e:sDo t c=((tset c.path t (Tr.mk ((xat t c.path).dir) c.at_ ((xat t c.path).data) ((xat t c.path).names) ((xat t c.path).kids)) false),0):=by
     unfold sDo;(try rw[hc5]);(try simp only[cond_true,cond_false]);(try rw[hc11]);(try simp only[cond_true,cond_false]);(try rw[hc19]);(try simp only[cond_true,cond_false]);(try rw[hc21]);(try simp only[cond_true,cond_false]);(try rw[hc24]);(try simp only[cond_true,cond_false]);(try rw[hc28]);(try simp only[cond_true,cond_false]);(try rw[hc32]);(try simp only[cond_true,cond_false])
     try first|rfl|(simp only[sDo,newDir,wMode,Tr.none,fits];done)|(simp only[sDo,newDir,wMode,Tr.none,fits];rfl)
   refine fin_lea ?_
   rw[e];exact lea_refl _
theorem sTreeDo_ok (t:Tr) (c:Cl) (hw0:t.W<2^40) (h1:wS c.path<2^40) (h2:wS c.to<2^40) (h3:c.data.length<2^20):PE G 59 [.agg (tcs t),.agg (clc c)] (.tup [.agg (tcs (sTreeDo t c).1),.i (sTreeDo t c).2]):=by
 have hl1:=wS_len c.path;have hl2:=wS_len c.to
 refine Pe Tryz.func59 ?_
 refine Rr (Fn2 [] [(4,.ptr 8 0),(3,.ptr 4 0),(2,.ptr 0 0)] ([(8,zt),(4,clc c),(0,tcs t)]++·) 12 (Sq fun K2 hK2=>?_))
 refine Rr (Pc1 2 [(8,.agg (tcs t))] 9 (0+5<=5/\0<5) dc (sTreeOk_c t om) (Cn0 (!(treeOk t)) [2,3,4] [] ⟨fun hc4 c4=>?_,fun hc4 c4=>?_⟩))
 refine Rr (Fn1 [4] [(5,.i 1)] ((true=true/\5=5/\0+5<=5)/\·) ⟨dc,Rt1 ((0+5<=5/\0<5)/\·) (.tup [.agg zt,.i 1]) ⟨dc,fin_lea ?_⟩⟩)
 unfold sTreeDo;(try rw[hc4]);(try simp only[cond_true,cond_false])
 try first|exact lea_refl _|(simp[lea,leas,Tr.none,pth])
 refine Sk (Jn (hK2 (Kp [2,3,4] (Sq fun K6 hK6=>?_))))
 refine Rr (Pc1 2 [(12,.agg (clc c))] 13 (0+5<=5/\0<5) dc (l2CallOk_ok c om (fun s hs=>Nat.lt_trans (wS_mem hs) om) om (fun s hs=>Nat.lt_trans (wS_mem hs) om)) (Cn0 (!(callOk c)) [2,3,4] [] ⟨fun hc8 c8=>?_,fun hc8 c8=>?_⟩))
 refine Rr (Pc1 2 [(15,.agg (tcs t))] 16 (0+5<=5/\0<5) dc (l1Copy_ok _ t rfl om) (Fn3 [4] [(5,.i 2)] (Hw [(8,tcs t)] [] ·) 12 ((true=true/\5=5/\0+5<=5)/\·) ⟨dc,Rt1 ((0+5<=5/\0<5)/\·) (.tup [.agg (tcs t),.i 2]) ⟨dc,fin_lea ?_⟩⟩))
 unfold sTreeDo;(try rw[hc4]);(try simp only[cond_true,cond_false]);(try rw[hc8]);(try simp only[cond_true,cond_false])
 try first|exact lea_refl _|(simp[lea,leas,Tr.none,pth])
 refine Sk (Jn (hK6 (Kp [2,3,4] ?_)))
 have hto:treeOk t=true:=by simpa using hc4
 have hco:callOk c=true:=by simpa using hc8
 have hw:=W_ok hto;have hwf:=wf_ok hto
 obtain⟨f1,f2,f3,f4⟩:=callOk_facts hco
 have hWd:=W_sDo (c:=c) hw f2
 refine Rr (Bc1 3 [(19,.agg (clc c)),(18,.agg (tcs t))] 83 [.agg (tcs t),.agg (clc c)] 20 ((0+5<=5/\0<5)/\(0+5<=5/\0<5)/\·) ⟨dc,dc,PE.use (l2Do_ok t c om hwf f2 h2 h3 f1 f3 f4) (Ke (Fn3 [4] [(7,.i ((sDo t c).2)),(6,.ptr 12 0)] ([(12,tcs ((sDo t c).1))]++·) 16 ((0<2)/\(1<2)/\(true=true/\5=5/\0+5<=5)/\·) ⟨dc,dc,dc,?_⟩))⟩)
 refine Rr (Pc1 2 [(23,.agg (tcs ((sDo t c).1)))] 24 (0+5<=5/\0<5) dc (l1Copy_ok _ ((sDo t c).1) rfl om) (Fn3 [4] [(5,.i ((sDo t c).2))] (Hw [(8,tcs ((sDo t c).1))] [] ·) 16 ((true=true/\5=5/\0+5<=5)/\·) ⟨dc,Rt1 ((0+5<=5/\0<5)/\·) (.tup [.agg (tcs ((sDo t c).1)),.i ((sDo t c).2)]) ⟨dc,fin_lea ?_⟩⟩))
 unfold sTreeDo;(try rw[hc4]);(try simp only[cond_true,cond_false]);(try rw[hc8]);(try simp only[cond_true,cond_false])
 try first|exact lea_refl _|(simp[lea,leas,Tr.none,pth])
open Go Go.Proofs
set_option maxRecDepth 100000
def pkX (b:Str) (p:Nat):Nat:=(b.getD (p%b.length) 0).toNat*131+(b.getD ((p*7+3)%b.length) 0).toNat*1117+p*29+p/b.length*53
def pkF (b:Str) (p m:Nat):Nat:=if b.length=0 then 0 else if p<b.length then(b.getD p 0).toNat%m else(pkX b p^^^pkX b p/64)%m
theorem pkF_lt (b:Str) (p:Nat) {m:Nat} (h:1<=m):pkF b p m<m:=by
  unfold pkF;split
  · omega
  · split<;>exact Nat.mod_lt _ h
theorem pickF_ok (b:Str) (p m:Nat) (hm:1<=m) (hm2:m<2^40) (hp:p<2^30) (hb:b.length<2^30):RC G 30 [.i m] b p (fun r p'=>r=.i ((pkF b p m:Nat):Int)/\p'=p+1):=by
 refine h_rc (F:=[(0,.ptr 0 0),(1,.i m)]) (by simp only[go_sem]) Tryz.func30 kr kr ?_ kr
 refine Rr (Fn0 [0,1] [] (Rr (Av1 6 12 [(11,.i p),(10,.ptr 0 1),(9,.ptr 0 0),(8,.ptr 0 0),(7,.ptr 0 0)] (cI (wn1 p om)) (((1:Nat)≠0)/\(1+1<=2/\1<2)/\Ki/\·) ⟨dc,dc,rfl,Fn3 [0,1] [] (Hw [(0,[.sl 1 (b.map fun c=>[AV.int .u8 (c.toNat:Int)]),.i ((p+1:Nat):Int)])] [] ·) 4 (((1:Nat)≠0)/\(true=true/\1=1/\1+1<=2)/\·) ⟨dc,dc,?_⟩⟩)))
 refine Sq fun K3 hK3=>?_
 refine Rm 24 ((decide ((m:Int)<1))||(decide ((b.length:Int)=0))) [0,1] ?_ ?_
 refine An1 3 [(17,.bool (decide ((m:Int)<1))),(16,.bool (decide ((m:Int)<1))),(15,.i m)] (Ki/\·) ⟨rfl,Rg (fun hg5 g5=>?_) (fun hg5 g5=>?_)⟩
 refine Mn0 true (by rw[hg5];rfl)
 refine Av1 5 22 [(21,.sl 1 (b.map fun c=>[AV.int .u8 (c.toNat:Int)])),(20,.ptr 0 0),(19,.ptr 0 0),(18,.ptr 0 0)] (lnm b uc) (((1:Nat)≠0)/\(0+1<=2/\0<2)/\·) ⟨dc,dc,Mn1 (decide ((b.length:Int)=0)) (Ki/\·) ⟨rfl,(by rw[hg5];rfl)⟩⟩
 refine Cc ((decide ((m:Int)<1))||(decide ((b.length:Int)=0))) (fun hc6 c6=>?_) fun hc6 c6=>?_
 refine Rr (Fn0 [] [(4,.i 0)] (Rt (.i 0) ?_))
 exact fin_rc (p+1) (lea_refl _) (by simp only[go_sem]) kr (⟨by unfold pkF;first|(rw[if_pos om];rfl)|(rw[if_neg om,if_pos om])|(rw[if_neg om,if_neg om];rfl),rfl⟩)
 refine Sk (Jn (hK3 (Kp [0,1] (Rr (Av1 5 29 [(28,.i ((p+1:Nat):Int)),(27,.ptr 0 1),(26,.ptr 0 0),(25,.ptr 0 0)] (cI (wnp p om)) (((1:Nat)≠0)/\(1+1<=2/\1<2)/\Ki/\·) ⟨dc,dc,rfl,Fn0 [0,1] [(5,.i p)] (Sq fun K9 hK9=>?_)⟩)))))
 refine Rr (Av1 6 35 [(34,.sl 1 (b.map fun c=>[AV.int .u8 (c.toNat:Int)])),(33,.ptr 0 0),(32,.ptr 0 0),(31,.ptr 0 0),(30,.i p)] (lnm b uc) (((1:Nat)≠0)/\(0+1<=2/\0<2)/\·) ⟨dc,dc,Cn1 (decide ((p:Int)<(b.length:Int))) [0,1,5] [] (Ki/\·) ⟨rfl,fun hc11 c11=>?_,fun hc11 c11=>?_⟩⟩)
 refine Rr (Av1 6 42 [(41,.i p),(40,.sl 1 (b.map fun c=>[AV.int .u8 (c.toNat:Int)])),(39,.ptr 0 0),(38,.ptr 0 0),(37,.ptr 0 0)] (congrArg AV.pat (mg_u8 b p om)) (fun Z=>((1:Nat)≠0)/\(0+1<=2/\0<2)/\(1=1/\(0:Int)<=(p:Int)/\(p:Int)<(((b.map (fun c=>[AV.int .u8 (c.toNat:Int)])).length:Nat):Int))/\Z) ⟨dc,dc,⟨rfl,om,lmo⟩,?_⟩)
 have hu13:=UInt8.toNat_lt (b.getD p 0)
 refine Av1 (r:=.i (IntKind.i64.wrap ((b.getD p 0).toNat:Int))) (v:=.i ((b.getD p 0).toNat:Int)) 2 44 [(43,.int .u8 ((b.getD p 0).toNat:Int))] (cI (wrap64 om om)) ((1<=1/\0<1)/\·) ⟨dc,?_⟩
 have hm14:=Nat.mod_lt ((b.getD p 0).toNat) (show 0<m by omega)
 refine Av1 2 46 [(45,.i m)] (cI (nmod ((b.getD p 0).toNat) m)) ((IntKind.i64=IntKind.i64/\((m:Int):Int)≠0)/\·) ⟨⟨rfl,om⟩,Fn0 [] [(4,.i ((((b.getD p 0).toNat)%m:Nat):Int))] (Rt (.i ((((b.getD p 0).toNat)%m:Nat):Int)) ?_)⟩
 exact fin_rc (p+1) (lea_refl _) (by simp only[go_sem]) kr (⟨by unfold pkF;first|(rw[if_pos om];rfl)|(rw[if_neg om,if_pos om])|(rw[if_neg om,if_neg om];rfl),rfl⟩)
 refine Sk (Jn (hK9 (Kp [0,1,5] (Qr [0,1,3,7,0,0,32,96,224,480,1008,2047,4095,8191,16383,0,32768,98304,229376,0,524288,1572864,0,4194304,12582912,29360128,62914560,133693440,268402688,536838144,1073709056,2147450880,4294967295,0,8589934592,34359738367,0,0,137438953472,412316860416,962072674304,2061584302080,4329327034368,8727373545472,17592186044415,35184372088831] [(0,[]),(1,[]),(2,[]),(3,[]),(4,[]),(5,[]),(6,[]),(7,[]),(8,[]),(9,[]),(10,[]),(11,[]),(12,[]),(13,[]),(14,[]),(15,[]),(16,[]),(17,[]),(18,[]),(19,[]),(20,[]),(21,[]),(22,[]),(23,[]),(24,[]),(25,[]),(26,[]),(27,[]),(28,[]),(29,[]),(30,[]),(31,[]),(32,[]),(33,[]),(34,[]),(35,[]),(36,[]),(37,[]),(38,[]),(39,[]),(40,[]),(41,[]),(42,[]),(43,[]),(44,[]),(45,[])] (qAv1 10 56 [(55,.sl 1 (b.map fun c=>[AV.int .u8 (c.toNat:Int)])),(54,.ptr 0 0),(53,.ptr 0 0),(52,.ptr 0 0),(51,.i p),(50,.sl 1 (b.map fun c=>[AV.int .u8 (c.toNat:Int)])),(49,.ptr 0 0),(48,.ptr 0 0),(47,.ptr 0 0)] (lnm b uc) (((1:Nat)≠0)/\(0+1<=2/\0<2)/\((1:Nat)≠0)/\(0+1<=2/\0<2)/\·) ⟨dc,dc,dc,dc,?_⟩)))))
 have hm16:=Nat.mod_lt p (show 0<b.length by omega)
 refine qAv1 1 57 [] (cI (nmod p b.length)) ((IntKind.i64=IntKind.i64/\((b.length:Int):Int)≠0)/\·) ⟨⟨rfl,om⟩,qAv1 1 58 [] (congrArg AV.pat (mg_u8 b (p%b.length) om)) (fun Z=>(1=1/\(0:Int)<=((p%b.length:Nat):Int)/\((p%b.length:Nat):Int)<(((b.map (fun c=>[AV.int .u8 (c.toNat:Int)])).length:Nat):Int))/\Z) ⟨⟨rfl,om,lmo⟩,?_⟩⟩
 have hu17:=UInt8.toNat_lt (b.getD (p%b.length) 0)
 refine qAv1 (r:=.i (IntKind.i64.wrap ((b.getD (p%b.length) 0).toNat:Int))) (v:=.i ((b.getD (p%b.length) 0).toNat:Int)) 2 60 [(59,.int .u8 ((b.getD (p%b.length) 0).toNat:Int))] (cI (wrap64 om om)) ((1<=1/\0<1)/\·) ⟨dc,qAv1 1 61 [] (cI (wnm ((b.getD (p%b.length) 0).toNat) 131 om)) (Ki/\·) ⟨rfl,qAv1 6 67 [(66,.i p),(65,.sl 1 (b.map fun c=>[AV.int .u8 (c.toNat:Int)])),(64,.ptr 0 0),(63,.ptr 0 0),(62,.ptr 0 0)] (cI (wnm p 7 om)) (((1:Nat)≠0)/\(0+1<=2/\0<2)/\Ki/\·) ⟨dc,dc,rfl,qAv1 1 68 [] (cI (wnn (p*7) 3 om)) (Ki/\·) ⟨rfl,qAv1 5 73 [(72,.sl 1 (b.map fun c=>[AV.int .u8 (c.toNat:Int)])),(71,.ptr 0 0),(70,.ptr 0 0),(69,.ptr 0 0)] (lnm b uc) (((1:Nat)≠0)/\(0+1<=2/\0<2)/\·) ⟨dc,dc,?_⟩⟩⟩⟩⟩
 have hm18:=Nat.mod_lt (p*7+3) (show 0<b.length by omega)
 refine qAv1 1 74 [] (cI (nmod (p*7+3) b.length)) ((IntKind.i64=IntKind.i64/\((b.length:Int):Int)≠0)/\·) ⟨⟨rfl,om⟩,qAv1 1 75 [] (congrArg AV.pat (mg_u8 b ((p*7+3)%b.length) om)) (fun Z=>(1=1/\(0:Int)<=(((p*7+3)%b.length:Nat):Int)/\(((p*7+3)%b.length:Nat):Int)<(((b.map (fun c=>[AV.int .u8 (c.toNat:Int)])).length:Nat):Int))/\Z) ⟨⟨rfl,om,lmo⟩,?_⟩⟩
 have hu19:=UInt8.toNat_lt (b.getD ((p*7+3)%b.length) 0)
 refine qAv1 (r:=.i (IntKind.i64.wrap (((b.getD ((p*7+3)%b.length) 0).toNat:Nat):Int))) (v:=.i (((b.getD ((p*7+3)%b.length) 0).toNat:Nat):Int)) 2 77 [(76,.int .u8 (((b.getD ((p*7+3)%b.length) 0).toNat:Nat):Int))] (cI (wrap64 om om)) ((1<=1/\0<1)/\·) ⟨dc,qAv1 1 78 [] (cI (wnm ((b.getD ((p*7+3)%b.length) 0).toNat) 1117 om)) (Ki/\·) ⟨rfl,qAv1 1 79 [] (cI (wnn (((b.getD (p%b.length) 0).toNat)*131) (((b.getD ((p*7+3)%b.length) 0).toNat)*1117) om)) (Ki/\·) ⟨rfl,qAv1 2 81 [(80,.i p)] (cI (wnm p 29 om)) (Ki/\·) ⟨rfl,qAv1 1 82 [] (cI (wnn ((((b.getD (p%b.length) 0).toNat)*131)+(((b.getD ((p*7+3)%b.length) 0).toNat)*1117)) (p*29) om)) (Ki/\·) ⟨rfl,?_⟩⟩⟩⟩⟩
 refine qAv1 6 88 [(87,.sl 1 (b.map fun c=>[AV.int .u8 (c.toNat:Int)])),(86,.ptr 0 0),(85,.ptr 0 0),(84,.ptr 0 0),(83,.i p)] (lnm b uc) (((1:Nat)≠0)/\(0+1<=2/\0<2)/\·) ⟨dc,dc,?_⟩
 have hm20:=Nat.div_le_self p b.length
 refine qAv1 1 89 [] (cI (ndiv p b.length om)) ((IntKind.i64=IntKind.i64/\((b.length:Int):Int)≠0)/\·) ⟨⟨rfl,om⟩,qAv1 1 90 [] (cI (wnm (p/b.length) 53 om)) (Ki/\·) ⟨rfl,qAv1 1 91 [] (cI (wnn (((((b.getD (p%b.length) 0).toNat)*131)+(((b.getD ((p*7+3)%b.length) 0).toNat)*1117))+(p*29)) ((p/b.length)*53) om)) (Ki/\·) ⟨rfl,qFn0 [1] [(6,.i (((((((b.getD (p%b.length) 0).toNat)*131)+(((b.getD ((p*7+3)%b.length) 0).toNat)*1117))+(p*29))+((p/b.length)*53):Nat):Int))] (Rr ?_)⟩⟩⟩
 have hm22:=Nat.div_le_self ((((((b.getD (p%b.length) 0).toNat)*131)+(((b.getD ((p*7+3)%b.length) 0).toNat)*1117))+(p*29))+((p/b.length)*53)) 64
 refine Av1 3 94 [(93,.i (((((((b.getD (p%b.length) 0).toNat)*131)+(((b.getD ((p*7+3)%b.length) 0).toNat)*1117))+(p*29))+((p/b.length)*53):Nat):Int)),(92,.i (((((((b.getD (p%b.length) 0).toNat)*131)+(((b.getD ((p*7+3)%b.length) 0).toNat)*1117))+(p*29))+((p/b.length)*53):Nat):Int))] (cI (ndiv ((((((b.getD (p%b.length) 0).toNat)*131)+(((b.getD ((p*7+3)%b.length) 0).toNat)*1117))+(p*29))+((p/b.length)*53)) 64 om)) ((IntKind.i64=IntKind.i64/\(64:Int)≠0)/\·) ⟨⟨rfl,om⟩,Av1 (r:=.i (IntKind.i64.wrap (((BitVec.ofInt IntKind.i64.bits (((((((b.getD (p%b.length) 0).toNat)*131)+(((b.getD ((p*7+3)%b.length) 0).toNat)*1117))+(p*29))+((p/b.length)*53):Nat):Int)^^^BitVec.ofInt IntKind.i64.bits ((((((((b.getD (p%b.length) 0).toNat)*131)+(((b.getD ((p*7+3)%b.length) 0).toNat)*1117))+(p*29))+((p/b.length)*53))/64:Nat):Int)).toNat:Nat):Int))) (v:=.i ((((((((b.getD (p%b.length) 0).toNat)*131)+(((b.getD ((p*7+3)%b.length) 0).toNat)*1117))+(p*29))+((p/b.length)*53))^^^(((((((b.getD (p%b.length) 0).toNat)*131)+(((b.getD ((p*7+3)%b.length) 0).toNat)*1117))+(p*29))+((p/b.length)*53))/64):Nat):Int)) 1 95 [] (cI (wxor ((((((b.getD (p%b.length) 0).toNat)*131)+(((b.getD ((p*7+3)%b.length) 0).toNat)*1117))+(p*29))+((p/b.length)*53)) (((((((b.getD (p%b.length) 0).toNat)*131)+(((b.getD ((p*7+3)%b.length) 0).toNat)*1117))+(p*29))+((p/b.length)*53))/64) om om)) (Ki/\·) ⟨rfl,Fn0 [1] [(6,.i ((((((((b.getD (p%b.length) 0).toNat)*131)+(((b.getD ((p*7+3)%b.length) 0).toNat)*1117))+(p*29))+((p/b.length)*53))^^^(((((((b.getD (p%b.length) 0).toNat)*131)+(((b.getD ((p*7+3)%b.length) 0).toNat)*1117))+(p*29))+((p/b.length)*53))/64):Nat):Int))] (Rr ?_)⟩⟩
 have hm24:=Nat.mod_lt (((((((b.getD (p%b.length) 0).toNat)*131)+(((b.getD ((p*7+3)%b.length) 0).toNat)*1117))+(p*29))+((p/b.length)*53))^^^(((((((b.getD (p%b.length) 0).toNat)*131)+(((b.getD ((p*7+3)%b.length) 0).toNat)*1117))+(p*29))+((p/b.length)*53))/64)) (show 0<m by omega)
 refine Av1 3 98 [(97,.i m),(96,.i ((((((((b.getD (p%b.length) 0).toNat)*131)+(((b.getD ((p*7+3)%b.length) 0).toNat)*1117))+(p*29))+((p/b.length)*53))^^^(((((((b.getD (p%b.length) 0).toNat)*131)+(((b.getD ((p*7+3)%b.length) 0).toNat)*1117))+(p*29))+((p/b.length)*53))/64):Nat):Int))] (cI (nmod (((((((b.getD (p%b.length) 0).toNat)*131)+(((b.getD ((p*7+3)%b.length) 0).toNat)*1117))+(p*29))+((p/b.length)*53))^^^(((((((b.getD (p%b.length) 0).toNat)*131)+(((b.getD ((p*7+3)%b.length) 0).toNat)*1117))+(p*29))+((p/b.length)*53))/64)) m)) ((IntKind.i64=IntKind.i64/\((m:Int):Int)≠0)/\·) ⟨⟨rfl,om⟩,Fn0 [] [(4,.i (((((((((b.getD (p%b.length) 0).toNat)*131)+(((b.getD ((p*7+3)%b.length) 0).toNat)*1117))+(p*29))+((p/b.length)*53))^^^(((((((b.getD (p%b.length) 0).toNat)*131)+(((b.getD ((p*7+3)%b.length) 0).toNat)*1117))+(p*29))+((p/b.length)*53))/64))%m:Nat):Int))] (Rt (.i (((((((((b.getD (p%b.length) 0).toNat)*131)+(((b.getD ((p*7+3)%b.length) 0).toNat)*1117))+(p*29))+((p/b.length)*53))^^^(((((((b.getD (p%b.length) 0).toNat)*131)+(((b.getD ((p*7+3)%b.length) 0).toNat)*1117))+(p*29))+((p/b.length)*53))/64))%m:Nat):Int)) ?_)⟩
 exact fin_rc (p+1) (lea_refl _) (by simp only[go_sem]) kr (⟨by unfold pkF;first|(rw[if_pos om];rfl)|(rw[if_neg om,if_pos om])|(rw[if_neg om,if_neg om];rfl),rfl⟩)
theorem pick_ok (b:Str) (p m:Nat) (hm:1<=m) (hm2:m<2^40) (hp:p<2^30) (hb:b.length<2^30):RC G 30 [.i m] b p (fun r p'=>∃k:Nat,k<m/\r=.i k/\p'=p+1):=
  fun H n id hg hc=>(pickF_ok b p m hm hm2 hp hb H n id hg hc).mono fun r H' n' _ ⟨p',h1,h2,h3,h4⟩=>⟨p',h1,h2,_,pkF_lt b p hm,h3,h4⟩
theorem of_ok (b:Str) (p:Nat) (X:List Str) (hm:1<=X.length) (hm2:X.length<2^40) (hp:p<2^30) (hb:b.length<2^30):RC G 47 [pth X] b p (fun r p'=>∃s:Str,s∈X/\r=.str s/\p'=p+1):=by
 refine h_rc (F:=[(0,.ptr 0 0),(1,pth X)]) (by simp only[go_sem]) Tryz.func47 kr kr ?_ kr
 refine Rr (Fn0 [0,1] [] (Rr (Av0 4 8 [(7,pth X),(6,.ptr 0 0),(5,pth X)] (lnm X sc) (Bc0 1 [] 30 [.ptr 0 0,.i X.length] 9 ?_))))
 refine RC.use (pick_ok b p X.length om om om om) kr fun r p1 hr=>?_;obtain⟨pk3,hpk3,rfl,rfl⟩:=hr
 refine Ke (Av1 1 10 [] (congrArg AV.pat (mg_str X pk3 om)) ((1=1/\(0:Int)<=(pk3:Int)/\(pk3:Int)<((X.map (fun s=>[AV.str s])).length:Int))/\·) ⟨⟨rfl,om,lmo⟩,Fn1 [] [(4,.str (X.getD pk3 default))] ((1<=1/\0<1)/\·) ⟨dc,Rt (.str (X.getD pk3 default)) ?_⟩⟩)
 exact fin_rc (p+1) (lea_refl _) (by simp only[go_sem]) kr (⟨_,getD_mem X _ default (by assumption),rfl,rfl⟩)
theorem l4Name_ok (b:Str) (p:Nat) (hp:p<2^30) (hb:b.length<2^30):RC G 46 [] b p (fun r p'=>∃s:Str,s.length<=5/\r=.str s/\p'=p+1):=by
 refine h_rc (F:=[(0,.ptr 0 0)]) (by simp only[go_sem]) Tryz.func46 kr kr ?_ kr
 refine Rr (Fn0 [0] [] (Rr (Bc3 3 [(4,.osl 4 1 0 5),(3,.ptr 0 0)] 47 [.ptr 0 0,.osl 4 1 0 5] 5 ([(4,[.str [97],.str [98],.str [99],.str [100,49],.str [101]])]++·) 8 ((5*1<=16777216)/\·) ⟨dc,Tz 4 1 5 ([[.str [97]],[.str [98]],[.str [99]],[.str [100,49]],[.str [101]]]) ([.str [97],.str [98],.str [99],.str [100,49],.str [101]]) [.ptr 0 0,pth [[97],[98],[99],[100,49],[101]]] [(0,rdc b p)] [true] kr (by first|decide|simp) ?_⟩)))
 refine RC.use (of_ok b p [[97],[98],[99],[100,49],[101]] (by first|omega|decide|simp) (by first|omega|decide|simp) om om) kr fun r p1 hr=>?_;obtain⟨os3,hos3,rfl,rfl⟩:=hr
 refine Ke (Fn0 [] [(2,.str os3)] (Rt (.str os3) ?_))
 exact fin_rc (p+1) (lea_refl _) (by simp only[go_sem]) kr (⟨_,by have hq:=hos3;simp only[List.mem_cons,List.not_mem_nil,or_false]at hq;rcases hq with h|h|h|h|h<;>rw[h]<;>decide,rfl,rfl⟩)
theorem many_step (a q:Nat):(a+a)*(q/2)+a*(q%2)=a*q:=by
  have:q=2*(q/2)+q%2:=by omega
  have h:a*q=a*(2*(q/2)+q%2):=by rw[<-this]
  rw[h,Nat.mul_add,<-Nat.mul_assoc,Nat.mul_comm a 2,Nat.two_mul]
theorem l1Many_ok (s:Str) (m:Nat) (hs:s.length<2^20) (hm:s.length*m<2^30) (hm2:m<2^30):PC G 48 [.str s,.i m] (fun r=>∃t:Str,r=.str t/\t.length<=s.length*m):=by
 refine h_pc (F:=[(0,.str s),(1,.i m)]) (by simp only[go_sem]) Tryz.func48 kr kr ?_ kr
 refine Rr (Fn0 [0,1] [] (Rr (Fn0 [0,1] [(5,.str [])] (Sq fun K3 hK3=>?_))))
 refine Bl (h_l (fun(z:Str×Str×Nat)=>(match z with|(o,u,q)=>([(0,.str u),(1,.i q),(5,.str o)]:Fr))) (fun(z:Str×Str×Nat)=>(match z with|(o,u,q)=>([]:Hp))) (fun(z:Str×Str×Nat) cn=>(match z with|(o,u,q)=>(o.length+u.length*q<=s.length*m/\u.length<=2*(s.length*m)+s.length/\q<=m)/\cn=0)) (fun(z:Str×Str×Nat)=>z.2.2) ([],s,m) kr ?_ ?_ ?_ ?_)
 refine⟨?_,rfl⟩;exact⟨by simp,om,Nat.le_refl _⟩
 exact⟨kr,kr,kr,trivial⟩
 exact(List.nil_sublist _)
 rintro⟨o,u,q⟩ n1 hI
 (try dsimp only at hI)
 obtain⟨⟨hi1,hi2,hi3⟩,rfl⟩:=hI
 refine Sq fun K4 hK4=>?_
 refine Rr (Cn1 (decide ((0:Int)<((q:Int):Int))) [0,1,5] [] (Ki/\·) ⟨rfl,fun hc6 c6=>?_,fun hc6 c6=>?_⟩)
 refine Sk (Jn (hK4 (Kp [0,1,5] (Bl (Sq fun K7 hK7=>?_)))))
 refine Rr ?_
 have hm9:=Nat.mod_lt q (show 0<2 by omega)
 refine Av1 2 9 [(8,.i q)] (cI (nmod q 2)) ((IntKind.i64=IntKind.i64/\(2:Int)≠0)/\·) ⟨⟨rfl,om⟩,Cn1 (decide (((q%2:Nat):Int)=1)) [0,1,5] [] (Ki/\·) ⟨rfl,fun hc10 c10=>?_,fun hc10 c10=>?_⟩⟩
 refine Rb (fun h=>Jn (hK7 h)) (Fn1 [0,1] [(5,.str (o++u))] ((o.length+u.length<=9223372036854775807)/\·) ⟨om,Rr (Fn1 [1,5] [(0,.str (u++u))] ((u.length+u.length<=9223372036854775807)/\·) ⟨om,Rn ?_⟩)⟩)
 have hm12:=Nat.div_le_self q 2
 refine Av1 2 18 [(17,.i q)] (cI (ndiv q 2 om)) ((IntKind.i64=IntKind.i64/\(2:Int)≠0)/\·) ⟨⟨rfl,om⟩,Gn0 [(1,.i ((q/2:Nat):Int))] (nk_n (Bn (Lr (o++u,u++u,q/2) [] 0 [(0,.str (u++u)),(1,.i ((q/2:Nat):Int)),(5,.str (o++u))] [] [] ?_ ?_ kr kr)))⟩
 (try dsimp only);omega
 refine⟨?_,rfl⟩;(try dsimp only);have e:=many_step u.length q;have e2:u.length*1<=u.length*q:=Nat.mul_le_mul_left _ om;simp only[List.length_append];have e3:q%2=1:=om;rw[e3]at e;exact⟨om,om,om⟩
 refine Sk (Jn (hK7 (Kp [0,1,5] (Rr (Fn1 [1,5] [(0,.str (u++u))] ((u.length+u.length<=9223372036854775807)/\·) ⟨om,Rn ?_⟩)))))
 have hm14:=Nat.div_le_self q 2
 refine Av1 2 18 [(17,.i q)] (cI (ndiv q 2 om)) ((IntKind.i64=IntKind.i64/\(2:Int)≠0)/\·) ⟨⟨rfl,om⟩,Gn0 [(1,.i ((q/2:Nat):Int))] (nk_n (Bn (Lr (o,u++u,q/2) [] 0 [(0,.str (u++u)),(1,.i ((q/2:Nat):Int)),(5,.str o)] [] [] ?_ ?_ kr kr)))⟩
 (try dsimp only);omega
 refine⟨?_,rfl⟩;(try dsimp only);have e:=many_step u.length q;have e2:u.length*1<=u.length*q:=Nat.mul_le_mul_left _ om;simp only[List.length_append];have e3:q%2=0:=om;rw[e3]at e;exact⟨om,om,om⟩
 refine Xt (Jx (Lx (Bh (Jn (hK3 (Kp [5] (Rr (Fn0 [] [(4,.str o)] (Rt (.str o) (⟨[],List.nil_sublist _,_,lea_refl _,⟨_,rfl,?_⟩,rfl⟩))))))))));have:0<=u.length*q:=Nat.zero_le _;omega
theorem l4Data_ok (b:Str) (p:Nat) (hp:p<2^29) (hb:b.length<2^30):RC G 45 [] b p (fun r p'=>∃s:Str,s.length<=24/\r=.str s/\p'=p+1+1):=by
 refine h_rc (F:=[(0,.ptr 0 0)]) (by simp only[go_sem]) Tryz.func45 kr kr ?_ kr
 refine Rr (Fn0 [0] [] (Rr (Bc0 3 [(4,.ptr 0 0),(3,.ptr 0 0)] 30 [.ptr 0 0,.i 25] 5 (RC.use (pick_ok b p 25 om om om om) kr fun r p1 hr=>?_))));obtain⟨pk3,hpk3,rfl,rfl⟩:=hr
 refine Ke (Bc0 1 [] 48 [.str [122],.i pk3] 6 (PC.use (l1Many_ok [122] pk3 (by first|omega|decide) (by first|omega|(simp only[List.length_cons,List.length_nil];omega)) om) fun r hr=>?_));obtain⟨mt4,rfl,hmt4⟩:=hr;simp only[List.length_cons,List.length_nil]at hmt4
 refine Ke (Bc3 2 [(7,.osl 4 1 0 6)] 47 [.ptr 0 0,.osl 4 1 0 6] 8 ([(4,[.str [],.str [120],.str [104,101,108,108,111],.str [0,255],.str [48,49,50,51,52,53,54,55,56,57],.str mt4])]++·) 8 ((6*1<=16777216)/\·) ⟨dc,Tz 4 1 6 ([[.str []],[.str [120]],[.str [104,101,108,108,111]],[.str [0,255]],[.str [48,49,50,51,52,53,54,55,56,57]],[.str mt4]]) ([.str [],.str [120],.str [104,101,108,108,111],.str [0,255],.str [48,49,50,51,52,53,54,55,56,57],.str mt4]) [.ptr 0 0,pth [[],[120],[104,101,108,108,111],[0,255],[48,49,50,51,52,53,54,55,56,57],mt4]] [(0,rdc b (p+1))] [true] kr (by first|decide|simp) (RC.use (of_ok b (p+1) [[],[120],[104,101,108,108,111],[0,255],[48,49,50,51,52,53,54,55,56,57],mt4] (by first|omega|decide|simp) (by first|omega|decide|simp) om om) kr fun r p1 hr=>?_)⟩);obtain⟨os5,hos5,rfl,rfl⟩:=hr
 refine Ke (Fn0 [] [(2,.str os5)] (Rt (.str os5) ?_))
 exact fin_rc (p+1+1) (lea_refl _) (by simp only[go_sem]) kr (⟨_,by have hq:=hos5;simp only[List.mem_cons,List.not_mem_nil,or_false]at hq;rcases hq with h|h|h|h|h|h<;>rw[h]<;>first|decide|omega,rfl,rfl⟩)
open Go Go.Proofs
set_option maxRecDepth 100000
theorem wS_snoc (o:List Str) (n:Str):wS (o++[n])=wS o+n.length+1:=by rw[wS_app];simp only[wS];omega
theorem l4Path_ok (b:Str) (p:Nat) (t:Tr) (hw:t.W<2^30) (hp:p<2^28) (hb:b.length<2^30):RC G 44 [.agg (tcs t)] b p (fun r p'=>∃o:List Str,0<o.length/\o.length<=4/\wS o<=6*4+t.W/\r=pth o/\p'<=p+16):=by
 refine h_rc (F:=[(0,.ptr 0 0),(1,.agg (tcs t))]) (by simp only[go_sem]) Tryz.func44 kr kr ?_ kr
 refine Rr (Fn2 [0] [(3,.ptr 4 0)] ([(4,tcs t)]++·) 8 (Rr (Fn3 [0,3] [(5,.osl 8 1 0 0)] ([(8,[])]++·) 12 ((0*1<=16777216)/\·) ⟨dc,Rr ?_⟩)))
 refine Fn3 [0,5] [(6,.ptr 12 0)] ([(12,tcs t)]++·) 16 ((0+5<=5/\0<5)/\(true=true/\5=5/\0+5<=5)/\·) ⟨dc,dc,Sq fun K4 hK4=>?_⟩
 refine Bl (h_pm (H':=[(8,[]),(12,tcs t),(0,rdc b p),(4,tcs t)]) (List.Perm.trans (List.Perm.cons _ (List.Perm.cons _ (List.Perm.swap _ _ _))) (List.Perm.swap _ _ _)) (h_l (fun(z:List Str×Tr×Nat)=>(match z with|(o,x,pp)=>([(0,.ptr 0 0),(5,.osl 8 1 0 o.length),(6,.ptr 12 0)]:Fr))) (fun(z:List Str×Tr×Nat)=>(match z with|(o,x,pp)=>([(8,fl sc o),(12,tcs x),(0,rdc b pp)]:Hp))) (fun(z:List Str×Tr×Nat) cn=>(match z with|(o,x,pp)=>(wS o+x.W<=t.W+6*o.length/\pp<=p+4*o.length/\o.length<=4)/\cn=16)) (fun(z:List Str×Tr×Nat)=>4-z.1.length) ([],t,p) kr ?_ ?_ ?_ ?_))
 refine⟨?_,rfl⟩;simp[wS]
 exact⟨kr,kr,kr,trivial⟩
 exact(sub_c kr (sub_c kr (sub_c kr (List.Sublist.cons _ (List.nil_sublist _)))))
 rintro⟨o,x,pp⟩ n1 hI
 (try dsimp only at hI)
 obtain⟨⟨hi1,hi2,hi3⟩,rfl⟩:=hI
 have hxW:=W_eq x;have hns:=wS_len x.names;have hks:=Ws_len x.kids
 refine Sq fun K5 hK5=>?_
 refine Rr (An1 4 [(14,.bool (decide ((o.length:Int)<4))),(13,.bool (decide ((o.length:Int)<4))),(12,.i o.length),(11,.osl 8 1 0 o.length)] (Ki/\·) ⟨rfl,Rg (fun hg7 g7=>?_) (fun hg7 g7=>?_)⟩)
 refine An1 4 [(18,.bool (decide ((o.length:Int)=0))),(17,.bool (decide ((o.length:Int)=0))),(16,.i o.length),(15,.osl 8 1 0 o.length)] (Ki/\·) ⟨rfl,Rg (fun hg8 g8=>?_) (fun hg8 g8=>?_)⟩
 refine Fn0 [0,5,6] [(23,.bool true)] (Ct (Sk (Jn (hK5 (Kp [0,5,6] (Bl (Rr ?_)))))))
 refine Bc0 2 [(24,.ptr 0 0)] 46 [.ptr 0 0] 25 ?_
 refine RC.use (l4Name_ok b pp om om) kr fun r p1 hr=>?_;obtain⟨ns10,hns10,rfl,rfl⟩:=hr
 refine Ke (Fn0 [0,5,6] [(7,.str ns10)] (Sq fun K11 hK11=>?_))
 refine Rr (Av1 3 28 [(27,pth x.names),(26,.ptr 12 3)] (lnm x.names sc) (((1:Nat)≠0)/\(3+1<=5/\3<5)/\·) ⟨dc,dc,An1 2 [(30,.bool (decide ((0:Int)<((x.names.length:Int):Int)))),(29,.bool (decide ((0:Int)<((x.names.length:Int):Int))))] (Ki/\·) ⟨rfl,Rg (fun hg13 g13=>?_) (fun hg13 g13=>?_)⟩⟩)
 refine Bc0 2 [(31,.ptr 0 0)] 30 [.ptr 0 0,.i 4] 32 ?_
 refine RC.use (pick_ok b (pp+1) 4 om om om om) kr fun r p1 hr=>?_;obtain⟨pk14,hpk14,rfl,rfl⟩:=hr
 refine Ke (Cn1 (decide ((0:Int)<((pk14:Int):Int))) [0,5,6,7] [] (Ki/\·) ⟨rfl,fun hc15 c15=>?_,fun hc15 c15=>?_⟩)
 refine Qb [0,1,0,0,8,24,60,127,255,511] [(0,[]),(1,[]),(2,[]),(3,[]),(4,[]),(5,[]),(6,[1]),(7,[]),(8,[]),(9,[])] (fun h=>Jn (hK11 h)) (qAv1 6 40 [(39,pth x.names),(38,.ptr 12 3),(37,.ptr 0 0),(36,pth x.names),(35,.ptr 12 3)] (lnm x.names sc) (((1:Nat)≠0)/\(3+1<=5/\3<5)/\((1:Nat)≠0)/\(3+1<=5/\3<5)/\·) ⟨dc,dc,dc,dc,qBc0 1 [] [1] 30 [.ptr 0 0,.i x.names.length] 41 (RC.use (pick_ok b (pp+1+1) x.names.length om om om om) kr fun r p1 hr=>?_)⟩);obtain⟨pk16,hpk16,rfl,rfl⟩:=hr
 refine Kq (p:=(((3+1<=5/\3<5)/\(pth x.names=pth x.names))/\True)) ⟨⟨dc,rfl⟩,trivial⟩ ?_
 refine qAv1 1 42 [] (congrArg AV.pat (mg_str x.names pk16 om)) ((1=1/\(0:Int)<=(pk16:Int)/\(pk16:Int)<((x.names.map (fun s=>[AV.str s])).length:Int))/\·) ⟨⟨rfl,om,lmo⟩,qFn1 [0,5,6] [(7,.str (x.names.getD pk16 default))] ((1<=1/\0<1)/\·) ⟨dc,Rr (An3 4 [(47,.osl 20 1 0 (o.length+1)),(46,.osl 16 1 0 1),(45,.str (x.names.getD pk16 default)),(44,.osl 8 1 0 o.length)] ([(20,apd (fl sc o) (o.length*1) [.str (x.names.getD pk16 default)]),(16,[.str (x.names.getD pk16 default)])]++Hw [] [8] ·) 24 ((1*1<=16777216)/\(0+1*1<=1)/\(1=1/\o.length*1<=(fl sc o).length/\0<16/\(o.length+1)*16<=140737488355328)/\·) ⟨dc,dc,⟨rfl,gl,dc,gl⟩,run_v (v':=.osl 20 1 0 ((o++[x.names.getD pk16 default]).length)) (push_len _ _ _ _) ?_⟩)⟩⟩
 refine run_h (cs':=fl sc (o++[x.names.getD pk16 default])) (push_str o (x.names.getD pk16 default)) ?_
 refine Fn0 [0,6,7] [(5,.osl 20 1 0 ((o++[x.names.getD pk16 default]).length))] (Rr (Pc1 3 [(49,.str (x.names.getD pk16 default)),(48,.agg (tcs x))] 50 (0+5<=5/\0<5) dc (l1Find_c x (x.names.getD pk16 default) om) (Fn0 [0,5,6] [(8,.i (fndI (x.names.getD pk16 default) x.names))] (Sq fun K19 hK19=>?_))))
 refine Rm 59 ((decide ((fndI (x.names.getD pk16 default) x.names:Int)<(0:Int)))||(decide ((x.kids.length:Int)<=fndI (x.names.getD pk16 default) x.names))) [0,5,6,8] ?_ ?_
 refine An1 3 [(53,.bool (decide ((fndI (x.names.getD pk16 default) x.names:Int)<(0:Int)))),(52,.bool (decide ((fndI (x.names.getD pk16 default) x.names:Int)<(0:Int)))),(51,.i (fndI (x.names.getD pk16 default) x.names))] (Ki/\·) ⟨rfl,Rg (fun hg21 g21=>?_) (fun hg21 g21=>?_)⟩
 refine Mn0 true (by rw[hg21];rfl)
 refine Av1 4 57 [(56,.sl 5 (x.kids.map trc)),(55,.ptr 12 4),(54,.i (fndI (x.names.getD pk16 default) x.names))] (lnm x.kids trc) (((1:Nat)≠0)/\(4+1<=5/\4<5)/\·) ⟨dc,dc,Mn1 (decide ((x.kids.length:Int)<=fndI (x.names.getD pk16 default) x.names)) (Ki/\·) ⟨rfl,(by rw[hg21];rfl)⟩⟩
 refine Cc ((decide ((fndI (x.names.getD pk16 default) x.names:Int)<(0:Int)))||(decide ((x.kids.length:Int)<=fndI (x.names.getD pk16 default) x.names))) (fun hc22 c22=>?_) fun hc22 c22=>?_
 refine Xt (Jx (Bx (Lx (Bh (Jn (hK4 (Kp [5] (Rr (Fn0 [] [(4,.osl 20 1 0 ((o++[x.names.getD pk16 default]).length))] (FzS 20 (o++[x.names.getD pk16 default]) [(4,.osl 20 1 0 ((o++[x.names.getD pk16 default]).length))] [(0,rdc b (pp+1+1+1))] [true] (Rt (pth (o++[x.names.getD pk16 default])) ?_)))))))))))
 have hn:(x.names.getD pk16 default).length<=5\/(x.names.getD pk16 default).length<wS x.names:=by first|exact .inl hx|exact .inr (wS_get _ _ om)
 have hnW:=wS_snoc o (x.names.getD pk16 default)
 have hoL:(o++[x.names.getD pk16 default]).length=o.length+1:=by simp
 exact fin_rc (pp+1+1+1) (lea_refl _) (by simp only[go_sem]) kr ⟨_,om,om,om,rfl,om⟩
 refine Sk (Jn (hK19 (Kp [0,5,6,8] (Rn (Av1 4 63 [(62,.i (fndI (x.names.getD pk16 default) x.names)),(61,.sl 5 (x.kids.map trc)),(60,.ptr 12 4)] (congrArg AV.pat (mg_trc x.kids ((fndI (x.names.getD pk16 default) x.names).toNat) om)) (((1:Nat)≠0)/\(4+1<=5/\4<5)/\(5=5/\(0:Int)<=fndI (x.names.getD pk16 default) x.names/\fndI (x.names.getD pk16 default) x.names<((x.kids.map trc).length:Int))/\·) ⟨dc,dc,⟨rfl,om,lmo⟩,Gn3 [(64,.agg (tcs (x.kids.getD ((fndI (x.names.getD pk16 default) x.names).toNat) default)))] (Hw [(12,tcs (x.kids.getD ((fndI (x.names.getD pk16 default) x.names).toNat) default))] [] ·) 24 ((5<=5/\0<5)/\(true=true/\5=5/\0+5<=5)/\·) ⟨dc,dc,nk_n ?_⟩⟩)))))
 refine Bn ?_
 have hn:(x.names.getD pk16 default).length<=5\/(x.names.getD pk16 default).length<wS x.names:=by first|exact .inl hx|exact .inr (wS_get _ _ om)
 have hnW:=wS_snoc o (x.names.getD pk16 default)
 have hkW:=Ws_get x.kids ((fndI (x.names.getD pk16 default) x.names).toNat) om
 have hoL:(o++[x.names.getD pk16 default]).length=o.length+1:=by simp
 refine Lr (o++[x.names.getD pk16 default],(x.kids.getD ((fndI (x.names.getD pk16 default) x.names).toNat) default),pp+1+1+1) [(0,0),(12,12),(20,8)] 16 [(0,.ptr 0 0),(5,.osl 20 1 0 ((o++[x.names.getD pk16 default]).length)),(6,.ptr 12 0)] [(20,fl sc (o++[x.names.getD pk16 default])),(12,tcs (x.kids.getD ((fndI (x.names.getD pk16 default) x.names).toNat) default)),(0,rdc b (pp+1+1+1))] [false,true,true] ?_ ?_ kr kr
 (try dsimp only);omega
 refine⟨?_,rfl⟩;(try dsimp only);exact⟨om,om,om⟩
 refine Sk (Jn (hK11 (Kp [0,5,6,7] (Rr (An3 4 [(47,.osl 20 1 0 (o.length+1)),(46,.osl 16 1 0 1),(45,.str ns10),(44,.osl 8 1 0 o.length)] ([(20,apd (fl sc o) (o.length*1) [.str ns10]),(16,[.str ns10])]++Hw [] [8] ·) 24 ((1*1<=16777216)/\(0+1*1<=1)/\(1=1/\o.length*1<=(fl sc o).length/\0<16/\(o.length+1)*16<=140737488355328)/\·) ⟨dc,dc,⟨rfl,gl,dc,gl⟩,run_v (v':=.osl 20 1 0 ((o++[ns10]).length)) (push_len _ _ _ _) (run_h (cs':=fl sc (o++[ns10])) (push_str o ns10) ?_)⟩)))))
 refine Fn0 [0,6,7] [(5,.osl 20 1 0 ((o++[ns10]).length))] (Rr (Pc1 3 [(49,.str ns10),(48,.agg (tcs x))] 50 (0+5<=5/\0<5) dc (l1Find_c x ns10 om) (Fn0 [0,5,6] [(8,.i (fndI ns10 x.names))] (Sq fun K26 hK26=>?_))))
 refine Rm 59 ((decide ((fndI ns10 x.names:Int)<(0:Int)))||(decide ((x.kids.length:Int)<=fndI ns10 x.names))) [0,5,6,8] ?_ ?_
 refine An1 3 [(53,.bool (decide ((fndI ns10 x.names:Int)<(0:Int)))),(52,.bool (decide ((fndI ns10 x.names:Int)<(0:Int)))),(51,.i (fndI ns10 x.names))] (Ki/\·) ⟨rfl,Rg (fun hg28 g28=>?_) (fun hg28 g28=>?_)⟩
 refine Mn0 true (by rw[hg28];rfl)
 refine Av1 4 57 [(56,.sl 5 (x.kids.map trc)),(55,.ptr 12 4),(54,.i (fndI ns10 x.names))] (lnm x.kids trc) (((1:Nat)≠0)/\(4+1<=5/\4<5)/\·) ⟨dc,dc,Mn1 (decide ((x.kids.length:Int)<=fndI ns10 x.names)) (Ki/\·) ⟨rfl,(by rw[hg28];rfl)⟩⟩
 refine Cc ((decide ((fndI ns10 x.names:Int)<(0:Int)))||(decide ((x.kids.length:Int)<=fndI ns10 x.names))) (fun hc29 c29=>?_) fun hc29 c29=>?_
 refine Xt (Jx (Bx (Lx (Bh (Jn (hK4 (Kp [5] (Rr (Fn0 [] [(4,.osl 20 1 0 ((o++[ns10]).length))] (FzS 20 (o++[ns10]) [(4,.osl 20 1 0 ((o++[ns10]).length))] [(0,rdc b (pp+1+1))] [true] (Rt (pth (o++[ns10])) ?_)))))))))))
 have hn:(ns10).length<=5\/(ns10).length<wS x.names:=by first|exact .inl hns10|exact .inr (wS_get _ _ om)
 have hnW:=wS_snoc o ns10
 have hoL:(o++[ns10]).length=o.length+1:=by simp
 exact fin_rc (pp+1+1) (lea_refl _) (by simp only[go_sem]) kr ⟨_,om,om,om,rfl,om⟩
 refine Sk (Jn (hK26 (Kp [0,5,6,8] (Rn (Av1 4 63 [(62,.i (fndI ns10 x.names)),(61,.sl 5 (x.kids.map trc)),(60,.ptr 12 4)] (congrArg AV.pat (mg_trc x.kids ((fndI ns10 x.names).toNat) om)) (((1:Nat)≠0)/\(4+1<=5/\4<5)/\(5=5/\(0:Int)<=fndI ns10 x.names/\fndI ns10 x.names<((x.kids.map trc).length:Int))/\·) ⟨dc,dc,⟨rfl,om,lmo⟩,Gn3 [(64,.agg (tcs (x.kids.getD ((fndI ns10 x.names).toNat) default)))] (Hw [(12,tcs (x.kids.getD ((fndI ns10 x.names).toNat) default))] [] ·) 24 ((5<=5/\0<5)/\(true=true/\5=5/\0+5<=5)/\·) ⟨dc,dc,nk_n ?_⟩⟩)))))
 refine Bn ?_
 have hn:(ns10).length<=5\/(ns10).length<wS x.names:=by first|exact .inl hns10|exact .inr (wS_get _ _ om)
 have hnW:=wS_snoc o ns10
 have hkW:=Ws_get x.kids ((fndI ns10 x.names).toNat) om
 have hoL:(o++[ns10]).length=o.length+1:=by simp
 refine Lr (o++[ns10],(x.kids.getD ((fndI ns10 x.names).toNat) default),pp+1+1) [(0,0),(12,12),(20,8)] 16 [(0,.ptr 0 0),(5,.osl 20 1 0 ((o++[ns10]).length)),(6,.ptr 12 0)] [(20,fl sc (o++[ns10])),(12,tcs (x.kids.getD ((fndI ns10 x.names).toNat) default)),(0,rdc b (pp+1+1))] [false,true,true] ?_ ?_ kr kr
 (try dsimp only);omega
 refine⟨?_,rfl⟩;(try dsimp only);exact⟨om,om,om⟩
 refine Fn0 [0,5,6,7] [(34,.bool false)] (Cf (Sk (Jn (hK11 (Kp [0,5,6,7] (Rr (An3 4 [(47,.osl 20 1 0 (o.length+1)),(46,.osl 16 1 0 1),(45,.str ns10),(44,.osl 8 1 0 o.length)] ([(20,apd (fl sc o) (o.length*1) [.str ns10]),(16,[.str ns10])]++Hw [] [8] ·) 24 ((1*1<=16777216)/\(0+1*1<=1)/\(1=1/\o.length*1<=(fl sc o).length/\0<16/\(o.length+1)*16<=140737488355328)/\·) ⟨dc,dc,⟨rfl,gl,dc,gl⟩,?_⟩)))))))
 refine run_v (v':=.osl 20 1 0 ((o++[ns10]).length)) (push_len _ _ _ _) ?_
 refine run_h (cs':=fl sc (o++[ns10])) (push_str o ns10) ?_
 refine Fn0 [0,6,7] [(5,.osl 20 1 0 ((o++[ns10]).length))] (Rr (Pc1 3 [(49,.str ns10),(48,.agg (tcs x))] 50 (0+5<=5/\0<5) dc (l1Find_c x ns10 om) (Fn0 [0,5,6] [(8,.i (fndI ns10 x.names))] (Sq fun K33 hK33=>?_))))
 refine Rm 59 ((decide ((fndI ns10 x.names:Int)<(0:Int)))||(decide ((x.kids.length:Int)<=fndI ns10 x.names))) [0,5,6,8] ?_ ?_
 refine An1 3 [(53,.bool (decide ((fndI ns10 x.names:Int)<(0:Int)))),(52,.bool (decide ((fndI ns10 x.names:Int)<(0:Int)))),(51,.i (fndI ns10 x.names))] (Ki/\·) ⟨rfl,Rg (fun hg35 g35=>?_) (fun hg35 g35=>?_)⟩
 refine Mn0 true (by rw[hg35];rfl)
 refine Av1 4 57 [(56,.sl 5 (x.kids.map trc)),(55,.ptr 12 4),(54,.i (fndI ns10 x.names))] (lnm x.kids trc) (((1:Nat)≠0)/\(4+1<=5/\4<5)/\·) ⟨dc,dc,Mn1 (decide ((x.kids.length:Int)<=fndI ns10 x.names)) (Ki/\·) ⟨rfl,(by rw[hg35];rfl)⟩⟩
 refine Cc ((decide ((fndI ns10 x.names:Int)<(0:Int)))||(decide ((x.kids.length:Int)<=fndI ns10 x.names))) (fun hc36 c36=>?_) fun hc36 c36=>?_
 refine Xt (Jx (Bx (Lx (Bh (Jn (hK4 (Kp [5] (Rr (Fn0 [] [(4,.osl 20 1 0 ((o++[ns10]).length))] (FzS 20 (o++[ns10]) [(4,.osl 20 1 0 ((o++[ns10]).length))] [(0,rdc b (pp+1))] [true] (Rt (pth (o++[ns10])) ?_)))))))))))
 have hn:(ns10).length<=5\/(ns10).length<wS x.names:=by first|exact .inl hns10|exact .inr (wS_get _ _ om)
 have hnW:=wS_snoc o ns10
 have hoL:(o++[ns10]).length=o.length+1:=by simp
 exact fin_rc (pp+1) (lea_refl _) (by simp only[go_sem]) kr ⟨_,om,om,om,rfl,om⟩
 refine Sk (Jn (hK33 (Kp [0,5,6,8] (Rn (Av1 4 63 [(62,.i (fndI ns10 x.names)),(61,.sl 5 (x.kids.map trc)),(60,.ptr 12 4)] (congrArg AV.pat (mg_trc x.kids ((fndI ns10 x.names).toNat) om)) (((1:Nat)≠0)/\(4+1<=5/\4<5)/\(5=5/\(0:Int)<=fndI ns10 x.names/\fndI ns10 x.names<((x.kids.map trc).length:Int))/\·) ⟨dc,dc,⟨rfl,om,lmo⟩,Gn3 [(64,.agg (tcs (x.kids.getD ((fndI ns10 x.names).toNat) default)))] (Hw [(12,tcs (x.kids.getD ((fndI ns10 x.names).toNat) default))] [] ·) 24 ((5<=5/\0<5)/\(true=true/\5=5/\0+5<=5)/\·) ⟨dc,dc,nk_n ?_⟩⟩)))))
 refine Bn ?_
 have hn:(ns10).length<=5\/(ns10).length<wS x.names:=by first|exact .inl hns10|exact .inr (wS_get _ _ om)
 have hnW:=wS_snoc o ns10
 have hkW:=Ws_get x.kids ((fndI ns10 x.names).toNat) om
 have hoL:(o++[ns10]).length=o.length+1:=by simp
 refine Lr (o++[ns10],(x.kids.getD ((fndI ns10 x.names).toNat) default),pp+1) [(0,0),(12,12),(20,8)] 16 [(0,.ptr 0 0),(5,.osl 20 1 0 ((o++[ns10]).length)),(6,.ptr 12 0)] [(20,fl sc (o++[ns10])),(12,tcs (x.kids.getD ((fndI ns10 x.names).toNat) default)),(0,rdc b (pp+1))] [false,true,true] ?_ ?_ kr kr
 (try dsimp only);omega
 refine⟨?_,rfl⟩;(try dsimp only);exact⟨om,om,om⟩
 refine Bc0 2 [(19,.ptr 0 0)] 30 [.ptr 0 0,.i 3] 20 ?_
 refine RC.use (pick_ok b pp 3 om om om om) kr fun r p1 hr=>?_;obtain⟨pk38,hpk38,rfl,rfl⟩:=hr
 refine Ke (Cn1 (decide ((0:Int)<((pk38:Int):Int))) [0,5,6] [] (Ki/\·) ⟨rfl,fun hc39 c39=>?_,fun hc39 c39=>?_⟩)
 refine Sk (Jn (hK5 (Kp [0,5,6] (Bl (Rr (Bc0 2 [(24,.ptr 0 0)] 46 [.ptr 0 0] 25 (RC.use (l4Name_ok b (pp+1) om om) kr fun r p1 hr=>?_)))))));obtain⟨ns41,hns41,rfl,rfl⟩:=hr
 refine Ke (Fn0 [0,5,6] [(7,.str ns41)] (Sq fun K42 hK42=>?_))
 refine Rr (Av1 3 28 [(27,pth x.names),(26,.ptr 12 3)] (lnm x.names sc) (((1:Nat)≠0)/\(3+1<=5/\3<5)/\·) ⟨dc,dc,An1 2 [(30,.bool (decide ((0:Int)<((x.names.length:Int):Int)))),(29,.bool (decide ((0:Int)<((x.names.length:Int):Int))))] (Ki/\·) ⟨rfl,Rg (fun hg44 g44=>?_) (fun hg44 g44=>?_)⟩⟩)
 refine Bc0 2 [(31,.ptr 0 0)] 30 [.ptr 0 0,.i 4] 32 ?_
 refine RC.use (pick_ok b (pp+1+1) 4 om om om om) kr fun r p1 hr=>?_;obtain⟨pk45,hpk45,rfl,rfl⟩:=hr
 refine Ke (Cn1 (decide ((0:Int)<((pk45:Int):Int))) [0,5,6,7] [] (Ki/\·) ⟨rfl,fun hc46 c46=>?_,fun hc46 c46=>?_⟩)
 refine Qb [0,1,0,0,8,24,60,127,255,511] [(0,[]),(1,[]),(2,[]),(3,[]),(4,[]),(5,[]),(6,[1]),(7,[]),(8,[]),(9,[])] (fun h=>Jn (hK42 h)) (qAv1 6 40 [(39,pth x.names),(38,.ptr 12 3),(37,.ptr 0 0),(36,pth x.names),(35,.ptr 12 3)] (lnm x.names sc) (((1:Nat)≠0)/\(3+1<=5/\3<5)/\((1:Nat)≠0)/\(3+1<=5/\3<5)/\·) ⟨dc,dc,dc,dc,qBc0 1 [] [1] 30 [.ptr 0 0,.i x.names.length] 41 (RC.use (pick_ok b (pp+1+1+1) x.names.length om om om om) kr fun r p1 hr=>?_)⟩);obtain⟨pk47,hpk47,rfl,rfl⟩:=hr
 refine Kq (p:=(((3+1<=5/\3<5)/\(pth x.names=pth x.names))/\True)) ⟨⟨dc,rfl⟩,trivial⟩ ?_
 refine qAv1 1 42 [] (congrArg AV.pat (mg_str x.names pk47 om)) ((1=1/\(0:Int)<=(pk47:Int)/\(pk47:Int)<((x.names.map (fun s=>[AV.str s])).length:Int))/\·) ⟨⟨rfl,om,lmo⟩,qFn1 [0,5,6] [(7,.str (x.names.getD pk47 default))] ((1<=1/\0<1)/\·) ⟨dc,Rr (An3 4 [(47,.osl 20 1 0 (o.length+1)),(46,.osl 16 1 0 1),(45,.str (x.names.getD pk47 default)),(44,.osl 8 1 0 o.length)] ([(20,apd (fl sc o) (o.length*1) [.str (x.names.getD pk47 default)]),(16,[.str (x.names.getD pk47 default)])]++Hw [] [8] ·) 24 ((1*1<=16777216)/\(0+1*1<=1)/\(1=1/\o.length*1<=(fl sc o).length/\0<16/\(o.length+1)*16<=140737488355328)/\·) ⟨dc,dc,⟨rfl,gl,dc,gl⟩,run_v (v':=.osl 20 1 0 ((o++[x.names.getD pk47 default]).length)) (push_len _ _ _ _) ?_⟩)⟩⟩
 refine run_h (cs':=fl sc (o++[x.names.getD pk47 default])) (push_str o (x.names.getD pk47 default)) ?_
 refine Fn0 [0,6,7] [(5,.osl 20 1 0 ((o++[x.names.getD pk47 default]).length))] (Rr (Pc1 3 [(49,.str (x.names.getD pk47 default)),(48,.agg (tcs x))] 50 (0+5<=5/\0<5) dc (l1Find_c x (x.names.getD pk47 default) om) (Fn0 [0,5,6] [(8,.i (fndI (x.names.getD pk47 default) x.names))] (Sq fun K50 hK50=>?_))))
 refine Rm 59 ((decide ((fndI (x.names.getD pk47 default) x.names:Int)<(0:Int)))||(decide ((x.kids.length:Int)<=fndI (x.names.getD pk47 default) x.names))) [0,5,6,8] ?_ ?_
 refine An1 3 [(53,.bool (decide ((fndI (x.names.getD pk47 default) x.names:Int)<(0:Int)))),(52,.bool (decide ((fndI (x.names.getD pk47 default) x.names:Int)<(0:Int)))),(51,.i (fndI (x.names.getD pk47 default) x.names))] (Ki/\·) ⟨rfl,Rg (fun hg52 g52=>?_) (fun hg52 g52=>?_)⟩
 refine Mn0 true (by rw[hg52];rfl)
 refine Av1 4 57 [(56,.sl 5 (x.kids.map trc)),(55,.ptr 12 4),(54,.i (fndI (x.names.getD pk47 default) x.names))] (lnm x.kids trc) (((1:Nat)≠0)/\(4+1<=5/\4<5)/\·) ⟨dc,dc,Mn1 (decide ((x.kids.length:Int)<=fndI (x.names.getD pk47 default) x.names)) (Ki/\·) ⟨rfl,(by rw[hg52];rfl)⟩⟩
 refine Cc ((decide ((fndI (x.names.getD pk47 default) x.names:Int)<(0:Int)))||(decide ((x.kids.length:Int)<=fndI (x.names.getD pk47 default) x.names))) (fun hc53 c53=>?_) fun hc53 c53=>?_
 refine Xt (Jx (Bx (Lx (Bh (Jn (hK4 (Kp [5] (Rr (Fn0 [] [(4,.osl 20 1 0 ((o++[x.names.getD pk47 default]).length))] (FzS 20 (o++[x.names.getD pk47 default]) [(4,.osl 20 1 0 ((o++[x.names.getD pk47 default]).length))] [(0,rdc b (pp+1+1+1+1))] [true] (Rt (pth (o++[x.names.getD pk47 default])) ?_)))))))))))
 have hn:(x.names.getD pk47 default).length<=5\/(x.names.getD pk47 default).length<wS x.names:=by first|exact .inl hx|exact .inr (wS_get _ _ om)
 have hnW:=wS_snoc o (x.names.getD pk47 default)
 have hoL:(o++[x.names.getD pk47 default]).length=o.length+1:=by simp
 exact fin_rc (pp+1+1+1+1) (lea_refl _) (by simp only[go_sem]) kr ⟨_,om,om,om,rfl,om⟩
 refine Sk (Jn (hK50 (Kp [0,5,6,8] (Rn (Av1 4 63 [(62,.i (fndI (x.names.getD pk47 default) x.names)),(61,.sl 5 (x.kids.map trc)),(60,.ptr 12 4)] (congrArg AV.pat (mg_trc x.kids ((fndI (x.names.getD pk47 default) x.names).toNat) om)) (((1:Nat)≠0)/\(4+1<=5/\4<5)/\(5=5/\(0:Int)<=fndI (x.names.getD pk47 default) x.names/\fndI (x.names.getD pk47 default) x.names<((x.kids.map trc).length:Int))/\·) ⟨dc,dc,⟨rfl,om,lmo⟩,Gn3 [(64,.agg (tcs (x.kids.getD ((fndI (x.names.getD pk47 default) x.names).toNat) default)))] (Hw [(12,tcs (x.kids.getD ((fndI (x.names.getD pk47 default) x.names).toNat) default))] [] ·) 24 ((5<=5/\0<5)/\(true=true/\5=5/\0+5<=5)/\·) ⟨dc,dc,nk_n ?_⟩⟩)))))
 refine Bn ?_
 have hn:(x.names.getD pk47 default).length<=5\/(x.names.getD pk47 default).length<wS x.names:=by first|exact .inl hx|exact .inr (wS_get _ _ om)
 have hnW:=wS_snoc o (x.names.getD pk47 default)
 have hkW:=Ws_get x.kids ((fndI (x.names.getD pk47 default) x.names).toNat) om
 have hoL:(o++[x.names.getD pk47 default]).length=o.length+1:=by simp
 refine Lr (o++[x.names.getD pk47 default],(x.kids.getD ((fndI (x.names.getD pk47 default) x.names).toNat) default),pp+1+1+1+1) [(0,0),(12,12),(20,8)] 16 [(0,.ptr 0 0),(5,.osl 20 1 0 ((o++[x.names.getD pk47 default]).length)),(6,.ptr 12 0)] [(20,fl sc (o++[x.names.getD pk47 default])),(12,tcs (x.kids.getD ((fndI (x.names.getD pk47 default) x.names).toNat) default)),(0,rdc b (pp+1+1+1+1))] [false,true,true] ?_ ?_ kr kr
 (try dsimp only);omega
 refine⟨?_,rfl⟩;(try dsimp only);exact⟨om,om,om⟩
 refine Sk (Jn (hK42 (Kp [0,5,6,7] (Rr (An3 4 [(47,.osl 20 1 0 (o.length+1)),(46,.osl 16 1 0 1),(45,.str ns41),(44,.osl 8 1 0 o.length)] ([(20,apd (fl sc o) (o.length*1) [.str ns41]),(16,[.str ns41])]++Hw [] [8] ·) 24 ((1*1<=16777216)/\(0+1*1<=1)/\(1=1/\o.length*1<=(fl sc o).length/\0<16/\(o.length+1)*16<=140737488355328)/\·) ⟨dc,dc,⟨rfl,gl,dc,gl⟩,run_v (v':=.osl 20 1 0 ((o++[ns41]).length)) (push_len _ _ _ _) (run_h (cs':=fl sc (o++[ns41])) (push_str o ns41) ?_)⟩)))))
 refine Fn0 [0,6,7] [(5,.osl 20 1 0 ((o++[ns41]).length))] (Rr (Pc1 3 [(49,.str ns41),(48,.agg (tcs x))] 50 (0+5<=5/\0<5) dc (l1Find_c x ns41 om) (Fn0 [0,5,6] [(8,.i (fndI ns41 x.names))] (Sq fun K57 hK57=>?_))))
 refine Rm 59 ((decide ((fndI ns41 x.names:Int)<(0:Int)))||(decide ((x.kids.length:Int)<=fndI ns41 x.names))) [0,5,6,8] ?_ ?_
 refine An1 3 [(53,.bool (decide ((fndI ns41 x.names:Int)<(0:Int)))),(52,.bool (decide ((fndI ns41 x.names:Int)<(0:Int)))),(51,.i (fndI ns41 x.names))] (Ki/\·) ⟨rfl,Rg (fun hg59 g59=>?_) (fun hg59 g59=>?_)⟩
 refine Mn0 true (by rw[hg59];rfl)
 refine Av1 4 57 [(56,.sl 5 (x.kids.map trc)),(55,.ptr 12 4),(54,.i (fndI ns41 x.names))] (lnm x.kids trc) (((1:Nat)≠0)/\(4+1<=5/\4<5)/\·) ⟨dc,dc,Mn1 (decide ((x.kids.length:Int)<=fndI ns41 x.names)) (Ki/\·) ⟨rfl,(by rw[hg59];rfl)⟩⟩
 refine Cc ((decide ((fndI ns41 x.names:Int)<(0:Int)))||(decide ((x.kids.length:Int)<=fndI ns41 x.names))) (fun hc60 c60=>?_) fun hc60 c60=>?_
 refine Xt (Jx (Bx (Lx (Bh (Jn (hK4 (Kp [5] (Rr (Fn0 [] [(4,.osl 20 1 0 ((o++[ns41]).length))] (FzS 20 (o++[ns41]) [(4,.osl 20 1 0 ((o++[ns41]).length))] [(0,rdc b (pp+1+1+1))] [true] (Rt (pth (o++[ns41])) ?_)))))))))))
 have hn:(ns41).length<=5\/(ns41).length<wS x.names:=by first|exact .inl hns41|exact .inr (wS_get _ _ om)
 have hnW:=wS_snoc o ns41
 have hoL:(o++[ns41]).length=o.length+1:=by simp
 exact fin_rc (pp+1+1+1) (lea_refl _) (by simp only[go_sem]) kr ⟨_,om,om,om,rfl,om⟩
 refine Sk (Jn (hK57 (Kp [0,5,6,8] (Rn (Av1 4 63 [(62,.i (fndI ns41 x.names)),(61,.sl 5 (x.kids.map trc)),(60,.ptr 12 4)] (congrArg AV.pat (mg_trc x.kids ((fndI ns41 x.names).toNat) om)) (((1:Nat)≠0)/\(4+1<=5/\4<5)/\(5=5/\(0:Int)<=fndI ns41 x.names/\fndI ns41 x.names<((x.kids.map trc).length:Int))/\·) ⟨dc,dc,⟨rfl,om,lmo⟩,Gn3 [(64,.agg (tcs (x.kids.getD ((fndI ns41 x.names).toNat) default)))] (Hw [(12,tcs (x.kids.getD ((fndI ns41 x.names).toNat) default))] [] ·) 24 ((5<=5/\0<5)/\(true=true/\5=5/\0+5<=5)/\·) ⟨dc,dc,nk_n ?_⟩⟩)))))
 refine Bn ?_
 have hn:(ns41).length<=5\/(ns41).length<wS x.names:=by first|exact .inl hns41|exact .inr (wS_get _ _ om)
 have hnW:=wS_snoc o ns41
 have hkW:=Ws_get x.kids ((fndI ns41 x.names).toNat) om
 have hoL:(o++[ns41]).length=o.length+1:=by simp
 refine Lr (o++[ns41],(x.kids.getD ((fndI ns41 x.names).toNat) default),pp+1+1+1) [(0,0),(12,12),(20,8)] 16 [(0,.ptr 0 0),(5,.osl 20 1 0 ((o++[ns41]).length)),(6,.ptr 12 0)] [(20,fl sc (o++[ns41])),(12,tcs (x.kids.getD ((fndI ns41 x.names).toNat) default)),(0,rdc b (pp+1+1+1))] [false,true,true] ?_ ?_ kr kr
 (try dsimp only);omega
 refine⟨?_,rfl⟩;(try dsimp only);exact⟨om,om,om⟩
 refine Fn0 [0,5,6,7] [(34,.bool false)] (Cf (Sk (Jn (hK42 (Kp [0,5,6,7] (Rr (An3 4 [(47,.osl 20 1 0 (o.length+1)),(46,.osl 16 1 0 1),(45,.str ns41),(44,.osl 8 1 0 o.length)] ([(20,apd (fl sc o) (o.length*1) [.str ns41]),(16,[.str ns41])]++Hw [] [8] ·) 24 ((1*1<=16777216)/\(0+1*1<=1)/\(1=1/\o.length*1<=(fl sc o).length/\0<16/\(o.length+1)*16<=140737488355328)/\·) ⟨dc,dc,⟨rfl,gl,dc,gl⟩,?_⟩)))))))
 refine run_v (v':=.osl 20 1 0 ((o++[ns41]).length)) (push_len _ _ _ _) ?_
 refine run_h (cs':=fl sc (o++[ns41])) (push_str o ns41) ?_
 refine Fn0 [0,6,7] [(5,.osl 20 1 0 ((o++[ns41]).length))] (Rr (Pc1 3 [(49,.str ns41),(48,.agg (tcs x))] 50 (0+5<=5/\0<5) dc (l1Find_c x ns41 om) (Fn0 [0,5,6] [(8,.i (fndI ns41 x.names))] (Sq fun K64 hK64=>?_))))
 refine Rm 59 ((decide ((fndI ns41 x.names:Int)<(0:Int)))||(decide ((x.kids.length:Int)<=fndI ns41 x.names))) [0,5,6,8] ?_ ?_
 refine An1 3 [(53,.bool (decide ((fndI ns41 x.names:Int)<(0:Int)))),(52,.bool (decide ((fndI ns41 x.names:Int)<(0:Int)))),(51,.i (fndI ns41 x.names))] (Ki/\·) ⟨rfl,Rg (fun hg66 g66=>?_) (fun hg66 g66=>?_)⟩
 refine Mn0 true (by rw[hg66];rfl)
 refine Av1 4 57 [(56,.sl 5 (x.kids.map trc)),(55,.ptr 12 4),(54,.i (fndI ns41 x.names))] (lnm x.kids trc) (((1:Nat)≠0)/\(4+1<=5/\4<5)/\·) ⟨dc,dc,Mn1 (decide ((x.kids.length:Int)<=fndI ns41 x.names)) (Ki/\·) ⟨rfl,(by rw[hg66];rfl)⟩⟩
 refine Cc ((decide ((fndI ns41 x.names:Int)<(0:Int)))||(decide ((x.kids.length:Int)<=fndI ns41 x.names))) (fun hc67 c67=>?_) fun hc67 c67=>?_
 refine Xt (Jx (Bx (Lx (Bh (Jn (hK4 (Kp [5] (Rr (Fn0 [] [(4,.osl 20 1 0 ((o++[ns41]).length))] (FzS 20 (o++[ns41]) [(4,.osl 20 1 0 ((o++[ns41]).length))] [(0,rdc b (pp+1+1))] [true] (Rt (pth (o++[ns41])) ?_)))))))))))
 have hn:(ns41).length<=5\/(ns41).length<wS x.names:=by first|exact .inl hns41|exact .inr (wS_get _ _ om)
 have hnW:=wS_snoc o ns41
 have hoL:(o++[ns41]).length=o.length+1:=by simp
 exact fin_rc (pp+1+1) (lea_refl _) (by simp only[go_sem]) kr ⟨_,om,om,om,rfl,om⟩
 refine Sk (Jn (hK64 (Kp [0,5,6,8] (Rn (Av1 4 63 [(62,.i (fndI ns41 x.names)),(61,.sl 5 (x.kids.map trc)),(60,.ptr 12 4)] (congrArg AV.pat (mg_trc x.kids ((fndI ns41 x.names).toNat) om)) (((1:Nat)≠0)/\(4+1<=5/\4<5)/\(5=5/\(0:Int)<=fndI ns41 x.names/\fndI ns41 x.names<((x.kids.map trc).length:Int))/\·) ⟨dc,dc,⟨rfl,om,lmo⟩,Gn3 [(64,.agg (tcs (x.kids.getD ((fndI ns41 x.names).toNat) default)))] (Hw [(12,tcs (x.kids.getD ((fndI ns41 x.names).toNat) default))] [] ·) 24 ((5<=5/\0<5)/\(true=true/\5=5/\0+5<=5)/\·) ⟨dc,dc,nk_n ?_⟩⟩)))))
 refine Bn ?_
 have hn:(ns41).length<=5\/(ns41).length<wS x.names:=by first|exact .inl hns41|exact .inr (wS_get _ _ om)
 have hnW:=wS_snoc o ns41
 have hkW:=Ws_get x.kids ((fndI ns41 x.names).toNat) om
 have hoL:(o++[ns41]).length=o.length+1:=by simp
 refine Lr (o++[ns41],(x.kids.getD ((fndI ns41 x.names).toNat) default),pp+1+1) [(0,0),(12,12),(20,8)] 16 [(0,.ptr 0 0),(5,.osl 20 1 0 ((o++[ns41]).length)),(6,.ptr 12 0)] [(20,fl sc (o++[ns41])),(12,tcs (x.kids.getD ((fndI ns41 x.names).toNat) default)),(0,rdc b (pp+1+1))] [false,true,true] ?_ ?_ kr kr
 (try dsimp only);omega
 refine⟨?_,rfl⟩;(try dsimp only);exact⟨om,om,om⟩
 refine Xt (Jx (Lx (Bh (Jn (hK4 (Kp [5] (Rr (Fn0 [] [(4,.osl 8 1 0 o.length)] (FzS 8 o [(4,.osl 8 1 0 o.length)] [(0,rdc b (pp+1))] [true] (Rt (pth o) ?_))))))))))
 exact fin_rc (pp+1) (lea_refl _) (by simp only[go_sem]) kr ⟨_,om,om,om,rfl,om⟩
 refine Fn0 [0,5,6] [(23,.bool false)] (Cf (Xt (Jx (Lx (Bh (Jn (hK4 (Kp [5] (Rr (Fn0 [] [(4,.osl 8 1 0 o.length)] ?_))))))))))
 refine FzS 8 o [(4,.osl 8 1 0 o.length)] [(0,rdc b pp)] [true] (Rt (pth o) ?_)
 exact fin_rc pp (lea_refl _) (by simp only[go_sem]) kr ⟨_,om,om,om,rfl,om⟩
open Go Go.Proofs
set_option maxRecDepth 100000
set_option maxHeartbeats 1000000 in
theorem l4Call_ok (b:Str) (p:Nat) (t:Tr) (hw:t.W<2^30) (hp:p<2^27) (hb:b.length<2^30):RC G 24 [.agg (tcs t)] b p (fun r p'=>∃c:Cl,wS c.path<2^31/\wS c.to<2^31/\c.data.length<=25/\r=.agg (clc c)/\p'<=p+50):=by
 refine h_rc (F:=[(0,.ptr 0 0),(1,.agg (tcs t))]) (by simp only[go_sem]) Tryz.func24 kr kr ?_ kr
 refine Rr (Fn2 [0] [(4,.ptr 8 0),(3,.ptr 4 0)] ([(8,[.i 0,.nils,.nils,.i 0,.str []]),(4,tcs t)]++·) 12 (Qr [0,1,3,0,0,27,63,0,255] [(0,[]),(3,[]),(4,[]),(1,[4]),(2,[]),(5,[]),(6,[]),(7,[4]),(8,[])] (qBc1 4 [(10,.agg (tcs t)),(9,.ptr 0 0),(6,.ptr 0 0)] [4] 30 [.ptr 0 0,.i 6] 7 ((0+5<=5/\0<5)/\·) ⟨dc,RC.use (pick_ok b p 6 om om om om) kr fun r p1 hr=>?_⟩)));obtain⟨pk3,hpk3,rfl,rfl⟩:=hr
 refine Kq (p:=(((0+5<=5/\0<5)/\(AV.agg (tcs t)=(.agg (tcs t):AV)))/\True)) ⟨⟨dc,rfl⟩,trivial⟩ ?_
 refine qAv1 1 8 [] (cI (wnn 1 pk3 om)) (Ki/\·) ⟨rfl,qBc0 1 [] [] 44 [.ptr 0 0,.agg (tcs t)] 11 (RC.use (l4Path_ok b (p+1) t om om om) kr fun r q5 hr=>?_)⟩;obtain⟨o4,h0o4,h1o4,h2o4,rfl,h3o4⟩:=hr
 refine Kq (p:=(True)) trivial ?_
 refine qFn3 [0,3,4] [(5,.ptr 12 0)] ([(12,[.i ((1+pk3:Nat):Int),pth o4,.nils,.i 0,.str []])]++·) 16 ((((0+5<=5/\0<5)/\(AV.agg (tcs t)=(.agg (tcs t):AV)))/\True)/\(true=true/\5=5/\0+5<=5)/\(True)/\·) ⟨⟨⟨dc,rfl⟩,trivial⟩,dc,trivial,Sj (fun(z:List Str×Int×Str×Nat)=>match z with|(to,at_,dd,q)=>([(0,.ptr 0 0),(4,.ptr 8 0),(5,.ptr 12 0)]:Fr)) (fun(z:List Str×Int×Str×Nat)=>match z with|(to,at_,dd,q)=>([(12,[.i ((1+pk3:Nat):Int),pth o4,pth to,.i at_,.str dd]),(8,[.i 0,.nils,.nils,.i 0,.str []]),(0,rdc b q)]:Hp)) (fun(z:List Str×Int×Str×Nat)=>match z with|(to,at_,dd,q)=>wS to<2^31/\dd.length<=25/\q<=p+40) 16 ?_ fun J6 K7 hK7=>?_⟩
 rintro⟨to,at_,dd,q⟩ hi
 dsimp only at hi⊢
 obtain⟨hi1,hi2,hi3⟩:=hi
 refine Sq fun K8 hK8=>?_
 refine Rr (Bc0 2 [(59,.ptr 0 0)] 30 [.ptr 0 0,.i 40] 60 (RC.use (pick_ok b q 40 om om om om) kr fun r p1 hr=>?_));obtain⟨pk10,hpk10,rfl,rfl⟩:=hr
 refine Ke (Fn0 [0,4,5,60] [] (Bl (Rr (Cn1 (decide ((pk10:Int)=0)) [0,4,5,60] [] (Ki/\·) ⟨rfl,fun hc12 c12=>?_,fun hc12 c12=>?_⟩))))
 refine Rb (fun h=>Bn (Jn (hK8 h))) (Bc3 3 [(64,.ptr 0 0),(63,.osl 16 1 0 3)] 30 [.ptr 0 0,.i 3] 65 ([(16,[.i 0,.i 7,.i (-1)])]++·) 20 ((3*1<=16777216)/\·) ⟨dc,RC.use (pick_ok b (q+1) 3 om om om om) kr fun r p1 hr=>?_⟩);obtain⟨pk13,hpk13,rfl,rfl⟩:=hr
 refine Ke (Av1 (r:=([.i 0,.i 7,.i (-1)].getD (0+pk13*1) .dead:AV)) (v:=.i (([0,7,-1]:List Int).getD pk13 0)) 2 67 [(66,.ptr 16 (0+pk13*1))] (ints_get ([0,7,-1]:List Int) pk13 (by simp only[List.length_cons,List.length_nil];omega)) ((1=1/\(0:Int)<=(pk13:Int)/\(pk13:Int)<(3:Int))/\(0+pk13*1+1<=3/\0+pk13*1<3)/\·) ⟨⟨rfl,om,om⟩,⟨om,om⟩,Fn3 [4,5] [] (Hw [(12,[.i (([0,7,-1]:List Int).getD pk13 0),pth o4,pth to,.i at_,.str dd])] [] ·) 20 (((1:Nat)≠0)/\(true=true/\1=1/\0+1<=5)/\·) ⟨dc,dc,Rr (Fn3 [4] [] (Hw [(8,[.i (([0,7,-1]:List Int).getD pk13 0),pth o4,pth to,.i at_,.str dd])] [] ·) 20 ((0+5<=5/\0<5)/\(true=true/\5=5/\0+5<=5)/\·) ⟨dc,dc,?_⟩)⟩⟩)
 refine Rt1 ((0+5<=5/\0<5)/\·) (.agg [.i (([0,7,-1]:List Int).getD pk13 0),pth o4,pth to,.i at_,.str dd]) ⟨dc,?_⟩
 exact fin_rc (q+1+1) (by first|exact lea_refl _|simp[lea,leas,pth,clc]) (by simp only[go_sem]) kr ⟨Cl.mk (([0,7,-1]:List Int).getD pk13 0) o4 to at_ dd,(by show wS o4<2^31;first|omega|decide),(by show wS to<2^31;first|omega|decide),(by show List.length dd<=25;first|omega|decide),rfl,om⟩
 refine Rr (Cn1 (decide ((pk10:Int)=1)) [0,4,5,60] [] (Ki/\·) ⟨rfl,fun hc16 c16=>?_,fun hc16 c16=>?_⟩)
 refine Rb (fun h=>Bn (Jn (hK8 h))) (Fn3 [4,5] [] ([(16,[])]++Hw [(12,[.i ((1+pk3:Nat):Int),.osl 16 1 0 0,pth to,.i at_,.str dd])] [] ·) 20 ((0*1<=16777216)/\((1:Nat)≠0)/\(true=true/\1=1/\1+1<=5)/\·) ⟨dc,dc,dc,Rr (Fn3 [4] [] (Hw [(8,[.i ((1+pk3:Nat):Int),.osl 16 1 0 0,pth to,.i at_,.str dd])] [] ·) 20 ((0+5<=5/\0<5)/\(true=true/\5=5/\0+5<=5)/\·) ⟨dc,dc,Fz 16 1 0 ([]) ([]) [(4,.ptr 8 0)] [(8,[.i ((1+pk3:Nat):Int),.osl 16 1 0 0,pth to,.i at_,.str dd]),(0,rdc b (q+1))] [true,true] kr dc ?_⟩)⟩)
 refine Rt1 ((0+5<=5/\0<5)/\·) (.agg [.i ((1+pk3:Nat):Int),pth [],pth to,.i at_,.str dd]) ⟨dc,?_⟩
 exact fin_rc (q+1) (by first|exact lea_refl _|simp[lea,leas,pth,clc]) (by simp only[go_sem]) kr ⟨Cl.mk ((1+pk3:Nat):Int) [] to at_ dd,(by show wS []<2^31;first|omega|decide),(by show wS to<2^31;first|omega|decide),(by show List.length dd<=25;first|omega|decide),rfl,om⟩
 refine Rr (Cn1 (decide ((pk10:Int)=2)) [0,4,5,60] [] (Ki/\·) ⟨rfl,fun hc19 c19=>?_,fun hc19 c19=>?_⟩)
 refine Rb (fun h=>Bn (Jn (hK8 h))) (An3 4 [(78,.osl 20 1 0 (0+(o4.map (fun s=>[AV.str s])).length)),(77,pth o4),(76,.ptr 12 1),(75,.osl 16 1 0 0)] ([(20,apd [] (0*1) ((o4.map (fun s=>[AV.str s])).flatten))]++·) 24 ((0*1<=16777216)/\((1:Nat)≠0)/\(1+1<=5/\1<5)/\True/\(1=1/\0*1<=0/\0<16/\(0+(o4.map (fun s=>[AV.str s])).length)*16<=140737488355328)/\·) ⟨dc,dc,dc,trivial,⟨rfl,gl,dc,gl⟩,run_v (v':=.osl 20 1 0 o4.length) (by rw[Nat.zero_add,List.length_map]) (run_h (cs':=fl sc o4) (app0_str _) (Bc3 3 [(80,.osl 24 1 0 5),(79,.ptr 0 0)] 47 [.ptr 0 0,.osl 24 1 0 5] 81 ([(24,[.str [],.str [65],.str [116,111,111,108,111,110,103],.str [120],.str [121]])]++·) 28 ((5*1<=16777216)/\·) ⟨dc,?_⟩))⟩)
 refine Tz 24 1 5 ([[.str []],[.str [65]],[.str [116,111,111,108,111,110,103]],[.str [120]],[.str [121]]]) ([.str [],.str [65],.str [116,111,111,108,111,110,103],.str [120],.str [121]]) [.ptr 0 0,pth [[],[65],[116,111,111,108,111,110,103],[120],[121]]] [(20,fl sc o4),(12,[.i ((1+pk3:Nat):Int),pth o4,pth to,.i at_,.str dd]),(8,[.i 0,.nils,.nils,.i 0,.str []]),(0,rdc b (q+1))] [false,true,true,true] kr (by first|decide|simp) ?_
 refine RC.use (of_ok b (q+1) [[],[65],[116,111,111,108,111,110,103],[120],[121]] (by first|omega|decide|simp) (by first|omega|decide|simp) om om) kr fun r p1 hr=>?_;obtain⟨os20,hos20,rfl,rfl⟩:=hr
 refine Ke (An3 2 [(83,.osl 32 1 0 (o4.length+1)),(82,.osl 28 1 0 1)] ([(32,apd (fl sc o4) (o4.length*1) [.str os20]),(28,[.str os20])]++Hw [] [20] ·) 36 ((1*1<=16777216)/\(0+1*1<=1)/\(1=1/\o4.length*1<=(fl sc o4).length/\0<16/\(o4.length+1)*16<=140737488355328)/\·) ⟨dc,dc,⟨rfl,gl,dc,gl⟩,run_v (v':=.osl 32 1 0 ((o4++[os20]).length)) (push_len _ _ _ _) (run_h (cs':=fl sc (o4++[os20])) (push_str o4 os20) (Fn3 [4,5] [] (Hw [(12,[.i ((1+pk3:Nat):Int),.osl 32 1 0 ((o4++[os20]).length),pth to,.i at_,.str dd])] [] ·) 36 (((1:Nat)≠0)/\(true=true/\1=1/\1+1<=5)/\·) ⟨dc,dc,?_⟩))⟩)
 refine Rr (Fn3 [4] [] (Hw [(8,[.i ((1+pk3:Nat):Int),.osl 32 1 0 ((o4++[os20]).length),pth to,.i at_,.str dd])] [] ·) 36 ((0+5<=5/\0<5)/\(true=true/\5=5/\0+5<=5)/\·) ⟨dc,dc,FzS 32 (o4++[os20]) [(4,.ptr 8 0)] [(8,[.i ((1+pk3:Nat):Int),.osl 32 1 0 ((o4++[os20]).length),pth to,.i at_,.str dd]),(0,rdc b (q+1+1))] [true,true] (Rt1 ((0+5<=5/\0<5)/\·) (.agg [.i ((1+pk3:Nat):Int),pth (o4++[os20]),pth to,.i at_,.str dd]) ⟨dc,?_⟩)⟩)
 have e1:=wS_snoc o4 os20
 have e2:os20.length<=7:=(by have hq:=hos20;simp only[List.mem_cons,List.not_mem_nil,or_false]at hq;rcases hq with h|h|h|h|h<;>rw[h]<;>decide)
 exact fin_rc (q+1+1) (by first|exact lea_refl _|simp[lea,leas,pth,clc]) (by simp only[go_sem]) kr ⟨Cl.mk ((1+pk3:Nat):Int) (o4++[os20]) to at_ dd,(by show wS (o4++[os20])<2^31;first|omega|decide),(by show wS to<2^31;first|omega|decide),(by show List.length dd<=25;first|omega|decide),rfl,om⟩
 refine Rr (Cn1 (decide ((pk10:Int)=3)) [0,4,5,60] [] (Ki/\·) ⟨rfl,fun hc23 c23=>?_,fun hc23 c23=>?_⟩)
 refine Rb (fun h=>Bn (Jn (hK8 h))) (Bc3 3 [(88,.ptr 0 0),(87,.osl 16 1 0 4)] 30 [.ptr 0 0,.i 4] 89 ([(16,[.i (-1),.i 8,.i 24,.i 25])]++·) 20 ((4*1<=16777216)/\·) ⟨dc,RC.use (pick_ok b (q+1) 4 om om om om) kr fun r p1 hr=>?_⟩);obtain⟨pk24,hpk24,rfl,rfl⟩:=hr
 refine Ke (Av1 (r:=([.i (-1),.i 8,.i 24,.i 25].getD (0+pk24*1) .dead:AV)) (v:=.i (([-1,8,24,25]:List Int).getD pk24 0)) 2 91 [(90,.ptr 16 (0+pk24*1))] (ints_get ([-1,8,24,25]:List Int) pk24 (by simp only[List.length_cons,List.length_nil];omega)) ((1=1/\(0:Int)<=(pk24:Int)/\(pk24:Int)<(4:Int))/\(0+pk24*1+1<=4/\0+pk24*1<4)/\·) ⟨⟨rfl,om,om⟩,⟨om,om⟩,Fn3 [4,5] [] (Hw [(12,[.i ((1+pk3:Nat):Int),pth o4,pth to,.i (([-1,8,24,25]:List Int).getD pk24 0),.str dd])] [] ·) 20 (((1:Nat)≠0)/\(true=true/\1=1/\3+1<=5)/\·) ⟨dc,dc,Rr (Fn3 [4] [] (Hw [(8,[.i ((1+pk3:Nat):Int),pth o4,pth to,.i (([-1,8,24,25]:List Int).getD pk24 0),.str dd])] [] ·) 20 ((0+5<=5/\0<5)/\(true=true/\5=5/\0+5<=5)/\·) ⟨dc,dc,?_⟩)⟩⟩)
 refine Rt1 ((0+5<=5/\0<5)/\·) (.agg [.i ((1+pk3:Nat):Int),pth o4,pth to,.i (([-1,8,24,25]:List Int).getD pk24 0),.str dd]) ⟨dc,?_⟩
 exact fin_rc (q+1+1) (by first|exact lea_refl _|simp[lea,leas,pth,clc]) (by simp only[go_sem]) kr ⟨Cl.mk ((1+pk3:Nat):Int) o4 to (([-1,8,24,25]:List Int).getD pk24 0) dd,(by show wS o4<2^31;first|omega|decide),(by show wS to<2^31;first|omega|decide),(by show List.length dd<=25;first|omega|decide),rfl,om⟩
 refine Rr (Cn1 (decide ((pk10:Int)=4)) [0,4,5] [] (Ki/\·) ⟨rfl,fun hc27 c27=>?_,fun hc27 c27=>?_⟩)
 refine Rb (fun h=>Bn (Jn (hK8 h))) (Bc0 2 [(95,.ptr 0 0)] 30 [.ptr 0 0,.i 2] 96 (RC.use (pick_ok b (q+1) 2 om om om om) kr fun r p1 hr=>?_));obtain⟨pk28,hpk28,rfl,rfl⟩:=hr
 refine Ke (Av1 1 97 [] (cI (wnn 24 pk28 om)) (Ki/\·) ⟨rfl,Bc0 1 [] 48 [.str [113],.i ((24+pk28:Nat):Int)] 98 (PC.use (l1Many_ok [113] (24+pk28) (by first|omega|decide) (by first|omega|(simp only[List.length_cons,List.length_nil];omega)) om) fun r hr=>?_)⟩);obtain⟨mt29,rfl,hmt29⟩:=hr;simp only[List.length_cons,List.length_nil]at hmt29
 refine Ke (Fn3 [4,5] [] (Hw [(12,[.i ((1+pk3:Nat):Int),pth o4,pth to,.i at_,.str mt29])] [] ·) 16 (((1:Nat)≠0)/\(true=true/\1=1/\4+1<=5)/\·) ⟨dc,dc,Rr (Fn3 [4] [] (Hw [(8,[.i ((1+pk3:Nat):Int),pth o4,pth to,.i at_,.str mt29])] [] ·) 16 ((0+5<=5/\0<5)/\(true=true/\5=5/\0+5<=5)/\·) ⟨dc,dc,Rt1 ((0+5<=5/\0<5)/\·) (.agg [.i ((1+pk3:Nat):Int),pth o4,pth to,.i at_,.str mt29]) ⟨dc,?_⟩⟩)⟩)
 exact fin_rc (q+1+1) (by first|exact lea_refl _|simp[lea,leas,pth,clc]) (by simp only[go_sem]) kr ⟨Cl.mk ((1+pk3:Nat):Int) o4 to at_ mt29,(by show wS o4<2^31;first|omega|decide),(by show wS to<2^31;first|omega|decide),(by show List.length mt29<=25;first|omega|decide),rfl,om⟩
 refine Sk (Bn (Jn (hK8 (Kp [4,5] (Rr (Fn3 [4] [] (Hw [(8,[.i ((1+pk3:Nat):Int),pth o4,pth to,.i at_,.str dd])] [] ·) 16 ((0+5<=5/\0<5)/\(true=true/\5=5/\0+5<=5)/\·) ⟨dc,dc,Rt1 ((0+5<=5/\0<5)/\·) (.agg [.i ((1+pk3:Nat):Int),pth o4,pth to,.i at_,.str dd]) ⟨dc,?_⟩⟩))))))
 exact fin_rc (q+1) (by first|exact lea_refl _|simp[lea,leas,pth,clc]) (by simp only[go_sem]) kr ⟨Cl.mk ((1+pk3:Nat):Int) o4 to at_ dd,(by show wS o4<2^31;first|omega|decide),(by show wS to<2^31;first|omega|decide),(by show List.length dd<=25;first|omega|decide),rfl,om⟩
 refine Rr (Fn1 [0,3,4,5] [(14,.i ((1+pk3:Nat):Int))] (((1:Nat)≠0)/\(0+1<=5/\0<5)/\·) ⟨dc,dc,Bl (Sq fun K33 hK33=>?_)⟩)
 refine Rr (Cn1 (decide (((1+pk3:Nat):Int)=1)) [0,3,4,5,14] [(15,.bool (decide (((1+pk3:Nat):Int)=1)))] (Ki/\·) ⟨rfl,fun hc35 c35=>?_,fun hc35 c35=>?_⟩)
 refine Sk (Jn (hK33 (Kp [0,3,4,5,14,15] (C1 (t:=decide (((1+pk3:Nat):Int)=1)) hc35 (Rb (fun h=>Bn (Jn (hK7 h))) (Bc0 2 [(18,.ptr 0 0)] 30 [.ptr 0 0,.i 8] 19 (RC.use (pick_ok b q5 8 om om om om) kr fun r p1 hr=>?_)))))));obtain⟨pk36,hpk36,rfl,rfl⟩:=hr
 refine Ke (Fn3 [0,4,5] [] (Hw [(12,[.i ((1+pk3:Nat):Int),pth o4,.nils,.i pk36,.str []])] [] ·) 16 (((1:Nat)≠0)/\(true=true/\1=1/\3+1<=5)/\·) ⟨dc,dc,Hn [(12,[.i ((1+pk3:Nat):Int),pth o4,.nils,.i pk36,.str []]),(8,[.i 0,.nils,.nils,.i 0,.str []]),(4,tcs t),(0,rdc b (q5+1))] (h_lo (H':=[(12,[.i ((1+pk3:Nat):Int),pth o4,pth [],.i pk36,.str []]),(8,[.i 0,.nils,.nils,.i 0,.str []]),(4,tcs t),(0,rdc b (q5+1))]) ⟨⟨rfl,(by simp[lea,leas,pth,tcs,clc])⟩,⟨rfl,leas_refl _⟩,⟨rfl,leas_refl _⟩,⟨rfl,leas_refl _⟩,trivial⟩ (Tr2 J6 ([],(pk36:Int),[],q5+1) [(0,0),(8,8),(12,12)] [(0,.ptr 0 0),(4,.ptr 8 0),(5,.ptr 12 0)] [(12,[.i ((1+pk3:Nat):Int),pth o4,pth [],.i pk36,.str []]),(8,[.i 0,.nils,.nils,.i 0,.str []]),(0,rdc b (q5+1))] [true,true,true] ?_ kr kr))⟩)
 (try dsimp only)
 exact⟨by show wS []<2^31;first|omega|decide,by first|omega|decide,om⟩
 refine Rb (fun h=>Jn (hK33 h)) (Fn1 [0,3,4,5,14] [(15,.bool (decide (((1+pk3:Nat):Int)=6)))] (Ki/\·) ⟨rfl,Cc (decide (((1+pk3:Nat):Int)=6)) (fun hc37 c37=>?_) fun hc37 c37=>?_⟩)
 refine Rb (fun h=>Bn (Jn (hK7 h))) (Bc0 2 [(18,.ptr 0 0)] 30 [.ptr 0 0,.i 8] 19 (RC.use (pick_ok b q5 8 om om om om) kr fun r p1 hr=>?_));obtain⟨pk38,hpk38,rfl,rfl⟩:=hr
 refine Ke (Fn3 [0,4,5] [] (Hw [(12,[.i ((1+pk3:Nat):Int),pth o4,.nils,.i pk38,.str []])] [] ·) 16 (((1:Nat)≠0)/\(true=true/\1=1/\3+1<=5)/\·) ⟨dc,dc,Hn [(12,[.i ((1+pk3:Nat):Int),pth o4,.nils,.i pk38,.str []]),(8,[.i 0,.nils,.nils,.i 0,.str []]),(4,tcs t),(0,rdc b (q5+1))] (h_lo (H':=[(12,[.i ((1+pk3:Nat):Int),pth o4,pth [],.i pk38,.str []]),(8,[.i 0,.nils,.nils,.i 0,.str []]),(4,tcs t),(0,rdc b (q5+1))]) ⟨⟨rfl,(by simp[lea,leas,pth,tcs,clc])⟩,⟨rfl,leas_refl _⟩,⟨rfl,leas_refl _⟩,⟨rfl,leas_refl _⟩,trivial⟩ (Tr2 J6 ([],(pk38:Int),[],q5+1) [(0,0),(8,8),(12,12)] [(0,.ptr 0 0),(4,.ptr 8 0),(5,.ptr 12 0)] [(12,[.i ((1+pk3:Nat):Int),pth o4,pth [],.i pk38,.str []]),(8,[.i 0,.nils,.nils,.i 0,.str []]),(0,rdc b (q5+1))] [true,true,true] ?_ kr kr))⟩)
 (try dsimp only)
 exact⟨by show wS []<2^31;first|omega|decide,by first|omega|decide,om⟩
 refine Sq fun K39 hK39=>?_
 refine Rr (Cn1 (decide (((1+pk3:Nat):Int)=2)) [0,3,4,5,14] [(21,.bool (decide (((1+pk3:Nat):Int)=2)))] (Ki/\·) ⟨rfl,fun hc41 c41=>?_,fun hc41 c41=>?_⟩)
 refine Sk (Jn (hK39 (Kp [0,3,4,5,14,21] (C1 (t:=decide (((1+pk3:Nat):Int)=2)) hc41 (Rr (Bc0 2 [(24,.ptr 0 0)] 30 [.ptr 0 0,.i 4] 25 (RC.use (pick_ok b q5 4 om om om om) kr fun r p1 hr=>?_)))))));obtain⟨pk43,hpk43,rfl,rfl⟩:=hr
 refine Ke (Bc0 2 [(26,.ptr 0 0)] 30 [.ptr 0 0,.i 4] 27 (RC.use (pick_ok b (q5+1) 4 om om om om) kr fun r p1 hr=>?_));obtain⟨pk44,hpk44,rfl,rfl⟩:=hr
 refine Ke ?_
 have hm45:=Nat.mul_lt_mul'' hpk43 hpk44
 refine Av1 1 28 [] (cI (wnm pk43 pk44 om)) (Ki/\·) ⟨rfl,Fn3 [0,4,5] [] (Hw [(12,[.i ((1+pk3:Nat):Int),pth o4,.nils,.i ((pk43*pk44:Nat):Int),.str []])] [] ·) 16 (((1:Nat)≠0)/\(true=true/\1=1/\3+1<=5)/\·) ⟨dc,dc,Rr (Fn1 [0,4,5] [(32,.bool (decide (((1+pk3:Nat):Int)=2)))] (((1:Nat)≠0)/\(0+1<=5/\0<5)/\Ki/\·) ⟨dc,dc,rfl,C1 (t:=decide (((1+pk3:Nat):Int)=2)) hc41 ?_⟩)⟩⟩
 refine Rb (fun h=>Bn (Jn (hK7 h))) (Bc0 2 [(33,.ptr 0 0)] 45 [.ptr 0 0] 34 (RC.use (l4Data_ok b (q5+1+1) om om) kr fun r p1 hr=>?_));obtain⟨ds47,hds47,rfl,rfl⟩:=hr
 refine Ke (Fn3 [0,4,5] [] (Hw [(12,[.i ((1+pk3:Nat):Int),pth o4,.nils,.i ((pk43*pk44:Nat):Int),.str ds47])] [] ·) 16 (((1:Nat)≠0)/\(true=true/\1=1/\4+1<=5)/\·) ⟨dc,dc,Hn [(12,[.i ((1+pk3:Nat):Int),pth o4,.nils,.i ((pk43*pk44:Nat):Int),.str ds47]),(8,[.i 0,.nils,.nils,.i 0,.str []]),(4,tcs t),(0,rdc b (q5+1+1+1+1))] (h_lo (H':=[(12,[.i ((1+pk3:Nat):Int),pth o4,pth [],.i ((pk43*pk44:Nat):Int),.str ds47]),(8,[.i 0,.nils,.nils,.i 0,.str []]),(4,tcs t),(0,rdc b (q5+1+1+1+1))]) ⟨⟨rfl,(by simp[lea,leas,pth,tcs,clc])⟩,⟨rfl,leas_refl _⟩,⟨rfl,leas_refl _⟩,⟨rfl,leas_refl _⟩,trivial⟩ (Tr2 J6 ([],((pk43*pk44:Nat):Int),ds47,q5+1+1+1+1) [(0,0),(8,8),(12,12)] [(0,.ptr 0 0),(4,.ptr 8 0),(5,.ptr 12 0)] [(12,[.i ((1+pk3:Nat):Int),pth o4,pth [],.i ((pk43*pk44:Nat):Int),.str ds47]),(8,[.i 0,.nils,.nils,.i 0,.str []]),(0,rdc b (q5+1+1+1+1))] [true,true,true] ?_ kr kr))⟩)
 (try dsimp only)
 exact⟨by show wS []<2^31;first|omega|decide,by first|omega|decide,om⟩
 refine Rb (fun h=>Jn (hK39 h)) (Fn1 [0,3,4,5,14] [(21,.bool (decide (((1+pk3:Nat):Int)=3)))] (Ki/\·) ⟨rfl,Cc (decide (((1+pk3:Nat):Int)=3)) (fun hc48 c48=>?_) fun hc48 c48=>?_⟩)
 refine Rr (Bc0 2 [(24,.ptr 0 0)] 30 [.ptr 0 0,.i 4] 25 (RC.use (pick_ok b q5 4 om om om om) kr fun r p1 hr=>?_));obtain⟨pk50,hpk50,rfl,rfl⟩:=hr
 refine Ke (Bc0 2 [(26,.ptr 0 0)] 30 [.ptr 0 0,.i 4] 27 (RC.use (pick_ok b (q5+1) 4 om om om om) kr fun r p1 hr=>?_));obtain⟨pk51,hpk51,rfl,rfl⟩:=hr
 refine Ke ?_
 have hm52:=Nat.mul_lt_mul'' hpk50 hpk51
 refine Av1 1 28 [] (cI (wnm pk50 pk51 om)) (Ki/\·) ⟨rfl,Fn3 [0,4,5] [] (Hw [(12,[.i ((1+pk3:Nat):Int),pth o4,.nils,.i ((pk50*pk51:Nat):Int),.str []])] [] ·) 16 (((1:Nat)≠0)/\(true=true/\1=1/\3+1<=5)/\·) ⟨dc,dc,Rr (Fn1 [0,4,5] [(32,.bool (decide (((1+pk3:Nat):Int)=2)))] (((1:Nat)≠0)/\(0+1<=5/\0<5)/\Ki/\·) ⟨dc,dc,rfl,C0 (t:=decide (((1+pk3:Nat):Int)=2)) hc41 ?_⟩)⟩⟩
 refine Sk (Bn (Jn (hK7 (Kp [0,4,5] (Hn [(12,[.i ((1+pk3:Nat):Int),pth o4,.nils,.i ((pk50*pk51:Nat):Int),.str []]),(8,[.i 0,.nils,.nils,.i 0,.str []]),(4,tcs t),(0,rdc b (q5+1+1))] (h_lo (H':=[(12,[.i ((1+pk3:Nat):Int),pth o4,pth [],.i ((pk50*pk51:Nat):Int),.str []]),(8,[.i 0,.nils,.nils,.i 0,.str []]),(4,tcs t),(0,rdc b (q5+1+1))]) ⟨⟨rfl,(by simp[lea,leas,pth,tcs,clc])⟩,⟨rfl,leas_refl _⟩,⟨rfl,leas_refl _⟩,⟨rfl,leas_refl _⟩,trivial⟩ (Tr2 J6 ([],((pk50*pk51:Nat):Int),[],q5+1+1) [(0,0),(8,8),(12,12)] [(0,.ptr 0 0),(4,.ptr 8 0),(5,.ptr 12 0)] [(12,[.i ((1+pk3:Nat):Int),pth o4,pth [],.i ((pk50*pk51:Nat):Int),.str []]),(8,[.i 0,.nils,.nils,.i 0,.str []]),(0,rdc b (q5+1+1))] [true,true,true] ?_ kr kr)))))))
 (try dsimp only)
 exact⟨by show wS []<2^31;first|omega|decide,by first|omega|decide,om⟩
 refine Rr (Cn1 (decide (((1+pk3:Nat):Int)=5)) [0,3,4,5] [] (Ki/\·) ⟨rfl,fun hc55 c55=>?_,fun hc55 c55=>?_⟩)
 refine Rr (Bc1 3 [(39,.agg (tcs t)),(38,.ptr 0 0)] 44 [.ptr 0 0,.agg (tcs t)] 40 ((0+5<=5/\0<5)/\·) ⟨dc,RC.use (l4Path_ok b q5 t om om om) kr fun r q58 hr=>?_⟩);obtain⟨o57,h0o57,h1o57,h2o57,rfl,h3o57⟩:=hr
 refine Ke (Fn3 [0,4,5] [] (Hw [(12,[.i ((1+pk3:Nat):Int),pth o4,pth o57,.i 0,.str []])] [] ·) 16 (((1:Nat)≠0)/\(true=true/\1=1/\2+1<=5)/\·) ⟨dc,dc,Rr (Bc0 2 [(42,.ptr 0 0)] 30 [.ptr 0 0,.i 2] 43 (RC.use (pick_ok b q58 2 om om om om) kr fun r p1 hr=>?_))⟩);obtain⟨pk60,hpk60,rfl,rfl⟩:=hr
 refine Ke (Cn1 (decide ((pk60:Int)=0)) [0,4,5] [] (Ki/\·) ⟨rfl,fun hc61 c61=>?_,fun hc61 c61=>?_⟩)
 refine Rb (fun h=>Bn (Jn (hK7 h))) (Av3 6 50 [(49,pth o57),(48,.ptr 12 2),(47,pth o57),(46,.ptr 12 2),(45,.osl 16 1 0 0)] (lnm o57 sc) ([(16,[])]++·) 20 ((0*1<=16777216)/\((1:Nat)≠0)/\(2+1<=5/\2<5)/\((1:Nat)≠0)/\(2+1<=5/\2<5)/\·) ⟨dc,dc,dc,dc,dc,Av1 (r:=.i (IntKind.i64.wrap ((o57.length:Int)-1))) (v:=.i ((o57.length:Int)-1)) 1 51 [] (cI (wrap64 om om)) (Ki/\·) ⟨rfl,Av1 (r:=.sl 1 (((o57.map (fun s=>[AV.str s])).take (((o57.length:Int)-1).toNat)).drop 0)) (v:=pth (o57.take (((o57.length:Int)-1).toNat))) 1 52 [] (congrArg (AV.sl 1) (slm_0 _ _ _)) ((1=1/\0<=(0:Int)/\(0:Int)<=((o57.length:Int)-1)/\((o57.length:Int)-1)<=((o57.map (fun s=>[AV.str s])).length:Int))/\·) ⟨⟨rfl,om,by(try rw[List.length_map]);omega,lmo⟩,An3 1 [(53,.osl 20 1 0 (0+((o57.take (((o57.length:Int)-1).toNat)).map (fun s=>[AV.str s])).length))] ([(20,apd [] (0*1) (((o57.take (((o57.length:Int)-1).toNat)).map (fun s=>[AV.str s])).flatten))]++Hw [] [16] ·) 24 (fun Z=>True/\(1=1/\0*1<=0/\0<16/\(0+((o57.take (((o57.length:Int)-1).toNat)).map (fun s=>[AV.str s])).length)*16<=140737488355328)/\Z) ⟨trivial,⟨rfl,gl,dc,gl⟩,?_⟩⟩⟩⟩)
 refine run_v (v':=.osl 20 1 0 ((o57.take (((o57.length:Int)-1).toNat)).length)) (by rw[Nat.zero_add,List.length_map]) ?_
 refine run_h (cs':=fl sc (o57.take (((o57.length:Int)-1).toNat))) (app0_str _) ?_
 refine Bc0 2 [(54,.ptr 0 0)] 46 [.ptr 0 0] 55 ?_
 refine RC.use (l4Name_ok b (q58+1) om om) kr fun r p1 hr=>?_;obtain⟨ns62,hns62,rfl,rfl⟩:=hr
 refine Ke (An3 2 [(57,.osl 28 1 0 ((o57.take (((o57.length:Int)-1).toNat)).length+1)),(56,.osl 24 1 0 1)] ([(28,apd (fl sc (o57.take (((o57.length:Int)-1).toNat))) ((o57.take (((o57.length:Int)-1).toNat)).length*1) [.str ns62]),(24,[.str ns62])]++Hw [] [20] ·) 32 (fun Z=>(1*1<=16777216)/\(0+1*1<=1)/\(1=1/\(o57.take (((o57.length:Int)-1).toNat)).length*1<=(fl sc (o57.take (((o57.length:Int)-1).toNat))).length/\0<16/\((o57.take (((o57.length:Int)-1).toNat)).length+1)*16<=140737488355328)/\Z) ⟨dc,dc,⟨rfl,gl,dc,gl⟩,run_v (v':=.osl 28 1 0 ((o57.take (((o57.length:Int)-1).toNat)++[ns62]).length)) (push_len _ _ _ _) (run_h (cs':=fl sc (o57.take (((o57.length:Int)-1).toNat)++[ns62])) (push_str (o57.take (((o57.length:Int)-1).toNat)) ns62) (Fn3 [0,4,5] [] (Hw [(12,[.i ((1+pk3:Nat):Int),pth o4,.osl 28 1 0 ((o57.take (((o57.length:Int)-1).toNat)++[ns62]).length),.i 0,.str []])] [] ·) 32 (((1:Nat)≠0)/\(true=true/\1=1/\2+1<=5)/\·) ⟨dc,dc,?_⟩))⟩)
 refine FzS 28 (o57.take (((o57.length:Int)-1).toNat)++[ns62]) [(0,.ptr 0 0),(4,.ptr 8 0),(5,.ptr 12 0)] [(12,[.i ((1+pk3:Nat):Int),pth o4,.osl 28 1 0 ((o57.take (((o57.length:Int)-1).toNat)++[ns62]).length),.i 0,.str []]),(8,[.i 0,.nils,.nils,.i 0,.str []]),(0,rdc b (q58+1+1))] [true,true,true] (Tr2 J6 (o57.take (((o57.length:Int)-1).toNat)++[ns62],0,[],q58+1+1) [(0,0),(8,8),(12,12)] [(0,.ptr 0 0),(4,.ptr 8 0),(5,.ptr 12 0)] [(12,[.i ((1+pk3:Nat):Int),pth o4,pth (o57.take (((o57.length:Int)-1).toNat)++[ns62]),.i 0,.str []]),(8,[.i 0,.nils,.nils,.i 0,.str []]),(0,rdc b (q58+1+1))] [true,true,true] ?_ kr kr)
 (try dsimp only)
 have e1:=wS_snoc (o57.take (((o57.length:Int)-1).toNat)) ns62
 have e3:=wS_take o57 (((o57.length:Int)-1).toNat)
 exact⟨by show wS (o57.take (((o57.length:Int)-1).toNat)++[ns62])<2^31;first|omega|decide,by first|omega|decide,om⟩
 refine Sk (Bn (Jn (hK7 (Kp [0,4,5] (Tr2 J6 (o57,0,[],q58+1) [(0,0),(8,8),(12,12)] [(0,.ptr 0 0),(4,.ptr 8 0),(5,.ptr 12 0)] [(12,[.i ((1+pk3:Nat):Int),pth o4,pth o57,.i 0,.str []]),(8,[.i 0,.nils,.nils,.i 0,.str []]),(0,rdc b (q58+1))] [true,true,true] ?_ kr kr)))))
 (try dsimp only)
 exact⟨by show wS o57<2^31;first|omega|decide,by first|omega|decide,om⟩
 refine Sk (Bn (Jn (hK7 (Kp [0,4,5] (Hn [(12,[.i ((1+pk3:Nat):Int),pth o4,.nils,.i 0,.str []]),(8,[.i 0,.nils,.nils,.i 0,.str []]),(4,tcs t),(0,rdc b q5)] (h_lo (H':=[(12,[.i ((1+pk3:Nat):Int),pth o4,pth [],.i 0,.str []]),(8,[.i 0,.nils,.nils,.i 0,.str []]),(4,tcs t),(0,rdc b q5)]) ⟨⟨rfl,(by simp[lea,leas,pth,tcs,clc])⟩,⟨rfl,leas_refl _⟩,⟨rfl,leas_refl _⟩,⟨rfl,leas_refl _⟩,trivial⟩ (Tr2 J6 ([],0,[],q5) [(0,0),(8,8),(12,12)] [(0,.ptr 0 0),(4,.ptr 8 0),(5,.ptr 12 0)] [(12,[.i ((1+pk3:Nat):Int),pth o4,pth [],.i 0,.str []]),(8,[.i 0,.nils,.nils,.i 0,.str []]),(0,rdc b q5)] [true,true,true] ?_ kr kr)))))))
 (try dsimp only)
 exact⟨by show wS []<2^31;first|omega|decide,by first|omega|decide,om⟩
end Go.Proofs.YtkgaefbohkcofaaGreatDoorT
