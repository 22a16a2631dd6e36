/- A part of the proof that FnNodesTop, on every slice of bytes, returns true (no conditions): rules of the walk, and what the functions compute. -/
import Derived.Carry
import Derived.ChangeSlices
import Derived.OpenShut
import Derived.ProofKit
import Derived.RowKit
import Derived.Test.YtkgflbkcdoeckaaGreatRows
import Derived.Test.YtkgflbkcdoeckaaGreatC4
set_option linter.unusedVariables false
set_option linter.unusedSimpArgs false
namespace Go.Proofs.YtkgflbkcdoeckaaGreatT
open Go
theorem uniN:∀{a b:List No},a.Perm b->SN a->SN b->(a.map (·.path)).Nodup->a=b
 |[],b,hp,_,_,_=>by rw[List.nil_perm.1 hp]
 |x::a,[],hp,_,_,_=>by have:=hp.length_eq;simp at this
 |x::a,y::b,hp,ha,hb,hs=>by
  have ha1:=List.pairwise_cons.1 ha
  have hb1:=List.pairwise_cons.1 hb
  rw[List.map_cons,List.nodup_cons]at hs
  have e:x=y:=by
   rcases List.mem_cons.1 (hp.mem_iff.1 (List.mem_cons_self))with e|hx
   ·exact e
   ·rcases List.mem_cons.1 (hp.mem_iff.2 (List.mem_cons_self))with e|hy
    ·exact e.symm
    ·have h1:=hb1.1 x hx
     have h2:=ha1.1 y hy
     have h3:cmpP x.path y.path=0:=by
      rw[cmpP_anti]at h2;omega
     exact absurd (List.mem_map.2 ⟨y,hy,(cmpP_eq h3).symm⟩) hs.1
  subst e
  rw[uniN ((List.perm_cons _).1 hp) ha1.2 hb1.2 hs.2]
theorem insN_perm (x:No):∀l:List No,(insN x l).Perm (x::l)
 |[]=>List.Perm.refl _
 |y::l=>by
  unfold insN
  split
  ·exact((insN_perm x l).cons y).trans (List.Perm.swap _ _ _)
  ·exact List.Perm.refl _
theorem insN_sn {x:No}:∀{l:List No},SN l->SN (insN x l)
 |[],_=>List.pairwise_singleton _ _
 |y::l,h=>by
  have h1:=List.pairwise_cons.1 h
  unfold insN
  split
  ·rename_i hc
   refine List.pairwise_cons.2 ⟨fun z hz=>?_,insN_sn h1.2⟩
   rcases insN_mem hz with rfl|hz
   ·rw[cmpP_anti];omega
   ·exact h1.1 z hz
  ·rename_i hc
   refine List.pairwise_cons.2 ⟨fun z hz=>?_,h⟩
   have hyx:0<=cmpP y.path x.path:=by omega
   rcases List.mem_cons.1 hz with rfl|hz
   ·exact hyx
   ·have h2:=h1.1 z hz
    have a1:=cmpP_anti y.path x.path
    have a2:=cmpP_anti z.path y.path
    have a3:=cmpP_anti z.path x.path
    have:=cmpP_trans (a:=x.path) (b:=y.path) (c:=z.path) (by omega) (by omega)
    omega
theorem movN_perm (f t:List Str):∀(ys acc:List No),(movN f t acc ys).Perm (acc++ys.map (mvd f t))
 |[],acc=>by simp[movN]
 |y::ys,acc=>by
  rw[movN]
  refine(movN_perm f t ys _).trans ?_
  rw[List.map_cons]
  refine((insN_perm _ acc).append_right _).trans ?_
  exact List.perm_middle.symm
theorem movN_sn (f t:List Str):∀(ys acc:List No),SN acc->SN (movN f t acc ys)
 |[],acc,h=>h
 |y::ys,acc,h=>movN_sn f t ys _ (insN_sn h)
theorem aftL_5 {c:Cl} (h:c.kind=5):∀l:List No,aftL c l=l.map (mvd c.path c.to)
 |[]=>rfl
 |x::l=>by
  have:=aftL_5 h l
  unfold aftL at*
  rw[List.map_cons,List.flatten_cons,this,stA,if_neg (by omega),if_pos h];rfl
theorem aftL_4 {c:Cl} (h:c.kind=4):∀l:List No,aftL c l=l.filter fun x=> !(x.path==c.path)
 |[]=>rfl
 |x::l=>by
  have:=aftL_4 h l
  unfold aftL at*
  rw[List.map_cons,List.flatten_cons,this,stA,List.filter_cons]
  by_cases e:x.path=c.path
  ·rw[if_pos ⟨h,e⟩,if_neg (by simp[e])];rfl
  ·rw[if_neg (fun q=>e q.2),if_neg (by omega),if_pos (by simp[e])];rfl
theorem aftL_0 {c:Cl} (h:c.kind≠4) (k:c.kind≠5):∀l:List No,aftL c l=l
 |[]=>rfl
 |x::l=>by
  have:=aftL_0 h k l
  unfold aftL at*
  rw[List.map_cons,List.flatten_cons,this,stA,if_neg (fun q=>h q.1),if_neg k];rfl
theorem idN_pos {p:List Str}:∀{l:List No},(∀x∈l,0<x.id)->(0<idN p l↔l.any (fun x=>x.path==p)=true)
 |[],_=>by simp[idN]
 |x::l,h=>by
  have ih:=idN_pos (p:=p) (l:=l) fun y hy=>h y (List.mem_cons_of_mem _ hy)
  rw[idN,List.any_cons]
  by_cases e:(x.path==p)=true
  ·rw[if_pos e,e];simpa using h x List.mem_cons_self
  ·rw[if_neg e,ih];simp[e]
theorem nsOk_lt {N:Nds} (h:nsOk N=true):N.list.Pairwise fun a b=>cmpP a.path b.path<0:=by
 unfold nsOk at h
 simp only[Bool.and_eq_true,decide_eq_true_eq,List.all_eq_true,List.mem_range]at h
 have hst:=h.2.2
 have hlt:∀j i,i<j->j<N.list.length->cmpP (N.list.getD i default).path (N.list.getD j default).path<0:=by
  intro j
  induction j with
  |zero=>intro i hi;omega
  |succ j ih=>
   intro i hi hj
   have h1:=hst (j+1) hj
   unfold stepN at h1
   simp only[Bool.and_eq_true,Bool.or_eq_true,decide_eq_true_eq,Nat.add_sub_cancel]at h1
   have h2:=h1.2.2.1.resolve_left (by omega)
   rcases Nat.lt_or_ge i j with hij|hij
   ·exact cmp_lt_trans (ih i hij (by omega)) h2
   ·obtain rfl:i=j:=by omega
    exact h2
 rw[List.pairwise_iff_getElem]
 intro i j hi hj hij
 have:=hlt j i hij hj
 simpa[List.getD,hi,hj]using this
theorem lt_sn {l:List No} (h:l.Pairwise fun a b=>cmpP a.path b.path<0):SN l/\(l.map (·.path)).Nodup:=by
 refine⟨h.imp fun {a b} k=>by rw[cmpP_anti];omega,?_⟩
 rw[List.Nodup,List.pairwise_map]
 exact h.imp fun {a b} k e=>by rw[e,cmpP_self]at k;omega
theorem nsOk_id {N:Nds} (h:nsOk N=true):∀x∈N.list,0<x.id/\x.id<N.next:=by
 unfold nsOk at h
 simp only[Bool.and_eq_true,decide_eq_true_eq,List.all_eq_true,List.mem_range]at h
 intro x hx
 obtain⟨i,hi,rfl⟩:=List.mem_iff_getElem.1 hx
 have h4:=h.2.2 i hi
 unfold stepN at h4
 simp only[Bool.and_eq_true]at h4
 have e:N.list.getD i default=N.list[i]:=by simp[List.getD,hi]
 rw[e]at h4
 have:=h4.1
 simp[inb]at this
 omega
set_option maxRecDepth 100000
theorem nsOk_nd {N:Nds} (h:nsOk N=true):(N.list.map (·.id)).Nodup:=by
 unfold nsOk at h
 simp only[Bool.and_eq_true,decide_eq_true_eq,List.all_eq_true,List.mem_range]at h
 rw[List.Nodup,List.pairwise_map,List.pairwise_iff_getElem]
 intro i j hi hj hij e
 have h4:=h.2.2 j hj
 unfold stepN at h4
 simp only[Bool.and_eq_true,Bool.not_eq_true',List.any_eq_false]at h4
 have:=h4.2.2.2 N.list[i] (List.mem_take_iff_getElem.2 ⟨i,by omega,rfl⟩)
 apply this;simp[List.getD,hj,e]
theorem nsOk_mk {N:Nds} (h1:1<=N.next/\N.next<=10000) (h2:N.list.length<=30) (h3:N.list.Pairwise fun a b=>cmpP a.path b.path<0) (h4:∀x∈N.list,0<x.id/\x.id<N.next) (h5:∀x∈N.list,pthOk x.path 1=true) (h6:(N.list.map (·.id)).Nodup):nsOk N=true:=by
 unfold nsOk
 simp only[Bool.and_eq_true,decide_eq_true_eq,List.all_eq_true,List.mem_range]
 refine⟨by unfold inb;simp;omega,h2,fun k hk=>?_⟩
 have e:N.list.getD k default=N.list[k]:=by simp[List.getD,hk]
 have hm:N.list[k]∈N.list:=List.getElem_mem hk
 unfold stepN
 rw[e]
 simp only[Bool.and_eq_true,Bool.or_eq_true,decide_eq_true_eq,Bool.not_eq_true',List.any_eq_false]
 refine⟨by have:=h4 _ hm;unfold inb;simp;omega,h5 _ hm,?_,?_⟩
 ·rcases Nat.eq_zero_or_pos k with h|h
  ·exact .inl h
  ·right
   have:=List.pairwise_iff_getElem.1 h3 (k-1) k (by omega) hk (by omega)
   simpa[List.getD,show k-1<N.list.length by omega]using this
 ·intro x hx
  obtain⟨i,hi,rfl⟩:=List.mem_take_iff_getElem.1 hx
  have:=List.pairwise_iff_getElem.1 (List.pairwise_map.1 h6) i k (by omega) hk (by omega)
  simpa using this
mutual
theorem pathsT_pth:∀(t:Tr) (n:Int) (p q:List Str),partsOk t n=true->q∈pathsT p t->∃r,q=p++r/\r.all nmOk=true/\1<=r.length/\n+(r.length:Int)<=4
 |.mk d m s ns ks,n,p,q,h,hq=>by
  simp only[partsOk,Bool.and_eq_true]at h
  rw[pathsT]at hq
  have hn:ns.all nmOk=true:=by
   have h1:=h.1
   simp only[plainOk,Tr.names_mk,Tr.kids_mk,Tr.dir_mk,Tr.data_mk,Bool.and_eq_true]at h1
   cases d with
   |true=>simp only[if_true,Bool.and_eq_true]at h1;exact h1.2.2.1
   |false=>
    simp only[Bool.false_eq_true,if_false,Bool.and_eq_true,decide_eq_true_eq]at h1
    rw[List.eq_nil_of_length_eq_zero (of_decide_eq_true h1.2.2.2)];rfl
  exact pathsK_pth ks n p ns q hn h.2.2 hq
theorem pathsK_pth:∀(ks:List Tr) (n:Int) (p ns q:List Str),ns.all nmOk=true->partsOks ks (n+1)=true->q∈pathsK p ns ks->∃r,q=p++r/\r.all nmOk=true/\1<=r.length/\n+(r.length:Int)<=4
 |k::ks,n,p,a::ns,q,hn,hk,hq=>by
  simp only[pathsK,List.mem_cons,List.mem_append]at hq
  simp only[partsOks,Bool.and_eq_true]at hk
  simp only[List.all_cons,Bool.and_eq_true]at hn
  rcases hq with rfl|hq|hq
  ·refine⟨[a],rfl,by simp[hn.1],by simp,?_⟩
   have:=hk.1
   rw[partsOk_eq]at this
   simp only[Bool.and_eq_true,decide_eq_true_eq]at this
   simpa using this.2.1
  ·obtain⟨r,rfl,h1,h2,h3⟩:=pathsT_pth k (n+1) (p++[a]) q hk.1 hq
   exact⟨a::r,by simp,by simp only[List.all_cons,hn.1,h1,Bool.and_self],by simp,by rw[List.length_cons];omega⟩
  ·exact pathsK_pth ks n p ns q hn.2 hk.2 hq
 |[],_,_,_::_,_,_,_,h=>by simp[pathsK]at h
 |_,_,_,[],_,_,_,h=>by simp[pathsK]at h
end
theorem paths_pth {t:Tr} (ht:treeOk t=true):∀q∈pathsT [] t,pthOk q 1=true:=fun q hq=>by
 simp only[treeOk,Bool.and_eq_true]at ht
 obtain⟨r,rfl,h1,h2,h3⟩:=pathsT_pth t 0 [] q ht.2.1 hq
 unfold pthOk inb
 rw[h1]
 simp;omega
theorem uniP:∀{a b:List (List Str)},SPt a->SPt b->(∀q,q∈a↔q∈b)->a=b
 |[],[],_,_,_=>rfl
 |[],y::b,_,_,h=>absurd ((h y).2 (by simp)) (by simp)
 |x::a,[],_,_,h=>absurd ((h x).1 (by simp)) (by simp)
 |x::a,y::b,ha,hb,h=>by
  have ha1:=List.pairwise_cons.1 ha
  have hb1:=List.pairwise_cons.1 hb
  have e:x=y:=by
   rcases List.mem_cons.1 ((h x).1 (by simp))with e|hx
   ·exact e
   ·rcases List.mem_cons.1 ((h y).2 (by simp))with e|hy
    ·exact e.symm
    ·have h1:=hb1.1 x hx
     have h2:=ha1.1 y hy
     rw[cmpP_anti]at h2;omega
  subst e
  rw[uniP ha1.2 hb1.2 fun q=>?_]
  have hh:=h q
  simp only[List.mem_cons]at hh
  constructor
  ·intro hq
   rcases hh.1 (.inr hq)with rfl|h
   ·have:=ha1.1 _ hq;rw[cmpP_self]at this;omega
   ·exact h
  ·intro hq
   rcases hh.2 (.inr hq)with rfl|h
   ·have:=hb1.1 _ hq;rw[cmpP_self]at this;omega
   ·exact h
theorem ndOk_f {N:Nds} {t:Tr} (h:ndOk N t=true):treeOk t=true/\nsOk N=true/\pathsT [] t=N.list.map (·.path):=by
 unfold ndOk at h
 simp only[Bool.and_eq_true]at h
 exact⟨h.1,h.2.1,eq_of_beq h.2.2⟩
theorem paths_mem {t:Tr} (ht:treeOk t=true) (q:List Str):q∈pathsT [] t↔q≠[]/\(tat t q).isSome=true:=by
 rw[PT_ok t (wf_ok ht) (tnd_ok ht) [] q]
 constructor
 ·rintro⟨r,h1,rfl,h2⟩;exact⟨h1,h2⟩
 ·rintro⟨h1,h2⟩;exact⟨q,h1,rfl,h2⟩
theorem nd_mem {N:Nds} {t:Tr} (h:ndOk N t=true) (q:List Str):q∈N.list.map (·.path)↔q≠[]/\(tat t q).isSome=true:=by
 obtain⟨ht,_,e⟩:=ndOk_f h
 rw[<-e,paths_mem ht]
theorem sn_lt {l:List No} (h:SN l) (hn:(l.map (·.path)).Nodup):l.Pairwise fun a b=>cmpP a.path b.path<0:=by
 rw[List.Nodup,List.pairwise_map]at hn
 refine(h.and hn).imp fun {a b} k=>?_
 have h1:=k.1
 rw[cmpP_anti]at h1
 have h2:cmpP a.path b.path≠0:=fun e=>k.2 (cmpP_eq e)
 omega
theorem ndOk_mk {M:Nds} {t:Tr} (ht:treeOk t=true) (h1:1<=M.next/\M.next<=10000) (hs:M.list.Pairwise fun a b=>cmpP a.path b.path<0) (h4:∀x∈M.list,0<x.id/\x.id<M.next) (h6:(M.list.map (·.id)).Nodup)
  (hm:∀q,q∈M.list.map (·.path)↔q≠[]/\(tat t q).isSome=true):ndOk M t=true:=by
 have e:pathsT [] t=M.list.map (·.path):=uniP (srtT t [] (tas_ok ht)) (List.pairwise_map.2 hs) fun q=>by rw[paths_mem ht,hm]
 have hl:M.list.length<=30:=by
  have a:=pathsT_len [] t
  rw[e,List.length_map]at a
  unfold treeOk at ht
  simp only[Bool.and_eq_true,decide_eq_true_eq]at ht
  omega
 unfold ndOk
 rw[ht,nsOk_mk h1 hl hs h4 (fun x hx=>paths_pth ht _ (by rw[e];exact List.mem_map_of_mem hx)) h6,e]
 simp
theorem sT_do {t:Tr} {c:Cl} (h:(sTreeDo t c).2=0):treeOk t=true/\callOk c=true/\sTreeDo t c=sDo t c:=by
 unfold sTreeDo at h⊢
 cases ht:treeOk t with
 |false=>rw[ht]at h;cases h
 |true=>
  cases hc:callOk c with
  |false=>rw[ht,hc]at h;cases h
  |true=>exact⟨rfl,rfl,rfl⟩
def mvP (f t p:List Str):List Str:=if f.isPrefixOf p then t++p.drop f.length else p
theorem mvd_path (f t:List Str) (y:No):(mvd f t y).path=mvP f t y.path:=by unfold mvd mvP;split<;>rfl
theorem mvd_id (f t:List Str) (y:No):(mvd f t y).id=y.id:=by unfold mvd;split<;>rfl
theorem pre_of (f r:List Str):f.isPrefixOf (f++r)=true:=List.isPrefixOf_iff_prefix.2 ⟨r,rfl⟩
theorem mvP_below (f t r:List Str):mvP f t (f++r)=t++r:=by unfold mvP;rw[if_pos (pre_of f r),List.drop_left]
theorem mvP_off {f t p:List Str} (h:f.isPrefixOf p=false):mvP f t p=p:=by unfold mvP;rw[if_neg (by rw[h];simp)]
theorem mvP_inj {f t p q:List Str} (hp:t.isPrefixOf p=false) (hq:t.isPrefixOf q=false) (h:mvP f t p=mvP f t q):p=q:=by
 cases h1:f.isPrefixOf p with
 |true=>
  obtain⟨r,rfl⟩:=pre_split h1
  rw[mvP_below]at h
  cases h2:f.isPrefixOf q with
  |true=>
   obtain⟨s,rfl⟩:=pre_split h2
   rw[mvP_below]at h
   rw[List.append_cancel_left h]
  |false=>rw[mvP_off h2]at h;rw[<-h,pre_of]at hq;cases hq
 |false=>
  rw[mvP_off h1]at h
  cases h2:f.isPrefixOf q with
  |true=>
   obtain⟨s,rfl⟩:=pre_split h2
   rw[mvP_below]at h;rw[h,pre_of]at hp;cases hp
  |false=>rw[mvP_off h2]at h;exact h
theorem none_below {t:Tr} {p q:List Str} (h:tat t p=none) (hq:(tat t q).isSome=true):p.isPrefixOf q=false:=by
 cases hb:p.isPrefixOf q with
 |false=>rfl
 |true=>
  obtain⟨r,rfl⟩:=pre_split hb
  rw[tat_add,h]at hq;cases hq
theorem Nds_ext {A B:Nds} (h:A.next=B.next) (k:A.list=B.list):A=B:=by
 cases A;cases B;simp only at h k;rw[h,k]
section
variable {N M:Nds} {t:Tr} {c:Cl} {k:Int}
theorem mv_nodup (hok:ndOk N t=true) (hz:tat t c.to=none):((N.list.map (mvd c.path c.to)).map (·.path)).Nodup:=by
 have hn:=(lt_sn (nsOk_lt (ndOk_f hok).2.1)).2
 rw[List.Nodup,List.pairwise_map]at hn
 rw[List.map_map,List.Nodup,List.pairwise_map]
 refine hn.imp_of_mem fun {a b} ha hb hab e=>hab ?_
 simp only[Function.comp,mvd_path]at e
 exact mvP_inj (none_below hz ((nd_mem hok _).1 (List.mem_map_of_mem ha)).2) (none_below hz ((nd_mem hok _).1 (List.mem_map_of_mem hb)).2) e
theorem thr_iff (l:List No):thr c l=true↔c.path∈l.map (·.path):=by
 unfold thr
 rw[List.any_eq_true,List.mem_map]
 constructor
 ·rintro⟨x,h,e⟩;exact⟨x,h,eq_of_beq e⟩
 ·rintro⟨x,h,e⟩;exact⟨x,h,by rw[e,beq_self_eq_true]⟩
theorem aft_eq (hok:ndOk N t=true) (h0:(sTreeDo t c).2=0) (h:AftR N c M k):(M,k)=sNDo N t c:=by
 obtain⟨ht,hc,es⟩:=sT_do h0
 obtain⟨_,hns,hpt⟩:=ndOk_f hok
 obtain⟨hsn,hnd⟩:=lt_sn (nsOk_lt hns)
 have hid:=nsOk_id hns
 unfold sNDo
 rw[if_neg (by rw[hok];simp),if_neg (by rw[h0];simp)]
 unfold AftR at h
 by_cases h5:c.kind=5
 ·rw[if_pos h5]
  rw[if_neg (fun q=>q.1 h5),aftL_5 h5]at h
  obtain⟨rfl,hn,hp,hs⟩:=h
  obtain⟨x,_,hz,_⟩:=do_rename ht hc (by rw[<-es];exact h0) h5
  have hmp:=movN_perm c.path c.to N.list []
  rw[List.nil_append]at hmp
  have e:=uniN (hp.trans hmp.symm) hs (movN_sn _ _ _ _ List.Pairwise.nil) ((hp.map _).nodup_iff.2 (mv_nodup hok hz))
  rw[Nds_ext (A:=M) (B:=⟨N.next,movN c.path c.to [] N.list⟩) hn e]
 ·rw[if_neg h5]
  by_cases h4:c.kind=4
  ·rw[if_pos h4]
   rw[if_neg (fun q=>q.2.1 h4),aftL_4 h4]at h
   obtain⟨rfl,hn,hp,hs⟩:=h
   have e:=uniN hp hs (hsn.sublist List.filter_sublist) ((hp.map _).nodup_iff.2 (hnd.sublist (List.filter_sublist.map _)))
   rw[Nds_ext (A:=M) (B:=⟨N.next,N.list.filter fun x=> !(x.path==c.path)⟩) hn e]
  ·rw[if_neg h4]
   have hi:=idN_pos (p:=c.path) (l:=N.list) fun y hy=>(hid y hy).1
   by_cases hth:thr c N.list=true
   ·rw[if_neg (fun q=>by rw[q.2.2]at hth;cases hth),aftL_0 h4 h5]at h
    rw[if_pos (hi.2 hth)]
    obtain⟨rfl,hn,hp,hs⟩:=h
    rw[Nds_ext (A:=M) (B:=N) hn (uniN hp hs hsn ((hp.map _).nodup_iff.2 hnd))]
   ·have hth:thr c N.list=false:=by simpa using hth
    rw[if_pos ⟨h5,h4,hth⟩]at h
    rw[if_neg (fun q=>by have:=hi.1 q;unfold thr at hth;rw[hth]at this;cases this)]
    by_cases h9:9999<N.next
    ·rw[if_pos h9]at h⊢
     rw[h.1,h.2]
    ·rw[if_neg h9]at h⊢
     obtain⟨rfl,hn,hp,hs⟩:=h
     rw[aftL_0 h4 h5]at hp
     have hp2:M.list.Perm (⟨N.next,c.path⟩::N.list):=hp.trans (List.perm_append_singleton _ _)
     have hnn:c.path∉N.list.map (·.path):=fun q=>by rw[(thr_iff (c:=c) N.list).2 q]at hth;cases hth
     have e:=uniN (hp2.trans (insN_perm _ _).symm) hs (insN_sn hsn) ((hp2.map _).nodup_iff.2 (List.nodup_cons.2 ⟨hnn,hnd⟩))
     rw[Nds_ext (A:=M) (B:=⟨N.next+1,_⟩) hn e]
theorem nd_all (h:NDoR N t c M k):(M,k)=sNDo N t c:=by
 unfold NDoR at h
 by_cases h1:ndOk N t=false
 ·rw[if_pos h1]at h
  unfold sNDo;rw[if_pos h1,h.1,h.2]
 ·rw[if_neg h1]at h
  by_cases h2:(sTreeDo t c).2≠0
  ·rw[if_pos h2]at h
   unfold sNDo;rw[if_neg h1,if_pos h2,h.1,h.2]
  ·rw[if_neg h2]at h
   exact aft_eq (by simpa using h1) (by simpa using h2) h
theorem cc_pos (hc:callOk c=true):c.path≠[]:=fun h=>by
 obtain⟨f1,_⟩:=callOk_facts hc;rw[h]at f1;simp at f1
theorem nd_from (hok:ndOk N t=true) (h0:(sTreeDo t c).2=0):∀x∈(sNDo N t c).1.list,(∃y∈N.list,x.id=y.id/\x.path=(if c.kind=5 then mvP c.path c.to y.path else y.path)/\(c.kind=4->x.path≠c.path))\/(x=⟨N.next,c.path⟩/\(sNDo N t c).1.next=N.next+1/\c.kind≠4/\c.kind≠5/\c.path∉N.list.map (·.path)):=by
 unfold sNDo
 rw[if_neg (by rw[hok];simp),if_neg (by rw[h0];simp)]
 have hid:=nsOk_id (ndOk_f hok).2.1
 by_cases h5:c.kind=5
 ·rw[if_pos h5]
  intro x hx
  have:=(movN_perm c.path c.to N.list []).mem_iff.1 hx
  rw[List.nil_append]at this
  obtain⟨y,hy,rfl⟩:=List.mem_map.1 this
  exact .inl ⟨y,hy,mvd_id _ _ _,by rw[if_pos h5,mvd_path],fun h=>by omega⟩
 ·rw[if_neg h5]
  by_cases h4:c.kind=4
  ·rw[if_pos h4]
   intro x hx
   obtain⟨h1,h2⟩:=List.mem_filter.1 hx
   exact .inl ⟨x,h1,rfl,by rw[if_neg h5],fun _=>by simpa using h2⟩
  ·rw[if_neg h4]
   split
   ·intro x hx;exact .inl ⟨x,hx,rfl,by first|rfl|rw[if_neg h5],fun h=>absurd h h4⟩
   ·rename_i hz
    have hnn:c.path∉N.list.map (·.path):=fun q=>hz ((idN_pos (p:=c.path) (l:=N.list) fun y hy=>(hid y hy).1).2 ((thr_iff (c:=c) N.list).2 q))
    split
    ·intro x hx;exact .inl ⟨x,hx,rfl,by first|rfl|rw[if_neg h5],fun h=>absurd h h4⟩
    ·intro x hx
     rcases insN_mem hx with rfl|hx
     ·exact .inr ⟨rfl,rfl,h4,h5,hnn⟩
     ·exact .inl ⟨x,hx,rfl,by first|rfl|rw[if_neg h5],fun h=>absurd h h4⟩
theorem nd_step (hok:ndOk N t=true) (h0:(sTreeDo t c).2=0) (h1:(sNDo N t c).2=0):ndOk (sNDo N t c).1 (sTreeDo t c).1=true/\N.next<=(sNDo N t c).1.next:=by
 obtain⟨ht,hc,es⟩:=sT_do h0
 obtain⟨_,hns,hpt⟩:=ndOk_f hok
 obtain⟨hsn,hnd⟩:=lt_sn (nsOk_lt hns)
 have hid:=nsOk_id hns
 have hnx:=(nsOk_b hns).2.2
 have hmem:=nd_mem hok
 have hidn:=nsOk_nd hns
 have h0':(sDo t c).2=0:=by rw[<-es];exact h0
 rw[es]
 unfold sNDo at h1⊢
 rw[if_neg (by rw[hok];simp),if_neg (by rw[h0];simp)]at h1⊢
 by_cases h5:c.kind=5
 ·rw[if_pos h5]
  obtain⟨x,hx,hz,hto,hpre,hty,k1,k2,k3⟩:=do_rename ht hc h0' h5
  have hmp:=movN_perm c.path c.to N.list []
  rw[List.nil_append]at hmp
  refine⟨ndOk_mk hty hnx (sn_lt (movN_sn _ _ _ _ List.Pairwise.nil) ((hmp.map _).nodup_iff.2 (mv_nodup hok hz))) (fun y hy=>?_) ((hmp.map _).nodup_iff.2 ?_) fun q=>?_,Int.le_refl _⟩
  ·obtain⟨z,hz2,rfl⟩:=List.mem_map.1 (hmp.mem_iff.1 hy)
   rw[mvd_id];exact hid z hz2
  ·rw[List.map_map,show((fun x:No=>x.id)∘mvd c.path c.to)=fun x:No=>x.id from funext fun y=>mvd_id _ _ y];exact hidn
  ·rw[(hmp.map _).mem_iff,List.map_map,show((fun x:No=>x.path)∘mvd c.path c.to)=fun x:No=>mvP c.path c.to x.path from funext fun y=>mvd_path _ _ y]
   constructor
   ·intro hq
    obtain⟨y,hy,rfl⟩:=List.mem_map.1 hq
    obtain⟨g1,g2⟩:=(hmem y.path).1 (List.mem_map_of_mem hy)
    cases hb:c.path.isPrefixOf y.path with
    |true=>
     obtain⟨r,hr⟩:=pre_split hb
     rw[hr,mvP_below,k1]
     rw[hr,tat_add,hx]at g2
     exact⟨fun e=>hto (List.append_eq_nil_iff.1 e).1,g2⟩
    |false=>
     rw[mvP_off hb,sim_is (k3 y.path hb (none_below hz g2))]
     exact⟨g1,g2⟩
   ·rintro⟨g1,g2⟩
    have mk:∀p,p≠[]->(tat t p).isSome=true->mvP c.path c.to p∈N.list.map fun x=>mvP c.path c.to x.path:=fun p a b=>by
     obtain⟨y,hy,e⟩:=List.mem_map.1 ((hmem p).2 ⟨a,b⟩)
     exact List.mem_map.2 ⟨y,hy,by rw[e]⟩
    cases hb:c.path.isPrefixOf q with
    |true=>obtain⟨r,rfl⟩:=pre_split hb;rw[k2]at g2;cases g2
    |false=>
     cases hb2:c.to.isPrefixOf q with
     |true=>
      obtain⟨r,rfl⟩:=pre_split hb2
      rw[k1]at g2
      have:=mk (c.path++r) (fun e=>cc_pos hc (List.append_eq_nil_iff.1 e).1) (by rw[tat_add,hx];exact g2)
      rwa[mvP_below]at this
     |false=>
      have:=mk q g1 (by rw[<-sim_is (k3 q hb hb2)];exact g2)
      rwa[mvP_off hb]at this
 ·rw[if_neg h5]at h1⊢
  by_cases h4:c.kind=4
  ·rw[if_pos h4]
   obtain⟨_,hty,hsm,hgn,hoff⟩:=do_remove ht hc h0' h4
   refine⟨ndOk_mk hty hnx (sn_lt (hsn.sublist List.filter_sublist) (hnd.sublist (List.filter_sublist.map _))) (fun y hy=>hid y (List.mem_filter.1 hy).1) (hidn.sublist (List.filter_sublist.map _)) fun q=>?_,Int.le_refl _⟩
   rw[List.mem_map]
   constructor
   ·rintro⟨y,hy,rfl⟩
    obtain⟨a,b⟩:=List.mem_filter.1 hy
    obtain⟨g1,g2⟩:=(hmem y.path).1 (List.mem_map_of_mem a)
    exact⟨g1,by rw[sim_is (hoff y.path (by simpa using b))];exact g2⟩
   ·rintro⟨g1,g2⟩
    have hne:q≠c.path:=fun e=>by rw[e,hgn]at g2;cases g2
    rw[sim_is (hoff q hne)]at g2
    obtain⟨y,hy,rfl⟩:=List.mem_map.1 ((hmem q).2 ⟨g1,g2⟩)
    exact⟨y,List.mem_filter.2 ⟨hy,by simpa using hne⟩,rfl⟩
  ·rw[if_neg h4]at h1⊢
   obtain⟨hty,hsm,hoff⟩:=do_else ht hc h0' h4 h5
   have hi:=idN_pos (p:=c.path) (l:=N.list) fun y hy=>(hid y hy).1
   by_cases hz:0<idN c.path N.list
   ·rw[if_pos hz]
    have hin:=(thr_iff (c:=c) N.list).1 (hi.1 hz)
    refine⟨ndOk_mk hty hnx (nsOk_lt hns) hid hidn fun q=>?_,Int.le_refl _⟩
    by_cases e:q=c.path
    ·rw[e];exact⟨fun _=>⟨cc_pos hc,hsm⟩,fun _=>hin⟩
    ·rw[hmem,hoff q e]
   ·rw[if_neg hz]at h1⊢
    have hnn:c.path∉N.list.map (·.path):=fun q=>hz (hi.2 ((thr_iff (c:=c) N.list).2 q))
    by_cases h9:9999<N.next
    ·rw[if_pos h9]at h1;cases h1
    ·rw[if_neg h9]at h1⊢
     have hp:=insN_perm ⟨N.next,c.path⟩ N.list
     refine⟨ndOk_mk hty ⟨by show 1<=N.next+1;omega,by show N.next+1<=10000;omega⟩ (sn_lt (insN_sn hsn) ((hp.map _).nodup_iff.2 (List.nodup_cons.2 ⟨hnn,hnd⟩))) (fun y hy=>?_) ((hp.map _).nodup_iff.2 (List.nodup_cons.2 ⟨fun q=>?_,hidn⟩)) fun q=>?_,by show N.next<=N.next+1;omega⟩
     ·show 0<y.id/\y.id<N.next+1
      rcases insN_mem hy with rfl|hy
      ·(try dsimp only);omega
      ·have:=hid y hy;omega
     ·obtain⟨y,hy,e⟩:=List.mem_map.1 q
      have:=hid y hy;dsimp only at e;omega
     ·rw[(hp.map _).mem_iff,List.map_cons,List.mem_cons,hmem]
      show q=c.path\/_↔_
      by_cases e:q=c.path
      ·rw[e];exact⟨fun _=>⟨cc_pos hc,hsm⟩,fun _=>.inl rfl⟩
      ·rw[hoff q e];exact⟨fun h=>h.resolve_left e,.inr⟩
theorem pathN_false {i:Int}:∀{l:List No},(pathN i l).2=false->∀y∈l,y.id≠i
 |[],_,y,hy=>by simp at hy
 |x::l,h,y,hy=>by
  rw[pathN]at h
  by_cases e:(x.id==i)=true
  ·rw[if_pos e]at h;cases h
  ·rw[if_neg e]at h
   rcases List.mem_cons.1 hy with rfl|hy
   ·simpa using e
   ·exact pathN_false h y hy
theorem pathN_true {i:Int}:∀{l:List No},(pathN i l).2=true->∃y∈l,y.id=i/\(pathN i l).1=y.path
 |[],h=>by simp[pathN]at h
 |x::l,h=>by
  rw[pathN]at h⊢
  by_cases e:(x.id==i)=true
  ·rw[if_pos e]at h⊢;exact⟨x,by simp,eq_of_beq e,rfl⟩
  ·rw[if_neg e]at h⊢
   obtain⟨y,hy,a,b⟩:=pathN_true h
   exact⟨y,List.mem_cons_of_mem _ hy,a,b⟩
theorem id_uniq {l:List No} (h:(l.map (·.id)).Nodup) {a b:No} (ha:a∈l) (hb:b∈l) (e:a.id=b.id):a=b:=by
 rw[List.Nodup,List.pairwise_map,List.pairwise_iff_getElem]at h
 obtain⟨i,hi,rfl⟩:=List.mem_iff_getElem.1 ha
 obtain⟨j,hj,rfl⟩:=List.mem_iff_getElem.1 hb
 rcases Nat.lt_trichotomy i j with k|k|k
 ·exact absurd e (h i j hi hj k)
 ·subst k;rfl
 ·exact absurd e.symm (h j i hj hi k)
theorem top_step (hok:ndOk N t=true) (h0:(sTreeDo t c).2=0) {x:No} (hx:x∈(sNDo N t c).1.list):
  ((nPath N x.id).2=false->¬x.id<N.next)/\((nPath N x.id).2=true->c.kind=5->(tAt t (nPath N x.id).1).1.dir=(tAt (sTreeDo t c).1 x.path).1.dir/\(tAt t (nPath N x.id).1).1.mode=(tAt (sTreeDo t c).1 x.path).1.mode/\(tAt t (nPath N x.id).1).1.data=(tAt (sTreeDo t c).1 x.path).1.data):=by
 obtain⟨ht,hc,es⟩:=sT_do h0
 obtain⟨_,hns,hpt⟩:=ndOk_f hok
 have e1:nPath N x.id=pathN x.id N.list:=by unfold nPath;rw[if_pos hns]
 rw[e1]
 have hf:=nd_from hok h0 x hx
 refine⟨fun h=>?_,fun h h5=>?_⟩
 ·rcases hf with ⟨y,hy,e,_⟩|⟨rfl,_⟩
  ·exact absurd e.symm (pathN_false h y hy)
  ·exact Int.lt_irrefl _
 ·obtain⟨y,hy,e,e2⟩:=pathN_true h
  rcases hf with ⟨z,hz,e3,e4,_⟩|⟨_,_,_,k5,_⟩
  ·have:y=z:=id_uniq (nsOk_nd hns) hy hz (e.trans e3)
   subst this
   rw[if_pos h5]at e4
   rw[e2,e4]
   obtain⟨g1,g2⟩:=(nd_mem hok y.path).1 (List.mem_map_of_mem hy)
   obtain⟨u,hu,hz2,hto,hpre,hty,k1,k2,k3⟩:=do_rename ht hc (by rw[<-es];exact h0) h5
   have key:sim (tat (sDo t c).1 (mvP c.path c.to y.path)) (tat t y.path):=by
    cases hb:c.path.isPrefixOf y.path with
    |true=>
     obtain⟨r,hr⟩:=pre_split hb
     rw[hr,mvP_below,k1,tat_add,hu];exact sim_eq rfl
    |false=>rw[mvP_off hb];exact k3 y.path hb (none_below hz2 g2)
   rw[es]
   cases hp:tat t y.path with
   |none=>rw[hp]at g2;cases g2
   |some v=>
    rw[hp]at key
    cases hq:tat (sDo t c).1 (mvP c.path c.to y.path)with
    |none=>rw[hq]at key;exact key.elim
    |some w=>
     rw[hq]at key
     rw[tAt_some ht hp,tAt_some hty hq]
     exact⟨key.1.symm,key.2.1.symm,key.2.2.symm⟩
  ·exact absurd h5 k5
theorem top_same (h:(sNDo N t c).2≠0) (hok:ndOk N t=true):(sNDo N t c).1=N:=by
 unfold sNDo at h⊢
 rw[if_neg (by rw[hok];simp)]at h⊢
 split
 ·rfl
 ·rename_i h0
  rw[if_neg h0]at h
  split
  ·rename_i h5;rw[if_pos h5]at h;exact absurd rfl h
  ·rename_i h5
   rw[if_neg h5]at h
   split
   ·rename_i h4;rw[if_pos h4]at h;exact absurd rfl h
   ·rename_i h4
    rw[if_neg h4]at h
    split
    ·rfl
    ·rename_i hz
     rw[if_neg hz]at h
     split
     ·rfl
     ·rename_i h9;rw[if_neg h9]at h;exact absurd rfl h
theorem nd_code (h:(sNDo N t c).2=0):ndOk N t=true/\(sTreeDo t c).2=0:=by
 unfold sNDo at h
 by_cases h1:ndOk N t=false
 ·rw[if_pos h1]at h;cases h
 ·rw[if_neg h1]at h
  by_cases h2:(sTreeDo t c).2≠0
  ·rw[if_pos h2]at h;exact absurd h h2
  ·exact⟨by simpa using h1,by simpa using h2⟩
end
set_option maxRecDepth 100000
theorem nsOk_NB {N:Nds} (h:nsOk N=true):NB N:=by
 obtain⟨k1,k2,k3,k4⟩:=nsOk_b h
 exact⟨by omega,fun x hx=>by have:=wS_pth (k2 x hx);omega,by omega,by omega⟩
theorem NBs_step {N:Nds} {t:Tr} {c:Cl} (h:NBs N) (h1:wS c.path<2^32) (h2:wS c.to<2^32):NBs (sNDo N t c).1:=by
 cases hk:ndOk N t with
 |false=>unfold sNDo;rw[if_pos hk];exact⟨by simp,by simp,by decide,by decide⟩
 |true=>exact(NB_sN (nsOk_NB (ndOk_f hk).2.1) h1 h2).s
theorem nPath_wS {N:Nds} {i:Int} (h:NBs N):wS (nPath N i).1<2^33:=by
 unfold nPath
 split
 ·have:∀l:List No,(∀x∈l,wS x.path<2^33)->wS (pathN i l).1<2^33:=by
   intro l
   induction l with
   |nil=>intro _;exact(by decide:wS []<2^33)
   |cons x l ih=>
    intro h
    rw[pathN]
    split
    ·exact h x (by simp)
    ·exact ih fun y hy=>h y (by simp[hy])
  exact this N.list h.2.1
 ·exact(by decide:wS []<2^33)
theorem NBs.l {N:Nds} (h:NBs N):∀x∈N.list,wS x.path<2^34:=fun x hx=>Nat.lt_trans (h.2.1 x hx) (by decide)
theorem NBs.l4 {N:Nds} (h:NBs N):∀x∈N.list,wS x.path<2^40:=fun x hx=>Nat.lt_trans (h.2.1 x hx) (by decide)
theorem NBs.n {N:Nds} (h:NBs N):N.list.length<2^18:=by have:=h.1;omega
theorem NBs.n4 {N:Nds} (h:NBs N):N.list.length<2^20:=by have:=h.1;omega
theorem NBs.b {N:Nds} (h:NBs N): -2^50<N.next/\N.next<2^50:=by have:=h.2.2;omega
section
variable {N:Nds} {t:Tr} {c:Cl}
end
open Go Go.Proofs
set_option maxRecDepth 100000
set_option maxHeartbeats 2000000 in
theorem FnNodesTop_ok (X:Str):PE G 4 [.sl 1 (X.map fun c=>[AV.int .u8 (c.toNat:Int)])] (.bool true):=by
 refine Pe Tryz.func4 ?_
 refine Rr (Fn0 [0] [] (Sq fun K2 hK2=>?_))
 refine Rr (Av0 2 20 [(19,.sl 1 (X.map fun c=>[AV.int .u8 (c.toNat:Int)]))] (lnm X uc) (Cn1 (decide ((1048576:Int)<((X.length:Int):Int))) [0] [] (Ki/\·) ⟨rfl,fun hc4 c4=>?_,fun hc4 c4=>?_⟩))
 refine Rr (Fn0 [] [(2,.bool true)] (Rt (.bool true) ?_))
 exact fin_lea (lea_refl _)
 refine Sk (Jn (hK2 (Kp [0] (Rr (Bc0 2 [(23,.sl 1 (X.map fun c=>[AV.int .u8 (c.toNat:Int)]))] 5 [.sl 1 (X.map fun c=>[AV.int .u8 (c.toNat:Int)])] 24 (PC.use (DrawNodesDo_ok X om) fun r hr=>?_))))))
 obtain⟨N,t,c,rfl,hN,hw,h1,h2,h3⟩:=hr
 have hl1:=wS_len c.path;have hl2:=wS_len c.to
 refine Ke (Fn3 [] [(5,.ptr 8 0),(4,.ptr 4 0),(3,.ptr 0 0)] ([(8,clc c),(4,tcs t),(0,nsc N)]++·) 12 ((0<3)/\(1<3)/\(2<3)/\(true=true/\2=2/\0+2<=2)/\(true=true/\5=5/\0+5<=5)/\(true=true/\5=5/\0+5<=5)/\·) ⟨dc,dc,dc,dc,dc,dc,Rr (Bc1 4 [(31,.agg (clc c)),(30,.agg (tcs t)),(29,.agg (nsc N))] 7 [.agg (nsc N),.agg (tcs t),.agg (clc c)] 32 ((0+2<=2/\0<2)/\(0+5<=5/\0<5)/\(0+5<=5/\0<5)/\·) ⟨dc,dc,dc,PC.use (iND_pc N t c hN.l hN.n hN.b om (by first|omega|(show wS c.path<2^32;omega)) (by first|omega|(show wS []<2^32;decide)) (by first|omega|(show([]:Str).length<2^20;decide))) fun r hr=>?_⟩)⟩)
 obtain⟨M,kk,rfl,hM0⟩:=hr
 obtain⟨rfl,rfl⟩:M=(sNDo N t c).1/\kk=(sNDo N t c).2:=by have:=nd_all hM0;rw[<-this];exact⟨rfl,rfl⟩
 have hM:=NBs_step (t:=t) (c:=c) hN om om
 have hMn:=hM.1;have hMx:=hM.2.2;have hNx:=hN.2.2
 refine Ke (Fn3 [3,4,5] [(7,.i ((sNDo N t c).2)),(6,.ptr 12 0)] ([(12,nsc ((sNDo N t c).1))]++·) 16 ((0<2)/\(1<2)/\(true=true/\2=2/\0+2<=2)/\·) ⟨dc,dc,dc,Rr (Bc1 4 [(38,.agg (clc c)),(37,.agg (tcs t)),(36,.agg (nsc N))] 8 [.agg (nsc N),.agg (tcs t),.agg (clc c)] 39 ((0+2<=2/\0<2)/\(0+5<=5/\0<5)/\(0+5<=5/\0<5)/\·) ⟨dc,dc,dc,PE.use (sNDo_ok N t c hN.l hN.n hN.b om om om om) ?_⟩)⟩)
 refine Ke (Fn3 [3,4,5,6,7] [(9,.i ((sNDo N t c).2)),(8,.ptr 16 0)] ([(16,nsc ((sNDo N t c).1))]++·) 20 ((0<2)/\(1<2)/\(true=true/\2=2/\0+2<=2)/\·) ⟨dc,dc,dc,Sq fun K9 hK9=>?_⟩)
 refine Qm [0,0,3,7,15,15,63,127,255,511,1023,1023,4095,1023,1023,32767,65535,131071] [(0,[]),(1,[]),(2,[]),(3,[]),(4,[]),(5,[]),(6,[]),(7,[]),(8,[]),(9,[]),(10,[]),(11,[]),(13,[]),(14,[]),(12,[13,14]),(15,[]),(16,[]),(17,[])] 59 ((!decide (((sNDo N t c).2:Int)=((sNDo N t c).2:Int)))||((!(wxN ((sNDo N t c).1) ((sNDo N t c).1)))||(!((ndOk N t)==(ndOk N t))))) [3,4,5,6,7] ?_ ?_
 refine qAn1 4 [(45,.bool (!decide (((sNDo N t c).2:Int)=((sNDo N t c).2:Int)))),(44,.bool (!decide (((sNDo N t c).2:Int)=((sNDo N t c).2:Int)))),(43,.i ((sNDo N t c).2)),(42,.i ((sNDo N t c).2))] (Ki/\·) ⟨rfl,Qg (fun hg11 g11=>?_) (fun hg11 g11=>?_)⟩
 refine qMn0 true (by rw[hg11];rfl)
 refine qBc1 3 [(47,.agg (nsc ((sNDo N t c).1))),(46,.agg (nsc ((sNDo N t c).1)))] [] 9 [.agg (nsc ((sNDo N t c).1)),.agg (nsc ((sNDo N t c).1))] 48 ((0+2<=2/\0<2)/\(0+2<=2/\0<2)/\·) ⟨dc,dc,?_⟩
 refine PE.use (wxN_ok ((sNDo N t c).1) ((sNDo N t c).1) hM.l4 hM.l4 hM.n4 hM.n4) ?_
 refine Kq (p:=(True)) trivial ?_
 refine qAn0 3 [(51,.bool (!(wxN ((sNDo N t c).1) ((sNDo N t c).1)))),(50,.bool (!(wxN ((sNDo N t c).1) ((sNDo N t c).1)))),(49,.bool (!(wxN ((sNDo N t c).1) ((sNDo N t c).1))))] (Qg (fun hg12 g12=>?_) (fun hg12 g12=>?_))
 refine qMn0 true (by rw[hg11,hg12];rfl)
 refine qBc1 5 [(56,.agg (tcs t)),(55,.agg (nsc N)),(53,.agg (tcs t)),(52,.agg (nsc N))] [13,14] 12 [.agg (nsc N),.agg (tcs t)] 54 ((0+2<=2/\0<2)/\(0+5<=5/\0<5)/\(0+2<=2/\0<2)/\(0+5<=5/\0<5)/\·) ⟨dc,dc,dc,dc,?_⟩
 refine PE.use (nOk_ok N t hN.l4 hN.n4 hN.b om) ?_
 refine Kq (p:=(((0+2<=2/\0<2)/\(AV.agg (nsc N)=(.agg (nsc N):AV)))/\((0+5<=5/\0<5)/\(AV.agg (tcs t)=(.agg (tcs t):AV)))/\True)) ⟨⟨dc,rfl⟩,⟨dc,rfl⟩,trivial⟩ ?_
 refine qBc0 1 [] [] 13 [.agg (nsc N),.agg (tcs t)] 57 ?_
 refine PE.use (sNOk_ok N t hN.l4 hN.n4 hN.b om) ?_
 refine Kq (p:=(True)) trivial ?_
 refine qMn1 (!((ndOk N t)==(ndOk N t))) ((TK.bool=TK.bool)/\·) ⟨rfl,(by rw[hg11,hg12];rfl)⟩
 refine Cc ((!decide (((sNDo N t c).2:Int)=((sNDo N t c).2:Int)))||((!(wxN ((sNDo N t c).1) ((sNDo N t c).1)))||(!((ndOk N t)==(ndOk N t))))) (fun hc13 c13=>?_) fun hc13 c13=>?_
 refine Rr (Fn0 [] [(2,.bool false)] (Rt (.bool false) ?_))
 exfalso
 have h:=hc13
 rw[wxN_self]at h;simp at h
 refine Sk (Jn (hK9 (Kp [3,4,5,6,7] (Sq fun K15 hK15=>?_))))
 refine Rr (Bc1 3 [(61,.agg (tcs t)),(60,.agg (nsc N))] 13 [.agg (nsc N),.agg (tcs t)] 62 ((0+2<=2/\0<2)/\(0+5<=5/\0<5)/\·) ⟨dc,dc,PE.use (sNOk_ok N t hN.l4 hN.n4 hN.b om) (Ke (Cn0 (!(ndOk N t)) [3,4,5,6,7] [] ⟨fun hc17 c17=>?_,fun hc17 c17=>?_⟩))⟩)
 refine Rr (Fn1 [] [(2,.bool (decide (((sNDo N t c).2:Int)=(1:Int))))] (Ki/\·) ⟨rfl,Rt (.bool (decide (((sNDo N t c).2:Int)=(1:Int)))) (fin_lea ?_)⟩)
 have h:=hc17
 rw[decide_eq_true (show(sNDo N t c).2=1 by unfold sNDo;rw[if_pos (by simpa using h)])];exact lea_refl _
 refine Sk (Jn (hK15 (Kp [3,4,5,6,7] (Sq fun K19 hK19=>?_))))
 refine Rr (Cn1 (!decide (((sNDo N t c).2:Int)=(0:Int))) [3,4,5,6] [] (Ki/\·) ⟨rfl,fun hc21 c21=>?_,fun hc21 c21=>?_⟩)
 refine Rr (Bc1 3 [(69,.agg (nsc N)),(68,.agg (nsc ((sNDo N t c).1)))] 9 [.agg (nsc ((sNDo N t c).1)),.agg (nsc N)] 70 ((0+2<=2/\0<2)/\(0+2<=2/\0<2)/\·) ⟨dc,dc,PE.use (wxN_ok ((sNDo N t c).1) N hM.l4 hN.l4 hM.n4 hN.n4) (Ke (Fn0 [] [(2,.bool (wxN ((sNDo N t c).1) N))] ?_))⟩)
 refine Rt (.bool (wxN ((sNDo N t c).1) N)) (fin_lea ?_)
 rw[top_same (by have h:=hc21;simpa using h) (by have h:=hc17;simpa using h),wxN_self];exact lea_refl _
 refine Sk (Jn (hK19 (Kp [3,4,5,6] ?_)))
 have hk0:(sNDo N t c).2=0:=by have h:=hc21;simpa using h
 obtain⟨hok,h0⟩:=nd_code hk0
 obtain⟨hst,hnx⟩:=nd_step hok h0 hk0
 refine Rr (Bc1 3 [(73,.agg (clc c)),(72,.agg (tcs t))] 10 [.agg (tcs t),.agg (clc c)] 74 ((0+5<=5/\0<5)/\(0+5<=5/\0<5)/\·) ⟨dc,dc,?_⟩)
 have hW2:=W_sTreeDo t c hw
 refine PE.use (by have:=iTreeDo_ok t c om om om om;rwa[iTreeDo_eq]at this) ?_
 refine Ke (Fn3 [3,4,5,6] [(10,.ptr 20 0)] ([(20,tcs ((sTreeDo t c).1))]++·) 24 ((0<2)/\(1<2)/\(true=true/\5=5/\0+5<=5)/\·) ⟨dc,dc,dc,Sq fun K24 hK24=>?_⟩)
 refine Rm 87 ((!(ndOk ((sNDo N t c).1) ((sTreeDo t c).1)))||(decide ((((sNDo N t c).1).next:Int)<(N.next:Int)))) [3,4,5,6,10] ?_ ?_
 refine Bc1 3 [(78,.agg (tcs ((sTreeDo t c).1))),(77,.agg (nsc ((sNDo N t c).1)))] 12 [.agg (nsc ((sNDo N t c).1)),.agg (tcs ((sTreeDo t c).1))] 79 ((0+2<=2/\0<2)/\(0+5<=5/\0<5)/\·) ⟨dc,dc,?_⟩
 refine PE.use (nOk_ok ((sNDo N t c).1) ((sTreeDo t c).1) hM.l4 hM.n4 hM.b om) ?_
 refine Ke (An0 2 [(81,.bool (!(ndOk ((sNDo N t c).1) ((sTreeDo t c).1)))),(80,.bool (!(ndOk ((sNDo N t c).1) ((sTreeDo t c).1))))] (Rg (fun hg26 g26=>?_) (fun hg26 g26=>?_)))
 refine Mn0 true (by rw[hg26];rfl)
 refine Mn1 (decide ((((sNDo N t c).1).next:Int)<(N.next:Int))) (((1:Nat)≠0)/\(0+1<=2/\0<2)/\((1:Nat)≠0)/\(0+1<=2/\0<2)/\Ki/\·) ⟨dc,dc,dc,dc,rfl,(by rw[hg26];rfl)⟩
 refine Cc ((!(ndOk ((sNDo N t c).1) ((sTreeDo t c).1)))||(decide ((((sNDo N t c).1).next:Int)<(N.next:Int)))) (fun hc27 c27=>?_) fun hc27 c27=>?_
 refine Rr (Fn0 [] [(2,.bool false)] (Rt (.bool false) ?_))
 exfalso
 have h:=hc27
 rw[hst]at h;simp at h;omega
 refine Sk (Jn (hK24 (Kp [3,4,5,6,10] (Sq fun K29 hK29=>?_))))
 refine Rr (Fn0 [3,4,5,6,10] [(12,.i 0)] (Bl (h_l (fun(i:Nat)=>([(3,.ptr 0 0),(4,.ptr 4 0),(5,.ptr 8 0),(6,.ptr 12 0),(10,.ptr 20 0),(12,.i i)]:Fr)) (fun(i:Nat)=>([(20,tcs ((sTreeDo t c).1)),(16,nsc ((sNDo N t c).1)),(12,nsc ((sNDo N t c).1)),(8,clc c),(4,tcs t),(0,nsc N)]:Hp)) (fun(i:Nat) cn=>(i<=(sNDo N t c).1.list.length)/\cn=24) (fun(i:Nat)=>(sNDo N t c).1.list.length-i) 0 kr ?_ ?_ ?_ ?_)))
 refine⟨?_,rfl⟩;exact Nat.zero_le _
 exact⟨kr,kr,kr,kr,kr,kr,trivial⟩
 exact(sub_c kr (sub_c kr (sub_c kr (sub_c kr (sub_c kr (sub_c kr (List.nil_sublist _)))))))
 rintro i n1 hI
 (try dsimp only at hI)
 obtain⟨hi1,rfl⟩:=hI
 refine Sq fun K31 hK31=>?_
 refine Rr (Av1 4 91 [(90,.sl 2 ((((sNDo N t c).1).list).map ndc)),(89,.ptr 12 1),(88,.i i)] (lnm (((sNDo N t c).1).list) ndc) (((1:Nat)≠0)/\(1+1<=2/\1<2)/\·) ⟨dc,dc,Cn1 (decide ((i:Int)<(((((sNDo N t c).1).list).length:Nat):Int))) [3,4,5,6,10,12] [] (Ki/\·) ⟨rfl,fun hc33 c33=>?_,fun hc33 c33=>?_⟩⟩)
 refine Sk (Jn (hK31 (Kp [3,4,5,6,10,12] (Sq fun K34 hK34=>?_))))
 refine Bl ?_
 have hnn:=hM.2.1 _ (getD_mem (sNDo N t c).1.list i default om);have hnl:=wS_len ((sNDo N t c).1.list.getD i default).path
 refine Qr [0,0,2,0,14,30,62,127,255,511,511,1023,4095] [(0,[]),(1,[]),(2,[]),(3,[]),(4,[]),(5,[]),(6,[]),(7,[]),(8,[]),(9,[]),(10,[]),(11,[]),(12,[])] (qAv1 5 100 [(99,.i i),(98,.sl 2 ((((sNDo N t c).1).list).map ndc)),(97,.ptr 12 1),(96,.agg (nsc N))] (congrArg AV.pat (mg_nd (((sNDo N t c).1).list) i om)) (fun Z=>(0+2<=2/\0<2)/\((1:Nat)≠0)/\(1+1<=2/\1<2)/\(2=2/\(0:Int)<=(i:Int)/\(i:Int)<((((((sNDo N t c).1).list).map ndc).length:Nat):Int))/\Z) ⟨dc,dc,dc,⟨rfl,om,lmo⟩,qBc1 3 [(102,.i (((((sNDo N t c).1).list).getD i default).id)),(101,.pat (ndc ((((sNDo N t c).1).list).getD i default)))] [] 11 [.agg (nsc N),.i (((((sNDo N t c).1).list).getD i default).id)] 103 (((1:Nat)≠0)/\(1<=2/\0<2)/\·) ⟨dc,dc,?_⟩⟩)
 have hpb:=nPath_wS (i:=((((sNDo N t c).1).list).getD i default).id) hN;have hpl:=wS_len (nPath N (((((sNDo N t c).1).list).getD i default).id)).1
 refine PE.use (nPath_ok N (((((sNDo N t c).1).list).getD i default).id) hN.l4 hN.n4 hN.b) ?_
 refine Kq (p:=(True)) trivial ?_
 refine qFn1 [3,4,5,6,10,12] [(14,.bool ((nPath N (((((sNDo N t c).1).list).getD i default).id)).2)),(13,pth ((nPath N (((((sNDo N t c).1).list).getD i default).id)).1))] ((0<2)/\(1<2)/\·) ⟨dc,dc,Sq fun K36 hK36=>?_⟩
 refine Rr (Cn0 (!((nPath N (((((sNDo N t c).1).list).getD i default).id)).2)) [3,4,5,6,10,12,13] [] ⟨fun hc38 c38=>?_,fun hc38 c38=>?_⟩)
 refine Sq fun K39 hK39=>?_
 refine Qr [0,1,0,7,15,31,0,64,255] [(0,[]),(1,[]),(2,[]),(3,[]),(4,[]),(5,[]),(6,[]),(7,[]),(8,[])] (qAv1 4 111 [(110,.i i),(109,.sl 2 ((((sNDo N t c).1).list).map ndc)),(108,.ptr 12 1)] (congrArg AV.pat (mg_nd (((sNDo N t c).1).list) i om)) (fun Z=>((1:Nat)≠0)/\(1+1<=2/\1<2)/\(2=2/\(0:Int)<=(i:Int)/\(i:Int)<((((((sNDo N t c).1).list).map ndc).length:Nat):Int))/\Z) ⟨dc,dc,⟨rfl,om,lmo⟩,qCn1 (decide ((((((sNDo N t c).1).list).getD i default).id:Int)<(N.next:Int))) [3,4,5,6,10,12] [] (((1:Nat)≠0)/\(1<=2/\0<2)/\((1:Nat)≠0)/\(0+1<=2/\0<2)/\Ki/\·) ⟨dc,dc,dc,dc,rfl,fun hc41 c41=>?_,fun hc41 c41=>?_⟩⟩)
 refine Rr (Fn0 [] [(2,.bool false)] (Rt (.bool false) ?_))
 exfalso
 have h:=hc41
 obtain⟨k1,k2⟩:=top_step hok h0 (getD_mem (sNDo N t c).1.list i default om)
 exact k1 (by have h:=hc38;simpa using h) (by simpa using h)
 refine Sk (Jn (hK39 (Kp [3,4,5,6,10,12] (Xt (Jx (Bh (Jn (hK34 (Kp [3,4,5,6,10,12] (Rn (Av1 2 94 [(93,.i i)] (cI (wn1 i om)) (Ki/\·) ⟨rfl,Gn0 [(12,.i ((i+1:Nat):Int))] ?_⟩)))))))))))
 refine nk_n (Lr (i+1) [(0,0),(4,4),(8,8),(12,12),(16,16),(20,20)] 24 [(3,.ptr 0 0),(4,.ptr 4 0),(5,.ptr 8 0),(6,.ptr 12 0),(10,.ptr 20 0),(12,.i ((i+1:Nat):Int))] [(20,tcs ((sTreeDo t c).1)),(16,nsc ((sNDo N t c).1)),(12,nsc ((sNDo N t c).1)),(8,clc c),(4,tcs t),(0,nsc N)] [true,true,true,true,true,true] ?_ ?_ kr kr)
 (try dsimp only);omega
 refine⟨?_,rfl⟩;(try dsimp only);omega
 refine Sk (Jn (hK36 (Kp [3,4,5,6,10,12,13] (Rr (Pc1 3 [(119,pth ((nPath N (((((sNDo N t c).1).list).getD i default).id)).1)),(118,.agg (tcs t))] 120 (0+5<=5/\0<5) dc (TreeAt_ok t ((nPath N (((((sNDo N t c).1).list).getD i default).id)).1) om om) (Fn3 [3,4,5,6,10,12] [(15,.ptr 24 0)] ([(24,tcs ((tAt t ((nPath N (((((sNDo N t c).1).list).getD i default).id)).1)).1))]++·) 28 ((0<2)/\(1<2)/\(true=true/\5=5/\0+5<=5)/\·) ⟨dc,dc,dc,Qr [0,0,2,0,14,30,62,127,255,511,511,0,3071,8191] [(0,[]),(1,[]),(2,[]),(3,[]),(4,[]),(5,[]),(6,[]),(7,[]),(8,[]),(9,[]),(10,[]),(11,[0,2,6]),(12,[]),(13,[])] ?_⟩))))))
 refine qAv1 5 128 [(127,.i i),(126,.sl 2 ((((sNDo N t c).1).list).map ndc)),(125,.ptr 12 1),(124,.agg (tcs ((sTreeDo t c).1)))] (congrArg AV.pat (mg_nd (((sNDo N t c).1).list) i om)) (fun Z=>(0+5<=5/\0<5)/\((1:Nat)≠0)/\(1+1<=2/\1<2)/\(2=2/\(0:Int)<=(i:Int)/\(i:Int)<((((((sNDo N t c).1).list).map ndc).length:Nat):Int))/\Z) ⟨dc,dc,dc,⟨rfl,om,lmo⟩,qBc1 3 [(130,pth (((((sNDo N t c).1).list).getD i default).path)),(129,.pat [pth (((((sNDo N t c).1).list).getD i default).path)])] [] 14 [.agg (tcs ((sTreeDo t c).1)),pth (((((sNDo N t c).1).list).getD i default).path)] 131 (((1:Nat)≠0)/\(1<=1/\0<1)/\·) ⟨dc,dc,PE.use (TreeAt_ok ((sTreeDo t c).1) (((((sNDo N t c).1).list).getD i default).path) om om) (Kq (p:=(True)) trivial (qFn3 [3,4,5,6,10,12,15] [(17,.ptr 28 0)] ([(28,tcs ((tAt ((sTreeDo t c).1) (((((sNDo N t c).1).list).getD i default).path)).1))]++·) 32 (fun Z=>(0<2)/\(1<2)/\(((0+5<=5/\0<5)/\(AV.agg (tcs ((sTreeDo t c).1))=(.agg (tcs ((sTreeDo t c).1)):AV)))/\((1+1<=2/\1<2)/\(AV.sl 2 ((((sNDo N t c).1).list).map ndc)=(.sl 2 ((((sNDo N t c).1).list).map ndc):AV)))/\((1<=1/\0<1)/\(pth (((((sNDo N t c).1).list).getD i default).path)=pth (((((sNDo N t c).1).list).getD i default).path)))/\True)/\(true=true/\5=5/\0+5<=5)/\(True)/\Z) ⟨dc,dc,⟨⟨dc,rfl⟩,⟨dc,rfl⟩,⟨dc,rfl⟩,trivial⟩,dc,trivial,?_⟩))⟩⟩
 refine Rm 157 ((decide ((c.kind:Int)=(5:Int)))&&((!((((tAt t ((nPath N (((((sNDo N t c).1).list).getD i default).id)).1)).1).dir)==(((tAt ((sTreeDo t c).1) (((((sNDo N t c).1).list).getD i default).path)).1).dir)))||((!decide ((((tAt t ((nPath N (((((sNDo N t c).1).list).getD i default).id)).1)).1).mode:Int)=(((tAt ((sTreeDo t c).1) (((((sNDo N t c).1).list).getD i default).path)).1).mode:Int)))||(!((((tAt t ((nPath N (((((sNDo N t c).1).list).getD i default).id)).1)).1).data)==(((tAt ((sTreeDo t c).1) (((((sNDo N t c).1).list).getD i default).path)).1).data)))))) [3,4,5,6,10,12] ?_ ?_
 refine An1 4 [(137,.bool (decide ((c.kind:Int)=(5:Int)))),(136,.bool (decide ((c.kind:Int)=(5:Int)))),(135,.i c.kind),(134,.ptr 8 0)] (((1:Nat)≠0)/\(0+1<=5/\0<5)/\Ki/\·) ⟨dc,dc,rfl,Rg (fun hg46 g46=>?_) (fun hg46 g46=>?_)⟩
 refine An1 6 [(143,.bool (!((((tAt t ((nPath N (((((sNDo N t c).1).list).getD i default).id)).1)).1).dir)==(((tAt ((sTreeDo t c).1) (((((sNDo N t c).1).list).getD i default).path)).1).dir)))),(142,.bool (!((((tAt t ((nPath N (((((sNDo N t c).1).list).getD i default).id)).1)).1).dir)==(((tAt ((sTreeDo t c).1) (((((sNDo N t c).1).list).getD i default).path)).1).dir)))),(141,.bool (((tAt ((sTreeDo t c).1) (((((sNDo N t c).1).list).getD i default).path)).1).dir)),(140,.ptr 28 0),(139,.bool (((tAt t ((nPath N (((((sNDo N t c).1).list).getD i default).id)).1)).1).dir)),(138,.ptr 24 0)] (((1:Nat)≠0)/\(0+1<=5/\0<5)/\((1:Nat)≠0)/\(0+1<=5/\0<5)/\(TK.bool=TK.bool)/\·) ⟨dc,dc,dc,dc,rfl,Rg (fun hg47 g47=>?_) (fun hg47 g47=>?_)⟩
 refine Mn0 true (by rw[hg46,hg47];rfl)
 refine An1 7 [(150,.bool (!decide ((((tAt t ((nPath N (((((sNDo N t c).1).list).getD i default).id)).1)).1).mode:Int)=(((tAt ((sTreeDo t c).1) (((((sNDo N t c).1).list).getD i default).path)).1).mode:Int)))),(149,.bool (!decide ((((tAt t ((nPath N (((((sNDo N t c).1).list).getD i default).id)).1)).1).mode:Int)=(((tAt ((sTreeDo t c).1) (((((sNDo N t c).1).list).getD i default).path)).1).mode:Int)))),(148,.bool (!decide ((((tAt t ((nPath N (((((sNDo N t c).1).list).getD i default).id)).1)).1).mode:Int)=(((tAt ((sTreeDo t c).1) (((((sNDo N t c).1).list).getD i default).path)).1).mode:Int)))),(147,.i (((tAt ((sTreeDo t c).1) (((((sNDo N t c).1).list).getD i default).path)).1).mode)),(146,.ptr 28 1),(145,.i (((tAt t ((nPath N (((((sNDo N t c).1).list).getD i default).id)).1)).1).mode)),(144,.ptr 24 1)] (((1:Nat)≠0)/\(1+1<=5/\1<5)/\((1:Nat)≠0)/\(1+1<=5/\1<5)/\Ki/\·) ⟨dc,dc,dc,dc,rfl,Rg (fun hg48 g48=>?_) (fun hg48 g48=>?_)⟩
 refine Mn0 true (by rw[hg46,hg47,hg48];rfl)
 refine Mn1 (!((((tAt t ((nPath N (((((sNDo N t c).1).list).getD i default).id)).1)).1).data)==(((tAt ((sTreeDo t c).1) (((((sNDo N t c).1).list).getD i default).path)).1).data))) (((1:Nat)≠0)/\(2+1<=5/\2<5)/\((1:Nat)≠0)/\(2+1<=5/\2<5)/\·) ⟨dc,dc,dc,dc,(by rw[hg46,hg47,hg48];rfl)⟩
 refine Mn0 false (by rw[hg46];rfl)
 refine Cc ((decide ((c.kind:Int)=(5:Int)))&&((!((((tAt t ((nPath N (((((sNDo N t c).1).list).getD i default).id)).1)).1).dir)==(((tAt ((sTreeDo t c).1) (((((sNDo N t c).1).list).getD i default).path)).1).dir)))||((!decide ((((tAt t ((nPath N (((((sNDo N t c).1).list).getD i default).id)).1)).1).mode:Int)=(((tAt ((sTreeDo t c).1) (((((sNDo N t c).1).list).getD i default).path)).1).mode:Int)))||(!((((tAt t ((nPath N (((((sNDo N t c).1).list).getD i default).id)).1)).1).data)==(((tAt ((sTreeDo t c).1) (((((sNDo N t c).1).list).getD i default).path)).1).data)))))) (fun hc49 c49=>?_) fun hc49 c49=>?_
 refine Rr (Fn0 [] [(2,.bool false)] (Rt (.bool false) ?_))
 exfalso
 have h:=hc49
 obtain⟨k1,k2⟩:=top_step hok h0 (getD_mem (sNDo N t c).1.list i default om)
 have hp:=hc38
 simp only[Bool.not_eq_false']at hp
 have h5:c.kind=5:=by simp at h;exact h.1
 obtain⟨q1,q2,q3⟩:=k2 hp h5
 rw[q1,q2,q3]at h;simp at h
 refine Sk (Bn (Jn (hK34 (Kp [3,4,5,6,10,12] (Rn (Av1 2 94 [(93,.i i)] (cI (wn1 i om)) (Ki/\·) ⟨rfl,Gn0 [(12,.i ((i+1:Nat):Int))] (nk_n ?_)⟩))))))
 refine Lr (i+1) [(0,0),(4,4),(8,8),(12,12),(16,16),(20,20)] 24 [(3,.ptr 0 0),(4,.ptr 4 0),(5,.ptr 8 0),(6,.ptr 12 0),(10,.ptr 20 0),(12,.i ((i+1:Nat):Int))] [(20,tcs ((sTreeDo t c).1)),(16,nsc ((sNDo N t c).1)),(12,nsc ((sNDo N t c).1)),(8,clc c),(4,tcs t),(0,nsc N)] [true,true,true,true,true,true] ?_ ?_ kr kr
 (try dsimp only);omega
 refine⟨?_,rfl⟩;(try dsimp only);omega
 refine Xt (Jx (Lx (Bh (Jn (hK29 (Kp [] (Rr (Fn0 [] [(2,.bool true)] (Rt (.bool true) ?_)))))))))
 exact fin_lea (lea_refl _)
end Go.Proofs.YtkgflbkcdoeckaaGreatT
set_option maxRecDepth 100000
namespace Go.Proofs.YtkgflbkcdoeckaaGreat
open Go.ChangeShapes Go.WideShapes Go.ChangeAt Go.RowKit
theorem ext_below {w w':World} (h:YtkgflbkcdoeckaaGreatT.Ext (fun _=>False) w w'):Below w.heap.size w w':=⟨h.os,h.tape,h.output,h.size,fun k hk=>h.keep k hk fun x=>x⟩
theorem calls_of {P:Program} {f:Nat} {vs:Array Value} {w:World} {R:Ending->World->Prop} {fn:Func} {b:Code} (hf:P.funcs[f]?=some fn) (hb:fn.body=some b) (hnm:(fn.name== "runtime.NumGoroutine")=false) (h:YtkgflbkcdoeckaaGreatT.CallsX P f vs w R):Calls P f vs w R:=by
 have hnm':¬fn.name= "runtime.NumGoroutine" :=by simpa using hnm
 have henter:(callFunc f vs).run P w=.ok (.enter f vs) w:=by
  simp[callFunc,hf,hnm',hb]
 unfold YtkgflbkcdoeckaaGreatT.CallsX at h
 rw[henter]at h
 exact h.2
theorem callDone (zs:List Int) (hw:∀n∈zs,(Lit.int .u8 n).wf=true) (A:Option Addr) (c:Nat) (W:World) (hc:zs.length<=c)
  (ha:zs≠[]->∃a,A=some a/\a.block<W.heap.size/\∀i,i<zs.length->W.cell? (a.add i)=some (.int .u8 (zs.getD i 0))):
  YtkgflbkcdoeckaaGreatT.CallsX Tryz.prog 4 #[.slice A zs.length c] W fun e W'=>e=.returned (.bool true)/\Below W.heap.size W W':=by
 let X:YtkgflbkcdoeckaaGreatT.Str:=zs.map fun n=>UInt8.ofNat n.toNat
 have hX:X.map (fun c=>[YtkgflbkcdoeckaaGreatT.AV.int .u8 (c.toNat:Int)])=zs.map fun n=>[YtkgflbkcdoeckaaGreatT.AV.int .u8 n]:=by
  simp only[X,List.map_map]
  refine List.map_congr_left fun n hn=>?_
  have:=hw n hn
  simp only[Lit.wf,Bool.and_eq_true,decide_eq_true_eq]at this
  have h1:0<=n:=by have:=this.1;simpa[IntKind.min,IntKind.signed]using this
  have h2:n<=255:=by have:=this.2;simpa[IntKind.max,IntKind.signed,IntKind.bits]using this
  simp only[Function.comp]
  congr 2
  rw[UInt8.toNat_ofNat']
  omega
 have h:=YtkgflbkcdoeckaaGreatT.FnNodesTop_ok X
 rw[hX]at h
 refine YtkgflbkcdoeckaaGreatT.CallsX.mono (h (fun _=>none) 0 (fun _=>False) W #[.slice A zs.length c] ⟨rfl,fun _ _ _=>rfl,0,fun _ _=>rfl⟩ (fun _ hb=>hb.elim) ?_) ?_
 ·simp only[YtkgflbkcdoeckaaGreatT.VRs,YtkgflbkcdoeckaaGreatT.VR,and_true]
  refine⟨A,c,by rw[List.length_map],by rw[List.length_map];exact hc,fun hne=>?_⟩
  obtain⟨a,rfl,hb,hcell⟩:=ha (by rintro rfl;exact hne rfl)
  refine⟨a,rfl,fun x=>x,hb,?_⟩
  have key:∀(l:List Int) (k:Nat),(∀i,i<l.length->W.cell? (a.add (k+i))=some (.int .u8 (l.getD i 0)))->YtkgflbkcdoeckaaGreatT.PEs (fun _=>none) W (fun _=>False) 1 (l.map fun n=>[YtkgflbkcdoeckaaGreatT.AV.int .u8 n]) a k:=by
   intro l
   induction l with
   |nil=>intro k _;simp only[List.map_nil,YtkgflbkcdoeckaaGreatT.PEs]
   |cons n l ih=>
    intro k hl
    simp only[List.map_cons,YtkgflbkcdoeckaaGreatT.PEs,YtkgflbkcdoeckaaGreatT.PCs,YtkgflbkcdoeckaaGreatT.VR,List.length_cons,List.length_nil,Nat.mul_one,and_true]
    refine⟨trivial,⟨_,by simpa using hl 0 (by simp),rfl,rfl⟩,ih (k+1) fun i hi=>?_⟩
    have:=hl (i+1) (by simpa using hi)
    rw[show k+1+i=k+(i+1) by omega]
    simpa using this
  exact key zs 0 (fun i hi=>by rw[Nat.zero_add];exact hcell i hi)
 ·rintro e W' ⟨v,r,rfl,rfl,hv,hx⟩
  simp only[YtkgflbkcdoeckaaGreatT.VR]at hv
  exact⟨by rw[hv],ext_below hx⟩
theorem own:ownKnob Tryz.prog.godebug=none:=by kernel_rfl
theorem contract (H:Type) (enc:TypeId×Value->H) (W:World) (base:Nat) (args:Array Value) (ds gs:List (DataW H)) (before:List MemPlace)
  (hval:∀(j:Nat) t v,Tryz.f4.params[j]?=some t->args[j]?=some v->Value.okWide Tryz.prog W .any base t v)
  (hW:DataW.Whole enc Tryz.prog Tryz.f4.params.toList Rows.fnNodesTopSpec.vars false W args.toList ds gs before):
  Calls Tryz.prog 4 args W fun e W'=>∃v,e=.returned v/\Rows.fnNodesTopSpec.post enc Tryz.prog Tryz.f4 false true false false W args v W':=by
 have hW':=hW
 obtain⟨p,q,hA0,hV,rfl,hfz,hnd⟩:=hW
 have hA:DataW.TrodAll enc Tryz.prog W 0 (fun _=>true) true Tryz.f4.params.toList args.toList ds p:=hA0
 rw[Tryz.params4]at hA hval
 obtain⟨v0,vs0,d0,ds0,p0,q0,hargs,rfl,rfl,h0,r0⟩:=trodAll_cons hA
 obtain⟨rfl,rfl,rfl⟩:=trodAll_nil r0
 obtain rfl:args=#[v0]:=by cases args;simp_all
 obtain⟨rfl,rfl⟩:=trodVars_none hV
 simp only[List.append_nil]at hW'
 have hlt:∀x∈p0,x.block<W.heap.size:=fun x hx=>by simpa using hW'.lt x hx
 have hargs2:∀(W':World),Below W.heap.size W W'->DataW.Trod enc Tryz.prog W' 0 (fun b=>decide (b<W.heap.size)) true 22 v0 d0 p0:=
  fun W' hn=>Below.trod (by kernel_rfl) (by kernel_rfl) (of_decide_eq_true (by kernel_rfl)) h0 hn hlt
 have fin:∀W',Below W.heap.size W W'->Rows.fnNodesTopSpec.post enc Tryz.prog Tryz.f4 false true false false W #[v0] (.bool true) W':=fun W' hb=>
  ⟨_,_,_,[],_,[],hW',trodAll_mk1 (shut_bool Tryz.underlying4 true),trodAll_mk1 (hargs2 W' hb),rfl,hb.frame _,fun h=>by cases h⟩
 obtain⟨fuel,hf⟩:=h0
 obtain⟨a0,len,cap,rfl⟩:=okWide_slice Tryz.underlying22 (hval 0 22 v0 rfl rfl)
 have go:∀(zs:List Int) (A:Option Addr) (c:Nat),(∀n∈zs,(Lit.int .u8 n).wf=true)->zs.length<=c->(zs≠[]->∃a,A=some a/\a.block<W.heap.size/\∀i,i<zs.length->W.cell? (a.add i)=some (.int .u8 (zs.getD i 0)))->Value.slice a0 len cap=.slice A zs.length c->
   Calls Tryz.prog 4 #[.slice a0 len cap] W fun e W'=>∃v,e=.returned v/\Rows.fnNodesTopSpec.post enc Tryz.prog Tryz.f4 false true false false W #[.slice a0 len cap] v W':=by
  intro zs A c h1 h2 h3 h4
  rw[h4]
  rw[h4]at fin
  exact(calls_of (b:=YtkgflbkcdoeckaaGreatT.bd Tryz.f4) Tryz.func4 (by kernel_rfl) (by kernel_rfl) (callDone zs h1 A c W h2 h3)).mono fun e W' ⟨he,hb⟩=>⟨_,he,fin W' hb⟩
 rcases open_ints Tryz.underlying22 Tryz.underlying5 (by kernel_rfl) hf with ⟨hcs,hx⟩|⟨a,len',cap',zs,hcs,_,hl,hm,hz,hx,hcell,hwz⟩
 ·simp[Value.cells]at hcs
  obtain⟨rfl,rfl,rfl⟩:=hcs
  exact go [] none 0 (by simp) (Nat.le_refl _) (fun h=>absurd rfl h) rfl
 ·simp[Value.cells]at hcs
  obtain⟨rfl,rfl,rfl⟩:=hcs
  simp only[Prod.mk.injEq]at hx
  obtain⟨rfl,rfl⟩:=hx
  simp only[if_true]at hz
  have hl2:(zs.take len).length=len:=by rw[List.length_take];omega
  refine go (zs.take len) (some a) cap (fun n hn=>hwz n (List.mem_of_mem_take hn)) (by omega) (fun hne=>⟨a,rfl,?_,fun i hi=>?_⟩) (by rw[hl2])
  ·have:0<zs.length:=by
    rcases zs with _|⟨z,zs⟩
    ·simp at hne
    ·simp
   exact hlt (.cell a.block a.off) (MemPlace.mem_row.2 ⟨0,by simpa using this,by simp⟩)
  ·rw[hl2]at hi
   rw[hcell i (by omega)]
   simp[List.getD,hi]
set_option maxRecDepth 100000 in
theorem lifted (os:Os) (started:os.Started) (H:Type) (enc:TypeId×Value->H):
  ReturnsInHanded {} Tryz.checked os 4 .any (Rows.fnNodesTopSpec.pre6 enc Tryz.prog Tryz.f4 Rows.fnNodesTopRow.domain false) (Rows.fnNodesTopSpec.post enc Tryz.prog Tryz.f4 false true false false):=by
 refine returnsInHanded_of_change (C:=Tryz.checked) own started (by kernel_rfl) Tryz.func4
  (ChangeSpec.witness6 (enc:=enc) (C:=Tryz.checked) false ⟨#[],#[.slice none 0 0],[]⟩ 8 (by kernel_rfl) (by kernel_rfl) (by kernel_rfl) (by kernel_rfl)) ?_
 intro W base args ds gs before hval hW _ _
 exact contract H enc W base args ds gs before hval hW
theorem fnNodesTop_holds:Rows.FnNodesTopSaid:=
 OpenClaim.holds_of_wide 4 Tryz.f4 rfl rfl rfl rfl rfl rfl rfl ⟨rfl,rfl,rfl,rfl,rfl⟩ rfl rfl rfl rfl rfl (by kernel_rfl) Tryz.func4 (by kernel_rfl)
  (of_decide_eq_true (by kernel_rfl)) (by unfold Func.isWrapper;first|(rw[if_pos (by decide +kernel)];kernel_rfl)|(rw[if_neg (by decide +kernel)];exact⟨rfl,rfl⟩))
  (fun os started H enc _=>lifted os started H enc)
end Go.Proofs.YtkgflbkcdoeckaaGreat
