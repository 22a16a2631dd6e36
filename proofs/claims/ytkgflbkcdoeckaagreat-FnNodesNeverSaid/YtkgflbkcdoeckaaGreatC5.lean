/- A part of the proof that FnNodesNever, on every slice of bytes, returns true (no conditions): rules of the walk, and what the functions compute. -/
import Derived.Carry
import Derived.ChangeSlices
import Derived.OpenShut
import Derived.ProofKit
import Derived.RowKit
import Derived.Test.YtkgflbkcdoeckaaGreatRows
import Derived.Test.YtkgflbkcdoeckaaGreatC4
set_option linter.unusedVariables false
set_option linter.unusedSimpArgs false
namespace Go.Proofs.YtkgflbkcdoeckaaGreatT
open Go
set_option maxRecDepth 100000
def sim:Option Tr->Option Tr->Prop
 |none,none=>True
 |some a,some b=>a.dir=b.dir/\a.mode=b.mode/\a.data=b.data
 |_,_=>False
theorem sim_eq {a b:Option Tr} (h:a=b):sim a b:=by
 subst h;cases a with
 |none=>trivial
 |some x=>exact⟨rfl,rfl,rfl⟩
theorem sim_is {a b:Option Tr} (h:sim a b):a.isSome=b.isSome:=by
 cases a<;>cases b<;>first|rfl|exact h.elim
theorem sim_trans {a b c:Option Tr} (h:sim a b) (k:sim b c):sim a c:=by
 cases a<;>cases b<;>cases c<;>first|trivial|exact h.elim|exact k.elim|exact⟨h.1.trans k.1,h.2.1.trans k.2.1,h.2.2.trans k.2.2⟩
theorem tset_shell:∀(p:List Str) (t x:Tr) (g:Bool),p≠[]->(tset p t x g).dir=t.dir/\(tset p t x g).mode=t.mode/\(tset p t x g).data=t.data
 |[],_,_,_,h=>absurd rfl h
 |p0::p,t,x,g,_=>by
  simp only[tset,sE]
  generalize sA _ _ _ _ _ _ _=s
  cases (p.isEmpty&&(!s.2.2&& !g))<;>exact⟨rfl,rfl,rfl⟩
theorem find_insne {nm m:Str} (x:Tr) (hne:(nm==m)=false):∀l:List (Str×Tr),(insE nm x l).find? (fun e=>e.1==m)=l.find? fun e=>e.1==m
 |[]=>by simp[insE,hne]
 |e::l=>by
  rw[insE]
  split
  ·rw[List.find?_cons,List.find?_cons,find_insne x hne l]
  ·rw[List.find?_cons,show((nm,x).1==m)=false from hne]
theorem kid_wf {t:Tr} (hw:t.wf=true) {k:Tr} (hk:k∈t.kids):k.wf=true:=by
 have:=hw
 rw[wf_eq]at this
 simp only[Bool.and_eq_true,List.all_eq_true]at this
 exact this.2 _ hk
theorem tset_sim {x:Tr} {g:Bool}:∀(p q:List Str) (t:Tr),t.wf=true->tas t->p≠[]->p.isPrefixOf q=false->sim (tat (tset p t x g) q) (tat t q)
 |[],_,_,_,_,h,_=>absurd rfl h
 |p0::p,[],t,_,_,hp,_=>tset_shell (p0::p) t x g hp
 |[nm],m::q,t,hw,ha,_,h1=>by
  have hne:(nm==m)=false:=by simpa[List.isPrefixOf]using h1
  have hne2:(m==nm)=false:=by
   have:¬nm=m:=by simpa using hne
   simpa using fun e=>this e.symm
  have hl:=wf_len hw
  refine sim_eq ?_
  cases g with
  |true=>exact tat_apart [nm] (m::q) t hw h1 (by simp[List.isPrefixOf,hne2])
  |false=>
   cases hf:fnd nm t.names with
   |none=>
    rw[tsE_new t x nm fun e he h=>fnd_none hf (h▸(List.of_mem_zip he).1),tat_E,find_insne x hne,tat_ents hl]
   |some k=>
    rw[tset_hit hl ((tas_eq t).1 ha).1 (fnd_lt hf) (fnd_some hf),tat_cons,tat_cons,Tr.names_mk,Tr.kids_mk]
    cases hm:fnd m t.names with
    |none=>rfl
    |some j=>
     have hjk:k≠j:=fun e=>by
      have a:=fnd_some hf;have b:=fnd_some hm
      rw[e,b]at a;rw[a]at hne;simp at hne
     show tat ((t.kids.set k x).getD j .none) q=tat (t.kids.getD j .none) q
     rw[List.getD_eq_getElem?_getD,List.getElem?_set_ne hjk,<-List.getD_eq_getElem?_getD]
 |n::n2::p,m::q,t,hw,ha,_,h1=>by
  rw[tsE_deep _ _ _ _ _ (by simp),tat_E,tat_ents (wf_len hw),find_map m n]
  cases hq:(ents t).find? fun e=>e.1==m with
  |none=>trivial
  |some e=>
   have hem:=List.find?_some hq
   simp only[Option.map_some]
   cases hx:e.1==n with
   |false=>exact sim_eq rfl
   |true=>
    have e1:=eq_of_beq hem
    have e2:=eq_of_beq hx
    have hnm:n=m:=by rw[<-e1,<-e2]
    subst hnm
    have hk:=(List.of_mem_zip (List.mem_of_find?_eq_some hq)).2
    exact tset_sim (n2::p) q e.2 (kid_wf hw hk) (tass_mem ((tas_eq t).1 ha).2 hk) (by simp) (by simpa[List.isPrefixOf]using h1)
theorem tat_add:∀(p r:List Str) (t:Tr),tat t (p++r)=(tat t p).bind fun x=>tat x r
 |[],r,t=>rfl
 |n::p,r,t=>by
  rw[List.cons_append,tat_cons,tat_cons]
  cases fnd n t.names with
  |none=>rfl
  |some k=>exact tat_add p r _
theorem tat_nonames {x:Tr} (h:x.names=[]) {n:Str} {r:List Str}:tat x (n::r)=none:=by
 rw[tat_cons,h];rfl
theorem tas_ok {t:Tr} (ht:treeOk t=true):tas t:=by
 simp only[treeOk,Bool.and_eq_true]at ht;exact tas_parts t 0 ht.2.1
theorem pre_split {p q:List Str} (h:p.isPrefixOf q=true):∃r,q=p++r:=by
 obtain⟨r,hr⟩:=List.isPrefixOf_iff_prefix.1 h
 exact⟨r,hr.symm⟩
theorem xat_some {t x:Tr} {p:List Str} (h:tat t p=some x):xat t p=x:=by unfold xat;rw[h];rfl
section
variable {t:Tr} {c:Cl}
theorem set_else (ht:treeOk t=true) (hc:callOk c=true) (hP:parC t c.path=0) {y:Tr} (h1:y.names=(xat t c.path).names) (h2:y.kids=(xat t c.path).kids):
  ∀q,q≠c.path->(tat (tset c.path t y false) q).isSome=(tat t q).isSome:=by
 intro q hq
 obtain⟨f1,_⟩:=callOk_facts hc
 have hp:c.path≠[]:=fun h=>by rw[h]at f1;simp at f1
 cases hb:c.path.isPrefixOf q with
 |false=>exact sim_is (tset_sim c.path q t (wf_ok ht) (tas_ok ht) hp hb)
 |true=>
  obtain⟨r,rfl⟩:=pre_split hb
  rw[tat_add,tat_add,set_at ht hc hP y]
  cases r with
  |nil=>exact absurd (by simp) hq
  |cons n r=>
   show(tat y (n::r)).isSome=_
   have e:tat y (n::r)=tat (xat t c.path) (n::r):=by rw[tat_cons,tat_cons,h1,h2]
   rw[e]
   cases hx:tat t c.path with
   |none=>unfold xat;rw[hx];rfl
   |some x=>rw[xat_some hx];rfl
theorem do_else (ht:treeOk t=true) (hc:callOk c=true) (h:(sDo t c).2=0) (h4:c.kind≠4) (h5:c.kind≠5):
  treeOk (sDo t c).1=true/\(tat (sDo t c).1 c.path).isSome=true/\∀q,q≠c.path->(tat (sDo t c).1 q).isSome=(tat t q).isSome:=by
 have hP:=par0 h
 have key:∃y:Tr,(sDo t c).1=tset c.path t y false/\treeOk (sDo t c).1=true/\y.names=(xat t c.path).names/\y.kids=(xat t c.path).kids:=by
  have hk:c.kind=1\/c.kind=6\/c.kind=2\/c.kind=3:=by
   unfold callOk at hc
   split at hc
   ·omega
   ·split at hc
    ·omega
    ·cases hc
  have file:sDo t c=sFile t c->∃y:Tr,(sDo t c).1=tset c.path t y false/\treeOk (sDo t c).1=true/\y.names=(xat t c.path).names/\y.kids=(xat t c.path).kids:=fun es=>by
   rw[es]at h⊢
   unfold sFile at h⊢
   cases hd:(tat t c.path).isSome&&(xat t c.path).dir with
   |true=>rw[hd]at h;cases h
   |false=>
    rw[hd]at h
    simp only[cond_false]at h⊢
    cases h3: !(tat t c.path).isSome&&decide (c.kind=(3:Int))with
    |true=>rw[h3]at h;cases h
    |false=>
     rw[h3]at h
     simp only[cond_false]at h⊢
     cases hk3:decide (c.kind=(3:Int))with
     |true=>
      rw[hk3]at h
      simp only[cond_true]at h⊢
      obtain⟨hy,e1⟩:=fits_ok h
      exact⟨_,e1,by rw[e1];exact hy,rfl,rfl⟩
     |false=>
      rw[hk3]at h
      simp only[cond_false]at h⊢
      cases h24:decide ((24:Int)<((c.data.length:Nat):Int)+c.at_)with
      |true=>rw[h24]at h;cases h
      |false=>
       rw[h24]at h
       simp only[cond_false]at h⊢
       obtain⟨hy,e1⟩:=fits_ok h
       exact⟨_,e1,by rw[e1];exact hy,rfl,rfl⟩
  rcases hk with hk|hk|hk|hk
  ·have es:sDo t c=bif (tat t c.path).isSome then(t,5)else fits (tset c.path t (newDir c.at_) false) t:=by
    unfold sDo;rw[decide_eq_true hP,hk];rfl
   rw[es]at h⊢
   cases hx:tat t c.path with
   |some x=>rw[hx]at h;cases h
   |none=>
    rw[hx]at h
    simp only[Option.isSome_none,cond_false]at h⊢
    obtain⟨hy,e1⟩:=fits_ok h
    exact⟨_,e1,by rw[e1];exact hy,by unfold xat;rw[hx];rfl,by unfold xat;rw[hx];rfl⟩
  ·obtain⟨f1,_⟩:=callOk_facts hc
   have hp:c.path≠[]:=fun h=>by rw[h]at f1;simp at f1
   have hm:inb c.at_ 0 7=true:=by
    unfold callOk at hc
    rw[if_pos (by omega)]at hc
    simp only[Bool.and_eq_true]at hc
    exact hc.2
   have es:sDo t c=bif !(tat t c.path).isSome then(t,3)else(tset c.path t (wMode (xat t c.path) c.at_) false,0):=by
    unfold sDo;rw[decide_eq_true hP,hk];rfl
   rw[es]at h⊢
   cases hx:tat t c.path with
   |none=>rw[hx]at h;cases h
   |some x=>
    simp only[Option.isSome_some,Bool.not_true,cond_false]
    exact⟨_,rfl,by rw[xat_some hx];exact mode_ok ht hm hp hx,rfl,rfl⟩
  ·exact file (by unfold sDo;rw[decide_eq_true hP,hk];rfl)
  ·exact file (by unfold sDo;rw[decide_eq_true hP,hk];rfl)
 obtain⟨y,e,hok,k1,k2⟩:=key
 refine⟨hok,?_,?_⟩
 ·rw[e,set_at ht hc hP y];rfl
 ·rw[e];exact set_else ht hc hP k1 k2
theorem do_remove (ht:treeOk t=true) (hc:callOk c=true) (h:(sDo t c).2=0) (hk:c.kind=4):
  (sDo t c).1=tset c.path t .none true/\treeOk (sDo t c).1=true/\(tat t c.path).isSome=true/\(tat (sDo t c).1 c.path)=none/\∀q,q≠c.path->sim (tat (sDo t c).1 q) (tat t q):=by
 obtain⟨f1,f2,f3,f4⟩:=callOk_facts hc
 have hp:c.path≠[]:=fun h=>by rw[h]at f1;simp at f1
 have hP:=par0 h
 have es:sDo t c=bif !(tat t c.path).isSome then(t,3)else bif decide ((0:Int)<(((xat t c.path).names.length:Nat):Int))then(t,5)else(tset c.path t .none true,0):=by
  unfold sDo;rw[decide_eq_true hP,hk];rfl
 rw[es]at h⊢
 cases hx:tat t c.path with
 |none=>rw[hx]at h;cases h
 |some x=>
  rw[hx,xat_some hx]at h
  rw[xat_some hx]
  cases h0:decide ((0:Int)<((x.names.length:Nat):Int))with
  |true=>rw[h0]at h;cases h
  |false=>
   have hn:x.names=[]:=List.eq_nil_of_length_eq_zero (by have:=of_decide_eq_false h0;omega)
   refine⟨rfl,gone_ok ht hp,rfl,tat_gone c.path t hp,fun q hq=>?_⟩
   show sim (tat (tset c.path t .none true) q) (tat t q)
   cases hb:c.path.isPrefixOf q with
   |false=>exact tset_sim c.path q t (wf_ok ht) (tas_ok ht) hp hb
   |true=>
    obtain⟨r,rfl⟩:=pre_split hb
    cases r with
    |nil=>exact absurd (by simp) hq
    |cons n r=>
     rw[tat_add,tat_add,tat_gone c.path t hp,hx]
     show sim none (tat x (n::r))
     rw[tat_nonames hn];trivial
theorem do_rename (ht:treeOk t=true) (hc:callOk c=true) (h:(sDo t c).2=0) (hk:c.kind=5):
  ∃x,tat t c.path=some x/\tat t c.to=none/\c.to≠[]/\c.path.isPrefixOf c.to=false/\treeOk (sDo t c).1=true/\(∀r,tat (sDo t c).1 (c.to++r)=tat x r)/\(∀r,tat (sDo t c).1 (c.path++r)=none)/\
   ∀q,c.path.isPrefixOf q=false->c.to.isPrefixOf q=false->sim (tat (sDo t c).1 q) (tat t q):=by
 obtain⟨f1,f2,f3,f4⟩:=callOk_facts hc
 obtain⟨f5,f6⟩:=f4 hk
 have hp:c.path≠[]:=fun h=>by rw[h]at f1;simp at f1
 have hto:c.to≠[]:=fun h=>by rw[h]at f5;simp at f5
 have hP:=par0 h
 have hs:=tas_ok ht
 have es:sDo t c=sRename t c:=by unfold sDo;rw[decide_eq_true hP,hk];rfl
 rw[es]at h⊢
 unfold sRename at h⊢
 cases hx:tat t c.path with
 |none=>rw[hx]at h;cases h
 |some x=>
  rw[hx,xat_some hx]at h
  rw[xat_some hx]
  simp only[Option.isSome_some,Bool.not_true,cond_false]at h⊢
  cases hpre:c.path.isPrefixOf c.to with
  |true=>rw[hpre]at h;cases h
  |false=>
   rw[hpre]at h
   simp only[cond_false]at h⊢
   by_cases hQ:parC t c.to=0
   case neg=>rw[decide_eq_false hQ]at h;exact absurd h hQ
   rw[decide_eq_true hQ]at h⊢
   simp only[Bool.not_true,cond_false]at h⊢
   cases hy:tat t c.to with
   |some y=>rw[hy]at h;cases h
   |none=>
    rw[hy]at h
    simp only[Option.isSome_none,cond_false]at h⊢
    obtain⟨hok,e1⟩:=fits_ok h
    rw[e1]
    have hg:=gone_ok ht hp
    refine⟨x,rfl,trivial,hto,trivial,hok,?_,?_,?_⟩
    ·have hpre2:c.to.isPrefixOf c.path=false:=by
      cases hz:c.to.isPrefixOf c.path with
      |false=>rfl
      |true=>
       exfalso
       obtain⟨r,hr⟩:=pre_split hz
       rw[hr,tat_add,hy]at hx;cases hx
     have hset:tat (tset c.to t x false) c.to=some x:=by
      refine tat_set c.to t (wf_ok ht) hs (tnd_ok ht) hto ?_
      unfold parC at hQ
      cases hq:tat t (c.to.take (c.to.length-1))with
      |none=>rw[hq]at hQ;cases hQ
      |some q=>rfl
     have hw2:(tset c.to t x false).wf=true:=wf_tset _ _ _ _ (wf_ok ht) (wf_xat .none _ _ _ (wf_ok ht) hx)
     intro r
     rw[swap_ok c.path c.to t (wf_ok ht) hs (tnd_ok ht) hp hto (by rw[hx];rfl) hy hpre,tat_add,tat_apart c.path c.to _ hw2 hpre hpre2,hset];rfl
    ·intro r
     rw[swap_ok c.path c.to t (wf_ok ht) hs (tnd_ok ht) hp hto (by rw[hx];rfl) hy hpre,tat_add,tat_gone c.path _ hp];rfl
    ·intro q h1 h2
     exact sim_trans (tset_sim c.to q _ (wf_ok hg) (tas_ok hg) hto h2) (tset_sim c.path q t (wf_ok ht) hs hp h1)
end
theorem uniN:∀{a b:List No},a.Perm b->SN a->SN b->(a.map (·.path)).Nodup->a=b
 |[],b,hp,_,_,_=>by rw[List.nil_perm.1 hp]
 |x::a,[],hp,_,_,_=>by have:=hp.length_eq;simp at this
 |x::a,y::b,hp,ha,hb,hs=>by
  have ha1:=List.pairwise_cons.1 ha
  have hb1:=List.pairwise_cons.1 hb
  rw[List.map_cons,List.nodup_cons]at hs
  have e:x=y:=by
   rcases List.mem_cons.1 (hp.mem_iff.1 (List.mem_cons_self))with e|hx
   ·exact e
   ·rcases List.mem_cons.1 (hp.mem_iff.2 (List.mem_cons_self))with e|hy
    ·exact e.symm
    ·have h1:=hb1.1 x hx
     have h2:=ha1.1 y hy
     have h3:cmpP x.path y.path=0:=by
      rw[cmpP_anti]at h2;omega
     exact absurd (List.mem_map.2 ⟨y,hy,(cmpP_eq h3).symm⟩) hs.1
  subst e
  rw[uniN ((List.perm_cons _).1 hp) ha1.2 hb1.2 hs.2]
theorem insN_perm (x:No):∀l:List No,(insN x l).Perm (x::l)
 |[]=>List.Perm.refl _
 |y::l=>by
  unfold insN
  split
  ·exact((insN_perm x l).cons y).trans (List.Perm.swap _ _ _)
  ·exact List.Perm.refl _
theorem insN_sn {x:No}:∀{l:List No},SN l->SN (insN x l)
 |[],_=>List.pairwise_singleton _ _
 |y::l,h=>by
  have h1:=List.pairwise_cons.1 h
  unfold insN
  split
  ·rename_i hc
   refine List.pairwise_cons.2 ⟨fun z hz=>?_,insN_sn h1.2⟩
   rcases insN_mem hz with rfl|hz
   ·rw[cmpP_anti];omega
   ·exact h1.1 z hz
  ·rename_i hc
   refine List.pairwise_cons.2 ⟨fun z hz=>?_,h⟩
   have hyx:0<=cmpP y.path x.path:=by omega
   rcases List.mem_cons.1 hz with rfl|hz
   ·exact hyx
   ·have h2:=h1.1 z hz
    have a1:=cmpP_anti y.path x.path
    have a2:=cmpP_anti z.path y.path
    have a3:=cmpP_anti z.path x.path
    have:=cmpP_trans (a:=x.path) (b:=y.path) (c:=z.path) (by omega) (by omega)
    omega
theorem movN_perm (f t:List Str):∀(ys acc:List No),(movN f t acc ys).Perm (acc++ys.map (mvd f t))
 |[],acc=>by simp[movN]
 |y::ys,acc=>by
  rw[movN]
  refine(movN_perm f t ys _).trans ?_
  rw[List.map_cons]
  refine((insN_perm _ acc).append_right _).trans ?_
  exact List.perm_middle.symm
theorem movN_sn (f t:List Str):∀(ys acc:List No),SN acc->SN (movN f t acc ys)
 |[],acc,h=>h
 |y::ys,acc,h=>movN_sn f t ys _ (insN_sn h)
theorem aftL_5 {c:Cl} (h:c.kind=5):∀l:List No,aftL c l=l.map (mvd c.path c.to)
 |[]=>rfl
 |x::l=>by
  have:=aftL_5 h l
  unfold aftL at*
  rw[List.map_cons,List.flatten_cons,this,stA,if_neg (by omega),if_pos h];rfl
theorem aftL_4 {c:Cl} (h:c.kind=4):∀l:List No,aftL c l=l.filter fun x=> !(x.path==c.path)
 |[]=>rfl
 |x::l=>by
  have:=aftL_4 h l
  unfold aftL at*
  rw[List.map_cons,List.flatten_cons,this,stA,List.filter_cons]
  by_cases e:x.path=c.path
  ·rw[if_pos ⟨h,e⟩,if_neg (by simp[e])];rfl
  ·rw[if_neg (fun q=>e q.2),if_neg (by omega),if_pos (by simp[e])];rfl
theorem aftL_0 {c:Cl} (h:c.kind≠4) (k:c.kind≠5):∀l:List No,aftL c l=l
 |[]=>rfl
 |x::l=>by
  have:=aftL_0 h k l
  unfold aftL at*
  rw[List.map_cons,List.flatten_cons,this,stA,if_neg (fun q=>h q.1),if_neg k];rfl
theorem idN_pos {p:List Str}:∀{l:List No},(∀x∈l,0<x.id)->(0<idN p l↔l.any (fun x=>x.path==p)=true)
 |[],_=>by simp[idN]
 |x::l,h=>by
  have ih:=idN_pos (p:=p) (l:=l) fun y hy=>h y (List.mem_cons_of_mem _ hy)
  rw[idN,List.any_cons]
  by_cases e:(x.path==p)=true
  ·rw[if_pos e,e];simpa using h x List.mem_cons_self
  ·rw[if_neg e,ih];simp[e]
theorem nsOk_lt {N:Nds} (h:nsOk N=true):N.list.Pairwise fun a b=>cmpP a.path b.path<0:=by
 unfold nsOk at h
 simp only[Bool.and_eq_true,decide_eq_true_eq,List.all_eq_true,List.mem_range]at h
 have hst:=h.2.2
 have hlt:∀j i,i<j->j<N.list.length->cmpP (N.list.getD i default).path (N.list.getD j default).path<0:=by
  intro j
  induction j with
  |zero=>intro i hi;omega
  |succ j ih=>
   intro i hi hj
   have h1:=hst (j+1) hj
   unfold stepN at h1
   simp only[Bool.and_eq_true,Bool.or_eq_true,decide_eq_true_eq,Nat.add_sub_cancel]at h1
   have h2:=h1.2.2.1.resolve_left (by omega)
   rcases Nat.lt_or_ge i j with hij|hij
   ·exact cmp_lt_trans (ih i hij (by omega)) h2
   ·obtain rfl:i=j:=by omega
    exact h2
 rw[List.pairwise_iff_getElem]
 intro i j hi hj hij
 have:=hlt j i hij hj
 simpa[List.getD,hi,hj]using this
theorem lt_sn {l:List No} (h:l.Pairwise fun a b=>cmpP a.path b.path<0):SN l/\(l.map (·.path)).Nodup:=by
 refine⟨h.imp fun {a b} k=>by rw[cmpP_anti];omega,?_⟩
 rw[List.Nodup,List.pairwise_map]
 exact h.imp fun {a b} k e=>by rw[e,cmpP_self]at k;omega
theorem nsOk_id {N:Nds} (h:nsOk N=true):∀x∈N.list,0<x.id/\x.id<N.next:=by
 unfold nsOk at h
 simp only[Bool.and_eq_true,decide_eq_true_eq,List.all_eq_true,List.mem_range]at h
 intro x hx
 obtain⟨i,hi,rfl⟩:=List.mem_iff_getElem.1 hx
 have h4:=h.2.2 i hi
 unfold stepN at h4
 simp only[Bool.and_eq_true]at h4
 have e:N.list.getD i default=N.list[i]:=by simp[List.getD,hi]
 rw[e]at h4
 have:=h4.1
 simp[inb]at this
 omega
set_option maxRecDepth 100000
theorem nsOk_nd {N:Nds} (h:nsOk N=true):(N.list.map (·.id)).Nodup:=by
 unfold nsOk at h
 simp only[Bool.and_eq_true,decide_eq_true_eq,List.all_eq_true,List.mem_range]at h
 rw[List.Nodup,List.pairwise_map,List.pairwise_iff_getElem]
 intro i j hi hj hij e
 have h4:=h.2.2 j hj
 unfold stepN at h4
 simp only[Bool.and_eq_true,Bool.not_eq_true',List.any_eq_false]at h4
 have:=h4.2.2.2 N.list[i] (List.mem_take_iff_getElem.2 ⟨i,by omega,rfl⟩)
 apply this;simp[List.getD,hj,e]
theorem nsOk_mk {N:Nds} (h1:1<=N.next/\N.next<=10000) (h2:N.list.length<=30) (h3:N.list.Pairwise fun a b=>cmpP a.path b.path<0) (h4:∀x∈N.list,0<x.id/\x.id<N.next) (h5:∀x∈N.list,pthOk x.path 1=true) (h6:(N.list.map (·.id)).Nodup):nsOk N=true:=by
 unfold nsOk
 simp only[Bool.and_eq_true,decide_eq_true_eq,List.all_eq_true,List.mem_range]
 refine⟨by unfold inb;simp;omega,h2,fun k hk=>?_⟩
 have e:N.list.getD k default=N.list[k]:=by simp[List.getD,hk]
 have hm:N.list[k]∈N.list:=List.getElem_mem hk
 unfold stepN
 rw[e]
 simp only[Bool.and_eq_true,Bool.or_eq_true,decide_eq_true_eq,Bool.not_eq_true',List.any_eq_false]
 refine⟨by have:=h4 _ hm;unfold inb;simp;omega,h5 _ hm,?_,?_⟩
 ·rcases Nat.eq_zero_or_pos k with h|h
  ·exact .inl h
  ·right
   have:=List.pairwise_iff_getElem.1 h3 (k-1) k (by omega) hk (by omega)
   simpa[List.getD,show k-1<N.list.length by omega]using this
 ·intro x hx
  obtain⟨i,hi,rfl⟩:=List.mem_take_iff_getElem.1 hx
  have:=List.pairwise_iff_getElem.1 (List.pairwise_map.1 h6) i k (by omega) hk (by omega)
  simpa using this
mutual
theorem pathsT_pth:∀(t:Tr) (n:Int) (p q:List Str),partsOk t n=true->q∈pathsT p t->∃r,q=p++r/\r.all nmOk=true/\1<=r.length/\n+(r.length:Int)<=4
 |.mk d m s ns ks,n,p,q,h,hq=>by
  simp only[partsOk,Bool.and_eq_true]at h
  rw[pathsT]at hq
  have hn:ns.all nmOk=true:=by
   have h1:=h.1
   simp only[plainOk,Tr.names_mk,Tr.kids_mk,Tr.dir_mk,Tr.data_mk,Bool.and_eq_true]at h1
   cases d with
   |true=>simp only[if_true,Bool.and_eq_true]at h1;exact h1.2.2.1
   |false=>
    simp only[Bool.false_eq_true,if_false,Bool.and_eq_true,decide_eq_true_eq]at h1
    rw[List.eq_nil_of_length_eq_zero (of_decide_eq_true h1.2.2.2)];rfl
  exact pathsK_pth ks n p ns q hn h.2.2 hq
theorem pathsK_pth:∀(ks:List Tr) (n:Int) (p ns q:List Str),ns.all nmOk=true->partsOks ks (n+1)=true->q∈pathsK p ns ks->∃r,q=p++r/\r.all nmOk=true/\1<=r.length/\n+(r.length:Int)<=4
 |k::ks,n,p,a::ns,q,hn,hk,hq=>by
  simp only[pathsK,List.mem_cons,List.mem_append]at hq
  simp only[partsOks,Bool.and_eq_true]at hk
  simp only[List.all_cons,Bool.and_eq_true]at hn
  rcases hq with rfl|hq|hq
  ·refine⟨[a],rfl,by simp[hn.1],by simp,?_⟩
   have:=hk.1
   rw[partsOk_eq]at this
   simp only[Bool.and_eq_true,decide_eq_true_eq]at this
   simpa using this.2.1
  ·obtain⟨r,rfl,h1,h2,h3⟩:=pathsT_pth k (n+1) (p++[a]) q hk.1 hq
   exact⟨a::r,by simp,by simp only[List.all_cons,hn.1,h1,Bool.and_self],by simp,by rw[List.length_cons];omega⟩
  ·exact pathsK_pth ks n p ns q hn.2 hk.2 hq
 |[],_,_,_::_,_,_,_,h=>by simp[pathsK]at h
 |_,_,_,[],_,_,_,h=>by simp[pathsK]at h
end
theorem paths_pth {t:Tr} (ht:treeOk t=true):∀q∈pathsT [] t,pthOk q 1=true:=fun q hq=>by
 simp only[treeOk,Bool.and_eq_true]at ht
 obtain⟨r,rfl,h1,h2,h3⟩:=pathsT_pth t 0 [] q ht.2.1 hq
 unfold pthOk inb
 rw[h1]
 simp;omega
theorem uniP:∀{a b:List (List Str)},SPt a->SPt b->(∀q,q∈a↔q∈b)->a=b
 |[],[],_,_,_=>rfl
 |[],y::b,_,_,h=>absurd ((h y).2 (by simp)) (by simp)
 |x::a,[],_,_,h=>absurd ((h x).1 (by simp)) (by simp)
 |x::a,y::b,ha,hb,h=>by
  have ha1:=List.pairwise_cons.1 ha
  have hb1:=List.pairwise_cons.1 hb
  have e:x=y:=by
   rcases List.mem_cons.1 ((h x).1 (by simp))with e|hx
   ·exact e
   ·rcases List.mem_cons.1 ((h y).2 (by simp))with e|hy
    ·exact e.symm
    ·have h1:=hb1.1 x hx
     have h2:=ha1.1 y hy
     rw[cmpP_anti]at h2;omega
  subst e
  rw[uniP ha1.2 hb1.2 fun q=>?_]
  have hh:=h q
  simp only[List.mem_cons]at hh
  constructor
  ·intro hq
   rcases hh.1 (.inr hq)with rfl|h
   ·have:=ha1.1 _ hq;rw[cmpP_self]at this;omega
   ·exact h
  ·intro hq
   rcases hh.2 (.inr hq)with rfl|h
   ·have:=hb1.1 _ hq;rw[cmpP_self]at this;omega
   ·exact h
theorem ndOk_f {N:Nds} {t:Tr} (h:ndOk N t=true):treeOk t=true/\nsOk N=true/\pathsT [] t=N.list.map (·.path):=by
 unfold ndOk at h
 simp only[Bool.and_eq_true]at h
 exact⟨h.1,h.2.1,eq_of_beq h.2.2⟩
theorem paths_mem {t:Tr} (ht:treeOk t=true) (q:List Str):q∈pathsT [] t↔q≠[]/\(tat t q).isSome=true:=by
 rw[PT_ok t (wf_ok ht) (tnd_ok ht) [] q]
 constructor
 ·rintro⟨r,h1,rfl,h2⟩;exact⟨h1,h2⟩
 ·rintro⟨h1,h2⟩;exact⟨q,h1,rfl,h2⟩
theorem nd_mem {N:Nds} {t:Tr} (h:ndOk N t=true) (q:List Str):q∈N.list.map (·.path)↔q≠[]/\(tat t q).isSome=true:=by
 obtain⟨ht,_,e⟩:=ndOk_f h
 rw[<-e,paths_mem ht]
theorem sn_lt {l:List No} (h:SN l) (hn:(l.map (·.path)).Nodup):l.Pairwise fun a b=>cmpP a.path b.path<0:=by
 rw[List.Nodup,List.pairwise_map]at hn
 refine(h.and hn).imp fun {a b} k=>?_
 have h1:=k.1
 rw[cmpP_anti]at h1
 have h2:cmpP a.path b.path≠0:=fun e=>k.2 (cmpP_eq e)
 omega
theorem ndOk_mk {M:Nds} {t:Tr} (ht:treeOk t=true) (h1:1<=M.next/\M.next<=10000) (hs:M.list.Pairwise fun a b=>cmpP a.path b.path<0) (h4:∀x∈M.list,0<x.id/\x.id<M.next) (h6:(M.list.map (·.id)).Nodup)
  (hm:∀q,q∈M.list.map (·.path)↔q≠[]/\(tat t q).isSome=true):ndOk M t=true:=by
 have e:pathsT [] t=M.list.map (·.path):=uniP (srtT t [] (tas_ok ht)) (List.pairwise_map.2 hs) fun q=>by rw[paths_mem ht,hm]
 have hl:M.list.length<=30:=by
  have a:=pathsT_len [] t
  rw[e,List.length_map]at a
  unfold treeOk at ht
  simp only[Bool.and_eq_true,decide_eq_true_eq]at ht
  omega
 unfold ndOk
 rw[ht,nsOk_mk h1 hl hs h4 (fun x hx=>paths_pth ht _ (by rw[e];exact List.mem_map_of_mem hx)) h6,e]
 simp
theorem sT_do {t:Tr} {c:Cl} (h:(sTreeDo t c).2=0):treeOk t=true/\callOk c=true/\sTreeDo t c=sDo t c:=by
 unfold sTreeDo at h⊢
 cases ht:treeOk t with
 |false=>rw[ht]at h;cases h
 |true=>
  cases hc:callOk c with
  |false=>rw[ht,hc]at h;cases h
  |true=>exact⟨rfl,rfl,rfl⟩
def mvP (f t p:List Str):List Str:=if f.isPrefixOf p then t++p.drop f.length else p
theorem mvd_path (f t:List Str) (y:No):(mvd f t y).path=mvP f t y.path:=by unfold mvd mvP;split<;>rfl
theorem mvd_id (f t:List Str) (y:No):(mvd f t y).id=y.id:=by unfold mvd;split<;>rfl
theorem pre_of (f r:List Str):f.isPrefixOf (f++r)=true:=List.isPrefixOf_iff_prefix.2 ⟨r,rfl⟩
theorem mvP_below (f t r:List Str):mvP f t (f++r)=t++r:=by unfold mvP;rw[if_pos (pre_of f r),List.drop_left]
theorem mvP_off {f t p:List Str} (h:f.isPrefixOf p=false):mvP f t p=p:=by unfold mvP;rw[if_neg (by rw[h];simp)]
theorem mvP_inj {f t p q:List Str} (hp:t.isPrefixOf p=false) (hq:t.isPrefixOf q=false) (h:mvP f t p=mvP f t q):p=q:=by
 cases h1:f.isPrefixOf p with
 |true=>
  obtain⟨r,rfl⟩:=pre_split h1
  rw[mvP_below]at h
  cases h2:f.isPrefixOf q with
  |true=>
   obtain⟨s,rfl⟩:=pre_split h2
   rw[mvP_below]at h
   rw[List.append_cancel_left h]
  |false=>rw[mvP_off h2]at h;rw[<-h,pre_of]at hq;cases hq
 |false=>
  rw[mvP_off h1]at h
  cases h2:f.isPrefixOf q with
  |true=>
   obtain⟨s,rfl⟩:=pre_split h2
   rw[mvP_below]at h;rw[h,pre_of]at hp;cases hp
  |false=>rw[mvP_off h2]at h;exact h
theorem none_below {t:Tr} {p q:List Str} (h:tat t p=none) (hq:(tat t q).isSome=true):p.isPrefixOf q=false:=by
 cases hb:p.isPrefixOf q with
 |false=>rfl
 |true=>
  obtain⟨r,rfl⟩:=pre_split hb
  rw[tat_add,h]at hq;cases hq
theorem Nds_ext {A B:Nds} (h:A.next=B.next) (k:A.list=B.list):A=B:=by
 cases A;cases B;simp only at h k;rw[h,k]
section
variable {N M:Nds} {t:Tr} {c:Cl} {k:Int}
theorem mv_nodup (hok:ndOk N t=true) (hz:tat t c.to=none):((N.list.map (mvd c.path c.to)).map (·.path)).Nodup:=by
 have hn:=(lt_sn (nsOk_lt (ndOk_f hok).2.1)).2
 rw[List.Nodup,List.pairwise_map]at hn
 rw[List.map_map,List.Nodup,List.pairwise_map]
 refine hn.imp_of_mem fun {a b} ha hb hab e=>hab ?_
 simp only[Function.comp,mvd_path]at e
 exact mvP_inj (none_below hz ((nd_mem hok _).1 (List.mem_map_of_mem ha)).2) (none_below hz ((nd_mem hok _).1 (List.mem_map_of_mem hb)).2) e
theorem thr_iff (l:List No):thr c l=true↔c.path∈l.map (·.path):=by
 unfold thr
 rw[List.any_eq_true,List.mem_map]
 constructor
 ·rintro⟨x,h,e⟩;exact⟨x,h,eq_of_beq e⟩
 ·rintro⟨x,h,e⟩;exact⟨x,h,by rw[e,beq_self_eq_true]⟩
theorem aft_eq (hok:ndOk N t=true) (h0:(sTreeDo t c).2=0) (h:AftR N c M k):(M,k)=sNDo N t c:=by
 obtain⟨ht,hc,es⟩:=sT_do h0
 obtain⟨_,hns,hpt⟩:=ndOk_f hok
 obtain⟨hsn,hnd⟩:=lt_sn (nsOk_lt hns)
 have hid:=nsOk_id hns
 unfold sNDo
 rw[if_neg (by rw[hok];simp),if_neg (by rw[h0];simp)]
 unfold AftR at h
 by_cases h5:c.kind=5
 ·rw[if_pos h5]
  rw[if_neg (fun q=>q.1 h5),aftL_5 h5]at h
  obtain⟨rfl,hn,hp,hs⟩:=h
  obtain⟨x,_,hz,_⟩:=do_rename ht hc (by rw[<-es];exact h0) h5
  have hmp:=movN_perm c.path c.to N.list []
  rw[List.nil_append]at hmp
  have e:=uniN (hp.trans hmp.symm) hs (movN_sn _ _ _ _ List.Pairwise.nil) ((hp.map _).nodup_iff.2 (mv_nodup hok hz))
  rw[Nds_ext (A:=M) (B:=⟨N.next,movN c.path c.to [] N.list⟩) hn e]
 ·rw[if_neg h5]
  by_cases h4:c.kind=4
  ·rw[if_pos h4]
   rw[if_neg (fun q=>q.2.1 h4),aftL_4 h4]at h
   obtain⟨rfl,hn,hp,hs⟩:=h
   have e:=uniN hp hs (hsn.sublist List.filter_sublist) ((hp.map _).nodup_iff.2 (hnd.sublist (List.filter_sublist.map _)))
   rw[Nds_ext (A:=M) (B:=⟨N.next,N.list.filter fun x=> !(x.path==c.path)⟩) hn e]
  ·rw[if_neg h4]
   have hi:=idN_pos (p:=c.path) (l:=N.list) fun y hy=>(hid y hy).1
   by_cases hth:thr c N.list=true
   ·rw[if_neg (fun q=>by rw[q.2.2]at hth;cases hth),aftL_0 h4 h5]at h
    rw[if_pos (hi.2 hth)]
    obtain⟨rfl,hn,hp,hs⟩:=h
    rw[Nds_ext (A:=M) (B:=N) hn (uniN hp hs hsn ((hp.map _).nodup_iff.2 hnd))]
   ·have hth:thr c N.list=false:=by simpa using hth
    rw[if_pos ⟨h5,h4,hth⟩]at h
    rw[if_neg (fun q=>by have:=hi.1 q;unfold thr at hth;rw[hth]at this;cases this)]
    by_cases h9:9999<N.next
    ·rw[if_pos h9]at h⊢
     rw[h.1,h.2]
    ·rw[if_neg h9]at h⊢
     obtain⟨rfl,hn,hp,hs⟩:=h
     rw[aftL_0 h4 h5]at hp
     have hp2:M.list.Perm (⟨N.next,c.path⟩::N.list):=hp.trans (List.perm_append_singleton _ _)
     have hnn:c.path∉N.list.map (·.path):=fun q=>by rw[(thr_iff (c:=c) N.list).2 q]at hth;cases hth
     have e:=uniN (hp2.trans (insN_perm _ _).symm) hs (insN_sn hsn) ((hp2.map _).nodup_iff.2 (List.nodup_cons.2 ⟨hnn,hnd⟩))
     rw[Nds_ext (A:=M) (B:=⟨N.next+1,_⟩) hn e]
theorem nd_all (h:NDoR N t c M k):(M,k)=sNDo N t c:=by
 unfold NDoR at h
 by_cases h1:ndOk N t=false
 ·rw[if_pos h1]at h
  unfold sNDo;rw[if_pos h1,h.1,h.2]
 ·rw[if_neg h1]at h
  by_cases h2:(sTreeDo t c).2≠0
  ·rw[if_pos h2]at h
   unfold sNDo;rw[if_neg h1,if_pos h2,h.1,h.2]
  ·rw[if_neg h2]at h
   exact aft_eq (by simpa using h1) (by simpa using h2) h
theorem cc_pos (hc:callOk c=true):c.path≠[]:=fun h=>by
 obtain⟨f1,_⟩:=callOk_facts hc;rw[h]at f1;simp at f1
theorem nd_from (hok:ndOk N t=true) (h0:(sTreeDo t c).2=0):∀x∈(sNDo N t c).1.list,(∃y∈N.list,x.id=y.id/\x.path=(if c.kind=5 then mvP c.path c.to y.path else y.path)/\(c.kind=4->x.path≠c.path))\/(x=⟨N.next,c.path⟩/\(sNDo N t c).1.next=N.next+1/\c.kind≠4/\c.kind≠5/\c.path∉N.list.map (·.path)):=by
 unfold sNDo
 rw[if_neg (by rw[hok];simp),if_neg (by rw[h0];simp)]
 have hid:=nsOk_id (ndOk_f hok).2.1
 by_cases h5:c.kind=5
 ·rw[if_pos h5]
  intro x hx
  have:=(movN_perm c.path c.to N.list []).mem_iff.1 hx
  rw[List.nil_append]at this
  obtain⟨y,hy,rfl⟩:=List.mem_map.1 this
  exact .inl ⟨y,hy,mvd_id _ _ _,by rw[if_pos h5,mvd_path],fun h=>by omega⟩
 ·rw[if_neg h5]
  by_cases h4:c.kind=4
  ·rw[if_pos h4]
   intro x hx
   obtain⟨h1,h2⟩:=List.mem_filter.1 hx
   exact .inl ⟨x,h1,rfl,by rw[if_neg h5],fun _=>by simpa using h2⟩
  ·rw[if_neg h4]
   split
   ·intro x hx;exact .inl ⟨x,hx,rfl,by first|rfl|rw[if_neg h5],fun h=>absurd h h4⟩
   ·rename_i hz
    have hnn:c.path∉N.list.map (·.path):=fun q=>hz ((idN_pos (p:=c.path) (l:=N.list) fun y hy=>(hid y hy).1).2 ((thr_iff (c:=c) N.list).2 q))
    split
    ·intro x hx;exact .inl ⟨x,hx,rfl,by first|rfl|rw[if_neg h5],fun h=>absurd h h4⟩
    ·intro x hx
     rcases insN_mem hx with rfl|hx
     ·exact .inr ⟨rfl,rfl,h4,h5,hnn⟩
     ·exact .inl ⟨x,hx,rfl,by first|rfl|rw[if_neg h5],fun h=>absurd h h4⟩
theorem nd_step (hok:ndOk N t=true) (h0:(sTreeDo t c).2=0) (h1:(sNDo N t c).2=0):ndOk (sNDo N t c).1 (sTreeDo t c).1=true/\N.next<=(sNDo N t c).1.next:=by
 obtain⟨ht,hc,es⟩:=sT_do h0
 obtain⟨_,hns,hpt⟩:=ndOk_f hok
 obtain⟨hsn,hnd⟩:=lt_sn (nsOk_lt hns)
 have hid:=nsOk_id hns
 have hnx:=(nsOk_b hns).2.2
 have hmem:=nd_mem hok
 have hidn:=nsOk_nd hns
 have h0':(sDo t c).2=0:=by rw[<-es];exact h0
 rw[es]
 unfold sNDo at h1⊢
 rw[if_neg (by rw[hok];simp),if_neg (by rw[h0];simp)]at h1⊢
 by_cases h5:c.kind=5
 ·rw[if_pos h5]
  obtain⟨x,hx,hz,hto,hpre,hty,k1,k2,k3⟩:=do_rename ht hc h0' h5
  have hmp:=movN_perm c.path c.to N.list []
  rw[List.nil_append]at hmp
  refine⟨ndOk_mk hty hnx (sn_lt (movN_sn _ _ _ _ List.Pairwise.nil) ((hmp.map _).nodup_iff.2 (mv_nodup hok hz))) (fun y hy=>?_) ((hmp.map _).nodup_iff.2 ?_) fun q=>?_,Int.le_refl _⟩
  ·obtain⟨z,hz2,rfl⟩:=List.mem_map.1 (hmp.mem_iff.1 hy)
   rw[mvd_id];exact hid z hz2
  ·rw[List.map_map,show((fun x:No=>x.id)∘mvd c.path c.to)=fun x:No=>x.id from funext fun y=>mvd_id _ _ y];exact hidn
  ·rw[(hmp.map _).mem_iff,List.map_map,show((fun x:No=>x.path)∘mvd c.path c.to)=fun x:No=>mvP c.path c.to x.path from funext fun y=>mvd_path _ _ y]
   constructor
   ·intro hq
    obtain⟨y,hy,rfl⟩:=List.mem_map.1 hq
    obtain⟨g1,g2⟩:=(hmem y.path).1 (List.mem_map_of_mem hy)
    cases hb:c.path.isPrefixOf y.path with
    |true=>
     obtain⟨r,hr⟩:=pre_split hb
     rw[hr,mvP_below,k1]
     rw[hr,tat_add,hx]at g2
     exact⟨fun e=>hto (List.append_eq_nil_iff.1 e).1,g2⟩
    |false=>
     rw[mvP_off hb,sim_is (k3 y.path hb (none_below hz g2))]
     exact⟨g1,g2⟩
   ·rintro⟨g1,g2⟩
    have mk:∀p,p≠[]->(tat t p).isSome=true->mvP c.path c.to p∈N.list.map fun x=>mvP c.path c.to x.path:=fun p a b=>by
     obtain⟨y,hy,e⟩:=List.mem_map.1 ((hmem p).2 ⟨a,b⟩)
     exact List.mem_map.2 ⟨y,hy,by rw[e]⟩
    cases hb:c.path.isPrefixOf q with
    |true=>obtain⟨r,rfl⟩:=pre_split hb;rw[k2]at g2;cases g2
    |false=>
     cases hb2:c.to.isPrefixOf q with
     |true=>
      obtain⟨r,rfl⟩:=pre_split hb2
      rw[k1]at g2
      have:=mk (c.path++r) (fun e=>cc_pos hc (List.append_eq_nil_iff.1 e).1) (by rw[tat_add,hx];exact g2)
      rwa[mvP_below]at this
     |false=>
      have:=mk q g1 (by rw[<-sim_is (k3 q hb hb2)];exact g2)
      rwa[mvP_off hb]at this
 ·rw[if_neg h5]at h1⊢
  by_cases h4:c.kind=4
  ·rw[if_pos h4]
   obtain⟨_,hty,hsm,hgn,hoff⟩:=do_remove ht hc h0' h4
   refine⟨ndOk_mk hty hnx (sn_lt (hsn.sublist List.filter_sublist) (hnd.sublist (List.filter_sublist.map _))) (fun y hy=>hid y (List.mem_filter.1 hy).1) (hidn.sublist (List.filter_sublist.map _)) fun q=>?_,Int.le_refl _⟩
   rw[List.mem_map]
   constructor
   ·rintro⟨y,hy,rfl⟩
    obtain⟨a,b⟩:=List.mem_filter.1 hy
    obtain⟨g1,g2⟩:=(hmem y.path).1 (List.mem_map_of_mem a)
    exact⟨g1,by rw[sim_is (hoff y.path (by simpa using b))];exact g2⟩
   ·rintro⟨g1,g2⟩
    have hne:q≠c.path:=fun e=>by rw[e,hgn]at g2;cases g2
    rw[sim_is (hoff q hne)]at g2
    obtain⟨y,hy,rfl⟩:=List.mem_map.1 ((hmem q).2 ⟨g1,g2⟩)
    exact⟨y,List.mem_filter.2 ⟨hy,by simpa using hne⟩,rfl⟩
  ·rw[if_neg h4]at h1⊢
   obtain⟨hty,hsm,hoff⟩:=do_else ht hc h0' h4 h5
   have hi:=idN_pos (p:=c.path) (l:=N.list) fun y hy=>(hid y hy).1
   by_cases hz:0<idN c.path N.list
   ·rw[if_pos hz]
    have hin:=(thr_iff (c:=c) N.list).1 (hi.1 hz)
    refine⟨ndOk_mk hty hnx (nsOk_lt hns) hid hidn fun q=>?_,Int.le_refl _⟩
    by_cases e:q=c.path
    ·rw[e];exact⟨fun _=>⟨cc_pos hc,hsm⟩,fun _=>hin⟩
    ·rw[hmem,hoff q e]
   ·rw[if_neg hz]at h1⊢
    have hnn:c.path∉N.list.map (·.path):=fun q=>hz (hi.2 ((thr_iff (c:=c) N.list).2 q))
    by_cases h9:9999<N.next
    ·rw[if_pos h9]at h1;cases h1
    ·rw[if_neg h9]at h1⊢
     have hp:=insN_perm ⟨N.next,c.path⟩ N.list
     refine⟨ndOk_mk hty ⟨by show 1<=N.next+1;omega,by show N.next+1<=10000;omega⟩ (sn_lt (insN_sn hsn) ((hp.map _).nodup_iff.2 (List.nodup_cons.2 ⟨hnn,hnd⟩))) (fun y hy=>?_) ((hp.map _).nodup_iff.2 (List.nodup_cons.2 ⟨fun q=>?_,hidn⟩)) fun q=>?_,by show N.next<=N.next+1;omega⟩
     ·show 0<y.id/\y.id<N.next+1
      rcases insN_mem hy with rfl|hy
      ·(try dsimp only);omega
      ·have:=hid y hy;omega
     ·obtain⟨y,hy,e⟩:=List.mem_map.1 q
      have:=hid y hy;dsimp only at e;omega
     ·rw[(hp.map _).mem_iff,List.map_cons,List.mem_cons,hmem]
      show q=c.path\/_↔_
      by_cases e:q=c.path
      ·rw[e];exact⟨fun _=>⟨cc_pos hc,hsm⟩,fun _=>.inl rfl⟩
      ·rw[hoff q e];exact⟨fun h=>h.resolve_left e,.inr⟩
theorem pathN_true {i:Int}:∀{l:List No},(pathN i l).2=true->∃y∈l,y.id=i/\(pathN i l).1=y.path
 |[],h=>by simp[pathN]at h
 |x::l,h=>by
  rw[pathN]at h⊢
  by_cases e:(x.id==i)=true
  ·rw[if_pos e]at h⊢;exact⟨x,by simp,eq_of_beq e,rfl⟩
  ·rw[if_neg e]at h⊢
   obtain⟨y,hy,a,b⟩:=pathN_true h
   exact⟨y,List.mem_cons_of_mem _ hy,a,b⟩
theorem id_uniq {l:List No} (h:(l.map (·.id)).Nodup) {a b:No} (ha:a∈l) (hb:b∈l) (e:a.id=b.id):a=b:=by
 rw[List.Nodup,List.pairwise_map,List.pairwise_iff_getElem]at h
 obtain⟨i,hi,rfl⟩:=List.mem_iff_getElem.1 ha
 obtain⟨j,hj,rfl⟩:=List.mem_iff_getElem.1 hb
 rcases Nat.lt_trichotomy i j with k|k|k
 ·exact absurd e (h i j hi hj k)
 ·subst k;rfl
 ·exact absurd e.symm (h j i hj hi k)
theorem nd_code (h:(sNDo N t c).2=0):ndOk N t=true/\(sTreeDo t c).2=0:=by
 unfold sNDo at h
 by_cases h1:ndOk N t=false
 ·rw[if_pos h1]at h;cases h
 ·rw[if_neg h1]at h
  by_cases h2:(sTreeDo t c).2≠0
  ·rw[if_pos h2]at h;exact absurd h h2
  ·exact⟨by simpa using h1,by simpa using h2⟩
end
set_option maxRecDepth 100000
theorem idN_at {p:List Str}:∀{l:List No} {x:No},(l.map (·.path)).Nodup->x∈l->x.path=p->idN p l=x.id
 |y::l,x,hn,hx,e=>by
  rw[List.map_cons,List.nodup_cons]at hn
  rw[idN]
  rcases List.mem_cons.1 hx with rfl|hx
  ·rw[if_pos (by rw[e,beq_self_eq_true])]
  ·have:¬(y.path==p)=true:=fun q=>hn.1 (by rw[eq_of_beq q,<-e];exact List.mem_map_of_mem hx)
   rw[if_neg this];exact idN_at hn.2 hx e
abbrev gnC (c:Cl):Cl:=⟨4,c.path,[],0,[]⟩
abbrev wrC (c:Cl):Cl:=⟨2,c.path,[],0,[]⟩
theorem nsOk_NB {N:Nds} (h:nsOk N=true):NB N:=by
 obtain⟨k1,k2,k3,k4⟩:=nsOk_b h
 exact⟨by omega,fun x hx=>by have:=wS_pth (k2 x hx);omega,by omega,by omega⟩
theorem NBs_step {N:Nds} {t:Tr} {c:Cl} (h:NBs N) (h1:wS c.path<2^32) (h2:wS c.to<2^32):NBs (sNDo N t c).1:=by
 cases hk:ndOk N t with
 |false=>unfold sNDo;rw[if_pos hk];exact⟨by simp,by simp,by decide,by decide⟩
 |true=>exact(NB_sN (nsOk_NB (ndOk_f hk).2.1) h1 h2).s
theorem nPath_wS {N:Nds} {i:Int} (h:NBs N):wS (nPath N i).1<2^33:=by
 unfold nPath
 split
 ·have:∀l:List No,(∀x∈l,wS x.path<2^33)->wS (pathN i l).1<2^33:=by
   intro l
   induction l with
   |nil=>intro _;exact(by decide:wS []<2^33)
   |cons x l ih=>
    intro h
    rw[pathN]
    split
    ·exact h x (by simp)
    ·exact ih fun y hy=>h y (by simp[hy])
  exact this N.list h.2.1
 ·exact(by decide:wS []<2^33)
theorem NBs.l {N:Nds} (h:NBs N):∀x∈N.list,wS x.path<2^34:=fun x hx=>Nat.lt_trans (h.2.1 x hx) (by decide)
theorem NBs.l4 {N:Nds} (h:NBs N):∀x∈N.list,wS x.path<2^40:=fun x hx=>Nat.lt_trans (h.2.1 x hx) (by decide)
theorem NBs.n {N:Nds} (h:NBs N):N.list.length<2^18:=by have:=h.1;omega
theorem NBs.n4 {N:Nds} (h:NBs N):N.list.length<2^20:=by have:=h.1;omega
theorem NBs.b {N:Nds} (h:NBs N): -2^50<N.next/\N.next<2^50:=by have:=h.2.2;omega
section
variable {N:Nds} {t:Tr} {c:Cl}
theorem again_code (h0:(sTreeDo t (gnC c)).2=0):(sTreeDo (sTreeDo t (gnC c)).1 (wrC c)).2=0\/(sTreeDo (sTreeDo t (gnC c)).1 (wrC c)).2=6:=by
 obtain⟨ht,hc,es⟩:=sT_do h0
 have h0':(sDo t (gnC c)).2=0:=by rw[<-es];exact h0
 obtain⟨e,hty,hsm,hgn,hoff⟩:=do_remove ht hc h0' rfl
 have hP:=par0 h0'
 have hp:c.path≠[]:=cc_pos (c:=gnC c) hc
 rw[es]
 generalize sDo t (gnC c)=r at e hty hgn hoff
 have hpt:pthOk c.path 1=true:=by
  have:=hc
  unfold callOk at this
  simpa using this
 have hcw:callOk (wrC c)=true:=by
  unfold callOk
  rw[if_neg (by show ¬((2:Int)=1\/(2:Int)=6);decide),if_pos (by show((2:Int)=2\/(2:Int)=3);decide)]
  show(pthOk c.path 1&&inb 0 0 24)=true
  rw[hpt];rfl
 have hP2:parC r.1 c.path=0:=by
  unfold parC at hP⊢
  have hne:c.path.take (c.path.length-1)≠c.path:=fun q=>by
   have:=congrArg List.length q
   rw[List.length_take]at this
   have:=List.length_pos_iff.2 hp
   omega
  have:=hoff _ hne
  change (match tat t (c.path.take (c.path.length-1))with|none=>(3:Int)|some q=>if q.dir then 0 else 4)=0 at hP
  cases h1:tat t (c.path.take (c.path.length-1))with
  |none=>rw[h1]at hP;cases hP
  |some q=>
   rw[h1]at hP this
   cases h2:tat r.1 (c.path.take (c.path.length-1))with
   |none=>rw[h2]at this;exact this.elim
   |some u=>
    rw[h2]at this
    show(if u.dir then(0:Int)else 4)=0
    rw[this.1];exact hP
 have ed:sTreeDo r.1 (wrC c)=sFile r.1 (wrC c):=by
  unfold sTreeDo
  rw[hty,hcw]
  show sDo r.1 (wrC c)=_
  unfold sDo
  rw[decide_eq_true (show parC r.1 (wrC c).path=0 from hP2)];rfl
 rw[ed]
 unfold sFile
 rw[show(tat r.1 (wrC c).path)=none from hgn]
 show(fits _ r.1).2=0\/(fits _ r.1).2=6
 generalize tset _ _ _ _=y
 unfold fits
 cases treeOk y
 ·exact .inr rfl
 ·exact .inl rfl
theorem never (hk:(sNDo N t (gnC c)).2=0):((sNDo (sNDo N t (gnC c)).1 (sTreeDo t (gnC c)).1 (wrC c)).2≠0->(sNDo (sNDo N t (gnC c)).1 (sTreeDo t (gnC c)).1 (wrC c)).2=6)/\
  ((sNDo (sNDo N t (gnC c)).1 (sTreeDo t (gnC c)).1 (wrC c)).2=0->0<nId N c.path/\N.next<=nId (sNDo (sNDo N t (gnC c)).1 (sTreeDo t (gnC c)).1 (wrC c)).1 c.path/\nId (sNDo (sNDo N t (gnC c)).1 (sTreeDo t (gnC c)).1 (wrC c)).1 c.path≠nId N c.path/\(nPath (sNDo (sNDo N t (gnC c)).1 (sTreeDo t (gnC c)).1 (wrC c)).1 (nId N c.path)).2=false):=by
 obtain⟨hok,h0⟩:=nd_code hk
 obtain⟨ht,hc,es⟩:=sT_do h0
 obtain⟨hokX,_⟩:=nd_step hok h0 hk
 have hac:=again_code h0
 have hfr:=nd_from hok h0
 obtain⟨_,_,hsm,hgn,_⟩:=do_remove ht hc (by rw[<-es];exact h0) rfl
 have eX:(sNDo N t (gnC c)).1.next=N.next:=by
  unfold sNDo
  rw[if_neg (by rw[hok];simp),if_neg (by rw[h0];simp),if_neg (by decide:¬(4:Int)=5),if_pos rfl]
 have hgu:tat (sTreeDo t (gnC c)).1 c.path=none:=by rw[es];exact hgn
 generalize sTreeDo t (gnC c)=u at hac hokX hgu
 generalize sNDo N t (gnC c)=X at hokX hfr eX
 have hXn:c.path∉X.1.list.map (·.path):=fun q=>by
  have:=((nd_mem hokX _).1 q).2
  rw[hgu]at this;cases this
 have hz:¬0<idN (wrC c).path X.1.list:=fun q=>hXn ((thr_iff (c:=c) _).1 ((idN_pos fun y hy=>(nsOk_id (ndOk_f hokX).2.1 y hy).1).1 q))
 constructor
 ·intro h
  unfold sNDo at h⊢
  rw[if_neg (by rw[hokX];simp)]at h⊢
  by_cases h1:(sTreeDo u.1 (wrC c)).2≠0
  ·rw[if_pos h1];exact hac.resolve_left h1
  ·rw[if_neg h1,if_neg (by decide:¬(2:Int)=5),if_neg (by decide:¬(2:Int)=4),if_neg hz]at h⊢
   by_cases h9:9999<X.1.next
   ·rw[if_pos h9]
   ·rw[if_neg h9]at h;exact absurd rfl h
 ·intro h
  obtain⟨_,h2⟩:=nd_code h
  obtain⟨hokY,_⟩:=nd_step hokX h2 h
  have hfy:=nd_from hokX h2
  have hns:=(ndOk_f hok).2.1
  obtain⟨y,hy,hyp⟩:=List.mem_map.1 ((nd_mem hok c.path).2 ⟨cc_pos (c:=gnC c) hc,hsm⟩)
  have hyi:=nsOk_id hns y hy
  have eI:nId N c.path=y.id:=by unfold nId;rw[if_pos hns];exact idN_at (lt_sn (nsOk_lt hns)).2 hy hyp
  have eY:(⟨X.1.next,c.path⟩:No)∈(sNDo X.1 u.1 (wrC c)).1.list:=by
   have h':=h
   unfold sNDo at h'⊢
   rw[if_neg (by rw[hokX];simp),if_neg (by rw[h2];simp),if_neg (by decide:¬(2:Int)=5),if_neg (by decide:¬(2:Int)=4),if_neg hz]at h'⊢
   by_cases h9:9999<X.1.next
   ·rw[if_pos h9]at h';cases h'
   ·rw[if_neg h9]
    exact(insN_perm _ _).mem_iff.2 (by simp)
  have hnsY:=(ndOk_f hokY).2.1
  have eN:nId (sNDo X.1 u.1 (wrC c)).1 c.path=N.next:=by
   unfold nId;rw[if_pos hnsY,idN_at (lt_sn (nsOk_lt hnsY)).2 eY rfl];exact eX
  rw[eI,eN]
  refine⟨hyi.1,Int.le_refl _,by omega,?_⟩
  cases hq:(nPath (sNDo X.1 u.1 (wrC c)).1 y.id).2 with
  |false=>rfl
  |true=>
   exfalso
   unfold nPath at hq
   rw[if_pos hnsY]at hq
   obtain⟨z,hz1,hz2,_⟩:=pathN_true hq
   rcases hfy z hz1 with ⟨z',k1,k2,_⟩|⟨k1,_⟩
   ·rcases hfr z' k1 with ⟨z'',m1,m2,m3,m4⟩|⟨_,_,m,_⟩
    ·have:z''=y:=id_uniq (nsOk_nd hns) m1 hy (by rw[<-m2,<-k2,hz2])
     subst this
     rw[if_neg (by decide:¬(4:Int)=5)]at m3
     exact m4 rfl (m3.trans hyp)
    ·exact m rfl
   ·rw[k1]at hz2
    have hz2:X.1.next=y.id:=hz2
    omega
end
open Go Go.Proofs
set_option maxRecDepth 100000
set_option maxHeartbeats 2000000 in
theorem FnNodesNever_ok (X:Str):PE G 3 [.sl 1 (X.map fun c=>[AV.int .u8 (c.toNat:Int)])] (.bool true):=by
 refine Pe Tryz.func3 ?_
 refine Rr (Fn0 [0] [] (Sq fun K2 hK2=>?_))
 refine Rr (Av0 2 20 [(19,.sl 1 (X.map fun c=>[AV.int .u8 (c.toNat:Int)]))] (lnm X uc) (Cn1 (decide ((1048576:Int)<((X.length:Int):Int))) [0] [] (Ki/\·) ⟨rfl,fun hc4 c4=>?_,fun hc4 c4=>?_⟩))
 refine Rr (Fn0 [] [(2,.bool true)] (Rt (.bool true) ?_))
 exact fin_lea (lea_refl _)
 refine Sk (Jn (hK2 (Kp [0] (Rr (Bc0 2 [(23,.sl 1 (X.map fun c=>[AV.int .u8 (c.toNat:Int)]))] 5 [.sl 1 (X.map fun c=>[AV.int .u8 (c.toNat:Int)])] 24 (PC.use (DrawNodesDo_ok X om) fun r hr=>?_))))))
 obtain⟨N,t,c,rfl,hN,hw,h1,h2,h3⟩:=hr
 have hl1:=wS_len c.path;have hl2:=wS_len c.to
 refine Ke (Fn3 [] [(5,.ptr 8 0),(4,.ptr 4 0),(3,.ptr 0 0)] ([(8,clc c),(4,tcs t),(0,nsc N)]++·) 12 ((0<3)/\(1<3)/\(2<3)/\(true=true/\2=2/\0+2<=2)/\(true=true/\5=5/\0+5<=5)/\(true=true/\5=5/\0+5<=5)/\·) ⟨dc,dc,dc,dc,dc,dc,Rr (Fn3 [3,4,5] [(6,.ptr 12 0)] ([(12,[.i 4,pth c.path,.nils,.i 0,.str []])]++·) 16 (((1:Nat)≠0)/\(1+1<=5/\1<5)/\(true=true/\5=5/\0+5<=5)/\·) ⟨dc,dc,dc,Rr ?_⟩)⟩)
 refine Bc1 4 [(33,pth c.path),(32,.ptr 8 1),(31,.agg (nsc N))] 6 [.agg (nsc N),pth c.path] 34 ((0+2<=2/\0<2)/\((1:Nat)≠0)/\(1+1<=5/\1<5)/\·) ⟨dc,dc,dc,?_⟩
 refine PE.use (nId_ok N c.path hN.l4 hN.n4 hN.b om) ?_
 refine Ke (Fn0 [3,4,5,6] [(7,.i (nId N c.path))] (Rr (Bc1 4 [(38,.agg [.i 4,pth c.path,.nils,.i 0,.str []]),(37,.agg (tcs t)),(36,.agg (nsc N))] 7 [.agg (nsc N),.agg (tcs t),.agg [.i 4,pth c.path,.nils,.i 0,.str []]] 39 ((0+2<=2/\0<2)/\(0+5<=5/\0<5)/\(0+5<=5/\0<5)/\·) ⟨dc,dc,dc,TCall_le [.agg (nsc N),.agg (tcs t),.agg (clc (Cl.mk 4 c.path [] 0 []))] (by simp[lea,leas,pth,Tr.none,tcs,clc]) ?_⟩)))
 refine PC.use (iND_pc N t (gnC c) hN.l hN.n hN.b om (by first|omega|(show wS c.path<2^32;omega)) (by first|omega|(show wS []<2^32;decide)) (by first|omega|(show([]:Str).length<2^20;decide))) fun r hr=>?_
 obtain⟨M,kk,rfl,hM0⟩:=hr
 obtain⟨rfl,rfl⟩:M=(sNDo N t (gnC c)).1/\kk=(sNDo N t (gnC c)).2:=by have:=nd_all hM0;rw[<-this];exact⟨rfl,rfl⟩
 have hM:=NBs_step (t:=t) (c:=gnC c) hN (by first|omega|(show wS c.path<_;omega)|(show wS []<_;decide)|(show([]:Str).length<_;decide)) (by first|omega|(show wS c.path<_;omega)|(show wS []<_;decide)|(show([]:Str).length<_;decide))
 have hMn:=hM.1;have hMx:=hM.2.2;have hNx:=hN.2.2
 refine Ke (Fn3 [3,4,5,6,7] [(9,.i ((sNDo N t (gnC c)).2)),(8,.ptr 16 0)] ([(16,nsc ((sNDo N t (gnC c)).1))]++·) 20 ((0<2)/\(1<2)/\(true=true/\2=2/\0+2<=2)/\·) ⟨dc,dc,dc,Rr (Bc1 4 [(45,.agg [.i 4,pth c.path,.nils,.i 0,.str []]),(44,.agg (tcs t)),(43,.agg (nsc N))] 8 [.agg (nsc N),.agg (tcs t),.agg [.i 4,pth c.path,.nils,.i 0,.str []]] 46 ((0+2<=2/\0<2)/\(0+5<=5/\0<5)/\(0+5<=5/\0<5)/\·) ⟨dc,dc,dc,TCall_le [.agg (nsc N),.agg (tcs t),.agg (clc (Cl.mk 4 c.path [] 0 []))] (by simp[lea,leas,pth,Tr.none,tcs,clc]) ?_⟩)⟩)
 refine PE.use (sNDo_ok N t (gnC c) hN.l hN.n hN.b om (by first|omega|(show wS c.path<_;omega)|(show wS []<_;decide)|(show([]:Str).length<_;decide)) (by first|omega|(show wS c.path<_;omega)|(show wS []<_;decide)|(show([]:Str).length<_;decide)) (by first|omega|(show wS c.path<_;omega)|(show wS []<_;decide)|(show([]:Str).length<_;decide))) ?_
 refine Ke (Fn3 [3,4,5,6,7,8,9] [(11,.i ((sNDo N t (gnC c)).2)),(10,.ptr 20 0)] ([(20,nsc ((sNDo N t (gnC c)).1))]++·) 24 ((0<2)/\(1<2)/\(true=true/\2=2/\0+2<=2)/\·) ⟨dc,dc,dc,Sq fun K11 hK11=>?_⟩)
 refine Rm 61 ((!decide (((sNDo N t (gnC c)).2:Int)=((sNDo N t (gnC c)).2:Int)))||((!(wxN ((sNDo N t (gnC c)).1) ((sNDo N t (gnC c)).1)))||(!decide (((sNDo N t (gnC c)).2:Int)=(0:Int))))) [3,4,5,6,7,8,9,10,11] ?_ ?_
 refine An1 4 [(52,.bool (!decide (((sNDo N t (gnC c)).2:Int)=((sNDo N t (gnC c)).2:Int)))),(51,.bool (!decide (((sNDo N t (gnC c)).2:Int)=((sNDo N t (gnC c)).2:Int)))),(50,.i ((sNDo N t (gnC c)).2)),(49,.i ((sNDo N t (gnC c)).2))] (Ki/\·) ⟨rfl,Rg (fun hg13 g13=>?_) (fun hg13 g13=>?_)⟩
 refine Mn0 true (by rw[hg13];rfl)
 refine Bc1 3 [(54,.agg (nsc ((sNDo N t (gnC c)).1))),(53,.agg (nsc ((sNDo N t (gnC c)).1)))] 9 [.agg (nsc ((sNDo N t (gnC c)).1)),.agg (nsc ((sNDo N t (gnC c)).1))] 55 ((0+2<=2/\0<2)/\(0+2<=2/\0<2)/\·) ⟨dc,dc,?_⟩
 refine PE.use (wxN_ok ((sNDo N t (gnC c)).1) ((sNDo N t (gnC c)).1) hM.l4 hM.l4 hM.n4 hM.n4) ?_
 refine Ke (An0 3 [(58,.bool (!(wxN ((sNDo N t (gnC c)).1) ((sNDo N t (gnC c)).1)))),(57,.bool (!(wxN ((sNDo N t (gnC c)).1) ((sNDo N t (gnC c)).1)))),(56,.bool (!(wxN ((sNDo N t (gnC c)).1) ((sNDo N t (gnC c)).1))))] (Rg (fun hg14 g14=>?_) (fun hg14 g14=>?_)))
 refine Mn0 true (by rw[hg13,hg14];rfl)
 refine Mn1 (!decide (((sNDo N t (gnC c)).2:Int)=(0:Int))) (Ki/\·) ⟨rfl,(by rw[hg13,hg14];rfl)⟩
 refine Cc ((!decide (((sNDo N t (gnC c)).2:Int)=((sNDo N t (gnC c)).2:Int)))||((!(wxN ((sNDo N t (gnC c)).1) ((sNDo N t (gnC c)).1)))||(!decide (((sNDo N t (gnC c)).2:Int)=(0:Int))))) (fun hc15 c15=>?_) fun hc15 c15=>?_
 refine Rm 2 ((decide (((sNDo N t (gnC c)).2:Int)=((sNDo N t (gnC c)).2:Int)))&&(wxN ((sNDo N t (gnC c)).1) ((sNDo N t (gnC c)).1))) [] ?_ ?_
 refine An1 4 [(65,.bool (decide (((sNDo N t (gnC c)).2:Int)=((sNDo N t (gnC c)).2:Int)))),(64,.bool (decide (((sNDo N t (gnC c)).2:Int)=((sNDo N t (gnC c)).2:Int)))),(63,.i ((sNDo N t (gnC c)).2)),(62,.i ((sNDo N t (gnC c)).2))] (Ki/\·) ⟨rfl,Rg (fun hg17 g17=>?_) (fun hg17 g17=>?_)⟩
 refine Bc1 3 [(67,.agg (nsc ((sNDo N t (gnC c)).1))),(66,.agg (nsc ((sNDo N t (gnC c)).1)))] 9 [.agg (nsc ((sNDo N t (gnC c)).1)),.agg (nsc ((sNDo N t (gnC c)).1))] 68 ((0+2<=2/\0<2)/\(0+2<=2/\0<2)/\·) ⟨dc,dc,?_⟩
 refine PE.use (wxN_ok ((sNDo N t (gnC c)).1) ((sNDo N t (gnC c)).1) hM.l4 hM.l4 hM.n4 hM.n4) ?_
 refine Ke (Mn0 (wxN ((sNDo N t (gnC c)).1) ((sNDo N t (gnC c)).1)) (by rw[hg17];rfl))
 refine Mn0 false (by rw[hg17];rfl)
 refine Rt (.bool ((decide (((sNDo N t (gnC c)).2:Int)=((sNDo N t (gnC c)).2:Int)))&&(wxN ((sNDo N t (gnC c)).1) ((sNDo N t (gnC c)).1)))) (fin_lea ?_)
 rw[show((decide (((sNDo N t (gnC c)).2:Int)=((sNDo N t (gnC c)).2:Int)))&&(wxN ((sNDo N t (gnC c)).1) ((sNDo N t (gnC c)).1)))=true by rw[wxN_self];simp];exact lea_refl _
 refine Sk (Jn (hK11 (Kp [3,4,5,6,7,8] (Rr (Bc1 3 [(72,.agg [.i 4,pth c.path,.nils,.i 0,.str []]),(71,.agg (tcs t))] 10 [.agg (tcs t),.agg [.i 4,pth c.path,.nils,.i 0,.str []]] 73 ((0+5<=5/\0<5)/\(0+5<=5/\0<5)/\·) ⟨dc,dc,?_⟩)))))
 have hW2:=W_sTreeDo t (gnC c) hw
 refine TCall_le [.agg (tcs t),.agg (clc (Cl.mk 4 c.path [] 0 []))] (by simp[lea,leas,pth,Tr.none,tcs,clc]) ?_
 refine PE.use (by have:=iTreeDo_ok t (gnC c) om (by first|omega|(show wS c.path<_;omega)|(show wS []<_;decide)|(show([]:Str).length<_;decide)) (by first|omega|(show wS c.path<_;omega)|(show wS []<_;decide)|(show([]:Str).length<_;decide)) (by first|omega|(show wS c.path<_;omega)|(show wS []<_;decide)|(show([]:Str).length<_;decide));rwa[iTreeDo_eq]at this) ?_
 refine Ke (Fn3 [3,5,7,8] [(12,.ptr 24 0)] ([(24,tcs ((sTreeDo t (gnC c)).1))]++·) 28 ((0<2)/\(1<2)/\(true=true/\5=5/\0+5<=5)/\·) ⟨dc,dc,dc,Rr (Bc1 6 [(81,.agg [.i 2,pth c.path,.nils,.i 0,.str []]),(80,pth c.path),(79,.ptr 8 1),(78,.agg (tcs ((sTreeDo t (gnC c)).1))),(77,.agg (nsc ((sNDo N t (gnC c)).1)))] 7 [.agg (nsc ((sNDo N t (gnC c)).1)),.agg (tcs ((sTreeDo t (gnC c)).1)),.agg [.i 2,pth c.path,.nils,.i 0,.str []]] 82 ((0+2<=2/\0<2)/\(0+5<=5/\0<5)/\((1:Nat)≠0)/\(1+1<=5/\1<5)/\·) ⟨dc,dc,dc,dc,TCall_le [.agg (nsc ((sNDo N t (gnC c)).1)),.agg (tcs ((sTreeDo t (gnC c)).1)),.agg (clc (Cl.mk 2 c.path [] 0 []))] (by simp[lea,leas,pth,Tr.none,tcs,clc]) ?_⟩)⟩)
 refine PC.use (iND_pc ((sNDo N t (gnC c)).1) ((sTreeDo t (gnC c)).1) (wrC c) hM.l hM.n hM.b om (by first|omega|(show wS c.path<2^32;omega)) (by first|omega|(show wS []<2^32;decide)) (by first|omega|(show([]:Str).length<2^20;decide))) fun r hr=>?_
 obtain⟨M,kk,rfl,hM0⟩:=hr
 obtain⟨rfl,rfl⟩:M=(sNDo ((sNDo N t (gnC c)).1) ((sTreeDo t (gnC c)).1) (wrC c)).1/\kk=(sNDo ((sNDo N t (gnC c)).1) ((sTreeDo t (gnC c)).1) (wrC c)).2:=by have:=nd_all hM0;rw[<-this];exact⟨rfl,rfl⟩
 have hY:=NBs_step (t:=(sTreeDo t (gnC c)).1) (c:=wrC c) hM (by first|omega|(show wS c.path<_;omega)|(show wS []<_;decide)|(show([]:Str).length<_;decide)) (by first|omega|(show wS c.path<_;omega)|(show wS []<_;decide)|(show([]:Str).length<_;decide))
 refine Ke (Fn3 [3,5,7] [(15,.i ((sNDo ((sNDo N t (gnC c)).1) ((sTreeDo t (gnC c)).1) (wrC c)).2)),(14,.ptr 28 0)] ([(28,nsc ((sNDo ((sNDo N t (gnC c)).1) ((sTreeDo t (gnC c)).1) (wrC c)).1))]++·) 32 ((0<2)/\(1<2)/\(true=true/\2=2/\0+2<=2)/\·) ⟨dc,dc,dc,Sq fun K20 hK20=>?_⟩)
 refine Rr (Cn1 (!decide (((sNDo ((sNDo N t (gnC c)).1) ((sTreeDo t (gnC c)).1) (wrC c)).2:Int)=(0:Int))) [3,5,7,14,15] [] (Ki/\·) ⟨rfl,fun hc22 c22=>?_,fun hc22 c22=>?_⟩)
 refine Rr (Fn1 [] [(2,.bool (decide (((sNDo ((sNDo N t (gnC c)).1) ((sTreeDo t (gnC c)).1) (wrC c)).2:Int)=(6:Int))))] (Ki/\·) ⟨rfl,Rt (.bool (decide (((sNDo ((sNDo N t (gnC c)).1) ((sTreeDo t (gnC c)).1) (wrC c)).2:Int)=(6:Int)))) (fin_lea ?_)⟩)
 have hk0:(sNDo N t (gnC c)).2=0:=by have h:=hc15;rw[wxN_self]at h;simpa using h
 rw[decide_eq_true ((never hk0).1 (by have h:=hc22;simpa using h))];exact lea_refl _
 refine Sk (Jn (hK20 (Kp [3,5,7,14] (Rr (Bc1 4 [(91,pth c.path),(90,.ptr 8 1),(89,.agg (nsc ((sNDo ((sNDo N t (gnC c)).1) ((sTreeDo t (gnC c)).1) (wrC c)).1)))] 6 [.agg (nsc ((sNDo ((sNDo N t (gnC c)).1) ((sTreeDo t (gnC c)).1) (wrC c)).1)),pth c.path] 92 ((0+2<=2/\0<2)/\((1:Nat)≠0)/\(1+1<=5/\1<5)/\·) ⟨dc,dc,dc,PE.use (nId_ok ((sNDo ((sNDo N t (gnC c)).1) ((sTreeDo t (gnC c)).1) (wrC c)).1) c.path hY.l4 hY.n4 hY.b om) (Ke ?_)⟩)))))
 refine Fn0 [3,7,14] [(16,.i (nId ((sNDo ((sNDo N t (gnC c)).1) ((sTreeDo t (gnC c)).1) (wrC c)).1) c.path))] (Rr ?_)
 have hpb:=nPath_wS (i:=nId N c.path) hY;have hpl:=wS_len (nPath ((sNDo ((sNDo N t (gnC c)).1) ((sTreeDo t (gnC c)).1) (wrC c)).1) (nId N c.path)).1
 refine Pc1 3 [(95,.i (nId N c.path)),(94,.agg (nsc ((sNDo ((sNDo N t (gnC c)).1) ((sTreeDo t (gnC c)).1) (wrC c)).1)))] 96 (0+2<=2/\0<2) dc (nPath_ok ((sNDo ((sNDo N t (gnC c)).1) ((sTreeDo t (gnC c)).1) (wrC c)).1) (nId N c.path) hY.l4 hY.n4 hY.b) (Fn1 [3,7,16] [(18,.bool ((nPath ((sNDo ((sNDo N t (gnC c)).1) ((sTreeDo t (gnC c)).1) (wrC c)).1) (nId N c.path)).2))] ((0<2)/\(1<2)/\·) ⟨dc,dc,Rm 2 ((decide ((0:Int)<(nId N c.path:Int)))&&((decide ((N.next:Int)<=(nId ((sNDo ((sNDo N t (gnC c)).1) ((sTreeDo t (gnC c)).1) (wrC c)).1) c.path:Int)))&&((!decide ((nId ((sNDo ((sNDo N t (gnC c)).1) ((sTreeDo t (gnC c)).1) (wrC c)).1) c.path:Int)=(nId N c.path:Int)))&&(!((nPath ((sNDo ((sNDo N t (gnC c)).1) ((sTreeDo t (gnC c)).1) (wrC c)).1) (nId N c.path)).2))))) [] ?_ ?_⟩)
 refine An1 3 [(101,.bool (decide ((0:Int)<(nId N c.path:Int)))),(100,.bool (decide ((0:Int)<(nId N c.path:Int)))),(99,.i (nId N c.path))] (Ki/\·) ⟨rfl,Rg (fun hg27 g27=>?_) (fun hg27 g27=>?_)⟩
 refine An1 6 [(107,.bool (decide ((N.next:Int)<=(nId ((sNDo ((sNDo N t (gnC c)).1) ((sTreeDo t (gnC c)).1) (wrC c)).1) c.path:Int)))),(106,.bool (decide ((N.next:Int)<=(nId ((sNDo ((sNDo N t (gnC c)).1) ((sTreeDo t (gnC c)).1) (wrC c)).1) c.path:Int)))),(105,.bool (decide ((N.next:Int)<=(nId ((sNDo ((sNDo N t (gnC c)).1) ((sTreeDo t (gnC c)).1) (wrC c)).1) c.path:Int)))),(104,.i N.next),(103,.ptr 0 0),(102,.i (nId ((sNDo ((sNDo N t (gnC c)).1) ((sTreeDo t (gnC c)).1) (wrC c)).1) c.path))] (((1:Nat)≠0)/\(0+1<=2/\0<2)/\Ki/\·) ⟨dc,dc,rfl,Rg (fun hg28 g28=>?_) (fun hg28 g28=>?_)⟩
 refine An1 5 [(112,.bool (!decide ((nId ((sNDo ((sNDo N t (gnC c)).1) ((sTreeDo t (gnC c)).1) (wrC c)).1) c.path:Int)=(nId N c.path:Int)))),(111,.bool (!decide ((nId ((sNDo ((sNDo N t (gnC c)).1) ((sTreeDo t (gnC c)).1) (wrC c)).1) c.path:Int)=(nId N c.path:Int)))),(110,.bool (!decide ((nId ((sNDo ((sNDo N t (gnC c)).1) ((sTreeDo t (gnC c)).1) (wrC c)).1) c.path:Int)=(nId N c.path:Int)))),(109,.i (nId N c.path)),(108,.i (nId ((sNDo ((sNDo N t (gnC c)).1) ((sTreeDo t (gnC c)).1) (wrC c)).1) c.path))] (Ki/\·) ⟨rfl,Rg (fun hg29 g29=>?_) (fun hg29 g29=>?_)⟩
 refine Mn0 (!((nPath ((sNDo ((sNDo N t (gnC c)).1) ((sTreeDo t (gnC c)).1) (wrC c)).1) (nId N c.path)).2)) (by rw[hg27,hg28,hg29];rfl)
 refine Mn0 false (by rw[hg27,hg28,hg29];rfl)
 refine Mn0 false (by rw[hg27,hg28];rfl)
 refine Mn0 false (by rw[hg27];rfl)
 refine Rt (.bool ((decide ((0:Int)<(nId N c.path:Int)))&&((decide ((N.next:Int)<=(nId ((sNDo ((sNDo N t (gnC c)).1) ((sTreeDo t (gnC c)).1) (wrC c)).1) c.path:Int)))&&((!decide ((nId ((sNDo ((sNDo N t (gnC c)).1) ((sTreeDo t (gnC c)).1) (wrC c)).1) c.path:Int)=(nId N c.path:Int)))&&(!((nPath ((sNDo ((sNDo N t (gnC c)).1) ((sTreeDo t (gnC c)).1) (wrC c)).1) (nId N c.path)).2)))))) (fin_lea ?_)
 have hk0:(sNDo N t (gnC c)).2=0:=by have h:=hc15;rw[wxN_self]at h;simpa using h
 obtain⟨d1,d2,d3,d4⟩:=(never hk0).2 (by have h:=hc22;simpa using h)
 rw[show((decide ((0:Int)<(nId N c.path:Int)))&&((decide ((N.next:Int)<=(nId ((sNDo ((sNDo N t (gnC c)).1) ((sTreeDo t (gnC c)).1) (wrC c)).1) c.path:Int)))&&((!decide ((nId ((sNDo ((sNDo N t (gnC c)).1) ((sTreeDo t (gnC c)).1) (wrC c)).1) c.path:Int)=(nId N c.path:Int)))&&(!((nPath ((sNDo ((sNDo N t (gnC c)).1) ((sTreeDo t (gnC c)).1) (wrC c)).1) (nId N c.path)).2)))))=true by rw[d4,decide_eq_true d1,decide_eq_true d2,decide_eq_false d3];rfl];exact lea_refl _
end Go.Proofs.YtkgflbkcdoeckaaGreatT
set_option maxRecDepth 100000
namespace Go.Proofs.YtkgflbkcdoeckaaGreat
open Go.ChangeShapes Go.WideShapes Go.ChangeAt Go.RowKit
theorem ext_below {w w':World} (h:YtkgflbkcdoeckaaGreatT.Ext (fun _=>False) w w'):Below w.heap.size w w':=⟨h.os,h.tape,h.output,h.size,fun k hk=>h.keep k hk fun x=>x⟩
theorem calls_of {P:Program} {f:Nat} {vs:Array Value} {w:World} {R:Ending->World->Prop} {fn:Func} {b:Code} (hf:P.funcs[f]?=some fn) (hb:fn.body=some b) (hnm:(fn.name== "runtime.NumGoroutine")=false) (h:YtkgflbkcdoeckaaGreatT.CallsX P f vs w R):Calls P f vs w R:=by
 have hnm':¬fn.name= "runtime.NumGoroutine" :=by simpa using hnm
 have henter:(callFunc f vs).run P w=.ok (.enter f vs) w:=by
  simp[callFunc,hf,hnm',hb]
 unfold YtkgflbkcdoeckaaGreatT.CallsX at h
 rw[henter]at h
 exact h.2
theorem callDone (zs:List Int) (hw:∀n∈zs,(Lit.int .u8 n).wf=true) (A:Option Addr) (c:Nat) (W:World) (hc:zs.length<=c)
  (ha:zs≠[]->∃a,A=some a/\a.block<W.heap.size/\∀i,i<zs.length->W.cell? (a.add i)=some (.int .u8 (zs.getD i 0))):
  YtkgflbkcdoeckaaGreatT.CallsX Tryz.prog 3 #[.slice A zs.length c] W fun e W'=>e=.returned (.bool true)/\Below W.heap.size W W':=by
 let X:YtkgflbkcdoeckaaGreatT.Str:=zs.map fun n=>UInt8.ofNat n.toNat
 have hX:X.map (fun c=>[YtkgflbkcdoeckaaGreatT.AV.int .u8 (c.toNat:Int)])=zs.map fun n=>[YtkgflbkcdoeckaaGreatT.AV.int .u8 n]:=by
  simp only[X,List.map_map]
  refine List.map_congr_left fun n hn=>?_
  have:=hw n hn
  simp only[Lit.wf,Bool.and_eq_true,decide_eq_true_eq]at this
  have h1:0<=n:=by have:=this.1;simpa[IntKind.min,IntKind.signed]using this
  have h2:n<=255:=by have:=this.2;simpa[IntKind.max,IntKind.signed,IntKind.bits]using this
  simp only[Function.comp]
  congr 2
  rw[UInt8.toNat_ofNat']
  omega
 have h:=YtkgflbkcdoeckaaGreatT.FnNodesNever_ok X
 rw[hX]at h
 refine YtkgflbkcdoeckaaGreatT.CallsX.mono (h (fun _=>none) 0 (fun _=>False) W #[.slice A zs.length c] ⟨rfl,fun _ _ _=>rfl,0,fun _ _=>rfl⟩ (fun _ hb=>hb.elim) ?_) ?_
 ·simp only[YtkgflbkcdoeckaaGreatT.VRs,YtkgflbkcdoeckaaGreatT.VR,and_true]
  refine⟨A,c,by rw[List.length_map],by rw[List.length_map];exact hc,fun hne=>?_⟩
  obtain⟨a,rfl,hb,hcell⟩:=ha (by rintro rfl;exact hne rfl)
  refine⟨a,rfl,fun x=>x,hb,?_⟩
  have key:∀(l:List Int) (k:Nat),(∀i,i<l.length->W.cell? (a.add (k+i))=some (.int .u8 (l.getD i 0)))->YtkgflbkcdoeckaaGreatT.PEs (fun _=>none) W (fun _=>False) 1 (l.map fun n=>[YtkgflbkcdoeckaaGreatT.AV.int .u8 n]) a k:=by
   intro l
   induction l with
   |nil=>intro k _;simp only[List.map_nil,YtkgflbkcdoeckaaGreatT.PEs]
   |cons n l ih=>
    intro k hl
    simp only[List.map_cons,YtkgflbkcdoeckaaGreatT.PEs,YtkgflbkcdoeckaaGreatT.PCs,YtkgflbkcdoeckaaGreatT.VR,List.length_cons,List.length_nil,Nat.mul_one,and_true]
    refine⟨trivial,⟨_,by simpa using hl 0 (by simp),rfl,rfl⟩,ih (k+1) fun i hi=>?_⟩
    have:=hl (i+1) (by simpa using hi)
    rw[show k+1+i=k+(i+1) by omega]
    simpa using this
  exact key zs 0 (fun i hi=>by rw[Nat.zero_add];exact hcell i hi)
 ·rintro e W' ⟨v,r,rfl,rfl,hv,hx⟩
  simp only[YtkgflbkcdoeckaaGreatT.VR]at hv
  exact⟨by rw[hv],ext_below hx⟩
theorem own:ownKnob Tryz.prog.godebug=none:=by kernel_rfl
theorem contract (H:Type) (enc:TypeId×Value->H) (W:World) (base:Nat) (args:Array Value) (ds gs:List (DataW H)) (before:List MemPlace)
  (hval:∀(j:Nat) t v,Tryz.f3.params[j]?=some t->args[j]?=some v->Value.okWide Tryz.prog W .any base t v)
  (hW:DataW.Whole enc Tryz.prog Tryz.f3.params.toList Rows.fnNodesNeverSpec.vars false W args.toList ds gs before):
  Calls Tryz.prog 3 args W fun e W'=>∃v,e=.returned v/\Rows.fnNodesNeverSpec.post enc Tryz.prog Tryz.f3 false true false false W args v W':=by
 have hW':=hW
 obtain⟨p,q,hA0,hV,rfl,hfz,hnd⟩:=hW
 have hA:DataW.TrodAll enc Tryz.prog W 0 (fun _=>true) true Tryz.f3.params.toList args.toList ds p:=hA0
 rw[Tryz.params3]at hA hval
 obtain⟨v0,vs0,d0,ds0,p0,q0,hargs,rfl,rfl,h0,r0⟩:=trodAll_cons hA
 obtain⟨rfl,rfl,rfl⟩:=trodAll_nil r0
 obtain rfl:args=#[v0]:=by cases args;simp_all
 obtain⟨rfl,rfl⟩:=trodVars_none hV
 simp only[List.append_nil]at hW'
 have hlt:∀x∈p0,x.block<W.heap.size:=fun x hx=>by simpa using hW'.lt x hx
 have hargs2:∀(W':World),Below W.heap.size W W'->DataW.Trod enc Tryz.prog W' 0 (fun b=>decide (b<W.heap.size)) true 22 v0 d0 p0:=
  fun W' hn=>Below.trod (by kernel_rfl) (by kernel_rfl) (of_decide_eq_true (by kernel_rfl)) h0 hn hlt
 have fin:∀W',Below W.heap.size W W'->Rows.fnNodesNeverSpec.post enc Tryz.prog Tryz.f3 false true false false W #[v0] (.bool true) W':=fun W' hb=>
  ⟨_,_,_,[],_,[],hW',trodAll_mk1 (shut_bool Tryz.underlying4 true),trodAll_mk1 (hargs2 W' hb),rfl,hb.frame _,fun h=>by cases h⟩
 obtain⟨fuel,hf⟩:=h0
 obtain⟨a0,len,cap,rfl⟩:=okWide_slice Tryz.underlying22 (hval 0 22 v0 rfl rfl)
 have go:∀(zs:List Int) (A:Option Addr) (c:Nat),(∀n∈zs,(Lit.int .u8 n).wf=true)->zs.length<=c->(zs≠[]->∃a,A=some a/\a.block<W.heap.size/\∀i,i<zs.length->W.cell? (a.add i)=some (.int .u8 (zs.getD i 0)))->Value.slice a0 len cap=.slice A zs.length c->
   Calls Tryz.prog 3 #[.slice a0 len cap] W fun e W'=>∃v,e=.returned v/\Rows.fnNodesNeverSpec.post enc Tryz.prog Tryz.f3 false true false false W #[.slice a0 len cap] v W':=by
  intro zs A c h1 h2 h3 h4
  rw[h4]
  rw[h4]at fin
  exact(calls_of (b:=YtkgflbkcdoeckaaGreatT.bd Tryz.f3) Tryz.func3 (by kernel_rfl) (by kernel_rfl) (callDone zs h1 A c W h2 h3)).mono fun e W' ⟨he,hb⟩=>⟨_,he,fin W' hb⟩
 rcases open_ints Tryz.underlying22 Tryz.underlying5 (by kernel_rfl) hf with ⟨hcs,hx⟩|⟨a,len',cap',zs,hcs,_,hl,hm,hz,hx,hcell,hwz⟩
 ·simp[Value.cells]at hcs
  obtain⟨rfl,rfl,rfl⟩:=hcs
  exact go [] none 0 (by simp) (Nat.le_refl _) (fun h=>absurd rfl h) rfl
 ·simp[Value.cells]at hcs
  obtain⟨rfl,rfl,rfl⟩:=hcs
  simp only[Prod.mk.injEq]at hx
  obtain⟨rfl,rfl⟩:=hx
  simp only[if_true]at hz
  have hl2:(zs.take len).length=len:=by rw[List.length_take];omega
  refine go (zs.take len) (some a) cap (fun n hn=>hwz n (List.mem_of_mem_take hn)) (by omega) (fun hne=>⟨a,rfl,?_,fun i hi=>?_⟩) (by rw[hl2])
  ·have:0<zs.length:=by
    rcases zs with _|⟨z,zs⟩
    ·simp at hne
    ·simp
   exact hlt (.cell a.block a.off) (MemPlace.mem_row.2 ⟨0,by simpa using this,by simp⟩)
  ·rw[hl2]at hi
   rw[hcell i (by omega)]
   simp[List.getD,hi]
set_option maxRecDepth 100000 in
theorem lifted (os:Os) (started:os.Started) (H:Type) (enc:TypeId×Value->H):
  ReturnsInHanded {} Tryz.checked os 3 .any (Rows.fnNodesNeverSpec.pre6 enc Tryz.prog Tryz.f3 Rows.fnNodesNeverRow.domain false) (Rows.fnNodesNeverSpec.post enc Tryz.prog Tryz.f3 false true false false):=by
 refine returnsInHanded_of_change (C:=Tryz.checked) own started (by kernel_rfl) Tryz.func3
  (ChangeSpec.witness6 (enc:=enc) (C:=Tryz.checked) false ⟨#[],#[.slice none 0 0],[]⟩ 8 (by kernel_rfl) (by kernel_rfl) (by kernel_rfl) (by kernel_rfl)) ?_
 intro W base args ds gs before hval hW _ _
 exact contract H enc W base args ds gs before hval hW
theorem fnNodesNever_holds:Rows.FnNodesNeverSaid:=
 OpenClaim.holds_of_wide 3 Tryz.f3 rfl rfl rfl rfl rfl rfl rfl ⟨rfl,rfl,rfl,rfl,rfl⟩ rfl rfl rfl rfl rfl (by kernel_rfl) Tryz.func3 (by kernel_rfl)
  (of_decide_eq_true (by kernel_rfl)) (by unfold Func.isWrapper;first|(rw[if_pos (by decide +kernel)];kernel_rfl)|(rw[if_neg (by decide +kernel)];exact⟨rfl,rfl⟩))
  (fun os started H enc _=>lifted os started H enc)
end Go.Proofs.YtkgflbkcdoeckaaGreat
