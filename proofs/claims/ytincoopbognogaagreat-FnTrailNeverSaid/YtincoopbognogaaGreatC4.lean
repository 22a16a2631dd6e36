/- A part of the proof that FnTrailNever, on every slice of bytes, returns true (no conditions): rules of the walk, and what the functions compute. -/
import Derived.Test.YtincoopbognogaaGreatC3
set_option linter.unusedVariables false
set_option linter.unusedSimpArgs false
namespace Go.Proofs.YtincoopbognogaaGreatT
open Go
set_option maxRecDepth 100000
theorem asc_pw {l:List Str} (h:asc l=true):l.Pairwise fun a b=>blt a b=true:=by
 refine List.pairwise_iff_getElem.2 fun i j hi hj hij=>?_
 have:=asc_lt h hij hj
 simpa[List.getD,hi,hj]using this
theorem asc_of_pw:∀{l:List Str},(l.Pairwise fun a b=>blt a b=true)->asc l=true
 |[],_=>rfl
 |[a],_=>rfl
 |a::b::r,h=>by
  rw[asc,Bool.and_eq_true]
  have h1:=List.pairwise_cons.1 h
  exact⟨h1.1 b (by simp),asc_of_pw h1.2⟩
theorem parts_mkE {t:Tr} {n:Int} {l:List (Str×Tr)} (h:partsOk t n=true) (hn:(l.map (·.1)).Sublist t.names) (hk:∀e∈l,partsOk e.2 (n+1)=true):partsOk (mkE t l) n=true:=by
 rw[partsOk_eq]at h⊢
 simp only[Bool.and_eq_true]at h⊢
 refine⟨?_,h.2.1,?_⟩
 ·have h1:=h.1
  simp only[plainOk,Bool.and_eq_true,decide_eq_true_eq]at h1⊢
  refine⟨h1.1,mkE_len t l,?_⟩
  have h7:=h1.2.2
  show(if t.dir then(l.map (·.1)).all nmOk&&(asc (l.map (·.1))&&t.data==[])else decide (t.data.length<=24)&&decide ((l.map (·.1)).length=0))=true
  cases hd:t.dir with
  |true=>
   rw[hd]at h7
   simp only[if_true,Bool.and_eq_true]at h7⊢
   exact⟨List.all_eq_true.2 fun x hx=>List.all_eq_true.1 h7.1 x (hn.subset hx),asc_of_pw ((asc_pw h7.2.1).sublist hn),h7.2.2⟩
  |false=>
   rw[hd]at h7
   simp only[Bool.false_eq_true,if_false,Bool.and_eq_true]at h7⊢
   have h8:=of_decide_eq_true h7.2
   have:=hn.length_le
   exact⟨h7.1,decide_eq_true (by omega)⟩
 ·refine List.all_eq_true.2 fun x hx=>?_
  obtain⟨e,he,rfl⟩:=List.mem_map.1 hx
  exact hk e he
theorem ents_f {t:Tr} (hl:t.names.length=t.kids.length):(ents t).map (·.1)=t.names/\(ents t).map (·.2)=t.kids:=zip_f t hl
theorem parts_len {t:Tr} {n:Int} (h:partsOk t n=true):t.names.length=t.kids.length:=by
 rw[partsOk_eq]at h
 simp only[Bool.and_eq_true]at h
 have h1:=h.1
 simp only[plainOk,Bool.and_eq_true,decide_eq_true_eq]at h1
 exact h1.2.1
theorem parts_kid {t:Tr} {n:Int} (h:partsOk t n=true) {x:Tr} (hx:x∈t.kids):partsOk x (n+1)=true:=by
 rw[partsOk_eq]at h
 simp only[Bool.and_eq_true]at h
 exact List.all_eq_true.1 h.2.2 x hx
theorem cnts_map {α:Type} (g f:α->Tr):∀(l:List α),(∀e∈l,cnt (g e)<=cnt (f e))->cnts (l.map g)<=cnts (l.map f)
 |[],_=>by simp
 |e::l,h=>by
  have:=cnts_map g f l fun e he=>h e (by simp[he])
  have:=h e (by simp)
  simp only[List.map_cons,cnts];omega
theorem cnts_flt (q:Str×Tr->Bool):∀(l:List (Str×Tr)),cnts ((l.filter q).map (·.2))<=cnts (l.map (·.2))
 |[]=>by simp
 |e::l=>by
  have:=cnts_flt q l
  rw[List.filter_cons]
  split<;>simp only[List.map_cons,cnts]<;>omega
theorem gone_parts:∀(p:List Str) (t:Tr) (n:Int),partsOk t n=true->p≠[]->partsOk (tset p t .none true) n=true/\cnt (tset p t .none true)<=cnt t/\(tset p t .none true).dir=t.dir
 |[],_,_,_,h=>absurd rfl h
 |[nm],t,n,h,_=>by
  obtain⟨z1,z2⟩:=ents_f (parts_len h)
  rw[tsE_gone]
  refine⟨parts_mkE h ?_ fun e he=>parts_kid h (List.of_mem_zip (List.mem_filter.1 he).1).2,?_,rfl⟩
  ·conv=>rhs;rw[<-z1]
   exact List.filter_sublist.map _
  ·rw[cnt_eq,cnt_eq]
   conv=>rhs;rw[<-z2]
   exact cnts_flt _ _
 |m::m2::p,t,n,h,_=>by
  obtain⟨z1,z2⟩:=ents_f (parts_len h)
  rw[tsE_deep _ _ _ _ _ (by simp)]
  refine⟨parts_mkE h ?_ fun e he=>?_,?_,rfl⟩
  ·rw[List.map_map]
   exact(z1▸List.Sublist.refl _:((ents t).map (·.1)).Sublist t.names)
  ·obtain⟨e',he',rfl⟩:=List.mem_map.1 he
   have hk:=parts_kid h (List.of_mem_zip he').2
   dsimp only
   cases e'.1==m
   ·exact hk
   ·exact(gone_parts (m2::p) e'.2 (n+1) hk (by simp)).1
  ·rw[cnt_eq,cnt_eq]
   conv=>rhs;rw[<-z2]
   show cnts (((ents t).map _).map _)<=_
   rw[List.map_map]
   refine cnts_map _ _ _ fun e' he'=>?_
   have hk:=parts_kid h (List.of_mem_zip he').2
   simp only[Function.comp]
   cases e'.1==m
   ·exact Nat.le_refl _
   ·exact(gone_parts (m2::p) e'.2 (n+1) hk (by simp)).2.1
theorem gone_ok {t:Tr} {p:List Str} (h:treeOk t=true) (hp:p≠[]):treeOk (tset p t .none true)=true:=by
 simp only[treeOk,Bool.and_eq_true,decide_eq_true_eq]at h⊢
 obtain⟨h1,h2,h3⟩:=gone_parts p t 0 h.2.1 hp
 exact⟨by rw[h3];exact h.1,h1,by omega⟩
theorem mode_parts {m:Int} (hm:inb m 0 7=true):∀(p:List Str) (t x:Tr) (n:Int),partsOk t n=true->t.wf=true->tnd t->p≠[]->tat t p=some x->partsOk (tset p t (wMode x m) false) n=true/\cnt (tset p t (wMode x m) false)<=cnt t/\(tset p t (wMode x m) false).dir=t.dir
 |[],_,_,_,_,_,_,h,_=>absurd rfl h
 |[nm],t,x,n,h,hw,hn,_,hx=>by
  have hl:=parts_len h
  obtain⟨z1,z2⟩:=ents_f hl
  rw[tat_cons]at hx
  cases hf:fnd nm t.names with
  |none=>rw[hf]at hx;cases hx
  |some k=>
   rw[hf]at hx
   simp only[tat,Option.some.injEq]at hx
   have hk:=fnd_lt hf
   have ha:=(tas_eq t).1 (tas_parts t n h)
   rw[tset_hit hl ha.1 hk (fnd_some hf)]
   have hxk:x∈t.kids:=by rw[<-hx];exact getD_mem t.kids k Tr.none (by omega)
   have hpx:=parts_kid h hxk
   have hpm:partsOk (wMode x m) (n+1)=true:=by
    rw[partsOk_eq]at hpx⊢
    simp only[plainOk,wMode,Tr.mode_mk,Tr.names_mk,Tr.kids_mk,Tr.dir_mk,Tr.data_mk,Bool.and_eq_true]at hpx⊢
    exact⟨⟨hm,hpx.1.2⟩,hpx.2⟩
   have hc:cnt (wMode x m)=cnt x:=by rw[cnt_eq,cnt_eq];rfl
   have hs:t.kids.set k (wMode x m)=t.kids.take k++wMode x m::t.kids.drop (k+1):=set_split _ _ (by omega) _
   have hg:t.kids=t.kids.take k++x::t.kids.drop (k+1):=by
    have:=get_split t.kids k (by omega) Tr.none
    rw[hx]at this;exact this
   refine⟨?_,?_,rfl⟩
   ·rw[partsOk_eq]at h⊢
    simp only[Bool.and_eq_true,Tr.kids_mk]at h⊢
    refine⟨?_,h.2.1,List.all_eq_true.2 fun y hy=>?_⟩
    ·have h1:=h.1
     simp only[plainOk,Tr.mode_mk,Tr.names_mk,Tr.kids_mk,Tr.dir_mk,Tr.data_mk,List.length_set]at h1⊢
     exact h1
    ·rcases List.mem_or_eq_of_mem_set hy with hy|rfl
     ·exact List.all_eq_true.1 h.2.2 y hy
     ·exact hpm
   ·rw[cnt_eq,cnt_eq,Tr.kids_mk,hs]
    conv=>rhs;rw[hg]
    have happ:∀(a b:List Tr),cnts (a++b)=cnts a+cnts b:=by
     intro a b
     induction a with
     |nil=>simp[cnts]
     |cons y a ih=>simp only[List.cons_append,cnts,ih];omega
    rw[happ,happ]
    simp only[cnts,hc]
    exact Nat.le_refl _
 |n'::m2::p,t,x,n,h,hw,hn,_,hx=>by
  obtain⟨z1,z2⟩:=ents_f (parts_len h)
  rw[tsE_deep _ _ _ _ _ (by simp)]
  have key:∀e'∈ents t,(e'.1==n')=true->partsOk (tset (m2::p) e'.2 (wMode x m) false) (n+1)=true/\cnt (tset (m2::p) e'.2 (wMode x m) false)<=cnt e'.2:=by
   intro e' he' hb
   have hk:=(List.of_mem_zip he').2
   have hwk:e'.2.wf=true:=by
    have:=hw
    rw[wf_eq]at this
    simp only[Bool.and_eq_true,List.all_eq_true]at this
    exact this.2 _ hk
   have hnk:tnd e'.2:=by
    obtain⟨i,hi,h⟩:=List.mem_iff_getElem.1 hk
    have:=tnds_get ((tnd_eq t).1 hn).2 hi
    rw[<-h]
    simpa[List.getD,hi]using this
   have:=mode_parts hm (m2::p) e'.2 x (n+1) (parts_kid h hk) hwk hnk (by simp) (by rw[<-ent_fnd hw ((tnd_eq t).1 hn).1 he' (eq_of_beq hb)];exact hx)
   exact⟨this.1,this.2.1⟩
  refine⟨parts_mkE h ?_ fun e he=>?_,?_,rfl⟩
  ·rw[List.map_map]
   exact(z1▸List.Sublist.refl _:((ents t).map (·.1)).Sublist t.names)
  ·obtain⟨e',he',rfl⟩:=List.mem_map.1 he
   dsimp only
   cases hb:e'.1==n'
   ·exact parts_kid h (List.of_mem_zip he').2
   ·exact(key e' he' hb).1
  ·rw[cnt_eq,cnt_eq]
   conv=>rhs;rw[<-z2]
   show cnts (((ents t).map _).map _)<=_
   rw[List.map_map]
   refine cnts_map _ _ _ fun e' he'=>?_
   simp only[Function.comp]
   cases hb:e'.1==n'
   ·exact Nat.le_refl _
   ·exact(key e' he' hb).2
theorem mode_ok {t x:Tr} {p:List Str} {m:Int} (h:treeOk t=true) (hm:inb m 0 7=true) (hp:p≠[]) (hx:tat t p=some x):treeOk (tset p t (wMode x m) false)=true:=by
 have hw:=wf_ok h
 have hn:=tnd_ok h
 simp only[treeOk,Bool.and_eq_true,decide_eq_true_eq]at h⊢
 obtain⟨h1,h2,h3⟩:=mode_parts hm p t x 0 h.2.1 hw hn hp hx
 exact⟨by rw[h3];exact h.1,h1,by omega⟩
theorem file_names {t x:Tr} {p:List Str} (h:treeOk t=true) (hx:tat t p=some x) (hd:x.dir=false):x.names.length=0:=by
 simp only[treeOk,Bool.and_eq_true]at h
 obtain⟨m,hm⟩:=parts_tat h.2.1 hx
 rw[partsOk_eq]at hm
 simp only[Bool.and_eq_true]at hm
 have h1:=hm.1
 simp only[plainOk,Bool.and_eq_true,decide_eq_true_eq]at h1
 have h7:=h1.2.2
 rw[hd]at h7
 simp only[Bool.false_eq_true,if_false,Bool.and_eq_true]at h7
 exact of_decide_eq_true h7.2
theorem aDo_err {t:Tr} {c:Cl} {k:Int} (hc:callOk c=true) (h:iDo t c=(t,k)) (hk:k≠0):aDo t c=(t,k):=by
 unfold aDo
 rw[hc,h]
 simp only[Bool.not_true,cond_false,decide_eq_false hk,Bool.not_false,cond_true]
theorem aDo_ok {t y:Tr} {c:Cl} (hc:callOk c=true) (h:iDo t c=(y,0)):aDo t c=fits y t:=by
 unfold aDo fits
 rw[hc,h]
 simp only[Bool.not_true,cond_false,decide_true]
 cases treeOk y<;>rfl
theorem aDo_sDo {t:Tr} {c:Cl} (ht:treeOk t=true) (hc:callOk c=true):aDo t c=sDo t c:=by
 obtain⟨f1,f2,f3,f4⟩:=callOk_facts hc
 have hp:c.path≠[]:=fun h=>by rw[h]at f1;simp at f1
 have hk16:c.kind=1\/c.kind=2\/c.kind=3\/c.kind=4\/c.kind=5\/c.kind=6:=by
  unfold callOk at hc
  split at hc
  ·rename_i h;omega
  split at hc
  ·rename_i h;omega
  split at hc
  ·rename_i h;omega
  split at hc
  ·rename_i h;omega
  ·cases hc
 have hm6:c.kind=6->inb c.at_ 0 7=true:=fun h=>by
  unfold callOk at hc
  rw[if_pos (by omega)]at hc
  simp only[Bool.and_eq_true]at hc
  exact hc.2
 by_cases hP:parC t c.path=0
 case neg=>
  have e:iDo t c=(t,parC t c.path):=by
   unfold iDo
   rw[decide_eq_false hP];rfl
  rw[aDo_err hc e hP]
  unfold sDo
  rw[decide_eq_false hP];rfl
 have hPd:decide (parC t c.path=(0:Int))=true:=decide_eq_true hP
 rcases hk16 with hk|hk|hk|hk|hk|hk
 ·--a new directory
  have es:sDo t c=bif (tat t c.path).isSome then(t,5)else fits (tset c.path t (newDir c.at_) false) t:=by
   unfold sDo;rw[hPd,hk];rfl
  have ei:iDo t c=match tat t c.path with|some _=>(t,5)|none=>(tset c.path t (newDir c.at_) false,0):=by
   unfold iDo;rw[hPd,hk];rfl
  rw[es]
  cases hx:tat t c.path with
  |some x=>rw[hx]at ei;rw[aDo_err hc ei (by decide)];rfl
  |none=>rw[hx]at ei;rw[aDo_ok hc ei];rfl
 ·--a write
  obtain⟨f8,f9⟩:=f3 (.inl hk)
  have es:sDo t c=sFile t c:=by unfold sDo;rw[hPd,hk];rfl
  have hd:decide ((24:Int)<((c.data.length:Nat):Int)+c.at_)=decide ((24:Int)<c.at_+((c.data.length:Nat):Int)):=decide_eq_decide.2 (by omega)
  have ei:iDo t c=match tat t c.path with
   |some x=>bif x.dir then(t,4)else bif decide ((24:Int)<c.at_+((c.data.length:Nat):Int))then(t,6)else(tset c.path t (wData x (wrt x.data c.at_ c.data)) false,0)
   |none=>bif decide ((24:Int)<c.at_+((c.data.length:Nat):Int))then(t,6)else(tset c.path t (wData .none (wrt [] c.at_ c.data)) false,0):=by
   unfold iDo;rw[hPd,hk];rfl
  rw[es]
  unfold sFile
  rw[hd,show decide (c.kind=(3:Int))=false by rw[hk];rfl]
  cases hx:tat t c.path with
  |some x=>
   rw[hx]at ei
   have hxa:xat t c.path=x:=by unfold xat;rw[hx];rfl
   dsimp only at ei
   rw[hxa]
   simp only[Option.isSome_some,Bool.true_and,Bool.not_true,Bool.false_and,cond_false]
   cases hdx:x.dir with
   |true=>rw[hdx]at ei;rw[aDo_err hc ei (by decide)];rfl
   |false=>
    rw[hdx]at ei
    simp only[cond_false]at ei⊢
    cases h24:decide ((24:Int)<c.at_+((c.data.length:Nat):Int))with
    |true=>rw[h24]at ei;rw[aDo_err hc ei (by decide)];rfl
    |false=>rw[h24]at ei;rw[aDo_ok hc ei,wrt_l2w f8];rfl
  |none=>
   rw[hx]at ei
   have hxa:xat t c.path=.none:=by unfold xat;rw[hx];rfl
   dsimp only at ei
   rw[hxa]
   simp only[Option.isSome_none,Bool.false_and,Bool.not_false,Bool.and_false,cond_false]
   cases h24:decide ((24:Int)<c.at_+((c.data.length:Nat):Int))with
   |true=>rw[h24]at ei;rw[aDo_err hc ei (by decide)];rfl
   |false=>rw[h24]at ei;rw[aDo_ok hc ei,wrt_l2w f8];rfl
 ·--a new length
  obtain⟨f8,f9⟩:=f3 (.inr hk)
  have es:sDo t c=sFile t c:=by unfold sDo;rw[hPd,hk];rfl
  have ei:iDo t c=match tat t c.path with
   |none=>(t,3)
   |some x=>bif x.dir then(t,4)else(tset c.path t (wData x (szd x.data c.at_)) false,0):=by
   unfold iDo;rw[hPd,hk];rfl
  rw[es]
  unfold sFile
  rw[show decide (c.kind=(3:Int))=true by rw[hk];rfl]
  cases hx:tat t c.path with
  |some x=>
   rw[hx]at ei
   have hxa:xat t c.path=x:=by unfold xat;rw[hx];rfl
   dsimp only at ei
   rw[hxa]
   simp only[Option.isSome_some,Bool.true_and,Bool.not_true,Bool.false_and,cond_false,cond_true]
   cases hdx:x.dir with
   |true=>rw[hdx]at ei;rw[aDo_err hc ei (by decide)];rfl
   |false=>rw[hdx]at ei;rw[aDo_ok hc ei,szd_l2w f8];rfl
  |none=>
   rw[hx]at ei
   rw[aDo_err hc ei (by decide)];rfl
 ·--a removal
  have es:sDo t c=bif !(tat t c.path).isSome then(t,3)else bif decide ((0:Int)<(((xat t c.path).names.length:Nat):Int))then(t,5)else(tset c.path t .none true,0):=by
   unfold sDo;rw[hPd,hk];rfl
  have ei:iDo t c=match tat t c.path with
   |none=>(t,3)
   |some x=>bif x.dir&&decide ((0:Int)<((x.names.length:Nat):Int))then(t,5)else(tset c.path t .none true,0):=by
   unfold iDo;rw[hPd,hk];rfl
  rw[es]
  cases hx:tat t c.path with
  |some x=>
   rw[hx]at ei
   have hxa:xat t c.path=x:=by unfold xat;rw[hx];rfl
   dsimp only at ei
   rw[hxa]
   simp only[Option.isSome_some,Bool.not_true,cond_false]
   have hb:(x.dir&&decide ((0:Int)<((x.names.length:Nat):Int)))=decide ((0:Int)<((x.names.length:Nat):Int)):=by
    cases hdx:x.dir with
    |true=>rfl
    |false=>have:=file_names ht hx hdx;rw[this];rfl
   rw[hb]at ei
   cases h0:decide ((0:Int)<((x.names.length:Nat):Int))with
   |true=>rw[h0]at ei;rw[aDo_err hc ei (by decide)];rfl
   |false=>
    rw[h0]at ei
    rw[aDo_ok hc ei]
    unfold fits
    rw[gone_ok ht hp];rfl
  |none=>rw[hx]at ei;rw[aDo_err hc ei (by decide)];rfl
 ·--a rename
  obtain⟨f5,f6⟩:=f4 hk
  have hto:c.to≠[]:=fun h=>by rw[h]at f5;simp at f5
  have es:sDo t c=sRename t c:=by unfold sDo;rw[hPd,hk];rfl
  have ei:iDo t c=iRename t c:=by unfold iDo;rw[hPd,hk];rfl
  rw[es]
  unfold sRename
  unfold iRename at ei
  cases hx:tat t c.path with
  |none=>rw[hx]at ei;rw[aDo_err hc ei (by decide)];rfl
  |some x=>
   rw[hx]at ei
   have hxa:xat t c.path=x:=by unfold xat;rw[hx];rfl
   dsimp only at ei
   rw[hxa]
   simp only[Option.isSome_some,Bool.not_true,cond_false]
   cases hpre:c.path.isPrefixOf c.to with
   |true=>rw[hpre]at ei;rw[aDo_err hc ei (by decide)];rfl
   |false=>
    rw[hpre]at ei
    simp only[cond_false]at ei⊢
    by_cases hQ:parC t c.to=0
    case neg=>rw[decide_eq_false hQ]at ei⊢;rw[aDo_err hc ei hQ];rfl
    rw[decide_eq_true hQ]at ei⊢
    cases hy:tat t c.to with
    |some y=>rw[hy]at ei;rw[aDo_err hc ei (by decide)];rfl
    |none=>
     rw[hy]at ei
     rw [aDo_ok hc ei, swap_ok c.path c.to t (wf_ok ht) (by
      simp only[treeOk,Bool.and_eq_true]at ht;exact tas_parts t 0 ht.2.1) (tnd_ok ht) hp hto (by rw[hx];rfl) hy hpre]
     rfl
 ·--a new mode
  have es:sDo t c=bif !(tat t c.path).isSome then(t,3)else(tset c.path t (wMode (xat t c.path) c.at_) false,0):=by
   unfold sDo;rw[hPd,hk];rfl
  have ei:iDo t c=match tat t c.path with
   |none=>(t,3)
   |some x=>(tset c.path t (wMode x c.at_) false,0):=by
   unfold iDo;rw[hPd,hk];rfl
  rw[es]
  cases hx:tat t c.path with
  |some x=>
   rw[hx]at ei
   have hxa:xat t c.path=x:=by unfold xat;rw[hx];rfl
   dsimp only at ei
   rw[hxa,aDo_ok hc ei]
   unfold fits
   rw[mode_ok ht (hm6 hk) hp hx];rfl
  |none=>rw[hx]at ei;rw[aDo_err hc ei (by decide)];rfl
theorem iTreeDo_eq (t:Tr) (c:Cl):iTreeDo t c=sTreeDo t c:=by
 unfold iTreeDo sTreeDo
 cases ht:treeOk t with
 |false=>rfl
 |true=>
  cases hc:callOk c with
  |false=>simp only[Bool.not_true,Bool.not_false,cond_false,cond_true,aDo,hc]
  |true=>simp only[Bool.not_true,cond_false];exact aDo_sDo ht hc
set_option maxRecDepth 100000
theorem lend_ref {G:Prg} {f:Nat} {args:List AV} {H:Hp} {n:Nat} {R:AV->Hp->Prop} (h:TCall G f args [] n fun r Z' n'=>n'=n/\R r Z'):
  TCall G f args H n fun r H' n'=>n'=n/\∃Z',H'=H++Z'/\R r Z':=by
 intro X ρ w vs hf hr hvs
 have hr0:HR (OX X ρ H) ρ w []:=⟨by simp[ids],by simp[ids],by simp[ids],fun b hb=>hr.ox_old hb,by simp⟩
 refine(h (OX X ρ H) ρ w vs hf hr0 (by rw[OX_nil];exact hvs)).mono ?_
 rintro e w' ⟨v,r,ρ',Z',n',rfl,q1,q2,q3,q4,rfl,q7⟩
 have hnew:∀b,Own ρ' Z' b->w.heap.size<=b:=fun b hb=>(q4.own b hb).resolve_left fun⟨i,hi,_⟩=>by simp[ids]at hi
 obtain⟨g1,g2⟩:=frame_out (n:=n') (fun _=>False) hr (List.Sublist.refl H) (fun _ h=>h.elim) q4.rho q2
  (fun i hi hi'=>by
   obtain⟨b,hb,hlt⟩:=hr.has hi
   have:=hnew b ⟨i,hi',q4.rho i b hb⟩
   omega)
  (q4.ext.mono fun b _ hb=>by obtain⟨i,hi,_⟩:=hb;simp[ids]at hi) (fun b hb=>.inr (hnew b hb))
 refine⟨v,r,ρ',H++Z',n',rfl,q1,g1,VR_carry (Carry.less fun b hb=>?_) _ _ q3,g2,rfl,Z',rfl,q7⟩
 rcases hb with hb|⟨i,hi,hb⟩
 ·exact .inl (.inl hb)
 ·simp only[ids,List.map_append,List.mem_append]at hi
  rcases hi with hi|hi
  ·obtain⟨b',hb',_⟩:=hr.has hi
   have:=q4.rho i b' hb'
   rw[hb]at this;cases this
   exact .inl (.inr ⟨i,hi,hb'⟩)
  ·exact .inr ⟨i,hi,hb⟩
def r1K (a b:Nat):Hp->Hp->Prop
 |[],[]=>True
 |(i,cs)::H,(j,cs')::H'=>i=j/\(cs=cs'\/(slps cs/\r1s a b cs=cs'))/\r1K a b H H'
 |_,_=>False
theorem r1K_refl (a b:Nat):∀H:Hp,r1K a b H H
 |[]=>trivial
 |(i,cs)::H=>⟨rfl,.inl rfl,r1K_refl a b H⟩
theorem r1K_ids {a b:Nat}:∀{H H':Hp},r1K a b H H'->H'.map (fun p:Nat×List AV=>p.1)=H.map (fun p:Nat×List AV=>p.1)
 |[],[],_=>rfl
 |(i,cs)::H,(j,cs')::H',h=>by
  simp only[r1K]at h
  rw[List.map_cons,List.map_cons,h.1,r1K_ids h.2.2]
 |[],_::_,h=>h.elim
 |_::_,[],h=>h.elim
theorem r1K_mem {a b:Nat}:∀{H H':Hp} {i:Nat} {ds:List AV},r1K a b H H'->(i,ds)∈H'->∃ds0,(i,ds0)∈H/\(ds0=ds\/(slps ds0/\r1s a b ds0=ds))
 |(i,cs)::H,(j,cs')::H',k,ds,h,hm=>by
  simp only[r1K]at h
  rcases List.mem_cons.1 hm with e|hm
  ·cases e;obtain⟨rfl,h,_⟩:=h;exact⟨cs,List.mem_cons_self,h⟩
  ·obtain⟨d,h1,h2⟩:=r1K_mem h.2.2 hm;exact⟨d,List.mem_cons_of_mem _ h1,h2⟩
 |[],_::_,_,_,h,_=>h.elim
theorem tc_evn {G:Prg} {f:Nat} {args:List AV} {H:Hp} {n:Nat} {Q:CPost}
  (h:TCall G f args H n fun r H' n'=>(ids H').Nodup->n'%4=0->Q r H' n'\/∃j cs K K',j%2=1/\H'.Perm ((j,cs)::K)/\slp r/\r1K j n' K K'/\Q (r1 j n' r) ((n',cs)::K') (n'+4)):TCall G f args H n Q:=by
 intro X ρ w vs hf hr hvs
 refine(h X ρ w vs hf hr hvs).mono ?_
 rintro e w' ⟨v,r,ρ',H',n',rfl,q1,q2,q3,q4,hdis⟩
 rcases hdis q2.nodup q1.1 with hq|⟨j,cs,K,K',hj2,hp,hs,hrel,hq⟩
 ·exact⟨v,r,ρ',H',n',rfl,q1,q2,q3,q4,hq⟩
 have hn4:n'%4=0:=q1.1
 have hid:K'.map (fun p:Nat×List AV=>p.1)=K.map (fun p:Nat×List AV=>p.1):=r1K_ids hrel
 have hρn:ρ' n'=none:=q1.2.1 n' (Nat.le_refl _) (by omega)
 let ρ2:Rho:=fun i=>if i=n' then ρ' j else ρ' i
 have hold:∀i b,ρ' i=some b->ρ2 i=some b:=fun i b hb=>by
  show(if i=n' then ρ' j else ρ' i)=some b
  rw[if_neg (by rintro rfl;rw[hρn]at hb;cases hb)];exact hb
 have hρ:∀i b,ρ' i=some b->ρ2 (bif Nat.beq i j then n' else i)=some b:=by
  intro i b hb
  by_cases hi:i=j
  ·subst hi
   rw[Nat.beq_refl]
   show(if n'=n' then ρ' i else ρ' n')=some b
   rw[if_pos rfl];exact hb
  ·rw[show Nat.beq i j=false from nbq hi]
   exact hold i b hb
 obtain⟨m,hm⟩:=q1.2.2
 have hr2:=q2
 have hjH:j∈ids H':=(ids_perm hp.symm j).1 (by simp[ids])
 have hKH:∀i,i∈ids K->i∈ids H':=fun i hi=>(ids_perm hp.symm i).1 (by simp only[ids,List.map_cons,List.mem_cons];exact .inr hi)
 have hKn:∀i,i∈ids K->i≠n':=fun i hi e=>by
  obtain⟨b,hb,_⟩:=q2.has (hKH i hi)
  rw[e,hρn]at hb;cases hb
 have hnd:j∉ids K/\(ids K).Nodup:=by
  have:=(List.Perm.nodup_iff (hp.map (fun p:Nat×List AV=>p.1))).1 q2.nodup
  exact List.nodup_cons.1 this
 have hK2:∀i,i∈ids K->ρ2 i=ρ' i:=fun i hi=>if_neg (hKn i hi)
 have hn2:ρ2 n'=ρ' j:=if_pos rfl
 have hown:∀b,Own ρ2 ((n',cs)::K') b↔Own ρ' H' b:=by
  intro b
  constructor
  ·rintro⟨i,hi,hb⟩
   simp only[ids,List.map_cons,List.mem_cons,hid]at hi
   rcases hi with rfl|hi
   ·rw[hn2]at hb;exact⟨j,hjH,hb⟩
   ·rw[hK2 i hi]at hb;exact⟨i,hKH i hi,hb⟩
  ·rintro⟨i,hi,hb⟩
   have:=(ids_perm hp i).1 hi
   simp only[ids,List.map_cons,List.mem_cons]at this
   rcases this with rfl|hi
   ·exact⟨n',by simp[ids],by rw[hn2];exact hb⟩
   ·exact⟨i,by simp only[ids,List.map_cons,List.mem_cons,hid];exact .inr hi,hold i b hb⟩
 have hO:OX X ρ2 ((n',cs)::K')=OX X ρ' H':=by funext b;simp only[OX,hown]
 have hcar:∀(az:List AV) (vs:List Value),VRs ρ' w' (OX X ρ' H') az vs->VRs ρ2 w' (OX X ρ' H') az vs:=fun az vs hv=>VRs_carry ⟨hold,Nat.le_refl _,fun _ _ _=>rfl,fun b cs e f h=>⟨cs,h,rfl⟩,fun b _ ho=>ho⟩ _ _ hv
 refine⟨v,r1 j n' r,ρ2,(n',cs)::K',n'+4,rfl,⟨by omega,fun i hi h0=>?_,max m (n'+1),fun i hi=>?_⟩,⟨?_,?_,?_,q2.xold,?_⟩,?_,⟨fun i b hb=>hold i b (q4.rho i b hb),Nat.le_trans q4.le (by omega),q4.ext,fun b hb=>q4.own b ((hown b).1 hb)⟩,hq⟩
 ·show(if i=n' then ρ' j else ρ' i)=none
  rw[if_neg (by omega)];exact q1.2.1 i (by omega) h0
 ·show(if i=n' then ρ' j else ρ' i)=none
  rw[if_neg (by omega)];exact hm i (by omega)
 ·exact List.nodup_cons.2 ⟨fun hi=>hKn _ (by show _∈K.map _;rw[<-hid];exact hi) rfl,by show(K'.map _).Nodup;rw[hid];exact hnd.2⟩
 ·intro i k b hi hk h1 h2
  simp only[ids,List.map_cons,List.mem_cons,hid]at hi hk
  rcases hi with rfl|hi<;>rcases hk with rfl|hk
  ·rfl
  ·rw[hn2]at h1;rw[hK2 k hk]at h2
   have:=q2.inj j k b hjH (hKH k hk) h1 h2
   subst this;exact absurd hk hnd.1
  ·rw[hn2]at h2;rw[hK2 i hi]at h1
   have:=q2.inj i j b (hKH i hi) hjH h1 h2
   subst this;exact absurd hi hnd.1
  ·rw[hK2 i hi]at h1;rw[hK2 k hk]at h2
   exact q2.inj i k b (hKH i hi) (hKH k hk) h1 h2
 ·intro i b hi h1
  simp only[ids,List.map_cons,List.mem_cons,hid]at hi
  rcases hi with rfl|hi
  ·rw[hn2]at h1;exact q2.notX j b hjH h1
  ·rw[hK2 i hi]at h1;exact q2.notX i b (hKH i hi) h1
 ·intro i ds hm'
  rw[hO]
  rcases List.mem_cons.1 hm' with e|hm'
  ·cases e
   obtain⟨b,c',e,f,k1,k2,k3,k4,k5,k6⟩:=q2.obj j cs (hp.symm.mem_iff.1 (by simp))
   exact⟨b,c',e,f,hn2.trans k1,k2,⟨k3.1,.inl (k3.2.resolve_right (by omega))⟩,k4,k5,hcar _ _ k6⟩
  ·obtain⟨ds0,hm0,hds⟩:=r1K_mem hrel hm'
   obtain⟨b,c',e,f,k1,k2,k3,k4,k5,k6⟩:=q2.obj i ds0 (hp.symm.mem_iff.1 (by simp[hm0]))
   rcases hds with rfl|⟨hsl,rfl⟩
   ·exact⟨b,c',e,f,hold i b k1,k2,k3,k4,k5,hcar _ _ k6⟩
   ·rw[<-r1s_len j n' ds0]at k5 k6
    exact⟨b,c',e,f,hold i b k1,k2,k3,k4,k5,r1s_vr hρ _ _ hsl k6⟩
 ·rw[hO]
  exact r1_vr hρ _ _ hs q3
def cpA (t:Tr) (nm kd:AV):AV:=.agg [.bool t.dir,.int .i64 t.mode,.str t.data,nm,kd]
def CpR (t:Tr) (r:AV) (Z:Hp):Prop:=∃a:Nat,
 (t.kids=[]/\r=cpA t (.osl (2*a+1) 1 0 t.names.length) .nils/\Z=[(2*a+1,fl sc t.names)])\/
 (0<t.kids.length/\∃b:Nat,r=cpA t (.osl (2*a+1) 1 0 t.names.length) (.osl (2*b+1) 5 0 t.kids.length)/\Z=[(2*a+1,fl sc t.names),(2*b+1,fl trc t.kids)])
theorem cp_use {G:Prg} {f:Nat} {t:Tr} {H:Hp} {n:Nat} {Q:CPost} (h:DC G f [.agg (tcs t)] [] (CpR t))
  (q1:t.kids=[]->Q (cpA t (.osl n 1 0 t.names.length) .nils) ((n,fl sc t.names)::H) (n+4))
  (q2:0<t.kids.length->Q (cpA t (.osl n 1 0 t.names.length) (.osl (n+4) 5 0 t.kids.length)) ((n+4,fl trc t.kids)::(n,fl sc t.names)::H) (n+4+4)):TCall G f [.agg (tcs t)] H n Q:=by
 have h0:TCall G f [.agg (tcs t)] H n fun r H' n'=>n'=n/\∃Z',H'=H++Z'/\CpR t r Z':=by
  refine lend_ref ((h [] n trivial).mono ?_)
  rintro r H' n' _ ⟨rfl,Z',rfl,hc⟩
  exact⟨rfl,hc⟩
 refine tc_evn (tc_evn (h0.mono ?_))
 rintro r H' n' _ ⟨rfl,Z',rfl,a,hc⟩ hnd hn4
 rcases hc with ⟨hk,rfl,rfl⟩|⟨hk,b,rfl,rfl⟩
 ·refine .inr ⟨2*a+1,_,H,_,by omega,List.perm_append_comm,by simp[cpA,slp,slps],r1K_refl _ _ _,fun _ _=>.inl ?_⟩
  have e:r1 (2*a+1) n' (cpA t (.osl (2*a+1) 1 0 t.names.length) .nils)=cpA t (.osl n' 1 0 t.names.length) .nils:=by
   simp only[cpA,r1,r1s,Nat.beq_refl,cond_true]
  rw[e]
  exact q1 hk
 ·have hab:(2*b+1)≠2*a+1:=by
   intro e
   simp only[ids,List.map_append,List.map_cons,List.map_nil]at hnd
   have:=(List.nodup_append.1 hnd).2.1
   rw[e]at this
   simp at this
  refine .inr ⟨2*a+1,_,(2*b+1,fl trc t.kids)::H,_,by omega,?_,by simp[cpA,slp,slps],r1K_refl _ _ _,fun _ _=>.inr ⟨2*b+1,_,(n',fl sc t.names)::H,_,by omega,List.Perm.swap _ _ _,?_,r1K_refl _ _ _,?_⟩⟩
  ·exact(List.perm_append_comm (l₁:=H)).trans (by simp)
  ·simp[cpA,r1,r1s,slp,slps]
  ·have e:r1 (2*b+1) (n'+4) (r1 (2*a+1) n' (cpA t (.osl (2*a+1) 1 0 t.names.length) (.osl (2*b+1) 5 0 t.kids.length)))=cpA t (.osl n' 1 0 t.names.length) (.osl (n'+4) 5 0 t.kids.length):=by
    simp only[cpA,r1,r1s,Nat.beq_refl,cond_true]
    rw[nbq hab]
    simp only[cond_false,Nat.beq_refl,cond_true]
    rw[nbq (show n'≠2*b+1 by omega)]
    rfl
   rw[e]
   exact q2 hk
mutual
theorem od_pur:∀a:AV,pur a=true->od a
 |.osl ..,h=>by simp[pur]at h
 |.ocl ..,h=>by simp[pur]at h
 |.ptr ..,h=>by simp[pur]at h
 |.agg az,h=>by simp only[pur,od]at*;exact ods_pur az h
 |.tup az,h=>by simp only[pur,od]at*;exact ods_pur az h
 |.fn _ az,h=>by simp only[pur,od]at*;exact ods_pur az h
 |.pat az,h=>by simp only[pur,od]at*;exact ods_pur az h
 |.sl _ es,h=>by simpa only[pur,od]using h
 |.int ..,_=>trivial
 |.bool _,_=>trivial
 |.str _,_=>trivial
 |.raw _,_=>trivial
 |.nils,_=>trivial
 |.nilp,_=>trivial
 |.dead,_=>trivial
theorem ods_pur:∀az:List AV,purs az=true->ods az
 |[],_=>trivial
 |a::az,h=>by
  simp only[purs,Bool.and_eq_true]at h
  exact⟨od_pur a h.1,ods_pur az h.2⟩
end
theorem ods_flT (X:List Tr):ods (fl trc X):=ods_fl (fun t=>ods_pur _ (purs_trc t)) X
theorem rowT_get (X:List Tr) (k:Nat) (hk:k<X.length):((fl trc X).drop (0+k*5)).take 5=tcs (X.getD k default):=by
 have hl:∀x:Tr,(trc x).length=5:=fun x=>by rw[trc_eq];rfl
 rw[Nat.zero_add,fl_drop hl,List.drop_eq_getElem_cons hk]
 have:fl trc (X[k]::X.drop (k+1))=trc X[k]++fl trc (X.drop (k+1)):=by unfold fl;rw[List.map_cons,List.flatten_cons]
 rw[this,List.take_left' (hl _),show X.getD k default=X[k] by simp[List.getD,hk]]
 exact trc_eq _
theorem rowT_set (X:List Tr) (k:Nat) (y:Tr) (hk:k<X.length):(fl trc X).take (0+k*5)++tcs y++(fl trc X).drop (0+k*5+5)=fl trc (X.set k y):=by
 have hl:∀x:Tr,(trc x).length=5:=fun x=>by rw[trc_eq];rfl
 rw[Nat.zero_add,fl_take hl,show k*5+5=(k+1)*5 by omega,fl_drop hl,set_split X k hk,show tcs y=trc y from(trc_eq y).symm]
 rw[show X.take k++y::X.drop (k+1)=X.take k++[y]++X.drop (k+1) by simp,fl_app,fl_app,fl_one]
theorem Ws_app':∀(a b:List Tr),Tr.Ws (a++b)=Tr.Ws a+Tr.Ws b
 |[],b=>by simp[Tr.Ws]
 |x::a,b=>by simp only[List.cons_append,Tr.Ws,Ws_app' a b];omega
theorem Ws_set (X:List Tr) (k:Nat) (y:Tr) (hk:k<X.length):Tr.Ws (X.set k y)+(X.getD k default).W=Tr.Ws X+y.W:=by
 conv=>rhs;rw[get_split X k hk default]
 rw[set_split X k hk,Ws_app',Ws_app']
 simp only[Tr.Ws];omega
theorem leas_pre:∀(a:List AV) {b c:List AV},leas b c->leas (a++b) (a++c)
 |[],b,c,h=>h
 |x::a,b,c,h=>by simp only[List.cons_append,leas];exact⟨lea_refl x,leas_pre a h⟩
theorem lea_zero (X:List Tr):leas (fl trc X++[.bool false,.int .i64 0,.str [],.nils,.nils]) (fl trc (X++[.none])):=by
 rw[fl_app,fl_one,trc_none]
 exact leas_pre _ (by simp[leas,lea])
def OpR (X:Str) (r:AV) (Z:Hp):Prop:=∃(j:Nat) (b:Str),r=.ptr (2*j+1) 0/\Z=[(2*j+1,rdc b 0)]/\b.length<=2000
theorem op_use {G:Prg} {f:Nat} {X:Str} {arg:AV} {H:Hp} {n:Nat} {Q:CPost} (h:DC G f [arg] [] (OpR X))
  (q:∀b:Str,b.length<=2000->Q (.ptr n 0) ((n,rdc b 0)::H) (n+4)):TCall G f [arg] H n Q:=by
 have h0:TCall G f [arg] H n fun r H' n'=>n'=n/\∃Z',H'=H++Z'/\OpR X r Z':=by
  refine lend_ref ((h [] n trivial).mono ?_)
  rintro r H' n' _ ⟨rfl,Z',rfl,hc⟩
  exact⟨rfl,hc⟩
 refine tc_evn (h0.mono ?_)
 rintro r H' n' _ ⟨rfl,Z',rfl,j,b,rfl,rfl,hb⟩ hnd hn4
 refine .inr ⟨2*j+1,_,H,_,by omega,List.perm_append_comm,by simp[slp],r1K_refl _ _ _,?_⟩
 rw[show r1 (2*j+1) n' (.ptr (2*j+1) 0)=.ptr n' 0 by simp only[r1,Nat.beq_refl,cond_true]]
 exact q b hb
open Go Go.Proofs
set_option maxRecDepth 100000
theorem marksOf_ok (t:Tr) (c:Cl) (hw:t.W<2^40) (hwf:t.wf=true) (h1:wS c.path<2^40) (h2:wS c.to<2^40):PE G 19 [.agg (tcs t),.agg (clc c)] (.sl 2 ((mksOf t c).map mkc)):=by
 have hl1:=wS_len c.path;have hl2:=wS_len c.to
 refine Pe Tryz.func19 ?_
 refine Rr (Fn2 [] [(3,.ptr 4 0),(2,.ptr 0 0)] [(4,clc c),(0,tcs t)] 8 (Sq fun K2 hK2=>?_))
 refine Rr (Pc1 2 [(8,.agg (clc c))] 9 (0+5<=5/\0<5) dc (isCall_ok c om om) (Cn0 (!(callOk c)) [2,3] [] ⟨fun hc4 c4=>?_,fun hc4 c4=>?_⟩))
 refine Rr (Fn3 [] [(4,.osl 8 2 0 0)] [(8,[]),(4,clc c),(0,tcs t)] 12 ((0*2<=16777216)/\·) ⟨dc,Fz 8 2 0 ([]) ([]) [(4,.osl 8 2 0 0)] [] [] kr dc (Rt (.sl 2 ([].map mkc)) (fin_lea ?_))⟩)
 rw[show mksOf t c=[] by unfold mksOf;simp only[hc4,Bool.not_true,Bool.not_false,cond_true,cond_false]];exact lea_refl _
 refine Sk (Jn (hK2 (Kp [2,3] (Rr (Fn3 [2,3] [(5,.osl 8 2 0 1)] [(8,[pth c.path,.bool false]),(4,clc c),(0,tcs t)] 12 (((1:Nat)≠0)/\(1+1<=5/\1<5)/\(1*2<=16777216)/\·) ⟨dc,dc,dc,Sq fun K7 hK7=>?_⟩)))))
 refine Rr (Cn1 (decide ((c.kind:Int)=(5:Int))) [2,3,5] [] (((1:Nat)≠0)/\(0+1<=5/\0<5)/\Ki/\·) ⟨dc,dc,rfl,fun hc9 c9=>?_,fun hc9 c9=>?_⟩)
 refine Rr (Bc1 3 [(20,pth c.path),(19,.ptr 4 1)] 48 [.ptr 0 0,pth c.path] 21 (((1:Nat)≠0)/\(1+1<=5/\1<5)/\·) ⟨dc,dc,Tz 0 1 5 ([[.bool t.dir],[.i t.mode],[.str t.data],[pth t.names],[.sl 5 (t.kids.map trc)]]) (tcs t) [.pat (tcs t),pth c.path] [(8,[pth c.path,.bool false]),(4,clc c)] [true,true] kr (by first|decide|simp) (PE.use (atp_ok t c.path om (by assumption) om) ?_)⟩)
 unfold atp
 rcases hf:tat t c.path with _|x
 dsimp only
 refine Ke (Fn0 [3] [(6,.nilp)] (Rr (Fn1 [3] [(7,.bool false)] ((∃e,TK.ptr 26=TK.ptr e)/\·) ⟨⟨_,rfl⟩,Rb (fun h=>Jn (hK7 h)) ?_⟩)))
 refine Fn3 [] [(5,.osl 12 2 0 2)] [(12,[pth c.path,.bool false,pth c.to,.bool false]),(8,[pth c.path,.bool false]),(4,clc c)] 16 (((1:Nat)≠0)/\(1+1<=5/\1<5)/\((1:Nat)≠0)/\(2+1<=5/\2<5)/\(2*2<=16777216)/\·) ⟨dc,dc,dc,dc,dc,Rr (Bc0 2 [(39,.osl 12 2 0 2)] 18 [.osl 12 2 0 2] 40 (Tz 12 2 2 ([[pth c.path,.bool false],[pth c.to,.bool false]]) ([pth c.path,.bool false,pth c.to,.bool false]) [.sl 2 ([Mk.mk c.path false,Mk.mk c.to false].map mkc)] [(8,[pth c.path,.bool false]),(4,clc c)] [true,true] kr (by first|decide|simp) (PE.use (cloneM_ok [Mk.mk c.path false,Mk.mk c.to false] (by intro q hq;simp only[List.mem_cons,List.not_mem_nil,or_false]at hq;first|(subst hq;assumption)|(rcases hq with rfl|rfl<;>assumption)) (by simp)) ?_)))⟩
 refine Ke (Fn0 [] [(4,.sl 2 ([Mk.mk c.path false,Mk.mk c.to false].map mkc))] (Rt (.sl 2 ([Mk.mk c.path false,Mk.mk c.to false].map mkc)) (fin_lea ?_)))
 rw[show mksOf t c=[Mk.mk c.path false,Mk.mk c.to false] by unfold mksOf;unfold dirAt;simp only[hc4,hc9,Bool.not_true,Bool.not_false,cond_true,cond_false,hf]];exact lea_refl _
 dsimp only
 have hxW:=W_tat _ _ _ hf
 have hxd:=data_W x
 have hxn:=wS_len x.names
 have hxE:=W_eq x
 refine Ke (Fn0 [3] [(6,.pat (tcs x))] (Rr (Fn1 [3] [(7,.bool x.dir)] ((∃e,TK.ptr 26=TK.ptr e)/\((1:Nat)≠0)/\(1<=5/\0<5)/\·) ⟨⟨_,rfl⟩,dc,dc,Rb (fun h=>Jn (hK7 h)) ?_⟩)))
 refine Fn3 [] [(5,.osl 12 2 0 2)] [(12,[pth c.path,.bool x.dir,pth c.to,.bool x.dir]),(8,[pth c.path,.bool false]),(4,clc c)] 16 (((1:Nat)≠0)/\(1+1<=5/\1<5)/\((1:Nat)≠0)/\(2+1<=5/\2<5)/\(2*2<=16777216)/\·) ⟨dc,dc,dc,dc,dc,Rr (Bc0 2 [(39,.osl 12 2 0 2)] 18 [.osl 12 2 0 2] 40 (Tz 12 2 2 ([[pth c.path,.bool x.dir],[pth c.to,.bool x.dir]]) ([pth c.path,.bool x.dir,pth c.to,.bool x.dir]) [.sl 2 ([Mk.mk c.path x.dir,Mk.mk c.to x.dir].map mkc)] [(8,[pth c.path,.bool false]),(4,clc c)] [true,true] kr (by first|decide|simp) (PE.use (cloneM_ok [Mk.mk c.path x.dir,Mk.mk c.to x.dir] (by intro q hq;simp only[List.mem_cons,List.not_mem_nil,or_false]at hq;first|(subst hq;assumption)|(rcases hq with rfl|rfl<;>assumption)) (by simp)) ?_)))⟩
 refine Ke (Fn0 [] [(4,.sl 2 ([Mk.mk c.path x.dir,Mk.mk c.to x.dir].map mkc))] (Rt (.sl 2 ([Mk.mk c.path x.dir,Mk.mk c.to x.dir].map mkc)) (fin_lea ?_)))
 rw[show mksOf t c=[Mk.mk c.path x.dir,Mk.mk c.to x.dir] by unfold mksOf;unfold dirAt;simp only[hc4,hc9,Bool.not_true,Bool.not_false,cond_true,cond_false,hf]];exact lea_refl _
 refine Sk (Jn (hK7 (Kp [5] (Rr (Bc0 2 [(39,.osl 8 2 0 1)] 18 [.osl 8 2 0 1] 40 (Tz 8 2 1 ([[pth c.path,.bool false]]) ([pth c.path,.bool false]) [.sl 2 ([Mk.mk c.path false].map mkc)] [(4,clc c),(0,tcs t)] [true,true] kr (by first|decide|simp) (PE.use (cloneM_ok [Mk.mk c.path false] (by intro q hq;simp only[List.mem_cons,List.not_mem_nil,or_false]at hq;first|(subst hq;assumption)|(rcases hq with rfl|rfl<;>assumption)) (by simp)) ?_)))))))
 refine Ke (Fn0 [] [(4,.sl 2 ([Mk.mk c.path false].map mkc))] (Rt (.sl 2 ([Mk.mk c.path false].map mkc)) (fin_lea ?_)))
 rw[show mksOf t c=[Mk.mk c.path false] by unfold mksOf;simp only[hc4,hc9,Bool.not_true,Bool.not_false,cond_true,cond_false]];exact lea_refl _
open Go Go.Proofs
set_option maxRecDepth 100000
theorem less11_ok (x y:List Str) (hx:x.length<2^40) (hy:y.length<2^40):PE G 27 [pth x,pth y] (.bool (decide (cmpP x y<(0:Int)))):=by
 refine Pe Tryz.func27 ?_
 refine Rr (Fn0 [0,1] [] (Sq fun K2 hK2=>?_))
 refine Rr (Fn0 [0,1] [(5,.i 0)] (Bl (h_l (fun(k:Nat)=>([(0,pth x),(1,pth y),(5,.i k)]:Fr)) (fun(k:Nat)=>([]:Hp)) (fun(k:Nat) cn=>(k<=x.length/\k<=y.length/\cmpP x y=cmpP (x.drop k) (y.drop k))/\cn=0) (fun(k:Nat)=>x.length-k) 0 kr ?_ ?_ ?_ ?_)))
 refine⟨?_,rfl⟩;exact⟨Nat.zero_le _,Nat.zero_le _,rfl⟩
 exact⟨kr,kr,kr,trivial⟩
 exact(List.nil_sublist _)
 rintro k n1 hI
 (try dsimp only at hI)
 obtain⟨⟨hi1,hi3,hi2⟩,rfl⟩:=hI
 refine Sq fun K4 hK4=>?_
 refine Rm 15 ((decide ((k:Int)<(x.length:Int)))&&(decide ((k:Int)<(y.length:Int)))) [0,1,5] ?_ ?_
 refine Av0 (r:=.i ((x.map (fun s=>[AV.str s])).length:Nat)) (v:=.i x.length) 3 8 [(7,pth x),(6,.i k)] lm (An1 2 [(10,.bool (decide ((k:Int)<(x.length:Int)))),(9,.bool (decide ((k:Int)<(x.length:Int))))] (Ki/\·) ⟨rfl,Rg (fun hg6 g6=>?_) (fun hg6 g6=>?_)⟩)
 refine Av0 (r:=.i ((y.map (fun s=>[AV.str s])).length:Nat)) (v:=.i y.length) 3 13 [(12,pth y),(11,.i k)] lm (Mn1 (decide ((k:Int)<(y.length:Int))) (Ki/\·) ⟨rfl,(by rw[hg6];rfl)⟩)
 refine Mn0 false (by rw[hg6];rfl)
 refine Cc ((decide ((k:Int)<(x.length:Int)))&&(decide ((k:Int)<(y.length:Int)))) (fun hc7 c7=>?_) fun hc7 c7=>?_
 refine Sk (Jn (hK4 (Kp [0,1,5] (Sq fun K8 hK8=>?_))))
 refine Bl (Qr [0,0,3,7,0,0,48,112,255] [(0,[]),(1,[]),(2,[]),(3,[]),(4,[]),(5,[]),(6,[]),(7,[]),(8,[])] (qAv1 3 20 [(19,.i k),(18,pth x)] (congrArg AV.pat (mg_str x k om)) ((1=1/\(0:Int)<=(k:Int)/\(k:Int)<((x.map (fun s=>[AV.str s])).length:Int))/\·) ⟨⟨rfl,om,lmo⟩,qAv1 4 24 [(23,.i k),(22,pth y),(21,.str (x.getD k default))] (congrArg AV.pat (mg_str y k om)) ((1<=1/\0<1)/\(1=1/\(0:Int)<=(k:Int)/\(k:Int)<((y.map (fun s=>[AV.str s])).length:Int))/\·) ⟨dc,⟨rfl,om,lmo⟩,qCn1 (!((x.getD k default)==(y.getD k default))) [0,1,5] [] ((1<=1/\0<1)/\·) ⟨dc,fun hc10 c10=>?_,fun hc10 c10=>?_⟩⟩⟩))
 refine Qr [0,0,3,7,0,0,48,112,255,511] [(0,[]),(1,[]),(2,[]),(3,[]),(4,[]),(5,[]),(6,[]),(7,[]),(8,[]),(9,[])] (qAv1 3 29 [(28,.i k),(27,pth x)] (congrArg AV.pat (mg_str x k om)) ((1=1/\(0:Int)<=(k:Int)/\(k:Int)<((x.map (fun s=>[AV.str s])).length:Int))/\·) ⟨⟨rfl,om,lmo⟩,qAv1 4 33 [(32,.i k),(31,pth y),(30,.str (x.getD k default))] (congrArg AV.pat (mg_str y k om)) ((1<=1/\0<1)/\(1=1/\(0:Int)<=(k:Int)/\(k:Int)<((y.map (fun s=>[AV.str s])).length:Int))/\·) ⟨dc,⟨rfl,om,lmo⟩,qFn1 [] [(4,.bool (blt (x.getD k default) (y.getD k default)))] ((1<=1/\0<1)/\·) ⟨dc,Rt (.bool (blt (x.getD k default) (y.getD k default))) ?_⟩⟩⟩)
 refine fin_lea ?_
 rw[hi2,cmpP_hd om om (fun h=>by have h2:=hc10;rw[cmpS_eq h]at h2;simp at h2),show decide (cmpS (x.getD k default) (y.getD k default)<0)=blt (x.getD k default) (y.getD k default) by rw[Bool.eq_iff_iff,decide_eq_true_eq];exact cmpS_neg];exact lea_refl _
 refine Sk (Bn (Jn (hK8 (Kp [0,1,5] (Rn (Av1 2 17 [(16,.i k)] (cI (wn1 k om)) (Ki/\·) ⟨rfl,Gn0 [(5,.i ((k+1:Nat):Int))] (nk_n ?_)⟩))))))
 refine Lr (k+1) [] 0 [(0,pth x),(1,pth y),(5,.i ((k+1:Nat):Int))] [] [] ?_ ?_ kr kr
 (try dsimp only);omega
 refine⟨?_,rfl⟩;(try dsimp only);exact⟨om,om,by rw[hi2];exact cmpP_drop om om (by have h:=c10;rw[show x.getD k default=y.getD k default by simpa using h];exact cmpS_self _)⟩
 refine Xt (Jx (Lx (Bh (Jn (hK2 (Kp [0,1] (Rr (Av0 (r:=.i ((x.map (fun s=>[AV.str s])).length:Nat)) (v:=.i x.length) 2 37 [(36,pth x)] lm (Av0 (r:=.i ((y.map (fun s=>[AV.str s])).length:Nat)) (v:=.i y.length) 2 39 [(38,pth y)] lm (Fn1 [] [(4,.bool (decide ((x.length:Int)<(y.length:Int))))] (Ki/\·) ⟨rfl,?_⟩))))))))))
 refine Rt (.bool (decide ((x.length:Int)<(y.length:Int)))) (fin_lea ?_)
 have hr:decide (cmpP x y<0)=(decide ((x.length:Int)<(y.length:Int))):=by
   rw[hi2]
   rcases Nat.lt_or_ge k x.length with h|h
   · rw[cmpP_gt h om];exact decide_eq_decide.2 ⟨fun h=>by omega,fun h=>by omega⟩
   · rcases Nat.lt_or_ge k y.length with h2|h2
     · rw[cmpP_lt h h2];exact decide_eq_decide.2 ⟨fun h=>by omega,fun h=>by omega⟩
     · rw[cmpP_en h h2];exact decide_eq_decide.2 ⟨fun h=>by omega,fun h=>by omega⟩
 rw[hr];exact lea_refl _
theorem same11_ok (p q:List Str) (hp:p.length<2^40) (hq:q.length<2^40):PE G 114 [pth p,pth q] (.bool (p==q)):=by
 refine Pe Tryz.func114 ?_
 refine Rr (Fn0 [0,1] [] (Rm 4 ((decide ((p.length:Int)=(q.length:Int)))&&(q.isPrefixOf p)) [] ?_ ?_))
 refine Av0 (r:=.i ((p.map (fun s=>[AV.str s])).length:Nat)) (v:=.i p.length) 2 6 [(5,pth p)] lm (Av0 (r:=.i ((q.map (fun s=>[AV.str s])).length:Nat)) (v:=.i q.length) 2 8 [(7,pth q)] lm (An1 2 [(10,.bool (decide ((p.length:Int)=(q.length:Int)))),(9,.bool (decide ((p.length:Int)=(q.length:Int))))] (Ki/\·) ⟨rfl,Rg (fun hg3 g3=>?_) (fun hg3 g3=>?_)⟩))
 refine Pc0 3 [(12,pth q),(11,pth p)] 13 (l2Within_ok p q om om) (Mn0 (q.isPrefixOf p) (by rw[hg3];rfl))
 refine Mn0 false (by rw[hg3];rfl)
 refine Rt (.bool ((decide ((p.length:Int)=(q.length:Int)))&&(q.isPrefixOf p))) (fin_lea ?_)
 have hr:(p==q)=((decide ((p.length:Int)=(q.length:Int)))&&(q.isPrefixOf p)):=by
   rw[Bool.eq_iff_iff,beq_iff_eq]
   simp only[Bool.and_eq_true,decide_eq_true_eq,List.isPrefixOf_iff_prefix]
   exact⟨fun e=>by subst e;exact⟨rfl,List.prefix_refl _⟩,fun h=>(h.2.eq_of_length (by have:=h.1;omega)).symm⟩
 rw[hr];exact lea_refl _
theorem sMarkOk_ok (m:Mk) (hm:wS m.path<2^40):PE G 26 [.agg (mkc m)] (.bool (mkOk m)):=by
 have hl:=wS_len m.path
 refine Pe Tryz.func26 ?_
 refine Rr (Fn2 [] [(1,.ptr 0 0)] [(0,mkc m)] 4 (Sq fun K2 hK2=>?_))
 refine Rr (Av1 (r:=.i ((m.path.map (fun s=>[AV.str s])).length:Nat)) (v:=.i m.path.length) 3 5 [(4,pth m.path),(3,.ptr 0 0)] lm (((1:Nat)≠0)/\(0+1<=2/\0<2)/\·) ⟨dc,dc,Cn1 (decide ((m.path.length:Int)=0)) [1] [] (Ki/\·) ⟨rfl,fun hc4 c4=>?_,fun hc4 c4=>?_⟩⟩)
 refine Rr (Fn1 [] [(2,.bool m.sub)] (((1:Nat)≠0)/\(1+1<=2/\1<2)/\·) ⟨dc,dc,Rt (.bool m.sub) ?_⟩)
 · refine fin_lea ?_
   have hr:mkOk m=(m.sub):=by
     unfold mkOk pthOk inb
     rcases Nat.eq_zero_or_pos m.path.length with h0|h0
     · have e:=List.eq_nil_of_length_eq_zero h0
       first|(rw[e];simp;done)|omega
     · first|omega|(rw[show decide (0<m.path.length)=true from decide_eq_true h0,Bool.true_or,Bool.and_true];congr 1;rw[Bool.eq_iff_iff];simp only[Bool.and_eq_true,decide_eq_true_eq];omega)
   rw[hr];exact lea_refl _
 refine Sk (Jn (hK2 (Kp [1] (Rr (Bc1 3 [(10,pth m.path),(9,.ptr 0 0)] 61 [pth m.path] 11 (((1:Nat)≠0)/\(0+1<=2/\0<2)/\·) ⟨dc,dc,PE.use (l2PathOk_ok m.path om (fun s hs=>Nat.lt_trans (wS_mem hs) om)) (Ke ?_)⟩)))))
 refine Fn0 [] [(2,.bool (pthOk m.path 1))] (Rt (.bool (pthOk m.path 1)) ?_)
 · refine fin_lea ?_
   have hr:mkOk m=(pthOk m.path 1):=by
     unfold mkOk pthOk inb
     rcases Nat.eq_zero_or_pos m.path.length with h0|h0
     · have e:=List.eq_nil_of_length_eq_zero h0
       first|(rw[e];simp;done)|omega
     · first|omega|(rw[show decide (0<m.path.length)=true from decide_eq_true h0,Bool.true_or,Bool.and_true];congr 1;rw[Bool.eq_iff_iff];simp only[Bool.and_eq_true,decide_eq_true_eq];omega)
   rw[hr];exact lea_refl _
theorem sUnder_ok (l:List Mk) (p:List Str) (hl:∀m∈l,wS m.path<2^40) (hn:l.length<2^20) (hp:wS p<2^40):PE G 91 [.sl 2 (l.map mkc),pth p] (.bool (undM l p)):=by
 have hpl:=wS_len p
 refine Pe Tryz.func91 ?_
 refine Rr (Fn0 [0,1] [] (Sq fun K2 hK2=>?_))
 refine Rr (Fn0 [0,1] [(5,.i 0)] (Bl (h_l (fun(k:Nat)=>([(0,.sl 2 (l.map mkc)),(1,pth p),(5,.i k)]:Fr)) (fun(k:Nat)=>([]:Hp)) (fun(k:Nat) cn=>(k<=l.length/\undM (l.take k) p=false)/\cn=0) (fun(k:Nat)=>l.length-k) 0 kr ?_ ?_ ?_ ?_)))
 refine⟨?_,rfl⟩;exact⟨Nat.zero_le _,rfl⟩
 exact⟨kr,kr,kr,trivial⟩
 exact(List.nil_sublist _)
 rintro k n1 hI
 (try dsimp only at hI)
 obtain⟨⟨hi1,hi2⟩,rfl⟩:=hI
 refine Sq fun K4 hK4=>?_
 refine Rr (Av0 (r:=.i ((l.map mkc).length:Nat)) (v:=.i l.length) 3 8 [(7,.sl 2 (l.map mkc)),(6,.i k)] lm (Cn1 (decide ((k:Int)<(l.length:Int))) [0,1,5] [] (Ki/\·) ⟨rfl,fun hc6 c6=>?_,fun hc6 c6=>?_⟩))
 refine Sk (Jn (hK4 (Kp [0,1,5] (Sq fun K7 hK7=>?_))))
 refine Bl ?_
 have hgm:=hl _ (getD_mem l k default om);have hgl:=wS_len (l.getD k default).path
 refine Rm 25 (((l.getD k default).sub)&&(((l.getD k default).path).isPrefixOf p)) [0,1,5] ?_ ?_
 refine Av1 3 14 [(13,.i k),(12,.sl 2 (l.map mkc))] (congrArg AV.pat (mg_mk l k om)) ((2=2/\(0:Int)<=(k:Int)/\(k:Int)<((l.map mkc).length:Int))/\·) ⟨⟨rfl,om,lmo⟩,An1 3 [(17,.bool ((l.getD k default).sub)),(16,.bool ((l.getD k default).sub)),(15,.pat [.bool ((l.getD k default).sub)])] (((1:Nat)≠0)/\(1<=1/\0<1)/\·) ⟨dc,dc,Rg (fun hg9 g9=>?_) (fun hg9 g9=>?_)⟩⟩
 refine Av1 4 21 [(20,.i k),(19,.sl 2 (l.map mkc)),(18,pth p)] (congrArg AV.pat (mg_mk l k om)) ((2=2/\(0:Int)<=(k:Int)/\(k:Int)<((l.map mkc).length:Int))/\·) ⟨⟨rfl,om,lmo⟩,Bc1 3 [(23,pth ((l.getD k default).path)),(22,.pat (mkc (l.getD k default)))] 28 [pth p,pth ((l.getD k default).path)] 24 (((1:Nat)≠0)/\(1<=2/\0<2)/\·) ⟨dc,dc,PE.use (l2Within_ok p ((l.getD k default).path) om om) (Ke (Mn0 (((l.getD k default).path).isPrefixOf p) (by rw[hg9];rfl)))⟩⟩
 refine Mn0 false (by rw[hg9];rfl)
 refine Cc (((l.getD k default).sub)&&(((l.getD k default).path).isPrefixOf p)) (fun hc10 c10=>?_) fun hc10 c10=>?_
 refine Rr (Fn0 [] [(4,.bool true)] (Rt (.bool true) (fin_lea ?_)))
 rw[show undM l p=true from List.any_eq_true.2 ⟨_,getD_mem l k default om,hc10⟩];exact lea_refl _
 refine Sk (Bn (Jn (hK7 (Kp [0,1,5] (Rn (Av1 2 11 [(10,.i k)] (cI (wn1 k om)) (Ki/\·) ⟨rfl,Gn0 [(5,.i ((k+1:Nat):Int))] (nk_n ?_)⟩))))))
 refine Lr (k+1) [] 0 [(0,.sl 2 (l.map mkc)),(1,pth p),(5,.i ((k+1:Nat):Int))] [] [] ?_ ?_ kr kr
 (try dsimp only);omega
 refine⟨?_,rfl⟩;(try dsimp only);exact⟨om,by rw[take_snoc l k default om];simp only[undM,List.any_append,List.any_cons,List.any_nil,Bool.or_false]at hi2⊢;rw[hi2,hc10,Bool.or_false]⟩
 refine Xt (Jx (Lx (Bh (Jn (hK2 (Kp [] (Rr (Fn0 [] [(4,.bool false)] (Rt (.bool false) (fin_lea ?_))))))))))
 obtain rfl:k=l.length:=by omega
 rw[List.take_length]at hi2;rw[hi2];exact lea_refl _
theorem sMarked_ok (l:List Mk) (p:List Str) (hl:∀m∈l,wS m.path<2^40) (hn:l.length<2^20) (hp:wS p<2^40):PE G 92 [.sl 2 (l.map mkc),pth p] (.bool (mrkM l p)):=by
 have hpl:=wS_len p
 refine Pe Tryz.func92 ?_
 refine Rr (Fn0 [0,1] [] (Sq fun K2 hK2=>?_))
 refine Rr (Fn0 [0,1] [(5,.i 0)] (Bl (h_l (fun(k:Nat)=>([(0,.sl 2 (l.map mkc)),(1,pth p),(5,.i k)]:Fr)) (fun(k:Nat)=>([]:Hp)) (fun(k:Nat) cn=>(k<=l.length/\mrkM (l.take k) p=false)/\cn=0) (fun(k:Nat)=>l.length-k) 0 kr ?_ ?_ ?_ ?_)))
 refine⟨?_,rfl⟩;exact⟨Nat.zero_le _,rfl⟩
 exact⟨kr,kr,kr,trivial⟩
 exact(List.nil_sublist _)
 rintro k n1 hI
 (try dsimp only at hI)
 obtain⟨⟨hi1,hi2⟩,rfl⟩:=hI
 refine Sq fun K4 hK4=>?_
 refine Rr (Av0 (r:=.i ((l.map mkc).length:Nat)) (v:=.i l.length) 3 8 [(7,.sl 2 (l.map mkc)),(6,.i k)] lm (Cn1 (decide ((k:Int)<(l.length:Int))) [0,1,5] [] (Ki/\·) ⟨rfl,fun hc6 c6=>?_,fun hc6 c6=>?_⟩))
 refine Sk (Jn (hK4 (Kp [0,1,5] (Sq fun K7 hK7=>?_))))
 refine Bl ?_
 have hgm:=hl _ (getD_mem l k default om);have hgl:=wS_len (l.getD k default).path
 refine Rm 34 ((l.getD k default).path==p||((l.getD k default).sub&&(l.getD k default).path.isPrefixOf p)) [0,1,5] ?_ ?_
 refine Av1 3 14 [(13,.i k),(12,.sl 2 (l.map mkc))] (congrArg AV.pat (mg_mk l k om)) ((2=2/\(0:Int)<=(k:Int)/\(k:Int)<((l.map mkc).length:Int))/\·) ⟨⟨rfl,om,lmo⟩,Bc1 4 [(17,pth p),(16,pth ((l.getD k default).path)),(15,.pat (mkc (l.getD k default)))] 114 [pth ((l.getD k default).path),pth p] 18 (((1:Nat)≠0)/\(1<=2/\0<2)/\·) ⟨dc,dc,PE.use (same11_ok ((l.getD k default).path) p om om) (Ke (An0 1 [(19,.bool (((l.getD k default).path)==p))] ?_))⟩⟩
 refine Rg (fun hg9 g9=>?_) (fun hg9 g9=>?_)
 refine Mn0 true (by first|(simp_all;done)|(rw[Bool.eq_iff_iff];simp_all;done))
 refine Av1 3 22 [(21,.i k),(20,.sl 2 (l.map mkc))] (congrArg AV.pat (mg_mk l k om)) ((2=2/\(0:Int)<=(k:Int)/\(k:Int)<((l.map mkc).length:Int))/\·) ⟨⟨rfl,om,lmo⟩,An1 3 [(25,.bool ((l.getD k default).sub)),(24,.bool ((l.getD k default).sub)),(23,.pat [.bool ((l.getD k default).sub)])] (((1:Nat)≠0)/\(1<=1/\0<1)/\·) ⟨dc,dc,Rg (fun hg10 g10=>?_) (fun hg10 g10=>?_)⟩⟩
 refine Av1 4 29 [(28,.i k),(27,.sl 2 (l.map mkc)),(26,pth p)] (congrArg AV.pat (mg_mk l k om)) ((2=2/\(0:Int)<=(k:Int)/\(k:Int)<((l.map mkc).length:Int))/\·) ⟨⟨rfl,om,lmo⟩,Bc1 3 [(31,pth ((l.getD k default).path)),(30,.pat (mkc (l.getD k default)))] 28 [pth p,pth ((l.getD k default).path)] 32 (((1:Nat)≠0)/\(1<=2/\0<2)/\·) ⟨dc,dc,PE.use (l2Within_ok p ((l.getD k default).path) om om) (Ke (Mn0 (((l.getD k default).path).isPrefixOf p) (by first|(simp_all;done)|(rw[Bool.eq_iff_iff];simp_all;done))))⟩⟩
 refine Mn0 false (by first|(simp_all;done)|(rw[Bool.eq_iff_iff];simp_all;done))
 refine Cc ((l.getD k default).path==p||((l.getD k default).sub&&(l.getD k default).path.isPrefixOf p)) (fun hc11 c11=>?_) fun hc11 c11=>?_
 refine Rr (Fn0 [] [(4,.bool true)] (Rt (.bool true) (fin_lea ?_)))
 have hr:mrkM l p=true:=by
   have hm:=getD_mem l k default om;have h:=hc11
   unfold mrkM undM;rw[Bool.or_eq_true,List.any_eq_true,List.any_eq_true]
   rw[Bool.or_eq_true]at h
   exact h.elim (fun h=>.inr ⟨_,hm,h⟩) (fun h=>.inl ⟨_,hm,h⟩)
 rw[hr];exact lea_refl _
 refine Sk (Bn (Jn (hK7 (Kp [0,1,5] (Rn (Av1 2 11 [(10,.i k)] (cI (wn1 k om)) (Ki/\·) ⟨rfl,Gn0 [(5,.i ((k+1:Nat):Int))] (nk_n ?_)⟩))))))
 refine Lr (k+1) [] 0 [(0,.sl 2 (l.map mkc)),(1,pth p),(5,.i ((k+1:Nat):Int))] [] [] ?_ ?_ kr kr
 (try dsimp only);omega
 refine⟨?_,rfl⟩;(try dsimp only);exact⟨om,by rw[take_snoc l k default om];simp only[mrkM,undM,List.any_append,List.any_cons,List.any_nil,Bool.or_false,Bool.or_eq_false_iff]at hi2⊢;have h:=hc11;simp_all⟩
 refine Xt (Jx (Lx (Bh (Jn (hK2 (Kp [] (Rr (Fn0 [] [(4,.bool false)] (Rt (.bool false) (fin_lea ?_))))))))))
 obtain rfl:k=l.length:=by omega
 rw[List.take_length]at hi2;rw[hi2];exact lea_refl _
def stepA (l:List Mk) (k:Nat):Bool:=mkOk (l.getD k default)&&(decide (k=0)||decide (cmpP (l.getD (k-1) default).path (l.getD k default).path<0))
theorem stepA_M (l:List Mk) (k:Nat):stepM l k=(stepA l k&& !undM (l.take k) (l.getD k default).path):=by unfold stepM stepA;rw[Bool.and_assoc]
theorem trOk_no {l:List Mk} {k:Nat} (hk:k<l.length) (h:stepM l k=false):trOk l=false:=by
  unfold trOk;rw[Bool.and_eq_false_iff];left;rw[List.all_eq_false];exact⟨k,List.mem_range.2 hk,by rw[h];simp⟩
theorem undM_at {l:List Mk} {j k:Nat} {p:List Str} (hj:j<k) (hk:k<=l.length) (h:((l.getD j default).sub&&(l.getD j default).path.isPrefixOf p)=true):undM (l.take k) p=true:=by
  unfold undM;rw[List.any_eq_true]
  exact⟨l.getD j default,by rw[List.mem_take_iff_getElem];exact⟨j,om,by simp[List.getD,show j<l.length by omega]⟩,h⟩
theorem undM_snoc {l:List Mk} {j:Nat} {p:List Str} (hj:j<l.length) (h0:undM (l.take j) p=false) (h:((l.getD j default).sub&&(l.getD j default).path.isPrefixOf p)=false):undM (l.take (j+1)) p=false:=by
  rw[take_snoc l j default hj,undM_app,h0,Bool.false_or];unfold undM;rw[List.any_cons,List.any_nil,h];rfl
theorem sTrailOk_ok (l:List Mk) (hl:∀m∈l,wS m.path<2^40) (hn:l.length<2^20):PE G 9 [.sl 2 (l.map mkc)] (.bool (trOk l)):=by
 refine Pe Tryz.func9 ?_
 refine Rr (Fn0 [0] [] (Sq fun K2 hK2=>?_))
 refine Rr (Fn0 [0] [(3,.i 0)] (Bl (h_l (fun(k:Nat)=>([(0,.sl 2 (l.map mkc)),(3,.i k)]:Fr)) (fun(k:Nat)=>([]:Hp)) (fun(k:Nat) cn=>(k<=l.length/\(List.range k).all (stepM l)=true)/\cn=0) (fun(k:Nat)=>l.length-k) 0 kr ?_ ?_ ?_ ?_)))
 refine⟨?_,rfl⟩;exact⟨Nat.zero_le _,rfl⟩
 exact⟨kr,kr,trivial⟩
 exact(List.nil_sublist _)
 rintro k n1 hI
 (try dsimp only at hI)
 obtain⟨⟨hi1,hi2⟩,rfl⟩:=hI
 refine Sq fun K4 hK4=>?_
 refine Rr (Av0 (r:=.i ((l.map mkc).length:Nat)) (v:=.i l.length) 3 7 [(6,.sl 2 (l.map mkc)),(5,.i k)] lm (Cn1 (decide ((k:Int)<(l.length:Int))) [0,3] [] (Ki/\·) ⟨rfl,fun hc6 c6=>?_,fun hc6 c6=>?_⟩))
 refine Sk (Jn (hK4 (Kp [0,3] (Sq fun K7 hK7=>?_))))
 refine Bl (Sq fun K8 hK8=>?_)
 have hgm:=hl _ (getD_mem l k default om);have hgl:=wS_len (l.getD k default).path;have hgm2:=hl _ (getD_mem l ((k:Int)-1).toNat default om);have hgl2:=wS_len (l.getD ((k:Int)-1).toNat default).path;have htk:(l.take k).length<=l.length:=by rw[List.length_take];omega
 refine Qm [0,0,3,7,15,31,63,127,255,511,1023,1023,3071,8191,16383,32767,1023,1023,197631,459775,984063,2097151,4194303,8388607,16777215] [(0,[]),(1,[]),(2,[]),(3,[]),(4,[]),(5,[]),(6,[]),(7,[]),(8,[]),(9,[]),(10,[]),(11,[]),(12,[]),(13,[]),(14,[]),(15,[]),(16,[]),(17,[]),(18,[]),(19,[]),(20,[]),(21,[]),(22,[]),(23,[]),(24,[])] 35 (!stepA l k) [0,3] ?_ ?_
 refine qAv1 3 13 [(12,.i k),(11,.sl 2 (l.map mkc))] (congrArg AV.pat (mg_mk l k om)) ((2=2/\(0:Int)<=(k:Int)/\(k:Int)<((l.map mkc).length:Int))/\·) ⟨⟨rfl,om,lmo⟩,qBc1 2 [(14,.agg (mkc (l.getD k default)))] [] 26 [.agg (mkc (l.getD k default))] 15 ((2<=2/\0<2)/\·) ⟨dc,PE.use (sMarkOk_ok (l.getD k default) om) (Kq (p:=(True)) trivial (qAn0 2 [(17,.bool (!(mkOk (l.getD k default)))),(16,.bool (!(mkOk (l.getD k default))))] ?_))⟩⟩
 refine Qg (fun hg10 g10=>?_) (fun hg10 g10=>?_)
 refine qMn0 true (by unfold stepA;first|(simp_all;done)|(rw[Bool.eq_iff_iff];simp_all;done)|(rw[Bool.eq_iff_iff];simp_all;omega)|(simp_all;omega))
 refine qAn1 3 [(20,.bool (decide ((0:Int)<((k:Int):Int)))),(19,.bool (decide ((0:Int)<((k:Int):Int)))),(18,.i k)] (Ki/\·) ⟨rfl,Qg (fun hg11 g11=>?_) (fun hg11 g11=>?_)⟩
 refine qAv1 (r:=.i (IntKind.i64.wrap ((k:Int)-1))) (v:=.i ((k:Int)-1)) 3 23 [(22,.i k),(21,.sl 2 (l.map mkc))] (cI (wrap64 om om)) (Ki/\·) ⟨rfl,qAv1 1 24 [] (congrArg AV.pat (mg_mk l (((k:Int)-1).toNat) om)) ((2=2/\(0:Int)<=((k:Int)-1)/\((k:Int)-1)<((l.map mkc).length:Int))/\·) ⟨⟨rfl,om,lmo⟩,qAv1 5 29 [(28,.i k),(27,.sl 2 (l.map mkc)),(26,pth ((l.getD (((k:Int)-1).toNat) default).path)),(25,.pat (mkc (l.getD (((k:Int)-1).toNat) default)))] (congrArg AV.pat (mg_mk l k om)) (((1:Nat)≠0)/\(1<=2/\0<2)/\(2=2/\(0:Int)<=(k:Int)/\(k:Int)<((l.map mkc).length:Int))/\·) ⟨dc,dc,⟨rfl,om,lmo⟩,qBc1 3 [(31,pth ((l.getD k default).path)),(30,.pat (mkc (l.getD k default)))] [] 27 [pth ((l.getD (((k:Int)-1).toNat) default).path),pth ((l.getD k default).path)] 32 (((1:Nat)≠0)/\(1<=2/\0<2)/\·) ⟨dc,dc,PE.use (less11_ok ((l.getD (((k:Int)-1).toNat) default).path) ((l.getD k default).path) om om) ?_⟩⟩⟩⟩
 refine Kq (p:=(True)) trivial ?_
 refine qMn0 (!(decide (cmpP ((l.getD (((k:Int)-1).toNat) default).path) ((l.getD k default).path)<(0:Int)))) (by unfold stepA;first|(simp_all;done)|(rw[Bool.eq_iff_iff];simp_all;done)|(rw[Bool.eq_iff_iff];simp_all;omega)|(simp_all;omega))
 refine qMn0 false (by unfold stepA;first|(simp_all;done)|(rw[Bool.eq_iff_iff];simp_all;done)|(rw[Bool.eq_iff_iff];simp_all;omega)|(simp_all;omega))
 refine Cc (!stepA l k) (fun hc12 c12=>?_) fun hc12 c12=>?_
 refine Rr (Fn0 [] [(2,.bool false)] (Rt (.bool false) (fin_lea ?_)))
 rw[trOk_no (k:=k) om (by rw[stepA_M,show stepA l k=false by have h:=hc12;simpa using h];rfl)];exact lea_refl _
 refine Sk (Jn (hK8 (Kp [0,3] (Rr (Fn0 [0,3] [(4,.i 0)] (Bl (h_l (fun(j:Nat)=>([(0,.sl 2 (l.map mkc)),(3,.i k),(4,.i j)]:Fr)) (fun(j:Nat)=>([]:Hp)) (fun(j:Nat) cn=>(j<=k/\undM (l.take j) (l.getD k default).path=false)/\cn=0) (fun(j:Nat)=>k-j) 0 kr ?_ ?_ ?_ ?_)))))))
 refine⟨?_,rfl⟩;exact⟨Nat.zero_le _,rfl⟩
 exact⟨kr,kr,kr,trivial⟩
 exact(List.nil_sublist _)
 rintro j n1 hI
 (try dsimp only at hI)
 obtain⟨⟨hj1,hj2⟩,rfl⟩:=hI
 refine Sq fun K15 hK15=>?_
 refine Rr (Cn1 (decide ((j:Int)<(k:Int))) [0,3,4] [] (Ki/\·) ⟨rfl,fun hc17 c17=>?_,fun hc17 c17=>?_⟩)
 refine Sk (Jn (hK15 (Kp [0,3,4] (Sq fun K18 hK18=>?_))))
 refine Bl ?_
 have hgmj:=hl _ (getD_mem l j default om);have hgj:=wS_len (l.getD j default).path
 refine Qm [0,0,3,7,15,31,63,63,255,511,1023,63,63,6207,14399,30783,65535,131071] [(0,[]),(1,[]),(2,[]),(3,[]),(4,[]),(5,[]),(6,[]),(7,[]),(8,[]),(9,[]),(10,[]),(11,[]),(12,[]),(13,[]),(14,[]),(15,[]),(16,[]),(17,[])] 58 (((l.getD j default).sub)&&(((l.getD j default).path).isPrefixOf ((l.getD k default).path))) [0,3,4] ?_ ?_
 refine qAv1 3 43 [(42,.i j),(41,.sl 2 (l.map mkc))] (congrArg AV.pat (mg_mk l j om)) ((2=2/\(0:Int)<=(j:Int)/\(j:Int)<((l.map mkc).length:Int))/\·) ⟨⟨rfl,om,lmo⟩,qAn1 3 [(46,.bool ((l.getD j default).sub)),(45,.bool ((l.getD j default).sub)),(44,.pat [.bool ((l.getD j default).sub)])] (((1:Nat)≠0)/\(1<=1/\0<1)/\·) ⟨dc,dc,Qg (fun hg20 g20=>?_) (fun hg20 g20=>?_)⟩⟩
 refine qAv1 3 49 [(48,.i k),(47,.sl 2 (l.map mkc))] (congrArg AV.pat (mg_mk l k om)) ((2=2/\(0:Int)<=(k:Int)/\(k:Int)<((l.map mkc).length:Int))/\·) ⟨⟨rfl,om,lmo⟩,qAv1 5 54 [(53,.i j),(52,.sl 2 (l.map mkc)),(51,pth ((l.getD k default).path)),(50,.pat (mkc (l.getD k default)))] (congrArg AV.pat (mg_mk l j om)) (((1:Nat)≠0)/\(1<=2/\0<2)/\(2=2/\(0:Int)<=(j:Int)/\(j:Int)<((l.map mkc).length:Int))/\·) ⟨dc,dc,⟨rfl,om,lmo⟩,qBc1 3 [(56,pth ((l.getD j default).path)),(55,.pat (mkc (l.getD j default)))] [] 28 [pth ((l.getD k default).path),pth ((l.getD j default).path)] 57 (((1:Nat)≠0)/\(1<=2/\0<2)/\·) ⟨dc,dc,PE.use (l2Within_ok ((l.getD k default).path) ((l.getD j default).path) om om) (Kq (p:=(True)) trivial ?_)⟩⟩⟩
 refine qMn0 (((l.getD j default).path).isPrefixOf ((l.getD k default).path)) (by rw[hg20];rfl)
 refine qMn0 false (by rw[hg20];rfl)
 refine Cc (((l.getD j default).sub)&&(((l.getD j default).path).isPrefixOf ((l.getD k default).path))) (fun hc21 c21=>?_) fun hc21 c21=>?_
 refine Rr (Fn0 [] [(2,.bool false)] (Rt (.bool false) (fin_lea ?_)))
 rw[trOk_no (k:=k) om (by rw[stepA_M,undM_at (j:=j) om om hc21];simp)];exact lea_refl _
 refine Sk (Bn (Jn (hK18 (Kp [0,3,4] (Rn (Av1 2 40 [(39,.i j)] (cI (wn1 j om)) (Ki/\·) ⟨rfl,Gn0 [(4,.i ((j+1:Nat):Int))] (nk_n ?_)⟩))))))
 refine Lr (j+1) [] 0 [(0,.sl 2 (l.map mkc)),(3,.i k),(4,.i ((j+1:Nat):Int))] [] [] ?_ ?_ kr kr
 (try dsimp only);omega
 refine⟨?_,rfl⟩;(try dsimp only);exact⟨om,undM_snoc om hj2 hc21⟩
 refine Xt (Jx (Lx (Bh (Bn (Jn (hK7 (Kp [0,3] (Rn (Av1 2 10 [(9,.i k)] (cI (wn1 k om)) (Ki/\·) ⟨rfl,Gn0 [(3,.i ((k+1:Nat):Int))] (nk_n ?_)⟩)))))))))
 refine Lr (k+1) [] 0 [(0,.sl 2 (l.map mkc)),(3,.i ((k+1:Nat):Int))] [] [] ?_ ?_ kr kr
 (try dsimp only);omega
 refine⟨?_,rfl⟩;(try dsimp only);obtain rfl:j=k:=by omega
 exact⟨om,by rw[List.range_succ,List.all_append,hi2,List.all_cons,List.all_nil,Bool.and_true,Bool.true_and,stepA_M,hj2];have h:=hc12;simpa using h⟩
 refine Xt (Jx (Lx (Bh (Jn (hK2 (Kp [0] (Rr (Av0 (r:=.i ((l.map mkc).length:Nat)) (v:=.i l.length) 2 60 [(59,.sl 2 (l.map mkc))] lm (Fn1 [] [(2,.bool (decide ((l.length:Int)<=6)))] (Ki/\·) ⟨rfl,Rt (.bool (decide ((l.length:Int)<=6))) ?_⟩)))))))))
 refine fin_lea ?_
 obtain rfl:k=l.length:=by omega
 rw[show trOk l=decide ((l.length:Int)<=6) by unfold trOk;rw[hi2,Bool.true_and];exact decide_eq_decide.2 ⟨fun h=>by omega,fun h=>by omega⟩];exact lea_refl _
theorem copyM_ok (l:List Mk) (hl:∀m∈l,wS m.path<2^40) (hn:l.length<2^20):PE G 22 [.sl 2 (l.map mkc)] (.sl 2 (l.map mkc)):=by
 refine Pe Tryz.func22 ?_
 refine Rr (Fn0 [0] [] (Rr (Fn3 [0] [(3,.osl 0 2 0 0)] [(0,[])] 4 ((0*2<=16777216)/\·) ⟨dc,Sq fun K3 hK3=>?_⟩)))
 refine Rr (Fn0 [0,3] [(4,.i 0)] (Bl (h_l (fun(k:Nat)=>([(0,.sl 2 (l.map mkc)),(3,.osl 0 2 0 ((l.take k).length)),(4,.i k)]:Fr)) (fun(k:Nat)=>([(0,fl mkc (l.take k))]:Hp)) (fun(k:Nat) cn=>(k<=l.length)/\cn=4) (fun(k:Nat)=>l.length-k) 0 kr ?_ ?_ ?_ ?_)))
 refine⟨?_,rfl⟩;exact Nat.zero_le _
 exact⟨kr,kr,kr,trivial⟩
 exact(sub_c kr (List.nil_sublist _))
 rintro k n1 hI
 (try dsimp only at hI)
 obtain⟨hi1,rfl⟩:=hI
 refine Sq fun K5 hK5=>?_
 refine Rr (Av0 (r:=.i ((l.map mkc).length:Nat)) (v:=.i l.length) 3 8 [(7,.sl 2 (l.map mkc)),(6,.i k)] lm (Cn1 (decide ((k:Int)<(l.length:Int))) [0,3,4] [] (Ki/\·) ⟨rfl,fun hc7 c7=>?_,fun hc7 c7=>?_⟩))
 refine Sk (Jn (hK5 (Kp [0,3,4] (Sq fun K8 hK8=>?_))))
 refine Bl ?_
 have hgm:=hl _ (getD_mem l k default om);have hgl:=wS_len (l.getD k default).path;have htk:(l.take k).length=k:=by rw[List.length_take];omega
 refine Qlb [0,0,0,0,12,28,60,126,0,0,768,1792,3840,8190,16382,32767] [(0,[]),(2,[]),(3,[]),(4,[]),(5,[]),(6,[]),(8,[]),(9,[]),(10,[]),(11,[]),(12,[]),(1,[6,12]),(7,[12]),(13,[]),(14,[]),(15,[])] (fun h=>Bn (Jn (hK8 h))) ?_
 refine qAv1 4 16 [(15,.i k),(14,.sl 2 (l.map mkc)),(12,.osl 0 2 0 ((l.take k).length))] (congrArg AV.pat (mg_mk l k om)) ((2=2/\(0:Int)<=(k:Int)/\(k:Int)<((l.map mkc).length:Int))/\·) ⟨⟨rfl,om,lmo⟩,qAv1 5 22 [(21,.i k),(20,.sl 2 (l.map mkc)),(18,pth ((l.getD k default).path)),(17,.pat (mkc (l.getD k default)))] (congrArg AV.pat (mg_mk l k om)) (((1:Nat)≠0)/\(1<=2/\0<2)/\(2=2/\(0:Int)<=(k:Int)/\(k:Int)<((l.map mkc).length:Int))/\·) ⟨dc,dc,⟨rfl,om,lmo⟩,qAn3 4 [(19,.osl 8 1 0 (0+(((l.getD k default).path).map (fun s=>[AV.str s])).length)),(13,.osl 4 1 0 0),(24,.bool ((l.getD k default).sub)),(23,.pat [.bool ((l.getD k default).sub)])] [(8,apd [] (0*1) ((((l.getD k default).path).map (fun s=>[AV.str s])).flatten)),(0,fl mkc (l.take k))] 12 (fun Z=>((1:Nat)≠0)/\(1<=1/\0<1)/\(0*1<=16777216)/\(((1<=2/\0<2)/\(pth ((l.getD k default).path)=pth ((l.getD k default).path)))/\((1<=1/\0<1)/\(AV.bool ((l.getD k default).sub)=(.bool ((l.getD k default).sub):AV)))/\True)/\True/\(1=1/\0*1<=0/\0<16/\(0+(((l.getD k default).path).map (fun s=>[AV.str s])).length)*16<=140737488355328)/\(((1<=1/\0<1)/\(AV.bool ((l.getD k default).sub)=(.bool ((l.getD k default).sub):AV)))/\True)/\Z) ⟨dc,dc,dc,⟨⟨dc,rfl⟩,⟨dc,rfl⟩,trivial⟩,trivial,⟨rfl,gl,dc,gl⟩,⟨⟨dc,rfl⟩,trivial⟩,runq_v (v':=.osl 8 1 0 (((l.getD k default).path).length)) (by rw[Nat.zero_add,List.length_map]) (runq_h (cs':=fl sc ((l.getD k default).path)) (app0_str _) ?_)⟩⟩⟩
 refine qAn3 3 [(27,.osl 16 2 0 ((l.take k).length+1)),(26,.osl 12 2 0 1),(25,.agg [.osl 8 1 0 (((l.getD k default).path).length),.bool ((l.getD k default).sub)])] [(16,apd (fl mkc (l.take k)) ((l.take k).length*2) ((([.osl 8 1 0 (((l.getD k default).path).length),.bool ((l.getD k default).sub)]:List AV).drop 0).take (1*2))),(12,[.osl 8 1 0 (((l.getD k default).path).length),.bool ((l.getD k default).sub)]),(8,fl sc ((l.getD k default).path))] 20 ((1*2<=16777216)/\(True)/\(0+1*2<=([.osl 8 1 0 (((l.getD k default).path).length),.bool ((l.getD k default).sub)]:List AV).length)/\(2=2/\(l.take k).length*2<=(fl mkc (l.take k)).length/\0<32/\((l.take k).length+1)*32<=140737488355328)/\(True)/\·) ⟨dc,trivial,(by first|decide|simp),⟨rfl,by(first|omega|(simp only[LL,flMl];omega)),dc,by(first|omega|(simp only[LL,flMl];omega))⟩,trivial,runq_H (H':=[(16,fl mkc (l.take k)++[.osl 8 1 0 (((l.getD k default).path).length),.bool ((l.getD k default).sub)]),(12,[.osl 8 1 0 (((l.getD k default).path).length),.bool ((l.getD k default).sub)]),(8,fl sc ((l.getD k default).path))]) (by rw[show apd (fl mkc (l.take k)) ((l.take k).length*2) ((([.osl 8 1 0 (((l.getD k default).path).length),.bool ((l.getD k default).sub)]:List AV).drop 0).take (1*2))=fl mkc (l.take k)++[.osl 8 1 0 (((l.getD k default).path).length),.bool ((l.getD k default).sub)]from(by unfold apd;rw[fl_full mkc_len (l.take k) rfl];rfl)]) (qGn0 [] (Lo 3 (.osl 16 2 0 ((l.take k).length+1)) (fun Z=>Z) (Cfi [0,3,4] ?_)))⟩
 refine FzM 8 16 (l.take k) ((l.getD k default).path) ((l.getD k default).sub) [(0,.sl 2 (l.map mkc)),(3,.osl 16 2 0 ((l.take k).length+1)),(4,.i k)] [] [] ?_
 refine Rn (Av1 2 11 [(10,.i k)] (cI (wn1 k om)) (Ki/\·) ⟨rfl,Gn0 [(4,.i ((k+1:Nat):Int))] (nk_n (Lr (k+1) [(16,0)] 4 [(0,.sl 2 (l.map mkc)),(3,.osl 16 2 0 ((l.take k).length+1)),(4,.i ((k+1:Nat):Int))] [(16,fl mkc (l.take k++[Mk.mk ((l.getD k default).path) ((l.getD k default).sub)]))] [false] ?_ ?_ (by(try ((try dsimp only);rw[take_snoc l k default om]));try kernel_rfl) (by(try ((try dsimp only);rw[take_snoc l k default om,List.length_append]));try kernel_rfl)))⟩)
 (try dsimp only);omega
 refine⟨?_,rfl⟩;(try dsimp only);omega
 refine Xt (Jx (Lx (Bh (Jn (hK3 (Kp [3] (Rr (Fn0 [] [(2,.osl 0 2 0 ((l.take k).length))] (Fz 0 2 ((l.take k).length) ((l.take k).map mkc) (fl mkc (l.take k)) [(2,.osl 0 2 0 ((l.take k).length))] [] [] (chkM _) (flM_le _) (Rt (.sl 2 ((l.take k).map mkc)) ?_))))))))))
 refine fin_lea ?_
 rw[List.take_of_length_le om];exact lea_refl _
def PutI (m:Mk) (f o:List Mk) (d:Bool):Prop:=(d=false/\o=f/\∀x∈f,¬cmpP m.path x.path<0)\/(d=true/\o=insM m f/\∃x∈f,cmpP m.path x.path<0)
theorem insM_none {m:Mk}:∀{f:List Mk} (g:List Mk),(∀x∈f,¬cmpP m.path x.path<0)->insM m (f++g)=f++insM m g
  |[],_,_=>rfl
  |x::f,g,h=>by
    rw[List.cons_append,insM,if_neg (h x List.mem_cons_self),insM_none g fun y hy=>h y (List.mem_cons_of_mem _ hy)];rfl
theorem insM_some {m:Mk}:∀{f:List Mk} (g:List Mk),(∃x∈f,cmpP m.path x.path<0)->insM m (f++g)=insM m f++g
  |[],_,h=>by obtain⟨x,hx,_⟩:=h;cases hx
  |x::f,g,h=>by
    rw[List.cons_append,insM,insM]
    split
    · rfl
    · rename_i hc
      obtain⟨y,hy,h⟩:=h
      rw[insM_some g ⟨y,(List.mem_cons.1 hy).resolve_left (fun e=>hc (e▸h)),h⟩];rfl
theorem PutI.hit {m x:Mk} {f o:List Mk} {d:Bool} (h:PutI m f o d) (hd:(!d&&decide (cmpP m.path x.path<(0:Int)))=true):PutI m (f++[x]) (o++[m]++[x]) true:=by
  simp only[Bool.and_eq_true,Bool.not_eq_true',decide_eq_true_eq]at hd
  rcases h with ⟨_,rfl,h⟩|⟨e,_⟩
  · exact .inr ⟨rfl,by rw[insM_none _ h,insM,if_pos hd.2,List.append_assoc];rfl,x,by simp,hd.2⟩
  · rw[hd.1]at e;cases e
theorem PutI.go {m x:Mk} {f o:List Mk} {d:Bool} (h:PutI m f o d) (hd:(!d&&decide (cmpP m.path x.path<(0:Int)))=false):PutI m (f++[x]) (o++[x]) d:=by
  rcases h with ⟨rfl,rfl,h⟩|⟨rfl,rfl,y,hy,h⟩
  · exact .inl ⟨rfl,rfl,fun y hy=>(List.mem_append.1 hy).elim (h y) fun hy=>by rw[List.mem_singleton]at hy;subst hy;simpa using hd⟩
  · exact .inr ⟨rfl,(insM_some _ ⟨y,hy,h⟩).symm,y,List.mem_append_left _ hy,h⟩
theorem PutI.fin {m:Mk} {f o:List Mk} {d:Bool} (h:PutI m f o d):(bif d then o else o++[m])=insM m f:=by
  rcases h with ⟨rfl,rfl,h⟩|⟨rfl,rfl,_⟩
  · have:=insM_none [] h;rw[List.append_nil]at this;rw[this];rfl
  · rfl
theorem PutI.len {m:Mk} {f o:List Mk} {d:Bool} (h:PutI m f o d):o.length<=f.length+1:=by
  rcases h with ⟨rfl,rfl,h⟩|⟨rfl,rfl,_⟩
  · omega
  · rw[(insM_perm _ _).length_eq];simp
theorem put11_ok (l:List Mk) (m:Mk) (hl:∀m∈l,wS m.path<2^40) (hn:l.length<2^20) (hm:wS m.path<2^40):PE G 59 [.sl 2 (l.map mkc),.agg (mkc m)] (.sl 2 ((putM l m).map mkc)):=by
 have hml:=wS_len m.path
 refine Pe Tryz.func59 ?_
 refine Rr (Fn2 [0] [(3,.ptr 0 0)] [(0,mkc m)] 4 (Sq fun K2 hK2=>?_))
 refine Rm 23 (addC l m) [0,3] ?_ ?_
 refine Bc1 4 [(11,pth m.path),(10,.ptr 0 0),(9,.sl 2 (l.map mkc))] 91 [.sl 2 (l.map mkc),pth m.path] 12 (((1:Nat)≠0)/\(0+1<=2/\0<2)/\·) ⟨dc,dc,?_⟩
 refine PE.use (sUnder_ok l m.path hl om om) ?_
 refine Ke (An0 1 [(13,.bool (undM l m.path))] (Rg (fun hg4 g4=>?_) (fun hg4 g4=>?_)))
 refine Mn0 true (by unfold addC;first|(simp_all;done)|(rw[Bool.eq_iff_iff];simp_all;done))
 refine An1 4 [(17,.bool (!m.sub)),(16,.bool (!m.sub)),(15,.bool m.sub),(14,.ptr 0 1)] (((1:Nat)≠0)/\(1+1<=2/\1<2)/\·) ⟨dc,dc,Rg (fun hg5 g5=>?_) (fun hg5 g5=>?_)⟩
 refine Bc1 4 [(20,pth m.path),(19,.ptr 0 0),(18,.sl 2 (l.map mkc))] 92 [.sl 2 (l.map mkc),pth m.path] 21 (((1:Nat)≠0)/\(0+1<=2/\0<2)/\·) ⟨dc,dc,?_⟩
 refine PE.use (sMarked_ok l m.path hl om om) ?_
 refine Ke (Mn0 (mrkM l m.path) (by unfold addC;first|(simp_all;done)|(rw[Bool.eq_iff_iff];simp_all;done)))
 refine Mn0 false (by unfold addC;first|(simp_all;done)|(rw[Bool.eq_iff_iff];simp_all;done))
 refine Cc (addC l m) (fun hc6 c6=>?_) fun hc6 c6=>?_
 refine Rr (Fn0 [] [(4,.sl 2 (l.map mkc))] (Rt (.sl 2 (l.map mkc)) (fin_lea ?_)))
 unfold putM
 rw[if_pos hc6];exact lea_refl _
 refine Sk (Jn (hK2 (Kp [0,3] (Rr (Fn3 [0,3] [(5,.osl 4 2 0 0)] [(4,[]),(0,mkc m)] 8 ((0*2<=16777216)/\·) ⟨dc,Rr (Fn0 [0,3,5] [(6,.bool false)] ?_)⟩)))))
 refine Sq fun K10 hK10=>?_
 refine Rr (Fn0 [0,3,5,6] [(7,.i 0)] (Bl (h_l (fun(z:Nat×List Mk×Bool)=>(match z with|(k,o,d)=>([(0,.sl 2 (l.map mkc)),(3,.ptr 0 0),(5,.osl 4 2 0 o.length),(6,.bool d),(7,.i k)]:Fr))) (fun(z:Nat×List Mk×Bool)=>(match z with|(k,o,d)=>([(4,fl mkc o),(0,mkc m)]:Hp))) (fun(z:Nat×List Mk×Bool) cn=>(match z with|(k,o,d)=>(k<=l.length/\PutI m ((l.take k).filter (keepM m)) o d)/\cn=8)) (fun(z:Nat×List Mk×Bool)=>l.length-z.1) (0,[],false) kr ?_ ?_ ?_ ?_)))
 refine⟨?_,rfl⟩;exact⟨Nat.zero_le _,.inl ⟨rfl,rfl,by simp⟩⟩
 exact⟨kr,kr,kr,kr,kr,trivial⟩
 exact(sub_c kr (sub_c kr (List.nil_sublist _)))
 rintro⟨k,o,d⟩ n1 hI
 (try dsimp only at hI)
 obtain⟨⟨hi1,hi2⟩,rfl⟩:=hI
 have hol:=hi2.len;have hfl:=List.length_filter_le (keepM m) (l.take k);have htl:(l.take k).length<=l.length:=by rw[List.length_take];omega
 refine Sq fun K12 hK12=>?_
 refine Rr (Av0 (r:=.i ((l.map mkc).length:Nat)) (v:=.i l.length) 3 28 [(27,.sl 2 (l.map mkc)),(26,.i k)] lm (Cn1 (decide ((k:Int)<(l.length:Int))) [0,3,5,6,7] [] (Ki/\·) ⟨rfl,fun hc14 c14=>?_,fun hc14 c14=>?_⟩))
 refine Sk (Jn (hK12 (Kp [0,3,5,6,7] (Sq fun K15 hK15=>?_))))
 refine Bl ?_
 have hgm:=hl _ (getD_mem l k default om);have hgl:=wS_len (l.getD k default).path;have htk:(l.take k).length=k:=by rw[List.length_take];omega
 refine Rr (Av1 3 34 [(33,.i k),(32,.sl 2 (l.map mkc))] (congrArg AV.pat (mg_mk l k om)) ((2=2/\(0:Int)<=(k:Int)/\(k:Int)<((l.map mkc).length:Int))/\·) ⟨⟨rfl,om,lmo⟩,Fn3 [0,3,5,6,7] [(8,.ptr 8 0)] [(8,mkc (l.getD k default)),(4,fl mkc o),(0,mkc m)] 12 ((2<=2/\0<2)/\(true=true/\2=2/\0+2<=2)/\·) ⟨dc,dc,Sq fun K17 hK17=>?_⟩⟩)
 refine Rm 44 (!keepM m (l.getD k default)) [0,3,5,6,7,8] ?_ ?_
 refine An1 3 [(38,.bool m.sub),(37,.bool m.sub),(36,.ptr 0 1)] (((1:Nat)≠0)/\(1+1<=2/\1<2)/\·) ⟨dc,dc,Rg (fun hg19 g19=>?_) (fun hg19 g19=>?_)⟩
 refine Bc1 5 [(42,pth m.path),(41,.ptr 0 0),(40,pth ((l.getD k default).path)),(39,.ptr 8 0)] 28 [pth ((l.getD k default).path),pth m.path] 43 (((1:Nat)≠0)/\(0+1<=2/\0<2)/\((1:Nat)≠0)/\(0+1<=2/\0<2)/\·) ⟨dc,dc,dc,dc,?_⟩
 refine PE.use (l2Within_ok ((l.getD k default).path) m.path om om) ?_
 refine Ke (Mn0 (m.path.isPrefixOf ((l.getD k default).path)) (by unfold keepM;first|(simp_all;done)|(rw[Bool.eq_iff_iff];simp_all;done)))
 refine Mn0 false (by unfold keepM;first|(simp_all;done)|(rw[Bool.eq_iff_iff];simp_all;done))
 refine Cc (!keepM m (l.getD k default)) (fun hc20 c20=>?_) fun hc20 c20=>?_
 refine Xt (Jx (Bh (Jn (hK15 (Kp [0,3,5,6,7] (Rn (Av1 2 31 [(30,.i k)] (cI (wn1 k om)) (Ki/\·) ⟨rfl,Gn0 [(7,.i ((k+1:Nat):Int))] (nk_n ?_)⟩)))))))
 refine Lr (k+1,o,d) [(0,0),(4,4)] 8 [(0,.sl 2 (l.map mkc)),(3,.ptr 0 0),(5,.osl 4 2 0 o.length),(6,.bool d),(7,.i ((k+1:Nat):Int))] [(4,fl mkc o),(0,mkc m)] [false,true] ?_ ?_ kr kr
 (try dsimp only);omega
 refine⟨?_,rfl⟩;(try dsimp only);refine⟨om,?_⟩
 rw[filt_f om (by simpa using hc20)];exact hi2
 refine Sk (Jn (hK17 (Kp [0,3,5,6,7,8] (Sq fun K21 hK21=>?_))))
 refine Rm 53 ((!d)&&(decide (cmpP m.path ((l.getD k default).path)<(0:Int)))) [0,3,5,6,7,8] ?_ ?_
 refine An0 3 [(47,.bool (!d)),(46,.bool (!d)),(45,.bool d)] (Rg (fun hg23 g23=>?_) (fun hg23 g23=>?_))
 refine Bc1 5 [(51,pth ((l.getD k default).path)),(50,.ptr 8 0),(49,pth m.path),(48,.ptr 0 0)] 27 [pth m.path,pth ((l.getD k default).path)] 52 (((1:Nat)≠0)/\(0+1<=2/\0<2)/\((1:Nat)≠0)/\(0+1<=2/\0<2)/\·) ⟨dc,dc,dc,dc,?_⟩
 refine PE.use (less11_ok m.path ((l.getD k default).path) om om) ?_
 refine Ke (Mn0 (decide (cmpP m.path ((l.getD k default).path)<(0:Int))) (by rw[hg23];rfl))
 refine Mn0 false (by rw[hg23];rfl)
 refine Cc ((!d)&&(decide (cmpP m.path ((l.getD k default).path)<(0:Int)))) (fun hc24 c24=>?_) fun hc24 c24=>?_
 refine Rr (An3 4 [(57,.osl 16 2 0 (o.length+1)),(56,.osl 12 2 0 1),(55,.agg (mkc m)),(54,.osl 4 2 0 o.length)] [(16,apd (fl mkc o) (o.length*2) (mkc m)),(12,mkc m),(8,mkc (l.getD k default)),(0,mkc m)] 20 ((0+2<=2/\0<2)/\(1*2<=16777216)/\(0+1*2<=2)/\(2=2/\o.length*2<=(fl mkc o).length/\0<32/\(o.length+1)*32<=140737488355328)/\·) ⟨dc,dc,dc,⟨rfl,by(first|omega|(simp only[LL,flMl];omega)),dc,by(first|omega|(simp only[LL,flMl];omega))⟩,run_v (v':=.osl 16 2 0 ((o++[m]).length)) (push_len _ _ _ _) (run_h (cs':=fl mkc (o++[m])) (push_mk o m) (Fn0 [0,3,7,8] [(5,.osl 16 2 0 ((o++[m]).length))] ?_))⟩)
 refine Rb (fun h=>Jn (hK21 h)) (Fn0 [0,3,5,7,8] [(6,.bool true)] (Rb (fun h=>Bn (Jn (hK15 h))) (An3 4 [(61,.osl 24 2 0 ((o++[m]).length+1)),(60,.osl 20 2 0 1),(59,.agg (mkc (l.getD k default))),(58,.osl 16 2 0 ((o++[m]).length))] [(24,apd (fl mkc (o++[m])) ((o++[m]).length*2) (mkc (l.getD k default))),(20,mkc (l.getD k default)),(12,mkc m),(8,mkc (l.getD k default)),(0,mkc m)] 28 ((0+2<=2/\0<2)/\(1*2<=16777216)/\(0+1*2<=2)/\(2=2/\(o++[m]).length*2<=(fl mkc (o++[m])).length/\0<32/\((o++[m]).length+1)*32<=140737488355328)/\·) ⟨dc,dc,dc,⟨rfl,by(first|omega|(simp only[LL,flMl];omega)),dc,by(first|omega|(simp only[LL,flMl];omega))⟩,run_v (v':=.osl 24 2 0 ((o++[m]++[(l.getD k default)]).length)) (push_len _ _ _ _) ?_⟩)))
 refine run_h (cs':=fl mkc (o++[m]++[(l.getD k default)])) (push_mk (o++[m]) (l.getD k default)) ?_
 refine Fn0 [0,3,6,7] [(5,.osl 24 2 0 ((o++[m]++[(l.getD k default)]).length))] (Rn (Av1 2 31 [(30,.i k)] (cI (wn1 k om)) (Ki/\·) ⟨rfl,Gn0 [(7,.i ((k+1:Nat):Int))] (nk_n ?_)⟩))
 refine Lr (k+1,o++[m]++[(l.getD k default)],true) [(0,0),(24,4)] 8 [(0,.sl 2 (l.map mkc)),(3,.ptr 0 0),(5,.osl 24 2 0 ((o++[m]++[(l.getD k default)]).length)),(6,.bool true),(7,.i ((k+1:Nat):Int))] [(24,fl mkc (o++[m]++[(l.getD k default)])),(0,mkc m)] [false,true] ?_ ?_ kr kr
 (try dsimp only);omega
 refine⟨?_,rfl⟩;(try dsimp only);refine⟨om,?_⟩
 rw[filt_t om (by simpa using hc20)];exact hi2.hit hc24
 refine Sk (Jn (hK21 (Kp [0,3,5,6,7,8] (Rb (fun h=>Bn (Jn (hK15 h))) (An3 4 [(61,.osl 16 2 0 (o.length+1)),(60,.osl 12 2 0 1),(59,.agg (mkc (l.getD k default))),(58,.osl 4 2 0 o.length)] [(16,apd (fl mkc o) (o.length*2) (mkc (l.getD k default))),(12,mkc (l.getD k default)),(8,mkc (l.getD k default)),(0,mkc m)] 20 ((0+2<=2/\0<2)/\(1*2<=16777216)/\(0+1*2<=2)/\(2=2/\o.length*2<=(fl mkc o).length/\0<32/\(o.length+1)*32<=140737488355328)/\·) ⟨dc,dc,dc,⟨rfl,by(first|omega|(simp only[LL,flMl];omega)),dc,by(first|omega|(simp only[LL,flMl];omega))⟩,run_v (v':=.osl 16 2 0 ((o++[(l.getD k default)]).length)) (push_len _ _ _ _) (run_h (cs':=fl mkc (o++[(l.getD k default)])) (push_mk o (l.getD k default)) ?_)⟩)))))
 refine Fn0 [0,3,6,7] [(5,.osl 16 2 0 ((o++[(l.getD k default)]).length))] (Rn (Av1 2 31 [(30,.i k)] (cI (wn1 k om)) (Ki/\·) ⟨rfl,Gn0 [(7,.i ((k+1:Nat):Int))] (nk_n ?_)⟩))
 refine Lr (k+1,o++[(l.getD k default)],d) [(0,0),(16,4)] 8 [(0,.sl 2 (l.map mkc)),(3,.ptr 0 0),(5,.osl 16 2 0 ((o++[(l.getD k default)]).length)),(6,.bool d),(7,.i ((k+1:Nat):Int))] [(16,fl mkc (o++[(l.getD k default)])),(0,mkc m)] [false,true] ?_ ?_ kr kr
 (try dsimp only);omega
 refine⟨?_,rfl⟩;(try dsimp only);refine⟨om,?_⟩
 rw[filt_t om (by simpa using hc20)];exact hi2.go hc24
 refine Xt (Jx (Lx (Bh (Jn (hK10 (Kp [3,5,6] (Sq fun K26 hK26=>?_)))))))
 refine Rr (Cn0 (!d) [3,5] [] ⟨fun hc28 c28=>?_,fun hc28 c28=>?_⟩)
 refine Rb (fun h=>Jn (hK26 h)) (An3 4 [(67,.osl 12 2 0 (o.length+1)),(66,.osl 8 2 0 1),(65,.agg (mkc m)),(64,.osl 4 2 0 o.length)] [(12,apd (fl mkc o) (o.length*2) (mkc m)),(8,mkc m),(0,mkc m)] 16 ((0+2<=2/\0<2)/\(1*2<=16777216)/\(0+1*2<=2)/\(2=2/\o.length*2<=(fl mkc o).length/\0<32/\(o.length+1)*32<=140737488355328)/\·) ⟨dc,dc,dc,⟨rfl,by(first|omega|(simp only[LL,flMl];omega)),dc,by(first|omega|(simp only[LL,flMl];omega))⟩,run_v (v':=.osl 12 2 0 ((o++[m]).length)) (push_len _ _ _ _) (run_h (cs':=fl mkc (o++[m])) (push_mk o m) (Fn0 [] [(5,.osl 12 2 0 ((o++[m]).length))] ?_))⟩)
 refine Rr (Fn0 [] [(4,.osl 12 2 0 ((o++[m]).length))] (Fz 12 2 ((o++[m]).length) ((o++[m]).map mkc) (fl mkc (o++[m])) [(4,.osl 12 2 0 ((o++[m]).length))] [] [] (chkM _) (flM_le _) (Rt (.sl 2 ((o++[m]).map mkc)) (fin_lea ?_))))
 unfold putM
 obtain rfl:k=l.length:=by omega
 rw[if_neg (by rw[hc6];simp)];rw[List.take_length]at hi2
 have hd:d=false:=by have h:=hc28;simpa using h
 have hf:=hi2.fin;rw[hd]at hf;dsimp only[cond_true,cond_false]at hf;rw[<-hf];exact lea_refl _
 refine Sk (Jn (hK26 (Kp [5] (Rr (Fn0 [] [(4,.osl 4 2 0 o.length)] (Fz 4 2 o.length (o.map mkc) (fl mkc o) [(4,.osl 4 2 0 o.length)] [] [] (chkM _) (flM_le _) (Rt (.sl 2 (o.map mkc)) ?_)))))))
 refine fin_lea ?_
 unfold putM
 obtain rfl:k=l.length:=by omega
 rw[if_neg (by rw[hc6];simp)];rw[List.take_length]at hi2
 have hd:d=true:=by have h:=hc28;simpa using h
 have hf:=hi2.fin;rw[hd]at hf;dsimp only[cond_true,cond_false]at hf;rw[<-hf];exact lea_refl _
open Go Go.Proofs
set_option maxRecDepth 100000
def TAdd (l:List Mk) (m:Mk) (l2:List Mk):Prop:=(trOk l=false/\l2=[])\/(trOk l=true/\mkOk m=false/\l2=l)\/(trOk l=true/\mkOk m=true/\Coar (putM l m) l2)
theorem TAdd.ok {l l2:List Mk} {m:Mk} (h:TAdd l m l2) (ht:Trl l) (h6:l.length<=6):Trl l2/\l2.length<=6:=by
  rcases h with ⟨_,rfl⟩|⟨_,_,rfl⟩|⟨_,k,c⟩
  · exact⟨Trl.nil,by simp⟩
  · exact⟨ht,h6⟩
  · exact c.trl (putM_trl ht k)
theorem bestF_suc (l:List Mk) (k:Nat):bestF l (k+1)=if(l.getD (bestF l k) default).path.length<=(l.getD k default).path.length then k else bestF l k:=rfl
theorem coarser_ok (l:List Mk) (hl:∀m∈l,wS m.path<2^40) (hn:l.length<2^20) (h1:0<l.length) (hp:0<(bestM l).path.length):PE G 60 [.sl 2 (l.map mkc)] (.sl 2 ((putM l (parM (bestM l))).map mkc)):=by
 refine Pe Tryz.func60 ?_
 refine Rr (Fn0 [0] [] (Rr (Fn0 [0] [(3,.i 0)] (Sq fun K3 hK3=>?_))))
 refine Rr (Fn0 [0,3] [(4,.i 1)] (Bl (h_l (fun(k:Nat)=>([(0,.sl 2 (l.map mkc)),(3,.i ((bestF l k:Nat):Int)),(4,.i k)]:Fr)) (fun(k:Nat)=>([]:Hp)) (fun(k:Nat) cn=>(1<=k/\k<=l.length)/\cn=0) (fun(k:Nat)=>l.length-k) 1 kr ?_ ?_ ?_ ?_)))
 refine⟨?_,rfl⟩;exact⟨Nat.le_refl _,om⟩
 exact⟨kr,by show AV.int .i64 _=AV.int .i64 _;simp[bestF],kr,trivial⟩
 exact(List.nil_sublist _)
 rintro k n1 hI
 (try dsimp only at hI)
 obtain⟨⟨hi1,hi2⟩,rfl⟩:=hI
 refine Sq fun K5 hK5=>?_
 refine Rr (Av0 (r:=.i ((l.map mkc).length:Nat)) (v:=.i l.length) 3 8 [(7,.sl 2 (l.map mkc)),(6,.i k)] lm (Cn1 (decide ((k:Int)<(l.length:Int))) [0,3,4] [] (Ki/\·) ⟨rfl,fun hc7 c7=>?_,fun hc7 c7=>?_⟩))
 refine Sk (Jn (hK5 (Kp [0,3,4] (Sq fun K8 hK8=>?_))))
 refine Bl ?_
 have hgm:=hl _ (getD_mem l k default om);have hgl:=wS_len (l.getD k default).path;have hbb:=bestF_lt l k om;have hgm2:=hl _ (getD_mem l (bestF l k) default om);have hgl2:=wS_len (l.getD (bestF l k) default).path
 refine Qr [0,0,3,7,15,31,0,0,192,448,960,1984,4095] [(0,[]),(1,[]),(2,[]),(3,[]),(4,[]),(5,[]),(6,[]),(7,[]),(8,[]),(9,[]),(10,[]),(11,[]),(12,[])] (qAv1 3 14 [(13,.i k),(12,.sl 2 (l.map mkc))] (congrArg AV.pat (mg_mk l k om)) ((2=2/\(0:Int)<=(k:Int)/\(k:Int)<((l.map mkc).length:Int))/\·) ⟨⟨rfl,om,lmo⟩,qAv1 (r:=.i ((((l.getD k default).path).map (fun s=>[AV.str s])).length:Nat)) (v:=.i (((l.getD k default).path).length:Int)) 3 17 [(16,pth ((l.getD k default).path)),(15,.pat (mkc (l.getD k default)))] lm (((1:Nat)≠0)/\(1<=2/\0<2)/\·) ⟨dc,dc,qAv1 3 20 [(19,.i ((bestF l k:Nat):Int)),(18,.sl 2 (l.map mkc))] (congrArg AV.pat (mg_mk l (bestF l k) om)) ((2=2/\(0:Int)<=((bestF l k:Nat):Int)/\((bestF l k:Nat):Int)<((l.map mkc).length:Int))/\·) ⟨⟨rfl,om,lmo⟩,qAv1 (r:=.i ((((l.getD (bestF l k) default).path).map (fun s=>[AV.str s])).length:Nat)) (v:=.i ((((l.getD (bestF l k) default).path).length:Nat):Int)) 3 23 [(22,pth ((l.getD (bestF l k) default).path)),(21,.pat (mkc (l.getD (bestF l k) default)))] lm (((1:Nat)≠0)/\(1<=2/\0<2)/\·) ⟨dc,dc,?_⟩⟩⟩⟩)
 refine qCn1 (decide (((((l.getD (bestF l k) default).path).length:Nat):Int)<=(((l.getD k default).path).length:Int))) [0,3,4] [] (Ki/\·) ⟨rfl,fun hc10 c10=>?_,fun hc10 c10=>?_⟩
 refine Rb (fun h=>Bn (Jn (hK8 h))) (Fn0 [0,4] [(3,.i k)] (Rn (Av1 2 11 [(10,.i k)] (cI (wn1 k om)) (Ki/\·) ⟨rfl,Gn0 [(4,.i ((k+1:Nat):Int))] ?_⟩)))
 refine nk_n (Lr (k+1) [] 0 [(0,.sl 2 (l.map mkc)),(3,.i k),(4,.i ((k+1:Nat):Int))] [] [] ?_ ?_ kr (by(try ((try dsimp only);rw[show bestF l (k+1)=k by rw[bestF_suc,if_pos om]]));try kernel_rfl))
 (try dsimp only);omega
 refine⟨?_,rfl⟩;(try dsimp only);omega
 refine Sk (Bn (Jn (hK8 (Kp [0,3,4] (Rn (Av1 2 11 [(10,.i k)] (cI (wn1 k om)) (Ki/\·) ⟨rfl,Gn0 [(4,.i ((k+1:Nat):Int))] (nk_n ?_)⟩))))))
 refine Lr (k+1) [] 0 [(0,.sl 2 (l.map mkc)),(3,.i ((bestF l k:Nat):Int)),(4,.i ((k+1:Nat):Int))] [] [] ?_ ?_ kr (by(try ((try dsimp only);rw[show bestF l (k+1)=bestF l k by rw[bestF_suc,if_neg om]]));try kernel_rfl)
 (try dsimp only);omega
 refine⟨?_,rfl⟩;(try dsimp only);omega
 refine Xt (Jx (Lx (Bh (Jn (hK3 (Kp [0,3] ?_))))))
 have hke:k=l.length:=by omega
 have hbb:=bestF_lt l k om;have hgm2:=hl _ (getD_mem l (bestF l k) default om);have hgl2:=wS_len (l.getD (bestF l k) default).path
 have hp0:0<(l.getD (bestF l k) default).path.length:=hke▸hp
 refine Rr (Av1 3 28 [(27,.i ((bestF l k:Nat):Int)),(26,.sl 2 (l.map mkc))] (congrArg AV.pat (mg_mk l (bestF l k) om)) ((2=2/\(0:Int)<=((bestF l k:Nat):Int)/\((bestF l k:Nat):Int)<((l.map mkc).length:Int))/\·) ⟨⟨rfl,om,lmo⟩,Fn1 [0] [(5,pth ((l.getD (bestF l k) default).path))] (((1:Nat)≠0)/\(1<=2/\0<2)/\·) ⟨dc,dc,Rr (Av3 (r:=.i ((((l.getD (bestF l k) default).path).map (fun s=>[AV.str s])).length:Nat)) (v:=.i ((((l.getD (bestF l k) default).path).length:Nat):Int)) 5 35 [(34,pth ((l.getD (bestF l k) default).path)),(33,pth ((l.getD (bestF l k) default).path)),(32,.osl 0 1 0 0),(31,.sl 2 (l.map mkc))] lm [(0,[])] 4 ((0*1<=16777216)/\·) ⟨dc,?_⟩)⟩⟩)
 refine Av1 (r:=.i (IntKind.i64.wrap (((((l.getD (bestF l k) default).path).length:Nat):Int)-1))) (v:=.i (((((l.getD (bestF l k) default).path).length:Nat):Int)-1)) 1 36 [] (cI (wrap64 om om)) (Ki/\·) ⟨rfl,Av1 (r:=.sl 1 (((((l.getD (bestF l k) default).path).map (fun s=>[AV.str s])).take ((((((l.getD (bestF l k) default).path).length:Nat):Int)-1).toNat)).drop 0)) (v:=pth (((l.getD (bestF l k) default).path).take ((((((l.getD (bestF l k) default).path).length:Nat):Int)-1).toNat))) 1 37 [] (congrArg (AV.sl 1) (slm_0 _ _ _)) (fun Z=>(1=1/\0<=(0:Int)/\(0:Int)<=(((((l.getD (bestF l k) default).path).length:Nat):Int)-1)/\(((((l.getD (bestF l k) default).path).length:Nat):Int)-1)<=(((((l.getD (bestF l k) default).path).map (fun s=>[AV.str s])).length:Nat):Int))/\Z) ⟨⟨rfl,om,by(try rw[List.length_map]);omega,lmo⟩,An3 1 [(38,.osl 4 1 0 (0+((((l.getD (bestF l k) default).path).take ((((((l.getD (bestF l k) default).path).length:Nat):Int)-1).toNat)).map (fun s=>[AV.str s])).length))] [(4,apd [] (0*1) (((((l.getD (bestF l k) default).path).take ((((((l.getD (bestF l k) default).path).length:Nat):Int)-1).toNat)).map (fun s=>[AV.str s])).flatten))] 8 (fun Z=>True/\(1=1/\0*1<=0/\0<16/\(0+((((l.getD (bestF l k) default).path).take ((((((l.getD (bestF l k) default).path).length:Nat):Int)-1).toNat)).map (fun s=>[AV.str s])).length)*16<=140737488355328)/\Z) ⟨trivial,⟨rfl,gl,dc,gl⟩,run_v (v':=.osl 4 1 0 ((((l.getD (bestF l k) default).path).take ((((((l.getD (bestF l k) default).path).length:Nat):Int)-1).toNat)).length)) (by rw[Nat.zero_add,List.length_map]) (run_h (cs':=fl sc (((l.getD (bestF l k) default).path).take ((((((l.getD (bestF l k) default).path).length:Nat):Int)-1).toNat))) (app0_str _) ?_)⟩⟩⟩
 refine Bc0 2 [(39,.agg [.osl 4 1 0 ((((l.getD (bestF l k) default).path).take ((((((l.getD (bestF l k) default).path).length:Nat):Int)-1).toNat)).length),.bool true])] 59 [.sl 2 (l.map mkc),.agg [.osl 4 1 0 ((((l.getD (bestF l k) default).path).take ((((((l.getD (bestF l k) default).path).length:Nat):Int)-1).toNat)).length),.bool true]] 40 ?_
 refine Tz 4 1 ((((l.getD (bestF l k) default).path).take ((((((l.getD (bestF l k) default).path).length:Nat):Int)-1).toNat)).length) ((((l.getD (bestF l k) default).path).take ((((((l.getD (bestF l k) default).path).length:Nat):Int)-1).toNat)).map (fun s=>[AV.str s])) (fl sc (((l.getD (bestF l k) default).path).take ((((((l.getD (bestF l k) default).path).length:Nat):Int)-1).toNat))) [.sl 2 (l.map mkc),.agg [pth (((l.getD (bestF l k) default).path).take ((((((l.getD (bestF l k) default).path).length:Nat):Int)-1).toNat)),.bool true]] [] [] (chkS _) (flS_le _) ?_
 refine PE.use (put11_ok l (Mk.mk (((l.getD (bestF l k) default).path).take ((((((l.getD (bestF l k) default).path).length:Nat):Int)-1).toNat)) true) hl om (by have h:=wS_take (l.getD (bestF l k) default).path ((((l.getD (bestF l k) default).path.length:Int)-1).toNat);(try dsimp only);omega)) ?_
 refine Ke (Fn0 [] [(2,.sl 2 ((putM l (Mk.mk (((l.getD (bestF l k) default).path).take ((((((l.getD (bestF l k) default).path).length:Nat):Int)-1).toNat)) true)).map mkc))] (Rt (.sl 2 ((putM l (Mk.mk (((l.getD (bestF l k) default).path).take ((((((l.getD (bestF l k) default).path).length:Nat):Int)-1).toNat)) true)).map mkc)) (fin_lea ?_)))
 obtain rfl:k=l.length:=hke
 rw[show parM (bestM l)=⟨(l.getD (bestF l l.length) default).path.take ((((l.getD (bestF l l.length) default).path.length:Int)-1).toNat),true⟩ by unfold parM bestM;rw[show(((l.getD (bestF l l.length) default).path.length:Int)-1).toNat=(l.getD (bestF l l.length) default).path.length-1 by omega]];exact lea_refl _
theorem sAdd_ok (l:List Mk) (m:Mk) (hl:∀m∈l,wS m.path<2^40) (hn:l.length<2^20) (hm:wS m.path<2^40):PC G 24 [.sl 2 (l.map mkc),.agg (mkc m)] (fun r=>∃l2,r=.sl 2 (l2.map mkc)/\TAdd l m l2):=by
 refine h_pc (F:=[(0,.sl 2 (l.map mkc)),(1,.agg (mkc m))]) (by simp only[go_sem]) Tryz.func24 kr kr ?_ kr
 refine Rr (Fn2 [0] [(3,.ptr 0 0)] [(0,mkc m)] 4 (Sq fun K2 hK2=>?_))
 refine Rr (Pc0 2 [(6,.sl 2 (l.map mkc))] 7 (sTrailOk_ok l hl om) (Cn0 (!(trOk l)) [0,3] [] ⟨fun hc4 c4=>?_,fun hc4 c4=>?_⟩))
 refine Rr (Fn3 [] [(4,.osl 4 2 0 0)] [(4,[]),(0,mkc m)] 8 ((0*2<=16777216)/\·) ⟨dc,Fz 4 2 0 ([]) ([]) [(4,.osl 4 2 0 0)] [] [] kr dc (Rt (.sl 2 ([].map mkc)) ?_)⟩)
 exact⟨[],List.nil_sublist _,_,(by simp[lea,leas]),⟨[],rfl,.inl ⟨by have h:=hc4;simpa using h,rfl⟩⟩,by simp only[pur,puress_mk]⟩
 refine Sk (Jn (hK2 (Kp [0,3] (Rr (Pc0 2 [(10,.sl 2 (l.map mkc))] 11 (copyM_ok l (by first|exact hl|exact hto.wS) om) (Fn0 [3] [(5,.sl 2 (l.map mkc))] (Sq fun K7 hK7=>?_)))))))
 refine Rr (Pc1 2 [(12,.agg (mkc m))] 13 (0+2<=2/\0<2) dc (sMarkOk_ok m om) (Cn0 (!(mkOk m)) [3,5] [] ⟨fun hc9 c9=>?_,fun hc9 c9=>?_⟩))
 refine Rr (Fn0 [] [(4,.sl 2 (l.map mkc))] (Rt (.sl 2 (l.map mkc)) ?_))
 exact⟨[],List.nil_sublist _,_,lea_refl _,⟨l,rfl,.inr (.inl ⟨by have h:=hc4;simpa using h,by have h:=hc9;simpa using h,rfl⟩)⟩,by simp only[pur,puress_mk]⟩
 refine Sk (Jn (hK7 (Kp [3,5] ?_)))
 obtain⟨ht,h6⟩:=trOk_trl (l:=l) (by have h:=hc4;simpa using h)
 have hmk:mkOk m=true:=by have h:=hc9;simpa using h
 have hpl:=putM_len l m
 refine Rr (Pc1 3 [(17,.agg (mkc m)),(16,.sl 2 (l.map mkc))] 18 (0+2<=2/\0<2) dc (put11_ok l m hl om om) (Fn0 [] [(5,.sl 2 ((putM l m).map mkc))] (Sq fun K12 hK12=>?_)))
 refine Bl (h_l (fun(o:List Mk)=>(match o with|o=>([(5,.sl 2 (o.map mkc))]:Fr))) (fun(o:List Mk)=>(match o with|o=>([(0,mkc m)]:Hp))) (fun(o:List Mk) cn=>(match o with|o=>(o.length<=7/\(∀r,Coar o r->Coar (putM l m) r)/\Trl o)/\cn=4)) (fun(o:List Mk)=>lenM o) (putM l m) kr ?_ ?_ ?_ ?_)
 refine⟨?_,rfl⟩;exact⟨om,fun _ h=>h,putM_trl ht hmk⟩
 exact⟨kr,trivial⟩
 exact(sub_c kr (List.nil_sublist _))
 rintro o n1 hI
 (try dsimp only at hI)
 obtain⟨⟨hi1,hi2,hto⟩,rfl⟩:=hI
 refine Sq fun K13 hK13=>?_
 refine Rr (Av0 (r:=.i ((o.map mkc).length:Nat)) (v:=.i o.length) 2 20 [(19,.sl 2 (o.map mkc))] lm (Cn1 (decide ((6:Int)<((o.length:Int):Int))) [5] [] (Ki/\·) ⟨rfl,fun hc15 c15=>?_,fun hc15 c15=>?_⟩))
 refine Sk (Jn (hK13 (Kp [5] (Bl ?_))))
 have hcl:=putM_coarlen hto om (best_pos hto om);have hcm:=lenM_coar hto om (best_pos hto om)
 refine Rn (Pc0 2 [(22,.sl 2 (o.map mkc))] 23 (coarser_ok o hto.wS om om (best_pos hto om)) (Gn0 [(5,.sl 2 ((putM o (parM (bestM o))).map mkc))] (nk_n (Bn ?_))))
 refine Lr (putM o (parM (bestM o))) [(0,0)] 4 [(5,.sl 2 ((putM o (parM (bestM o))).map mkc))] [(0,mkc m)] [true] ?_ ?_ kr kr
 (try dsimp only);omega
 refine⟨?_,rfl⟩;(try dsimp only);exact⟨om,fun r h=>hi2 r (.step om h),putM_trl hto (par_ok (hto.ok _ (best_mem om)))⟩
 refine Xt (Jx (Lx (Bh (Jn (hK12 (Kp [5] (Rr (Pc0 2 [(24,.sl 2 (o.map mkc))] 25 (copyM_ok o (by first|exact hl|exact hto.wS) om) (Fn0 [] [(4,.sl 2 (o.map mkc))] (Rt (.sl 2 (o.map mkc)) ?_))))))))))
 · exact⟨[],List.nil_sublist _,_,lea_refl _,⟨o,rfl,.inr (.inr ⟨by have h:=hc4;simpa using h,by have h:=hc9;simpa using h,hi2 _ (.done om)⟩)⟩,by simp only[pur,puress_mk]⟩
open Go Go.Proofs
set_option maxRecDepth 100000
def tDo (t:Tr) (l:List Mk) (c:Cl):Tr×Int:=bif trOk l then sTreeDo t c else(.none,1)
def TDoR (t:Tr) (l:List Mk) (c:Cl) (r:AV):Prop:=∃l2,r=.tup [.agg (tcs (tDo t l c).1),.sl 2 (l2.map mkc),.i (tDo t l c).2]/\((tDo t l c).2=0->trOk l=true/\CoL l (mksOf t c) l2)/\((tDo t l c).2≠0->l2=if(tDo t l c).2=1 then[]else l)
theorem parC_ne (t:Tr) (p:List Str):parC t p≠1:=by unfold parC;split<;>(try split)<;>decide
theorem fits_ne (y t:Tr):(fits y t).2≠1:=by unfold fits;dsimp only;split<;>decide
theorem sFile_ne (t:Tr) (c:Cl):(sFile t c).2≠1:=by
  unfold sFile
  repeat' first|exact fits_ne _ _|(rw[cond_eq_ite];split)|(dsimp only;decide)
theorem sRename_ne (t:Tr) (c:Cl):(sRename t c).2≠1:=by
  unfold sRename
  repeat' first|exact fits_ne _ _|exact parC_ne _ _|(rw[cond_eq_ite];split)|(dsimp only;decide)
theorem sDo_ne (t:Tr) (c:Cl):(sDo t c).2≠1:=by
  unfold sDo
  repeat' first|exact fits_ne _ _|exact parC_ne _ _|exact sFile_ne _ _|exact sRename_ne _ _|(rw[cond_eq_ite];split)|(dsimp only;decide)
theorem sT_none {t:Tr} {c:Cl} (h:(sTreeDo t c).2=1):(sTreeDo t c).1=.none:=by
  unfold sTreeDo at h⊢
  cases ht:treeOk t with
  |false=>rfl
  |true=>
    rw[ht]at h
    cases hc:callOk c with
    |false=>rw[hc]at h;exact absurd (show(2:Int)=1 from h) dc
    |true=>rw[hc]at h;exact absurd h (sDo_ne t c)
theorem sTD_ok {t:Tr} {c:Cl} (h:(sTreeDo t c).2=0):treeOk t=true/\callOk c=true:=by
  unfold sTreeDo at h
  cases ht:treeOk t with
  |false=>rw[ht]at h;cases h
  |true=>
    cases hc:callOk c with
    |false=>rw[ht,hc]at h;cases h
    |true=>exact⟨rfl,rfl⟩
theorem mksOf_ok {t:Tr} {c:Cl} (hc:callOk c=true) {m:Mk} (h:m∈mksOf t c):mkOk m=true:=by
  have key:pthOk m.path 1=true:=by
    unfold mksOf at h
    rw[hc]at h
    unfold callOk at hc
    cases hk:decide (c.kind=(5:Int))with
    |false=>
      rw[hk]at h
      simp only[Bool.not_true,cond_false,List.mem_cons,List.not_mem_nil,or_false]at h
      subst h
      (repeat' split at hc)<;>simp_all
    |true=>
      rw[hk]at h
      have hk5:c.kind=5:=of_decide_eq_true hk
      simp only[Bool.not_true,cond_false,cond_true,List.mem_cons,List.not_mem_nil,or_false]at h
      rcases h with rfl|rfl<;>(repeat' split at hc)<;>simp_all
  unfold mkOk
  unfold pthOk inb at key⊢
  simp only[Bool.and_eq_true,Bool.or_eq_true,decide_eq_true_eq]at key⊢
  exact⟨⟨key.1,om,key.2.2⟩,.inl om⟩
theorem TrailOf_ok (t:Tr) (c:Cl) (hw:t.W<2^40) (hto:treeOk t=true) (h1:wS c.path<2^40) (h2:wS c.to<2^40):PE G 23 [.agg (tcs t),.agg (clc c)] (.sl 2 ((mksOf t c).map mkc)):=by
 have hl1:=wS_len c.path;have hl2:=wS_len c.to;have hwf:=wf_ok hto
 refine Pe Tryz.func23 ?_
 refine Rr (Fn2 [] [(3,.ptr 4 0),(2,.ptr 0 0)] [(4,clc c),(0,tcs t)] 8 (Sq fun K2 hK2=>?_))
 refine Rm 15 ((!(treeOk t))||(!(callOk c))) [2,3] ?_ ?_
 refine Pc1 2 [(8,.agg (tcs t))] 9 (0+5<=5/\0<5) dc (sTreeOk_c t om) (An0 2 [(11,.bool (!(treeOk t))),(10,.bool (!(treeOk t)))] (Rg (fun hg4 g4=>?_) (fun hg4 g4=>?_)))
 refine Mn0 true (by rw[hg4];rfl)
 refine Pc1 2 [(12,.agg (clc c))] 13 (0+5<=5/\0<5) dc (l2CallOk_ok c om (fun s hs=>Nat.lt_trans (wS_mem hs) om) om (fun s hs=>Nat.lt_trans (wS_mem hs) om)) (Mn0 (!(callOk c)) (by rw[hg4];rfl))
 refine Cc ((!(treeOk t))||(!(callOk c))) (fun hc5 c5=>?_) fun hc5 c5=>?_
 refine Rr (Fn3 [] [(4,.osl 8 2 0 0)] [(8,[]),(4,clc c),(0,tcs t)] 12 ((0*2<=16777216)/\·) ⟨dc,Fz 8 2 0 ([]) ([]) [(4,.osl 8 2 0 0)] [] [] kr dc (Rt (.sl 2 ([].map mkc)) (fin_lea ?_))⟩)
 have hc:callOk c=false:=by have h:=hc5;rw[hto]at h;simpa using h
 rw[show mksOf t c=[] by unfold mksOf;rw[hc];rfl];simp[lea,leas]
 refine Sk (Jn (hK2 (Kp [2,3] ?_)))
 have hco:callOk c=true:=by have h:=hc5;rw[hto]at h;simpa using h
 refine Rr (An3 4 [(20,.osl 12 1 0 (0+(c.path.map (fun s=>[AV.str s])).length)),(19,pth c.path),(18,.ptr 4 1),(17,.osl 8 1 0 0)] [(12,apd [] (0*1) ((c.path.map (fun s=>[AV.str s])).flatten)),(4,clc c),(0,tcs t)] 16 ((0*1<=16777216)/\((1:Nat)≠0)/\(1+1<=5/\1<5)/\True/\(1=1/\0*1<=0/\0<16/\(0+(c.path.map (fun s=>[AV.str s])).length)*16<=140737488355328)/\·) ⟨dc,dc,dc,trivial,⟨rfl,gl,dc,gl⟩,run_v (v':=.osl 12 1 0 c.path.length) (by rw[Nat.zero_add,List.length_map]) (run_h (cs':=fl sc c.path) (app0_str _) (Fn0 [2,3] [(5,.osl 12 1 0 c.path.length)] ?_))⟩)
 refine Sq fun K8 hK8=>?_
 refine Rr (Cn1 (!decide ((c.kind:Int)=(5:Int))) [2,3,5] [] (((1:Nat)≠0)/\(0+1<=5/\0<5)/\Ki/\·) ⟨dc,dc,rfl,fun hc10 c10=>?_,fun hc10 c10=>?_⟩)
 refine Rr (Fn3 [] [(4,.osl 16 2 0 1)] [(16,[.osl 12 1 0 c.path.length,.bool false]),(12,fl sc c.path),(4,clc c),(0,tcs t)] 20 ((1*2<=16777216)/\·) ⟨dc,FzS 12 c.path [(4,.osl 16 2 0 1)] [(16,[.osl 12 1 0 c.path.length,.bool false])] [true] (Fz 16 2 1 ([[pth c.path,.bool false]]) ([pth c.path,.bool false]) [(4,.osl 16 2 0 1)] [] [] kr (by first|decide|simp) (Rt (.sl 2 ([Mk.mk c.path false].map mkc)) ?_))⟩)
 refine fin_lea ?_
 have hk:decide (c.kind=(5:Int))=false:=by have h:=hc10;simpa using h
 rw[show mksOf t c=[⟨c.path,false⟩] by unfold mksOf;rw[hco,hk];rfl];exact lea_refl _
 refine Sk (Jn (hK8 (Kp [2,3,5] (Rr (Bc1 4 [(30,pth c.path),(29,.ptr 4 1),(28,.agg (tcs t))] 58 [.agg (tcs t),pth c.path] 31 ((0+5<=5/\0<5)/\((1:Nat)≠0)/\(1+1<=5/\1<5)/\·) ⟨dc,dc,dc,PE.use (l1At_c c.path t om hwf om) (Ke ?_)⟩)))))
 refine Fn3 [3,5] [(6,.ptr 16 0)] [(16,tcs ((tat t c.path).getD .none)),(12,fl sc c.path),(4,clc c),(0,tcs t)] 20 ((0<2)/\(1<2)/\(true=true/\5=5/\0+5<=5)/\·) ⟨dc,dc,dc,Qr [0,0,2,7,0,0,32,112,0,256,1008,2047,4095] [(0,[]),(1,[]),(2,[]),(3,[]),(5,[]),(6,[]),(8,[]),(9,[]),(4,[2,6,9]),(7,[2,9]),(10,[]),(11,[]),(12,[])] (qAn3 10 [(41,.osl 24 1 0 (0+(c.to.map (fun s=>[AV.str s])).length)),(38,.osl 20 1 0 0),(43,.bool (((tat t c.path).getD .none).dir)),(42,.ptr 16 0),(40,pth c.to),(39,.ptr 4 2),(37,.agg [.osl 12 1 0 c.path.length,.bool (((tat t c.path).getD .none).dir)]),(36,.bool (((tat t c.path).getD .none).dir)),(35,.ptr 16 0),(34,.osl 12 1 0 c.path.length)] [(24,apd [] (0*1) ((c.to.map (fun s=>[AV.str s])).flatten)),(16,tcs ((tat t c.path).getD .none)),(12,fl sc c.path),(4,clc c),(0,tcs t)] 28 (fun Z=>((1:Nat)≠0)/\(0+1<=5/\0<5)/\((1:Nat)≠0)/\(2+1<=5/\2<5)/\((1:Nat)≠0)/\(0+1<=5/\0<5)/\(0*1<=16777216)/\(((0+1<=5/\0<5)/\(AV.bool (((tat t c.path).getD .none).dir)=(.bool (((tat t c.path).getD .none).dir):AV)))/\((2+1<=5/\2<5)/\(pth c.to=pth c.to))/\((0+1<=5/\0<5)/\(AV.bool (((tat t c.path).getD .none).dir)=(.bool (((tat t c.path).getD .none).dir):AV)))/\True)/\True/\(1=1/\0*1<=0/\0<16/\(0+(c.to.map (fun s=>[AV.str s])).length)*16<=140737488355328)/\(((0+1<=5/\0<5)/\(AV.bool (((tat t c.path).getD .none).dir)=(.bool (((tat t c.path).getD .none).dir):AV)))/\((0+1<=5/\0<5)/\(AV.bool (((tat t c.path).getD .none).dir)=(.bool (((tat t c.path).getD .none).dir):AV)))/\True)/\Z) ⟨dc,dc,dc,dc,dc,dc,dc,⟨⟨dc,rfl⟩,⟨dc,rfl⟩,⟨dc,rfl⟩,trivial⟩,trivial,⟨rfl,gl,dc,gl⟩,⟨⟨dc,rfl⟩,⟨dc,rfl⟩,trivial⟩,runq_v (v':=.osl 24 1 0 c.to.length) (by rw[Nat.zero_add,List.length_map]) (runq_h (cs':=fl sc c.to) (app0_str _) ?_)⟩)⟩
 refine qFn3 [] [(4,.osl 28 2 0 2)] [(28,[.osl 12 1 0 c.path.length,.bool (((tat t c.path).getD .none).dir),.osl 24 1 0 c.to.length,.bool (((tat t c.path).getD .none).dir)]),(24,fl sc c.to),(16,tcs ((tat t c.path).getD .none)),(12,fl sc c.path),(4,clc c),(0,tcs t)] 32 ((2*2<=16777216)/\(True)/\·) ⟨dc,trivial,FzS 24 c.to [(4,.osl 28 2 0 2)] [(28,[.osl 12 1 0 c.path.length,.bool (((tat t c.path).getD .none).dir),.osl 24 1 0 c.to.length,.bool (((tat t c.path).getD .none).dir)]),(12,fl sc c.path)] [true,false] (FzS 12 c.path [(4,.osl 28 2 0 2)] [(28,[.osl 12 1 0 c.path.length,.bool (((tat t c.path).getD .none).dir),pth c.to,.bool (((tat t c.path).getD .none).dir)])] [true] (Fz 28 2 2 ([[pth c.path,.bool (((tat t c.path).getD .none).dir)],[pth c.to,.bool (((tat t c.path).getD .none).dir)]]) ([pth c.path,.bool (((tat t c.path).getD .none).dir),pth c.to,.bool (((tat t c.path).getD .none).dir)]) [(4,.osl 28 2 0 2)] [] [] kr (by first|decide|simp) (Rt (.sl 2 ([Mk.mk c.path (((tat t c.path).getD .none).dir),Mk.mk c.to (((tat t c.path).getD .none).dir)].map mkc)) ?_)))⟩
 refine fin_lea ?_
 have hk:decide (c.kind=(5:Int))=true:=by have h:=hc10;simpa using h
 have hda:dirAt t c.path=((tat t c.path).getD .none).dir:=by unfold dirAt;cases tat t c.path<;>rfl
 rw[show mksOf t c=[⟨c.path,dirAt t c.path⟩,⟨c.to,dirAt t c.path⟩] by unfold mksOf;rw[hco,hk];rfl,hda];exact lea_refl _
theorem sTrailDo_ok (t:Tr) (l:List Mk) (c:Cl) (hw:t.W<2^40) (h1:wS c.path<2^40) (h2:wS c.to<2^40) (h3:c.data.length<2^20) (hl:∀m∈l,wS m.path<2^40) (hn:l.length<2^20):PC G 6 [.agg (tcs t),.sl 2 (l.map mkc),.agg (clc c)] (fun r=>TDoR t l c r):=by
 refine h_pc (F:=[(0,.agg (tcs t)),(1,.sl 2 (l.map mkc)),(2,.agg (clc c))]) (by simp only[go_sem]) Tryz.func6 kr kr ?_ kr
 refine Rr (Fn2 [1] [(6,.ptr 8 0),(5,.ptr 4 0),(3,.ptr 0 0)] [(8,zt),(4,clc c),(0,tcs t)] 12 (Sq fun K2 hK2=>?_))
 refine Rr (Pc0 2 [(14,.sl 2 (l.map mkc))] 15 (sTrailOk_ok l hl om) (Cn0 (!(trOk l)) [1,3,5,6] [] ⟨fun hc4 c4=>?_,fun hc4 c4=>?_⟩))
 refine Rr (Fn3 [6] [(8,.i 1),(7,.osl 12 2 0 0)] [(12,[]),(8,zt),(4,clc c),(0,tcs t)] 16 ((0*2<=16777216)/\(true=true/\5=5/\0+5<=5)/\·) ⟨dc,dc,Fz 12 2 0 ([]) ([]) [(6,.ptr 8 0),(7,.osl 12 2 0 0),(8,.i 1)] [(8,zt)] [true] kr dc (Rt1 ((0+5<=5/\0<5)/\·) (.tup [.agg zt,.sl 2 ([].map mkc),.i 1]) ⟨dc,?_⟩)⟩)
 have htr:trOk l=false:=by have h:=hc4;simpa using h
 have htd:tDo t l c=(.none,1):=by unfold tDo;rw[htr];rfl
 refine⟨[],List.nil_sublist _,_,?_,⟨[],by rw[htd],by rw[htd];simp,by rw[htd];simp⟩,by simp only[go_sem,pur,purs,puress_mk,Bool.and_self]⟩
 simp[lea,leas,Tr.none,tcs,pth]
 refine Sk (Jn (hK2 (Kp [1,3,5,6] ?_)))
 have htr:trOk l=true:=by have h:=hc4;simpa using h
 obtain⟨ht,h6⟩:=trOk_trl htr
 refine Rr (Bc1 3 [(21,.agg (clc c)),(20,.agg (tcs t))] 21 [.agg (tcs t),.agg (clc c)] 22 ((0+5<=5/\0<5)/\(0+5<=5/\0<5)/\·) ⟨dc,dc,PE.use (sTreeDo_ok t c om h1 h2 h3) (Ke (Fn3 [1,3,5,6] [(10,.i ((sTreeDo t c).2)),(9,.ptr 12 0)] [(12,tcs ((sTreeDo t c).1)),(8,zt),(4,clc c),(0,tcs t)] 16 ((0<2)/\(1<2)/\(true=true/\5=5/\0+5<=5)/\·) ⟨dc,dc,dc,?_⟩))⟩)
 refine Sq fun K7 hK7=>?_
 refine Rr (Cn1 (decide (((sTreeDo t c).2:Int)=(1:Int))) [1,3,5,6,9,10] [] (Ki/\·) ⟨rfl,fun hc9 c9=>?_,fun hc9 c9=>?_⟩)
 refine Rr (Fn3 [6] [(8,.i 1),(7,.osl 16 2 0 0)] [(16,[]),(12,tcs ((sTreeDo t c).1)),(8,zt),(4,clc c),(0,tcs t)] 20 ((0*2<=16777216)/\(true=true/\5=5/\0+5<=5)/\·) ⟨dc,dc,Fz 16 2 0 ([]) ([]) [(6,.ptr 8 0),(7,.osl 16 2 0 0),(8,.i 1)] [(8,zt)] [true] kr dc (Rt1 ((0+5<=5/\0<5)/\·) (.tup [.agg zt,.sl 2 ([].map mkc),.i 1]) ⟨dc,?_⟩)⟩)
 have htd:tDo t l c=sTreeDo t c:=by unfold tDo;rw[htr];rfl
 have hc1:(sTreeDo t c).2=1:=by have h:=c9;omega
 have htn:(sTreeDo t c).1=.none:=sT_none hc1
 refine⟨[],List.nil_sublist _,_,?_,⟨[],by rw[htd,htn,hc1],by rw[htd,hc1];simp,by rw[htd,hc1];simp⟩,by simp only[go_sem,pur,purs,puress_mk,Bool.and_self]⟩
 simp[lea,leas,Tr.none,tcs,pth]
 refine Sk (Jn (hK7 (Kp [1,3,5,6,9,10] (Sq fun K11 hK11=>?_))))
 refine Rr (Cn1 (!decide (((sTreeDo t c).2:Int)=(0:Int))) [1,3,5,6,9,10] [] (Ki/\·) ⟨rfl,fun hc13 c13=>?_,fun hc13 c13=>?_⟩)
 refine Qr [0,0,2,0,7,23,63] [(0,[]),(1,[]),(3,[]),(2,[0]),(4,[]),(5,[]),(6,[])] (qBc1 4 [(34,.i ((sTreeDo t c).2)),(32,.sl 2 (l.map mkc)),(31,.agg (tcs ((sTreeDo t c).1)))] [0] 22 [.sl 2 (l.map mkc)] 33 ((0+5<=5/\0<5)/\·) ⟨dc,PE.use (copyM_ok l hl om) (Kq (p:=(((0+5<=5/\0<5)/\(AV.agg (tcs ((sTreeDo t c).1))=(.agg (tcs ((sTreeDo t c).1)):AV)))/\True)) ⟨⟨dc,rfl⟩,trivial⟩ (qFn3 [6] [(8,.i ((sTreeDo t c).2)),(7,.sl 2 (l.map mkc))] [(12,tcs ((sTreeDo t c).1)),(8,tcs ((sTreeDo t c).1)),(4,clc c),(0,tcs t)] 16 ((true=true/\5=5/\0+5<=5)/\(True)/\·) ⟨dc,trivial,?_⟩))⟩)
 refine Rt1 ((0+5<=5/\0<5)/\·) (.tup [.agg (tcs ((sTreeDo t c).1)),.sl 2 (l.map mkc),.i ((sTreeDo t c).2)]) ⟨dc,?_⟩
 have htd:tDo t l c=sTreeDo t c:=by unfold tDo;rw[htr];rfl
 exact⟨[],List.nil_sublist _,_,lea_refl _,⟨l,by rw[htd],fun h=>absurd (htd▸h) c13,fun h=>by rw[htd]at h⊢;rw[if_neg c9]⟩,by simp only[go_sem,pur,purs,puress_mk,Bool.and_self]⟩
 refine Sk (Jn (hK11 (Kp [1,3,5,6,9] ?_)))
 obtain⟨hto,hco⟩:=sTD_ok (t:=t) (c:=c) (by have h:=c13;omega)
 have hml0:=mksOf_len t c
 refine Rr (Bc1 3 [(36,.agg (clc c)),(35,.agg (tcs t))] 23 [.agg (tcs t),.agg (clc c)] 37 ((0+5<=5/\0<5)/\(0+5<=5/\0<5)/\·) ⟨dc,dc,PE.use (TrailOf_ok t c hw (by have:=hto;assumption) h1 h2) (Ke (Fn0 [1,6,9] [(11,.sl 2 ((mksOf t c).map mkc))] ?_))⟩)
 refine Rr (Pc0 2 [(38,.sl 2 (l.map mkc))] 39 (copyM_ok l hl om) (Fn0 [6,9,11] [(12,.sl 2 (l.map mkc))] (Sq fun K17 hK17=>?_)))
 refine Rr (Fn0 [6,9,11,12] [(13,.i 0)] (Bl (h_l (fun(z:Nat×List Mk)=>(match z with|(k,o)=>([(6,.ptr 8 0),(9,.ptr 12 0),(11,.sl 2 ((mksOf t c).map mkc)),(12,.sl 2 (o.map mkc)),(13,.i k)]:Fr))) (fun(z:Nat×List Mk)=>(match z with|(k,o)=>([(12,tcs ((sTreeDo t c).1)),(8,zt),(4,clc c),(0,tcs t)]:Hp))) (fun(z:Nat×List Mk) cn=>(match z with|(k,o)=>(k<=(mksOf t c).length/\CoL l ((mksOf t c).take k) o)/\cn=16)) (fun(z:Nat×List Mk)=>(mksOf t c).length-z.1) (0,l) kr ?_ ?_ ?_ ?_)))
 refine⟨?_,rfl⟩;exact⟨Nat.zero_le _,.nil l⟩
 exact⟨kr,kr,kr,kr,kr,trivial⟩
 exact(sub_c kr (sub_c kr (sub_c kr (sub_c kr (List.nil_sublist _)))))
 rintro⟨k,o⟩ n1 hI
 (try dsimp only at hI)
 obtain⟨⟨hi1,hi2⟩,rfl⟩:=hI
 refine Sq fun K19 hK19=>?_
 refine Rr (Av0 (r:=.i (((mksOf t c).map mkc).length:Nat)) (v:=.i ((mksOf t c).length:Int)) 3 42 [(41,.sl 2 ((mksOf t c).map mkc)),(40,.i k)] lm (Cn1 (decide ((k:Int)<((mksOf t c).length:Int))) [6,9,11,12,13] [] (Ki/\·) ⟨rfl,fun hc21 c21=>?_,fun hc21 c21=>?_⟩))
 refine Sk (Jn (hK19 (Kp [6,9,11,12,13] (Sq fun K22 hK22=>?_))))
 refine Bl ?_
 have hmk:=getD_mem (mksOf t c) k default om
 have hok:=mksOf_ok (by assumption) hmk
 have hcl:=hi2.trl ht h6 fun m hm=>mksOf_ok (by assumption) (List.mem_of_mem_take hm)
 refine Rb (fun h=>Bn (Jn (hK22 h))) (Av1 4 49 [(48,.i k),(47,.sl 2 ((mksOf t c).map mkc)),(46,.sl 2 (o.map mkc))] (congrArg AV.pat (mg_mk (mksOf t c) k om)) ((2=2/\(0:Int)<=(k:Int)/\(k:Int)<(((mksOf t c).map mkc).length:Int))/\·) ⟨⟨rfl,om,lmo⟩,Bc1 2 [(50,.agg (mkc ((mksOf t c).getD k default)))] 24 [.sl 2 (o.map mkc),.agg (mkc ((mksOf t c).getD k default))] 51 ((2<=2/\0<2)/\·) ⟨dc,PC.use (sAdd_ok o ((mksOf t c).getD k default) hcl.1.wS om (by have:=mk_wS hok;omega)) fun r hr=>?_⟩⟩);obtain⟨ad23,rfl,had23⟩:=hr
 refine Ke (Fn0 [6,9,11,13] [(12,.sl 2 (ad23.map mkc))] (Rn (Av1 2 45 [(44,.i k)] (cI (wn1 k om)) (Ki/\·) ⟨rfl,Gn0 [(13,.i ((k+1:Nat):Int))] ?_⟩)))
 refine nk_n (Lr (k+1,ad23) [(0,0),(4,4),(8,8),(12,12)] 16 [(6,.ptr 8 0),(9,.ptr 12 0),(11,.sl 2 ((mksOf t c).map mkc)),(12,.sl 2 (ad23.map mkc)),(13,.i ((k+1:Nat):Int))] [(12,tcs ((sTreeDo t c).1)),(8,zt),(4,clc c),(0,tcs t)] [true,true,true,true] ?_ ?_ kr kr)
 (try dsimp only);omega
 refine ⟨?_, rfl⟩; (try dsimp only); exact ⟨om, by rw [take_snoc (mksOf t c) k default om]; exact .snoc hi2 (by
 rcases had23 with ⟨h,_⟩|⟨_,h,_⟩|⟨_,_,h⟩
 · rw[hcl.1.trOk hcl.2]at h;cases h
 · rw[hok]at h;cases h
 · exact h)⟩
 refine Xt (Jx (Lx (Bh (Jn (hK17 (Kp [6,9,12] (Rr (Fn3 [6] [(8,.i 0),(7,.sl 2 (o.map mkc))] [(12,tcs ((sTreeDo t c).1)),(8,tcs ((sTreeDo t c).1)),(4,clc c),(0,tcs t)] 16 ((0+5<=5/\0<5)/\(true=true/\5=5/\0+5<=5)/\·) ⟨dc,dc,Rt1 ((0+5<=5/\0<5)/\·) (.tup [.agg (tcs ((sTreeDo t c).1)),.sl 2 (o.map mkc),.i 0]) ⟨dc,?_⟩⟩))))))))
 have htd:tDo t l c=sTreeDo t c:=by unfold tDo;rw[htr];rfl
 have hc0:(sTreeDo t c).2=0:=by have h:=c13;omega
 obtain rfl:k=(mksOf t c).length:=by omega
 rw[List.take_length]at hi2
 exact⟨[],List.nil_sublist _,_,lea_refl _,⟨o,by rw[htd,hc0],fun _=>⟨htr,hi2⟩,fun h=>absurd (by rw[htd,hc0]) h⟩,by simp only[go_sem,pur,purs,puress_mk,Bool.and_self]⟩
open Go Go.Proofs
set_option maxRecDepth 100000
theorem delM {α:Type} {fc:α->List AV} (hf:∀x,(fc x).length=2) (X:List α) (i c:Nat) (hi:i<X.length) (hX:X.length<2^36) (hc:X.length<=c):TCw 1 G 53 [.ocl 0 2 0 X.length c,.i i,.i ((i+1:Nat):Int)] [(0,fl fc X)] 4 (fun r H1 _=>∃tl,unc r=.osl 0 2 0 (X.take i++X.drop (i+1)).length/\hgt H1 0=some (fl fc (X.take i++X.drop (i+1))++tl)):=by
 have hfl:=fun l:List α=>fl_len' hf l
 refine TCw_enter (c:=bd Tryz.f53) Tryz.func53 kr kr (tt_eq (F:=[(0,.ocl 0 2 0 X.length c),(1,.i i),(2,.i ((i+1:Nat):Int))]) kr ?_)
 refine Rr (Fn0 [0,1,2] [] (Rr (Fn1 [0,1,2] [] ((2=2/\(0:Int)<=(i:Int)/\(i:Int)<=((i+1:Nat):Int)/\((i+1:Nat):Int)<=(X.length:Int)/\(X.length:Int)<=(c:Int))/\·) ⟨⟨rfl,om,om,om,om⟩,Sq fun K3 hK3=>?_⟩)))
 refine Rr (Cn1 (decide ((i:Int)=((i+1:Nat):Int))) [0,1,2] [] (Ki/\·) ⟨rfl,fun hc5 c5=>?_,fun hc5 c5=>?_⟩)
 exfalso;omega
 refine Sk (Jn (hK3 (Kp [0,1,2] (Rr (Fn0 [0,1,2] [(7,.i X.length)] (Sl [0,0,3,0,0,24,63] [(0,[]),(1,[]),(2,[]),(3,[]),(4,[]),(5,[]),(6,[])] fun K7 hK7=>?_))))))
 refine qAn3 7 [(26,.ocl 0 2 0 (i+(X.length-(i+1))) c),(25,.ocl 0 2 (0+(i+1)*2) (X.length-(i+1)) (c-(i+1))),(24,.i ((i+1:Nat):Int)),(23,.ocl 0 2 0 X.length c),(22,.ocl 0 2 0 i c),(21,.i i),(20,.ocl 0 2 0 X.length c)] [(0,spl (fl fc X) (i*2) (((fl fc X).drop (0+(i+1)*2)).take ((X.length-(i+1))*2)))] 4 ((2=2/\0<=(0:Int)/\(0:Int)<=(i:Int)/\(i:Int)<=(c:Int))/\(2=2/\0<=(((i+1:Nat):Int):Int)/\(((i+1:Nat):Int):Int)<=(X.length:Int)/\(X.length:Int)<=(c:Int))/\(0+(i+1)*2+(X.length-(i+1))*2<=(fl fc X).length)/\(2=2/\i+(X.length-(i+1))<=c/\(i+(X.length-(i+1)))*2<=(fl fc X).length)/\(True)/\·) ⟨⟨rfl,om,om,om⟩,⟨rfl,om,om,om⟩,(by(first|omega|(simp only[LL,hfl,zrs_len'];omega))),⟨rfl,by(first|omega|(simp only[LL,hfl,zrs_len'];omega)),by(first|omega|(simp only[LL,hfl,zrs_len'];omega))⟩,trivial,runq_H (H':=[(0,fl fc (X.take i++X.drop (i+1))++fl fc (X.drop (X.length-1)))]) (by rw[show spl (fl fc X) (i*2) (((fl fc X).drop (0+(i+1)*2)).take ((X.length-(i+1))*2))=fl fc (X.take i++X.drop (i+1))++fl fc (X.drop (X.length-1))from(by rw[<-id1 hf X i om,Nat.zero_add,fl_drop hf,List.take_of_length_le (by rw[hfl,List.length_drop];omega)])]) (qGn0 [] (Lo 0 (.ocl 0 2 0 (i+(X.length-(i+1))) c) (fun Z=>Z) (hK7 _ _ _ ?_)))⟩
 refine Kp [0,7] (Rr (An3 6 [(31,.ocl 0 2 (0+(i+(X.length-(i+1)))*2) (X.length-(i+(X.length-(i+1)))) (c-(i+(X.length-(i+1))))),(30,.i X.length),(29,.i ((i+(X.length-(i+1)):Nat):Int)),(28,.ocl 0 2 0 (i+(X.length-(i+1))) c),(27,.ocl 0 2 0 (i+(X.length-(i+1))) c)] [(0,spl (fl fc (X.take i++X.drop (i+1))++fl fc (X.drop (X.length-1))) (0+(i+(X.length-(i+1)))*2) (zrs (X.length-(i+(X.length-(i+1)))) [.nils,.bool false]))] 4 (fun Z=>(2=2/\0<=(((i+(X.length-(i+1)):Nat):Int):Int)/\(((i+(X.length-(i+1)):Nat):Int):Int)<=(X.length:Int)/\(X.length:Int)<=(c:Int))/\(2=2/\0+(i+(X.length-(i+1)))*2+(X.length-(i+(X.length-(i+1))))*2<=(fl fc (X.take i++X.drop (i+1))++fl fc (X.drop (X.length-1))).length)/\Z) ⟨⟨rfl,om,om,om⟩,⟨rfl,by(first|omega|(simp only[LL,hfl,zrs_len'];omega))⟩,run_H (H':=[(0,fl fc (X.take i++X.drop (i+1))++zrs 1 [.nils,.bool false])]) (by rw[show spl (fl fc (X.take i++X.drop (i+1))++fl fc (X.drop (X.length-1))) (0+(i+(X.length-(i+1)))*2) (zrs (X.length-(i+(X.length-(i+1)))) [.nils,.bool false])=fl fc (X.take i++X.drop (i+1))++zrs 1 [.nils,.bool false]from(by rw[<-id2 hf X i [.nils,.bool false] rfl om];congr 1<;>first|omega|(congr 1;omega))]) (Fn0 [0] [] ?_)⟩))
 refine Rr (Fn0 [] [(6,.ocl 0 2 0 (i+(X.length-(i+1))) c)] (Rt (.ocl 0 2 0 (i+(X.length-(i+1))) c) (⟨_,List.Sublist.refl _,zrs 1 [.nils,.bool false],?_,?_⟩)))
 · show AV.osl _ _ _ _=AV.osl _ _ _ _
   congr 1
   simp only[List.length_append,List.length_take,List.length_drop];omega
 · kernel_rfl
theorem addM_ok:∀(N:Nat) (l:List Mk) (m:Mk),lenM l+m.path.length=N->Trl l->mkOk m=true->l.length<=6->PC G 20 [.sl 2 (l.map mkc),.agg (mkc m)] (fun r=>∃l2,r=.sl 2 (l2.map mkc)/\Coar (putM l m) l2):=by
 intro N;refine Nat.strongRecOn N fun N ih=>?_;intro l m hN ht hmk hn;have hl:=ht.wS;have hm:wS m.path<2^40:=(by have:=mk_wS hmk;omega);have hml:=wS_len m.path
 refine h_pc (F:=[(0,.sl 2 (l.map mkc)),(1,.agg (mkc m))]) (by simp only[go_sem]) Tryz.func20 kr kr ?_ kr
 refine Rr (Fn2 [0] [(3,.ptr 0 0)] [(0,mkc m)] 4 (Sq fun K2 hK2=>?_))
 refine Rm 26 (addC l m) [0,3] ?_ ?_
 refine Bc1 4 [(14,pth m.path),(13,.ptr 0 0),(12,.sl 2 (l.map mkc))] 31 [.sl 2 (l.map mkc),pth m.path] 15 (((1:Nat)≠0)/\(0+1<=2/\0<2)/\·) ⟨dc,dc,?_⟩
 refine PE.use (under_ok l m.path hl om om) ?_
 refine Ke (An0 1 [(16,.bool (undM l m.path))] (Rg (fun hg4 g4=>?_) (fun hg4 g4=>?_)))
 refine Mn0 true (by unfold addC;first|(simp_all;done)|(rw[Bool.eq_iff_iff];simp_all;done))
 refine An1 4 [(20,.bool (!m.sub)),(19,.bool (!m.sub)),(18,.bool m.sub),(17,.ptr 0 1)] (((1:Nat)≠0)/\(1+1<=2/\1<2)/\·) ⟨dc,dc,Rg (fun hg5 g5=>?_) (fun hg5 g5=>?_)⟩
 refine Bc1 4 [(23,pth m.path),(22,.ptr 0 0),(21,.sl 2 (l.map mkc))] 49 [.sl 2 (l.map mkc),pth m.path] 24 (((1:Nat)≠0)/\(0+1<=2/\0<2)/\·) ⟨dc,dc,?_⟩
 refine PE.use (marked_ok l m.path hl om om) ?_
 refine Ke (Mn0 (mrkM l m.path) (by unfold addC;first|(simp_all;done)|(rw[Bool.eq_iff_iff];simp_all;done)))
 refine Mn0 false (by unfold addC;first|(simp_all;done)|(rw[Bool.eq_iff_iff];simp_all;done))
 refine Cc (addC l m) (fun hc6 c6=>?_) fun hc6 c6=>?_
 refine Rr (Fn0 [] [(4,.sl 2 (l.map mkc))] (Rt (.sl 2 (l.map mkc)) ?_))
 · have hp:putM l m=l:=if_pos hc6
   exact⟨[],List.nil_sublist _,_,lea_refl _,⟨l,rfl,(by rw[hp];exact .done hn)⟩,by simp only[pur,puress_mk]⟩
 refine Sk (Jn (hK2 (Kp [0,3] (Rr (Fn3 [0,3] [(5,.osl 4 2 0 0)] [(4,[]),(0,mkc m)] 8 ((0*2<=16777216)/\·) ⟨dc,Sq fun K9 hK9=>?_⟩)))))
 refine Rr (Av0 (r:=.i ((l.map mkc).length:Nat)) (v:=.i l.length) 2 30 [(29,.sl 2 (l.map mkc))] lm (Fn0 [3,5,29,30] [(31,.i 0)] (Bl (h_l (fun(k:Nat)=>([(3,.ptr 0 0),(5,.osl 4 2 0 (((l.take k).filter (keepM m)).length)),(29,.sl 2 (l.map mkc)),(30,.i l.length),(31,.i k)]:Fr)) (fun(k:Nat)=>([(4,fl mkc ((l.take k).filter (keepM m))),(0,mkc m)]:Hp)) (fun(k:Nat) cn=>(k<=l.length)/\cn=8) (fun(k:Nat)=>l.length-k) 0 kr ?_ ?_ ?_ ?_))))
 refine⟨?_,rfl⟩;exact Nat.zero_le _
 exact⟨kr,kr,kr,kr,kr,trivial⟩
 exact(sub_c kr (sub_c kr (List.nil_sublist _)))
 rintro k n1 hI
 (try dsimp only at hI)
 obtain⟨hi1,rfl⟩:=hI
 refine Rr (Fn1 [3,5,29,30,31] [(32,.bool (decide ((k:Int)<(l.length:Int))))] (Ki/\·) ⟨rfl,Sq fun K12 hK12=>?_⟩)
 refine Cc (decide ((k:Int)<(l.length:Int))) (fun hc13 c13=>?_) fun hc13 c13=>?_
 refine Sk (Jn (hK12 (Kp [3,5,29,30,31] (Sq fun K14 hK14=>?_))))
 refine Bl (Rr (Av1 1 33 [] (congrArg AV.pat (mg_mk l k om)) ((2=2/\(0:Int)<=(k:Int)/\(k:Int)<((l.map mkc).length:Int))/\·) ⟨⟨rfl,om,lmo⟩,Fn3 [3,5,29,30,31] [(7,.ptr 8 0)] [(8,mkc (l.getD k default)),(4,fl mkc ((l.take k).filter (keepM m))),(0,mkc m)] 12 ((2<=2/\0<2)/\(true=true/\2=2/\0+2<=2)/\·) ⟨dc,dc,?_⟩⟩))
 have hgm:=hl _ (getD_mem l k default om);have hgl:=wS_len (l.getD k default).path
 refine Rm 45 (keepM m (l.getD k default)) [3,5,7,29,30,31] ?_ ?_
 refine An1 4 [(38,.bool (!m.sub)),(37,.bool (!m.sub)),(36,.bool m.sub),(35,.ptr 0 1)] (((1:Nat)≠0)/\(1+1<=2/\1<2)/\·) ⟨dc,dc,Rg (fun hg17 g17=>?_) (fun hg17 g17=>?_)⟩
 refine Mn0 true (by unfold keepM;first|(simp_all;done)|(rw[Bool.eq_iff_iff];simp_all;done))
 refine Bc1 5 [(42,pth m.path),(41,.ptr 0 0),(40,pth ((l.getD k default).path)),(39,.ptr 8 0)] 50 [pth ((l.getD k default).path),pth m.path] 43 (((1:Nat)≠0)/\(0+1<=2/\0<2)/\((1:Nat)≠0)/\(0+1<=2/\0<2)/\·) ⟨dc,dc,dc,dc,?_⟩
 refine PE.use (begins_ok ((l.getD k default).path) m.path om om) ?_
 refine Ke (Mn0 (!(m.path.isPrefixOf ((l.getD k default).path))) (by unfold keepM;first|(simp_all;done)|(rw[Bool.eq_iff_iff];simp_all;done)))
 refine Cc (keepM m (l.getD k default)) (fun hc18 c18=>?_) fun hc18 c18=>?_
 have hflt:=List.length_filter_le (keepM m) (l.take k);have htk:(l.take k).length<=l.length:=by rw[List.length_take];omega
 refine Rb (fun h=>Bn (Jn (hK14 h))) (An3 4 [(49,.osl 16 2 0 (((l.take k).filter (keepM m)).length+1)),(48,.osl 12 2 0 1),(47,.agg (mkc (l.getD k default))),(46,.osl 4 2 0 (((l.take k).filter (keepM m)).length))] [(16,apd (fl mkc ((l.take k).filter (keepM m))) (((l.take k).filter (keepM m)).length*2) (mkc (l.getD k default))),(12,mkc (l.getD k default)),(8,mkc (l.getD k default)),(0,mkc m)] 20 ((0+2<=2/\0<2)/\(1*2<=16777216)/\(0+1*2<=2)/\(2=2/\((l.take k).filter (keepM m)).length*2<=(fl mkc ((l.take k).filter (keepM m))).length/\0<32/\(((l.take k).filter (keepM m)).length+1)*32<=140737488355328)/\·) ⟨dc,dc,dc,⟨rfl,by(first|omega|(simp only[LL,flMl];omega)),dc,by(first|omega|(simp only[LL,flMl];omega))⟩,run_v (v':=.osl 16 2 0 (((l.take k).filter (keepM m)++[(l.getD k default)]).length)) (push_len _ _ _ _) (run_h (cs':=fl mkc ((l.take k).filter (keepM m)++[(l.getD k default)])) (push_mk ((l.take k).filter (keepM m)) (l.getD k default)) (Fn0 [3,29,30,31] [(5,.osl 16 2 0 (((l.take k).filter (keepM m)++[(l.getD k default)]).length))] ?_))⟩)
 refine Rn (Av1 1 50 [] (cI (wn1 k om)) (Ki/\·) ⟨rfl,Gn0 [(31,.i ((k+1:Nat):Int))] (nk_n (Lr (k+1) [(0,0),(16,4)] 8 [(3,.ptr 0 0),(5,.osl 16 2 0 (((l.take k).filter (keepM m)++[(l.getD k default)]).length)),(29,.sl 2 (l.map mkc)),(30,.i l.length),(31,.i ((k+1:Nat):Int))] [(16,fl mkc ((l.take k).filter (keepM m)++[(l.getD k default)])),(0,mkc m)] [false,true] ?_ ?_ (by(try ((try dsimp only);rw[filt_t om hc18]));try kernel_rfl) (by(try ((try dsimp only);rw[filt_t om hc18]));try kernel_rfl)))⟩)
 (try dsimp only);omega
 refine⟨?_,rfl⟩;(try dsimp only);omega
 refine Sk (Bn (Jn (hK14 (Kp [3,5,29,30,31] (Rn (Av1 1 50 [] (cI (wn1 k om)) (Ki/\·) ⟨rfl,Gn0 [(31,.i ((k+1:Nat):Int))] (nk_n ?_)⟩))))))
 refine Lr (k+1) [(0,0),(4,4)] 8 [(3,.ptr 0 0),(5,.osl 4 2 0 (((l.take k).filter (keepM m)).length)),(29,.sl 2 (l.map mkc)),(30,.i l.length),(31,.i ((k+1:Nat):Int))] [(4,fl mkc ((l.take k).filter (keepM m))),(0,mkc m)] [false,true] ?_ ?_ (by(try ((try dsimp only);rw[filt_f om hc18]));try kernel_rfl) (by(try ((try dsimp only);rw[filt_f om hc18]));try kernel_rfl)
 (try dsimp only);omega
 refine⟨?_,rfl⟩;(try dsimp only);omega
 refine Xt (Jx (Lx (Bh (Jn (hK9 (Kp [3,5] ?_))))))
 have hlA:∀q∈(l.take k).filter (keepM m)++[m],wS q.path<2^40:=by
   intro q hq
   rcases List.mem_append.1 hq with h|h
   · exact hl _ (List.mem_of_mem_take (List.mem_filter.1 h).1)
   · rw[List.mem_singleton]at h;subst h;exact hm
 have hflt:=List.length_filter_le (keepM m) (l.take k)
 have htk:(l.take k).length<=l.length:=by rw[List.length_take];omega
 have hall:((l.take k).filter (keepM m)++[m]).length<=12:=by rw[List.length_append,List.length_singleton];omega
 refine Rr (An3 4 [(54,.osl 12 2 0 (((l.take k).filter (keepM m)).length+1)),(53,.osl 8 2 0 1),(52,.agg (mkc m)),(51,.osl 4 2 0 (((l.take k).filter (keepM m)).length))] [(12,apd (fl mkc ((l.take k).filter (keepM m))) (((l.take k).filter (keepM m)).length*2) (mkc m)),(8,mkc m),(0,mkc m)] 16 ((0+2<=2/\0<2)/\(1*2<=16777216)/\(0+1*2<=2)/\(2=2/\((l.take k).filter (keepM m)).length*2<=(fl mkc ((l.take k).filter (keepM m))).length/\0<32/\(((l.take k).filter (keepM m)).length+1)*32<=140737488355328)/\·) ⟨dc,dc,dc,⟨rfl,by(first|omega|(simp only[LL,flMl];omega)),dc,by(first|omega|(simp only[LL,flMl];omega))⟩,run_v (v':=.osl 12 2 0 (((l.take k).filter (keepM m)++[m]).length)) (push_len _ _ _ _) (run_h (cs':=fl mkc ((l.take k).filter (keepM m)++[m])) (push_mk ((l.take k).filter (keepM m)) m) (Fn0 [] [(5,.osl 12 2 0 (((l.take k).filter (keepM m)++[m]).length))] ?_))⟩)
 refine Rr (Bc0 2 [(55,.osl 12 2 0 (((l.take k).filter (keepM m)++[m]).length))] 51 [.osl 12 2 0 (((l.take k).filter (keepM m)++[m]).length),.fn (.func 52) []] 56 (XC.use (a:=fun i=>.osl i 2 0 ((l.take k).filter (keepM m)++[m]).length) (SortM_ok ((l.take k).filter (keepM m)++[m]) hlA om) kr fun r cs hr=>?_));obtain⟨Y21,rfl,hpY21,hsY21⟩:=hr.2;obtain rfl:=hr.1
 refine Ke (Fn0 [5] [] (h_k [5] (F':=[(5,.osl 12 2 0 (((l.take k).filter (keepM m)++[m]).length))]) kr (h_st (F':=[(5,.osl 12 2 0 Y21.length)]) (H':=[(12,fl mkc Y21),(8,mkc m),(0,mkc m)]) (by rw[hpY21.length_eq]) rfl ?_)))
 have hY:Y21=putM l m:=AddR.put ht hmk (.inr ⟨hc6,by have h:=hpY21;rw[List.take_of_length_le om]at h;exact h,hsY21⟩)
 subst hY
 have hpl:=putM_len l m;have hTp:=putM_trl ht hmk;have hlp:=hTp.wS;have hpm:=lenM_put l m
 refine Sq fun K22 hK22=>?_
 refine Bl (h_l (fun(z:Option (List Mk))=>(match z with|none=>([(5,.osl 12 2 0 ((putM l m).length))]:Fr)|some r=>([(5,.sl 2 (r.map mkc))]:Fr))) (fun(z:Option (List Mk))=>(match z with|none=>([(12,fl mkc (putM l m)),(0,mkc m)]:Hp)|some r=>([(0,mkc m)]:Hp))) (fun(z:Option (List Mk)) cn=>(match z with|none=>(True)/\cn=16|some r=>(Coar (putM l m) r/\r.length<=6)/\cn=4)) (fun(z:Option (List Mk))=>(match z with|none=>1|some _=>0)) none kr ?_ ?_ ?_ ?_)
 refine⟨?_,rfl⟩;trivial
 exact⟨kr,trivial⟩
 exact(sub_c kr (List.Sublist.cons _ (sub_c kr (List.nil_sublist _))))
 rintro(_|r) n1 hI
 (try dsimp only at hI)
 obtain⟨-,rfl⟩:=hI
 dsimp only
 refine Sq fun K23 hK23=>?_
 refine Rr (Cn1 (decide ((6:Int)<(((putM l m).length:Int):Int))) [5] [] (Ki/\·) ⟨rfl,fun hc25 c25=>?_,fun hc25 c25=>?_⟩)
 refine Sk (Jn (hK23 (Kp [5] (Bl (Rr (Fn0 [5] [(8,.i 0)] (Sq fun K27 hK27=>?_)))))))
 refine Rr (Fn0 [5,8] [(62,.i 0),(61,.i ((putM l m).length:Int)),(60,.osl 12 2 0 ((putM l m).length))] (Bl (h_l (fun(k:Nat)=>([(5,.osl 12 2 0 ((putM l m).length)),(8,.i ((bestF (putM l m) k:Nat):Int)),(60,.osl 12 2 0 ((putM l m).length)),(61,.i ((putM l m).length:Int)),(62,.i k)]:Fr)) (fun(k:Nat)=>([(12,fl mkc (putM l m)),(0,mkc m)]:Hp)) (fun(k:Nat) cn=>(k<=(putM l m).length)/\cn=16) (fun(k:Nat)=>(putM l m).length-k) 0 kr ?_ ?_ ?_ ?_)))
 refine⟨?_,rfl⟩;exact Nat.zero_le _
 exact⟨kr,kr,kr,kr,kr,trivial⟩
 exact(sub_c kr (sub_c kr (List.nil_sublist _)))
 rintro k n1 hI
 (try dsimp only at hI)
 obtain⟨hb1,rfl⟩:=hI
 refine Rr (Fn1 [5,8,60,61,62] [(63,.bool (decide ((k:Int)<((putM l m).length:Int))))] (Ki/\·) ⟨rfl,Sq fun K30 hK30=>?_⟩)
 refine Cc (decide ((k:Int)<((putM l m).length:Int))) (fun hc31 c31=>?_) fun hc31 c31=>?_
 refine Sk (Jn (hK30 (Kp [5,8,60,61,62] (Sq fun K32 hK32=>?_))))
 refine Bl (Rr (Av1 (r:=.agg (((fl mkc (putM l m)).drop (0+k*2)).take 2)) (v:=.agg (mkc ((putM l m).getD k default))) 3 66 [(65,.ptr 12 (0+k*2)),(64,.i k)] (congrArg AV.agg (rowM_get (putM l m) k om)) ((2=2/\(0:Int)<=(k:Int)/\(k:Int)<((putM l m).length:Int))/\(0+k*2+2<=(fl mkc (putM l m)).length/\0+k*2<(fl mkc (putM l m)).length)/\·) ⟨⟨rfl,om,om⟩,⟨by rw[flMl];omega,by rw[flMl];omega⟩,Fn3 [5,8,60,61,62] [(9,.i k),(10,.ptr 16 0)] [(16,mkc ((putM l m).getD k default)),(12,fl mkc (putM l m)),(0,mkc m)] 20 ((true=true/\2=2/\0+2<=2)/\·) ⟨dc,?_⟩⟩))
 have hbb:bestF (putM l m) k<(putM l m).length:=by
   rcases Nat.eq_zero_or_pos k with rfl|h
   · simp[bestF];omega
   · have:=bestF_lt (putM l m) k h;omega
 have hg1:=hlp _ (getD_mem (putM l m) k default om);have hg2:=hlp _ (getD_mem (putM l m) (bestF (putM l m) k) default hbb);have hg3:=wS_len ((putM l m).getD k default).path;have hg4:=wS_len ((putM l m).getD (bestF (putM l m) k) default).path
 refine Qr [0,1,3,0,0,24,56,120,248,511] [(0,[]),(1,[]),(2,[]),(3,[]),(4,[]),(5,[]),(6,[]),(7,[]),(8,[]),(9,[])] (qAv1 (r:=.i (((((putM l m).getD k default).path).map (fun s=>[AV.str s])).length:Nat)) (v:=.i (((((putM l m).getD k default).path).length:Nat):Int)) 3 69 [(68,pth (((putM l m).getD k default).path)),(67,.ptr 16 0)] lm (((1:Nat)≠0)/\(0+1<=2/\0<2)/\·) ⟨dc,dc,qAv1 (r:=((fl mkc (putM l m)).getD (0+(bestF (putM l m) k)*2) .dead)) (v:=pth (((putM l m).getD (bestF (putM l m) k) default).path)) 5 74 [(73,.ptr 12 (0+(bestF (putM l m) k)*2)),(72,.ptr 12 (0+(bestF (putM l m) k)*2)),(71,.i ((bestF (putM l m) k:Nat):Int)),(70,.osl 12 2 0 ((putM l m).length))] (rowM_fld (putM l m) (bestF (putM l m) k) 0 om dc) ((2=2/\(0:Int)<=((bestF (putM l m) k:Nat):Int)/\((bestF (putM l m) k:Nat):Int)<((putM l m).length:Int))/\((1:Nat)≠0)/\(0+(bestF (putM l m) k)*2+1<=(fl mkc (putM l m)).length/\0+(bestF (putM l m) k)*2<(fl mkc (putM l m)).length)/\·) ⟨⟨rfl,om,om⟩,dc,⟨by rw[flMl];omega,by rw[flMl];omega⟩,qAv0 (r:=.i (((((putM l m).getD (bestF (putM l m) k) default).path).map (fun s=>[AV.str s])).length:Nat)) (v:=.i (((((putM l m).getD (bestF (putM l m) k) default).path).length:Nat):Int)) 1 75 [] lm (qCn1 (decide ((((((putM l m).getD (bestF (putM l m) k) default).path).length:Nat):Int)<=(((((putM l m).getD k default).path).length:Nat):Int))) [5,8,9,60,61,62] [] (Ki/\·) ⟨rfl,fun hc35 c35=>?_,fun hc35 c35=>?_⟩)⟩⟩)
 refine Rb (fun h=>Bn (Jn (hK32 h))) (Fn0 [5,60,61,62] [(8,.i k)] (Rn (Av1 1 78 [] (cI (wn1 k om)) (Ki/\·) ⟨rfl,Gn0 [(62,.i ((k+1:Nat):Int))] ?_⟩)))
 refine nk_n (Lr (k+1) [(0,0),(12,12)] 16 [(5,.osl 12 2 0 ((putM l m).length)),(8,.i k),(60,.osl 12 2 0 ((putM l m).length)),(61,.i ((putM l m).length:Int)),(62,.i ((k+1:Nat):Int))] [(12,fl mkc (putM l m)),(0,mkc m)] [false,true] ?_ ?_ kr (by(try ((try dsimp only);rw[show bestF (putM l m) (k+1)=k by rw[bestF_suc,if_pos om]]));try kernel_rfl))
 (try dsimp only);omega
 refine⟨?_,rfl⟩;(try dsimp only);omega
 refine Sk (Bn (Jn (hK32 (Kp [5,8,60,61,62] (Rn (Av1 1 78 [] (cI (wn1 k om)) (Ki/\·) ⟨rfl,Gn0 [(62,.i ((k+1:Nat):Int))] (nk_n ?_)⟩))))))
 refine Lr (k+1) [(0,0),(12,12)] 16 [(5,.osl 12 2 0 ((putM l m).length)),(8,.i ((bestF (putM l m) k:Nat):Int)),(60,.osl 12 2 0 ((putM l m).length)),(61,.i ((putM l m).length:Int)),(62,.i ((k+1:Nat):Int))] [(12,fl mkc (putM l m)),(0,mkc m)] [false,true] ?_ ?_ kr (by(try ((try dsimp only);rw[show bestF (putM l m) (k+1)=bestF (putM l m) k by rw[bestF_suc,if_neg om]]));try kernel_rfl)
 (try dsimp only);omega
 refine⟨?_,rfl⟩;(try dsimp only);omega
 refine Xt (Jx (Lx (Bh (Jn (hK27 (Kp [5,8] ?_))))))
 have hbb:=bestF_lt (putM l m) k om;have hg2:=hlp _ (getD_mem (putM l m) (bestF (putM l m) k) default om);have hg4:=wS_len ((putM l m).getD (bestF (putM l m) k) default).path
 refine Rr (Av1 (r:=((fl mkc (putM l m)).getD (0+(bestF (putM l m) k)*2) .dead)) (v:=pth (((putM l m).getD (bestF (putM l m) k) default).path)) 5 83 [(82,.ptr 12 (0+(bestF (putM l m) k)*2)),(81,.ptr 12 (0+(bestF (putM l m) k)*2)),(80,.i ((bestF (putM l m) k:Nat):Int)),(79,.osl 12 2 0 ((putM l m).length))] (rowM_fld (putM l m) (bestF (putM l m) k) 0 om dc) ((2=2/\(0:Int)<=((bestF (putM l m) k:Nat):Int)/\((bestF (putM l m) k:Nat):Int)<((putM l m).length:Int))/\((1:Nat)≠0)/\(0+(bestF (putM l m) k)*2+1<=(fl mkc (putM l m)).length/\0+(bestF (putM l m) k)*2<(fl mkc (putM l m)).length)/\·) ⟨⟨rfl,om,om⟩,dc,⟨by rw[flMl];omega,by rw[flMl];omega⟩,Fn0 [5,8] [(11,pth (((putM l m).getD (bestF (putM l m) k) default).path))] (Rr (Av1 4 87 [(86,.i ((bestF (putM l m) k:Nat):Int)),(85,.i ((bestF (putM l m) k:Nat):Int)),(84,.osl 12 2 0 ((putM l m).length))] (cI (wn1 (bestF (putM l m) k) om)) (Ki/\·) ⟨rfl,?_⟩))⟩)
 refine Bc0 1 [] 53 [.osl 12 2 0 ((putM l m).length),.i ((bestF (putM l m) k:Nat):Int),.i (((bestF (putM l m) k)+1:Nat):Int)] 88 ?_
 refine xd_use (X:=(putM l m)) (Y:=(putM l m).take (bestF (putM l m) k)++(putM l m).drop ((bestF (putM l m) k)+1)) (by simp only[go_sem,purs,pur,Bool.and_self]) (purs_flM _) (purs_flM _) (fun c hc=>delM mkc_len (putM l m) (bestF (putM l m) k) c om om hc) kr ?_
 refine Ke (Fn0 [11] [(5,.osl 12 2 0 (((putM l m).take (bestF (putM l m) k)++(putM l m).drop ((bestF (putM l m) k)+1)).length))] ?_)
 have hke:k=(putM l m).length:=by omega
 have hpos:=best_pos hTp om
 have hbk:bestM (putM l m)=(putM l m).getD (bestF (putM l m) k) default:=by rw[hke];rfl
 have hbb:=bestF_lt (putM l m) k om
 have hp2:0<((putM l m).getD (bestF (putM l m) k) default).path.length:=hbk▸hpos
 refine Rn (Av0 (r:=.i (((((putM l m).getD (bestF (putM l m) k) default).path).map (fun s=>[AV.str s])).length:Nat)) (v:=.i (((((putM l m).getD (bestF (putM l m) k) default).path).length:Nat):Int)) 4 92 [(91,pth (((putM l m).getD (bestF (putM l m) k) default).path)),(90,pth (((putM l m).getD (bestF (putM l m) k) default).path)),(89,.osl 12 2 0 (((putM l m).take (bestF (putM l m) k)++(putM l m).drop ((bestF (putM l m) k)+1)).length))] lm (Av1 (r:=.i (IntKind.i64.wrap ((((((putM l m).getD (bestF (putM l m) k) default).path).length:Nat):Int)-1))) (v:=.i ((((((putM l m).getD (bestF (putM l m) k) default).path).length:Nat):Int)-1)) 1 93 [] (cI (wrap64 om om)) (Ki/\·) ⟨rfl,Av1 (r:=.sl 1 ((((((putM l m).getD (bestF (putM l m) k) default).path).map (fun s=>[AV.str s])).take (((((((putM l m).getD (bestF (putM l m) k) default).path).length:Nat):Int)-1).toNat)).drop 0)) (v:=pth ((((putM l m).getD (bestF (putM l m) k) default).path).take (((((((putM l m).getD (bestF (putM l m) k) default).path).length:Nat):Int)-1).toNat))) 1 94 [] (congrArg (AV.sl 1) (slm_0 _ _ _)) (fun Z=>(1=1/\0<=(0:Int)/\(0:Int)<=((((((putM l m).getD (bestF (putM l m) k) default).path).length:Nat):Int)-1)/\((((((putM l m).getD (bestF (putM l m) k) default).path).length:Nat):Int)-1)<=((((((putM l m).getD (bestF (putM l m) k) default).path).map (fun s=>[AV.str s])).length:Nat):Int))/\Z) ⟨⟨rfl,om,by(try rw[List.length_map]);omega,lmo⟩,Bc0 2 [(95,.agg [pth ((((putM l m).getD (bestF (putM l m) k) default).path).take (((((((putM l m).getD (bestF (putM l m) k) default).path).length:Nat):Int)-1).toNat)),.bool true])] 20 [.osl 12 2 0 (((putM l m).take (bestF (putM l m) k)++(putM l m).drop ((bestF (putM l m) k)+1)).length),.agg [pth ((((putM l m).getD (bestF (putM l m) k) default).path).take (((((((putM l m).getD (bestF (putM l m) k) default).path).length:Nat):Int)-1).toNat)),.bool true]] 96 ?_⟩⟩))
 refine Tz 12 2 (((putM l m).take (bestF (putM l m) k)++(putM l m).drop ((bestF (putM l m) k)+1)).length) (((putM l m).take (bestF (putM l m) k)++(putM l m).drop ((bestF (putM l m) k)+1)).map mkc) (fl mkc ((putM l m).take (bestF (putM l m) k)++(putM l m).drop ((bestF (putM l m) k)+1))) [.sl 2 (((putM l m).take (bestF (putM l m) k)++(putM l m).drop ((bestF (putM l m) k)+1)).map mkc),.agg [pth ((((putM l m).getD (bestF (putM l m) k) default).path).take (((((((putM l m).getD (bestF (putM l m) k) default).path).length:Nat):Int)-1).toNat)),.bool true]] [(0,mkc m)] [true] (chkM _) (flM_le _) ?_
 have heM:(Mk.mk ((((putM l m).getD (bestF (putM l m) k) default).path).take (((((((putM l m).getD (bestF (putM l m) k) default).path).length:Nat):Int)-1).toNat)) true)=parM (bestM (putM l m)):=by rw[hbk]at hpos⊢;unfold parM;congr 2;omega
 have hlt:lenM ((putM l m).take (bestF (putM l m) k)++(putM l m).drop ((bestF (putM l m) k)+1))+(parM (bestM (putM l m))).path.length<N:=by have h:=lenM_erase (l:=putM l m) om hpos;rw[<-hke]at h;omega
 have hpk:mkOk (parM (bestM (putM l m)))=true:=par_ok (hTp.ok _ (best_mem om))
 have hl6:((putM l m).take (bestF (putM l m) k)++(putM l m).drop ((bestF (putM l m) k)+1)).length<=6:=by rw[List.length_append,List.length_take,List.length_drop];omega
 refine PC.use (ih _ (by rw[heM];exact hlt) ((putM l m).take (bestF (putM l m) k)++(putM l m).drop ((bestF (putM l m) k)+1)) (Mk.mk ((((putM l m).getD (bestF (putM l m) k) default).path).take (((((((putM l m).getD (bestF (putM l m) k) default).path).length:Nat):Int)-1).toNat)) true) rfl (erase_trl hTp _) (by rw[heM];exact hpk) hl6) fun r hr=>?_
 obtain⟨ad38,rfl,had38⟩:=hr
 refine Ke (Gn0 [(5,.sl 2 (ad38.map mkc))] (nk_n (Bn (Lr (some ad38) [(0,0)] 4 [(5,.sl 2 (ad38.map mkc))] [(0,mkc m)] [true] ?_ ?_ kr kr))))
 (try dsimp only);omega
 refine⟨?_,rfl⟩;(try dsimp only)
 have e:=putM_erase hTp om hpos;rw[<-hke,<-heM]at e
 rw[e,heM]at had38
 exact⟨.step om had38,(had38.trl (putM_trl hTp hpk)).2⟩
 refine Xt (Jx (Lx (Bh (Jn (hK22 (Kp [5] (Rr (Fn0 [] [(4,.osl 12 2 0 ((putM l m).length))] (Fz 12 2 ((putM l m).length) ((putM l m).map mkc) (fl mkc (putM l m)) [(4,.osl 12 2 0 ((putM l m).length))] [] [] (chkM _) (flM_le _) (Rt (.sl 2 ((putM l m).map mkc)) ?_))))))))))
 · exact⟨[],List.nil_sublist _,_,lea_refl _,⟨(putM l m),rfl,(.done om)⟩,by simp only[pur,puress_mk]⟩
 (try dsimp only at hI)
 obtain⟨⟨hi1,hi2⟩,rfl⟩:=hI
 dsimp only
 refine Sq fun K40 hK40=>?_
 refine Rr (Av0 (r:=.i ((r.map mkc).length:Nat)) (v:=.i r.length) 2 58 [(57,.sl 2 (r.map mkc))] lm (Cn1 (decide ((6:Int)<((r.length:Int):Int))) [5] [] (Ki/\·) ⟨rfl,fun hc42 c42=>?_,fun hc42 c42=>?_⟩))
 omega
 refine Xt (Jx (Lx (Bh (Jn (hK22 (Kp [5] (Rr (Fn0 [] [(4,.sl 2 (r.map mkc))] (Rt (.sl 2 (r.map mkc)) ?_)))))))))
 exact⟨[],List.nil_sublist _,_,lea_refl _,⟨r,rfl,hi1⟩,by simp only[pur,puress_mk]⟩
open Go Go.Proofs
set_option maxRecDepth 100000
theorem sT_ne {t:Tr} {c:Cl} (h:treeOk t=true):(sTreeDo t c).2≠1:=by
  intro hc;have:=sT_none hc
  unfold sTreeDo at hc
  rw[h]at hc
  cases hk:callOk c with
  |false=>rw[hk]at hc;exact absurd (show(2:Int)=1 from hc) dc
  |true=>rw[hk]at hc;exact absurd hc (sDo_ne t c)
theorem TrailDo_ok (t:Tr) (l:List Mk) (c:Cl) (hw:t.W<2^40) (h1:wS c.path<2^40) (h2:wS c.to<2^40) (h3:c.data.length<2^20) (hl:∀m∈l,wS m.path<2^40) (hn:l.length<2^20):PC G 5 [.agg (tcs t),.sl 2 (l.map mkc),.agg (clc c)] (fun r=>TDoR t l c r):=by
 refine h_pc (F:=[(0,.agg (tcs t)),(1,.sl 2 (l.map mkc)),(2,.agg (clc c))]) (by simp only[go_sem]) Tryz.func5 kr kr ?_ kr
 refine Rr (Fn2 [1] [(6,.ptr 8 0),(5,.ptr 4 0),(3,.ptr 0 0)] [(8,zt),(4,clc c),(0,tcs t)] 12 (Sq fun K2 hK2=>?_))
 refine Rm 21 ((!(treeOk t))||(!(trOk l))) [1,3,5,6] ?_ ?_
 refine Pc1 2 [(14,.agg (tcs t))] 15 (0+5<=5/\0<5) dc (TreeOk_ok t om) (An0 2 [(17,.bool (!(treeOk t))),(16,.bool (!(treeOk t)))] (Rg (fun hg4 g4=>?_) (fun hg4 g4=>?_)))
 refine Mn0 true (by rw[hg4];rfl)
 refine Pc0 2 [(18,.sl 2 (l.map mkc))] 19 (TrailOk_ok l hl om) (Mn0 (!(trOk l)) (by rw[hg4];rfl))
 refine Cc ((!(treeOk t))||(!(trOk l))) (fun hc5 c5=>?_) fun hc5 c5=>?_
 refine Rr (Fn3 [6] [(8,.i 1),(7,.osl 12 2 0 0)] [(12,[]),(8,zt),(4,clc c),(0,tcs t)] 16 ((0*2<=16777216)/\(true=true/\5=5/\0+5<=5)/\·) ⟨dc,dc,Fz 12 2 0 ([]) ([]) [(6,.ptr 8 0),(7,.osl 12 2 0 0),(8,.i 1)] [(8,zt)] [true] kr dc (Rt1 ((0+5<=5/\0<5)/\·) (.tup [.agg zt,.sl 2 ([].map mkc),.i 1]) ⟨dc,?_⟩)⟩)
 have htd:tDo t l c=(.none,1):=by
   have h:=hc5
   unfold tDo
   cases htr:trOk l with
   |false=>rfl
   |true=>rw[htr]at h;unfold sTreeDo;rw[show treeOk t=false by simpa using h];rfl
 refine⟨[],List.nil_sublist _,_,?_,⟨[],by rw[htd],by rw[htd];simp,by rw[htd];simp⟩,by simp only[go_sem,pur,purs,puress_mk,Bool.and_self]⟩
 simp[lea,leas,Tr.none,tcs,pth]
 refine Sk (Jn (hK2 (Kp [1,3,5,6] ?_)))
 obtain⟨hto,htr⟩:treeOk t=true/\trOk l=true:=by have h:=hc5;simpa using h
 have hwf:=wf_ok hto
 obtain⟨ht,h6⟩:=trOk_trl htr
 have hsd:sTreeDo t c=aDo t c:=by rw[<-iTreeDo_eq];unfold iTreeDo;rw[hto];rfl
 have htd:tDo t l c=aDo t c:=by unfold tDo;rw[htr,hsd];rfl
 refine Rr (Bc1 3 [(26,.agg (clc c)),(25,.agg (tcs t))] 17 [.agg (tcs t),.agg (clc c)] 27 ((0+5<=5/\0<5)/\(0+5<=5/\0<5)/\·) ⟨dc,dc,PE.use (after_ok t c hto h1 h2 h3) (Ke (Fn3 [1,3,5,6] [(10,.i ((aDo t c).2)),(9,.ptr 12 0)] [(12,tcs ((aDo t c).1)),(8,zt),(4,clc c),(0,tcs t)] 16 ((0<2)/\(1<2)/\(true=true/\5=5/\0+5<=5)/\·) ⟨dc,dc,dc,?_⟩))⟩)
 refine Rr (Pc0 2 [(30,.sl 2 (l.map mkc))] 31 (cloneM_ok l hl om) (Fn0 [3,5,6,9,10] [(11,.sl 2 (l.map mkc))] (Sq fun K9 hK9=>?_)))
 refine Rr (Cn1 (!decide (((aDo t c).2:Int)=(0:Int))) [3,5,6,9,10,11] [] (Ki/\·) ⟨rfl,fun hc11 c11=>?_,fun hc11 c11=>?_⟩)
 refine Rr (Fn3 [6] [(8,.i ((aDo t c).2)),(7,.sl 2 (l.map mkc))] [(12,tcs ((aDo t c).1)),(8,tcs ((aDo t c).1)),(4,clc c),(0,tcs t)] 16 ((0+5<=5/\0<5)/\(true=true/\5=5/\0+5<=5)/\·) ⟨dc,dc,Rt1 ((0+5<=5/\0<5)/\·) (.tup [.agg (tcs ((aDo t c).1)),.sl 2 (l.map mkc),.i ((aDo t c).2)]) ⟨dc,?_⟩⟩)
 have hc1:(aDo t c).2≠1:=by rw[<-hsd];intro h;exact sT_ne hto h
 exact⟨[],List.nil_sublist _,_,lea_refl _,⟨l,by rw[htd],fun h=>absurd (htd▸h) c11,fun h=>by rw[htd,if_neg hc1]⟩,by simp only[go_sem,pur,purs,puress_mk,Bool.and_self]⟩
 refine Sk (Jn (hK9 (Kp [3,5,6,9,11] (Sq fun K13 hK13=>?_))))
 obtain⟨_,hco⟩:=sTD_ok (t:=t) (c:=c) (by rw[hsd];have h:=c11;omega)
 refine Rr (Bc1 3 [(38,.agg (clc c)),(37,.agg (tcs t))] 19 [.agg (tcs t),.agg (clc c)] 39 ((0+5<=5/\0<5)/\(0+5<=5/\0<5)/\·) ⟨dc,dc,?_⟩)
 have hmo:=mksOf_len t c
 refine PE.use (marksOf_ok t c hw hwf h1 h2) ?_
 refine Ke (Av0 (r:=.i (((mksOf t c).map mkc).length:Nat)) (v:=.i ((mksOf t c).length:Int)) 1 40 [] lm (Fn0 [6,9,11,39,40] [(41,.i 0)] (Bl (h_l (fun(z:Nat×List Mk)=>(match z with|(k,o)=>([(6,.ptr 8 0),(9,.ptr 12 0),(11,.sl 2 (o.map mkc)),(39,.sl 2 ((mksOf t c).map mkc)),(40,.i ((mksOf t c).length:Int)),(41,.i k)]:Fr))) (fun(z:Nat×List Mk)=>(match z with|(k,o)=>([(12,tcs ((aDo t c).1)),(8,zt),(4,clc c),(0,tcs t)]:Hp))) (fun(z:Nat×List Mk) cn=>(match z with|(k,o)=>(k<=(mksOf t c).length/\CoL l ((mksOf t c).take k) o)/\cn=16)) (fun(z:Nat×List Mk)=>(mksOf t c).length-z.1) (0,l) kr ?_ ?_ ?_ ?_))))
 refine⟨?_,rfl⟩;exact⟨Nat.zero_le _,.nil l⟩
 exact⟨kr,kr,kr,kr,kr,kr,trivial⟩
 exact(sub_c kr (sub_c kr (sub_c kr (sub_c kr (List.nil_sublist _)))))
 rintro⟨k,o⟩ n1 hI
 (try dsimp only at hI)
 obtain⟨⟨hi1,hi2⟩,rfl⟩:=hI
 have hml0:=mksOf_len t c
 refine Rr (Fn1 [6,9,11,39,40,41] [(42,.bool (decide ((k:Int)<((mksOf t c).length:Int))))] (Ki/\·) ⟨rfl,Sq fun K16 hK16=>?_⟩)
 refine Cc (decide ((k:Int)<((mksOf t c).length:Int))) (fun hc17 c17=>?_) fun hc17 c17=>?_
 refine Sk (Jn (hK16 (Kp [6,9,11,39,40,41] (Sq fun K18 hK18=>?_))))
 refine Bl (Rr (Av1 1 43 [] (congrArg AV.pat (mg_mk (mksOf t c) k om)) ((2=2/\(0:Int)<=(k:Int)/\(k:Int)<(((mksOf t c).map mkc).length:Int))/\·) ⟨⟨rfl,om,lmo⟩,Fn3 [6,9,11,39,40,41] [(13,.ptr 16 0)] [(16,mkc ((mksOf t c).getD k default)),(12,tcs ((aDo t c).1)),(8,zt),(4,clc c),(0,tcs t)] 20 ((2<=2/\0<2)/\(true=true/\2=2/\0+2<=2)/\·) ⟨dc,dc,?_⟩⟩))
 have hmk:=getD_mem (mksOf t c) k default om
 have hok:=mksOf_ok (by assumption) hmk
 have hcl:=hi2.trl ht h6 fun m hm=>mksOf_ok (by assumption) (List.mem_of_mem_take hm)
 refine Rb (fun h=>Bn (Jn (hK18 h))) (Bc1 3 [(46,.agg (mkc ((mksOf t c).getD k default))),(45,.sl 2 (o.map mkc))] 20 [.sl 2 (o.map mkc),.agg (mkc ((mksOf t c).getD k default))] 47 ((0+2<=2/\0<2)/\·) ⟨dc,PC.use (addM_ok _ o ((mksOf t c).getD k default) rfl hcl.1 hok hcl.2) fun r hr=>?_⟩);obtain⟨ad20,rfl,had20⟩:=hr
 refine Ke (Fn0 [6,9,39,40,41] [(11,.sl 2 (ad20.map mkc))] (Rn (Av1 1 48 [] (cI (wn1 k om)) (Ki/\·) ⟨rfl,Gn0 [(41,.i ((k+1:Nat):Int))] ?_⟩)))
 refine nk_n (Lr (k+1,ad20) [(0,0),(4,4),(8,8),(12,12)] 16 [(6,.ptr 8 0),(9,.ptr 12 0),(11,.sl 2 (ad20.map mkc)),(39,.sl 2 ((mksOf t c).map mkc)),(40,.i ((mksOf t c).length:Int)),(41,.i ((k+1:Nat):Int))] [(12,tcs ((aDo t c).1)),(8,zt),(4,clc c),(0,tcs t)] [true,true,true,true] ?_ ?_ kr kr)
 (try dsimp only);omega
 refine⟨?_,rfl⟩;(try dsimp only);exact⟨om,by rw[take_snoc (mksOf t c) k default om];exact .snoc hi2 had20⟩
 refine Xt (Jx (Lx (Bh (Jn (hK13 (Kp [6,9,11] ?_))))))
 have hcl:=hi2.trl ht h6 fun m hm=>mksOf_ok (by assumption) (List.mem_of_mem_take hm)
 refine Qr [0,0,2,7,15,31] [(0,[]),(1,[]),(2,[0]),(3,[]),(4,[]),(5,[])] (qBc1 3 [(50,.sl 2 (o.map mkc)),(49,.agg (tcs ((aDo t c).1)))] [0] 18 [.sl 2 (o.map mkc)] 51 ((0+5<=5/\0<5)/\·) ⟨dc,PE.use (cloneM_ok o hcl.1.wS om) (Kq (p:=(((0+5<=5/\0<5)/\(AV.agg (tcs ((aDo t c).1))=(.agg (tcs ((aDo t c).1)):AV)))/\True)) ⟨⟨dc,rfl⟩,trivial⟩ (qFn3 [6] [(8,.i 0),(7,.sl 2 (o.map mkc))] [(12,tcs ((aDo t c).1)),(8,tcs ((aDo t c).1)),(4,clc c),(0,tcs t)] 16 ((true=true/\5=5/\0+5<=5)/\(True)/\·) ⟨dc,trivial,?_⟩))⟩)
 refine Rt1 ((0+5<=5/\0<5)/\·) (.tup [.agg (tcs ((aDo t c).1)),.sl 2 (o.map mkc),.i 0]) ⟨dc,?_⟩
 have hc0:(aDo t c).2=0:=by have h:=c11;omega
 obtain rfl:k=(mksOf t c).length:=by omega
 rw[List.take_length]at hi2
 exact⟨[],List.nil_sublist _,_,lea_refl _,⟨o,by rw[htd,hc0],fun _=>⟨htr,hi2⟩,fun h=>absurd (by rw[htd,hc0]) h⟩,by simp only[go_sem,pur,purs,puress_mk,Bool.and_self]⟩
open Go Go.Proofs
set_option maxRecDepth 100000
theorem W_sTreeDo (t:Tr) (c:Cl) (ht:t.W<2^12):(sTreeDo t c).1.W<2^12:=by
  unfold sTreeDo
  cases h:treeOk t<;>simp only[Bool.not_true,Bool.not_false,cond_true,cond_false]
  · rw[W_none];omega
  · cases h2:callOk c<;>simp only[Bool.not_true,Bool.not_false,cond_true,cond_false]
    · exact ht
    · rw[<-aDo_sDo h h2]
      unfold aDo
      cases callOk c<;>simp only[Bool.not_true,Bool.not_false,cond_true,cond_false]
      · exact ht
      cases decide ((iDo t c).2=(0:Int))<;>simp only[Bool.not_true,Bool.not_false,cond_true,cond_false]
      · exact ht
      cases h3:treeOk (iDo t c).1<;>simp only[Bool.not_true,Bool.not_false,cond_true,cond_false]
      · exact ht
      · exact Nat.lt_trans (W_ok h3) om
theorem l4Calls_ok (b:Str) (p:Nat) (t:Tr) (n:Nat) (hw:t.W<2^12) (hp:p<2^26) (hn:n<2^20) (hb:b.length<2^30):RC G 65 [.agg (tcs t),.i n] b p (fun r p'=>∃x:Tr,x.W<2^12/\r=.agg (tcs x)/\p'<=p+50*n):=by
 refine h_rc (F:=[(0,.ptr 0 0),(1,.agg (tcs t)),(2,.i n)]) (by simp only[go_sem]) Tryz.func65 kr kr ?_ kr
 refine Rr (Fn2 [0,2] [(6,.ptr 8 0),(4,.ptr 4 0)] [(8,zt),(4,tcs t),(0,rdc b p)] 12 (Sq fun K2 hK2=>?_))
 refine Bl (h_l (fun(z:Tr×Nat×Nat)=>(match z with|(x,q,k)=>([(0,.ptr 0 0),(2,.i k),(4,.ptr 4 0),(6,.ptr 8 0)]:Fr))) (fun(z:Tr×Nat×Nat)=>(match z with|(x,q,k)=>([(8,zt),(4,tcs x),(0,rdc b q)]:Hp))) (fun(z:Tr×Nat×Nat) cn=>(match z with|(x,q,k)=>(x.W<2^12/\q+50*k<=p+50*n/\k<=n)/\cn=12)) (fun(z:Tr×Nat×Nat)=>z.2.2) (t,p,n) kr ?_ ?_ ?_ ?_)
 refine⟨?_,rfl⟩;exact⟨hw,om,om⟩
 exact⟨kr,kr,kr,kr,trivial⟩
 exact(sub_c kr (sub_c kr (sub_c kr (List.nil_sublist _))))
 rintro⟨x,q,k⟩ n1 hI
 (try dsimp only at hI)
 obtain⟨⟨hi1,hi2,hi3⟩,rfl⟩:=hI
 refine Sq fun K3 hK3=>?_
 refine Rr (Cn1 (decide ((0:Int)<((k:Int):Int))) [0,2,4,6] [] (Ki/\·) ⟨rfl,fun hc5 c5=>?_,fun hc5 c5=>?_⟩)
 refine Sk (Jn (hK3 (Kp [0,2,4,6] (Sq fun K6 hK6=>?_))))
 refine Bl (Qr [0,0,0,6,15,31,63,63,0,383,1023] [(0,[]),(1,[]),(2,[]),(3,[0]),(4,[]),(5,[]),(6,[]),(7,[]),(8,[0,2]),(9,[]),(10,[])] (qBc1 4 [(16,.agg (tcs x)),(15,.ptr 0 0),(14,.agg (tcs x))] [0] 15 [.ptr 0 0,.agg (tcs x)] 17 ((0+5<=5/\0<5)/\(0+5<=5/\0<5)/\·) ⟨dc,dc,RC.use (l4Call_ok b q x om om om) kr fun r q9 hr=>?_⟩));obtain⟨cl8,h0cl8,h1cl8,h2cl8,rfl,h3cl8⟩:=hr
 refine Kq (p:=(((0+5<=5/\0<5)/\(AV.agg (tcs x)=(.agg (tcs x):AV)))/\True)) ⟨⟨dc,rfl⟩,trivial⟩ ?_
 refine qBc0 1 [] [] 21 [.agg (tcs x),.agg (clc cl8)] 18 ?_
 have hB10:=W_sTreeDo x cl8 om
 refine PE.use (sTreeDo_ok x cl8 om (by first|omega|decide|(dsimp only;first|omega|decide)) (by first|omega|decide|(dsimp only;first|omega|decide)) (by first|omega|decide|(dsimp only;first|omega|decide))) ?_
 refine Kq (p:=(True)) trivial ?_
 refine qFn3 [0,2,4,6] [(8,.i ((sTreeDo x cl8).2)),(7,.ptr 12 0)] [(12,tcs ((sTreeDo x cl8).1)),(8,zt),(4,tcs x),(0,rdc b q9)] 16 ((0<2)/\(1<2)/\(((0+5<=5/\0<5)/\(AV.agg (tcs x)=(.agg (tcs x):AV)))/\((0+5<=5/\0<5)/\(AV.agg (tcs x)=(.agg (tcs x):AV)))/\True)/\(true=true/\5=5/\0+5<=5)/\(True)/\·) ⟨dc,dc,⟨⟨dc,rfl⟩,⟨dc,rfl⟩,trivial⟩,dc,trivial,Rr (Cn1 (decide (((sTreeDo x cl8).2:Int)=(0:Int))) [0,2,4,6,7] [] (Ki/\·) ⟨rfl,fun hc12 c12=>?_,fun hc12 c12=>?_⟩)⟩
 refine Rb (fun h=>Bn (Jn (hK6 h))) (Fn3 [0,2,4,6] [] [(12,tcs ((sTreeDo x cl8).1)),(8,zt),(4,tcs ((sTreeDo x cl8).1)),(0,rdc b q9)] 16 ((0+5<=5/\0<5)/\(true=true/\5=5/\0+5<=5)/\·) ⟨dc,dc,Rn (Av1 (r:=.i (IntKind.i64.wrap ((k:Int)-1))) (v:=.i ((k:Int)-1)) 2 12 [(11,.i k)] (cI (wrap64 om om)) (Ki/\·) ⟨rfl,Gn0 [(2,.i ((k:Int)-1))] ?_⟩)⟩)
 refine nk_n (Lr (((sTreeDo x cl8).1),q9,k-1) [(0,0),(4,4),(8,8)] 12 [(0,.ptr 0 0),(2,.i ((k:Int)-1)),(4,.ptr 4 0),(6,.ptr 8 0)] [(8,zt),(4,tcs ((sTreeDo x cl8).1)),(0,rdc b q9)] [true,true,true] ?_ ?_ kr (by(try rw[show((k:Int)-1)=((k-1:Nat):Int) by omega]);try kernel_rfl))
 (try dsimp only);omega
 refine⟨?_,rfl⟩;(try dsimp only);exact⟨om,om,om⟩
 refine Sk (Bn (Jn (hK6 (Kp [0,2,4,6] (Rn (Av1 (r:=.i (IntKind.i64.wrap ((k:Int)-1))) (v:=.i ((k:Int)-1)) 2 12 [(11,.i k)] (cI (wrap64 om om)) (Ki/\·) ⟨rfl,Gn0 [(2,.i ((k:Int)-1))] (nk_n ?_)⟩))))))
 refine Lr (x,q9,k-1) [(0,0),(4,4),(8,8)] 12 [(0,.ptr 0 0),(2,.i ((k:Int)-1)),(4,.ptr 4 0),(6,.ptr 8 0)] [(8,zt),(4,tcs x),(0,rdc b q9)] [true,true,true] ?_ ?_ kr (by(try rw[show((k:Int)-1)=((k-1:Nat):Int) by omega]);try kernel_rfl)
 (try dsimp only);omega
 refine⟨?_,rfl⟩;(try dsimp only);exact⟨om,om,om⟩
 refine Xt (Jx (Lx (Bh (Jn (hK2 (Kp [4,6] (Rr (Fn3 [6] [] [(8,tcs x),(4,tcs x),(0,rdc b q)] 12 ((0+5<=5/\0<5)/\(true=true/\5=5/\0+5<=5)/\·) ⟨dc,dc,Rt1 ((0+5<=5/\0<5)/\·) (.agg (tcs x)) ⟨dc,?_⟩⟩))))))))
 exact fin_rc q (by first|exact lea_refl _|simp[lea,leas,pth,tcs]) (by simp only[go_sem]) kr ⟨x,om,rfl,om⟩
theorem l4Tree_ok (b:Str) (p:Nat) (hp:p<2^25) (hb:b.length<2^30):RC G 34 [] b p (fun r p'=>∃x:Tr,x.W<2^12/\r=.agg (tcs x)/\p'<=p+1000):=by
 refine h_rc (F:=[(0,.ptr 0 0)]) (by simp only[go_sem]) Tryz.func34 kr kr ?_ kr
 refine Rr (Fn2 [0] [(2,.ptr 4 0)] [(4,zt),(0,rdc b p)] 8 (Rr (Bc0 2 [(8,.ptr 0 0)] 32 [.ptr 0 0,.i 8] 9 (RC.use (pick_ok b p 8 om om om om) kr fun r p1 hr=>?_))));obtain⟨pk3,hpk3,rfl,rfl⟩:=hr
 refine Ke (Bc0 2 [(10,.ptr 0 0)] 32 [.ptr 0 0,.i 2] 11 (RC.use (pick_ok b (p+1) 2 om om om om) kr fun r p1 hr=>?_));obtain⟨pk4,hpk4,rfl,rfl⟩:=hr
 refine Ke ?_
 have hm5:=Nat.mul_lt_mul'' hpk3 hpk4
 refine Av1 1 12 [] (cI (wnm pk3 pk4 om)) (Ki/\·) ⟨rfl,Fn3 [0,2] [(3,.ptr 8 0)] [(8,[.bool true,.i ((pk3*pk4:Nat):Int),.str [],.nils,.nils]),(4,zt),(0,rdc b (p+1+1))] 12 ((true=true/\5=5/\0+5<=5)/\·) ⟨dc,Sq fun K6 hK6=>?_⟩⟩
 refine Rr (Bc0 2 [(14,.ptr 0 0)] 32 [.ptr 0 0,.i 12] 15 (RC.use (pick_ok b (p+1+1) 12 om om om om) kr fun r p1 hr=>?_));obtain⟨pk8,hpk8,rfl,rfl⟩:=hr
 refine Ke (Fn0 [0,2,3] [(4,.i pk8)] (Bl (h_lo (H':=[(8,tcs ((Tr.mk true ((pk3*pk4:Nat):Int) [] [] []))),(4,zt),(0,rdc b (p+1+1+1))]) ⟨⟨rfl,(by simp[lea,leas,pth,tcs,clc])⟩,⟨rfl,leas_refl _⟩,⟨rfl,leas_refl _⟩,trivial⟩ (h_l (fun(z:Tr×Nat×Nat)=>(match z with|(x,q,k)=>([(0,.ptr 0 0),(2,.ptr 4 0),(3,.ptr 8 0),(4,.i k)]:Fr))) (fun(z:Tr×Nat×Nat)=>(match z with|(x,q,k)=>([(8,tcs x),(4,zt),(0,rdc b q)]:Hp))) (fun(z:Tr×Nat×Nat) cn=>(match z with|(x,q,k)=>(x.W<2^12/\q+20*k<=p+600/\k<=12)/\cn=12)) (fun(z:Tr×Nat×Nat)=>z.2.2) (((Tr.mk true ((pk3*pk4:Nat):Int) [] [] [])),p+1+1+1,pk8) kr ?_ ?_ ?_ ?_))))
 refine⟨?_,rfl⟩;exact⟨by simp[Tr.W,wS,Tr.Ws],om,om⟩
 exact⟨kr,kr,kr,kr,trivial⟩
 exact(sub_c kr (sub_c kr (sub_c kr (List.nil_sublist _))))
 rintro⟨x,q,k⟩ n1 hI
 (try dsimp only at hI)
 obtain⟨⟨hi1,hi2,hi3⟩,rfl⟩:=hI
 refine Sq fun K9 hK9=>?_
 refine Rr (Cn1 (decide ((0:Int)<((k:Int):Int))) [0,2,3,4] [] (Ki/\·) ⟨rfl,fun hc11 c11=>?_,fun hc11 c11=>?_⟩)
 refine Sk (Jn (hK9 (Kp [0,2,3,4] (Sq fun K12 hK12=>?_))))
 refine Bl (Qr [0,1,3,0,0,27,63,0,255] [(0,[]),(3,[]),(4,[]),(1,[4]),(2,[]),(5,[]),(6,[]),(7,[4]),(8,[])] (qBc1 4 [(24,.agg (tcs x)),(23,.ptr 0 0),(20,.ptr 0 0)] [4] 32 [.ptr 0 0,.i 2] 21 ((0+5<=5/\0<5)/\·) ⟨dc,RC.use (pick_ok b q 2 om om om om) kr fun r p1 hr=>?_⟩));obtain⟨pk14,hpk14,rfl,rfl⟩:=hr
 refine Kq (p:=(((0+5<=5/\0<5)/\(AV.agg (tcs x)=(.agg (tcs x):AV)))/\True)) ⟨⟨dc,rfl⟩,trivial⟩ ?_
 refine qAv1 1 22 [] (cI (wnn 1 pk14 om)) (Ki/\·) ⟨rfl,qBc0 1 [] [] 38 [.ptr 0 0,.agg (tcs x)] 25 (RC.use (l4Path_ok b (q+1) x om om om) kr fun r q16 hr=>?_)⟩;obtain⟨o15,h0o15,h1o15,h2o15,rfl,h3o15⟩:=hr
 refine Kq (p:=(True)) trivial ?_
 refine qFn3 [0,2,3,4] [(5,.ptr 12 0)] [(12,[.i ((1+pk14:Nat):Int),pth o15,.nils,.i 0,.str []]),(8,tcs x),(4,zt),(0,rdc b q16)] 16 ((((0+5<=5/\0<5)/\(AV.agg (tcs x)=(.agg (tcs x):AV)))/\True)/\(true=true/\5=5/\0+5<=5)/\(True)/\·) ⟨⟨⟨dc,rfl⟩,trivial⟩,dc,trivial,Sq fun K17 hK17=>?_⟩
 refine Rr (Cn1 (decide (((1+pk14:Nat):Int)=2)) [0,2,3,4,5] [] (((1:Nat)≠0)/\(0+1<=5/\0<5)/\Ki/\·) ⟨dc,dc,rfl,fun hc19 c19=>?_,fun hc19 c19=>?_⟩)
 refine Rb (fun h=>Jn (hK17 h)) (Bc0 2 [(30,.ptr 0 0)] 39 [.ptr 0 0] 31 (RC.use (l4Data_ok b q16 om om) kr fun r p1 hr=>?_));obtain⟨ds20,hds20,rfl,rfl⟩:=hr
 refine Ke (Fn3 [0,2,3,4,5] [] [(12,[.i ((1+pk14:Nat):Int),pth o15,.nils,.i 0,.str ds20]),(8,tcs x),(4,zt),(0,rdc b (q16+1+1))] 16 (((1:Nat)≠0)/\(true=true/\1=1/\4+1<=5)/\·) ⟨dc,dc,Rr (Bc1 3 [(35,.agg [.i ((1+pk14:Nat):Int),pth o15,.nils,.i 0,.str ds20]),(34,.agg (tcs x))] 21 [.agg (tcs x),.agg [.i ((1+pk14:Nat):Int),pth o15,.nils,.i 0,.str ds20]] 36 ((0+5<=5/\0<5)/\(0+5<=5/\0<5)/\·) ⟨dc,dc,?_⟩)⟩)
 have hB22:=W_sTreeDo x (Cl.mk ((1+pk14:Nat):Int) o15 [] 0 ds20) om
 refine TCall_le [.agg (tcs x),.agg (clc (Cl.mk ((1+pk14:Nat):Int) o15 [] 0 ds20))] (by simp[lea,leas,pth,Tr.none,tcs,clc]) ?_
 refine PE.use (sTreeDo_ok x (Cl.mk ((1+pk14:Nat):Int) o15 [] 0 ds20) om (by first|omega|decide|(dsimp only;first|omega|decide)) (by first|omega|decide|(dsimp only;first|omega|decide)) (by first|omega|decide|(dsimp only;first|omega|decide))) ?_
 refine Ke (Fn3 [0,2,3,4] [(7,.i ((sTreeDo x (Cl.mk ((1+pk14:Nat):Int) o15 [] 0 ds20)).2)),(6,.ptr 16 0)] [(16,tcs ((sTreeDo x (Cl.mk ((1+pk14:Nat):Int) o15 [] 0 ds20)).1)),(12,[.i ((1+pk14:Nat):Int),pth o15,.nils,.i 0,.str ds20]),(8,tcs x),(4,zt),(0,rdc b (q16+1+1))] 20 ((0<2)/\(1<2)/\(true=true/\5=5/\0+5<=5)/\·) ⟨dc,dc,dc,Rr (Cn1 (decide (((sTreeDo x (Cl.mk ((1+pk14:Nat):Int) o15 [] 0 ds20)).2:Int)=(0:Int))) [0,2,3,4,6] [] (Ki/\·) ⟨rfl,fun hc24 c24=>?_,fun hc24 c24=>?_⟩)⟩)
 refine Rb (fun h=>Bn (Jn (hK12 h))) (Fn3 [0,2,3,4] [] [(16,tcs ((sTreeDo x (Cl.mk ((1+pk14:Nat):Int) o15 [] 0 ds20)).1)),(12,[.i ((1+pk14:Nat):Int),pth o15,.nils,.i 0,.str ds20]),(8,tcs ((sTreeDo x (Cl.mk ((1+pk14:Nat):Int) o15 [] 0 ds20)).1)),(4,zt),(0,rdc b (q16+1+1))] 20 ((0+5<=5/\0<5)/\(true=true/\5=5/\0+5<=5)/\·) ⟨dc,dc,Rn (Av1 (r:=.i (IntKind.i64.wrap ((k:Int)-1))) (v:=.i ((k:Int)-1)) 2 19 [(18,.i k)] (cI (wrap64 om om)) (Ki/\·) ⟨rfl,Gn0 [(4,.i ((k:Int)-1))] ?_⟩)⟩)
 refine nk_n (Lr (((sTreeDo x (Cl.mk ((1+pk14:Nat):Int) o15 [] 0 ds20)).1),q16+1+1,k-1) [(0,0),(4,4),(8,8)] 12 [(0,.ptr 0 0),(2,.ptr 4 0),(3,.ptr 8 0),(4,.i ((k:Int)-1))] [(8,tcs ((sTreeDo x (Cl.mk ((1+pk14:Nat):Int) o15 [] 0 ds20)).1)),(4,zt),(0,rdc b (q16+1+1))] [true,true,true] ?_ ?_ kr (by(try rw[show((k:Int)-1)=((k-1:Nat):Int) by omega]);try kernel_rfl))
 (try dsimp only);omega
 refine⟨?_,rfl⟩;(try dsimp only);exact⟨om,om,om⟩
 refine Sk (Bn (Jn (hK12 (Kp [0,2,3,4] (Rn (Av1 (r:=.i (IntKind.i64.wrap ((k:Int)-1))) (v:=.i ((k:Int)-1)) 2 19 [(18,.i k)] (cI (wrap64 om om)) (Ki/\·) ⟨rfl,Gn0 [(4,.i ((k:Int)-1))] (nk_n ?_)⟩))))))
 refine Lr (x,q16+1+1,k-1) [(0,0),(4,4),(8,8)] 12 [(0,.ptr 0 0),(2,.ptr 4 0),(3,.ptr 8 0),(4,.i ((k:Int)-1))] [(8,tcs x),(4,zt),(0,rdc b (q16+1+1))] [true,true,true] ?_ ?_ kr (by(try rw[show((k:Int)-1)=((k-1:Nat):Int) by omega]);try kernel_rfl)
 (try dsimp only);omega
 refine⟨?_,rfl⟩;(try dsimp only);exact⟨om,om,om⟩
 refine Sk (Jn (hK17 (Kp [0,2,3,4,5] (Rr (Bc1 3 [(35,.agg [.i ((1+pk14:Nat):Int),pth o15,.nils,.i 0,.str []]),(34,.agg (tcs x))] 21 [.agg (tcs x),.agg [.i ((1+pk14:Nat):Int),pth o15,.nils,.i 0,.str []]] 36 ((0+5<=5/\0<5)/\(0+5<=5/\0<5)/\·) ⟨dc,dc,?_⟩)))))
 have hB26:=W_sTreeDo x (Cl.mk ((1+pk14:Nat):Int) o15 [] 0 []) om
 refine TCall_le [.agg (tcs x),.agg (clc (Cl.mk ((1+pk14:Nat):Int) o15 [] 0 []))] (by simp[lea,leas,pth,Tr.none,tcs,clc]) ?_
 refine PE.use (sTreeDo_ok x (Cl.mk ((1+pk14:Nat):Int) o15 [] 0 []) om (by first|omega|decide|(dsimp only;first|omega|decide)) (by first|omega|decide|(dsimp only;first|omega|decide)) (by first|omega|decide|(dsimp only;first|omega|decide))) ?_
 refine Ke (Fn3 [0,2,3,4] [(7,.i ((sTreeDo x (Cl.mk ((1+pk14:Nat):Int) o15 [] 0 [])).2)),(6,.ptr 16 0)] [(16,tcs ((sTreeDo x (Cl.mk ((1+pk14:Nat):Int) o15 [] 0 [])).1)),(12,[.i ((1+pk14:Nat):Int),pth o15,.nils,.i 0,.str []]),(8,tcs x),(4,zt),(0,rdc b q16)] 20 ((0<2)/\(1<2)/\(true=true/\5=5/\0+5<=5)/\·) ⟨dc,dc,dc,Rr (Cn1 (decide (((sTreeDo x (Cl.mk ((1+pk14:Nat):Int) o15 [] 0 [])).2:Int)=(0:Int))) [0,2,3,4,6] [] (Ki/\·) ⟨rfl,fun hc28 c28=>?_,fun hc28 c28=>?_⟩)⟩)
 refine Rb (fun h=>Bn (Jn (hK12 h))) (Fn3 [0,2,3,4] [] [(16,tcs ((sTreeDo x (Cl.mk ((1+pk14:Nat):Int) o15 [] 0 [])).1)),(12,[.i ((1+pk14:Nat):Int),pth o15,.nils,.i 0,.str []]),(8,tcs ((sTreeDo x (Cl.mk ((1+pk14:Nat):Int) o15 [] 0 [])).1)),(4,zt),(0,rdc b q16)] 20 ((0+5<=5/\0<5)/\(true=true/\5=5/\0+5<=5)/\·) ⟨dc,dc,Rn (Av1 (r:=.i (IntKind.i64.wrap ((k:Int)-1))) (v:=.i ((k:Int)-1)) 2 19 [(18,.i k)] (cI (wrap64 om om)) (Ki/\·) ⟨rfl,Gn0 [(4,.i ((k:Int)-1))] ?_⟩)⟩)
 refine nk_n (Lr (((sTreeDo x (Cl.mk ((1+pk14:Nat):Int) o15 [] 0 [])).1),q16,k-1) [(0,0),(4,4),(8,8)] 12 [(0,.ptr 0 0),(2,.ptr 4 0),(3,.ptr 8 0),(4,.i ((k:Int)-1))] [(8,tcs ((sTreeDo x (Cl.mk ((1+pk14:Nat):Int) o15 [] 0 [])).1)),(4,zt),(0,rdc b q16)] [true,true,true] ?_ ?_ kr (by(try rw[show((k:Int)-1)=((k-1:Nat):Int) by omega]);try kernel_rfl))
 (try dsimp only);omega
 refine⟨?_,rfl⟩;(try dsimp only);exact⟨om,om,om⟩
 refine Sk (Bn (Jn (hK12 (Kp [0,2,3,4] (Rn (Av1 (r:=.i (IntKind.i64.wrap ((k:Int)-1))) (v:=.i ((k:Int)-1)) 2 19 [(18,.i k)] (cI (wrap64 om om)) (Ki/\·) ⟨rfl,Gn0 [(4,.i ((k:Int)-1))] (nk_n ?_)⟩))))))
 refine Lr (x,q16,k-1) [(0,0),(4,4),(8,8)] 12 [(0,.ptr 0 0),(2,.ptr 4 0),(3,.ptr 8 0),(4,.i ((k:Int)-1))] [(8,tcs x),(4,zt),(0,rdc b q16)] [true,true,true] ?_ ?_ kr (by(try rw[show((k:Int)-1)=((k-1:Nat):Int) by omega]);try kernel_rfl)
 (try dsimp only);omega
 refine⟨?_,rfl⟩;(try dsimp only);exact⟨om,om,om⟩
 refine Xt (Jx (Lx (Bh (Jn (hK6 (Kp [0,2,3] (Qr [0,0,0,4,15,31] [(0,[]),(1,[]),(2,[]),(3,[1]),(4,[]),(5,[])] (qBc1 4 [(44,.ptr 0 0),(43,.agg (tcs x)),(42,.ptr 0 0)] [1] 32 [.ptr 0 0,.i 6] 45 ((0+5<=5/\0<5)/\·) ⟨dc,RC.use (pick_ok b q 6 om om om om) kr fun r p1 hr=>?_⟩))))))));obtain⟨pk30,hpk30,rfl,rfl⟩:=hr
 refine Kq (p:=(((0+5<=5/\0<5)/\(AV.agg (tcs x)=(.agg (tcs x):AV)))/\True)) ⟨⟨dc,rfl⟩,trivial⟩ ?_
 refine qBc0 1 [] [] 65 [.ptr 0 0,.agg (tcs x),.i pk30] 46 ?_
 refine RC.use (l4Calls_ok b (q+1) x pk30 om om om om) kr fun r q32 hr=>?_;obtain⟨x31,h1x31,rfl,h3x31⟩:=hr
 refine Kq (p:=(True)) trivial ?_
 refine qFn3 [2] [] [(8,tcs x),(4,tcs x31),(0,rdc b q32)] 12 ((true=true/\5=5/\0+5<=5)/\(True)/\·) ⟨dc,trivial,Rt1 ((0+5<=5/\0<5)/\·) (.agg (tcs x31)) ⟨dc,?_⟩⟩
 exact fin_rc q32 (by first|exact lea_refl _|simp[lea,leas,pth,tcs]) (by simp only[go_sem]) kr ⟨x31,om,rfl,om⟩
open Go Go.Proofs
set_option maxRecDepth 100000
def decN (n:Nat):Str:=if h:n<10 then[UInt8.ofNat (48+n)]else decN (n/10)++[UInt8.ofNat (48+n%10)]
def dec (i:Int):Str:=if i<0 then 45::decN (-i).toNat else decN i.toNat
theorem w8of (x:Int) (h0:0<=x) (h1:x<256):AV.int .u8 (IntKind.u8.wrap x)=.int .u8 ((UInt8.ofNat x.toNat).toNat:Int):=by
  rw[wrap8 h0 om]
  congr 1
  rw[UInt8.toNat_ofNat']
  omega
theorem decN_len (n:Nat):∀k,n<10^(k+1)->(decN n).length<=k+1:=by
  induction n using Nat.strongRecOn with
  |_ n ih=>
    intro k hk
    rw[decN]
    split
    · simp
    · cases k with
      |zero=>omega
      |succ k=>
        have:=ih (n/10) om k (by rw[Nat.pow_succ]at hk;omega)
        simp only[List.length_append,List.length_cons,List.length_nil]
        omega
theorem dec_len (i:Int) (h1: -9223372036854775808<=i) (h2:i<=9223372036854775807):(dec i).length<=20:=by
  unfold dec
  split
  · have:=decN_len (-i).toNat 18 om
    simp only[List.length_cons];omega
  · have:=decN_len i.toNat 18 om
    omega
theorem dec_neg {i:Int} (h:i<0):dec i=[45]++dec (0-i):=by
  unfold dec
  rw[if_pos h,if_neg om,show(0-i)= -i by omega];rfl
theorem dec_one {i:Int} (h0:¬i<0) (h:i<10):dec i=[UInt8.ofNat (48+i).toNat]:=by
  unfold dec
  rw[if_neg h0,decN,dif_pos om,show(48+i).toNat=48+i.toNat by omega]
theorem dec_more {i:Int} (h0:¬i<0) (h:¬i<10):dec i=dec (i/10)++[UInt8.ofNat (48+i%10).toNat]:=by
  unfold dec
  rw[if_neg h0,if_neg om,decN,dif_neg om,show(48+i%10).toNat=48+i.toNat%10 by omega,show(i/10).toNat=i.toNat/10 by omega]
theorem dec_min:dec (-9223372036854775808)=[45,57,50,50,51,51,55,50,48,51,54,56,53,52,55,55,53,56,48,56]:=by
  unfold dec
  rw[if_pos dc]
  simp[decN]
abbrev QD (i:Int):Post:=RQ G Tryz.f64.results fun r _ _=>lea r (.str (dec i))
noncomputable def k64_0:Code:=bd Tryz.f64
noncomputable def k64_2:Code:=q2 k64_0
noncomputable def k64_10:Code:=q2 k64_2
noncomputable def k64_18:Code:=q2 k64_10
noncomputable def k64_26:Code:=q2 k64_18
set_option maxHeartbeats 4000000 in
theorem l1Dec_ok:∀(N:Nat) (i:Int),(max i (1-i)).toNat=N-> -9223372036854775808<=i->i<=9223372036854775807->PE G 64 [.i i] (.str (dec i)):=by
 intro N;refine Nat.strongRecOn N fun N ih=>?_;intro i hN hi1 hi2
 refine Pe Tryz.func64 ?_
 refine Rr (Fn0 [0] [] (Sq fun K2 hK2=>?_))
 refine Rr (Cn1 (decide ((i:Int)<(-9223372036854775807:Int))) [0] [] (Ki/\·) ⟨rfl,fun hc4 c4=>?_,fun hc4 c4=>?_⟩)
 refine Rr (Fn0 [] [(2,.str [45,57,50,50,51,51,55,50,48,51,54,56,53,52,55,55,53,56,48,56])] (Rt (.str [45,57,50,50,51,51,55,50,48,51,54,56,53,52,55,55,53,56,48,56]) (fin_lea ?_)))
 first
   |(have e:i= -9223372036854775808:=om;subst e;rw[dec_min];exact lea_refl _)
   |(rw[dec_neg (i:=i) om];exact lea_refl _)
   |(rw[dec_one (i:=i) om om];exact lea_refl _)
   |(rw[dec_more (i:=i) om om];exact lea_refl _)
 refine Sk (Jn (hK2 (Kp [0] (Sq fun K6 hK6=>?_))))
 refine Rr (Cn1 (decide ((i:Int)<(0:Int))) [0] [] (Ki/\·) ⟨rfl,fun hc8 c8=>?_,fun hc8 c8=>?_⟩)
 refine Rr (Av0 (r:=.i (IntKind.i64.wrap (0-i))) (v:=.i (0-i)) 2 8 [(7,.i i)] (cI (wrap64 om om)) ?_)
 have hl10:=dec_len (0-i) om om
 refine Pc0 1 [] 9 (ih _ om (0-i) rfl om om) (Fn1 [] [(2,.str ([45]++(dec (0-i))))] (([45].length+(dec (0-i)).length<=9223372036854775807)/\·) ⟨(by simp only[List.length_cons,List.length_nil];omega),Rt (.str ([45]++(dec (0-i)))) (fin_lea ?_)⟩)
 first
   |(have e:i= -9223372036854775808:=om;subst e;rw[dec_min];exact lea_refl _)
   |(rw[dec_neg (i:=i) om];exact lea_refl _)
   |(rw[dec_one (i:=i) om om];exact lea_refl _)
   |(rw[dec_more (i:=i) om om];exact lea_refl _)
 refine Sk (Jn (hK6 (Kp [0] (Sq fun K11 hK11=>?_))))
 refine Rr (Cn1 (decide ((i:Int)<(10:Int))) [0] [] (Ki/\·) ⟨rfl,fun hc13 c13=>?_,fun hc13 c13=>?_⟩)
 refine Rr (Av1 (r:=.i (IntKind.i64.wrap (48+i))) (v:=.i (48+i)) 2 14 [(13,.i i)] (cI (wrap64 om om)) (Ki/\·) ⟨rfl,?_⟩)
 have hu15:=UInt8.toNat_lt (UInt8.ofNat (48+i).toNat)
 refine Av0 (r:=.int .u8 (IntKind.u8.wrap (48+i))) (v:=.int .u8 ((UInt8.ofNat (48+i).toNat).toNat:Int)) 1 15 [] (w8of (48+i) om om) (Av3 (r:=.str ((((ints [(UInt8.ofNat (48+i).toNat)]).drop 0).take [(UInt8.ofNat (48+i).toNat)].length).map unu)) (v:=.str [(UInt8.ofNat (48+i).toNat)]) 2 17 [(16,.osl 0 1 0 1)] (congrArg AV.str (unu_ints _)) [(0,[.int .u8 ((UInt8.ofNat (48+i).toNat).toNat:Int)])] 4 (fun Z=>(1*1<=16777216)/\(1=1/\0+[(UInt8.ofNat (48+i).toNat)].length<=(ints [(UInt8.ofNat (48+i).toNat)]).length/\allu (((ints [(UInt8.ofNat (48+i).toNat)]).drop 0).take [(UInt8.ofNat (48+i).toNat)].length))/\Z) ⟨dc,⟨rfl,by rw[ints_len];omega,allu_ints _⟩,Fn0 [] [(2,.str [(UInt8.ofNat (48+i).toNat)])] (Rt (.str [(UInt8.ofNat (48+i).toNat)]) (fin_lea ?_))⟩)
 first
   |(have e:i= -9223372036854775808:=om;subst e;rw[dec_min];exact lea_refl _)
   |(rw[dec_neg (i:=i) om];exact lea_refl _)
   |(rw[dec_one (i:=i) om om];exact lea_refl _)
   |(rw[dec_more (i:=i) om om];exact lea_refl _)
 refine Sk (Jn (hK11 (Kp [0] ?_)))
 have hdl:=dec_len (i/10) om om
 refine Sa (Q:=QD i) 11 ?_
 refine Hv (p:=RT 0 G k64_26 (QD i) 0 [0,1,2,3,4,5,6,7,8,9,10] [(0,.i i),(2,.str ((dec (i/10))++[(UInt8.ofNat (48+(i%10)).toNat)])),(18,.i i),(19,.i (i/10)),(20,.str (dec (i/10))),(21,.i i),(22,.i (i%10)),(23,.i (48+(i%10))),(24,.int .u8 (((UInt8.ofNat (48+(i%10)).toNat).toNat:Nat):Int)),(25,.osl 0 1 0 1),(26,.str [(UInt8.ofNat (48+(i%10)).toNat)]),(27,.str ((dec (i/10))++[(UInt8.ofNat (48+(i%10)).toNat)]))] [(0,[.int .u8 (((UInt8.ofNat (48+(i%10)).toNat).toNat:Nat):Int)])] 4) ?_ fun m17=>?_
 refine R0 ?_
 refine Kp [2] (Rt (.str ((dec (i/10))++[(UInt8.ofNat (48+(i%10)).toNat)])) (fin_lea ?_))
 first
   |(have e:i= -9223372036854775808:=om;subst e;rw[dec_min];exact lea_refl _)
   |(rw[dec_neg (i:=i) om];exact lea_refl _)
   |(rw[dec_one (i:=i) om om];exact lea_refl _)
   |(rw[dec_more (i:=i) om om];exact lea_refl _)
 refine Hv (p:=RT 0 G k64_26 (QD i) 1 [0,1,2,3,4,5,6,7,8,9] [(0,.i i),(18,.i i),(19,.i (i/10)),(20,.str (dec (i/10))),(21,.i i),(22,.i (i%10)),(23,.i (48+(i%10))),(24,.int .u8 (((UInt8.ofNat (48+(i%10)).toNat).toNat:Nat):Int)),(25,.osl 0 1 0 1),(26,.str [(UInt8.ofNat (48+(i%10)).toNat)]),(27,.str ((dec (i/10))++[(UInt8.ofNat (48+(i%10)).toNat)]))] [(0,[.int .u8 (((UInt8.ofNat (48+(i%10)).toNat).toNat:Nat):Int)])] 4) ?_ fun m18=>?_
 refine Tc 10 [] ⟨?_,trivial⟩
 refine To0 2 (.str ((dec (i/10))++[(UInt8.ofNat (48+(i%10)).toNat)])) ?_
 exact Tm m17
 refine Hv (p:=RT 0 G k64_26 (QD i) 2 [0,1,2,3,4,5,6,7,8] [(0,.i i),(18,.i i),(19,.i (i/10)),(20,.str (dec (i/10))),(21,.i i),(22,.i (i%10)),(23,.i (48+(i%10))),(24,.int .u8 (((UInt8.ofNat (48+(i%10)).toNat).toNat:Nat):Int)),(25,.osl 0 1 0 1),(26,.str [(UInt8.ofNat (48+(i%10)).toNat)])] [(0,[.int .u8 (((UInt8.ofNat (48+(i%10)).toNat).toNat:Nat):Int)])] 4) ?_ fun m19=>?_
 refine Tc 9 [] ⟨?_,trivial⟩
 refine To1 27 (.str ((dec (i/10))++[(UInt8.ofNat (48+(i%10)).toNat)])) (((dec (i/10)).length+[(UInt8.ofNat (48+(i%10)).toNat)].length<=9223372036854775807)/\·) ⟨(by simp only[List.length_cons,List.length_nil];omega),?_⟩
 exact Tm m18
 refine Hv (p:=RT 0 G k64_26 (QD i) 3 [0,1,2,3,4,5,6,7] [(0,.i i),(18,.i i),(19,.i (i/10)),(20,.str (dec (i/10))),(21,.i i),(22,.i (i%10)),(23,.i (48+(i%10))),(24,.int .u8 (((UInt8.ofNat (48+(i%10)).toNat).toNat:Nat):Int)),(25,.osl 0 1 0 1)] [(0,[.int .u8 (((UInt8.ofNat (48+(i%10)).toNat).toNat:Nat):Int)])] 4) ?_ fun m20=>?_
 refine Tc 8 [] ⟨?_,trivial⟩
 refine To1 26 (.str ((((ints [(UInt8.ofNat (48+(i%10)).toNat)]).drop 0).take [(UInt8.ofNat (48+(i%10)).toNat)].length).map unu)) (fun Z=>(1=1/\0+[(UInt8.ofNat (48+(i%10)).toNat)].length<=(ints [(UInt8.ofNat (48+(i%10)).toNat)]).length/\allu (((ints [(UInt8.ofNat (48+(i%10)).toNat)]).drop 0).take [(UInt8.ofNat (48+(i%10)).toNat)].length))/\Z) ⟨⟨rfl,by rw[ints_len];omega,allu_ints _⟩,?_⟩
 refine Tjv (v':=.str [(UInt8.ofNat (48+(i%10)).toNat)]) (congrArg AV.str (unu_ints _)) ?_
 exact Tm m19
 refine Hv (p:=RT 0 G k64_26 (QD i) 3 [0,1,3,4,5,6,7,8] [(0,.i i),(18,.i i),(19,.i (i/10)),(21,.i i),(22,.i (i%10)),(23,.i (48+(i%10))),(24,.int .u8 (((UInt8.ofNat (48+(i%10)).toNat).toNat:Nat):Int)),(25,.osl 0 1 0 1),(26,.str [(UInt8.ofNat (48+(i%10)).toNat)])] [(0,[.int .u8 (((UInt8.ofNat (48+(i%10)).toNat).toNat:Nat):Int)])] 4) ?_ fun m21=>?_
 refine Tc 2 [] ⟨?_,trivial⟩
 have hl22:=dec_len (i/10) om om
 refine Toc 20 (ih _ om (i/10) rfl om om) ?_
 exact Tm m19
 refine Hv (p:=RT 0 G k64_26 (QD i) 4 [0,1,2,3,4,5,6] [(0,.i i),(18,.i i),(19,.i (i/10)),(20,.str (dec (i/10))),(21,.i i),(22,.i (i%10)),(23,.i (48+(i%10))),(24,.int .u8 (((UInt8.ofNat (48+(i%10)).toNat).toNat:Nat):Int))] [] 0) ?_ fun m23=>?_
 refine Tc 7 [] ⟨?_,trivial⟩
 refine To3 25 (.osl 0 1 0 1) [(0,[.int .u8 (((UInt8.ofNat (48+(i%10)).toNat).toNat:Nat):Int)])] 4 ((1*1<=16777216)/\·) ⟨dc,?_⟩
 exact Tm m20
 refine Hv (p:=RT 0 G k64_26 (QD i) 4 [0,1,3,4,5,6,7] [(0,.i i),(18,.i i),(19,.i (i/10)),(21,.i i),(22,.i (i%10)),(23,.i (48+(i%10))),(24,.int .u8 (((UInt8.ofNat (48+(i%10)).toNat).toNat:Nat):Int)),(25,.osl 0 1 0 1)] [(0,[.int .u8 (((UInt8.ofNat (48+(i%10)).toNat).toNat:Nat):Int)])] 4) ?_ fun m24=>?_
 refine Tc 2 [8] ⟨?_,?_,trivial⟩
 have hl25:=dec_len (i/10) om om
 refine Toc 20 (ih _ om (i/10) rfl om om) ?_
 exact Tm m20
 refine To1 26 (.str ((((ints [(UInt8.ofNat (48+(i%10)).toNat)]).drop 0).take [(UInt8.ofNat (48+(i%10)).toNat)].length).map unu)) (fun Z=>(1=1/\0+[(UInt8.ofNat (48+(i%10)).toNat)].length<=(ints [(UInt8.ofNat (48+(i%10)).toNat)]).length/\allu (((ints [(UInt8.ofNat (48+(i%10)).toNat)]).drop 0).take [(UInt8.ofNat (48+(i%10)).toNat)].length))/\Z) ⟨⟨rfl,by rw[ints_len];omega,allu_ints _⟩,?_⟩
 refine Tjv (v':=.str [(UInt8.ofNat (48+(i%10)).toNat)]) (congrArg AV.str (unu_ints _)) ?_
 exact Tm m21
 refine Hv (p:=RT 0 G k64_26 (QD i) 4 [0,3,4,5,6,7,8] [(0,.i i),(18,.i i),(21,.i i),(22,.i (i%10)),(23,.i (48+(i%10))),(24,.int .u8 (((UInt8.ofNat (48+(i%10)).toNat).toNat:Nat):Int)),(25,.osl 0 1 0 1),(26,.str [(UInt8.ofNat (48+(i%10)).toNat)])] [(0,[.int .u8 (((UInt8.ofNat (48+(i%10)).toNat).toNat:Nat):Int)])] 4) ?_ fun m26=>?_
 refine Tc 1 [] ⟨?_,trivial⟩
 refine To1 19 (.i (IntKind.i64.wrap (i.tdiv 10))) ((IntKind.i64=IntKind.i64/\(10:Int)≠0)/\·) ⟨⟨rfl,om⟩,?_⟩
 refine Tjv (v':=.i (i/10)) (cI (wdiv om om om)) ?_
 exact Tm m21
 refine Hv (p:=RT 0 G k64_26 (QD i) 5 [0,1,2,3,4,5] [(0,.i i),(18,.i i),(19,.i (i/10)),(20,.str (dec (i/10))),(21,.i i),(22,.i (i%10)),(23,.i (48+(i%10)))] [] 0) ?_ fun m27=>?_
 refine Tc 6 [] ⟨?_,trivial⟩
 have hu28:=UInt8.toNat_lt (UInt8.ofNat (48+(i%10)).toNat)
 refine To0 24 (.int .u8 (IntKind.u8.wrap (48+(i%10)))) ?_
 refine Tjv (v':=.int .u8 (((UInt8.ofNat (48+(i%10)).toNat).toNat:Nat):Int)) (w8of (48+(i%10)) om om) ?_
 exact Tm m23
 refine Hv (p:=RT 0 G k64_26 (QD i) 5 [0,1,3,4,5,6] [(0,.i i),(18,.i i),(19,.i (i/10)),(21,.i i),(22,.i (i%10)),(23,.i (48+(i%10))),(24,.int .u8 (((UInt8.ofNat (48+(i%10)).toNat).toNat:Nat):Int))] [] 0) ?_ fun m29=>?_
 refine Tc 2 [7] ⟨?_,?_,trivial⟩
 have hl30:=dec_len (i/10) om om
 refine Toc 20 (ih _ om (i/10) rfl om om) ?_
 exact Tm m23
 refine To3 25 (.osl 0 1 0 1) [(0,[.int .u8 (((UInt8.ofNat (48+(i%10)).toNat).toNat:Nat):Int)])] 4 ((1*1<=16777216)/\·) ⟨dc,?_⟩
 exact Tm m24
 refine Hv (p:=RT 0 G k64_26 (QD i) 5 [0,3,4,5,6,7] [(0,.i i),(18,.i i),(21,.i i),(22,.i (i%10)),(23,.i (48+(i%10))),(24,.int .u8 (((UInt8.ofNat (48+(i%10)).toNat).toNat:Nat):Int)),(25,.osl 0 1 0 1)] [(0,[.int .u8 (((UInt8.ofNat (48+(i%10)).toNat).toNat:Nat):Int)])] 4) ?_ fun m31=>?_
 refine Tc 1 [8] ⟨?_,?_,trivial⟩
 refine To1 19 (.i (IntKind.i64.wrap (i.tdiv 10))) ((IntKind.i64=IntKind.i64/\(10:Int)≠0)/\·) ⟨⟨rfl,om⟩,?_⟩
 refine Tjv (v':=.i (i/10)) (cI (wdiv om om om)) ?_
 exact Tm m24
 refine To1 26 (.str ((((ints [(UInt8.ofNat (48+(i%10)).toNat)]).drop 0).take [(UInt8.ofNat (48+(i%10)).toNat)].length).map unu)) (fun Z=>(1=1/\0+[(UInt8.ofNat (48+(i%10)).toNat)].length<=(ints [(UInt8.ofNat (48+(i%10)).toNat)]).length/\allu (((ints [(UInt8.ofNat (48+(i%10)).toNat)]).drop 0).take [(UInt8.ofNat (48+(i%10)).toNat)].length))/\Z) ⟨⟨rfl,by rw[ints_len];omega,allu_ints _⟩,?_⟩
 refine Tjv (v':=.str [(UInt8.ofNat (48+(i%10)).toNat)]) (congrArg AV.str (unu_ints _)) ?_
 exact Tm m26
 refine Hv (p:=RT 0 G k64_26 (QD i) 5 [3,4,5,6,7,8] [(0,.i i),(21,.i i),(22,.i (i%10)),(23,.i (48+(i%10))),(24,.int .u8 (((UInt8.ofNat (48+(i%10)).toNat).toNat:Nat):Int)),(25,.osl 0 1 0 1),(26,.str [(UInt8.ofNat (48+(i%10)).toNat)])] [(0,[.int .u8 (((UInt8.ofNat (48+(i%10)).toNat).toNat:Nat):Int)])] 4) ?_ fun m32=>?_
 refine Tc 0 [] ⟨?_,trivial⟩
 refine To0 18 (.i i) ?_
 exact Tm m26
 refine Hv (p:=RT 0 G k64_26 (QD i) 6 [0,1,2,3,4] [(0,.i i),(18,.i i),(19,.i (i/10)),(20,.str (dec (i/10))),(21,.i i),(22,.i (i%10))] [] 0) ?_ fun m33=>?_
 refine Tc 5 [] ⟨?_,trivial⟩
 refine To1 23 (.i (IntKind.i64.wrap (48+(i%10)))) (Ki/\·) ⟨rfl,?_⟩
 refine Tjv (v':=.i (48+(i%10))) (cI (wrap64 om om)) ?_
 exact Tm m27
 refine Hv (p:=RT 0 G k64_26 (QD i) 6 [0,1,3,4,5] [(0,.i i),(18,.i i),(19,.i (i/10)),(21,.i i),(22,.i (i%10)),(23,.i (48+(i%10)))] [] 0) ?_ fun m34=>?_
 refine Tc 2 [6] ⟨?_,?_,trivial⟩
 have hl35:=dec_len (i/10) om om
 refine Toc 20 (ih _ om (i/10) rfl om om) ?_
 exact Tm m27
 have hu36:=UInt8.toNat_lt (UInt8.ofNat (48+(i%10)).toNat)
 refine To0 24 (.int .u8 (IntKind.u8.wrap (48+(i%10)))) ?_
 refine Tjv (v':=.int .u8 (((UInt8.ofNat (48+(i%10)).toNat).toNat:Nat):Int)) (w8of (48+(i%10)) om om) ?_
 exact Tm m29
 refine Hv (p:=RT 0 G k64_26 (QD i) 6 [0,3,4,5,6] [(0,.i i),(18,.i i),(21,.i i),(22,.i (i%10)),(23,.i (48+(i%10))),(24,.int .u8 (((UInt8.ofNat (48+(i%10)).toNat).toNat:Nat):Int))] [] 0) ?_ fun m37=>?_
 refine Tc 1 [7] ⟨?_,?_,trivial⟩
 refine To1 19 (.i (IntKind.i64.wrap (i.tdiv 10))) ((IntKind.i64=IntKind.i64/\(10:Int)≠0)/\·) ⟨⟨rfl,om⟩,?_⟩
 refine Tjv (v':=.i (i/10)) (cI (wdiv om om om)) ?_
 exact Tm m29
 refine To3 25 (.osl 0 1 0 1) [(0,[.int .u8 (((UInt8.ofNat (48+(i%10)).toNat).toNat:Nat):Int)])] 4 ((1*1<=16777216)/\·) ⟨dc,?_⟩
 exact Tm m31
 refine Hv (p:=RT 0 G k64_26 (QD i) 6 [3,4,5,6,7] [(0,.i i),(21,.i i),(22,.i (i%10)),(23,.i (48+(i%10))),(24,.int .u8 (((UInt8.ofNat (48+(i%10)).toNat).toNat:Nat):Int)),(25,.osl 0 1 0 1)] [(0,[.int .u8 (((UInt8.ofNat (48+(i%10)).toNat).toNat:Nat):Int)])] 4) ?_ fun m38=>?_
 refine Tc 0 [8] ⟨?_,?_,trivial⟩
 refine To0 18 (.i i) ?_
 exact Tm m31
 refine To1 26 (.str ((((ints [(UInt8.ofNat (48+(i%10)).toNat)]).drop 0).take [(UInt8.ofNat (48+(i%10)).toNat)].length).map unu)) (fun Z=>(1=1/\0+[(UInt8.ofNat (48+(i%10)).toNat)].length<=(ints [(UInt8.ofNat (48+(i%10)).toNat)]).length/\allu (((ints [(UInt8.ofNat (48+(i%10)).toNat)]).drop 0).take [(UInt8.ofNat (48+(i%10)).toNat)].length))/\Z) ⟨⟨rfl,by rw[ints_len];omega,allu_ints _⟩,?_⟩
 refine Tjv (v':=.str [(UInt8.ofNat (48+(i%10)).toNat)]) (congrArg AV.str (unu_ints _)) ?_
 exact Tm m32
 refine Hv (p:=RT 0 G k64_26 (QD i) 7 [0,1,2,3] [(0,.i i),(18,.i i),(19,.i (i/10)),(20,.str (dec (i/10))),(21,.i i)] [] 0) ?_ fun m39=>?_
 refine Tc 4 [] ⟨?_,trivial⟩
 refine To1 22 (.i (i.tmod 10)) ((IntKind.i64=IntKind.i64/\(10:Int)≠0)/\·) ⟨⟨rfl,om⟩,?_⟩
 refine Tjv (v':=.i (i%10)) (cI (tmod_nn om)) ?_
 exact Tm m33
 refine Hv (p:=RT 0 G k64_26 (QD i) 7 [0,1,3,4] [(0,.i i),(18,.i i),(19,.i (i/10)),(21,.i i),(22,.i (i%10))] [] 0) ?_ fun m40=>?_
 refine Tc 2 [5] ⟨?_,?_,trivial⟩
 have hl41:=dec_len (i/10) om om
 refine Toc 20 (ih _ om (i/10) rfl om om) ?_
 exact Tm m33
 refine To1 23 (.i (IntKind.i64.wrap (48+(i%10)))) (Ki/\·) ⟨rfl,?_⟩
 refine Tjv (v':=.i (48+(i%10))) (cI (wrap64 om om)) ?_
 exact Tm m34
 refine Hv (p:=RT 0 G k64_26 (QD i) 7 [0,3,4,5] [(0,.i i),(18,.i i),(21,.i i),(22,.i (i%10)),(23,.i (48+(i%10)))] [] 0) ?_ fun m42=>?_
 refine Tc 1 [6] ⟨?_,?_,trivial⟩
 refine To1 19 (.i (IntKind.i64.wrap (i.tdiv 10))) ((IntKind.i64=IntKind.i64/\(10:Int)≠0)/\·) ⟨⟨rfl,om⟩,?_⟩
 refine Tjv (v':=.i (i/10)) (cI (wdiv om om om)) ?_
 exact Tm m34
 have hu43:=UInt8.toNat_lt (UInt8.ofNat (48+(i%10)).toNat)
 refine To0 24 (.int .u8 (IntKind.u8.wrap (48+(i%10)))) ?_
 refine Tjv (v':=.int .u8 (((UInt8.ofNat (48+(i%10)).toNat).toNat:Nat):Int)) (w8of (48+(i%10)) om om) ?_
 exact Tm m37
 refine Hv (p:=RT 0 G k64_26 (QD i) 7 [3,4,5,6] [(0,.i i),(21,.i i),(22,.i (i%10)),(23,.i (48+(i%10))),(24,.int .u8 (((UInt8.ofNat (48+(i%10)).toNat).toNat:Nat):Int))] [] 0) ?_ fun m44=>?_
 refine Tc 0 [7] ⟨?_,?_,trivial⟩
 refine To0 18 (.i i) ?_
 exact Tm m37
 refine To3 25 (.osl 0 1 0 1) [(0,[.int .u8 (((UInt8.ofNat (48+(i%10)).toNat).toNat:Nat):Int)])] 4 ((1*1<=16777216)/\·) ⟨dc,?_⟩
 exact Tm m38
 refine Hv (p:=RT 0 G k64_26 (QD i) 8 [0,1,2] [(0,.i i),(18,.i i),(19,.i (i/10)),(20,.str (dec (i/10)))] [] 0) ?_ fun m45=>?_
 refine Tc 3 [] ⟨?_,trivial⟩
 refine To0 21 (.i i) ?_
 exact Tm m39
 refine Hv (p:=RT 0 G k64_26 (QD i) 8 [0,1,3] [(0,.i i),(18,.i i),(19,.i (i/10)),(21,.i i)] [] 0) ?_ fun m46=>?_
 refine Tc 2 [4] ⟨?_,?_,trivial⟩
 have hl47:=dec_len (i/10) om om
 refine Toc 20 (ih _ om (i/10) rfl om om) ?_
 exact Tm m39
 refine To1 22 (.i (i.tmod 10)) ((IntKind.i64=IntKind.i64/\(10:Int)≠0)/\·) ⟨⟨rfl,om⟩,?_⟩
 refine Tjv (v':=.i (i%10)) (cI (tmod_nn om)) ?_
 exact Tm m40
 refine Hv (p:=RT 0 G k64_26 (QD i) 8 [0,3,4] [(0,.i i),(18,.i i),(21,.i i),(22,.i (i%10))] [] 0) ?_ fun m48=>?_
 refine Tc 1 [5] ⟨?_,?_,trivial⟩
 refine To1 19 (.i (IntKind.i64.wrap (i.tdiv 10))) ((IntKind.i64=IntKind.i64/\(10:Int)≠0)/\·) ⟨⟨rfl,om⟩,?_⟩
 refine Tjv (v':=.i (i/10)) (cI (wdiv om om om)) ?_
 exact Tm m40
 refine To1 23 (.i (IntKind.i64.wrap (48+(i%10)))) (Ki/\·) ⟨rfl,?_⟩
 refine Tjv (v':=.i (48+(i%10))) (cI (wrap64 om om)) ?_
 exact Tm m42
 refine Hv (p:=RT 0 G k64_26 (QD i) 8 [3,4,5] [(0,.i i),(21,.i i),(22,.i (i%10)),(23,.i (48+(i%10)))] [] 0) ?_ fun m49=>?_
 refine Tc 0 [6] ⟨?_,?_,trivial⟩
 refine To0 18 (.i i) ?_
 exact Tm m42
 have hu50:=UInt8.toNat_lt (UInt8.ofNat (48+(i%10)).toNat)
 refine To0 24 (.int .u8 (IntKind.u8.wrap (48+(i%10)))) ?_
 refine Tjv (v':=.int .u8 (((UInt8.ofNat (48+(i%10)).toNat).toNat:Nat):Int)) (w8of (48+(i%10)) om om) ?_
 exact Tm m44
 refine Hv (p:=RT 0 G k64_26 (QD i) 9 [0,1] [(0,.i i),(18,.i i),(19,.i (i/10))] [] 0) ?_ fun m51=>?_
 refine Tc 2 [3] ⟨?_,?_,trivial⟩
 have hl52:=dec_len (i/10) om om
 refine Toc 20 (ih _ om (i/10) rfl om om) ?_
 exact Tm m45
 refine To0 21 (.i i) ?_
 exact Tm m46
 refine Hv (p:=RT 0 G k64_26 (QD i) 9 [0,3] [(0,.i i),(18,.i i),(21,.i i)] [] 0) ?_ fun m53=>?_
 refine Tc 1 [4] ⟨?_,?_,trivial⟩
 refine To1 19 (.i (IntKind.i64.wrap (i.tdiv 10))) ((IntKind.i64=IntKind.i64/\(10:Int)≠0)/\·) ⟨⟨rfl,om⟩,?_⟩
 refine Tjv (v':=.i (i/10)) (cI (wdiv om om om)) ?_
 exact Tm m46
 refine To1 22 (.i (i.tmod 10)) ((IntKind.i64=IntKind.i64/\(10:Int)≠0)/\·) ⟨⟨rfl,om⟩,?_⟩
 refine Tjv (v':=.i (i%10)) (cI (tmod_nn om)) ?_
 exact Tm m48
 refine Hv (p:=RT 0 G k64_26 (QD i) 9 [3,4] [(0,.i i),(21,.i i),(22,.i (i%10))] [] 0) ?_ fun m54=>?_
 refine Tc 0 [5] ⟨?_,?_,trivial⟩
 refine To0 18 (.i i) ?_
 exact Tm m48
 refine To1 23 (.i (IntKind.i64.wrap (48+(i%10)))) (Ki/\·) ⟨rfl,?_⟩
 refine Tjv (v':=.i (48+(i%10))) (cI (wrap64 om om)) ?_
 exact Tm m49
 refine Hv (p:=RT 0 G k64_26 (QD i) 10 [0] [(0,.i i),(18,.i i)] [] 0) ?_ fun m55=>?_
 refine Tc 1 [3] ⟨?_,?_,trivial⟩
 refine To1 19 (.i (IntKind.i64.wrap (i.tdiv 10))) ((IntKind.i64=IntKind.i64/\(10:Int)≠0)/\·) ⟨⟨rfl,om⟩,?_⟩
 refine Tjv (v':=.i (i/10)) (cI (wdiv om om om)) ?_
 exact Tm m51
 refine To0 21 (.i i) ?_
 exact Tm m53
 refine Hv (p:=RT 0 G k64_26 (QD i) 10 [3] [(0,.i i),(21,.i i)] [] 0) ?_ fun m56=>?_
 refine Tc 0 [4] ⟨?_,?_,trivial⟩
 refine To0 18 (.i i) ?_
 exact Tm m53
 refine To1 22 (.i (i.tmod 10)) ((IntKind.i64=IntKind.i64/\(10:Int)≠0)/\·) ⟨⟨rfl,om⟩,?_⟩
 refine Tjv (v':=.i (i%10)) (cI (tmod_nn om)) ?_
 exact Tm m54
 refine Tc 0 [3] ⟨?_,?_,trivial⟩
 refine To0 18 (.i i) ?_
 exact Tm m55
 refine To0 21 (.i i) ?_
 exact Tm m56
open Go Go.Proofs
set_option maxRecDepth 100000
theorem l4Full_ok (b:Str) (p:Nat) (hp:p<2^25) (hb:b.length<2^30):RC G 35 [] b p (fun r p'=>∃x:Tr,x.W<2^12/\r=.agg (tcs x)/\p'<=p+40):=by
 refine h_rc (F:=[(0,.ptr 0 0)]) (by simp only[go_sem]) Tryz.func35 kr kr ?_ kr
 refine Rr (Fn2 [0] [(2,.ptr 4 0)] [(4,zt),(0,rdc b p)] 8 (Rr (Fn3 [0,2] [(3,.ptr 8 0)] [(8,[.bool true,.i 0,.str [],.nils,.nils]),(4,zt),(0,rdc b p)] 12 ((true=true/\5=5/\0+5<=5)/\·) ⟨dc,Sq fun K3 hK3=>?_⟩)))
 refine Rr (Fn0 [0,2,3] [(4,.i 0)] (Bl (h_lo (H':=[(8,tcs ((Tr.mk true 0 [] [] []))),(4,zt),(0,rdc b p)]) ⟨⟨rfl,(by simp[lea,leas,pth,tcs,clc])⟩,⟨rfl,leas_refl _⟩,⟨rfl,leas_refl _⟩,trivial⟩ (h_l (fun(z:Tr×Nat×Nat)=>(match z with|(x,q,k)=>([(0,.ptr 0 0),(2,.ptr 4 0),(3,.ptr 8 0),(4,.i k)]:Fr))) (fun(z:Tr×Nat×Nat)=>(match z with|(x,q,k)=>([(8,tcs x),(4,zt),(0,rdc b q)]:Hp))) (fun(z:Tr×Nat×Nat) cn=>(match z with|(x,q,k)=>(x.W<2^12/\q<=p+k/\k<=30)/\cn=12)) (fun(z:Tr×Nat×Nat)=>31-z.2.2) (((Tr.mk true 0 [] [] [])),p,0) kr ?_ ?_ ?_ ?_))))
 refine⟨?_,rfl⟩;exact⟨by simp[Tr.W,wS,Tr.Ws],om,om⟩
 exact⟨kr,kr,kr,kr,trivial⟩
 exact(sub_c kr (sub_c kr (sub_c kr (List.nil_sublist _))))
 rintro⟨x,q,k⟩ n1 hI
 (try dsimp only at hI)
 obtain⟨⟨hi1,hi2,hi3⟩,rfl⟩:=hI
 refine Sq fun K5 hK5=>?_
 refine Rr (Bc0 3 [(7,.ptr 0 0),(6,.i k)] 32 [.ptr 0 0,.i 3] 8 (RC.use (pick_ok b q 3 om om om om) kr fun r p1 hr=>?_));obtain⟨pk7,hpk7,rfl,rfl⟩:=hr
 refine Ke (Av1 (r:=.i (IntKind.i64.wrap (30-(pk7:Int)))) (v:=.i (30-(pk7:Int))) 1 9 [] (cI (wrap64 om om)) (Ki/\·) ⟨rfl,Cn1 (decide ((k:Int)<(30-(pk7:Int)))) [0,2,3,4] [] (Ki/\·) ⟨rfl,fun hc8 c8=>?_,fun hc8 c8=>?_⟩⟩)
 refine Sk (Jn (hK5 (Kp [0,2,3,4] (Sq fun K9 hK9=>?_))))
 refine Bl (Qb [0,0,2,6,14,30,62,127,255,511,511,1023] [(0,[]),(1,[]),(2,[]),(3,[0]),(4,[]),(5,[0]),(6,[]),(7,[]),(8,[]),(9,[]),(10,[]),(11,[])] (fun h=>Bn (Jn (hK9 h))) (qAv1 3 16 [(15,.i k),(14,.agg (tcs x))] (cI (wnn 100 k om)) ((0+5<=5/\0<5)/\Ki/\·) ⟨dc,rfl,qBc0 1 [] [0] 64 [.i ((100+k:Nat):Int)] 17 ?_⟩))
 have hl10:=dec_len ((100+k:Nat):Int) om om
 refine PE.use (l1Dec_ok _ ((100+k:Nat):Int) rfl om om) ?_
 refine Kq (p:=(((0+5<=5/\0<5)/\(AV.agg (tcs x)=(.agg (tcs x):AV)))/\True)) ⟨⟨dc,rfl⟩,trivial⟩ ?_
 refine qBc3 4 [(20,.agg [.i 2,.osl 12 1 0 1,.nils,.i 0,.str []]),(19,.osl 12 1 0 1),(18,.str ([102]++(dec ((100+k:Nat):Int))))] [] 21 [.agg (tcs x),.agg [.i 2,.osl 12 1 0 1,.nils,.i 0,.str []]] 21 [(12,[.str ([102]++(dec ((100+k:Nat):Int)))]),(8,tcs x),(4,zt),(0,rdc b (q+1))] 16 (([102].length+(dec ((100+k:Nat):Int)).length<=9223372036854775807)/\(1*1<=16777216)/\(((0+5<=5/\0<5)/\(AV.agg (tcs x)=(.agg (tcs x):AV)))/\True)/\·) ⟨(by simp only[List.length_cons,List.length_nil];omega),dc,⟨⟨dc,rfl⟩,trivial⟩,?_⟩
 refine Tz 12 1 1 ([[.str ([102]++(dec ((100+k:Nat):Int)))]]) ([.str ([102]++(dec ((100+k:Nat):Int)))]) [.agg (tcs x),.agg [.i 2,pth [[102]++(dec ((100+k:Nat):Int))],.nils,.i 0,.str []]] [(8,tcs x),(4,zt),(0,rdc b (q+1))] [true,true,true] kr (by first|decide|simp) ?_
 have hB11:=W_sTreeDo x (Cl.mk 2 [[102]++(dec ((100+k:Nat):Int))] [] 0 []) om
 refine TCall_le [.agg (tcs x),.agg (clc (Cl.mk 2 [[102]++(dec ((100+k:Nat):Int))] [] 0 []))] (by simp[lea,leas,pth,Tr.none,tcs,clc]) ?_
 refine PE.use (sTreeDo_ok x (Cl.mk 2 [[102]++(dec ((100+k:Nat):Int))] [] 0 []) om (by first|omega|decide|(dsimp only;first|omega|decide)|(simp only[wS,List.length_append,List.length_cons,List.length_nil];omega)) (by first|omega|decide|(dsimp only;first|omega|decide)|(simp only[wS,List.length_append,List.length_cons,List.length_nil];omega)) (by first|omega|decide|(dsimp only;first|omega|decide)|(simp only[wS,List.length_append,List.length_cons,List.length_nil];omega))) ?_
 refine Kq (p:=(True)) trivial ?_
 refine qFn3 [0,2,3,4] [] [(8,tcs ((sTreeDo x (Cl.mk 2 [[102]++(dec ((100+k:Nat):Int))] [] 0 [])).1)),(4,zt),(0,rdc b (q+1))] 16 ((0<2)/\(1<2)/\(true=true/\5=5/\0+5<=5)/\(True)/\·) ⟨dc,dc,dc,trivial,Rn (Av1 2 12 [(11,.i k)] (cI (wn1 k om)) (Ki/\·) ⟨rfl,Gn0 [(4,.i ((k+1:Nat):Int))] (nk_n ?_)⟩)⟩
 refine Lr (((sTreeDo x (Cl.mk 2 [[102]++(dec ((100+k:Nat):Int))] [] 0 [])).1),q+1,k+1) [(0,0),(4,4),(8,8)] 12 [(0,.ptr 0 0),(2,.ptr 4 0),(3,.ptr 8 0),(4,.i ((k+1:Nat):Int))] [(8,tcs ((sTreeDo x (Cl.mk 2 [[102]++(dec ((100+k:Nat):Int))] [] 0 [])).1)),(4,zt),(0,rdc b (q+1))] [true,true,true] ?_ ?_ kr kr
 (try dsimp only);omega
 refine⟨?_,rfl⟩;(try dsimp only);exact⟨om,om,om⟩
 refine Xt (Jx (Lx (Bh (Jn (hK3 (Kp [2,3] (Rr (Fn3 [2] [] [(8,tcs x),(4,tcs x),(0,rdc b (q+1))] 12 ((0+5<=5/\0<5)/\(true=true/\5=5/\0+5<=5)/\·) ⟨dc,dc,Rt1 ((0+5<=5/\0<5)/\·) (.agg (tcs x)) ⟨dc,?_⟩⟩))))))))
 exact fin_rc (q+1) (by first|exact lea_refl _|simp[lea,leas,pth,tcs]) (by simp only[go_sem]) kr ⟨x,om,rfl,om⟩
open Go Go.Proofs
set_option maxRecDepth 100000
theorem l1CopyO_ok (t:Tr) (hw:t.W<2^40):DC G 56 [.agg (tcs t)] [] (CpR t):=by
 refine DC_nd fun hnd=>?_
 rw[W_eq]at hw;have hks:=Ws_len t.kids;have hns:=wS_len t.names
 refine h_dc (F:=[(0,.agg (tcs t))]) (ods_tcs t) trivial Tryz.func56 kr kr ?_ kr
 refine Rr (Fn2 [] [(2,.ptr 4 0),(1,.ptr 0 0)] [(4,zt),(0,tcs t)] 8 (Qr [0,1,0,4,0,16,0,0,128,448,1023,0,4095] [(0,[]),(1,[]),(2,[]),(3,[]),(4,[]),(5,[]),(7,[]),(8,[]),(6,[1,3,5,8]),(9,[1,3,5]),(10,[]),(11,[1,3,5,8]),(12,[])] (qAn3 10 [(14,.osl 12 1 0 (0+(t.names.map (fun s=>[AV.str s])).length)),(11,.osl 8 1 0 0),(13,pth t.names),(12,.ptr 0 3),(10,.str t.data),(9,.ptr 0 2),(8,.i t.mode),(7,.ptr 0 1),(6,.bool t.dir),(5,.ptr 0 0)] [(12,apd [] (0*1) ((t.names.map (fun s=>[AV.str s])).flatten)),(4,zt),(0,tcs t)] 16 (((1:Nat)≠0)/\(0+1<=5/\0<5)/\((1:Nat)≠0)/\(1+1<=5/\1<5)/\((1:Nat)≠0)/\(2+1<=5/\2<5)/\((1:Nat)≠0)/\(3+1<=5/\3<5)/\(0*1<=16777216)/\(((0+1<=5/\0<5)/\(AV.bool t.dir=(.bool t.dir:AV)))/\((1+1<=5/\1<5)/\(AV.int .i64 t.mode=(.i t.mode:AV)))/\((2+1<=5/\2<5)/\(AV.str t.data=(.str t.data:AV)))/\((3+1<=5/\3<5)/\(pth t.names=pth t.names))/\True)/\True/\(1=1/\0*1<=0/\0<16/\(0+(t.names.map (fun s=>[AV.str s])).length)*16<=140737488355328)/\(((0+1<=5/\0<5)/\(AV.bool t.dir=(.bool t.dir:AV)))/\((1+1<=5/\1<5)/\(AV.int .i64 t.mode=(.i t.mode:AV)))/\((2+1<=5/\2<5)/\(AV.str t.data=(.str t.data:AV)))/\True)/\·) ⟨dc,dc,dc,dc,dc,dc,dc,dc,dc,⟨⟨dc,rfl⟩,⟨dc,rfl⟩,⟨dc,rfl⟩,⟨dc,rfl⟩,trivial⟩,trivial,⟨rfl,gl,dc,gl⟩,⟨⟨dc,rfl⟩,⟨dc,rfl⟩,⟨dc,rfl⟩,trivial⟩,runq_v (v':=.osl 12 1 0 t.names.length) (by rw[Nat.zero_add,List.length_map]) ?_⟩)))
 refine runq_h (cs':=fl sc t.names) (app0_str _) ?_
 refine qFn3 [1,2] [(3,.ptr 16 0)] [(16,(tr5 t (.osl 12 1 0 t.names.length)  .nils)),(12,fl sc t.names),(4,zt),(0,tcs t)] 20 ((((0+1<=5/\0<5)/\(AV.bool t.dir=(.bool t.dir:AV)))/\((1+1<=5/\1<5)/\(AV.int .i64 t.mode=(.i t.mode:AV)))/\((2+1<=5/\2<5)/\(AV.str t.data=(.str t.data:AV)))/\((3+1<=5/\3<5)/\(pth t.names=pth t.names))/\True)/\(true=true/\5=5/\0+5<=5)/\(True)/\·) ⟨⟨⟨dc,rfl⟩,⟨dc,rfl⟩,⟨dc,rfl⟩,⟨dc,rfl⟩,trivial⟩,dc,trivial,Sq fun K3 hK3=>?_⟩
 refine Rr (Fn0 [1,2,3] [(4,.i 0)] (Bl (h_l (fun(x:Nat×Option Unit)=>(match x with|(_,none)=>([(1,.ptr 0 0),(2,.ptr 4 0),(3,.ptr 16 0),(4,.i 0)]:Fr)|(k,some ())=>([(1,.ptr 0 0),(2,.ptr 4 0),(3,.ptr 16 0),(4,.i k)]:Fr))) (fun(x:Nat×Option Unit)=>(match x with|(_,none)=>([(16,(tr5 t (.osl 12 1 0 t.names.length)  .nils)),(12,fl sc t.names),(4,zt),(0,tcs t)]:Hp)|(k,some ())=>([(20,fl trc (t.kids.take k)),(16,(tr5 t (.osl 12 1 0 t.names.length) (.osl 20 5 0 ((t.kids.take k).length)))),(12,fl sc t.names),(4,zt),(0,tcs t)]:Hp))) (fun(x:Nat×Option Unit) cn=>(match x with|(_,none)=>(x.1=0)/\cn=20|(k,some ())=>(0<k/\k<=t.kids.length)/\cn=24)) (fun(x:Nat×Option Unit)=>t.kids.length-x.1) (0,none) kr ?_ ?_ ?_ ?_)))
 refine⟨?_,rfl⟩;rfl
 exact⟨kr,kr,kr,kr,trivial⟩
 exact(sub_c kr (sub_c kr (sub_c kr (sub_c kr (List.nil_sublist _)))))
 rintro⟨k,_|⟨⟩⟩ n1 hI
 (try dsimp only at hI)
 obtain⟨rfl,rfl⟩:=hI
 dsimp only
 refine Sq fun K5 hK5=>?_
 refine Rr (Av1 (r:=.i ((t.kids.map trc).length:Nat)) (v:=.i t.kids.length) 4 19 [(18,.sl 5 (t.kids.map trc)),(17,.ptr 0 4),(16,.i 0)] lm (((1:Nat)≠0)/\(4+1<=5/\4<5)/\·) ⟨dc,dc,Cn1 (decide ((0:Int)<((t.kids.length:Int):Int))) [1,2,3,4] [] (Ki/\·) ⟨rfl,fun hc7 c7=>?_,fun hc7 c7=>?_⟩⟩)
 refine Sk (Jn (hK5 (Kp [1,2,3,4] (Sq fun K8 hK8=>?_))))
 refine Bl (Qb [0,1,0,4,0,28,60,124,252,511,1023,2047] [(0,[]),(1,[]),(2,[]),(3,[]),(4,[]),(5,[]),(6,[]),(7,[1]),(8,[1]),(9,[]),(10,[]),(11,[])] (fun h=>Bn (Jn (hK8 h))) (qAv1 6 28 [(27,.i 0),(26,.sl 5 (t.kids.map trc)),(25,.ptr 0 4),(24,.nils),(23,.ptr 16 4)] (congrArg AV.pat (mg_trc t.kids 0 om)) (((1:Nat)≠0)/\(4+1<=5/\4<5)/\((1:Nat)≠0)/\(4+1<=5/\4<5)/\(5=5/\(0:Int)<=0/\0<((t.kids.map trc).length:Int))/\·) ⟨dc,dc,dc,dc,⟨rfl,om,lmo⟩,qBc1 2 [(29,.agg (tcs (t.kids.getD 0 default)))] [1] 56 [.agg (tcs (t.kids.getD 0 default))] 30 ((5<=5/\0<5)/\·) ⟨dc,?_⟩⟩))
 have hW:=Ws_get t.kids 0 om
 refine PE.use (l1Copy_ok _ (t.kids.getD 0 default) rfl om) ?_
 refine Kq (p:=(((4+1<=5/\4<5)/\(AV.nils=(.nils:AV)))/\True)) ⟨⟨dc,rfl⟩,trivial⟩ ?_
 refine qAn3 2 [(32,.osl 24 5 0 1),(31,.osl 20 5 0 1)] [(24,tcs (t.kids.getD 0 default)),(20,tcs (t.kids.getD 0 default)),(16,(tr5 t (.osl 12 1 0 t.names.length)  .nils)),(12,fl sc t.names),(4,zt),(0,tcs t)] 28 ((1*5<=16777216)/\(((4+1<=5/\4<5)/\(AV.nils=(.nils:AV)))/\True)/\(0+1*5<=5)/\(0<1/\0<80/\1*80<=140737488355328)/\(True)/\·) ⟨dc,⟨⟨dc,rfl⟩,trivial⟩,dc,dc,trivial,runq_v (v':=.osl 24 5 0 ([(t.kids.getD 0 default)].length)) rfl (runq_h (cs':=fl trc [(t.kids.getD 0 default)]) (s1_trc (t.kids.getD 0 default)) (qFn3 [1,2,3,4] [] [(24,fl trc [(t.kids.getD 0 default)]),(20,tcs (t.kids.getD 0 default)),(16,(tr5 t (.osl 12 1 0 t.names.length) (.osl 24 5 0 ([(t.kids.getD 0 default)].length)))),(12,fl sc t.names),(4,zt),(0,tcs t)] 28 (((1:Nat)≠0)/\(true=true/\1=1/\4+1<=5)/\(True)/\·) ⟨dc,dc,trivial,Rn ?_⟩))⟩
 refine Gn1 [(4,.i 1),(22,.i 1),(21,.i 0)] (Ki/\·) ⟨rfl,nk_n (Lr (1,some ()) [(0,0),(4,4),(12,12),(16,16),(24,20)] 24 [(1,.ptr 0 0),(2,.ptr 4 0),(3,.ptr 16 0),(4,.i 1)] [(24,fl trc [(t.kids.getD 0 default)]),(16,(tr5 t (.osl 12 1 0 t.names.length) (.osl 24 5 0 ([(t.kids.getD 0 default)].length)))),(12,fl sc t.names),(4,zt),(0,tcs t)] [false,true,false,true,true] ?_ ?_ (by(try rw[one_take default om]);try kernel_rfl) kr)⟩
 (try dsimp only);omega
 refine⟨?_,rfl⟩;(try dsimp only);omega
 refine Xt (Jx (Lx (Bh (Jn (hK3 (Kp [2,3] ?_))))))
 have hk0:t.kids=[]:=List.eq_nil_of_length_eq_zero om
 refine h_pm (H':=((16,(tr5 t (.osl 12 1 0 t.names.length)  .nils))::(4,zt)::(0,tcs t)::(12,fl sc t.names)::[])) (List.Perm.trans (List.Perm.cons _ (List.Perm.cons _ (List.Perm.swap _ _ _))) (List.Perm.cons _ (List.Perm.swap _ _ _))) ?_
 refine h_k [2,3] (F':=[(2,.ptr 4 0),(3,.ptr 16 0)]) kr ?_
 refine h_odd (H:=[(16,(tr5 t (.osl 12 1 0 t.names.length)  .nils)),(4,zt),(0,tcs t),(12,fl sc t.names)]) 12 (fun jn=>[(2,.ptr 4 0),(3,.ptr 16 0)]) (fun jn=>[(16,(tr5 t (.osl (2*jn+1) 1 0 t.names.length)  .nils)),(4,zt),(0,tcs t),((2*jn+1),fl sc t.names)]) kr (show odH []from trivial) (fun jn=>⟨by simp only[slF,slp,slps,go_sem,and_self],kr⟩) (fun jn=>⟨rfl,.inr ⟨by simp only[tcs,slps,slp,go_sem,and_self],kr⟩,rfl,.inr ⟨by simp only[tcs,slps,slp,go_sem,and_self],kr⟩,rfl,.inr ⟨by simp only[tcs,slps,slp,go_sem,and_self],kr⟩,rfl,.inl ⟨ods_flS _,rfl⟩,trivial⟩) (fun jn=>?_)
 refine Rr (Fn3 [2] [] ((16,(tr5 t (.osl (2*jn+1) 1 0 t.names.length)  .nils))::(4,(tr5 t (.osl (2*jn+1) 1 0 t.names.length)  .nils))::(0,tcs t)::(((2*jn+1),fl sc t.names)::[])) 20 ((0+5<=5/\0<5)/\(true=true/\5=5/\0+5<=5)/\·) ⟨dc,dc,Rt1 ((0+5<=5/\0<5)/\·) (.agg (tr5 t (.osl (2*jn+1) 1 0 t.names.length)  .nils)) ⟨dc,fin_dc (cpA t (.osl (2*jn+1) 1 0 t.names.length) .nils) [(2*jn+1,fl sc t.names)] (List.Sublist.cons _ (List.Sublist.cons _ (List.Sublist.cons _ (List.Sublist.refl _)))) (lea_refl _) ⟨trivial,trivial,trivial,by show(2*jn+1)%2=1;omega,trivial,trivial⟩ ⟨om,ods_flS _,trivial⟩ ⟨jn,.inl ⟨hk0,rfl,rfl⟩⟩⟩⟩)
 (try dsimp only at hI)
 obtain⟨⟨hk0,hk⟩,rfl⟩:=hI
 dsimp only
 have hkl:(t.kids.take k).length=k:=tkl hk
 refine Sq fun K10 hK10=>?_
 refine Rr (Av1 (r:=.i ((t.kids.map trc).length:Nat)) (v:=.i t.kids.length) 4 19 [(18,.sl 5 (t.kids.map trc)),(17,.ptr 0 4),(16,.i k)] lm (((1:Nat)≠0)/\(4+1<=5/\4<5)/\·) ⟨dc,dc,Cn1 (decide ((k:Int)<(t.kids.length:Int))) [1,2,3,4] [] (Ki/\·) ⟨rfl,fun hc12 c12=>?_,fun hc12 c12=>?_⟩⟩)
 refine Sk (Jn (hK10 (Kp [1,2,3,4] (Sq fun K13 hK13=>?_))))
 refine Bl (Qb [0,1,0,4,0,28,60,124,252,511,1023,2047] [(0,[]),(1,[]),(2,[]),(3,[]),(4,[]),(5,[]),(6,[]),(7,[1]),(8,[1]),(9,[]),(10,[]),(11,[])] (fun h=>Bn (Jn (hK13 h))) (qAv1 6 28 [(27,.i k),(26,.sl 5 (t.kids.map trc)),(25,.ptr 0 4),(24,.osl 20 5 0 ((t.kids.take k).length)),(23,.ptr 16 4)] (congrArg AV.pat (mg_trc t.kids k om)) (((1:Nat)≠0)/\(4+1<=5/\4<5)/\((1:Nat)≠0)/\(4+1<=5/\4<5)/\(5=5/\(0:Int)<=(k:Int)/\(k:Int)<((t.kids.map trc).length:Int))/\·) ⟨dc,dc,dc,dc,⟨rfl,om,lmo⟩,qBc1 2 [(29,.agg (tcs (t.kids.getD k default)))] [1] 56 [.agg (tcs (t.kids.getD k default))] 30 ((5<=5/\0<5)/\·) ⟨dc,?_⟩⟩))
 have hW:=Ws_get t.kids k om
 refine PE.use (l1Copy_ok _ (t.kids.getD k default) rfl om) ?_
 refine Kq (p:=(((4+1<=5/\4<5)/\(AV.osl 20 5 0 ((t.kids.take k).length)=(.osl 20 5 0 ((t.kids.take k).length):AV)))/\True)) ⟨⟨dc,rfl⟩,trivial⟩ ?_
 refine qAn3 2 [(32,.osl 28 5 0 ((t.kids.take k).length+1)),(31,.osl 24 5 0 1)] [(28,apd (fl trc (t.kids.take k)) ((t.kids.take k).length*5) (tcs (t.kids.getD k default))),(24,tcs (t.kids.getD k default)),(16,(tr5 t (.osl 12 1 0 t.names.length) (.osl 20 5 0 ((t.kids.take k).length)))),(12,fl sc t.names),(4,zt),(0,tcs t)] 32 (fun Z=>(1*5<=16777216)/\(((4+1<=5/\4<5)/\(AV.osl 20 5 0 ((t.kids.take k).length)=(.osl 20 5 0 ((t.kids.take k).length):AV)))/\True)/\(0+1*5<=5)/\(5=5/\(t.kids.take k).length*5<=(fl trc (t.kids.take k)).length/\0<80/\((t.kids.take k).length+1)*80<=140737488355328)/\(True)/\Z) ⟨dc,⟨⟨dc,rfl⟩,trivial⟩,dc,⟨rfl,gl,dc,gl⟩,trivial,runq_v (v':=.osl 28 5 0 ((t.kids.take k++[(t.kids.getD k default)]).length)) (push_len _ _ _ _) (runq_h (cs':=fl trc (t.kids.take k++[(t.kids.getD k default)])) (push_trc (t.kids.take k) (t.kids.getD k default)) (qFn3 [1,2,3,4] [] [(28,fl trc (t.kids.take k++[(t.kids.getD k default)])),(24,tcs (t.kids.getD k default)),(16,(tr5 t (.osl 12 1 0 t.names.length) (.osl 28 5 0 ((t.kids.take k++[(t.kids.getD k default)]).length)))),(12,fl sc t.names),(4,zt),(0,tcs t)] 32 (((1:Nat)≠0)/\(true=true/\1=1/\4+1<=5)/\(True)/\·) ⟨dc,dc,trivial,Rn ?_⟩))⟩
 refine Av1 2 22 [(21,.i k)] (cI (wn1 k om)) (Ki/\·) ⟨rfl,Gn0 [(4,.i ((k+1:Nat):Int))] (nk_n (Lr (k+1,some ()) [(0,0),(4,4),(12,12),(16,16),(28,20)] 24 [(1,.ptr 0 0),(2,.ptr 4 0),(3,.ptr 16 0),(4,.i ((k+1:Nat):Int))] [(28,fl trc (t.kids.take k++[(t.kids.getD k default)])),(16,(tr5 t (.osl 12 1 0 t.names.length) (.osl 28 5 0 ((t.kids.take k++[(t.kids.getD k default)]).length)))),(12,fl sc t.names),(4,zt),(0,tcs t)] [false,true,false,true,true] ?_ ?_ (by(try rw[<-take_snoc t.kids k default om]);try kernel_rfl) kr))⟩
 (try dsimp only);omega
 refine⟨?_,rfl⟩;(try dsimp only);omega
 refine Xt (Jx (Lx (Bh (Jn (hK3 (Kp [2,3] ?_))))))
 have hkk:t.kids.take k=t.kids:=List.take_of_length_le om
 rw[hkk]
 refine h_pm (H':=((16,(tr5 t (.osl 12 1 0 t.names.length) (.osl 20 5 0 t.kids.length)))::(4,zt)::(0,tcs t)::(12,fl sc t.names)::(20,fl trc t.kids)::[])) (List.Perm.trans (List.Perm.cons _ (List.Perm.cons _ (List.Perm.cons _ (List.Perm.swap _ _ _)))) (List.Perm.trans (List.Perm.cons _ (List.Perm.cons _ (List.Perm.swap _ _ _))) (List.Perm.trans (List.Perm.cons _ (List.Perm.cons _ (List.Perm.cons _ (List.Perm.swap _ _ _)))) (List.Perm.trans (List.Perm.cons _ (List.Perm.swap _ _ _)) (List.Perm.trans (List.Perm.cons _ (List.Perm.cons _ (List.Perm.swap _ _ _))) (List.Perm.swap _ _ _)))))) ?_
 refine h_k [2,3] (F':=[(2,.ptr 4 0),(3,.ptr 16 0)]) kr ?_
 refine h_odd (H:=[(16,(tr5 t (.osl 12 1 0 t.names.length) (.osl 20 5 0 t.kids.length))),(4,zt),(0,tcs t),(12,fl sc t.names),(20,fl trc t.kids)]) 20 (fun jk=>[(2,.ptr 4 0),(3,.ptr 16 0)]) (fun jk=>[(16,(tr5 t (.osl 12 1 0 t.names.length) (.osl (2*jk+1) 5 0 t.kids.length))),(4,zt),(0,tcs t),(12,fl sc t.names),((2*jk+1),fl trc t.kids)]) kr (show odH []from trivial) (fun jk=>⟨by simp only[slF,slp,slps,go_sem,and_self],kr⟩) (fun jk=>⟨rfl,.inr ⟨by simp only[tcs,slps,slp,go_sem,and_self],kr⟩,rfl,.inr ⟨by simp only[tcs,slps,slp,go_sem,and_self],kr⟩,rfl,.inr ⟨by simp only[tcs,slps,slp,go_sem,and_self],kr⟩,rfl,.inl ⟨ods_flS _,rfl⟩,rfl,.inl ⟨ods_flT _,rfl⟩,trivial⟩) (fun jk=>?_)
 refine h_k [2,3] (F':=[(2,.ptr 4 0),(3,.ptr 16 0)]) kr ?_
 refine h_odd (H:=[(16,(tr5 t (.osl 12 1 0 t.names.length) (.osl (2*jk+1) 5 0 t.kids.length))),(4,zt),(0,tcs t),(12,fl sc t.names)]) 12 (fun jn=>[(2,.ptr 4 0),(3,.ptr 16 0)]) (fun jn=>[(16,(tr5 t (.osl (2*jn+1) 1 0 t.names.length) (.osl (2*jk+1) 5 0 t.kids.length))),(4,zt),(0,tcs t),((2*jn+1),fl sc t.names)]) kr ⟨om,ods_flT _,(show odH []from trivial)⟩ (fun jn=>⟨by simp only[slF,slp,slps,go_sem,and_self],kr⟩) (fun jn=>⟨rfl,.inr ⟨by simp only[tcs,slps,slp,go_sem,and_self],by simp only[r1s,r1];rw[nbq (show 2*jk+1≠12 by omega)];rfl⟩,rfl,.inr ⟨by simp only[tcs,slps,slp,go_sem,and_self],kr⟩,rfl,.inr ⟨by simp only[tcs,slps,slp,go_sem,and_self],kr⟩,rfl,.inl ⟨ods_flS _,rfl⟩,trivial⟩) (fun jn=>?_)
 refine Rr (Fn3 [2] [] ((16,(tr5 t (.osl (2*jn+1) 1 0 t.names.length) (.osl (2*jk+1) 5 0 t.kids.length)))::(4,(tr5 t (.osl (2*jn+1) 1 0 t.names.length) (.osl (2*jk+1) 5 0 t.kids.length)))::(0,tcs t)::(((2*jn+1),fl sc t.names)::(((2*jk+1),fl trc t.kids)::[]))) 24 ((0+5<=5/\0<5)/\(true=true/\5=5/\0+5<=5)/\·) ⟨dc,dc,Rt1 ((0+5<=5/\0<5)/\·) (.agg (tr5 t (.osl (2*jn+1) 1 0 t.names.length) (.osl (2*jk+1) 5 0 t.kids.length))) ⟨dc,fin_dc (cpA t (.osl (2*jn+1) 1 0 t.names.length) (.osl (2*jk+1) 5 0 t.kids.length)) [(2*jn+1,fl sc t.names),(2*jk+1,fl trc t.kids)] (List.Sublist.cons _ (List.Sublist.cons _ (List.Sublist.cons _ (List.Sublist.refl _)))) (lea_refl _) ⟨trivial,trivial,trivial,by show(2*jn+1)%2=1;omega,by show(2*jk+1)%2=1;omega,trivial⟩ ⟨om,ods_flS _,om,ods_flT _,trivial⟩ ⟨jn,.inr ⟨om,jk,rfl,rfl⟩⟩⟩⟩)
theorem l1Open_ok (X:Str) (hX:X.length<2^40):DC G 12 [.sl 1 (X.map fun c=>[AV.int .u8 (c.toNat:Int)])] [] (OpR X):=by
 refine DC_nd fun hnd=>?_
 refine h_dc (F:=[(0,.sl 1 (X.map fun c=>[AV.int .u8 (c.toNat:Int)]))]) (ods_pur _ (by simp only[go_sem])) trivial Tryz.func12 kr kr ?_ kr
 refine Rr (Fn0 [0] [] (Sq fun K2 hK2=>?_))
 refine Rr (Av0 (r:=.i ((X.map (fun c=>[AV.int .u8 (c.toNat:Int)])).length:Nat)) (v:=.i X.length) 2 4 [(3,.sl 1 (X.map fun c=>[AV.int .u8 (c.toNat:Int)]))] lm (Cn1 (decide ((2000:Int)<((X.length:Int):Int))) [0] [] (Ki/\·) ⟨rfl,fun hc4 c4=>?_,fun hc4 c4=>?_⟩))
 refine Rb (fun h=>Jn (hK2 h)) (Av1 (r:=.sl 1 (((X.map (fun c=>[AV.int .u8 (c.toNat:Int)])).take 2000).drop 0)) (v:=.sl 1 ((X.take 2000).map fun c=>[AV.int .u8 (c.toNat:Int)])) 2 7 [(6,.sl 1 (X.map fun c=>[AV.int .u8 (c.toNat:Int)]))] (congrArg (AV.sl 1) (slm_0 _ _ _)) (fun Z=>(1=1/\0<=(0:Int)/\(0:Int)<=2000/\2000<=(((X.map (fun c=>[AV.int .u8 (c.toNat:Int)])).length:Nat):Int))/\Z) ⟨⟨rfl,om,by(try rw[List.length_map]);omega,lmo⟩,Fn0 [] [(0,.sl 1 ((X.take 2000).map fun c=>[AV.int .u8 (c.toNat:Int)]))] (Rr (Fn2 [] [(2,.ptr 0 0)] [(0,[.sl 1 ((X.take 2000).map fun c=>[AV.int .u8 (c.toNat:Int)]),.i 0])] 4 ?_))⟩)
 refine h_pm (H':=((0,[.sl 1 ((X.take 2000).map fun c=>[AV.int .u8 (c.toNat:Int)]),.i 0])::[])) (List.Perm.refl _) ?_
 refine h_k [2] (F':=[(2,.ptr 0 0)]) kr ?_
 refine h_odd (H:=[(0,[.sl 1 ((X.take 2000).map fun c=>[AV.int .u8 (c.toNat:Int)]),.i 0])]) 0 (fun jr=>[(2,.ptr (2*jr+1) 0)]) (fun jr=>[((2*jr+1),[.sl 1 ((X.take 2000).map fun c=>[AV.int .u8 (c.toNat:Int)]),.i 0])]) kr (show odH []from trivial) (fun jr=>⟨by simp only[slF,slp,slps,go_sem,and_self],kr⟩) (fun jr=>⟨rfl,.inr ⟨by simp only[tcs,slps,slp,go_sem,and_self],kr⟩,trivial⟩) (fun jr=>?_)
 refine Rt (.ptr (2*jr+1) 0) (fin_dc (.ptr (2*jr+1) 0) _ (List.Sublist.refl _) (lea_refl _) (by show(2*jr+1)%2=1;omega) ⟨om,ods_pur _ (by simp only[go_sem]),trivial⟩ ⟨jr,_,rfl,rfl,by first|omega|(simp only[List.length_take];omega)⟩)
 refine Sk (Jn (hK2 (Kp [0] (Rr (Fn2 [] [(2,.ptr 0 0)] [(0,[.sl 1 (X.map fun c=>[AV.int .u8 (c.toNat:Int)]),.i 0])] 4 (h_pm (H':=((0,[.sl 1 (X.map fun c=>[AV.int .u8 (c.toNat:Int)]),.i 0])::[])) (List.Perm.refl _) (h_k [2] (F':=[(2,.ptr 0 0)]) kr ?_)))))))
 refine h_odd (H:=[(0,[.sl 1 (X.map fun c=>[AV.int .u8 (c.toNat:Int)]),.i 0])]) 0 (fun jr=>[(2,.ptr (2*jr+1) 0)]) (fun jr=>[((2*jr+1),[.sl 1 (X.map fun c=>[AV.int .u8 (c.toNat:Int)]),.i 0])]) kr (show odH []from trivial) (fun jr=>⟨by simp only[slF,slp,slps,go_sem,and_self],kr⟩) (fun jr=>⟨rfl,.inr ⟨by simp only[tcs,slps,slp,go_sem,and_self],kr⟩,trivial⟩) (fun jr=>?_)
 refine Rt (.ptr (2*jr+1) 0) (fin_dc (.ptr (2*jr+1) 0) _ (List.Sublist.refl _) (lea_refl _) (by show(2*jr+1)%2=1;omega) ⟨om,ods_pur _ (by simp only[go_sem]),trivial⟩ ⟨jr,_,rfl,rfl,by first|omega|(simp only[List.length_take];omega)⟩)
open Go Go.Proofs
set_option maxRecDepth 100000
set_option maxHeartbeats 4000000 in
theorem l4Spoil_ok:∀(N:Nat) (t:Tr) (b:Str) (p:Nat),t.W=N->t.W<2^14->p+2*t.W<2^26->b.length<2^30->RC G 33 [.agg (tcs t)] b p (fun r p'=>∃x:Tr,x.W<=t.W+2000/\r=.agg (tcs x)/\p'<=p+2*t.W+40):=by
 intro N;refine Nat.strongRecOn N fun N ih=>?_;intro t b p hN hw hp hb;have hWe:=W_eq t;have hks:=Ws_len t.kids;have hns:=wS_len t.names
 refine h_rc (F:=[(0,.ptr 0 0),(1,.agg (tcs t))]) (by simp only[go_sem]) Tryz.func33 kr kr ?_ kr
 refine Rr (Fn2 [0] [(4,.ptr 8 0),(3,.ptr 4 0)] [(8,zt),(4,tcs t),(0,rdc b p)] 12 (Rr (Bc1 2 [(9,.agg (tcs t))] 56 [.agg (tcs t)] 10 ((0+5<=5/\0<5)/\·) ⟨dc,cp_use (l1CopyO_ok t om) (fun hk=>?_) (fun hk=>?_)⟩)))
 show KE _ _ _ (.agg _) _ _
 refine Ke (Fn3 [0,4] [(5,.ptr 16 0)] [(16,(tr5 t (.osl 12 1 0 t.names.length)  .nils)),(12,fl sc t.names),(8,zt),(4,tcs t),(0,rdc b p)] 20 ((true=true/\5=5/\0+5<=5)/\·) ⟨dc,Sq fun K3 hK3=>?_⟩)
 refine Rr (Fn1 [0,4,5] [(19,.bool false)] (((1:Nat)≠0)/\(4+1<=5/\4<5)/\Ki/\·) ⟨dc,dc,rfl,Cf (Sk (Jn (hK3 (Kp [0,4,5] (Sq fun K5 hK5=>?_)))))⟩)
 refine Rr (Bc0 2 [(37,.ptr 0 0)] 32 [.ptr 0 0,.i 8] 38 (RC.use (pick_ok b p 8 om om om om) kr fun r p1 hr=>?_));obtain⟨pk7,hpk7,rfl,rfl⟩:=hr
 refine Ke (Fn0 [0,4,5,38] [] (Bl (Rr (Cn1 (decide ((pk7:Int)=0)) [0,4,5,38] [] (Ki/\·) ⟨rfl,fun hc9 c9=>?_,fun hc9 c9=>?_⟩))))
 refine Rb (fun h=>Bn (Jn (hK5 h))) (Bc3 3 [(61,.ptr 0 0),(60,.osl 20 1 0 3)] 32 [.ptr 0 0,.i 3] 62 [(20,[.i (-1),.i 7,.i 8]),(16,(tr5 t (.osl 12 1 0 t.names.length)  .nils)),(12,fl sc t.names),(8,zt),(4,tcs t),(0,rdc b (p+1))] 24 ((3*1<=16777216)/\·) ⟨dc,RC.use (pick_ok b (p+1) 3 om om om om) kr fun r p1 hr=>?_⟩);obtain⟨pk10,hpk10,rfl,rfl⟩:=hr
 refine Ke (Av1 (r:=([.i (-1),.i 7,.i 8].getD (0+pk10*1) .dead:AV)) (v:=.i (([-1,7,8]:List Int).getD pk10 0)) 2 64 [(63,.ptr 20 (0+pk10*1))] (ints_get ([-1,7,8]:List Int) pk10 (by simp only[List.length_cons,List.length_nil];omega)) ((1=1/\(0:Int)<=(pk10:Int)/\(pk10:Int)<(3:Int))/\(0+pk10*1+1<=3/\0+pk10*1<3)/\·) ⟨⟨rfl,om,om⟩,⟨om,om⟩,Fn3 [4,5] [] [(20,[.i (-1),.i 7,.i 8]),(16,[.bool t.dir,.i (([-1,7,8]:List Int).getD pk10 0),.str t.data,.osl 12 1 0 t.names.length,.nils]),(12,fl sc t.names),(8,zt),(4,tcs t),(0,rdc b (p+1+1))] 24 (((1:Nat)≠0)/\(true=true/\1=1/\1+1<=5)/\·) ⟨dc,dc,Rr (Fn3 [4] [] [(20,[.i (-1),.i 7,.i 8]),(16,[.bool t.dir,.i (([-1,7,8]:List Int).getD pk10 0),.str t.data,.osl 12 1 0 t.names.length,.nils]),(12,fl sc t.names),(8,[.bool t.dir,.i (([-1,7,8]:List Int).getD pk10 0),.str t.data,.osl 12 1 0 t.names.length,.nils]),(4,tcs t),(0,rdc b (p+1+1))] 24 ((0+5<=5/\0<5)/\(true=true/\5=5/\0+5<=5)/\·) ⟨dc,dc,?_⟩)⟩⟩)
 refine FzS 12 t.names [(4,.ptr 8 0)] [(8,[.bool t.dir,.i (([-1,7,8]:List Int).getD pk10 0),.str t.data,.osl 12 1 0 t.names.length,.nils]),(0,rdc b (p+1+1))] [true,true] (Rt1 ((0+5<=5/\0<5)/\·) (.agg [.bool t.dir,.i (([-1,7,8]:List Int).getD pk10 0),.str t.data,pth t.names,.nils]) ⟨dc,?_⟩)
 have hWx:(Tr.mk t.dir (([-1,7,8]:List Int).getD pk10 0) t.data t.names []).W<=t.W+2000:=by
   (try (rw[W_eq (Tr.mk _ _ _ _ _)];simp only[Tr.data_mk,Tr.names_mk,Tr.kids_mk,wS_app,Ws_app,wS,Tr.Ws,List.length_append,List.length_cons,List.length_nil,W_none]))
   omega
 exact fin_rc (p+1+1) (by first|exact lea_refl _|simp[lea,leas,pth,tcs]) (by simp only[go_sem]) kr ⟨(Tr.mk t.dir (([-1,7,8]:List Int).getD pk10 0) t.data t.names []),hWx,rfl,om⟩
 refine Rr (Cn1 (decide ((pk7:Int)=1)) [0,4,5,38] [] (Ki/\·) ⟨rfl,fun hc13 c13=>?_,fun hc13 c13=>?_⟩)
 refine Rb (fun h=>Bn (Jn (hK5 h))) (Fn3 [4,5] [] [(16,[.bool (!t.dir),.i t.mode,.str t.data,.osl 12 1 0 t.names.length,.nils]),(12,fl sc t.names),(8,zt),(4,tcs t),(0,rdc b (p+1))] 20 (((1:Nat)≠0)/\(0+1<=5/\0<5)/\((1:Nat)≠0)/\(true=true/\1=1/\0+1<=5)/\·) ⟨dc,dc,dc,dc,Rr (Fn3 [4] [] [(16,[.bool (!t.dir),.i t.mode,.str t.data,.osl 12 1 0 t.names.length,.nils]),(12,fl sc t.names),(8,[.bool (!t.dir),.i t.mode,.str t.data,.osl 12 1 0 t.names.length,.nils]),(4,tcs t),(0,rdc b (p+1))] 20 ((0+5<=5/\0<5)/\(true=true/\5=5/\0+5<=5)/\·) ⟨dc,dc,FzS 12 t.names [(4,.ptr 8 0)] [(8,[.bool (!t.dir),.i t.mode,.str t.data,.osl 12 1 0 t.names.length,.nils]),(0,rdc b (p+1))] [true,true] ?_⟩)⟩)
 refine Rt1 ((0+5<=5/\0<5)/\·) (.agg [.bool (!t.dir),.i t.mode,.str t.data,pth t.names,.nils]) ⟨dc,?_⟩
 have hWx:(Tr.mk (!t.dir) t.mode t.data t.names []).W<=t.W+2000:=by
   (try (rw[W_eq (Tr.mk _ _ _ _ _)];simp only[Tr.data_mk,Tr.names_mk,Tr.kids_mk,wS_app,Ws_app,wS,Tr.Ws,List.length_append,List.length_cons,List.length_nil,W_none]))
   omega
 exact fin_rc (p+1) (by first|exact lea_refl _|simp[lea,leas,pth,tcs]) (by simp only[go_sem]) kr ⟨(Tr.mk (!t.dir) t.mode t.data t.names []),hWx,rfl,om⟩
 refine Rr (Cn1 (decide ((pk7:Int)=2)) [0,4,5,38] [] (Ki/\·) ⟨rfl,fun hc16 c16=>?_,fun hc16 c16=>?_⟩)
 refine Rb (fun h=>Bn (Jn (hK5 h))) (Fn3 [4,5] [] [(16,[.bool t.dir,.i t.mode,.str (t.data++[120]),.osl 12 1 0 t.names.length,.nils]),(12,fl sc t.names),(8,zt),(4,tcs t),(0,rdc b (p+1))] 20 (((1:Nat)≠0)/\(2+1<=5/\2<5)/\(t.data.length+[120].length<=9223372036854775807)/\((1:Nat)≠0)/\(true=true/\1=1/\2+1<=5)/\·) ⟨dc,dc,(by simp only[List.length_cons,List.length_nil];omega),dc,dc,Rr (Fn3 [4] [] [(16,[.bool t.dir,.i t.mode,.str (t.data++[120]),.osl 12 1 0 t.names.length,.nils]),(12,fl sc t.names),(8,[.bool t.dir,.i t.mode,.str (t.data++[120]),.osl 12 1 0 t.names.length,.nils]),(4,tcs t),(0,rdc b (p+1))] 20 ((0+5<=5/\0<5)/\(true=true/\5=5/\0+5<=5)/\·) ⟨dc,dc,FzS 12 t.names [(4,.ptr 8 0)] [(8,[.bool t.dir,.i t.mode,.str (t.data++[120]),.osl 12 1 0 t.names.length,.nils]),(0,rdc b (p+1))] [true,true] ?_⟩)⟩)
 refine Rt1 ((0+5<=5/\0<5)/\·) (.agg [.bool t.dir,.i t.mode,.str (t.data++[120]),pth t.names,.nils]) ⟨dc,?_⟩
 have hWx:(Tr.mk t.dir t.mode (t.data++[120]) t.names []).W<=t.W+2000:=by
   (try (rw[W_eq (Tr.mk _ _ _ _ _)];simp only[Tr.data_mk,Tr.names_mk,Tr.kids_mk,wS_app,Ws_app,wS,Tr.Ws,List.length_append,List.length_cons,List.length_nil,W_none]))
   omega
 exact fin_rc (p+1) (by first|exact lea_refl _|simp[lea,leas,pth,tcs]) (by simp only[go_sem]) kr ⟨(Tr.mk t.dir t.mode (t.data++[120]) t.names []),hWx,rfl,om⟩
 refine Rr (Cn1 (decide ((pk7:Int)=3)) [0,4,5,38] [] (Ki/\·) ⟨rfl,fun hc19 c19=>?_,fun hc19 c19=>?_⟩)
 refine Qr [0,1,0,0,12,28,63,127,255] [(0,[]),(1,[]),(2,[]),(3,[1]),(4,[1]),(5,[1]),(6,[]),(7,[]),(8,[])] (qBc3 5 [(83,.osl 20 1 0 5),(82,.ptr 0 0),(81,.osl 12 1 0 t.names.length),(80,.ptr 16 3)] [1] 41 [.ptr 0 0,.osl 20 1 0 5] 84 [(20,[.str [122,122],.str [],.str [97],.str [90],.str [116,111,111,108,111,110,103]]),(16,(tr5 t (.osl 12 1 0 t.names.length)  .nils)),(12,fl sc t.names),(8,zt),(4,tcs t),(0,rdc b (p+1))] 24 (((1:Nat)≠0)/\(3+1<=5/\3<5)/\(5*1<=16777216)/\(((3+1<=5/\3<5)/\(AV.osl 12 1 0 t.names.length=(.osl 12 1 0 t.names.length:AV)))/\True)/\·) ⟨dc,dc,dc,⟨⟨dc,rfl⟩,trivial⟩,Tz 20 1 5 ([[.str [122,122]],[.str []],[.str [97]],[.str [90]],[.str [116,111,111,108,111,110,103]]]) ([.str [122,122],.str [],.str [97],.str [90],.str [116,111,111,108,111,110,103]]) [.ptr 0 0,pth [[122,122],[],[97],[90],[116,111,111,108,111,110,103]]] [(16,(tr5 t (.osl 12 1 0 t.names.length)  .nils)),(12,fl sc t.names),(8,zt),(4,tcs t),(0,rdc b (p+1))] [true,false,true,true,true] kr (by first|decide|simp) (RC.use (of_ok b (p+1) [[122,122],[],[97],[90],[116,111,111,108,111,110,103]] (by first|omega|decide|simp) (by first|omega|decide|simp) om om) kr fun r p1 hr=>?_)⟩);obtain⟨os21,hos21,rfl,rfl⟩:=hr
 have hol:os21.length<=7:=by
   have hq:=hos21
   simp only[List.mem_cons,List.not_mem_nil,or_false]at hq
   rcases hq with h|h|h|h|h<;>rw[h]<;>decide
 refine Kq (p:=(((3+1<=5/\3<5)/\(AV.osl 12 1 0 t.names.length=(.osl 12 1 0 t.names.length:AV)))/\True)) ⟨⟨dc,rfl⟩,trivial⟩ ?_
 refine qAn3 2 [(86,.osl 28 1 0 (t.names.length+1)),(85,.osl 24 1 0 1)] [(28,apd (fl sc t.names) (t.names.length*1) [.str os21]),(24,[.str os21]),(16,(tr5 t (.osl 12 1 0 t.names.length)  .nils)),(8,zt),(4,tcs t),(0,rdc b (p+1+1))] 32 ((1*1<=16777216)/\(((3+1<=5/\3<5)/\(AV.osl 12 1 0 t.names.length=(.osl 12 1 0 t.names.length:AV)))/\True)/\(0+1*1<=1)/\(1=1/\t.names.length*1<=(fl sc t.names).length/\0<16/\(t.names.length+1)*16<=140737488355328)/\(True)/\·) ⟨dc,⟨⟨dc,rfl⟩,trivial⟩,dc,⟨rfl,gl,dc,gl⟩,trivial,runq_v (v':=.osl 28 1 0 ((t.names++[os21]).length)) (push_len _ _ _ _) (runq_h (cs':=fl sc (t.names++[os21])) (push_str t.names os21) (qFn3 [4,5] [] [(28,fl sc (t.names++[os21])),(24,[.str os21]),(16,(tr5 t (.osl 28 1 0 ((t.names++[os21]).length))  .nils)),(8,zt),(4,tcs t),(0,rdc b (p+1+1))] 32 (((1:Nat)≠0)/\(true=true/\1=1/\3+1<=5)/\(True)/\·) ⟨dc,dc,trivial,Rb (fun h=>Bn (Jn (hK5 h))) ?_⟩))⟩
 refine Fn3 [4,5] [] [(36,zt),(32,zt),(28,fl sc (t.names++[os21])),(24,[.str os21]),(16,(tr5 t (.osl 28 1 0 ((t.names++[os21]).length)) (.osl 36 5 0 1))),(8,zt),(4,tcs t),(0,rdc b (p+1+1))] 40 (((1:Nat)≠0)/\(4+1<=5/\4<5)/\(1*5<=16777216)/\(0+1*5<=5)/\(0<1/\0<80/\1*80<=140737488355328)/\((1:Nat)≠0)/\(true=true/\1=1/\4+1<=5)/\·) ⟨dc,dc,dc,dc,dc,dc,dc,Hn [(36,zt),(32,zt),(28,fl sc (t.names++[os21])),(24,[.str os21]),(16,(tr5 t (.osl 28 1 0 ((t.names++[os21]).length)) (.osl 36 5 0 1))),(8,zt),(4,tcs t),(0,rdc b (p+1+1))] (h_lo (H':=[(36,fl trc [Tr.none]),(32,zt),(28,fl sc (t.names++[os21])),(24,[.str os21]),(16,(tr5 t (.osl 28 1 0 ((t.names++[os21]).length)) (.osl 36 5 0 1))),(8,zt),(4,tcs t),(0,rdc b (p+1+1))]) ⟨⟨rfl,(by rw[fl_one,trc_none];simp[leas,lea])⟩,⟨rfl,leas_refl _⟩,⟨rfl,leas_refl _⟩,⟨rfl,leas_refl _⟩,⟨rfl,leas_refl _⟩,⟨rfl,leas_refl _⟩,⟨rfl,leas_refl _⟩,⟨rfl,leas_refl _⟩,trivial⟩ (h_k [4,5] (F':=[(4,.ptr 8 0),(5,.ptr 16 0)]) kr (h_st (F':=[(4,.ptr 8 0),(5,.ptr 16 0)]) (H':=[(36,fl trc [Tr.none]),(32,zt),(28,fl sc (t.names++[os21])),(24,[.str os21]),(16,(tr5 t (.osl 28 1 0 ((t.names++[os21]).length)) (.osl 36 5 0 (([Tr.none]).length)))),(8,zt),(4,tcs t),(0,rdc b (p+1+1))]) rfl (by simp only[List.length_append,List.length_cons,List.length_nil]) ?_)))⟩
 refine Rr (Fn3 [4] [] [(36,fl trc [Tr.none]),(32,zt),(28,fl sc (t.names++[os21])),(24,[.str os21]),(16,(tr5 t (.osl 28 1 0 ((t.names++[os21]).length)) (.osl 36 5 0 (([Tr.none]).length)))),(8,(tr5 t (.osl 28 1 0 ((t.names++[os21]).length)) (.osl 36 5 0 (([Tr.none]).length)))),(4,tcs t),(0,rdc b (p+1+1))] 40 ((0+5<=5/\0<5)/\(true=true/\5=5/\0+5<=5)/\·) ⟨dc,dc,FzT 36 [Tr.none] [(4,.ptr 8 0)] [(28,fl sc (t.names++[os21])),(8,(tr5 t (.osl 28 1 0 ((t.names++[os21]).length)) (.osl 36 5 0 (([Tr.none]).length)))),(0,rdc b (p+1+1))] [false,true,true] (FzS 28 (t.names++[os21]) [(4,.ptr 8 0)] [(8,(tr5 t (.osl 28 1 0 ((t.names++[os21]).length)) (.sl 5 ([Tr.none].map trc)))),(0,rdc b (p+1+1))] [true,true] (Rt1 ((0+5<=5/\0<5)/\·) (.agg (tr5 t (pth (t.names++[os21])) (.sl 5 ([Tr.none].map trc)))) ⟨dc,?_⟩))⟩)
 have hWx:(Tr.mk t.dir t.mode t.data (t.names++[os21]) [Tr.none]).W<=t.W+2000:=by
   (try (rw[W_eq (Tr.mk _ _ _ _ _)];simp only[Tr.data_mk,Tr.names_mk,Tr.kids_mk,wS_app,Ws_app,wS,Tr.Ws,List.length_append,List.length_cons,List.length_nil,W_none]))
   omega
 exact fin_rc (p+1+1) (by first|exact lea_refl _|simp[lea,leas,pth,tcs]) (by simp only[go_sem]) kr ⟨(Tr.mk t.dir t.mode t.data (t.names++[os21]) [Tr.none]),hWx,rfl,om⟩
 refine Rr (Cn1 (decide ((pk7:Int)=4)) [0,4,5,38] [] (Ki/\·) ⟨rfl,fun hc24 c24=>?_,fun hc24 c24=>?_⟩)
 refine Rb (fun h=>Bn (Jn (hK5 h))) (An3 4 [(99,.osl 24 1 0 (t.names.length+1)),(98,.osl 20 1 0 1),(97,.osl 12 1 0 t.names.length),(96,.ptr 16 3)] [(24,apd (fl sc t.names) (t.names.length*1) [.str [122,122,122]]),(20,[.str [122,122,122]]),(16,(tr5 t (.osl 12 1 0 t.names.length)  .nils)),(8,zt),(4,tcs t),(0,rdc b (p+1))] 28 (((1:Nat)≠0)/\(3+1<=5/\3<5)/\(1*1<=16777216)/\(0+1*1<=1)/\(1=1/\t.names.length*1<=(fl sc t.names).length/\0<16/\(t.names.length+1)*16<=140737488355328)/\·) ⟨dc,dc,dc,dc,⟨rfl,gl,dc,gl⟩,run_v (v':=.osl 24 1 0 ((t.names++[[122,122,122]]).length)) (push_len _ _ _ _) (run_h (cs':=fl sc (t.names++[[122,122,122]])) (push_str t.names [122,122,122]) (Fn3 [4,5] [] [(24,fl sc (t.names++[[122,122,122]])),(20,[.str [122,122,122]]),(16,(tr5 t (.osl 24 1 0 ((t.names++[[122,122,122]]).length))  .nils)),(8,zt),(4,tcs t),(0,rdc b (p+1))] 28 (((1:Nat)≠0)/\(true=true/\1=1/\3+1<=5)/\·) ⟨dc,dc,?_⟩))⟩)
 refine Rr (Fn3 [4] [] [(24,fl sc (t.names++[[122,122,122]])),(20,[.str [122,122,122]]),(16,(tr5 t (.osl 24 1 0 ((t.names++[[122,122,122]]).length))  .nils)),(8,(tr5 t (.osl 24 1 0 ((t.names++[[122,122,122]]).length))  .nils)),(4,tcs t),(0,rdc b (p+1))] 28 ((0+5<=5/\0<5)/\(true=true/\5=5/\0+5<=5)/\·) ⟨dc,dc,FzS 24 (t.names++[[122,122,122]]) [(4,.ptr 8 0)] [(8,(tr5 t (.osl 24 1 0 ((t.names++[[122,122,122]]).length))  .nils)),(0,rdc b (p+1))] [true,true] (Rt1 ((0+5<=5/\0<5)/\·) (.agg (tr5 t (pth (t.names++[[122,122,122]]))  .nils)) ⟨dc,?_⟩)⟩)
 have hWx:(Tr.mk t.dir t.mode t.data (t.names++[[122,122,122]]) []).W<=t.W+2000:=by
   (try (rw[W_eq (Tr.mk _ _ _ _ _)];simp only[Tr.data_mk,Tr.names_mk,Tr.kids_mk,wS_app,Ws_app,wS,Tr.Ws,List.length_append,List.length_cons,List.length_nil,W_none]))
   omega
 exact fin_rc (p+1) (by first|exact lea_refl _|simp[lea,leas,pth,tcs]) (by simp only[go_sem]) kr ⟨(Tr.mk t.dir t.mode t.data (t.names++[[122,122,122]]) []),hWx,rfl,om⟩
 refine Rr (Cn1 (decide ((pk7:Int)=5)) [0,4,5,38] [] (Ki/\·) ⟨rfl,fun hc27 c27=>?_,fun hc27 c27=>?_⟩)
 refine Rb (fun h=>Bn (Jn (hK5 h))) (Bc0 2 [(103,.ptr 0 0)] 32 [.ptr 0 0,.i 2] 104 (RC.use (pick_ok b (p+1) 2 om om om om) kr fun r p1 hr=>?_));obtain⟨pk28,hpk28,rfl,rfl⟩:=hr
 refine Ke (Av1 1 105 [] (cI (wnn 24 pk28 om)) (Ki/\·) ⟨rfl,Bc0 1 [] 42 [.str [100],.i ((24+pk28:Nat):Int)] 106 (PC.use (l1Many_ok [100] (24+pk28) (by first|omega|decide) (by first|omega|(simp only[List.length_cons,List.length_nil];omega)) om) fun r hr=>?_)⟩);obtain⟨mt29,rfl,hmt29⟩:=hr;simp only[List.length_cons,List.length_nil]at hmt29
 refine Ke (Fn3 [4,5] [] [(16,[.bool t.dir,.i t.mode,.str mt29,.osl 12 1 0 t.names.length,.nils]),(12,fl sc t.names),(8,zt),(4,tcs t),(0,rdc b (p+1+1))] 20 (((1:Nat)≠0)/\(true=true/\1=1/\2+1<=5)/\·) ⟨dc,dc,Rr (Fn3 [4] [] [(16,[.bool t.dir,.i t.mode,.str mt29,.osl 12 1 0 t.names.length,.nils]),(12,fl sc t.names),(8,[.bool t.dir,.i t.mode,.str mt29,.osl 12 1 0 t.names.length,.nils]),(4,tcs t),(0,rdc b (p+1+1))] 20 ((0+5<=5/\0<5)/\(true=true/\5=5/\0+5<=5)/\·) ⟨dc,dc,FzS 12 t.names [(4,.ptr 8 0)] [(8,[.bool t.dir,.i t.mode,.str mt29,.osl 12 1 0 t.names.length,.nils]),(0,rdc b (p+1+1))] [true,true] ?_⟩)⟩)
 refine Rt1 ((0+5<=5/\0<5)/\·) (.agg [.bool t.dir,.i t.mode,.str mt29,pth t.names,.nils]) ⟨dc,?_⟩
 have hWx:(Tr.mk t.dir t.mode mt29 t.names []).W<=t.W+2000:=by
   (try (rw[W_eq (Tr.mk _ _ _ _ _)];simp only[Tr.data_mk,Tr.names_mk,Tr.kids_mk,wS_app,Ws_app,wS,Tr.Ws,List.length_append,List.length_cons,List.length_nil,W_none]))
   omega
 exact fin_rc (p+1+1) (by first|exact lea_refl _|simp[lea,leas,pth,tcs]) (by simp only[go_sem]) kr ⟨(Tr.mk t.dir t.mode mt29 t.names []),hWx,rfl,om⟩
 refine Rr (Cn1 (decide ((pk7:Int)=6)) [0,4,5] [] (Ki/\·) ⟨rfl,fun hc32 c32=>?_,fun hc32 c32=>?_⟩)
 refine Rr (Fn0 [0,4,5] [(7,.i 0)] (Bl (FzS 12 t.names [(0,.ptr 0 0),(4,.ptr 8 0),(5,.ptr 16 0),(7,.i 0)] [(16,(tr5 t (.osl 12 1 0 t.names.length)  .nils)),(8,zt),(0,rdc b (p+1))] [true,true,true] (Hn [(16,(tr5 t (pth t.names)  .nils)),(8,zt),(0,rdc b (p+1))] ?_))))
 refine h_lo (H':=[(16,tcs (Tr.mk t.dir t.mode t.data t.names [])),(8,zt),(0,rdc b (p+1))]) ⟨⟨rfl,(by simp[lea,leas,pth,tcs,clc])⟩,⟨rfl,leas_refl _⟩,⟨rfl,leas_refl _⟩,trivial⟩ ?_
 refine h_l (fun(z:Tr×Nat×Nat)=>(match z with|(x,q,i)=>([(0,.ptr 0 0),(4,.ptr 8 0),(5,.ptr 16 0),(7,.i i)]:Fr))) (fun(z:Tr×Nat×Nat)=>(match z with|(x,q,i)=>([(16,tcs x),(8,zt),(0,rdc b q)]:Hp))) (fun(z:Tr×Nat×Nat) cn=>(match z with|(x,q,i)=>(x.W<=t.W+3*i/\q<=p+2*t.W+10+i/\i<=6)/\cn=20)) (fun(z:Tr×Nat×Nat)=>7-z.2.2) ((Tr.mk t.dir t.mode t.data t.names []),p+1,0) kr ?_ ?_ ?_ ?_
 refine⟨?_,rfl⟩;exact⟨by rw[W_eq];simp only[Tr.data_mk,Tr.names_mk,Tr.kids_mk,Tr.Ws];omega,om,om⟩
 exact⟨kr,kr,kr,kr,trivial⟩
 exact(sub_c kr (sub_c kr (sub_c kr (List.nil_sublist _))))
 rintro⟨x,q,i⟩ n1 hI
 (try dsimp only at hI)
 obtain⟨⟨hi1,hi2,hi3⟩,rfl⟩:=hI
 refine Sq fun K34 hK34=>?_
 refine Rr (Bc0 3 [(111,.ptr 0 0),(110,.i i)] 32 [.ptr 0 0,.i 2] 112 (RC.use (pick_ok b q 2 om om om om) kr fun r p1 hr=>?_));obtain⟨pk36,hpk36,rfl,rfl⟩:=hr
 refine Ke (Av1 1 113 [] (cI (wnn 4 pk36 om)) (Ki/\·) ⟨rfl,Cn1 (decide ((i:Int)<((4+pk36:Nat):Int))) [0,4,5,7] [] (Ki/\·) ⟨rfl,fun hc37 c37=>?_,fun hc37 c37=>?_⟩⟩)
 refine Sk (Jn (hK34 (Kp [0,4,5,7] (Sq fun K38 hK38=>?_))))
 refine Bl (Rb (fun h=>Bn (Jn (hK38 h))) (Fn3 [0,4,5,7] [] [(24,tcs x),(20,[.str [110]]),(16,[.bool true,.i 0,.str [],.osl 20 1 0 1,.osl 24 5 0 1]),(8,zt),(0,rdc b (q+1))] 28 ((1*1<=16777216)/\(0+5<=5/\0<5)/\(1*5<=16777216)/\(true=true/\5=5/\0+5<=5)/\·) ⟨dc,dc,dc,dc,h_k [0,4,5,7] (F':=[(0,.ptr 0 0),(4,.ptr 8 0),(5,.ptr 16 0),(7,.i i)]) kr (h_st (F':=[(0,.ptr 0 0),(4,.ptr 8 0),(5,.ptr 16 0),(7,.i i)]) (H':=[(24,fl trc [x]),(20,[.str [110]]),(16,[.bool true,.i 0,.str [],.osl 20 1 0 1,.osl 24 5 0 ([x].length)]),(8,zt),(0,rdc b (q+1))]) rfl (by rw[fl_one,trc_eq];rfl) ?_)⟩))
 refine FzT 24 [x] [(0,.ptr 0 0),(4,.ptr 8 0),(5,.ptr 16 0),(7,.i i)] [(20,[.str [110]]),(16,[.bool true,.i 0,.str [],.osl 20 1 0 1,.osl 24 5 0 ([x].length)]),(8,zt),(0,rdc b (q+1))] [true,true,true,true] (Fz 20 1 1 ([[.str [110]]]) ([.str [110]]) [(0,.ptr 0 0),(4,.ptr 8 0),(5,.ptr 16 0),(7,.i i)] [(16,[.bool true,.i 0,.str [],.osl 20 1 0 1,.sl 5 ([x].map trc)]),(8,zt),(0,rdc b (q+1))] [true,true,true] kr (by first|decide|simp) (Hn [(16,[.bool true,.i 0,.str [],pth [[110]],.sl 5 ([x].map trc)]),(8,zt),(0,rdc b (q+1))] (h_lo (H':=[(16,tcs (Tr.mk true 0 [] [[110]] [x])),(8,zt),(0,rdc b (q+1))]) ⟨⟨rfl,(by simp[lea,leas,pth,tcs,clc])⟩,⟨rfl,leas_refl _⟩,⟨rfl,leas_refl _⟩,trivial⟩ (Rn ?_))))
 refine Av1 2 116 [(115,.i i)] (cI (wn1 i om)) (Ki/\·) ⟨rfl,Gn0 [(7,.i ((i+1:Nat):Int))] (nk_n (Lr ((Tr.mk true 0 [] [[110]] [x]),q+1,i+1) [(0,0),(8,8),(16,16)] 20 [(0,.ptr 0 0),(4,.ptr 8 0),(5,.ptr 16 0),(7,.i ((i+1:Nat):Int))] [(16,tcs (Tr.mk true 0 [] [[110]] [x])),(8,zt),(0,rdc b (q+1))] [true,true,true] ?_ ?_ kr kr))⟩
 (try dsimp only);omega
 refine⟨?_,rfl⟩;(try dsimp only);exact⟨by rw[W_eq (Tr.mk _ _ _ _ _)];simp only[Tr.data_mk,Tr.names_mk,Tr.kids_mk,Tr.Ws,wS,List.length_cons,List.length_nil];omega,om,om⟩
 refine Xt (Jx (Lx (Bh (Bn (Jn (hK5 (Kp [4,5] (Rr (Fn3 [4] [] [(16,tcs x),(8,tcs x),(0,rdc b (q+1))] 20 ((0+5<=5/\0<5)/\(true=true/\5=5/\0+5<=5)/\·) ⟨dc,dc,Rt1 ((0+5<=5/\0<5)/\·) (.agg (tcs x)) ⟨dc,?_⟩⟩)))))))))
 have hWx:x.W<=t.W+2000:=by
   (try (rw[W_eq (Tr.mk _ _ _ _ _)];simp only[Tr.data_mk,Tr.names_mk,Tr.kids_mk,wS_app,Ws_app,wS,Tr.Ws,List.length_append,List.length_cons,List.length_nil,W_none]))
   omega
 exact fin_rc (q+1) (by first|exact lea_refl _|simp[lea,leas,pth,tcs]) (by simp only[go_sem]) kr ⟨x,hWx,rfl,om⟩
 refine Rr (Fn0 [4,5] [(8,.i 0)] (Bl (h_l (fun(z:List Str×List Tr×Nat×Option Unit)=>(match z with|(ns,ks,i,none)=>([(4,.ptr 8 0),(5,.ptr 16 0),(8,.i i)]:Fr)|(ns,ks,i,some ())=>([(4,.ptr 8 0),(5,.ptr 16 0),(8,.i i)]:Fr))) (fun(z:List Str×List Tr×Nat×Option Unit)=>(match z with|(ns,ks,i,none)=>([(16,(tr5 t (.osl 12 1 0 ns.length)  .nils)),(12,fl sc ns),(8,zt),(4,tcs t),(0,rdc b (p+1))]:Hp)|(ns,ks,i,some ())=>([(20,fl trc ks),(16,(tr5 t (.osl 12 1 0 ns.length) (.osl 20 5 0 ks.length))),(12,fl sc ns),(8,zt),(4,tcs t),(0,rdc b (p+1))]:Hp))) (fun(z:List Str×List Tr×Nat×Option Unit) cn=>(match z with|(ns,ks,i,none)=>(ns=t.names/\ks=[]/\i=0/\t.kids=[])/\cn=20|(ns,ks,i,some ())=>(wS ns<=wS t.names+30*i/\Tr.Ws ks<=Tr.Ws t.kids+i/\i<=30/\ks.length<=t.kids.length+i/\ns.length<=t.names.length+i)/\cn=24)) (fun(z:List Str×List Tr×Nat×Option Unit)=>31-z.2.2.1) (t.names,[],0,none) kr ?_ ?_ ?_ ?_)))
 refine⟨?_,rfl⟩;first|exact⟨rfl,rfl,rfl,hk⟩|exact⟨om,om,om,om,om⟩
 exact⟨kr,kr,kr,trivial⟩
 exact(sub_c kr (sub_c kr (sub_c kr (sub_c kr (sub_c kr (List.nil_sublist _))))))
 rintro⟨ns,ks,i,_|⟨⟩⟩ n1 hI
 (try dsimp only at hI)
 obtain⟨⟨e1,e2,e3,hk0⟩,rfl⟩:=hI
 dsimp only
 have e1w:wS ns=wS t.names:=by rw[e1]
 have e1l:ns.length=t.names.length:=by rw[e1]
 have e2l:ks.length=0:=by rw[e2];rfl
 have e2w:Tr.Ws ks=0:=by rw[e2];simp[Tr.Ws]
 have e2t:Tr.Ws t.kids=0:=by rw[hk0];simp[Tr.Ws]
 have e3t:t.kids.length=0:=by rw[hk0];rfl
 refine Sq fun K41 hK41=>?_
 refine Rr (Cn1 (decide ((i:Int)<30)) [4,5,8] [] (Ki/\·) ⟨rfl,fun hc43 c43=>?_,fun hc43 c43=>?_⟩)
 refine Sk (Jn (hK41 (Kp [4,5,8] (Sq fun K44 hK44=>?_))))
 refine Bl (Qr [0,1,0,4,12,28,60,127,255,511] [(0,[]),(1,[]),(2,[]),(3,[]),(4,[1]),(5,[]),(6,[1]),(7,[]),(8,[]),(9,[])] (qAv1 4 46 [(45,.i i),(44,.osl 12 1 0 ns.length),(43,.ptr 16 3)] (cI (wnn 100 i om)) (((1:Nat)≠0)/\(3+1<=5/\3<5)/\Ki/\·) ⟨dc,dc,rfl,qBc0 1 [] [1] 64 [.i ((100+i:Nat):Int)] 47 ?_⟩))
 have hl46:=dec_len ((100+i:Nat):Int) om om
 refine PE.use (l1Dec_ok _ ((100+i:Nat):Int) rfl om om) ?_
 refine Kq (p:=(((3+1<=5/\3<5)/\(AV.osl 12 1 0 ns.length=(.osl 12 1 0 ns.length:AV)))/\True)) ⟨⟨dc,rfl⟩,trivial⟩ ?_
 refine qAn3 3 [(50,.osl 24 1 0 (ns.length+1)),(49,.osl 20 1 0 1),(48,.str ([122,122]++(dec ((100+i:Nat):Int))))] [(24,apd (fl sc ns) (ns.length*1) [.str ([122,122]++(dec ((100+i:Nat):Int)))]),(20,[.str ([122,122]++(dec ((100+i:Nat):Int)))]),(16,(tr5 t (.osl 12 1 0 ns.length)  .nils)),(8,zt),(4,tcs t),(0,rdc b (p+1))] 28 (([122,122].length+(dec ((100+i:Nat):Int)).length<=9223372036854775807)/\(1*1<=16777216)/\(((3+1<=5/\3<5)/\(AV.osl 12 1 0 ns.length=(.osl 12 1 0 ns.length:AV)))/\True)/\(0+1*1<=1)/\(1=1/\ns.length*1<=(fl sc ns).length/\0<16/\(ns.length+1)*16<=140737488355328)/\(True)/\·) ⟨(by simp only[List.length_cons,List.length_nil];omega),dc,⟨⟨dc,rfl⟩,trivial⟩,dc,⟨rfl,gl,dc,gl⟩,trivial,runq_v (v':=.osl 24 1 0 ((ns++[[122,122]++(dec ((100+i:Nat):Int))]).length)) (push_len _ _ _ _) (runq_h (cs':=fl sc (ns++[[122,122]++(dec ((100+i:Nat):Int))])) (push_str ns ([122,122]++(dec ((100+i:Nat):Int)))) (qFn3 [4,5,8] [] [(24,fl sc (ns++[[122,122]++(dec ((100+i:Nat):Int))])),(20,[.str ([122,122]++(dec ((100+i:Nat):Int)))]),(16,(tr5 t (.osl 24 1 0 ((ns++[[122,122]++(dec ((100+i:Nat):Int))]).length))  .nils)),(8,zt),(4,tcs t),(0,rdc b (p+1))] 28 (((1:Nat)≠0)/\(true=true/\1=1/\3+1<=5)/\(True)/\·) ⟨dc,dc,trivial,Rb (fun h=>Bn (Jn (hK44 h))) ?_⟩))⟩
 refine Fn3 [4,5,8] [] [(32,zt),(28,zt),(24,fl sc (ns++[[122,122]++(dec ((100+i:Nat):Int))])),(20,[.str ([122,122]++(dec ((100+i:Nat):Int)))]),(16,(tr5 t (.osl 24 1 0 ((ns++[[122,122]++(dec ((100+i:Nat):Int))]).length)) (.osl 32 5 0 1))),(8,zt),(4,tcs t),(0,rdc b (p+1))] 36 (((1:Nat)≠0)/\(4+1<=5/\4<5)/\(1*5<=16777216)/\(0+1*5<=5)/\(0<1/\0<80/\1*80<=140737488355328)/\((1:Nat)≠0)/\(true=true/\1=1/\4+1<=5)/\·) ⟨dc,dc,dc,dc,dc,dc,dc,h_lo (H':=[(32,fl trc [Tr.none]),(28,zt),(24,fl sc (ns++[[122,122]++(dec ((100+i:Nat):Int))])),(20,[.str ([122,122]++(dec ((100+i:Nat):Int)))]),(16,(tr5 t (.osl 24 1 0 ((ns++[[122,122]++(dec ((100+i:Nat):Int))]).length)) (.osl 32 5 0 1))),(8,zt),(4,tcs t),(0,rdc b (p+1))]) ⟨⟨rfl,(by rw[fl_one,trc_none];simp[leas,lea])⟩,⟨rfl,leas_refl _⟩,⟨rfl,leas_refl _⟩,⟨rfl,leas_refl _⟩,⟨rfl,leas_refl _⟩,⟨rfl,leas_refl _⟩,⟨rfl,leas_refl _⟩,⟨rfl,leas_refl _⟩,trivial⟩ (h_k [4,5,8] (F':=[(4,.ptr 8 0),(5,.ptr 16 0),(8,.i i)]) kr (h_st (F':=[(4,.ptr 8 0),(5,.ptr 16 0),(8,.i i)]) (H':=[(32,fl trc [Tr.none]),(28,zt),(24,fl sc (ns++[[122,122]++(dec ((100+i:Nat):Int))])),(20,[.str ([122,122]++(dec ((100+i:Nat):Int)))]),(16,(tr5 t (.osl 24 1 0 ((ns++[[122,122]++(dec ((100+i:Nat):Int))]).length)) (.osl 32 5 0 (([Tr.none]).length)))),(8,zt),(4,tcs t),(0,rdc b (p+1))]) rfl (by simp only[List.length_append,List.length_cons,List.length_nil]) (Rn ?_)))⟩
 refine Av1 2 42 [(41,.i i)] (cI (wn1 i om)) (Ki/\·) ⟨rfl,Gn0 [(8,.i ((i+1:Nat):Int))] (nk_n (Lr (ns++[[122,122]++(dec ((100+i:Nat):Int))],[Tr.none],i+1,some ()) [(0,0),(4,4),(8,8),(16,16),(24,12),(32,20)] 24 [(4,.ptr 8 0),(5,.ptr 16 0),(8,.i ((i+1:Nat):Int))] [(32,fl trc [Tr.none]),(16,(tr5 t (.osl 24 1 0 ((ns++[[122,122]++(dec ((100+i:Nat):Int))]).length)) (.osl 32 5 0 (([Tr.none]).length)))),(24,fl sc (ns++[[122,122]++(dec ((100+i:Nat):Int))])),(8,zt),(4,tcs t),(0,rdc b (p+1))] [false,true,false,true,true,true] ?_ ?_ kr kr))⟩
 (try dsimp only);omega
 refine⟨?_,rfl⟩;(try dsimp only);refine⟨?_,?_,om,?_,?_⟩<;>(try simp only[wS_app,Ws_app,wS,Tr.Ws,W_none,List.length_append,List.length_cons,List.length_nil])<;>(try simp only[List.length_nil])<;>omega
 refine Xt (Jx (Lx (Bh (Bn (Jn (hK5 (Kp [4,5] (Rr (Fn3 [4] [] [(16,(tr5 t (.osl 12 1 0 ns.length)  .nils)),(12,fl sc ns),(8,(tr5 t (.osl 12 1 0 ns.length)  .nils)),(4,tcs t),(0,rdc b (p+1))] 20 ((0+5<=5/\0<5)/\(true=true/\5=5/\0+5<=5)/\·) ⟨dc,dc,FzS 12 ns [(4,.ptr 8 0)] [(8,(tr5 t (.osl 12 1 0 ns.length)  .nils)),(0,rdc b (p+1))] [true,true] (Rt1 ((0+5<=5/\0<5)/\·) (.agg (tr5 t (pth ns)  .nils)) ⟨dc,?_⟩)⟩)))))))))
 have hWx:(Tr.mk t.dir t.mode t.data ns []).W<=t.W+2000:=by
   (try (rw[W_eq (Tr.mk _ _ _ _ _)];simp only[Tr.data_mk,Tr.names_mk,Tr.kids_mk,wS_app,Ws_app,wS,Tr.Ws,List.length_append,List.length_cons,List.length_nil,W_none]))
   omega
 exact fin_rc (p+1) (by first|exact lea_refl _|simp[lea,leas,pth,tcs]) (by simp only[go_sem]) kr ⟨(Tr.mk t.dir t.mode t.data ns []),hWx,rfl,om⟩
 (try dsimp only at hI)
 obtain⟨⟨hi1,hi2,hi3,hi4,hi5⟩,rfl⟩:=hI
 dsimp only
 refine Sq fun K48 hK48=>?_
 refine Rr (Cn1 (decide ((i:Int)<30)) [4,5,8] [] (Ki/\·) ⟨rfl,fun hc50 c50=>?_,fun hc50 c50=>?_⟩)
 refine Sk (Jn (hK48 (Kp [4,5,8] (Sq fun K51 hK51=>?_))))
 refine Bl (Qr [0,1,0,4,12,28,60,127,255,511] [(0,[]),(1,[]),(2,[]),(3,[]),(4,[1]),(5,[]),(6,[1]),(7,[]),(8,[]),(9,[])] (qAv1 4 46 [(45,.i i),(44,.osl 12 1 0 ns.length),(43,.ptr 16 3)] (cI (wnn 100 i om)) (((1:Nat)≠0)/\(3+1<=5/\3<5)/\Ki/\·) ⟨dc,dc,rfl,qBc0 1 [] [1] 64 [.i ((100+i:Nat):Int)] 47 ?_⟩))
 have hl53:=dec_len ((100+i:Nat):Int) om om
 refine PE.use (l1Dec_ok _ ((100+i:Nat):Int) rfl om om) ?_
 refine Kq (p:=(((3+1<=5/\3<5)/\(AV.osl 12 1 0 ns.length=(.osl 12 1 0 ns.length:AV)))/\True)) ⟨⟨dc,rfl⟩,trivial⟩ ?_
 refine qAn3 3 [(50,.osl 28 1 0 (ns.length+1)),(49,.osl 24 1 0 1),(48,.str ([122,122]++(dec ((100+i:Nat):Int))))] [(28,apd (fl sc ns) (ns.length*1) [.str ([122,122]++(dec ((100+i:Nat):Int)))]),(24,[.str ([122,122]++(dec ((100+i:Nat):Int)))]),(20,fl trc ks),(16,(tr5 t (.osl 12 1 0 ns.length) (.osl 20 5 0 ks.length))),(8,zt),(4,tcs t),(0,rdc b (p+1))] 32 (([122,122].length+(dec ((100+i:Nat):Int)).length<=9223372036854775807)/\(1*1<=16777216)/\(((3+1<=5/\3<5)/\(AV.osl 12 1 0 ns.length=(.osl 12 1 0 ns.length:AV)))/\True)/\(0+1*1<=1)/\(1=1/\ns.length*1<=(fl sc ns).length/\0<16/\(ns.length+1)*16<=140737488355328)/\(True)/\·) ⟨(by simp only[List.length_cons,List.length_nil];omega),dc,⟨⟨dc,rfl⟩,trivial⟩,dc,⟨rfl,gl,dc,gl⟩,trivial,runq_v (v':=.osl 28 1 0 ((ns++[[122,122]++(dec ((100+i:Nat):Int))]).length)) (push_len _ _ _ _) (runq_h (cs':=fl sc (ns++[[122,122]++(dec ((100+i:Nat):Int))])) (push_str ns ([122,122]++(dec ((100+i:Nat):Int)))) (qFn3 [4,5,8] [] [(28,fl sc (ns++[[122,122]++(dec ((100+i:Nat):Int))])),(24,[.str ([122,122]++(dec ((100+i:Nat):Int)))]),(20,fl trc ks),(16,(tr5 t (.osl 28 1 0 ((ns++[[122,122]++(dec ((100+i:Nat):Int))]).length)) (.osl 20 5 0 ks.length))),(8,zt),(4,tcs t),(0,rdc b (p+1))] 32 (((1:Nat)≠0)/\(true=true/\1=1/\3+1<=5)/\(True)/\·) ⟨dc,dc,trivial,Rb (fun h=>Bn (Jn (hK51 h))) ?_⟩))⟩
 refine An3 5 [(56,.osl 36 5 0 (ks.length+1)),(55,.osl 32 5 0 1),(54,.agg zt),(53,.osl 20 5 0 ks.length),(52,.ptr 16 4)] [(36,apd (fl trc ks) (ks.length*5) (((zt:List AV).drop 0).take (1*5))),(32,zt),(28,fl sc (ns++[[122,122]++(dec ((100+i:Nat):Int))])),(24,[.str ([122,122]++(dec ((100+i:Nat):Int)))]),(16,(tr5 t (.osl 28 1 0 ((ns++[[122,122]++(dec ((100+i:Nat):Int))]).length)) (.osl 20 5 0 ks.length))),(8,zt),(4,tcs t),(0,rdc b (p+1))] 40 (((1:Nat)≠0)/\(4+1<=5/\4<5)/\(1*5<=16777216)/\(0+1*5<=(zt:List AV).length)/\(5=5/\ks.length*5<=(fl trc ks).length/\0<80/\(ks.length+1)*80<=140737488355328)/\·) ⟨dc,dc,dc,(by first|decide|simp),⟨rfl,by(first|omega|(rw[flTl];omega)|(simp only[flTl];omega)),dc,by(first|omega|(rw[flTl];omega)|(simp only[flTl];omega))⟩,run_H (H':=[(36,fl trc ks++[AV.bool false,AV.int .i64 0,AV.str [],AV.nils,AV.nils]),(32,zt),(28,fl sc (ns++[[122,122]++(dec ((100+i:Nat):Int))])),(24,[.str ([122,122]++(dec ((100+i:Nat):Int)))]),(16,(tr5 t (.osl 28 1 0 ((ns++[[122,122]++(dec ((100+i:Nat):Int))]).length)) (.osl 20 5 0 ks.length))),(8,zt),(4,tcs t),(0,rdc b (p+1))]) (by rw[show apd (fl trc ks) (ks.length*5) (((zt:List AV).drop 0).take (1*5))=fl trc ks++[AV.bool false,AV.int .i64 0,AV.str [],AV.nils,AV.nils]from(by unfold apd;rw[flT0];rfl)]) (Fn3 [4,5,8] [] [(36,fl trc ks++[AV.bool false,AV.int .i64 0,AV.str [],AV.nils,AV.nils]),(32,zt),(28,fl sc (ns++[[122,122]++(dec ((100+i:Nat):Int))])),(24,[.str ([122,122]++(dec ((100+i:Nat):Int)))]),(16,(tr5 t (.osl 28 1 0 ((ns++[[122,122]++(dec ((100+i:Nat):Int))]).length)) (.osl 36 5 0 (ks.length+1)))),(8,zt),(4,tcs t),(0,rdc b (p+1))] 40 (((1:Nat)≠0)/\(true=true/\1=1/\4+1<=5)/\·) ⟨dc,dc,h_lo (H':=[(36,fl trc (ks++[Tr.none])),(32,zt),(28,fl sc (ns++[[122,122]++(dec ((100+i:Nat):Int))])),(24,[.str ([122,122]++(dec ((100+i:Nat):Int)))]),(16,(tr5 t (.osl 28 1 0 ((ns++[[122,122]++(dec ((100+i:Nat):Int))]).length)) (.osl 36 5 0 (ks.length+1)))),(8,zt),(4,tcs t),(0,rdc b (p+1))]) ⟨⟨rfl,lea_zero ks⟩,⟨rfl,leas_refl _⟩,⟨rfl,leas_refl _⟩,⟨rfl,leas_refl _⟩,⟨rfl,leas_refl _⟩,⟨rfl,leas_refl _⟩,⟨rfl,leas_refl _⟩,⟨rfl,leas_refl _⟩,trivial⟩ (h_k [4,5,8] (F':=[(4,.ptr 8 0),(5,.ptr 16 0),(8,.i i)]) kr ?_)⟩)⟩
 refine h_st (F':=[(4,.ptr 8 0),(5,.ptr 16 0),(8,.i i)]) (H':=[(36,fl trc (ks++[Tr.none])),(32,zt),(28,fl sc (ns++[[122,122]++(dec ((100+i:Nat):Int))])),(24,[.str ([122,122]++(dec ((100+i:Nat):Int)))]),(16,(tr5 t (.osl 28 1 0 ((ns++[[122,122]++(dec ((100+i:Nat):Int))]).length)) (.osl 36 5 0 ((ks++[Tr.none]).length)))),(8,zt),(4,tcs t),(0,rdc b (p+1))]) rfl (by simp only[List.length_append,List.length_cons,List.length_nil]) ?_
 refine Rn (Av1 2 42 [(41,.i i)] (cI (wn1 i om)) (Ki/\·) ⟨rfl,Gn0 [(8,.i ((i+1:Nat):Int))] (nk_n (Lr (ns++[[122,122]++(dec ((100+i:Nat):Int))],ks++[Tr.none],i+1,some ()) [(0,0),(4,4),(8,8),(16,16),(28,12),(36,20)] 24 [(4,.ptr 8 0),(5,.ptr 16 0),(8,.i ((i+1:Nat):Int))] [(36,fl trc (ks++[Tr.none])),(16,(tr5 t (.osl 28 1 0 ((ns++[[122,122]++(dec ((100+i:Nat):Int))]).length)) (.osl 36 5 0 ((ks++[Tr.none]).length)))),(28,fl sc (ns++[[122,122]++(dec ((100+i:Nat):Int))])),(8,zt),(4,tcs t),(0,rdc b (p+1))] [false,true,false,true,true,true] ?_ ?_ kr kr))⟩)
 (try dsimp only);omega
 refine⟨?_,rfl⟩;(try dsimp only);refine⟨?_,?_,om,?_,?_⟩<;>(try simp only[wS_app,Ws_app,wS,Tr.Ws,W_none,List.length_append,List.length_cons,List.length_nil])<;>(try simp only[List.length_nil])<;>omega
 refine Xt (Jx (Lx (Bh (Bn (Jn (hK5 (Kp [4,5] (Rr (Fn3 [4] [] [(20,fl trc ks),(16,(tr5 t (.osl 12 1 0 ns.length) (.osl 20 5 0 ks.length))),(12,fl sc ns),(8,(tr5 t (.osl 12 1 0 ns.length) (.osl 20 5 0 ks.length))),(4,tcs t),(0,rdc b (p+1))] 24 ((0+5<=5/\0<5)/\(true=true/\5=5/\0+5<=5)/\·) ⟨dc,dc,FzT 20 ks [(4,.ptr 8 0)] [(12,fl sc ns),(8,(tr5 t (.osl 12 1 0 ns.length) (.osl 20 5 0 ks.length))),(0,rdc b (p+1))] [false,true,true] (FzS 12 ns [(4,.ptr 8 0)] [(8,(tr5 t (.osl 12 1 0 ns.length) (.sl 5 (ks.map trc)))),(0,rdc b (p+1))] [true,true] ?_)⟩)))))))))
 refine Rt1 ((0+5<=5/\0<5)/\·) (.agg (tr5 t (pth ns) (.sl 5 (ks.map trc)))) ⟨dc,?_⟩
 have hWx:(Tr.mk t.dir t.mode t.data ns ks).W<=t.W+2000:=by
   (try (rw[W_eq (Tr.mk _ _ _ _ _)];simp only[Tr.data_mk,Tr.names_mk,Tr.kids_mk,wS_app,Ws_app,wS,Tr.Ws,List.length_append,List.length_cons,List.length_nil,W_none]))
   omega
 exact fin_rc (p+1) (by first|exact lea_refl _|simp[lea,leas,pth,tcs]) (by simp only[go_sem]) kr ⟨(Tr.mk t.dir t.mode t.data ns ks),hWx,rfl,om⟩
 show KE _ _ _ (.agg _) _ _
 refine Ke (Fn3 [0,4] [(5,.ptr 20 0)] [(20,(tr5 t (.osl 12 1 0 t.names.length) (.osl 16 5 0 t.kids.length))),(16,fl trc t.kids),(12,fl sc t.names),(8,zt),(4,tcs t),(0,rdc b p)] 24 ((true=true/\5=5/\0+5<=5)/\·) ⟨dc,Sq fun K55 hK55=>?_⟩)
 refine Rr (An1 5 [(15,.bool (decide ((0:Int)<((t.kids.length:Int):Int)))),(14,.bool (decide ((0:Int)<((t.kids.length:Int):Int)))),(13,.i t.kids.length),(12,.osl 16 5 0 t.kids.length),(11,.ptr 20 4)] (((1:Nat)≠0)/\(4+1<=5/\4<5)/\Ki/\·) ⟨dc,dc,rfl,Rg (fun hg57 g57=>?_) (fun hg57 g57=>?_)⟩)
 refine Bc0 2 [(16,.ptr 0 0)] 32 [.ptr 0 0,.i 2] 17 ?_
 refine RC.use (pick_ok b p 2 om om om om) kr fun r p1 hr=>?_;obtain⟨pk58,hpk58,rfl,rfl⟩:=hr
 refine Ke (Cn1 (decide ((pk58:Int)=0)) [0,4,5] [] (Ki/\·) ⟨rfl,fun hc59 c59=>?_,fun hc59 c59=>?_⟩)
 refine Rr (Bc1 5 [(23,.i t.kids.length),(22,.osl 16 5 0 t.kids.length),(21,.ptr 20 4),(20,.ptr 0 0)] 32 [.ptr 0 0,.i t.kids.length] 24 (((1:Nat)≠0)/\(4+1<=5/\4<5)/\·) ⟨dc,dc,RC.use (pick_ok b (p+1) t.kids.length om om om om) kr fun r p1 hr=>?_⟩);obtain⟨pk61,hpk61,rfl,rfl⟩:=hr
 refine Ke (Fn0 [0,4,5] [(6,.i pk61)] (Qr [0,1,0,0,0,16,0,112,240,504,1023,2047] [(0,[]),(1,[]),(2,[]),(3,[]),(4,[]),(5,[]),(6,[]),(7,[]),(8,[]),(9,[1]),(10,[]),(11,[])] (qAv1 (r:=.agg (((fl trc t.kids).drop (0+pk61*5)).take 5)) (v:=.agg (tcs (t.kids.getD pk61 default))) 9 33 [(32,.ptr 16 (0+pk61*5)),(31,.i pk61),(30,.osl 16 5 0 t.kids.length),(29,.ptr 20 4),(28,.ptr 0 0),(27,.i pk61),(26,.osl 16 5 0 t.kids.length),(25,.ptr 20 4)] (congrArg AV.agg (rowT_get t.kids pk61 om)) (((1:Nat)≠0)/\(4+1<=5/\4<5)/\((1:Nat)≠0)/\(4+1<=5/\4<5)/\(5=5/\(0:Int)<=(pk61:Int)/\(pk61:Int)<(t.kids.length:Int))/\(0+pk61*5+5<=(fl trc t.kids).length/\0+pk61*5<(fl trc t.kids).length)/\·) ⟨dc,dc,dc,dc,⟨rfl,om,om⟩,⟨by rw[flTl];omega,by rw[flTl];omega⟩,qBc0 1 [] [1] 33 [.ptr 0 0,.agg (tcs (t.kids.getD pk61 default))] 34 ?_⟩)))
 have hWk:=Ws_get t.kids pk61 om
 refine RC.use (ih _ om (t.kids.getD pk61 default) b (p+1+1) rfl om om om) kr fun r q1 hr=>?_;obtain⟨x1,hx1,rfl,hq1⟩:=hr;have hWs:=Ws_set t.kids pk61 x1 om
 refine Kq (p:=(((4+1<=5/\4<5)/\(AV.osl 16 5 0 t.kids.length=(.osl 16 5 0 t.kids.length:AV)))/\True)) ⟨⟨dc,rfl⟩,trivial⟩ ?_
 refine qAn3 2 [(35,.ptr 16 (0+pk61*5))] [(20,(tr5 t (.osl 12 1 0 t.names.length) (.osl 16 5 0 t.kids.length))),(16,(fl trc t.kids).take (0+pk61*5)++tcs x1++(fl trc t.kids).drop (0+pk61*5+5)),(12,fl sc t.names),(8,zt),(4,tcs t),(0,rdc b q1)] 24 ((5=5/\(0:Int)<=(pk61:Int)/\(pk61:Int)<(t.kids.length:Int))/\(true=true/\5=5/\0+pk61*5+5<=(fl trc t.kids).length)/\(True)/\·) ⟨⟨rfl,om,om⟩,⟨rfl,rfl,(by(try simp only[flTl,flSl,ints_len,List.length_set]);omega)⟩,trivial,runq_H (H':=[(20,(tr5 t (.osl 12 1 0 t.names.length) (.osl 16 5 0 t.kids.length))),(16,fl trc (t.kids.set pk61 x1)),(12,fl sc t.names),(8,zt),(4,tcs t),(0,rdc b q1)]) (by rw[rowT_set t.kids pk61 x1 (by first|omega|(rw[List.length_set];omega))]) (qFn0 [4,5] [] (h_k [4,5] (F':=[(4,.ptr 8 0),(5,.ptr 20 0)]) kr (h_st (F':=[(4,.ptr 8 0),(5,.ptr 20 0)]) (H':=[(20,(tr5 t (.osl 12 1 0 t.names.length) (.osl 16 5 0 ((t.kids.set pk61 x1).length)))),(16,fl trc (t.kids.set pk61 x1)),(12,fl sc t.names),(8,zt),(4,tcs t),(0,rdc b q1)]) rfl (by rw[List.length_set]) ?_)))⟩
 refine Rr (Fn3 [4] [] [(20,(tr5 t (.osl 12 1 0 t.names.length) (.osl 16 5 0 ((t.kids.set pk61 x1).length)))),(16,fl trc (t.kids.set pk61 x1)),(12,fl sc t.names),(8,(tr5 t (.osl 12 1 0 t.names.length) (.osl 16 5 0 ((t.kids.set pk61 x1).length)))),(4,tcs t),(0,rdc b q1)] 24 ((0+5<=5/\0<5)/\(true=true/\5=5/\0+5<=5)/\·) ⟨dc,dc,FzT 16 (t.kids.set pk61 x1) [(4,.ptr 8 0)] [(12,fl sc t.names),(8,(tr5 t (.osl 12 1 0 t.names.length) (.osl 16 5 0 ((t.kids.set pk61 x1).length)))),(0,rdc b q1)] [false,true,true] (FzS 12 t.names [(4,.ptr 8 0)] [(8,(tr5 t (.osl 12 1 0 t.names.length) (.sl 5 ((t.kids.set pk61 x1).map trc)))),(0,rdc b q1)] [true,true] (Rt1 ((0+5<=5/\0<5)/\·) (.agg (tr5 t (pth t.names) (.sl 5 ((t.kids.set pk61 x1).map trc)))) ⟨dc,?_⟩))⟩)
 have hWx:(Tr.mk t.dir t.mode t.data t.names (t.kids.set pk61 x1)).W<=t.W+2000:=by
   (try (rw[W_eq (Tr.mk _ _ _ _ _)];simp only[Tr.data_mk,Tr.names_mk,Tr.kids_mk,wS_app,Ws_app,wS,Tr.Ws,List.length_append,List.length_cons,List.length_nil,W_none]))
   omega
 exact fin_rc q1 (by first|exact lea_refl _|simp[lea,leas,pth,tcs]) (by simp only[go_sem]) kr ⟨(Tr.mk t.dir t.mode t.data t.names (t.kids.set pk61 x1)),hWx,rfl,om⟩
 refine Sk (Jn (hK55 (Kp [0,4,5] (Sq fun K64 hK64=>?_))))
 refine Rr (Bc0 2 [(37,.ptr 0 0)] 32 [.ptr 0 0,.i 8] 38 (RC.use (pick_ok b (p+1) 8 om om om om) kr fun r p1 hr=>?_));obtain⟨pk66,hpk66,rfl,rfl⟩:=hr
 refine Ke (Fn0 [0,4,5,38] [] (Bl (Rr (Cn1 (decide ((pk66:Int)=0)) [0,4,5,38] [] (Ki/\·) ⟨rfl,fun hc68 c68=>?_,fun hc68 c68=>?_⟩))))
 refine Rb (fun h=>Bn (Jn (hK64 h))) (Bc3 3 [(61,.ptr 0 0),(60,.osl 24 1 0 3)] 32 [.ptr 0 0,.i 3] 62 [(24,[.i (-1),.i 7,.i 8]),(20,(tr5 t (.osl 12 1 0 t.names.length) (.osl 16 5 0 t.kids.length))),(16,fl trc t.kids),(12,fl sc t.names),(8,zt),(4,tcs t),(0,rdc b (p+1+1))] 28 ((3*1<=16777216)/\·) ⟨dc,RC.use (pick_ok b (p+1+1) 3 om om om om) kr fun r p1 hr=>?_⟩);obtain⟨pk69,hpk69,rfl,rfl⟩:=hr
 refine Ke (Av1 (r:=([.i (-1),.i 7,.i 8].getD (0+pk69*1) .dead:AV)) (v:=.i (([-1,7,8]:List Int).getD pk69 0)) 2 64 [(63,.ptr 24 (0+pk69*1))] (ints_get ([-1,7,8]:List Int) pk69 (by simp only[List.length_cons,List.length_nil];omega)) ((1=1/\(0:Int)<=(pk69:Int)/\(pk69:Int)<(3:Int))/\(0+pk69*1+1<=3/\0+pk69*1<3)/\·) ⟨⟨rfl,om,om⟩,⟨om,om⟩,Fn3 [4,5] [] [(24,[.i (-1),.i 7,.i 8]),(20,[.bool t.dir,.i (([-1,7,8]:List Int).getD pk69 0),.str t.data,.osl 12 1 0 t.names.length,.osl 16 5 0 t.kids.length]),(16,fl trc t.kids),(12,fl sc t.names),(8,zt),(4,tcs t),(0,rdc b (p+1+1+1))] 28 (((1:Nat)≠0)/\(true=true/\1=1/\1+1<=5)/\·) ⟨dc,dc,Rr (Fn3 [4] [] [(24,[.i (-1),.i 7,.i 8]),(20,[.bool t.dir,.i (([-1,7,8]:List Int).getD pk69 0),.str t.data,.osl 12 1 0 t.names.length,.osl 16 5 0 t.kids.length]),(16,fl trc t.kids),(12,fl sc t.names),(8,[.bool t.dir,.i (([-1,7,8]:List Int).getD pk69 0),.str t.data,.osl 12 1 0 t.names.length,.osl 16 5 0 t.kids.length]),(4,tcs t),(0,rdc b (p+1+1+1))] 28 ((0+5<=5/\0<5)/\(true=true/\5=5/\0+5<=5)/\·) ⟨dc,dc,?_⟩)⟩⟩)
 refine FzT 16 t.kids [(4,.ptr 8 0)] [(12,fl sc t.names),(8,[.bool t.dir,.i (([-1,7,8]:List Int).getD pk69 0),.str t.data,.osl 12 1 0 t.names.length,.osl 16 5 0 t.kids.length]),(0,rdc b (p+1+1+1))] [false,true,true] (FzS 12 t.names [(4,.ptr 8 0)] [(8,[.bool t.dir,.i (([-1,7,8]:List Int).getD pk69 0),.str t.data,.osl 12 1 0 t.names.length,.sl 5 (t.kids.map trc)]),(0,rdc b (p+1+1+1))] [true,true] (Rt1 ((0+5<=5/\0<5)/\·) (.agg [.bool t.dir,.i (([-1,7,8]:List Int).getD pk69 0),.str t.data,pth t.names,.sl 5 (t.kids.map trc)]) ⟨dc,?_⟩))
 have hWx:(Tr.mk t.dir (([-1,7,8]:List Int).getD pk69 0) t.data t.names t.kids).W<=t.W+2000:=by
   (try (rw[W_eq (Tr.mk _ _ _ _ _)];simp only[Tr.data_mk,Tr.names_mk,Tr.kids_mk,wS_app,Ws_app,wS,Tr.Ws,List.length_append,List.length_cons,List.length_nil,W_none]))
   omega
 exact fin_rc (p+1+1+1) (by first|exact lea_refl _|simp[lea,leas,pth,tcs]) (by simp only[go_sem]) kr ⟨(Tr.mk t.dir (([-1,7,8]:List Int).getD pk69 0) t.data t.names t.kids),hWx,rfl,om⟩
 refine Rr (Cn1 (decide ((pk66:Int)=1)) [0,4,5,38] [] (Ki/\·) ⟨rfl,fun hc72 c72=>?_,fun hc72 c72=>?_⟩)
 refine Rb (fun h=>Bn (Jn (hK64 h))) (Fn3 [4,5] [] [(20,[.bool (!t.dir),.i t.mode,.str t.data,.osl 12 1 0 t.names.length,.osl 16 5 0 t.kids.length]),(16,fl trc t.kids),(12,fl sc t.names),(8,zt),(4,tcs t),(0,rdc b (p+1+1))] 24 (((1:Nat)≠0)/\(0+1<=5/\0<5)/\((1:Nat)≠0)/\(true=true/\1=1/\0+1<=5)/\·) ⟨dc,dc,dc,dc,Rr (Fn3 [4] [] [(20,[.bool (!t.dir),.i t.mode,.str t.data,.osl 12 1 0 t.names.length,.osl 16 5 0 t.kids.length]),(16,fl trc t.kids),(12,fl sc t.names),(8,[.bool (!t.dir),.i t.mode,.str t.data,.osl 12 1 0 t.names.length,.osl 16 5 0 t.kids.length]),(4,tcs t),(0,rdc b (p+1+1))] 24 ((0+5<=5/\0<5)/\(true=true/\5=5/\0+5<=5)/\·) ⟨dc,dc,FzT 16 t.kids [(4,.ptr 8 0)] [(12,fl sc t.names),(8,[.bool (!t.dir),.i t.mode,.str t.data,.osl 12 1 0 t.names.length,.osl 16 5 0 t.kids.length]),(0,rdc b (p+1+1))] [false,true,true] ?_⟩)⟩)
 refine FzS 12 t.names [(4,.ptr 8 0)] [(8,[.bool (!t.dir),.i t.mode,.str t.data,.osl 12 1 0 t.names.length,.sl 5 (t.kids.map trc)]),(0,rdc b (p+1+1))] [true,true] (Rt1 ((0+5<=5/\0<5)/\·) (.agg [.bool (!t.dir),.i t.mode,.str t.data,pth t.names,.sl 5 (t.kids.map trc)]) ⟨dc,?_⟩)
 have hWx:(Tr.mk (!t.dir) t.mode t.data t.names t.kids).W<=t.W+2000:=by
   (try (rw[W_eq (Tr.mk _ _ _ _ _)];simp only[Tr.data_mk,Tr.names_mk,Tr.kids_mk,wS_app,Ws_app,wS,Tr.Ws,List.length_append,List.length_cons,List.length_nil,W_none]))
   omega
 exact fin_rc (p+1+1) (by first|exact lea_refl _|simp[lea,leas,pth,tcs]) (by simp only[go_sem]) kr ⟨(Tr.mk (!t.dir) t.mode t.data t.names t.kids),hWx,rfl,om⟩
 refine Rr (Cn1 (decide ((pk66:Int)=2)) [0,4,5,38] [] (Ki/\·) ⟨rfl,fun hc75 c75=>?_,fun hc75 c75=>?_⟩)
 refine Rb (fun h=>Bn (Jn (hK64 h))) (Fn3 [4,5] [] [(20,[.bool t.dir,.i t.mode,.str (t.data++[120]),.osl 12 1 0 t.names.length,.osl 16 5 0 t.kids.length]),(16,fl trc t.kids),(12,fl sc t.names),(8,zt),(4,tcs t),(0,rdc b (p+1+1))] 24 (((1:Nat)≠0)/\(2+1<=5/\2<5)/\(t.data.length+[120].length<=9223372036854775807)/\((1:Nat)≠0)/\(true=true/\1=1/\2+1<=5)/\·) ⟨dc,dc,(by simp only[List.length_cons,List.length_nil];omega),dc,dc,Rr (Fn3 [4] [] [(20,[.bool t.dir,.i t.mode,.str (t.data++[120]),.osl 12 1 0 t.names.length,.osl 16 5 0 t.kids.length]),(16,fl trc t.kids),(12,fl sc t.names),(8,[.bool t.dir,.i t.mode,.str (t.data++[120]),.osl 12 1 0 t.names.length,.osl 16 5 0 t.kids.length]),(4,tcs t),(0,rdc b (p+1+1))] 24 ((0+5<=5/\0<5)/\(true=true/\5=5/\0+5<=5)/\·) ⟨dc,dc,FzT 16 t.kids [(4,.ptr 8 0)] [(12,fl sc t.names),(8,[.bool t.dir,.i t.mode,.str (t.data++[120]),.osl 12 1 0 t.names.length,.osl 16 5 0 t.kids.length]),(0,rdc b (p+1+1))] [false,true,true] ?_⟩)⟩)
 refine FzS 12 t.names [(4,.ptr 8 0)] [(8,[.bool t.dir,.i t.mode,.str (t.data++[120]),.osl 12 1 0 t.names.length,.sl 5 (t.kids.map trc)]),(0,rdc b (p+1+1))] [true,true] (Rt1 ((0+5<=5/\0<5)/\·) (.agg [.bool t.dir,.i t.mode,.str (t.data++[120]),pth t.names,.sl 5 (t.kids.map trc)]) ⟨dc,?_⟩)
 have hWx:(Tr.mk t.dir t.mode (t.data++[120]) t.names t.kids).W<=t.W+2000:=by
   (try (rw[W_eq (Tr.mk _ _ _ _ _)];simp only[Tr.data_mk,Tr.names_mk,Tr.kids_mk,wS_app,Ws_app,wS,Tr.Ws,List.length_append,List.length_cons,List.length_nil,W_none]))
   omega
 exact fin_rc (p+1+1) (by first|exact lea_refl _|simp[lea,leas,pth,tcs]) (by simp only[go_sem]) kr ⟨(Tr.mk t.dir t.mode (t.data++[120]) t.names t.kids),hWx,rfl,om⟩
 refine Rr (Cn1 (decide ((pk66:Int)=3)) [0,4,5,38] [] (Ki/\·) ⟨rfl,fun hc78 c78=>?_,fun hc78 c78=>?_⟩)
 refine Qr [0,1,0,0,12,28,63,127,255] [(0,[]),(1,[]),(2,[]),(3,[1]),(4,[1]),(5,[1]),(6,[]),(7,[]),(8,[])] (qBc3 5 [(83,.osl 24 1 0 5),(82,.ptr 0 0),(81,.osl 12 1 0 t.names.length),(80,.ptr 20 3)] [1] 41 [.ptr 0 0,.osl 24 1 0 5] 84 [(24,[.str [122,122],.str [],.str [97],.str [90],.str [116,111,111,108,111,110,103]]),(20,(tr5 t (.osl 12 1 0 t.names.length) (.osl 16 5 0 t.kids.length))),(16,fl trc t.kids),(12,fl sc t.names),(8,zt),(4,tcs t),(0,rdc b (p+1+1))] 28 (((1:Nat)≠0)/\(3+1<=5/\3<5)/\(5*1<=16777216)/\(((3+1<=5/\3<5)/\(AV.osl 12 1 0 t.names.length=(.osl 12 1 0 t.names.length:AV)))/\True)/\·) ⟨dc,dc,dc,⟨⟨dc,rfl⟩,trivial⟩,Tz 24 1 5 ([[.str [122,122]],[.str []],[.str [97]],[.str [90]],[.str [116,111,111,108,111,110,103]]]) ([.str [122,122],.str [],.str [97],.str [90],.str [116,111,111,108,111,110,103]]) [.ptr 0 0,pth [[122,122],[],[97],[90],[116,111,111,108,111,110,103]]] [(20,(tr5 t (.osl 12 1 0 t.names.length) (.osl 16 5 0 t.kids.length))),(16,fl trc t.kids),(12,fl sc t.names),(8,zt),(4,tcs t),(0,rdc b (p+1+1))] [true,false,false,true,true,true] kr (by first|decide|simp) (RC.use (of_ok b (p+1+1) [[122,122],[],[97],[90],[116,111,111,108,111,110,103]] (by first|omega|decide|simp) (by first|omega|decide|simp) om om) kr fun r p1 hr=>?_)⟩);obtain⟨os80,hos80,rfl,rfl⟩:=hr
 have hol:os80.length<=7:=by
   have hq:=hos80
   simp only[List.mem_cons,List.not_mem_nil,or_false]at hq
   rcases hq with h|h|h|h|h<;>rw[h]<;>decide
 refine Kq (p:=(((3+1<=5/\3<5)/\(AV.osl 12 1 0 t.names.length=(.osl 12 1 0 t.names.length:AV)))/\True)) ⟨⟨dc,rfl⟩,trivial⟩ ?_
 refine qAn3 2 [(86,.osl 32 1 0 (t.names.length+1)),(85,.osl 28 1 0 1)] [(32,apd (fl sc t.names) (t.names.length*1) [.str os80]),(28,[.str os80]),(20,(tr5 t (.osl 12 1 0 t.names.length) (.osl 16 5 0 t.kids.length))),(16,fl trc t.kids),(8,zt),(4,tcs t),(0,rdc b (p+1+1+1))] 36 ((1*1<=16777216)/\(((3+1<=5/\3<5)/\(AV.osl 12 1 0 t.names.length=(.osl 12 1 0 t.names.length:AV)))/\True)/\(0+1*1<=1)/\(1=1/\t.names.length*1<=(fl sc t.names).length/\0<16/\(t.names.length+1)*16<=140737488355328)/\(True)/\·) ⟨dc,⟨⟨dc,rfl⟩,trivial⟩,dc,⟨rfl,gl,dc,gl⟩,trivial,runq_v (v':=.osl 32 1 0 ((t.names++[os80]).length)) (push_len _ _ _ _) (runq_h (cs':=fl sc (t.names++[os80])) (push_str t.names os80) (qFn3 [4,5] [] [(32,fl sc (t.names++[os80])),(28,[.str os80]),(20,(tr5 t (.osl 32 1 0 ((t.names++[os80]).length)) (.osl 16 5 0 t.kids.length))),(16,fl trc t.kids),(8,zt),(4,tcs t),(0,rdc b (p+1+1+1))] 36 (((1:Nat)≠0)/\(true=true/\1=1/\3+1<=5)/\(True)/\·) ⟨dc,dc,trivial,Rb (fun h=>Bn (Jn (hK64 h))) ?_⟩))⟩
 refine An3 5 [(92,.osl 40 5 0 (t.kids.length+1)),(91,.osl 36 5 0 1),(90,.agg zt),(89,.osl 16 5 0 t.kids.length),(88,.ptr 20 4)] [(40,apd (fl trc t.kids) (t.kids.length*5) (((zt:List AV).drop 0).take (1*5))),(36,zt),(32,fl sc (t.names++[os80])),(28,[.str os80]),(20,(tr5 t (.osl 32 1 0 ((t.names++[os80]).length)) (.osl 16 5 0 t.kids.length))),(8,zt),(4,tcs t),(0,rdc b (p+1+1+1))] 44 (((1:Nat)≠0)/\(4+1<=5/\4<5)/\(1*5<=16777216)/\(0+1*5<=(zt:List AV).length)/\(5=5/\t.kids.length*5<=(fl trc t.kids).length/\0<80/\(t.kids.length+1)*80<=140737488355328)/\·) ⟨dc,dc,dc,(by first|decide|simp),⟨rfl,by(first|omega|(rw[flTl];omega)|(simp only[flTl];omega)),dc,by(first|omega|(rw[flTl];omega)|(simp only[flTl];omega))⟩,run_H (H':=[(40,fl trc t.kids++[AV.bool false,AV.int .i64 0,AV.str [],AV.nils,AV.nils]),(36,zt),(32,fl sc (t.names++[os80])),(28,[.str os80]),(20,(tr5 t (.osl 32 1 0 ((t.names++[os80]).length)) (.osl 16 5 0 t.kids.length))),(8,zt),(4,tcs t),(0,rdc b (p+1+1+1))]) (by rw[show apd (fl trc t.kids) (t.kids.length*5) (((zt:List AV).drop 0).take (1*5))=fl trc t.kids++[AV.bool false,AV.int .i64 0,AV.str [],AV.nils,AV.nils]from(by unfold apd;rw[flT0];rfl)]) (Fn3 [4,5] [] [(40,fl trc t.kids++[AV.bool false,AV.int .i64 0,AV.str [],AV.nils,AV.nils]),(36,zt),(32,fl sc (t.names++[os80])),(28,[.str os80]),(20,(tr5 t (.osl 32 1 0 ((t.names++[os80]).length)) (.osl 40 5 0 (t.kids.length+1)))),(8,zt),(4,tcs t),(0,rdc b (p+1+1+1))] 44 (((1:Nat)≠0)/\(true=true/\1=1/\4+1<=5)/\·) ⟨dc,dc,Hn [(40,fl trc t.kids++[AV.bool false,AV.int .i64 0,AV.str [],AV.nils,AV.nils]),(36,zt),(32,fl sc (t.names++[os80])),(28,[.str os80]),(20,(tr5 t (.osl 32 1 0 ((t.names++[os80]).length)) (.osl 40 5 0 (t.kids.length+1)))),(8,zt),(4,tcs t),(0,rdc b (p+1+1+1))] (h_lo (H':=[(40,fl trc (t.kids++[Tr.none])),(36,zt),(32,fl sc (t.names++[os80])),(28,[.str os80]),(20,(tr5 t (.osl 32 1 0 ((t.names++[os80]).length)) (.osl 40 5 0 (t.kids.length+1)))),(8,zt),(4,tcs t),(0,rdc b (p+1+1+1))]) ⟨⟨rfl,lea_zero t.kids⟩,⟨rfl,leas_refl _⟩,⟨rfl,leas_refl _⟩,⟨rfl,leas_refl _⟩,⟨rfl,leas_refl _⟩,⟨rfl,leas_refl _⟩,⟨rfl,leas_refl _⟩,⟨rfl,leas_refl _⟩,trivial⟩ ?_)⟩)⟩
 refine h_k [4,5] (F':=[(4,.ptr 8 0),(5,.ptr 20 0)]) kr ?_
 refine h_st (F':=[(4,.ptr 8 0),(5,.ptr 20 0)]) (H':=[(40,fl trc (t.kids++[Tr.none])),(36,zt),(32,fl sc (t.names++[os80])),(28,[.str os80]),(20,(tr5 t (.osl 32 1 0 ((t.names++[os80]).length)) (.osl 40 5 0 ((t.kids++[Tr.none]).length)))),(8,zt),(4,tcs t),(0,rdc b (p+1+1+1))]) rfl (by simp only[List.length_append,List.length_cons,List.length_nil]) ?_
 refine Rr (Fn3 [4] [] [(40,fl trc (t.kids++[Tr.none])),(36,zt),(32,fl sc (t.names++[os80])),(28,[.str os80]),(20,(tr5 t (.osl 32 1 0 ((t.names++[os80]).length)) (.osl 40 5 0 ((t.kids++[Tr.none]).length)))),(8,(tr5 t (.osl 32 1 0 ((t.names++[os80]).length)) (.osl 40 5 0 ((t.kids++[Tr.none]).length)))),(4,tcs t),(0,rdc b (p+1+1+1))] 44 ((0+5<=5/\0<5)/\(true=true/\5=5/\0+5<=5)/\·) ⟨dc,dc,FzT 40 (t.kids++[Tr.none]) [(4,.ptr 8 0)] [(32,fl sc (t.names++[os80])),(8,(tr5 t (.osl 32 1 0 ((t.names++[os80]).length)) (.osl 40 5 0 ((t.kids++[Tr.none]).length)))),(0,rdc b (p+1+1+1))] [false,true,true] (FzS 32 (t.names++[os80]) [(4,.ptr 8 0)] [(8,(tr5 t (.osl 32 1 0 ((t.names++[os80]).length)) (.sl 5 ((t.kids++[Tr.none]).map trc)))),(0,rdc b (p+1+1+1))] [true,true] (Rt1 ((0+5<=5/\0<5)/\·) (.agg (tr5 t (pth (t.names++[os80])) (.sl 5 ((t.kids++[Tr.none]).map trc)))) ⟨dc,?_⟩))⟩)
 have hWx:(Tr.mk t.dir t.mode t.data (t.names++[os80]) (t.kids++[Tr.none])).W<=t.W+2000:=by
   (try (rw[W_eq (Tr.mk _ _ _ _ _)];simp only[Tr.data_mk,Tr.names_mk,Tr.kids_mk,wS_app,Ws_app,wS,Tr.Ws,List.length_append,List.length_cons,List.length_nil,W_none]))
   omega
 exact fin_rc (p+1+1+1) (by first|exact lea_refl _|simp[lea,leas,pth,tcs]) (by simp only[go_sem]) kr ⟨(Tr.mk t.dir t.mode t.data (t.names++[os80]) (t.kids++[Tr.none])),hWx,rfl,om⟩
 refine Rr (Cn1 (decide ((pk66:Int)=4)) [0,4,5,38] [] (Ki/\·) ⟨rfl,fun hc83 c83=>?_,fun hc83 c83=>?_⟩)
 refine Rb (fun h=>Bn (Jn (hK64 h))) (An3 4 [(99,.osl 28 1 0 (t.names.length+1)),(98,.osl 24 1 0 1),(97,.osl 12 1 0 t.names.length),(96,.ptr 20 3)] [(28,apd (fl sc t.names) (t.names.length*1) [.str [122,122,122]]),(24,[.str [122,122,122]]),(20,(tr5 t (.osl 12 1 0 t.names.length) (.osl 16 5 0 t.kids.length))),(16,fl trc t.kids),(8,zt),(4,tcs t),(0,rdc b (p+1+1))] 32 (((1:Nat)≠0)/\(3+1<=5/\3<5)/\(1*1<=16777216)/\(0+1*1<=1)/\(1=1/\t.names.length*1<=(fl sc t.names).length/\0<16/\(t.names.length+1)*16<=140737488355328)/\·) ⟨dc,dc,dc,dc,⟨rfl,gl,dc,gl⟩,run_v (v':=.osl 28 1 0 ((t.names++[[122,122,122]]).length)) (push_len _ _ _ _) (run_h (cs':=fl sc (t.names++[[122,122,122]])) (push_str t.names [122,122,122]) (Fn3 [4,5] [] [(28,fl sc (t.names++[[122,122,122]])),(24,[.str [122,122,122]]),(20,(tr5 t (.osl 28 1 0 ((t.names++[[122,122,122]]).length)) (.osl 16 5 0 t.kids.length))),(16,fl trc t.kids),(8,zt),(4,tcs t),(0,rdc b (p+1+1))] 32 (((1:Nat)≠0)/\(true=true/\1=1/\3+1<=5)/\·) ⟨dc,dc,?_⟩))⟩)
 refine Rr (Fn3 [4] [] [(28,fl sc (t.names++[[122,122,122]])),(24,[.str [122,122,122]]),(20,(tr5 t (.osl 28 1 0 ((t.names++[[122,122,122]]).length)) (.osl 16 5 0 t.kids.length))),(16,fl trc t.kids),(8,(tr5 t (.osl 28 1 0 ((t.names++[[122,122,122]]).length)) (.osl 16 5 0 t.kids.length))),(4,tcs t),(0,rdc b (p+1+1))] 32 ((0+5<=5/\0<5)/\(true=true/\5=5/\0+5<=5)/\·) ⟨dc,dc,FzS 28 (t.names++[[122,122,122]]) [(4,.ptr 8 0)] [(16,fl trc t.kids),(8,(tr5 t (.osl 28 1 0 ((t.names++[[122,122,122]]).length)) (.osl 16 5 0 t.kids.length))),(0,rdc b (p+1+1))] [false,true,true] (FzT 16 t.kids [(4,.ptr 8 0)] [(8,(tr5 t (pth (t.names++[[122,122,122]])) (.osl 16 5 0 t.kids.length))),(0,rdc b (p+1+1))] [true,true] (Rt1 ((0+5<=5/\0<5)/\·) (.agg (tr5 t (pth (t.names++[[122,122,122]])) (.sl 5 (t.kids.map trc)))) ⟨dc,?_⟩))⟩)
 have hWx:(Tr.mk t.dir t.mode t.data (t.names++[[122,122,122]]) t.kids).W<=t.W+2000:=by
   (try (rw[W_eq (Tr.mk _ _ _ _ _)];simp only[Tr.data_mk,Tr.names_mk,Tr.kids_mk,wS_app,Ws_app,wS,Tr.Ws,List.length_append,List.length_cons,List.length_nil,W_none]))
   omega
 exact fin_rc (p+1+1) (by first|exact lea_refl _|simp[lea,leas,pth,tcs]) (by simp only[go_sem]) kr ⟨(Tr.mk t.dir t.mode t.data (t.names++[[122,122,122]]) t.kids),hWx,rfl,om⟩
 refine Rr (Cn1 (decide ((pk66:Int)=5)) [0,4,5,38] [] (Ki/\·) ⟨rfl,fun hc86 c86=>?_,fun hc86 c86=>?_⟩)
 refine Rb (fun h=>Bn (Jn (hK64 h))) (Bc0 2 [(103,.ptr 0 0)] 32 [.ptr 0 0,.i 2] 104 (RC.use (pick_ok b (p+1+1) 2 om om om om) kr fun r p1 hr=>?_));obtain⟨pk87,hpk87,rfl,rfl⟩:=hr
 refine Ke (Av1 1 105 [] (cI (wnn 24 pk87 om)) (Ki/\·) ⟨rfl,Bc0 1 [] 42 [.str [100],.i ((24+pk87:Nat):Int)] 106 (PC.use (l1Many_ok [100] (24+pk87) (by first|omega|decide) (by first|omega|(simp only[List.length_cons,List.length_nil];omega)) om) fun r hr=>?_)⟩);obtain⟨mt88,rfl,hmt88⟩:=hr;simp only[List.length_cons,List.length_nil]at hmt88
 refine Ke (Fn3 [4,5] [] [(20,[.bool t.dir,.i t.mode,.str mt88,.osl 12 1 0 t.names.length,.osl 16 5 0 t.kids.length]),(16,fl trc t.kids),(12,fl sc t.names),(8,zt),(4,tcs t),(0,rdc b (p+1+1+1))] 24 (((1:Nat)≠0)/\(true=true/\1=1/\2+1<=5)/\·) ⟨dc,dc,Rr (Fn3 [4] [] [(20,[.bool t.dir,.i t.mode,.str mt88,.osl 12 1 0 t.names.length,.osl 16 5 0 t.kids.length]),(16,fl trc t.kids),(12,fl sc t.names),(8,[.bool t.dir,.i t.mode,.str mt88,.osl 12 1 0 t.names.length,.osl 16 5 0 t.kids.length]),(4,tcs t),(0,rdc b (p+1+1+1))] 24 ((0+5<=5/\0<5)/\(true=true/\5=5/\0+5<=5)/\·) ⟨dc,dc,FzT 16 t.kids [(4,.ptr 8 0)] [(12,fl sc t.names),(8,[.bool t.dir,.i t.mode,.str mt88,.osl 12 1 0 t.names.length,.osl 16 5 0 t.kids.length]),(0,rdc b (p+1+1+1))] [false,true,true] ?_⟩)⟩)
 refine FzS 12 t.names [(4,.ptr 8 0)] [(8,[.bool t.dir,.i t.mode,.str mt88,.osl 12 1 0 t.names.length,.sl 5 (t.kids.map trc)]),(0,rdc b (p+1+1+1))] [true,true] (Rt1 ((0+5<=5/\0<5)/\·) (.agg [.bool t.dir,.i t.mode,.str mt88,pth t.names,.sl 5 (t.kids.map trc)]) ⟨dc,?_⟩)
 have hWx:(Tr.mk t.dir t.mode mt88 t.names t.kids).W<=t.W+2000:=by
   (try (rw[W_eq (Tr.mk _ _ _ _ _)];simp only[Tr.data_mk,Tr.names_mk,Tr.kids_mk,wS_app,Ws_app,wS,Tr.Ws,List.length_append,List.length_cons,List.length_nil,W_none]))
   omega
 exact fin_rc (p+1+1+1) (by first|exact lea_refl _|simp[lea,leas,pth,tcs]) (by simp only[go_sem]) kr ⟨(Tr.mk t.dir t.mode mt88 t.names t.kids),hWx,rfl,om⟩
 refine Rr (Cn1 (decide ((pk66:Int)=6)) [0,4,5] [] (Ki/\·) ⟨rfl,fun hc91 c91=>?_,fun hc91 c91=>?_⟩)
 refine Rr (Fn0 [0,4,5] [(7,.i 0)] (Bl (FzT 16 t.kids [(0,.ptr 0 0),(4,.ptr 8 0),(5,.ptr 20 0),(7,.i 0)] [(20,(tr5 t (.osl 12 1 0 t.names.length) (.osl 16 5 0 t.kids.length))),(12,fl sc t.names),(8,zt),(0,rdc b (p+1+1))] [true,false,true,true] (FzS 12 t.names [(0,.ptr 0 0),(4,.ptr 8 0),(5,.ptr 20 0),(7,.i 0)] [(20,(tr5 t (.osl 12 1 0 t.names.length) (.sl 5 (t.kids.map trc)))),(8,zt),(0,rdc b (p+1+1))] [true,true,true] ?_))))
 refine Hn [(20,(tr5 t (pth t.names) (.sl 5 (t.kids.map trc)))),(8,zt),(0,rdc b (p+1+1))] (h_lo (H':=[(20,tcs (Tr.mk t.dir t.mode t.data t.names t.kids)),(8,zt),(0,rdc b (p+1+1))]) ⟨⟨rfl,(by simp[lea,leas,pth,tcs,clc])⟩,⟨rfl,leas_refl _⟩,⟨rfl,leas_refl _⟩,trivial⟩ (h_l (fun(z:Tr×Nat×Nat)=>(match z with|(x,q,i)=>([(0,.ptr 0 0),(4,.ptr 8 0),(5,.ptr 20 0),(7,.i i)]:Fr))) (fun(z:Tr×Nat×Nat)=>(match z with|(x,q,i)=>([(20,tcs x),(8,zt),(0,rdc b q)]:Hp))) (fun(z:Tr×Nat×Nat) cn=>(match z with|(x,q,i)=>(x.W<=t.W+3*i/\q<=p+2*t.W+10+i/\i<=6)/\cn=24)) (fun(z:Tr×Nat×Nat)=>7-z.2.2) ((Tr.mk t.dir t.mode t.data t.names t.kids),p+1+1,0) kr ?_ ?_ ?_ ?_))
 refine⟨?_,rfl⟩;exact⟨by rw[W_eq];simp only[Tr.data_mk,Tr.names_mk,Tr.kids_mk,Tr.Ws];omega,om,om⟩
 exact⟨kr,kr,kr,kr,trivial⟩
 exact(sub_c kr (sub_c kr (sub_c kr (List.nil_sublist _))))
 rintro⟨x,q,i⟩ n1 hI
 (try dsimp only at hI)
 obtain⟨⟨hi1,hi2,hi3⟩,rfl⟩:=hI
 refine Sq fun K93 hK93=>?_
 refine Rr (Bc0 3 [(111,.ptr 0 0),(110,.i i)] 32 [.ptr 0 0,.i 2] 112 (RC.use (pick_ok b q 2 om om om om) kr fun r p1 hr=>?_));obtain⟨pk95,hpk95,rfl,rfl⟩:=hr
 refine Ke (Av1 1 113 [] (cI (wnn 4 pk95 om)) (Ki/\·) ⟨rfl,Cn1 (decide ((i:Int)<((4+pk95:Nat):Int))) [0,4,5,7] [] (Ki/\·) ⟨rfl,fun hc96 c96=>?_,fun hc96 c96=>?_⟩⟩)
 refine Sk (Jn (hK93 (Kp [0,4,5,7] (Sq fun K97 hK97=>?_))))
 refine Bl (Rb (fun h=>Bn (Jn (hK97 h))) (Fn3 [0,4,5,7] [] [(28,tcs x),(24,[.str [110]]),(20,[.bool true,.i 0,.str [],.osl 24 1 0 1,.osl 28 5 0 1]),(8,zt),(0,rdc b (q+1))] 32 ((1*1<=16777216)/\(0+5<=5/\0<5)/\(1*5<=16777216)/\(true=true/\5=5/\0+5<=5)/\·) ⟨dc,dc,dc,dc,h_k [0,4,5,7] (F':=[(0,.ptr 0 0),(4,.ptr 8 0),(5,.ptr 20 0),(7,.i i)]) kr (h_st (F':=[(0,.ptr 0 0),(4,.ptr 8 0),(5,.ptr 20 0),(7,.i i)]) (H':=[(28,fl trc [x]),(24,[.str [110]]),(20,[.bool true,.i 0,.str [],.osl 24 1 0 1,.osl 28 5 0 ([x].length)]),(8,zt),(0,rdc b (q+1))]) rfl (by rw[fl_one,trc_eq];rfl) ?_)⟩))
 refine FzT 28 [x] [(0,.ptr 0 0),(4,.ptr 8 0),(5,.ptr 20 0),(7,.i i)] [(24,[.str [110]]),(20,[.bool true,.i 0,.str [],.osl 24 1 0 1,.osl 28 5 0 ([x].length)]),(8,zt),(0,rdc b (q+1))] [true,true,true,true] (Fz 24 1 1 ([[.str [110]]]) ([.str [110]]) [(0,.ptr 0 0),(4,.ptr 8 0),(5,.ptr 20 0),(7,.i i)] [(20,[.bool true,.i 0,.str [],.osl 24 1 0 1,.sl 5 ([x].map trc)]),(8,zt),(0,rdc b (q+1))] [true,true,true] kr (by first|decide|simp) (Hn [(20,[.bool true,.i 0,.str [],pth [[110]],.sl 5 ([x].map trc)]),(8,zt),(0,rdc b (q+1))] (h_lo (H':=[(20,tcs (Tr.mk true 0 [] [[110]] [x])),(8,zt),(0,rdc b (q+1))]) ⟨⟨rfl,(by simp[lea,leas,pth,tcs,clc])⟩,⟨rfl,leas_refl _⟩,⟨rfl,leas_refl _⟩,trivial⟩ (Rn ?_))))
 refine Av1 2 116 [(115,.i i)] (cI (wn1 i om)) (Ki/\·) ⟨rfl,Gn0 [(7,.i ((i+1:Nat):Int))] (nk_n (Lr ((Tr.mk true 0 [] [[110]] [x]),q+1,i+1) [(0,0),(8,8),(20,20)] 24 [(0,.ptr 0 0),(4,.ptr 8 0),(5,.ptr 20 0),(7,.i ((i+1:Nat):Int))] [(20,tcs (Tr.mk true 0 [] [[110]] [x])),(8,zt),(0,rdc b (q+1))] [true,true,true] ?_ ?_ kr kr))⟩
 (try dsimp only);omega
 refine⟨?_,rfl⟩;(try dsimp only);exact⟨by rw[W_eq (Tr.mk _ _ _ _ _)];simp only[Tr.data_mk,Tr.names_mk,Tr.kids_mk,Tr.Ws,wS,List.length_cons,List.length_nil];omega,om,om⟩
 refine Xt (Jx (Lx (Bh (Bn (Jn (hK64 (Kp [4,5] (Rr (Fn3 [4] [] [(20,tcs x),(8,tcs x),(0,rdc b (q+1))] 24 ((0+5<=5/\0<5)/\(true=true/\5=5/\0+5<=5)/\·) ⟨dc,dc,Rt1 ((0+5<=5/\0<5)/\·) (.agg (tcs x)) ⟨dc,?_⟩⟩)))))))))
 have hWx:x.W<=t.W+2000:=by
   (try (rw[W_eq (Tr.mk _ _ _ _ _)];simp only[Tr.data_mk,Tr.names_mk,Tr.kids_mk,wS_app,Ws_app,wS,Tr.Ws,List.length_append,List.length_cons,List.length_nil,W_none]))
   omega
 exact fin_rc (q+1) (by first|exact lea_refl _|simp[lea,leas,pth,tcs]) (by simp only[go_sem]) kr ⟨x,hWx,rfl,om⟩
 refine Rr (Fn0 [4,5] [(8,.i 0)] (Bl (h_l (fun(z:List Str×List Tr×Nat×Option Unit)=>(match z with|(ns,ks,i,_)=>([(4,.ptr 8 0),(5,.ptr 20 0),(8,.i i)]:Fr))) (fun(z:List Str×List Tr×Nat×Option Unit)=>(match z with|(ns,ks,i,_)=>([(20,(tr5 t (.osl 12 1 0 ns.length) (.osl 16 5 0 ks.length))),(16,fl trc ks),(12,fl sc ns),(8,zt),(4,tcs t),(0,rdc b (p+1+1))]:Hp))) (fun(z:List Str×List Tr×Nat×Option Unit) cn=>(match z with|(ns,ks,i,_)=>(wS ns<=wS t.names+30*i/\Tr.Ws ks<=Tr.Ws t.kids+i/\i<=30/\ks.length<=t.kids.length+i/\ns.length<=t.names.length+i)/\cn=24)) (fun(z:List Str×List Tr×Nat×Option Unit)=>31-z.2.2.1) (t.names,t.kids,0,some ()) kr ?_ ?_ ?_ ?_)))
 refine⟨?_,rfl⟩;first|exact⟨rfl,rfl,rfl,hk⟩|exact⟨om,om,om,om,om⟩
 exact⟨kr,kr,kr,trivial⟩
 exact(sub_c kr (sub_c kr (sub_c kr (sub_c kr (sub_c kr (sub_c kr (List.nil_sublist _)))))))
 rintro⟨ns,ks,i,o⟩ n1 hI
 (try dsimp only at hI)
 obtain⟨⟨hi1,hi2,hi3,hi4,hi5⟩,rfl⟩:=hI
 refine Sq fun K100 hK100=>?_
 refine Rr (Cn1 (decide ((i:Int)<30)) [4,5,8] [] (Ki/\·) ⟨rfl,fun hc102 c102=>?_,fun hc102 c102=>?_⟩)
 refine Sk (Jn (hK100 (Kp [4,5,8] (Sq fun K103 hK103=>?_))))
 refine Bl (Qr [0,1,0,4,12,28,60,127,255,511] [(0,[]),(1,[]),(2,[]),(3,[]),(4,[1]),(5,[]),(6,[1]),(7,[]),(8,[]),(9,[])] (qAv1 4 46 [(45,.i i),(44,.osl 12 1 0 ns.length),(43,.ptr 20 3)] (cI (wnn 100 i om)) (((1:Nat)≠0)/\(3+1<=5/\3<5)/\Ki/\·) ⟨dc,dc,rfl,qBc0 1 [] [1] 64 [.i ((100+i:Nat):Int)] 47 ?_⟩))
 have hl105:=dec_len ((100+i:Nat):Int) om om
 refine PE.use (l1Dec_ok _ ((100+i:Nat):Int) rfl om om) ?_
 refine Kq (p:=(((3+1<=5/\3<5)/\(AV.osl 12 1 0 ns.length=(.osl 12 1 0 ns.length:AV)))/\True)) ⟨⟨dc,rfl⟩,trivial⟩ ?_
 refine qAn3 3 [(50,.osl 28 1 0 (ns.length+1)),(49,.osl 24 1 0 1),(48,.str ([122,122]++(dec ((100+i:Nat):Int))))] [(28,apd (fl sc ns) (ns.length*1) [.str ([122,122]++(dec ((100+i:Nat):Int)))]),(24,[.str ([122,122]++(dec ((100+i:Nat):Int)))]),(20,(tr5 t (.osl 12 1 0 ns.length) (.osl 16 5 0 ks.length))),(16,fl trc ks),(8,zt),(4,tcs t),(0,rdc b (p+1+1))] 32 (([122,122].length+(dec ((100+i:Nat):Int)).length<=9223372036854775807)/\(1*1<=16777216)/\(((3+1<=5/\3<5)/\(AV.osl 12 1 0 ns.length=(.osl 12 1 0 ns.length:AV)))/\True)/\(0+1*1<=1)/\(1=1/\ns.length*1<=(fl sc ns).length/\0<16/\(ns.length+1)*16<=140737488355328)/\(True)/\·) ⟨(by simp only[List.length_cons,List.length_nil];omega),dc,⟨⟨dc,rfl⟩,trivial⟩,dc,⟨rfl,gl,dc,gl⟩,trivial,runq_v (v':=.osl 28 1 0 ((ns++[[122,122]++(dec ((100+i:Nat):Int))]).length)) (push_len _ _ _ _) (runq_h (cs':=fl sc (ns++[[122,122]++(dec ((100+i:Nat):Int))])) (push_str ns ([122,122]++(dec ((100+i:Nat):Int)))) (qFn3 [4,5,8] [] [(28,fl sc (ns++[[122,122]++(dec ((100+i:Nat):Int))])),(24,[.str ([122,122]++(dec ((100+i:Nat):Int)))]),(20,(tr5 t (.osl 28 1 0 ((ns++[[122,122]++(dec ((100+i:Nat):Int))]).length)) (.osl 16 5 0 ks.length))),(16,fl trc ks),(8,zt),(4,tcs t),(0,rdc b (p+1+1))] 32 (((1:Nat)≠0)/\(true=true/\1=1/\3+1<=5)/\(True)/\·) ⟨dc,dc,trivial,Rb (fun h=>Bn (Jn (hK103 h))) ?_⟩))⟩
 refine An3 5 [(56,.osl 36 5 0 (ks.length+1)),(55,.osl 32 5 0 1),(54,.agg zt),(53,.osl 16 5 0 ks.length),(52,.ptr 20 4)] [(36,apd (fl trc ks) (ks.length*5) (((zt:List AV).drop 0).take (1*5))),(32,zt),(28,fl sc (ns++[[122,122]++(dec ((100+i:Nat):Int))])),(24,[.str ([122,122]++(dec ((100+i:Nat):Int)))]),(20,(tr5 t (.osl 28 1 0 ((ns++[[122,122]++(dec ((100+i:Nat):Int))]).length)) (.osl 16 5 0 ks.length))),(8,zt),(4,tcs t),(0,rdc b (p+1+1))] 40 (((1:Nat)≠0)/\(4+1<=5/\4<5)/\(1*5<=16777216)/\(0+1*5<=(zt:List AV).length)/\(5=5/\ks.length*5<=(fl trc ks).length/\0<80/\(ks.length+1)*80<=140737488355328)/\·) ⟨dc,dc,dc,(by first|decide|simp),⟨rfl,by(first|omega|(rw[flTl];omega)|(simp only[flTl];omega)),dc,by(first|omega|(rw[flTl];omega)|(simp only[flTl];omega))⟩,run_H (H':=[(36,fl trc ks++[AV.bool false,AV.int .i64 0,AV.str [],AV.nils,AV.nils]),(32,zt),(28,fl sc (ns++[[122,122]++(dec ((100+i:Nat):Int))])),(24,[.str ([122,122]++(dec ((100+i:Nat):Int)))]),(20,(tr5 t (.osl 28 1 0 ((ns++[[122,122]++(dec ((100+i:Nat):Int))]).length)) (.osl 16 5 0 ks.length))),(8,zt),(4,tcs t),(0,rdc b (p+1+1))]) (by rw[show apd (fl trc ks) (ks.length*5) (((zt:List AV).drop 0).take (1*5))=fl trc ks++[AV.bool false,AV.int .i64 0,AV.str [],AV.nils,AV.nils]from(by unfold apd;rw[flT0];rfl)]) (Fn3 [4,5,8] [] [(36,fl trc ks++[AV.bool false,AV.int .i64 0,AV.str [],AV.nils,AV.nils]),(32,zt),(28,fl sc (ns++[[122,122]++(dec ((100+i:Nat):Int))])),(24,[.str ([122,122]++(dec ((100+i:Nat):Int)))]),(20,(tr5 t (.osl 28 1 0 ((ns++[[122,122]++(dec ((100+i:Nat):Int))]).length)) (.osl 36 5 0 (ks.length+1)))),(8,zt),(4,tcs t),(0,rdc b (p+1+1))] 40 (((1:Nat)≠0)/\(true=true/\1=1/\4+1<=5)/\·) ⟨dc,dc,h_lo (H':=[(36,fl trc (ks++[Tr.none])),(32,zt),(28,fl sc (ns++[[122,122]++(dec ((100+i:Nat):Int))])),(24,[.str ([122,122]++(dec ((100+i:Nat):Int)))]),(20,(tr5 t (.osl 28 1 0 ((ns++[[122,122]++(dec ((100+i:Nat):Int))]).length)) (.osl 36 5 0 (ks.length+1)))),(8,zt),(4,tcs t),(0,rdc b (p+1+1))]) ⟨⟨rfl,lea_zero ks⟩,⟨rfl,leas_refl _⟩,⟨rfl,leas_refl _⟩,⟨rfl,leas_refl _⟩,⟨rfl,leas_refl _⟩,⟨rfl,leas_refl _⟩,⟨rfl,leas_refl _⟩,⟨rfl,leas_refl _⟩,trivial⟩ (h_k [4,5,8] (F':=[(4,.ptr 8 0),(5,.ptr 20 0),(8,.i i)]) kr ?_)⟩)⟩
 refine h_st (F':=[(4,.ptr 8 0),(5,.ptr 20 0),(8,.i i)]) (H':=[(36,fl trc (ks++[Tr.none])),(32,zt),(28,fl sc (ns++[[122,122]++(dec ((100+i:Nat):Int))])),(24,[.str ([122,122]++(dec ((100+i:Nat):Int)))]),(20,(tr5 t (.osl 28 1 0 ((ns++[[122,122]++(dec ((100+i:Nat):Int))]).length)) (.osl 36 5 0 ((ks++[Tr.none]).length)))),(8,zt),(4,tcs t),(0,rdc b (p+1+1))]) rfl (by simp only[List.length_append,List.length_cons,List.length_nil]) ?_
 refine Rn (Av1 2 42 [(41,.i i)] (cI (wn1 i om)) (Ki/\·) ⟨rfl,Gn0 [(8,.i ((i+1:Nat):Int))] (nk_n (Lr (ns++[[122,122]++(dec ((100+i:Nat):Int))],ks++[Tr.none],i+1,some ()) [(0,0),(4,4),(8,8),(20,20),(28,12),(36,16)] 24 [(4,.ptr 8 0),(5,.ptr 20 0),(8,.i ((i+1:Nat):Int))] [(20,(tr5 t (.osl 28 1 0 ((ns++[[122,122]++(dec ((100+i:Nat):Int))]).length)) (.osl 36 5 0 ((ks++[Tr.none]).length)))),(36,fl trc (ks++[Tr.none])),(28,fl sc (ns++[[122,122]++(dec ((100+i:Nat):Int))])),(8,zt),(4,tcs t),(0,rdc b (p+1+1))] [true,false,false,true,true,true] ?_ ?_ kr kr))⟩)
 (try dsimp only);omega
 refine⟨?_,rfl⟩;(try dsimp only);refine⟨?_,?_,om,?_,?_⟩<;>(try simp only[wS_app,Ws_app,wS,Tr.Ws,W_none,List.length_append,List.length_cons,List.length_nil])<;>(try simp only[List.length_nil])<;>omega
 refine Xt (Jx (Lx (Bh (Bn (Jn (hK64 (Kp [4,5] (Rr (Fn3 [4] [] [(20,(tr5 t (.osl 12 1 0 ns.length) (.osl 16 5 0 ks.length))),(16,fl trc ks),(12,fl sc ns),(8,(tr5 t (.osl 12 1 0 ns.length) (.osl 16 5 0 ks.length))),(4,tcs t),(0,rdc b (p+1+1))] 24 ((0+5<=5/\0<5)/\(true=true/\5=5/\0+5<=5)/\·) ⟨dc,dc,FzT 16 ks [(4,.ptr 8 0)] [(12,fl sc ns),(8,(tr5 t (.osl 12 1 0 ns.length) (.osl 16 5 0 ks.length))),(0,rdc b (p+1+1))] [false,true,true] (FzS 12 ns [(4,.ptr 8 0)] [(8,(tr5 t (.osl 12 1 0 ns.length) (.sl 5 (ks.map trc)))),(0,rdc b (p+1+1))] [true,true] ?_)⟩)))))))))
 refine Rt1 ((0+5<=5/\0<5)/\·) (.agg (tr5 t (pth ns) (.sl 5 (ks.map trc)))) ⟨dc,?_⟩
 have hWx:(Tr.mk t.dir t.mode t.data ns ks).W<=t.W+2000:=by
   (try (rw[W_eq (Tr.mk _ _ _ _ _)];simp only[Tr.data_mk,Tr.names_mk,Tr.kids_mk,wS_app,Ws_app,wS,Tr.Ws,List.length_append,List.length_cons,List.length_nil,W_none]))
   omega
 exact fin_rc (p+1+1) (by first|exact lea_refl _|simp[lea,leas,pth,tcs]) (by simp only[go_sem]) kr ⟨(Tr.mk t.dir t.mode t.data ns ks),hWx,rfl,om⟩
 omega
open Go Go.Proofs
set_option maxRecDepth 100000
theorem l4Any_ok (b:Str) (p:Nat) (hp:p<2^20) (hb:b.length<2^30):RC G 13 [] b p (fun r p'=>∃x:Tr,x.W<2^13/\r=.agg (tcs x)/\p'<=p+12000):=by
 refine h_rc (F:=[(0,.ptr 0 0)]) (by simp only[go_sem]) Tryz.func13 kr kr ?_ kr
 refine Rr (Fn2 [0] [(2,.ptr 4 0)] [(4,zt),(0,rdc b p)] 8 (Sq fun K2 hK2=>?_))
 refine Rr (Bc0 2 [(3,.ptr 0 0)] 32 [.ptr 0 0,.i 24] 4 (RC.use (pick_ok b p 24 om om om om) kr fun r p1 hr=>?_));obtain⟨pk4,hpk4,rfl,rfl⟩:=hr
 refine Ke (Fn0 [0,2,4] [] (Bl (Rr (Cn1 (decide ((pk4:Int)=0)) [0,2,4] [] (Ki/\·) ⟨rfl,fun hc6 c6=>?_,fun hc6 c6=>?_⟩))))
 refine Rr (Bc0 3 [(8,.ptr 0 0),(7,.ptr 0 0)] 34 [.ptr 0 0] 9 (RC.use (l4Tree_ok b (p+1) om om) kr fun r q9 hr=>?_));obtain⟨x8,h1x8,rfl,h3x8⟩:=hr
 refine Ke (Bc0 1 [] 33 [.ptr 0 0,.agg (tcs x8)] 10 (RC.use (l4Spoil_ok _ x8 b q9 rfl om om om) kr fun r q11 hr=>?_));obtain⟨x10,h1x10,rfl,h3x10⟩:=hr
 refine Ke (Fn3 [2] [] [(4,tcs x10),(0,rdc b q11)] 8 ((true=true/\5=5/\0+5<=5)/\·) ⟨dc,Rt1 ((0+5<=5/\0<5)/\·) (.agg (tcs x10)) ⟨dc,?_⟩⟩)
 exact fin_rc q11 (lea_refl _) (by simp only[go_sem]) kr ⟨x10,om,rfl,om⟩
 refine Rr (Cn1 (decide ((pk4:Int)=1)) [0,2] [] (Ki/\·) ⟨rfl,fun hc13 c13=>?_,fun hc13 c13=>?_⟩)
 refine Rr (Bc0 2 [(13,.ptr 0 0)] 35 [.ptr 0 0] 14 (RC.use (l4Full_ok b (p+1) om om) kr fun r q16 hr=>?_));obtain⟨x15,h1x15,rfl,h3x15⟩:=hr
 refine Ke (Fn3 [2] [] [(4,tcs x15),(0,rdc b q16)] 8 ((true=true/\5=5/\0+5<=5)/\·) ⟨dc,Rt1 ((0+5<=5/\0<5)/\·) (.agg (tcs x15)) ⟨dc,?_⟩⟩)
 exact fin_rc q16 (lea_refl _) (by simp only[go_sem]) kr ⟨x15,om,rfl,om⟩
 refine Sk (Bn (Jn (hK2 (Kp [0,2] (Rr (Bc0 2 [(15,.ptr 0 0)] 34 [.ptr 0 0] 16 (RC.use (l4Tree_ok b (p+1) om om) kr fun r q19 hr=>?_)))))));obtain⟨x18,h1x18,rfl,h3x18⟩:=hr
 refine Ke (Fn3 [2] [] [(4,tcs x18),(0,rdc b q19)] 8 ((true=true/\5=5/\0+5<=5)/\·) ⟨dc,Rt1 ((0+5<=5/\0<5)/\·) (.agg (tcs x18)) ⟨dc,?_⟩⟩)
 exact fin_rc q19 (lea_refl _) (by simp only[go_sem]) kr ⟨x18,om,rfl,om⟩
theorem ho_len (A B:List Mk) (a b:AV):(fl mkc A++(a::b::fl mkc B)).length=A.length*2+2+B.length*2:=by
 rw[List.length_append,List.length_cons,List.length_cons,flMl,flMl];omega
theorem ho_get (A:List Mk) (a b:AV) (B:List Mk) (j:Nat) {k:Nat} (hA:A.length=k) (hj:j<2):(fl mkc A++(a::b::fl mkc B)).getD (0+k*2+j) .dead=[a,b].getD j .dead:=by
 simp only[List.getD]
 rw[List.getElem?_append_right (by rw[flMl];omega),flMl,show 0+k*2+j-A.length*2=j by omega]
 match j,hj with
 |0,_=>rfl
 |1,_=>rfl
theorem ho_set (A:List Mk) (a b x:AV) (B:List Mk) {k:Nat} (hA:A.length=k):(fl mkc A++(a::b::fl mkc B)).take (0+k*2)++[x]++(fl mkc A++(a::b::fl mkc B)).drop (0+k*2+1)=fl mkc A++(x::b::fl mkc B):=by
 have h1:(fl mkc A).length=0+k*2:=by rw[flMl];omega
 have h2:(fl mkc A++[a]).length=0+k*2+1:=by rw[List.length_append,h1];rfl
 rw[List.take_left' h1,show fl mkc A++(a::b::fl mkc B)=(fl mkc A++[a])++(b::fl mkc B) by simp,List.drop_left' h2];simp
theorem ho_new (X:List Mk) (k:Nat) (x:AV) (h:k<X.length):(fl mkc X).take (0+k*2)++[x]++(fl mkc X).drop (0+k*2+1)=fl mkc (X.take k)++(x::.bool (X.getD k default).sub::fl mkc (X.drop (k+1))):=by
 have e:fl mkc X=fl mkc (X.take k)++(pth (X.getD k default).path::.bool (X.getD k default).sub::fl mkc (X.drop (k+1))):=by
  conv=>lhs;rw[get_split X k h default,fl_app,<-List.singleton_append,fl_app,fl_one]
  rfl
 rw[e]
 exact ho_set _ _ _ x _ (by rw[List.length_take];omega)
theorem ho_sub (X:List Mk) (k:Nat) (b:Bool) (h:k<X.length):(fl mkc X).take (0+k*2+1)++[.bool b]++(fl mkc X).drop (0+k*2+1+1)=fl mkc (X.set k ⟨(X.getD k default).path,b⟩):=by
 rw[<-rowM_set X k ⟨(X.getD k default).path,b⟩ h]
 have e:fl mkc X=fl mkc (X.take k)++(pth (X.getD k default).path::.bool (X.getD k default).sub::fl mkc (X.drop (k+1))):=by
  conv=>lhs;rw[get_split X k h default,fl_app,<-List.singleton_append,fl_app,fl_one]
  rfl
 have h1:(fl mkc (X.take k)).length=0+k*2:=by rw[flMl,List.length_take];omega
 have h2:(fl mkc (X.take k)++[pth (X.getD k default).path]).length=0+k*2+1:=by rw[List.length_append,h1];rfl
 rw [show 0+k*2+1+1=0+k*2+2 by omega,show(fl mkc X).take (0+k*2+1)=(fl mkc X).take (0+k*2)++[pth (X.getD k default).path] by
  rw[e,List.take_left' h1,show fl mkc (X.take k)++(pth (X.getD k default).path::.bool (X.getD k default).sub::fl mkc (X.drop (k+1)))=(fl mkc (X.take k)++[pth (X.getD k default).path])++(.bool (X.getD k default).sub::fl mkc (X.drop (k+1))) by simp,List.take_left' h2]]
 simp[mkc]
theorem FzG {np:Nat} {G:Prg} {c:Code} {F:Fr} {H:Hp} {n:Nat} {Q:Post} (i j:Nat) (D:List AV) (p:List Str) (b:Bool) (B:List Mk) (cs':List AV) (F1:Fr) (H1:Hp) (m:List Bool) (h:TT np G.P c (fqF i 1 (p.map fun s=>[AV.str s]) (fl sc p) F1) ((j,cs')::fqH i 1 (p.map fun s=>[AV.str s]) (fl sc p) m H1) n Q)
  (hcs:D++(pth p::.bool b::fl mkc B)=cs') (hD:oqs i 1 p.length (D++(.osl i 1 0 p.length::.bool b::fl mkc B))) (hD2:fqs i 1 (p.map fun s=>[AV.str s]) (fl sc p) (D++(.osl i 1 0 p.length::.bool b::fl mkc B))=D++(pth p::.bool b::fl mkc B))
  (hF:oqF i 1 p.length F1:=by simp only[oqF,oq,oqs,go_sem,and_self,reduceIte,Nat.reduceEqDiff]) (hH:oqR i 1 p.length m H1:=by simp only[oqR,oqs,oq,go_sem,and_self,reduceIte,Nat.reduceEqDiff]) (hj:(j==i)=false:=by kernel_rfl)
  (h5:(selH (j::i::H1.map (·.1)) H).map Prod.fst=some ((j,D++(.osl i 1 0 p.length::.bool b::fl mkc B))::(i,fl sc p)::H1):=by kernel_rfl) (h4:keepF (F1.map (·.1)) F=F1:=by kernel_rfl):TT np G.P c F H n Q:=by
 cases hs5:selH (j::i::H1.map (·.1)) H with
 |none=>rw[hs5]at h5;cases h5
 |some q=>
  obtain⟨a,r⟩:=q
  rw[hs5]at h5
  simp only[Option.map_some,Option.some.injEq]at h5
  subst h5
  refine h_pm (selH_perm hs5) (TT_weak (F':=F1) (h4▸keepF_sub F _) (List.sublist_append_left _ _) (TT_fz i (cs:=fl sc p) (by simp only[hgt,hj,cond_false,beq_self_eq_true,cond_true]) ?_))
  rw[show hdel ((j,D++(.osl i 1 0 p.length::.bool b::fl mkc B))::(i,fl sc p)::H1) i=(j,D++(.osl i 1 0 p.length::.bool b::fl mkc B))::H1 by simp only[hdel,hj,cond_false,beq_self_eq_true,cond_true]]
  rw[fqF_eq (chkS p) (flS_le p) F1 hF,fqR_eq (chkS p) (flS_le p) (H':=(j,cs')::fqH i 1 (p.map fun s=>[AV.str s]) (fl sc p) m H1)]
  ·exact h
  ·exact⟨rfl,.inr ⟨hD,by rw[hD2,hcs]⟩,fqR_of m H1 hH⟩
theorem oqs_flM' (i l:Nat) (B:List Mk):oqs i 1 l (fl mkc B):=by have:=oqs_flM i l [] B trivial;rwa[List.append_nil]at this
theorem fqs_flM' (i:Nat) (es:List (List AV)) (cs:List AV) (B:List Mk):fqs i 1 es cs (fl mkc B)=fl mkc B:=by simpa only[fqs,List.append_nil]using fqs_flM i es cs [] B
theorem ho_fl (A B:List Mk) (p:List Str) (b:Bool):fl mkc A++(pth p::.bool b::fl mkc B)=fl mkc (A++⟨p,b⟩::B):=by
 rw[fl_app,<-List.singleton_append (x:=(⟨p,b⟩:Mk)),fl_app,fl_one];rfl
theorem FzH {np:Nat} {G:Prg} {c:Code} {F:Fr} {H:Hp} {n:Nat} {Q:Post} (i j:Nat) (A:List Mk) (p:List Str) (b:Bool) (B:List Mk) (F1:Fr) (H1:Hp) (m:List Bool) (h:TT np G.P c (fqF i 1 (p.map fun s=>[AV.str s]) (fl sc p) F1) ((j,fl mkc (A++⟨p,b⟩::B))::fqH i 1 (p.map fun s=>[AV.str s]) (fl sc p) m H1) n Q)
  (hF:oqF i 1 p.length F1:=by simp only[oqF,oq,oqs,go_sem,and_self,reduceIte,Nat.reduceEqDiff]) (hH:oqR i 1 p.length m H1:=by simp only[oqR,oqs,oq,go_sem,and_self,reduceIte,Nat.reduceEqDiff]) (hj:(j==i)=false:=by kernel_rfl)
  (h5:(selH (j::i::H1.map (·.1)) H).map Prod.fst=some ((j,fl mkc A++(.osl i 1 0 p.length::.bool b::fl mkc B))::(i,fl sc p)::H1):=by kernel_rfl) (h4:keepF (F1.map (·.1)) F=F1:=by kernel_rfl):TT np G.P c F H n Q:=
 FzG i j (fl mkc A) p b B _ F1 H1 m h (ho_fl A B p b) (oqs_flM i _ _ A (by simp only[oqs,oq,oqs_flM',and_self,if_true])) (by rw[fqs_flM];simp only[fqs,fq,fqs_flM',Nat.beq_refl,cond_true,pth]) hF hH hj h5 h4
theorem FzP {np:Nat} {G:Prg} {c:Code} {F:Fr} {H:Hp} {n:Nat} {Q:Post} (i j:Nat) (A:List Mk) (a l:Nat) (b0:Bool) (B:List Mk) (p:List Str) (b:Bool) (F1:Fr) (H1:Hp) (m:List Bool) (hai:a≠i) (h:TT np G.P c (fqF i 1 (p.map fun s=>[AV.str s]) (fl sc p) F1) ((j,fl mkc A++(.osl a 1 0 l::.bool b0::fl mkc (B++[⟨p,b⟩])))::fqH i 1 (p.map fun s=>[AV.str s]) (fl sc p) m H1) n Q)
  (hF:oqF i 1 p.length F1:=by simp only[oqF,oq,oqs,go_sem,and_self,reduceIte,Nat.reduceEqDiff]) (hH:oqR i 1 p.length m H1:=by simp only[oqR,oqs,oq,go_sem,and_self,reduceIte,Nat.reduceEqDiff]) (hj:(j==i)=false:=by kernel_rfl)
  (h5:(selH (j::i::H1.map (·.1)) H).map Prod.fst=some ((j,(fl mkc A++(.osl a 1 0 l::.bool b0::fl mkc B))++[.osl i 1 0 p.length,.bool b])::(i,fl sc p)::H1):=by kernel_rfl) (h4:keepF (F1.map (·.1)) F=F1:=by kernel_rfl):TT np G.P c F H n Q:=by
 have e:∀x:AV,(fl mkc A++(.osl a 1 0 l::.bool b0::fl mkc B))++(x::.bool b::fl mkc [])=fl mkc A++(.osl a 1 0 l::.bool b0::(fl mkc B++[x,.bool b])):=fun x=>by simp[fl]
 refine FzG i j (fl mkc A++(.osl a 1 0 l::.bool b0::fl mkc B)) p b [] _ F1 H1 m h (by rw[e,fl_app,fl_one]) ?_ ?_ hF hH hj h5 h4
 ·rw[e]
  refine oqs_flM i _ _ A ?_
  simp only[oqs,oq,if_neg hai,true_and]
  exact oqs_flM i _ _ B (by simp only[oqs,oq,and_self,if_true])
 ·rw[e,e,fqs_flM]
  simp only[fqs,fq,nbq hai,cond_false]
  rw[fqs_flM]
  simp only[fqs,fq,Nat.beq_refl,cond_true,pth]
theorem r1s_flM (a b:Nat) (ds:List AV):∀X:List Mk,r1s a b (fl mkc X++ds)=fl mkc X++r1s a b ds
 |[]=>rfl
 |m::X=>by
  have:=r1s_flM a b ds X
  simp only[fl,List.map_cons,List.flatten_cons,List.cons_append,List.nil_append,r1s,r1,mkc,pth]at this⊢
  rw[this]
theorem slps_flM (ds:List AV) (h:slps ds):∀X:List Mk,slps (fl mkc X++ds)
 |[]=>h
 |m::X=>by
  have:=slps_flM ds h X
  simp only[fl,List.map_cons,List.flatten_cons,List.cons_append,List.nil_append,slps,slp,mkc,pth,puress_str,true_and]at this⊢
  exact this
theorem slps_ho (A B:List Mk) (i l:Nat) (b:Bool):slps (fl mkc A++(.osl i 1 0 l::.bool b::fl mkc B)):=slps_flM (.osl i 1 0 l::.bool b::fl mkc B) ⟨trivial,trivial,by have:=slps_flM [] trivial B;rwa[List.append_nil]at this⟩ A
theorem r1s_ho (a j:Nat) (A B:List Mk) (l:Nat) (b:Bool):r1s a j (fl mkc A++(.osl a 1 0 l::.bool b::fl mkc B))=fl mkc A++(.osl j 1 0 l::.bool b::fl mkc B):=by
 have e3:=r1s_flM a j [] B
 rw[List.append_nil]at e3
 rw[r1s_flM];simp only[r1s,r1,Nat.beq_refl,cond_true,e3,List.append_nil]
theorem rns_flM (mp:List (Nat×Nat)) (ds:List AV):∀X:List Mk,rns mp (fl mkc X++ds)=fl mkc X++rns mp ds
 |[]=>rfl
 |m::X=>by
  have:=rns_flM mp ds X
  simp only[fl,List.map_cons,List.flatten_cons,List.cons_append,List.nil_append,rns,rn,mkc,pth]at this⊢
  rw[this]
theorem rns_ho (mp:List (Nat×Nat)) (A B:List Mk) (i l:Nat) (b:Bool):rns mp (fl mkc A++(.osl i 1 0 l::.bool b::fl mkc B))=fl mkc A++(rn mp (.osl i 1 0 l)::.bool b::fl mkc B):=by
 have e3:=rns_flM mp [] B
 rw[List.append_nil]at e3
 rw[rns_flM];simp only[rns,rn,e3,List.append_nil]
@[go_sem] theorem oqs_ho (i s l:Nat) (A B:List Mk) (a k:Nat) (b:Bool):oqs i s l (fl mkc A++(.osl a 1 0 k::.bool b::fl mkc B))=oq i s l (.osl a 1 0 k):=by
 have hp:∀(ds:List AV) (X:List Mk),oqs i s l (fl mkc X++ds)=oqs i s l ds:=by
  intro ds X
  induction X with
  |nil=>rfl
  |cons m X ih=>simp only[fl,List.map_cons,List.flatten_cons,List.cons_append,List.nil_append,oqs,oq_pth,oq,true_and,mkc]at ih⊢;exact ih
 have h2:=hp [] B
 rw[List.append_nil]at h2
 rw[hp];simp only[oqs,h2,oq,true_and,and_true]
theorem fqs_ho (i s:Nat) (es:List (List AV)) (cs:List AV) (A B:List Mk) (a k:Nat) (b:Bool):fqs i s es cs (fl mkc A++(.osl a 1 0 k::.bool b::fl mkc B))=fl mkc A++(fq i s es cs (.osl a 1 0 k)::.bool b::fl mkc B):=by
 have hp:∀(ds:List AV) (X:List Mk),fqs i s es cs (fl mkc X++ds)=fl mkc X++fqs i s es cs ds:=by
  intro ds X
  induction X with
  |nil=>rfl
  |cons m X ih=>simp only[fl,List.map_cons,List.flatten_cons,List.cons_append,List.nil_append,fqs,fq,mkc,pth]at ih⊢;rw[ih]
 have h2:=hp [] B
 rw[List.append_nil]at h2
 rw[hp];simp only[fqs,h2,fq,List.append_nil]
theorem TCall_H {G:Prg} {f:Nat} {args:List AV} {H H':Hp} {n:Nat} {Q:CPost} (e:H=H') (h:TCall G f args H' n Q):TCall G f args H n Q:=e▸h
theorem ods_flM (X:List Mk):ods (fl mkc X):=ods_pur _ (purs_flM X)
theorem ods_ho (A B:List Mk) (j l:Nat) (b:Bool):ods (fl mkc A++(.osl (2*j+1) 1 0 l::.bool b::fl mkc B)):=ods_app.2 ⟨ods_flM A,by show(2*j+1)%2=1;omega,trivial,ods_flM B⟩
def CmR (l:List Mk) (K:Nat) (r:AV) (Z:Hp):Prop:=∃a:Nat,r=.osl (2*a+1) 2 0 l.length/\
 ((l.length<=K/\Z=[(2*a+1,fl mkc l)])\/
 (K<l.length/\∃b:Nat,Z=[(2*a+1,fl mkc (l.take K)++(.osl (2*b+1) 1 0 (l.getD K default).path.length::.bool (l.getD K default).sub::fl mkc (l.drop (K+1)))),(2*b+1,fl sc (l.getD K default).path)]))
theorem cm_use {G:Prg} {f:Nat} {l:List Mk} {K:Nat} {H:Hp} {n:Nat} {Q:CPost} (h:DC G f [.sl 2 (l.map mkc)] [] (CmR l K))
  (q1:l.length<=K->Q (.osl n 2 0 l.length) ((n,fl mkc l)::H) (n+4))
  (q2:K<l.length->Q (.osl n 2 0 l.length) ((n+4,fl sc (l.getD K default).path)::(n,fl mkc (l.take K)++(.osl (n+4) 1 0 (l.getD K default).path.length::.bool (l.getD K default).sub::fl mkc (l.drop (K+1))))::H) (n+4+4)):TCall G f [.sl 2 (l.map mkc)] H n Q:=by
 have h0:TCall G f [.sl 2 (l.map mkc)] H n fun r H' n'=>n'=n/\∃Z',H'=H++Z'/\CmR l K r Z':=by
  refine lend_ref ((h [] n trivial).mono ?_)
  rintro r H' n' _ ⟨rfl,Z',rfl,hc⟩
  exact⟨rfl,hc⟩
 refine tc_evn (tc_evn (h0.mono ?_))
 rintro r H' n' _ ⟨rfl,Z',rfl,a,rfl,hc⟩ hnd hn4
 have e1:r1 (2*a+1) n' (.osl (2*a+1) 2 0 l.length)=.osl n' 2 0 l.length:=by simp only[r1,Nat.beq_refl,cond_true]
 rcases hc with ⟨hk,rfl⟩|⟨hk,b,rfl⟩
 ·refine .inr ⟨2*a+1,_,H,_,by omega,List.perm_append_comm,trivial,r1K_refl _ _ _,fun _ _=>.inl ?_⟩
  rw[e1];exact q1 hk
 ·have hab:(2*b+1)≠2*a+1:=by
   intro e
   simp only[ids,List.map_append,List.map_cons,List.map_nil]at hnd
   have:=(List.nodup_append.1 hnd).2.1
   rw[e]at this
   simp at this
  refine .inr ⟨2 * a + 1, fl mkc (l.take K) ++ (.osl (2 * b + 1) 1 0 (l.getD K default).path.length :: .bool (l.getD K default).sub :: fl mkc (l.drop (K + 1))), (2 * b + 1, fl sc (l.getD K default).path) :: H, _, by omega, List.perm_append_comm (l₁ := H) (l₂ := [_, _]), trivial, r1K_refl _ _ _, fun _ _ => .inr ⟨2*b+1,fl sc (l.getD K default).path,(n',fl mkc (l.take K)++(.osl (2*b+1) 1 0 (l.getD K default).path.length::.bool (l.getD K default).sub::fl mkc (l.drop (K+1))))::H,
   (n',fl mkc (l.take K)++(.osl (n'+4) 1 0 (l.getD K default).path.length::.bool (l.getD K default).sub::fl mkc (l.drop (K+1))))::H,by omega,List.Perm.swap _ _ _,by rw[e1];trivial,⟨rfl,.inr ⟨slps_ho _ _ _ _ _,r1s_ho _ _ _ _ _ _⟩,r1K_refl _ _ _⟩,?_⟩⟩
  ·rw[e1]
   have e2:r1 (2*b+1) (n'+4) (.osl n' 2 0 l.length)=.osl n' 2 0 l.length:=by
    simp only[r1];rw[nbq (show n'≠2*b+1 by omega)];rfl
   rw[e2]
   exact q2 hk
end Go.Proofs.YtincoopbognogaaGreatT
