/- A part of the proof that FnExactTrailDo, on every tree, list of marks and call, returns true (no conditions): rules of the walk, and what the functions compute. -/
import Derived.KernelRfl
import Derived.Lib.Overlaps
import Derived.Test.YtbfeplcaapiaoaaGreatC0
set_option linter.unusedVariables false
set_option linter.unusedSimpArgs false
namespace Go.Proofs.YtbfeplcaapiaoaaGreatT
open Go
def chk (s:Nat):Nat->List AV->List (List AV)
 |0,_=>[]
 |l+1,cs=>cs.take s::chk s l (cs.drop s)
theorem chk_len (s:Nat):∀(l:Nat) (cs:List AV),(chk s l cs).length=l
 |0,_=>rfl
 |l+1,cs=>by simp[chk,chk_len s l]
theorem chk_flat {s:Nat}:∀(es:List (List AV)),(∀e,e∈es->e.length=s)->chk s es.length es.flatten=es
 |[],_=>rfl
 |e::es,h=>by
  have he:=h e (by simp)
  simp only[List.length_cons,chk,List.flatten_cons]
  rw[<-he,List.take_left',List.drop_left',he,chk_flat es fun x hx=>h x (by simp[hx])]
  ·rfl
  ·rfl
mutual
def fz (id:Nat) (cs:List AV):AV->AV
 |.osl i s o l=>bif i==id&&Nat.ble (o+l*s) cs.length then .sl s (chk s l (cs.drop o))else .osl i s o l
 |.ocl i s o l c=>.ocl i s o l c
 |.ptr i o=>bif i==id then .pat (cs.drop o)else .ptr i o
 |.agg az=>.agg (fzs id cs az)
 |.tup az=>.tup (fzs id cs az)
 |.fn f az=>.fn f (fzs id cs az)
 |.pat az=>.pat (fzs id cs az)
 |.sl s es=>.sl s (fzss id cs es)
 |.int k n=>.int k n
 |.bool b=>.bool b
 |.str s=>.str s
 |.raw v=>.raw v
 |.nils=>.nils
 |.nilp=>.nilp
 |.dead=>.dead
 |.tp i t k=>.tp i t k
 |.tsl i t l=>.tsl i t l
def fzs (id:Nat) (cs:List AV):List AV->List AV
 |[]=>[]
 |a::az=>fz id cs a::fzs id cs az
def fzss (id:Nat) (cs:List AV):List (List AV)->List (List AV)
 |[]=>[]
 |a::az=>fzs id cs a::fzss id cs az
end
def fzF (id:Nat) (cs:List AV):Fr->Fr
 |[]=>[]
 |(k,v)::F=>(k,fz id cs v)::fzF id cs F
def fzH (id:Nat) (cs:List AV):Hp->Hp
 |[]=>[]
 |(k,v)::H=>(k,fzs id cs v)::fzH id cs H
theorem gt_fzF {id:Nat} {cs:List AV}:∀(F:Fr) (t:Nat),gt (fzF id cs F) t=fz id cs (gt F t)
 |[],t=>by simp[fzF,gt,fz]
 |(k,v)::F,t=>by
  simp only[fzF,gt]
  cases k==t
  ·exact gt_fzF F t
  ·rfl
theorem fzs_len (id:Nat) (cs:List AV):∀az:List AV,(fzs id cs az).length=az.length
 |[]=>by simp[fzs]
 |a::az=>by simp[fzs,fzs_len id cs az]
theorem fzss_len (id:Nat) (cs:List AV):∀az:List (List AV),(fzss id cs az).length=az.length
 |[]=>by simp[fzss]
 |a::az=>by simp[fzss,fzss_len id cs az]
theorem ids_fzH (id:Nat) (cs:List AV):∀H:Hp,ids (fzH id cs H)=ids H
 |[]=>rfl
 |(k,v)::H=>by simp only[fzH,ids,List.map_cons];exact congrArg _ (ids_fzH id cs H)
theorem mem_fzH {id:Nat} {cs:List AV} {j:Nat} {ds:List AV}:∀{H:Hp},(j,ds)∈fzH id cs H->∃es,(j,es)∈H/\ds=fzs id cs es
 |[],h=>by simp[fzH]at h
 |(k,v)::H,h=>by
  simp only[fzH,List.mem_cons,Prod.mk.injEq]at h
  rcases h with ⟨rfl,rfl⟩|h
  ·exact⟨v,by simp,rfl⟩
  ·obtain⟨es,h1,h2⟩:=mem_fzH h
   exact⟨es,by simp[h1],h2⟩
structure Stand (ρ:Rho) (w:World) (O:Nat->Prop) (id:Nat) (cs:List AV) (b:Nat) (c:Array Value) (e:TypeId) (f:Nat×Nat):Prop where
 rho:ρ id=some b
 heap:w.heap[b]?=some (Obj.cells c e f)
 ones:∀x,x∈c.toList->one x=true
 len:cs.length<=c.size
 vr:VRs ρ w O cs (c.toList.take cs.length)
 out:¬O b
theorem PCs_of {ρ:Rho} {w:World} {O:Nat->Prop} {b:Nat} {c:Array Value} {e:TypeId} {f:Nat×Nat} (hh:w.heap[b]?=some (Obj.cells c e f)) (ho:∀x,x∈c.toList->one x=true):∀(ds:List AV) (o j:Nat),o+j+ds.length<=c.size->VRs ρ w O ds ((c.toList.drop (o+j)).take ds.length)->PCs ρ w O ds ⟨b,o,none⟩ j
 |[],_,_,_,_=>by simp only[PCs]
 |d::ds,o,j,hl,hv=>by
  simp only[List.length_cons]at hl hv
  have hlt:o+j<c.size:=by omega
  have hd:c.toList.drop (o+j)=c.toList.getD (o+j) undef::c.toList.drop (o+(j+1)):=by
   rw[List.drop_eq_getElem_cons (by simpa using hlt)]
   simp[List.getD,hlt,Nat.add_assoc]
  rw[hd,List.take_succ_cons]at hv
  simp only[VRs]at hv
  simp only[PCs]
  refine⟨⟨c.toList.getD (o+j) undef,?_,ho _ ?_,hv.1⟩,PCs_of hh ho ds o (j+1) (by omega) hv.2⟩
  ·rw[add_plain];simp[World.cell?,hh,hlt]
  ·simp[List.getD,hlt]
theorem PEs_of {ρ:Rho} {w:World} {O:Nat->Prop} {b s:Nat} {c:Array Value} {e:TypeId} {f:Nat×Nat} (hh:w.heap[b]?=some (Obj.cells c e f)) (ho:∀x,x∈c.toList->one x=true):∀(l:Nat) (ds:List AV) (o i:Nat),l*s<=ds.length->o+i*s+ds.length<=c.size->VRs ρ w O ds ((c.toList.drop (o+i*s)).take ds.length)->PEs ρ w O s (chk s l ds) ⟨b,o,none⟩ i
 |0,_,_,_,_,_,_=>by simp only[chk,PEs]
 |l+1,ds,o,i,hs,hl,hv=>by
  have hs':s+l*s<=ds.length:=by rw[Nat.succ_mul]at hs;omega
  simp only[chk,PEs]
  refine⟨by rw[List.length_take];omega,PCs_of hh ho _ o (i*s) (by rw[List.length_take];omega) ?_,PEs_of hh ho l (ds.drop s) o (i+1) (by rw[List.length_drop];omega) (by rw[List.length_drop,Nat.succ_mul];omega) ?_⟩
  ·have:=VRs_take s hv
   rw[List.take_take]at this
   rw[List.length_take]
   exact this
  ·have:=VRs_drop s hv
   rw[List.drop_take,List.drop_drop]at this
   rw[List.length_drop,Nat.succ_mul,<-Nat.add_assoc]
   exact this
section
variable {ρ:Rho} {w:World} {O O':Nat->Prop} {id b:Nat} {cs:List AV} {c:Array Value} {e:TypeId} {f:Nat×Nat}
mutual
theorem fz_vr (hst:Stand ρ w O' id cs b c e f) (hO:∀b,O' b->O b):∀(a:AV) (v:Value),VR ρ w O a v->VR ρ w O' (fz id cs a) v
 |.int _ _,_,hv=>by simpa only[VR,fz]using hv
 |.bool _,_,hv=>by simpa only[VR,fz]using hv
 |.str _,_,hv=>by simpa only[VR,fz]using hv
 |.raw _,_,hv=>by simpa only[VR,fz]using hv
 |.nils,_,hv=>by simpa only[VR,fz]using hv
 |.nilp,_,hv=>by simpa only[VR,fz]using hv
 |.dead,_,_=>by simp only[VR,fz]
 |.tp ..,_,hv=>by simpa only[VR,fz]using hv
 |.tsl ..,_,hv=>by simpa only[VR,fz]using hv
 |.agg az,_,hv=>by
  simp only[VR,fz]at hv⊢
  obtain⟨vs,e,h0,h1⟩:=hv
  exact⟨vs,e,h0,fzs_vr hst hO az _ h1⟩
 |.tup az,_,hv=>by
  simp only[VR,fz]at hv⊢
  obtain⟨vs,e,h1⟩:=hv
  exact⟨vs,e,fzs_vr hst hO az _ h1⟩
 |.fn g az,_,hv=>by
  simp only[VR,fz]at hv⊢
  obtain⟨vs,e,h1⟩:=hv
  exact⟨vs,e,fzs_vr hst hO az _ h1⟩
 |.pat az,_,hv=>by
  simp only[VR,fz]at hv⊢
  obtain⟨a,e,h1,h2,h3⟩:=hv
  exact⟨a,e,fun x=>h1 (hO _ x),h2,fzPC_vr hst hO az a 0 h3⟩
 |.sl s es,_,hv=>by
  simp only[VR,fz,fzss_len]at hv⊢
  obtain⟨A,k,e,hk,h1⟩:=hv
  refine⟨A,k,e,hk,fun hne=>?_⟩
  obtain⟨a,h2,h3,h4,h5⟩:=h1 (by rintro rfl;exact hne (by simp[fzss]))
  exact⟨a,h2,fun x=>h3 (hO _ x),h4,fzPE_vr hst hO s es a 0 h5⟩
 |.ptr i o,v,hv=>by
  simp only[fz]
  cases hi:i==id with
  |false=>simpa only[cond_false,VR]using hv
  |true=>
   have hi:i=id:=by simpa using hi
   subst hi
   simp only[cond_true,VR]at hv⊢
   obtain⟨b',hb,rfl⟩:=hv
   rw[hst.rho]at hb;cases hb
   refine⟨_,rfl,hst.out,(Array.getElem?_eq_some_iff.1 hst.heap).1,?_⟩
   by_cases hl:o<=cs.length
   ·refine PCs_of hst.heap hst.ones _ o 0 (by rw[List.length_drop];have:=hst.len;omega) ?_
    have:=VRs_drop o hst.vr
    rw[List.drop_take]at this
    rw[List.length_drop,Nat.add_zero]
    exact this
   ·rw[List.drop_eq_nil_of_le (by omega)];simp only[PCs]
 |.ocl i s o l c,v,hv=>by simpa only[VR,fz]using hv
 |.osl i s o l,v,hv=>by
  simp only[fz]
  cases hi:i==id&&Nat.ble (o+l*s) cs.length with
  |false=>simpa only[cond_false,VR]using hv
  |true=>
   simp only[Bool.and_eq_true,beq_iff_eq,Nat.ble_eq]at hi
   obtain⟨rfl,hl⟩:=hi
   simp only[cond_true,VR,chk_len]at hv⊢
   obtain⟨b',k,o',cs',e',f',hb,rfl,h1,h2,h3,h4⟩:=hv
   rw[hst.rho]at hb;cases hb
   refine⟨_,k,rfl,h1,fun hne=>?_⟩
   have hl0:0<l:=by
    cases l
    ·exact absurd rfl hne
    ·omega
   have ho:o'=o:=h2 (by omega)
   subst ho
   refine⟨_,rfl,hst.out,(Array.getElem?_eq_some_iff.1 hst.heap).1,?_⟩
   have hlen:=hst.len
   refine PEs_of hst.heap hst.ones l _ o' 0 (by rw[List.length_drop];omega) (by rw[List.length_drop,Nat.zero_mul];omega) ?_
   have:=VRs_drop o' hst.vr
   rw[List.drop_take]at this
   rw[List.length_drop,Nat.zero_mul,Nat.add_zero]
   exact this
theorem fzs_vr (hst:Stand ρ w O' id cs b c e f) (hO:∀b,O' b->O b):∀(az:List AV) (vs:List Value),VRs ρ w O az vs->VRs ρ w O' (fzs id cs az) vs
 |[],[],_=>by simp only[VRs,fzs]
 |a::az,v::vs,hv=>by
  simp only[VRs,fzs]at hv⊢
  exact⟨fz_vr hst hO a v hv.1,fzs_vr hst hO az vs hv.2⟩
 |[],_::_,hv=>by simp only[VRs]at hv
 |_::_,[],hv=>by simp only[VRs]at hv
theorem fzPC_vr (hst:Stand ρ w O' id cs b c e f) (hO:∀b,O' b->O b):∀(az:List AV) (a:Addr) (j:Nat),PCs ρ w O az a j->PCs ρ w O' (fzs id cs az) a j
 |[],_,_,_=>by simp only[PCs,fzs]
 |x::az,a,j,hv=>by
  simp only[PCs,fzs]at hv⊢
  obtain⟨⟨v,h1,h0,h2⟩,h3⟩:=hv
  exact⟨⟨v,h1,h0,fz_vr hst hO x v h2⟩,fzPC_vr hst hO az a (j+1) h3⟩
theorem fzPE_vr (hst:Stand ρ w O' id cs b c e f) (hO:∀b,O' b->O b):∀(s:Nat) (es:List (List AV)) (a:Addr) (i:Nat),PEs ρ w O s es a i->PEs ρ w O' s (fzss id cs es) a i
 |_,[],_,_,_=>by simp only[PEs,fzss]
 |s,x::es,a,i,hv=>by
  simp only[PEs,fzss,fzs_len]at hv⊢
  exact⟨hv.1,fzPC_vr hst hO x a _ hv.2.1,fzPE_vr hst hO s es a _ hv.2.2⟩
end
end
theorem hdel_mem_sub {H:Hp} {id:Nat} {b:Nat} {ρ:Rho} (h:Own ρ (hdel H id) b):Own ρ H b:=Own.sub (hdel_sub H id) h
theorem HR.stand {X:Nat->Prop} {ρ:Rho} {w:World} {H:Hp} (h:HR X ρ w H) {id:Nat} {cs:List AV} (hg:hgt H id=some cs):∃b c e f,Stand ρ w (OX X ρ (hdel H id)) id cs b c e f:=by
 obtain⟨b,c,e,f,k1,k2,k3,k4,k5,k6⟩:=h.obj id cs (hgt_mem hg)
 refine⟨b,c,e,f,k1,k2,k4,k5,VRs_carry (Carry.less fun x hx=>hx.imp (fun h=>h) hdel_mem_sub) _ _ k6,?_⟩
 rintro(hx|⟨j,hj,hjb⟩)
 ·exact h.notX id b (hgt_ids hg) k1 hx
 ·have hj':j∈ids H:=by
   obtain⟨⟨j',o⟩,hm,rfl⟩:=List.mem_map.1 hj
   exact List.mem_map.2 ⟨_,(hdel_sub H id).subset hm,rfl⟩
  have:=h.inj j id b hj' (hgt_ids hg) hjb k1
  subst this
  exact hdel_not h.nodup hj
theorem HR.fz {X:Nat->Prop} {ρ:Rho} {w:World} {H:Hp} (h:HR X ρ w H) {id:Nat} {cs:List AV} (hg:hgt H id=some cs):HR X ρ w (fzH id cs (hdel H id)):=by
 obtain⟨b,c,e,f,hst⟩:=h.stand hg
 have hd:=h.sub (hdel_sub H id)
 have hOX:OX X ρ (fzH id cs (hdel H id))=OX X ρ (hdel H id):=by funext x;simp only[OX,Own,ids_fzH]
 refine⟨by rw[ids_fzH];exact hd.nodup,fun i j b h1 h2=>hd.inj i j b (by rwa[ids_fzH]at h1) (by rwa[ids_fzH]at h2),fun i b h1=>hd.notX i b (by rwa[ids_fzH]at h1),hd.xold,fun i ds hm=>?_⟩
 obtain⟨es,hm',rfl⟩:=mem_fzH hm
 obtain⟨b',c',e',f',k1,k2,k3,k4,k5,k6⟩:=h.obj i es ((hdel_sub H id).subset hm')
 refine⟨b',c',e',f',k1,k2,k3,k4,by rw[fzs_len];exact k5,?_⟩
 rw[fzs_len,hOX]
 exact fzs_vr hst (fun x hx=>hx.imp (fun h=>h) hdel_mem_sub) _ _ k6
theorem OX_fzH {X:Nat->Prop} {ρ:Rho} {H:Hp} {id:Nat} {cs:List AV}:OX X ρ (fzH id cs H)=OX X ρ H:=by funext x;simp only[OX,Own,ids_fzH]
theorem Nx.fz {ρ ρ':Rho} {H H':Hp} {w w':World} {n n' id:Nat} {cs:List AV} (h:Nx ρ (fzH id cs (hdel H id)) w n ρ' H' w' n'):Nx ρ H w n ρ' H' w' n':=by
 have ho:∀b,Own ρ (fzH id cs (hdel H id)) b->Own ρ H b:=fun b hb=>by
  simp only[Own,ids_fzH]at hb
  exact hdel_mem_sub hb
 exact⟨h.rho,h.le,h.ext.mono fun b _=>ho b,fun b hb=>(h.own b hb).imp (ho b) (fun h=>h)⟩
theorem TCall_fz {G:Prg} {f:Nat} {args:List AV} {H:Hp} {n:Nat} {Q:CPost} (id:Nat) {cs:List AV} (hg:hgt H id=some cs) (h:TCall G f (fzs id cs args) (fzH id cs (hdel H id)) n Q):TCall G f args H n Q:=by
 intro X ρ w vs hf hr hv
 obtain⟨b,k,e,g,hst⟩:=hr.stand hg
 refine(h X ρ w vs hf (hr.fz hg) (by rw[OX_fzH];exact fzs_vr hst (fun x hx=>hx.imp (fun h=>h) hdel_mem_sub) _ _ hv)).mono ?_
 rintro e w' ⟨v,r,ρ',H',n',h1,h2,h3,h4,h5,h6⟩
 exact⟨v,r,ρ',H',n',h1,h2,h3,h4,h5.fz,h6⟩
def View (H:Hp) (az bs:List AV):Prop:=∀X ρ w vs,HR X ρ w H->VRs ρ w (OX X ρ H) az vs->∃X',(∀b,X' b->OX X ρ H b)/\VRs ρ w X' bs vs
theorem View.refl (H:Hp) (az:List AV):View H az az:=fun X ρ w vs _ hv=>⟨_,fun _ h=>h,hv⟩
theorem View.fz {H:Hp} {az bs:List AV} (id:Nat) {cs:List AV} (hg:hgt H id=some cs) (h:View (fzH id cs (hdel H id)) (fzs id cs az) bs):View H az bs:=by
 intro X ρ w vs hr hv
 obtain⟨b,k,e,g,hst⟩:=hr.stand hg
 obtain⟨X',h1,h2⟩:=h X ρ w vs (hr.fz hg) (by rw[OX_fzH];exact fzs_vr hst (fun x hx=>hx.imp (fun h=>h) hdel_mem_sub) _ _ hv)
 rw[OX_fzH]at h1
 exact⟨X',fun b hb=>(h1 b hb).imp (fun h=>h) hdel_mem_sub,h2⟩
mutual
def flat:AV->Bool
 |.int .. |.bool _|.str _|.raw _|.nils|.nilp|.dead=>true
 |.agg cs|.tup cs|.fn _ cs=>flats cs
 |_=>false
def flats:List AV->Bool
 |[]=>true
 |a::az=>flat a&&flats az
end
mutual
theorem flat_vr {ρ ρ':Rho} {w w':World} {O O':Nat->Prop}:∀(a:AV) (v:Value),flat a=true->VR ρ w O a v->VR ρ' w' O' a v
 |.int _ _,_,_,hv=>by simpa only[VR]using hv
 |.bool _,_,_,hv=>by simpa only[VR]using hv
 |.str _,_,_,hv=>by simpa only[VR]using hv
 |.raw _,_,_,hv=>by simpa only[VR]using hv
 |.nils,_,_,hv=>by simpa only[VR]using hv
 |.nilp,_,_,hv=>by simpa only[VR]using hv
 |.dead,_,_,_=>by simp only[VR]
 |.tp ..,_,hp,_=>by simp[flat]at hp
 |.tsl ..,_,hp,_=>by simp[flat]at hp
 |.agg cs,_,hp,hv=>by
  simp only[VR,flat]at hv hp⊢
  obtain⟨vs,e,h0,h1⟩:=hv
  exact⟨vs,e,h0,flats_vr cs _ hp h1⟩
 |.tup cs,_,hp,hv=>by
  simp only[VR,flat]at hv hp⊢
  obtain⟨vs,e,h1⟩:=hv
  exact⟨vs,e,flats_vr cs _ hp h1⟩
 |.fn f cs,_,hp,hv=>by
  simp only[VR,flat]at hv hp⊢
  obtain⟨vs,e,h1⟩:=hv
  exact⟨vs,e,flats_vr cs _ hp h1⟩
 |.sl ..,_,hp,_=>by simp[flat]at hp
 |.pat ..,_,hp,_=>by simp[flat]at hp
 |.osl ..,_,hp,_=>by simp[flat]at hp
 |.ocl ..,_,hp,_=>by simp[flat]at hp
 |.ptr ..,_,hp,_=>by simp[flat]at hp
theorem flats_vr {ρ ρ':Rho} {w w':World} {O O':Nat->Prop}:∀(az:List AV) (vs:List Value),flats az=true->VRs ρ w O az vs->VRs ρ' w' O' az vs
 |[],[],_,_=>by simp only[VRs]
 |a::az,v::vs,hp,hv=>by
  simp only[VRs,flats,Bool.and_eq_true]at hv hp⊢
  exact⟨flat_vr a v hp.1 hv.1,flats_vr az vs hp.2 hv.2⟩
 |[],_::_,_,hv=>by simp only[VRs]at hv
 |_::_,[],_,hv=>by simp only[VRs]at hv
end
theorem PC.useB {G:Prg} {f:Nat} {args args':List AV} {R:AV->Prop} {H:Hp} {n:Nat} {Q:CPost} (hv:View H args args') (h:PC G f args' R) (hq:∀r,R r->flat r=true/\Q r H n):TCall G f args H n Q:=by
 intro X ρ w vs hf hr hvs
 obtain⟨X',h1,h2⟩:=hv X ρ w vs.toList hr hvs
 refine(h ρ n X' w vs hf (fun b hb=>hr.ox_old (h1 b hb)) h2).mono ?_
 rintro e w' ⟨v,r,rfl,k1,k2,k3⟩
 have hcar:Carry ρ ρ w w' (OX X ρ H) (OX X ρ H):=⟨fun _ _ h=>h,k3.size,fun b hb _=>k3.keep b hb (fun h=>h),k3.shape,fun _ _ h=>h⟩
 refine⟨v,r,ρ,H,n,rfl,hf,hr.carry hcar (fun _ _=>rfl) (fun b hb=>k3.keep b (hr.own_old hb) fun h=>h),flat_vr r v (hq r k1).1 k2,⟨fun _ _ h=>h,Nat.le_refl _,k3.mono fun _ _ h=>h.elim,fun b hb=>.inl hb⟩,(hq r k1).2⟩
theorem PE.useB {G:Prg} {f:Nat} {args args':List AV} {r:AV} {H:Hp} {n:Nat} {Q:CPost} (hv:View H args args') (h:PE G f args' r) (hr:flat r=true) (hq:Q r H n):TCall G f args H n Q:=
 PC.useB hv h fun _ e=>e▸⟨hr,hq⟩
attribute [go_sem] fz fzs fzss fzF fzH Nat.ble
def inb (n lo hi:Int):Bool:=decide (lo<=n)&&decide (n<=hi)
def chOk (c:UInt8):Bool:=(decide (97<=c.toNat)&&decide (c.toNat<=122))||(decide (48<=c.toNat)&&decide (c.toNat<=57))
def nmOk (s:List UInt8):Bool:=s.all chOk&&inb s.length 1 5
def pthOk (p:List Str) (lo:Int):Bool:=p.all nmOk&&inb p.length lo 4
inductive Tr where
 |mk (dir:Bool) (mode:Int) (data:Str) (names:List Str) (kids:List Tr)
def Tr.none:Tr:=.mk false 0 [] [] []
instance:Inhabited Tr:=⟨.none⟩
def Tr.dir:Tr->Bool|.mk d _ _ _ _=>d
def Tr.mode:Tr->Int|.mk _ m _ _ _=>m
def Tr.data:Tr->Str|.mk _ _ s _ _=>s
def Tr.names:Tr->List Str|.mk _ _ _ n _=>n
def Tr.kids:Tr->List Tr|.mk _ _ _ _ k=>k
@[simp] theorem Tr.dir_mk (d:Bool) (m:Int) (s:Str) (n:List Str) (k:List Tr):(Tr.mk d m s n k).dir=d:=rfl
@[simp] theorem Tr.mode_mk (d:Bool) (m:Int) (s:Str) (n:List Str) (k:List Tr):(Tr.mk d m s n k).mode=m:=rfl
@[simp] theorem Tr.data_mk (d:Bool) (m:Int) (s:Str) (n:List Str) (k:List Tr):(Tr.mk d m s n k).data=s:=rfl
@[simp] theorem Tr.names_mk (d:Bool) (m:Int) (s:Str) (n:List Str) (k:List Tr):(Tr.mk d m s n k).names=n:=rfl
@[simp] theorem Tr.kids_mk (d:Bool) (m:Int) (s:Str) (n:List Str) (k:List Tr):(Tr.mk d m s n k).kids=k:=rfl
mutual
def trc:Tr->List AV|.mk d m s ns ks=>[.bool d,.int .i64 m,.str s,pth ns,.sl 5 (trcs ks)]
def trcs:List Tr->List (List AV)|[]=>[]|t::ts=>trc t::trcs ts
end
@[go_sem] theorem trcs_map:∀ks:List Tr,trcs ks=ks.map trc
 |[]=>by simp[trcs]
 |t::ts=>by simp[trcs,trcs_map ts]
theorem trc_eq (t:Tr):trc t=[.bool t.dir,.int .i64 t.mode,.str t.data,pth t.names,.sl 5 (t.kids.map trc)]:=by
 cases t;simp only[trc,trcs_map,Tr.dir,Tr.mode,Tr.data,Tr.names,Tr.kids]
theorem trc_mk (d:Bool) (m:Int) (s:Str) (ns:List Str) (ks:List Tr):trc (.mk d m s ns ks)=[.bool d,.int .i64 m,.str s,pth ns,.sl 5 (ks.map trc)]:=by simp only[trc,trcs_map]
@[go_sem] theorem trc_len (t:Tr):(trc t).length=5:=by rw[trc_eq];rfl
@[go_sem] theorem purs_pth (p:List Str):pur (pth p)=true:=by
 simp only[pth,pur]
 induction p with
 |nil=>rfl
 |cons a p ih=>simp only[List.map_cons,puress,purs,pur,ih];rfl
mutual
@[go_sem] theorem purs_trc:∀t:Tr,purs (trc t)=true
 |.mk d m s ns ks=>by simp only[trc,purs,pur,purs_pth,purs_trcs ks];rfl
theorem purs_trcs:∀ks:List Tr,puress (trcs ks)=true
 |[]=>by simp[trcs,puress]
 |t::ts=>by simp only[trcs,puress,purs_trc t,purs_trcs ts];rfl
end
@[go_sem] theorem puress_trc (ks:List Tr):puress (ks.map trc)=true:=by rw[<-trcs_map];exact purs_trcs ks
def wS:List Str->Nat
 |[]=>0
 |s::ss=>s.length+1+wS ss
mutual
def Tr.W:Tr->Nat|.mk _ _ s ns ks=>1+s.length+wS ns+Tr.Ws ks
def Tr.Ws:List Tr->Nat|[]=>0|t::ts=>t.W+Tr.Ws ts
end
theorem W_eq (t:Tr):t.W=1+t.data.length+wS t.names+Tr.Ws t.kids:=by cases t;simp only[Tr.W,Tr.data,Tr.names,Tr.kids]
theorem W_pos (t:Tr):0<t.W:=by rw[W_eq];omega
theorem wS_len:∀ns:List Str,ns.length<=wS ns
 |[]=>by simp[wS]
 |n::ns=>by have:=wS_len ns;simp[wS];omega
theorem wS_mem:∀{ns:List Str} {s:Str},s∈ns->s.length<wS ns
 |n::ns,s,h=>by
  simp only[wS]
  rcases List.mem_cons.1 h with rfl|h
  ·omega
  ·have:=wS_mem h;omega
theorem wS_get (ns:List Str) (k:Nat) (h:k<ns.length):(ns.getD k default).length<wS ns:=wS_mem (getD_mem ns k default h)
theorem Ws_len:∀ks:List Tr,ks.length<=Tr.Ws ks
 |[]=>by simp[Tr.Ws]
 |t::ts=>by have:=Ws_len ts;have:=W_pos t;simp[Tr.Ws];omega
theorem Ws_mem:∀{ks:List Tr} {t:Tr},t∈ks->t.W<=Tr.Ws ks
 |k::ks,t,h=>by
  simp only[Tr.Ws]
  rcases List.mem_cons.1 h with rfl|h
  ·omega
  ·have:=Ws_mem h;omega
theorem Ws_get (ks:List Tr) (k:Nat) (h:k<ks.length):(ks.getD k default).W<=Tr.Ws ks:=Ws_mem (getD_mem ks k default h)
def asc:List Str->Bool
 |a::b::r=>blt a b&&asc (b::r)
 |_=>true
theorem asc_snoc:∀(l:List Str) (x:Str),asc (l++[x])=(asc l&&(l.isEmpty||blt (l.getLastD []) x))
 |[],x=>rfl
 |[a],x=>by simp[asc]
 |a::b::r,x=>by
  have:=asc_snoc (b::r) x
  simp only[List.cons_append,asc]at this⊢
  rw[this,Bool.and_assoc]
  rfl
theorem asc_take (l:List Str) (k:Nat) (h:k<l.length):asc (l.take (k+1))=(asc (l.take k)&&(decide (k=0)||blt (l.getD (k-1) default) (l.getD k default))):=by
 rw[take_snoc l k default h,asc_snoc]
 congr 1
 cases k with
 |zero=>simp
 |succ k=>
  congr 1
  ·simp;intro e;subst e;simp at h
  ·congr 1
   rw[take_snoc l k default (by omega)]
   simp
def plainOk (t:Tr):Bool:=inb t.mode 0 7&&(decide (t.names.length=t.kids.length)&&(if t.dir then t.names.all nmOk&&(asc t.names&&t.data==[])else decide (t.data.length<=24)&&decide (t.names.length=0)))
mutual
def partsOk:Tr->Int->Bool|.mk a b c d ks,n=>plainOk (.mk a b c d ks)&&(decide (n<=4)&&partsOks ks (n+1))
def partsOks:List Tr->Int->Bool|[],_=>true|t::ts,n=>partsOk t n&&partsOks ts n
end
theorem partsOks_all (n:Int):∀ks:List Tr,partsOks ks n=ks.all (partsOk · n)
 |[]=>by simp[partsOks]
 |t::ts=>by simp[partsOks,partsOks_all n ts]
theorem partsOk_eq (t:Tr) (n:Int):partsOk t n=(plainOk t&&(decide (n<=4)&&t.kids.all (partsOk · (n+1)))):=by cases t;simp only[partsOk,partsOks_all,Tr.kids]
mutual
def cnt:Tr->Nat|.mk _ _ _ _ ks=>cnts ks
def cnts:List Tr->Nat|[]=>0|t::ts=>1+cnt t+cnts ts
end
theorem cnt_eq (t:Tr):cnt t=cnts t.kids:=by cases t;simp only[cnt,Tr.kids]
theorem cnts_snoc:∀(l:List Tr) (x:Tr),cnts (l++[x])=cnts l+1+cnt x
 |[],x=>by simp[cnts]
 |a::l,x=>by simp only[List.cons_append,cnts,cnts_snoc l x];omega
mutual
theorem cnt_W:∀t:Tr,cnt t<t.W
 |.mk _ _ _ _ ks=>by simp only[cnt,Tr.W];have:=cnts_W ks;omega
theorem cnts_W:∀ks:List Tr,cnts ks<=Tr.Ws ks
 |[]=>by simp[cnts,Tr.Ws]
 |t::ts=>by simp only[cnts,Tr.Ws];have:=cnt_W t;have:=cnts_W ts;omega
end
theorem cnts_take_le (l:List Tr) (k:Nat):cnts (l.take k)<=cnts l:=by
 induction l generalizing k with
 |nil=>simp
 |cons a l ih=>cases k with
  |zero=>simp[cnts]
  |succ k=>simp only[List.take_succ_cons,cnts];have:=ih k;omega
def treeOk (t:Tr):Bool:=t.dir&&(partsOk t 0&&decide (cnt t<=30))
def fnd (n:Str):List Str->Option Nat
 |[]=>none
 |m::ms=>if m==n then some 0 else(fnd n ms).map (·+1)
def fndI (n:Str) (ms:List Str):Int:=match fnd n ms with|some k=>k|none=> -1
theorem fnd_app (n:Str):∀l r:List Str,fnd n (l++r)=match fnd n l with|some k=>some k|none=>(fnd n r).map (·+l.length)
 |[],r=>by cases h:fnd n r<;>simp[fnd,h]
 |a::l,r=>by
  simp only[List.cons_append,fnd]
  split
  ·rfl
  ·rw[fnd_app n l r]
   cases h:fnd n l with
   |some k=>rfl
   |none=>
    simp only[Option.map_map,Option.map_none]
    congr 1
theorem fnd_step (n:Str) (l:List Str) (k:Nat) (h:k<l.length) (hn:fnd n (l.take k)=none) (hk:(l.getD k default==n)=false):fnd n (l.take (k+1))=none:=by
 rw[take_snoc l k default h,fnd_app,hn]
 simp only[fnd,hk];rfl
theorem fnd_found (n:Str) (l:List Str) (k:Nat) (h:k<l.length) (hn:fnd n (l.take k)=none) (hk:(l.getD k default==n)=true):fnd n l=some k:=by
 have e:l=l.take k++(l.getD k default::l.drop (k+1)):=by
  have:l.drop k=l.getD k default::l.drop (k+1):=by rw[List.drop_eq_getElem_cons h];simp[List.getD,h]
  rw[<-this,List.take_append_drop]
 rw[e,fnd_app,hn]
 simp only[fnd,hk,if_true,Option.map_some,Nat.zero_add,List.length_take]
 congr 1;omega
theorem fnd_full (n:Str) (l:List Str) (k:Nat) (h:¬k<l.length) (hn:fnd n (l.take k)=none):fnd n l=none:=by
 rwa[List.take_of_length_le (by omega)]at hn
theorem fnd_lt {n:Str}:∀{l:List Str} {k:Nat},fnd n l=some k->k<l.length
 |[],k,h=>by simp[fnd]at h
 |a::l,k,h=>by
  simp only[fnd]at h
  split at h
  ·cases h;simp
  ·cases hl:fnd n l with
   |none=>rw[hl]at h;cases h
   |some j=>rw[hl]at h;cases h;have:=fnd_lt hl;simp;omega
theorem all_getD {α:Type} (p:α->Bool) (l:List α) (k:Nat) (d:α) (h:k<l.length) (ha:l.all p=true):p (l.getD k d)=true:=by
 rw[List.all_eq_true]at ha;exact ha _ (getD_mem l k d h)
theorem cnts_take (l:List Tr) (k:Nat) (h:k<l.length):cnts (l.take (k+1))=cnts (l.take k)+1+cnt (l.getD k default):=by
 rw[take_snoc l k default h,cnts_snoc]
structure Cl where
 kind:Int
 path:List Str
 to:List Str
 at_:Int
 data:Str
def clc (c:Cl):List AV:=[.int .i64 c.kind,pth c.path,pth c.to,.int .i64 c.at_,.str c.data]
attribute [go_sem] clc
def callOk (c:Cl):Bool:=
 if c.kind=1\/c.kind=6 then pthOk c.path 1&&inb c.at_ 0 7
 else if c.kind=2\/c.kind=3 then pthOk c.path 1&&inb c.at_ 0 24
 else if c.kind=4 then pthOk c.path 1
 else if c.kind=5 then pthOk c.path 1&&pthOk c.to 1
 else false
def tat:Tr->List Str->Option Tr
 |t,[]=>some t
 |t,n::p=>match fnd n t.names with
  |some k=>tat (t.kids.getD k .none) p
  |none=>none
theorem pre_no {p q:List Str} (h:p.length<q.length):q.isPrefixOf p=false:=by
 cases hx:q.isPrefixOf p
 ·rfl
 ·have:=(List.isPrefixOf_iff_prefix.1 hx).length_le;omega
theorem pre_ne {p q:List Str} {k:Nat} (hk:k<q.length) (hne:(p.getD k default==q.getD k default)=false):q.isPrefixOf p=false:=by
 cases hx:q.isPrefixOf p
 ·rfl
 ·obtain⟨r,rfl⟩:=List.isPrefixOf_iff_prefix.1 hx
  rw[show(q++r).getD k default=q.getD k default by simp only[List.getD];rw[List.getElem?_append_left hk],beq_self_eq_true]at hne
  cases hne
theorem pre_yes {p q:List Str} {k:Nat} (hk:¬k<q.length) (hc:q.take k=p.take k):q.isPrefixOf p=true:=by
 rw[List.isPrefixOf_iff_prefix]
 rw[List.take_of_length_le (by omega)]at hc
 rw[hc];exact List.take_prefix k p
theorem asc_pre:∀(l:List Str) (j:Nat),asc l=true->asc (l.take j)=true
 |[],j,_=>by simp[asc]
 |[a],j,_=>by cases j<;>simp[asc]
 |a::b::r,0,_=>by simp[asc]
 |a::b::r,1,_=>by simp[asc]
 |a::b::r,j+2,h=>by
  simp only[asc,Bool.and_eq_true]at h
  have:=asc_pre (b::r) (j+1) h.2
  simp only[List.take_succ_cons,asc,Bool.and_eq_true]at this⊢
  exact⟨h.1,this⟩
theorem asc_no {l:List Str} {k:Nat} (h:k<l.length) (h0:0<k) (hb:blt (l.getD (k-1) default) (l.getD k default)=false):asc l=false:=by
 cases hx:asc l
 ·rfl
 ·have:=asc_pre l (k+1) hx
  rw[asc_take l k h,hb]at this
  simp at this;omega
theorem asc_full {l:List Str} {k:Nat} (h:¬k<l.length) (ha:asc (l.take k)=true):asc l=true:=by
 rwa[List.take_of_length_le (by omega)]at ha
mutual
def Tr.wf:Tr->Bool|.mk _ _ _ ns ks=>decide (ns.length=ks.length)&&Tr.wfs ks
def Tr.wfs:List Tr->Bool|[]=>true|t::ts=>t.wf&&Tr.wfs ts
end
theorem wfs_all:∀ks:List Tr,Tr.wfs ks=ks.all Tr.wf
 |[]=>by simp[Tr.wfs]
 |t::ts=>by simp[Tr.wfs,wfs_all ts]
theorem wf_eq (t:Tr):t.wf=(decide (t.names.length=t.kids.length)&&t.kids.all Tr.wf):=by cases t;simp only[Tr.wf,wfs_all,Tr.names,Tr.kids];rfl
theorem wf_len {t:Tr} (h:t.wf=true):t.names.length=t.kids.length:=by rw[wf_eq]at h;simp at h;exact h.1
theorem wf_kid {t:Tr} (h:t.wf=true) {k:Nat} (hk:k<t.kids.length) (d:Tr):(t.kids.getD k d).wf=true:=by
 rw[wf_eq,Bool.and_eq_true]at h;exact all_getD _ _ _ _ hk h.2
theorem fndI_lt {n:Str} {l:List Str} (h:¬fndI n l<0):∃k,fnd n l=some k/\fndI n l=k/\k<l.length:=by
 unfold fndI at h⊢
 cases hf:fnd n l with
 |none=>rw[hf]at h;exact absurd (by decide) h
 |some k=>exact⟨k,rfl,rfl,fnd_lt hf⟩
theorem fndI_no {n:Str} {l:List Str} (h:fndI n l<0):fnd n l=none:=by
 unfold fndI at h
 cases hf:fnd n l with
 |none=>rfl
 |some k=>rw[hf]at h;dsimp only at h;omega
def parC (t:Tr) (p:List Str):Int:=match tat t (p.take (p.length-1))with|none=>3|some q=>if q.dir then 0 else 4
mutual
def lea:AV->AV->Prop
 |.agg az,.agg bs=>leas az bs
 |.tup az,.tup bs=>leas az bs
 |.nils,.sl _ es=>es=[]
 |_,.dead=>True
 |a,b=>a=b
def leas:List AV->List AV->Prop
 |[],[]=>True
 |a::az,b::bs=>lea a b/\leas az bs
 |_,_=>False
end
section
variable {ρ:Rho} {w:World} {O:Nat->Prop}
mutual
theorem lea_vr:∀(a b:AV) (v:Value),lea a b->VR ρ w O a v->VR ρ w O b v:=by
 intro a b v h hv
 cases a<;>cases b<;>simp only[lea,reduceCtorEq]at h<;>(try (exact h.elim))<;>(try (first|(simp only[VR];done)|(cases h;exact hv)|(subst h;exact hv)))
 case agg.agg az bs=>
  simp only[VR]at hv⊢
  obtain⟨vs,e,h0,h1⟩:=hv
  exact⟨vs,e,h0,leas_vr az bs _ h h1⟩
 case tup.tup az bs=>
  simp only[VR]at hv⊢
  obtain⟨vs,e,h1⟩:=hv
  exact⟨vs,e,leas_vr az bs _ h h1⟩
 case nils.sl s es=>
  subst h
  simp only[VR]at hv⊢
  exact⟨none,0,hv,Nat.le_refl _,fun h=>absurd rfl h⟩
theorem leas_vr:∀(az bs:List AV) (vs:List Value),leas az bs->VRs ρ w O az vs->VRs ρ w O bs vs
 |[],[],vs,_,hv=>hv
 |a::az,b::bs,[],_,hv=>by simp only[VRs]at hv
 |a::az,b::bs,v::vs,h,hv=>by
  simp only[VRs,leas]at h hv⊢
  exact⟨lea_vr a b v h.1 hv.1,leas_vr az bs vs h.2 hv.2⟩
 |[],_::_,_,h,_=>by simp only[leas]at h
 |_::_,[],_,h,_=>by simp only[leas]at h
end
end
theorem TCall_le {G:Prg} {f:Nat} {args:List AV} {H:Hp} {n:Nat} {Q:CPost} (args':List AV) (hl:leas args args') (h:TCall G f args' H n Q):TCall G f args H n Q:=
 fun X ρ w vs hf hr hv=>h X ρ w vs hf hr (leas_vr _ _ _ hl hv)
mutual
theorem lea_refl:∀a:AV,lea a a
 |.agg az=>by simp only[lea];exact leas_refl az
 |.tup az=>by simp only[lea];exact leas_refl az
 |.int .. |.bool _|.str _|.raw _|.fn .. |.sl .. |.pat _|.osl .. |.ocl .. |.ptr .. |.nils|.nilp|.dead|.tp .. |.tsl .. =>by simp only[lea]
theorem leas_refl:∀az:List AV,leas az az
 |[]=>by simp only[leas]
 |a::az=>by simp only[leas];exact⟨lea_refl a,leas_refl az⟩
end
attribute [simp] lea_refl leas_refl
attribute [go_sem] List.take_length
theorem tat_cons (t:Tr) (n:Str) (p:List Str):tat t (n::p)=match fnd n t.names with|some k=>tat (t.kids.getD k .none) p|none=>none:=by simp only[tat];try rfl
theorem tat_zero (t:Tr) {p:List Str} (h:p.length=0):tat t p=some t:=by
 cases p with
 |nil=>simp[tat]
 |cons a p=>simp at h
theorem tat_step (t:Tr) {p:List Str} (h:¬p.length=0):tat t p=match fnd (p.getD 0 default) t.names with|some k=>tat (t.kids.getD k default) (p.drop 1)|none=>none:=by
 cases p with
 |nil=>simp at h
 |cons a p=>rw[tat_cons];rfl
@[go_sem] theorem tkl {α:Type} {l:List α} {k:Nat} (h:k<=l.length):(l.take k).length=k:=by rw[List.length_take];omega
mutual
theorem fz_pur (id:Nat) (cs:List AV):∀a:AV,pur a=true->fz id cs a=a
 |.osl _ _ _ _,h=>by simp[pur]at h
 |.ocl _ _ _ _ _,h=>by simp[pur]at h
 |.ptr _ _,h=>by simp[pur]at h
 |.agg az,h=>by simp only[pur]at h;simp only[fz,fzs_pur id cs az h]
 |.tup az,h=>by simp only[pur]at h;simp only[fz,fzs_pur id cs az h]
 |.fn f az,h=>by simp only[pur]at h;simp only[fz,fzs_pur id cs az h]
 |.pat az,h=>by simp only[pur]at h;simp only[fz,fzs_pur id cs az h]
 |.sl s es,h=>by simp only[pur]at h;simp only[fz,fzss_pur id cs es h]
 |.int _ _,_=>rfl
 |.bool _,_=>rfl
 |.str _,_=>rfl
 |.raw _,_=>rfl
 |.nils,_=>rfl
 |.nilp,_=>rfl
 |.dead,_=>rfl
 |.tp ..,h=>by simp[pur]at h
 |.tsl ..,h=>by simp[pur]at h
theorem fzs_pur (id:Nat) (cs:List AV):∀az:List AV,purs az=true->fzs id cs az=az
 |[],_=>rfl
 |a::az,h=>by simp only[purs,Bool.and_eq_true]at h;simp only[fzs,fz_pur id cs a h.1,fzs_pur id cs az h.2]
theorem fzss_pur (id:Nat) (cs:List AV):∀az:List (List AV),puress az=true->fzss id cs az=az
 |[],_=>rfl
 |a::az,h=>by simp only[puress,Bool.and_eq_true]at h;simp only[fzss,fzs_pur id cs a h.1,fzss_pur id cs az h.2]
end
theorem puress_str:∀p:List Str,puress (p.map fun s=>[AV.str s])=true
 |[]=>rfl
 |s::p=>by simp only[List.map_cons,puress,purs,pur,puress_str p,Bool.and_self,Bool.true_and]
attribute [go_sem] puress_str
attribute [go_sem] pur purs puress
def fl {α:Type} (f:α->List AV) (l:List α):List AV:=(l.map f).flatten
theorem fl_len {α:Type} {f:α->List AV} {s:Nat} (hf:∀x,(f x).length=s):∀l:List α,(fl f l).length=l.length*s
 |[]=>by simp[fl]
 |x::l=>by
  have:=fl_len hf l
  simp only[fl,List.map_cons,List.flatten_cons,List.length_append,List.length_cons,hf]at*
  rw[this,Nat.add_mul];omega
theorem fl_app {α:Type} (f:α->List AV) (l r:List α):fl f (l++r)=fl f l++fl f r:=by simp[fl]
theorem fl_one {α:Type} (f:α->List AV) (x:α):fl f [x]=f x:=by simp[fl]
theorem chk_fl {α:Type} {f:α->List AV} {s:Nat} (hf:∀x,(f x).length=s) (l:List α):chk s l.length (fl f l)=l.map f:=by
 have:=chk_flat (s:=s) (l.map f) (fun e he=>by obtain⟨x,_,rfl⟩:=List.mem_map.1 he;exact hf x)
 rwa[List.length_map]at this
theorem fl_full {α:Type} {f:α->List AV} {s:Nat} (hf:∀x,(f x).length=s) (l:List α) {k:Nat} (hk:k=l.length):(fl f l).take (k*s)=fl f l:=by
 rw[hk,List.take_of_length_le];rw[fl_len hf];exact Nat.le_refl _
@[go_sem] theorem flT0 (l:List Tr):(fl trc l).take (l.length*5)=fl trc l:=fl_full trc_len l rfl
@[go_sem] theorem flTa (l:List Tr) (x:Tr):fl trc l++trc x=fl trc (l++[x]):=by rw[fl_app,fl_one]
@[go_sem] theorem flTl (l:List Tr):(fl trc l).length=l.length*5:=fl_len trc_len l
def sc (s:Str):List AV:=[.str s]
theorem sc_len (s:Str):(sc s).length=1:=rfl
@[go_sem] theorem flS0 (l:List Str):(fl sc l).take l.length=fl sc l:=by have:=fl_full sc_len l rfl;rwa[Nat.mul_one]at this
@[go_sem] theorem flSa (l:List Str) (x:Str):fl sc l++[AV.str x]=fl sc (l++[x]):=by rw[fl_app,fl_one];rfl
@[go_sem] theorem flSl (l:List Str):(fl sc l).length=l.length:=by have:=fl_len sc_len l;rwa[Nat.mul_one]at this
@[go_sem] theorem chkT (l:List Tr):chk 5 l.length (fl trc l)=l.map trc:=chk_fl trc_len l
@[go_sem] theorem chkS (l:List Str):chk 1 l.length (fl sc l)=l.map fun s=>[AV.str s]:=chk_fl sc_len l
attribute [go_sem] List.length_append Nat.mul_one
def rR2 (r:Res) (K:AV->Prop):Prop:=match r with
 |.ok v _ _=>K v
 |.need p r=>p/\rR2 r K
 |_=>False
def isL:Op->Bool|.load .. =>true|.convert .. =>true|_=>false
def cvT (G:Prg):Op->Bool|.convert _ d _=>(match G.tf d with|some i=>(match i.k with|.slice _=>false|_=>true)|none=>true)|_=>true
def resS (r:Res) (H:Hp) (n:Nat):Prop:=match r with
 |.ok _ H' n'=>H'=H/\n'=n
 |.need _ r=>resS r H n
 |.bad=>True
 |.call .. =>False
def resT:Res->Res->Prop
 |.ok v _ _,.ok v' _ _=>v=v'
 |.need p r,.need p' r'=>p=p'/\resT r r'
 |.bad,.bad=>True
 |_,_=>False
theorem rR2_rR {H:Hp} {n:Nat} {K:AV->Prop}:∀{r:Res},resS r H n->rR2 r K->rR r H n K
 |.ok v H' n',hs,h=>⟨hs.1,hs.2,h⟩
 |.need p r,hs,h=>⟨h.1,rR2_rR hs h.2⟩
 |.bad,_,h=>h.elim
 |.call ..,hs,_=>hs.elim
theorem resT_rR2 {K:AV->Prop}:∀{r r':Res},resT r r'->rR2 r K->rR2 r' K
 |.ok v _ _,.ok v' _ _,e,h=>by simp only[resT]at e;subst e;exact h
 |.need p r,.need p' r',e,h=>by simp only[resT]at e;exact⟨e.1▸h.1,resT_rR2 e.2 h.2⟩
 |.bad,.bad,_,h=>h.elim
 |.call ..,_,_,h=>h.elim
 |.ok ..,.need ..,e,_=>e.elim
 |.ok ..,.bad,e,_=>e.elim
 |.ok ..,.call ..,e,_=>e.elim
 |.need ..,.ok ..,e,_=>e.elim
 |.need ..,.bad,e,_=>e.elim
 |.need ..,.call ..,e,_=>e.elim
 |.bad,.ok ..,e,_=>e.elim
 |.bad,.need ..,e,_=>e.elim
 |.bad,.call ..,e,_=>e.elim
section
variable {G:Prg} {F F':Fr} {H H':Hp} {n n':Nat} {op:Op}
theorem bo_S (o:BinOp) (k:TK) (x y:AV):resS (bo o k x y H n) H n:=by
 unfold bo;split<;>simp[resS]
theorem bo_T (o:BinOp) (k:TK) (x y:AV):resT (bo o k x y H n) (bo o k x y H' n'):=by
 unfold bo;split<;>simp[resT]
theorem eo_S (h:isR op=true) (hc:cvT G op=true):resS (eo G op F H n) H n:=by
 cases op<;>simp only[isR]at h<;>try (exact absurd h (by decide))
 all_goals simp only[eo]
 case binOp=>split<;>first|exact bo_S .. |trivial
 case convert s d x=>
  split
  ·rename_i i j hi hj
   unfold cvr
   split<;>try (simp[resS];done)
   ·rename_i e h1 h2 h3
    simp only[cvT,hj]at hc
    rw[h2]at hc;cases hc
   ·split<;>simp[resS]
   ·split<;>simp[resS]
  ·trivial
 case slice=>
  rename_i m
  cases m with
  |some m=>
   dsimp only
   repeat' split
   all_goals first|trivial|(unfold slc3;repeat' split;all_goals simp[resS])
  |none=>
   dsimp only
   repeat' split
   all_goals first|trivial|(unfold slrs slr sle;repeat' split;all_goals simp[resS])|(unfold slcl;split<;>first|(split<;>first|(unfold slc2;simp[resS];done)|(simp[resS];done))|(unfold slnil;split<;>simp[resS];done)|(unfold slrl;split<;>first|(unfold slr;split<;>first|(unfold sle;split<;>simp[resS];done)|(simp[resS];done))|(simp[resS];done)))
 case call c=>
  obtain⟨cal,args,ats⟩:=c
  dsimp only at h⊢
  split at h<;>try (exact absurd h (by decide))
  all_goals (dsimp only;unfold bir;split<;>first|(unfold minr;split<;>simp[resS];done)|(unfold maxr;split<;>simp[resS];done)|(split<;>first|(unfold lenr;repeat' split;all_goals simp[resS];done)|simp_all[resS];done)|simp_all[resS])
 all_goals (try unfold uo);(try unfold cvr);(try unfold fae);(try unfold ixa iae);(try unfold ixs);(try unfold extr);(try unfold nck);(try unfold ldr);(try unfold bldr);(try simp only[Bool.cond_eq_ite])
 all_goals (repeat' split)
 all_goals simp_all[resS]
theorem eo_T (h:isR op=true) (hl:isL op=false):resT (eo G op F H n) (eo G op F H' n'):=by
 cases op<;>simp only[isR,isL]at h hl<;>try (exact absurd h (by decide))
 all_goals simp only[eo]
 case binOp=>split<;>first|exact bo_T .. |trivial
 case slice=>
  rename_i m
  cases m with
  |some m=>
   dsimp only
   repeat' split
   all_goals first|trivial|(unfold slc3;repeat' split;all_goals simp[resT])
  |none=>
   dsimp only
   repeat' split
   all_goals first|trivial|(unfold slrs slr sle;repeat' split;all_goals simp[resT])|(unfold slcl;split<;>first|(split<;>first|(unfold slc2;simp[resT];done)|(simp[resT];done))|(unfold slnil;split<;>simp[resT];done)|(unfold slrl;split<;>first|(unfold slr;split<;>first|(unfold sle;split<;>simp[resT];done)|(simp[resT];done))|(simp[resT];done)))
 case call c=>
  obtain⟨cal,args,ats⟩:=c
  dsimp only at h⊢
  split at h<;>try (exact absurd h (by decide))
  all_goals (dsimp only;unfold bir;split<;>first|(unfold minr;split<;>simp[resT];done)|(unfold maxr;split<;>simp[resT];done)|(split<;>first|(unfold lenr;repeat' split;all_goals simp[resT];done)|simp_all[resT];done)|simp_all[resT])
 case load=>cases hl
 case convert=>cases hl
 all_goals (try unfold uo);(try unfold cvr);(try unfold fae);(try unfold ixa iae);(try unfold ixs);(try unfold extr);(try unfold nck);(try unfold bldr);(try simp only[Bool.cond_eq_ite])
 all_goals (repeat' split)
 all_goals simp_all[resT]
end
def st2 (G:Prg) (L:List Oper) (F:Fr) (H:Hp) (n:Nat) (o:Oper):Prop:=Spo (wnt L F o.guard) (rR2 (eo G o.op F H n) fun v=>match o.dst with|some d=>v=gt F d|none=>True) True
def Spo2 (b:Option Bool) (p q:Prop):Prop:=match b with|some true=>p|some false=>q|none=>False
theorem Spo2_Spo {b:Option Bool} {p q:Prop} (h:Spo2 b p q):Spo b p q:=by
 match b,h with
 |some true,h=>rw[Spo_some];exact⟨fun _=>h,fun hb=>(by cases hb)⟩
 |some false,h=>rw[Spo_some];exact⟨fun hb=>(by cases hb),fun _=>h⟩
 |none,h=>exact h.elim
def st3 (G:Prg) (L:List Oper) (F:Fr) (H:Hp) (n:Nat) (o:Oper):Prop:=Spo2 (wnt L F o.guard) (rR2 (eo G o.op F H n) fun v=>match o.dst with|some d=>v=gt F d|none=>True) True
def stq (G:Prg) (L:List Oper) (F:Fr) (H:Hp) (n:Nat):List Nat->Prop
 |[]=>True
 |j::js=>(match L[j]? with|some o=>st3 G L F H n o|none=>True)/\stq G L F H n js
def runQ (G:Prg) (L:List Oper):List (Nat×List Nat)->Fr->Hp->Nat->RK->Prop
 |[],F,H,n,K=>K F H n
 |(i,us)::is,F,H,n,K=>match L[i]? with
  |none=>False
  |some o=>Spo2 (wnt L F o.guard)
   (bif isR o.op then rR2 (eo G o.op F H n) (fun v=>runQ G L is (pt F o.dst v) H n K)
    else runR G (fun F' H' n'=>stq G L F' H' n' us/\runQ G L is F' H' n' K) o.dst F H n (eo G o.op F H n))
   (runQ G L is (pt F o.dst (.tup [])) H n K)
def okQ (L:List Oper) (B:List Nat):List (Nat×List Nat)->List Nat->Bool
 |[],_=>true
 |(i,us)::is,dn=>match L[i]? with
  |none=>false
  |some o=>bif isR o.op then okQ L B is (i::dn)else(dn.all fun j=>(B.getD i 0).testBit j||us.contains j||(match L[j]? with|some o=> !isL o.op|none=>true))&&okQ L B is dn
section
variable {G:Prg} {L:List Oper} {B:List Nat} {F F':Fr} {H H':Hp} {n n':Nat} {K:RK} {o:Oper}
theorem stq_at:∀{us:List Nat},stq G L F H n us->∀j o,j∈us->L[j]?=some o->st2 G L F H n o
 |[],_,j,o,hj,_=>by simp at hj
 |k::us,h,j,o,hj,ho=>by
  rcases List.mem_cons.1 hj with rfl|hj
  ·have:=h.1;rw[ho]at this;exact Spo2_Spo this
  ·exact stq_at h.2 j o hj ho
theorem st2_st1 (hr:isR o.op=true) (hcv:cvT G o.op=true) (h:st2 G L F H n o):st1 G L F H n o:=by
 unfold st2 at h
 unfold st1
 cases hw:wnt L F o.guard with
 |none=>rw[hw]at h;exact h.elim
 |some b=>
  rw[hw]at h
  rw[Spo_some]at*
  exact⟨fun hb=>rR2_rR (eo_S hr hcv) (h.1 hb),fun _=>trivial⟩
theorem stb_of:∀{us:List Nat},(∀j o,j∈us->L[j]?=some o->st1 G L F H n o)->stb G L F H n us
 |[],_=>trivial
 |j::us,h=>by
  refine⟨?_,stb_of fun k o hk=>h k o (List.mem_cons_of_mem _ hk)⟩
  cases ho:L[j]? with
  |none=>trivial
  |some o=>exact h j o (by simp) ho
theorem rR2_mono {C C':AV->Prop} (hk:∀v,C v->C' v):∀{r:Res},rR2 r C->rR2 r C'
 |.ok v _ _,h=>hk v h
 |.need p r,h=>⟨h.1,rR2_mono hk h.2⟩
 |.bad,h=>h.elim
 |.call ..,h=>h.elim
theorem rR2_ex {C:AV->Prop}:∀{r:Res},rR2 r C->∃v,C v/\rR2 r (·=v)
 |.ok v _ _,h=>⟨v,h,rfl⟩
 |.need p r,h=>by obtain⟨v,h1,h2⟩:=rR2_ex h.2;exact⟨v,h1,h.1,h2⟩
 |.bad,h=>h.elim
 |.call ..,h=>h.elim
theorem st2_congr (ht:∀t,t∈rds L o->gt F t=gt F' t) (hd:∀d,o.dst=some d->gt F d=gt F' d) (h:st2 G L F H n o):st2 G L F' H n o:=by
 unfold st2 at*
 rw[<-wnt_congr ht,<-eo_rds ht]
 cases hw:wnt L F o.guard with
 |none=>rw[hw]at h;exact h.elim
 |some b=>
  rw[hw]at h
  rw[Spo_some]at*
  refine⟨fun hb=>rR2_mono (fun v hv=>?_) (h.1 hb),fun _=>trivial⟩
  cases hx:o.dst with
  |none=>trivial
  |some d=>rw[hx]at hv;dsimp only at hv⊢;rw[<-hd d hx];exact hv
theorem st2_any (hr:isR o.op=true) (hl:isL o.op=false) (h:st2 G L F H n o):st2 G L F H' n' o:=by
 unfold st2 at*
 cases hw:wnt L F o.guard with
 |none=>rw[hw]at h;exact h.elim
 |some b=>
  rw[hw]at h
  rw[Spo_some]at*
  exact⟨fun hb=>resT_rR2 (eo_T hr hl) (h.1 hb),fun _=>trivial⟩
theorem runQ_runC (hcv:∀(j:Nat) (o:Oper),L[j]?=some o->cvT G o.op=true) (hR:okRd L B=true) (hD:okDs L=true):∀{pl:List (Nat×List Nat)} {dn seen bl:List Nat} {F:Fr} {H:Hp} {n:Nat},okO L B (pl.map (·.1)) seen bl=true->okQ L B pl dn=true->
  (∀j,j∈dn->j∈seen/\∃o,L[j]?=some o/\isR o.op=true/\(isL o.op=false->∀H n,st2 G L F H n o))->(∀j,j∈seen->∀k,(B.getD j 0).testBit k=true->k<L.length->k∈seen)->
  runQ G L pl F H n K->runC G L B (pl.map (·.1)) dn F H n K
 |[],_,_,_,_,_,_,_,_,_,_,h=>h
 |(i,us)::is,dn,seen,bl,F,H,n,hO,hU,hdn,hpre,h=>by
  simp only[List.map_cons]at hO
  obtain⟨o,ho,h1,h2,h3,h5,h4⟩:=okO_cons hO
  have hlen:=(List.getElem?_eq_some_iff.1 ho).1
  simp only[runQ,okQ,ho]at h hU
  have h:=Spo2_Spo h
  simp only[runC,List.map_cons,ho]
  have hpre':∀j,j∈i::seen->∀k,(B.getD j 0).testBit k=true->k<L.length->k∈i::seen:=by
   intro j hj k hk hl
   rcases List.mem_cons.1 hj with rfl|hj
   ·exact List.mem_cons_of_mem _ (h1 k hl hk)
   ·exact List.mem_cons_of_mem _ (hpre j hj k hk hl)
  have hold:∀(v:AV) (j:Nat),j∈dn->j∈i::seen/\∃oj,L[j]?=some oj/\isR oj.op=true/\(isL oj.op=false->∀H n,st2 G L (pt F o.dst v) H n oj):=by
   intro v j hj
   obtain⟨k1,oj,k2,k3,k4⟩:=hdn j hj
   refine⟨List.mem_cons_of_mem _ k1,oj,k2,k3,fun hl H n=>st2_congr (fun t ht=>(pt_gt fun d hd e=>?_).symm) (fun d hd=>(pt_gt fun d' hd' e=>?_).symm) (k4 hl H n)⟩
   ·subst e
    exact h2 (hpre j k1 i (okRd_at hR k2 ho ht hd) hlen)
   ·subst e
    have:=okDs_at hD k2 ho hd hd'
    subst this
    exact h2 k1
  have hnr:∀t,t∈rds L o->∀d,o.dst=some d->d≠t:=fun t ht d hd e=>by
   subst e
   exact h2 (h1 i hlen (okRd_at hR ho ho ht hd))
  have hself:∀(v:AV),isR o.op=true->(Spo (wnt L F o.guard) (rR2 (eo G o.op F H n) (·=v)) True)->(wnt L F o.guard=some true\/wnt L F o.guard=some false)->
    ∀j,j∈i::dn->j∈i::seen/\∃oj,L[j]?=some oj/\isR oj.op=true/\(isL oj.op=false->∀H n,st2 G L (pt F o.dst v) H n oj):=by
   intro v hr hs hw j hj
   rcases List.mem_cons.1 hj with rfl|hj
   ·refine⟨by simp,o,ho,hr,fun hl H' n'=>st2_any hr hl (H:=H) (n:=n) ?_⟩
    unfold st2
    rw[wnt_congr (F':=F) (fun t ht=>pt_gt (hnr t ht)),eo_rds (F':=F) (fun t ht=>pt_gt (hnr t ht))]
    rcases hw with hw|hw<;>rw[hw]at hs⊢<;>rw[Spo_some]at*
    ·refine⟨fun hb=>rR2_mono (fun u hu=>?_) (hs.1 hb),fun _=>trivial⟩
     subst hu
     cases hd:o.dst with
     |none=>trivial
     |some d=>exact pt_at.symm
    ·exact⟨fun hb=>(by cases hb),fun _=>trivial⟩
   ·exact hold v j hj
  cases hw:wnt L F o.guard with
  |none=>rw[hw]at h;exact h.elim
  |some b=>
   rw[hw]at h
   rw[Spo_some]at h⊢
   cases hr:isR o.op with
   |true=>
    rw[hr]at h hU
    simp only[cond_true]at h hU⊢
    have hnb:nbl o i bl=bl:=by simp[nbl,hr]
    refine⟨fun hb=>?_,fun hb=>?_⟩
    ·subst hb
     obtain⟨v,k1,k2⟩:=rR2_ex (h.1 rfl)
     refine rR_mono (fun u hu=>?_) (rR2_rR (eo_S hr (hcv i o ho)) k2)
     subst hu
     exact runQ_runC hcv hR hD h4 hU (hself u hr (by rw[hw,Spo_some];exact⟨fun _=>k2,fun _=>trivial⟩) (.inl hw)) hpre' k1
    ·subst hb
     exact runQ_runC hcv hR hD h4 hU (hself _ hr (by rw[hw,Spo_some];exact⟨fun hb=>(by cases hb),fun _=>trivial⟩) (.inr hw)) hpre' (h.2 rfl)
   |false=>
    rw[hr]at h hU
    simp only[cond_false,Bool.and_eq_true,List.all_eq_true]at h hU⊢
    refine⟨fun hb=>?_,fun hb=>runQ_runC hcv hR hD h4 hU.2 (hold _) hpre' (h.2 hb)⟩
    refine runR_mono (fun F' H' n' k=>?_) (runR_re (F0:=F) (h.1 hb))
    obtain⟨v,rfl,k1,k2⟩:=k
    refine⟨stb_of fun j oj hj hoj=>?_,runQ_runC hcv hR hD h4 hU.2 (hold v) hpre' k2⟩
    obtain⟨j1,j2⟩:=List.mem_filter.1 hj
    obtain⟨_,oj',q2,q3,q4⟩:=hold v j j1
    rw[hoj]at q2;cases q2
    refine st2_st1 q3 (hcv j oj hoj) ?_
    cases hl:isL oj.op with
    |false=>exact q4 hl _ _
    |true=>
     have:=hU.1 j j1
     rw[hoj]at this
     simp only[hl,Bool.not_true,Bool.or_false,Bool.or_eq_true]at this
     rcases this with x|x
     ·rw[x]at j2;cases j2
     ·exact stq_at k1 j oj (by simpa using x) hoj
end
def okCv (G:Prg) (L:List Oper):Bool:=L.all fun o=>cvT G o.op
theorem okCv_at {G:Prg} {L:List Oper} (h:okCv G L=true):∀(j:Nat) (o:Oper),L[j]?=some o->cvT G o.op=true:=fun j o ho=>by
 unfold okCv at h;rw[List.all_eq_true]at h;exact h o (List.mem_of_getElem? ho)
def okPq (G:Prg) (L:List Oper) (B:List Nat) (pl:List (Nat×List Nat)):Bool:=okMk G L&&(okCv G L&&(okD L B (pl.map (·.1))&&okQ L B pl []))
def runE (G:Prg) (L:List Oper):List Oper->Fr->Hp->Nat->RK->Prop
 |[],F,H,n,K=>K F H n
 |o::os,F,H,n,K=>Spo2 (wnt L F o.guard) (runR G (fun F H n=>runE G L os F H n K) o.dst F H n (eo G o.op F H n)) (runE G L os (pt F o.dst (.tup [])) H n K)
theorem runE_run {G:Prg} {L:List Oper} {K:RK}:∀{os:List Oper} {F:Fr} {H:Hp} {n:Nat},runE G L os F H n K->run G L os F H n K
 |[],_,_,_,h=>h
 |o::os,F,H,n,h=>by
  simp only[runE]at h
  simp only[run]
  have h:=Spo2_Spo h
  cases hw:wnt L F o.guard with
  |none=>rw[hw]at h;exact h.elim
  |some b=>
   rw[hw]at h
   rw[Spo_some]at*
   exact⟨fun hb=>runR_mono (fun F H n k=>runE_run k) (h.1 hb),fun hb=>runE_run (h.2 hb)⟩
theorem Spo2_mono {b:Option Bool} {p q p' q':Prop} (h:Spo2 b p q) (hp:p->p') (hq:q->q'):Spo2 b p' q':=by
 match b,h with
 |some true,h=>exact hp h
 |some false,h=>exact hq h
 |none,h=>exact h.elim
theorem runE_app {G:Prg} {L:List Oper} {K:RK} {bs:List Oper}:∀{os:List Oper} {F:Fr} {H:Hp} {n:Nat},runE G L os F H n (fun F H n=>runE G L bs F H n K)->runE G L (os++bs) F H n K
 |[],_,_,_,h=>h
 |o::os,F,H,n,h=>by
  simp only[runE,List.cons_append]at h⊢
  exact Spo2_mono h (fun h=>runR_mono (fun F H n k=>runE_app k) h) (fun h=>runE_app h)
theorem runE_mono {G:Prg} {L:List Oper} {K K':RK} (hk:∀F H n,K F H n->K' F H n):∀{os:List Oper} {F:Fr} {H:Hp} {n:Nat},runE G L os F H n K->runE G L os F H n K'
 |[],_,_,_,h=>hk _ _ _ h
 |o::os,F,H,n,h=>by
  simp only[runE]at h⊢
  exact Spo2_mono h (fun h=>runR_mono (fun F H n k=>runE_mono hk k) h) (fun h=>runE_mono hk h)
theorem runQ_mono {G:Prg} {L:List Oper} {K K':RK} (hk:∀F H n,K F H n->K' F H n):∀{os:List (Nat×List Nat)} {F:Fr} {H:Hp} {n:Nat},runQ G L os F H n K->runQ G L os F H n K'
 |[],_,_,_,h=>hk _ _ _ h
 |(i,us)::os,F,H,n,h=>by
  simp only[runQ]at h⊢
  cases ho:L[i]? with
  |none=>rw[ho]at h;exact h.elim
  |some o=>
   rw[ho]at h
   dsimp only at h⊢
   refine Spo2_mono h (fun h=>?_) (fun h=>runQ_mono hk h)
   cases hr:isR o.op with
   |true=>rw[hr]at h;exact rR2_mono (fun v k=>runQ_mono hk k) h
   |false=>rw[hr]at h;exact runR_mono (fun F H n k=>⟨k.1,runQ_mono hk k.2⟩) h
theorem runQ_app {G:Prg} {L:List Oper} {K:RK} {bs:List (Nat×List Nat)}:∀{os:List (Nat×List Nat)} {F:Fr} {H:Hp} {n:Nat},runQ G L os F H n (fun F H n=>runQ G L bs F H n K)->runQ G L (os++bs) F H n K
 |[],_,_,_,h=>h
 |(i,us)::os,F,H,n,h=>by
  simp only[runQ,List.cons_append]at h⊢
  cases ho:L[i]? with
  |none=>rw[ho]at h;exact h.elim
  |some o=>
   rw[ho]at h
   dsimp only at h⊢
   refine Spo2_mono h (fun h=>?_) (fun h=>runQ_app h)
   cases hr:isR o.op with
   |true=>rw[hr]at h;exact rR2_mono (fun v k=>runQ_app k) h
   |false=>rw[hr]at h;exact runR_mono (fun F H n k=>⟨k.1,runQ_app k.2⟩) h
theorem sege {G:Prg} {L:List Oper} {k:Nat} {F:Fr} {H:Hp} {n:Nat} {K:RK} (j q:Nat) (hq:k+j=q) (h:∀K':RK,(∀F H n,runE G L (L.drop q) F H n K->K' F H n)->runE G L ((L.drop k).take j) F H n K'):runE G L (L.drop k) F H n K:=by
 subst hq
 have:=runE_app (h (fun F H n=>runE G L (L.drop (k+j)) F H n K) fun _ _ _ h=>h)
 rwa[<-List.drop_drop,List.take_append_drop]at this
theorem segq {G:Prg} {L:List Oper} {pl:List (Nat×List Nat)} {k:Nat} {F:Fr} {H:Hp} {n:Nat} {K:RK} (j q:Nat) (hq:k+j=q) (h:∀K':RK,(∀F H n,runQ G L (pl.drop q) F H n K->K' F H n)->runQ G L ((pl.drop k).take j) F H n K'):runQ G L (pl.drop k) F H n K:=by
 subst hq
 have:=runQ_app (h (fun F H n=>runQ G L (pl.drop (k+j)) F H n K) fun _ _ _ h=>h)
 rwa[<-List.drop_drop,List.take_append_drop]at this
theorem trq {G:Prg} {ops:Array Oper} {id:Nat} {F:Fr} {H:Hp} {n:Nat} {Q:Post} (B:List Nat) (pl:List (Nat×List Nat)) (hc:okPq G ops.toList B pl=true)
  (h:runQ G ops.toList pl F H n (NK Q)):T G.P (.region id ops true) F H n Q:=by
 simp only[okPq,Bool.and_eq_true]at hc
 have hd:=hc.2.2.1
 simp only[okD,Bool.and_eq_true]at hd
 exact trd B _ hc.2.2.1 hc.1 (runQ_runC (okCv_at hc.2.1) hd.2.2.1 hd.2.2.2.1 hd.2.1 hc.2.2.2 (by simp) (by simp) h)
def q1:Code->Code|.seq a _=>a|c=>c
def q2:Code->Code|.seq _ b=>b|c=>c
def bk:Code->Code|.block _ b=>b|c=>c
def lp:Code->Code|.loop b=>b|c=>c
def ct:Code->Code|.cond _ a _=>a|c=>c
def cf:Code->Code|.cond _ _ b=>b|c=>c
def ro:Code->Array Oper|.region _ o _=>o|_=>#[]
def bd (f:Func):Code:=match f.body with|some c=>c|none=>.skip
section
variable {G:Prg} {c b:Code} {id:Nat} {F F':Fr} {H:Hp} {n:Nat} {Q:Post} {K:RK} {L:List Oper} {pl:List (Nat×List Nat)} {d:Nat} {v v':AV} {k:Nat}
abbrev run0 (G:Prg) (L:List Oper) (k:Nat) (F:Fr) (H:Hp) (n:Nat) (K:RK):Prop:=runE G L (L.drop k) F H n K
abbrev runq (G:Prg) (L:List Oper) (pl:List (Nat×List Nat)) (k:Nat) (F:Fr) (H:Hp) (n:Nat) (K:RK):Prop:=runQ G L (pl.drop k) F H n K
theorem lk_mk {σ:Type} {Fi:σ->Fr} {Hi:σ->Hp} {I:σ->Nat->Prop} {m:σ->Nat} {x:σ} (y:σ) (h1:m y<m x) (h2:I y n) (h3:fsub (Fi y) F) (h4:(Hi y).Sublist H):LK Fi Hi I m x Q .normal F H n:=⟨y,h1,h2,h3,h4⟩
theorem run_v (e:v=v') (h:run0 G L k ((d,v')::F) H n K):run0 G L k ((d,v)::F) H n K:=e▸h
theorem runq_v (e:v=v') (h:runq G L pl k ((d,v')::F) H n K):runq G L pl k ((d,v)::F) H n K:=e▸h
theorem run_h {cs cs':List AV} {i:Nat} (e:cs=cs') (h:run0 G L k F ((i,cs')::H) n K):run0 G L k F ((i,cs)::H) n K:=e▸h
theorem runq_h {cs cs':List AV} {i:Nat} (e:cs=cs') (h:runq G L pl k F ((i,cs')::H) n K):runq G L pl k F ((i,cs)::H) n K:=e▸h
theorem run_b {t:Bool} (h1:t=true->run0 G L k ((d,.bool true)::F) H n K) (h2:t=false->run0 G L k ((d,.bool false)::F) H n K):run0 G L k ((d,.bool t)::F) H n K:=by
 cases t
 ·exact h2 rfl
 ·exact h1 rfl
theorem runq_b {t:Bool} (h1:t=true->runq G L pl k ((d,.bool true)::F) H n K) (h2:t=false->runq G L pl k ((d,.bool false)::F) H n K):runq G L pl k ((d,.bool t)::F) H n K:=by
 cases t
 ·exact h2 rfl
 ·exact h1 rfl
def KE (dst:Nat) (F:Fr) (K:RK):CPost:=fun r H' n'=>K ((dst,r)::F) H' n'
def KQ (G:Prg) (L:List Oper) (us:List Nat) (dst:Nat) (F:Fr) (K:RK):CPost:=fun r H' n'=>stq G L ((dst,r)::F) H' n' us/\K ((dst,r)::F) H' n'
end
abbrev tcs (t:Tr):List AV:=[.bool t.dir,.int .i64 t.mode,.str t.data,pth t.names,.sl 5 (t.kids.map trc)]
theorem mg_trc (l:List Tr) (k:Nat) (h:k<l.length):(l.map trc).getD k []=tcs (l.getD k default):=by rw[mgs trc l k h,trc_eq]
theorem mg_str (l:List Str) (k:Nat) (h:k<l.length):(l.map fun s=>[AV.str s]).getD k []=[AV.str (l.getD k default)]:=mgs (fun s=>[AV.str s]) l k h
theorem wn1 (k:Nat) (h:k<9223372036854775807):IntKind.i64.wrap (((k:Nat):Int)+1)=((k+1:Nat):Int):=by rw[wrap64 (by omega) (by omega)];omega
theorem wnn (a b:Nat) (h:a+b<=9223372036854775807):IntKind.i64.wrap (((a:Nat):Int)+((b:Nat):Int))=((a+b:Nat):Int):=by rw[wrap64 (by omega) (by omega)];omega
theorem ndiv (a b:Nat) (h:a<=9223372036854775807):IntKind.i64.wrap (((a:Nat):Int).tdiv ((b:Nat):Int))=((a/b:Nat):Int):=by
 rw[show((a:Nat):Int).tdiv ((b:Nat):Int)=((a/b:Nat):Int)from rfl]
 have:=Nat.div_le_self a b
 generalize a/b=q at*
 exact wrap64 (by omega) (by omega)
theorem nmod (a b:Nat):((a:Nat):Int).tmod ((b:Nat):Int)=((a%b:Nat):Int):=rfl
theorem push_trc (X:List Tr) (y:Tr):apd (fl trc X) (X.length*5) (tcs y)=fl trc (X++[y]):=by unfold apd;rw[flT0,show tcs y=trc y from(trc_eq y).symm,flTa]
theorem push_str (X:List Str) (y:Str):apd (fl sc X) (X.length*1) [AV.str y]=fl sc (X++[y]):=by unfold apd;rw[Nat.mul_one,flS0,flSa]
theorem push_len {α:Type} (i s:Nat) (X:List α) (y:α):AV.osl i s 0 (X.length+1)=AV.osl i s 0 (X++[y]).length:=by simp
theorem s1_trc (y:Tr):tcs y=fl trc [y]:=by rw[fl_one,trc_eq]
theorem s1_str (y:Str):[AV.str y]=fl sc [y]:=by rw[fl_one];rfl
theorem app0_str (X:List Str):apd [] (0*1) ((X.map fun s=>[AV.str s]).flatten)=fl sc X:=rfl
theorem slm_0 {α:Type} (f:α->List AV) (X:List α) (h:Nat):((X.map f).take h).drop 0=(X.take h).map f:=by rw[<-List.map_take];rfl
theorem slm_all {α:Type} (f:α->List AV) (X:List α) (l:Nat):((X.map f).take (X.map f).length).drop l=(X.drop l).map f:=by rw[List.take_length,List.map_drop]
theorem push_u8 (X:Str) (y:UInt8):apd (ints X) (X.length*1) [AV.int .u8 (y.toNat:Int)]=ints (X++[y]):=by
 unfold apd ints
 rw[Nat.mul_one,List.take_of_length_le (by simp),List.map_append];rfl
@[go_sem] theorem ints_len (X:Str):(ints X).length=X.length:=by simp[ints]
theorem unu_ints (X:Str):(((ints X).drop 0).take X.length).map unu=X:=by
 rw[List.drop_zero,List.take_of_length_le (by simp[ints])]
 simp only[ints,List.map_map]
 conv=>rhs;rw[<-List.map_id X]
 refine List.map_congr_left fun c _=>?_
 simp[unu]
theorem allu_map:∀X:Str,allu (ints X)
 |[]=>trivial
 |c::X=>allu_map X
theorem allu_ints (X:Str):allu (((ints X).drop 0).take X.length):=by
 rw[List.drop_zero,List.take_of_length_le (by simp[ints])];exact allu_map X
theorem set_ints (X:Str) (i:Nat) (y:UInt8) (h:i<X.length):(ints X).take (0+i*1)++[AV.int .u8 (y.toNat:Int)]++(ints X).drop (0+i*1+1)=ints (X.set i y):=by
 simp only[ints,Nat.zero_add,Nat.mul_one]
 rw[<-List.map_take,<-List.map_drop,List.set_eq_take_append_cons_drop,if_pos h]
 simp
theorem run_H {G:Prg} {L:List Oper} {k:Nat} {F:Fr} {H H':Hp} {n:Nat} {K:RK} (e:H=H') (h:run0 G L k F H' n K):run0 G L k F H n K:=e▸h
theorem runq_H {G:Prg} {L:List Oper} {pl:List (Nat×List Nat)} {k:Nat} {F:Fr} {H H':Hp} {n:Nat} {K:RK} (e:H=H') (h:runq G L pl k F H' n K):runq G L pl k F H n K:=e▸h
theorem fin_lea {r r0:AV} {H:Hp} {n:Nat} (h:lea r r0):Fin (fun r' _ _=>lea r' r0) r H n:=⟨[],List.nil_sublist _,h⟩
theorem sub_c {i:Nat} {a b:List AV} {l l':Hp} (e:a=b) (h:l.Sublist l'):List.Sublist ((i,a)::l) ((i,b)::l'):=by subst e;exact List.Sublist.cons_cons _ h
theorem one_take {α:Type} {l:List α} (d:α) (h:0<l.length):[l.getD 0 d]=l.take 1:=by
 cases l with
 |nil=>simp at h
 |cons a az=>simp
structure Ny (np:Nat) (ρ:Rho) (H:Hp) (w:World) (ρ':Rho) (H':Hp) (w':World):Prop where
 pin:∀i b,(i<np\/i%2=1)->ρ i=some b->ρ' i=some b
 ext:Ext (Own ρ H) w w'
 own:∀b,Own ρ' H' b->Own ρ H b\/w.heap.size<=b
theorem Nx.ny {np:Nat} {ρ ρ':Rho} {H H':Hp} {w w':World} {n n':Nat} (h:Nx ρ H w n ρ' H' w' n'):Ny np ρ H w ρ' H' w':=⟨fun i b _ hb=>h.rho i b hb,h.ext,h.own⟩
theorem Ny.trans {np:Nat} {ρ ρ1 ρ2:Rho} {H H1 H2:Hp} {w w1 w2:World} (h:Ny np ρ H w ρ1 H1 w1) (k:Ny np ρ1 H1 w1 ρ2 H2 w2):Ny np ρ H w ρ2 H2 w2:=
 ⟨fun i b hi hb=>k.pin i b hi (h.pin i b hi hb),h.ext.trans k.ext fun b hb ho=>(h.own b ho).resolve_right (by omega),
  fun b hb=>by
   rcases k.own b hb with h1|h1
   ·exact h.own b h1
   ·exact .inr (Nat.le_trans h.ext.size h1)⟩
def TT (np:Nat) (P:Program) (c:Code) (F:Fr) (H:Hp) (n:Nat) (Q:Post):Prop:=
 ∀X N ρ a w,S X N ρ n F H a w->codeOk N c=true->
  c.wp P (fun e a' w'=>∃ρ' F' H' n',S X N ρ' n' F' H' a' w'/\Ny np ρ H w ρ' H' w'/\Q e F' H' n') a w
section
variable {np:Nat} {P:Program} {a b c:Code} {F F':Fr} {H H':Hp} {n n' id:Nat} {Q Q':Post}
theorem T.tt (h:T P c F H n Q):TT np P c F H n Q:=by
 intro X N ρ a w hs hc
 refine wp_mono (h X N ρ a w hs hc) ?_
 rintro e a' w' ⟨ρ',F',H',n',h1,h2,h3⟩
 exact⟨ρ',F',H',n',h1,h2.ny,h3⟩
theorem TT_seq (h:TT np P a F H n (fun e F H n=>match e with|.normal=>TT np P b F H n Q|e=>Q e F H n)):TT np P (.seq a b) F H n Q:=by
 intro X N ρ ac w hs hc
 simp only[codeOk,Bool.and_eq_true]at hc
 refine wp_seq (wp_mono (h X N ρ ac w hs hc.1) ?_)
 rintro e a' w' ⟨ρ',F',H',n',hs',hn,hq⟩
 cases e with
 |normal=>
  refine wp_mono (hq X N ρ' a' w' hs' hc.2) ?_
  rintro e2 a2 w2 ⟨ρ2,F2,H2,n2,hs2,hn2,hq2⟩
  exact⟨ρ2,F2,H2,n2,hs2,hn.trans hn2,hq2⟩
 |_=>exact⟨ρ',F',H',n',hs',hn,hq⟩
theorem TT_block (h:TT np P c F H n (BK id Q)):TT np P (.block id c) F H n Q:=by
 intro X N ρ a w hs hc
 simp only[codeOk]at hc
 refine wp_block (wp_mono (h X N ρ a w hs hc) ?_)
 rintro e a' w' ⟨ρ',F',H',n',hs',hn,hq⟩
 cases e with
 |exit i=>
  simp only[BK,Exit.inBlock]at*
  by_cases hi:i=id
  ·subst hi;simp only[beq_self_eq_true,cond_true,if_true]at*;exact⟨ρ',F',H',n',hs',hn,hq⟩
  ·have:(i==id)=false:=by simpa using hi
   simp only[this,cond_false,hi,if_false]at*;exact⟨ρ',F',H',n',hs',hn,hq⟩
 |_=>exact⟨ρ',F',H',n',hs',hn,hq⟩
theorem TT_cond {x:Operand} {t:Bool} (hb:ev F x=.bool t) (hx:t=true->TT np P a F H n Q) (hy:t=false->TT np P b F H n Q):TT np P (.cond x a b) F H n Q:=by
 intro X N ρ ac w hs hc
 simp only[codeOk,Bool.and_eq_true]at hc
 have h:=ev_vr hs x
 rw[hb]at h
 simp only[VR]at h
 cases t with
 |true=>exact wp_cond h (hx rfl X N ρ ac w hs hc.1)
 |false=>exact wp_cond h (hy rfl X N ρ ac w hs hc.2)
theorem TT_mono (h:TT np P c F H n Q) (hq:∀e F H n',Q e F H n'->Q' e F H n'):TT np P c F H n Q':=by
 intro X N ρ a w hst hc
 refine wp_mono (h X N ρ a w hst hc) ?_
 rintro e a' w' ⟨ρ',F',H',n',hs',hn,h1⟩
 exact⟨ρ',F',H',n',hs',hn,hq _ _ _ _ h1⟩
theorem TT_conv (h:TT np P c F' H' n' Q) (hv:∀X N ρ a w,S X N ρ n F H a w->∃ρ',S X N ρ' n' F' H' a w/\(∀b,Own ρ' H' b->Own ρ H b)/\∀i b,(i<np\/i%2=1)->ρ i=some b->ρ' i=some b):TT np P c F H n Q:=by
 intro X N ρ a w hs hc
 obtain⟨ρ1,h1,h2,h3⟩:=hv X N ρ a w hs
 refine wp_mono (h X N ρ1 a w h1 hc) ?_
 rintro e a' w' ⟨ρ',F',H',n',hs',hn,hq⟩
 exact⟨ρ',F',H',n',hs',⟨fun i b hi hb=>hn.pin i b hi (h3 i b hi hb),hn.ext.mono fun b _=>h2 b,fun b hb=>(hn.own b hb).imp (h2 b) id⟩,hq⟩
theorem TT_weak (hf:fsub F' F) (hs:H'.Sublist H) (h:TT np P c F' H' n Q):TT np P c F H n Q:=
 TT_conv h fun X N ρ a w hst=>⟨ρ,hst.sub hs hf,fun b hb=>Own.sub hs hb,fun _ _ _ h=>h⟩
theorem TT_loop {σ:Type} (Fi:σ->Fr) (Hi:σ->Hp) (I:σ->Nat->Prop) (m:σ->Nat) (x0:σ)
  (h0:I x0 n) (hf:fsub (Fi x0) F) (hh:(Hi x0).Sublist H)
  (round:∀x n',I x n'->TT np P c (Fi x) (Hi x) n' (LK Fi Hi I m x Q)):TT np P (.loop c) F H n Q:=by
 intro X N ρ a w hst hc
 simp only[codeOk]at hc
 intro b it cs
 have key:∀k x ρ' n' a' w',m x=k->S X N ρ' n' (Fi x) (Hi x) a' w'->Ny np ρ H w ρ' (Hi x) w'->I x n'->
   ∃e a2 w2,(∃ρ' F' H' n',S X N ρ' n' F' H' a2 w2/\Ny np ρ H w ρ' H' w2/\Q e F' H' n')/\Arrives P (lone (b.at a' (.code c::.inLoop c::it)) cs w') b it cs e a2 w2:=by
  intro k
  induction k using Nat.strongRecOn with
  |_ k ih=>
   intro x ρ' n' a' w' hk hs' hn' hI
   obtain⟨e,a1,w1,⟨ρ1,F1,H1,n1,hs1,hn1,hq⟩,harr⟩:=round x n' hI X N ρ' a' w' hs' hc b (.inLoop c::it) cs
   cases e with
   |normal=>
    obtain⟨y,hm,hIy,hfy,hhy⟩:=hq
    have hs2:S X N ρ1 n1 (Fi y) (Hi y) a1 w1:=hs1.sub hhy hfy
    have hn2:Ny np ρ H w ρ1 (Hi y) w1:=
     let h:=hn'.trans hn1
     ⟨h.pin,h.ext,fun b hb=>h.own b (Own.sub hhy hb)⟩
    obtain⟨e2,a2,w2,hq2,harr2⟩:=ih (m y) (hk▸hm) y ρ1 n1 a1 w1 rfl hs2 hn2 hIy
    exact⟨e2,a2,w2,hq2,.of_steps (Steps.trans harr (.one step_inLoop)) harr2⟩
   |exit id=>exact⟨_,a1,w1,⟨ρ1,F1,H1,n1,hs1,hn'.trans hn1,hq⟩,.pass (x:=.inLoop c) rfl (fun _ _=>.inl (by simp)) harr⟩
   |goto l=>exact⟨_,a1,w1,⟨ρ1,F1,H1,n1,hs1,hn'.trans hn1,hq⟩,.pass (x:=.inLoop c) rfl (fun _ _=>.inl (by simp)) harr⟩
   |ret=>exact⟨_,a1,w1,⟨ρ1,F1,H1,n1,hs1,hn'.trans hn1,hq⟩,.pass (x:=.inLoop c) rfl (fun _ _=>.inl (by simp)) harr⟩
   |panic ch=>exact⟨_,a1,w1,⟨ρ1,F1,H1,n1,hs1,hn'.trans hn1,hq⟩,.pass (x:=.inLoop c) rfl (fun _ _=>.inl (by simp)) harr⟩
   |outgrown=>exact⟨_,a1,w1,⟨ρ1,F1,H1,n1,hs1,hn'.trans hn1,hq⟩,.pass (x:=.inLoop c) rfl (fun _ _=>.inl (by simp)) harr⟩
 obtain⟨e,a2,w2,hq,harr⟩:=key _ x0 ρ n a w rfl (hst.sub hh hf) ⟨fun _ _ _ h=>h,Ext.refl _ _,fun b hb=>.inl (Own.sub hh hb)⟩ h0
 exact⟨e,a2,w2,hq,.of_steps (.one step_loop) harr⟩
theorem TT_fz (id:Nat) {cs:List AV} (hg:hgt H id=some cs) (h:TT np P c (fzF id cs F) (fzH id cs (hdel H id)) n Q):TT np P c F H n Q:=
 TT_conv h fun X N ρ a w hs=>by
  obtain⟨b,k,e,f,hst⟩:=hs.hr.stand hg
  refine⟨ρ,⟨hs.fresh,hs.hr.fz hg,fun t=>?_,hs.df,hs.sz⟩,fun b hb=>?_,fun _ _ _ h=>h⟩
  ·rw[gt_fzF,OX_fzH]
   exact fz_vr hst (fun x hx=>hx.imp (fun h=>h) hdel_mem_sub) _ _ (hs.fr t)
  ·simp only[Own,ids_fzH]at hb
   exact hdel_mem_sub hb
end
def lkm:List (Nat×Nat)->Nat->Option Nat
 |[],_=>none
 |(i,j)::m,k=>bif Nat.beq i k then some j else lkm m k
mutual
def rn (m:List (Nat×Nat)):AV->AV
 |.osl i s o l=>match lkm m i with|some j=>.osl j s o l|none=>.dead
 |.ocl i s o l c=>match lkm m i with|some j=>.ocl j s o l c|none=>.dead
 |.ptr i o=>match lkm m i with|some j=>.ptr j o|none=>.dead
 |.agg az=>.agg (rns m az)
 |.tup az=>.tup (rns m az)
 |.fn f az=>.fn f (rns m az)
 |.pat az=>.pat (rns m az)
 |.sl s es=>.sl s es
 |.int k n=>.int k n
 |.bool b=>.bool b
 |.str s=>.str s
 |.raw v=>.raw v
 |.nils=>.nils
 |.nilp=>.nilp
 |.dead=>.dead
 |.tp i t k=>match lkm m i with|some j=>.tp j t k|none=>.dead
 |.tsl i t l=>match lkm m i with|some j=>.tsl j t l|none=>.dead
def rns (m:List (Nat×Nat)):List AV->List AV
 |[]=>[]
 |a::az=>rn m a::rns m az
end
mutual
def slp:AV->Prop
 |.sl _ es=>puress es=true
 |.agg az=>slps az
 |.tup az=>slps az
 |.fn _ az=>slps az
 |.pat az=>slps az
 |_=>True
def slps:List AV->Prop
 |[]=>True
 |a::az=>slp a/\slps az
end
def slF:Fr->Prop
 |[]=>True
 |(_,v)::F=>slp v/\slF F
def rnF (m:List (Nat×Nat)):Fr->Fr
 |[]=>[]
 |(k,v)::F=>(k,rn m v)::rnF m F
def swp (m:List (Nat×Nat)):List (Nat×Nat):=m.map fun p=>(p.2,p.1)
def opb:Option Nat->Nat->Bool|some a,b=>Nat.beq a b|none,_=>false
def okp (m:List (Nat×Nat)) (np:Nat):Bool:=(List.range np).all fun i=>Nat.beq (i%2) 1||opb (lkm (swp m) i) i
def okm (m:List (Nat×Nat)) (n:Nat):Bool:=Nat.beq (n%4) 0&&m.all fun p=>opb (lkm (swp m) p.2) p.1&&(Nat.blt p.2 n&&(Nat.beq (p.2%2) 0&&Nat.beq (p.1%4) (p.2%4)))
theorem lkm_mem:∀{m:List (Nat×Nat)} {i j:Nat},lkm m i=some j->(i,j)∈m
 |[],_,_,h=>by simp[lkm]at h
 |(a,b)::m,i,j,h=>by
  simp only[lkm]at h
  cases hb:Nat.beq a i with
  |true=>rw[hb]at h;simp only[cond_true,Option.some.injEq]at h;rw[<-Nat.eq_of_beq_eq_true hb,h];simp
  |false=>rw[hb]at h;simp only[cond_false]at h;exact List.mem_cons_of_mem _ (lkm_mem h)
section
variable {m:List (Nat×Nat)} {n n':Nat} {ρ ρ':Rho} {w:World} {O O':Nat->Prop}
theorem okm_at (h:okm m n=true) {i j:Nat} (hm:(i,j)∈m):lkm (swp m) j=some i/\j<n/\j%2=0/\i%4=j%4:=by
 unfold okm at h
 rw[Bool.and_eq_true,List.all_eq_true]at h
 have:=h.2 (i,j) hm
 simp only[Bool.and_eq_true]at this
 refine⟨?_,by simpa[Nat.blt_eq]using this.2.1,Nat.eq_of_beq_eq_true this.2.2.1,Nat.eq_of_beq_eq_true this.2.2.2⟩
 cases hl:lkm (swp m) j with
 |none=>rw[hl]at this;simp[opb]at this
 |some k=>rw[hl]at this;simp only[opb]at this;rw[Nat.eq_of_beq_eq_true this.1]
def rnr (m:List (Nat×Nat)) (ρ:Rho):Rho:=fun j=>if j%2=1 then ρ j else match lkm (swp m) j with|some i=>ρ i|none=>none
theorem rnr_at (h:okm m n=true) {i j:Nat} (hl:lkm m i=some j):rnr m ρ j=ρ i:=by
 unfold rnr;rw[if_neg (by have:=(okm_at h (lkm_mem hl)).2.2;omega),(okm_at h (lkm_mem hl)).1]
mutual
theorem rn_vr (h:okm m n=true) (hO:∀b,O' b->O b):∀(a:AV) (v:Value),slp a->VR ρ w O a v->VR (rnr m ρ) w O' (rn m a) v
 |.osl i s o l,v,_,hv=>by
  simp only[VR]at hv
  obtain⟨b,c,o',cs,e,f,h1,h2⟩:=hv
  simp only[rn]
  cases hl:lkm m i with
  |none=>simp only[VR]
  |some j=>simp only[VR];exact⟨b,c,o',cs,e,f,(rnr_at h hl).trans h1,h2⟩
 |.ocl i s o l c,v,_,hv=>by
  simp only[VR]at hv
  obtain⟨b,o',cs,e,f,h1,h2⟩:=hv
  simp only[rn]
  cases hl:lkm m i with
  |none=>simp only[VR]
  |some j=>simp only[VR];exact⟨b,o',cs,e,f,(rnr_at h hl).trans h1,h2⟩
 |.ptr i o,v,_,hv=>by
  simp only[VR]at hv
  obtain⟨b,h1,h2⟩:=hv
  simp only[rn]
  cases hl:lkm m i with
  |none=>simp only[VR]
  |some j=>simp only[VR];exact⟨b,(rnr_at h hl).trans h1,h2⟩
 |.tp i t k,v,_,hv=>by
  simp only[VR]at hv
  obtain⟨b,cs,f,h1,h2⟩:=hv
  simp only[rn]
  cases hl:lkm m i with
  |none=>simp only[VR]
  |some j=>simp only[VR];exact⟨b,cs,f,(rnr_at h hl).trans h1,h2⟩
 |.tsl i t l,v,_,hv=>by
  simp only[VR]at hv
  obtain⟨b,c,cs,f,h1,h2⟩:=hv
  simp only[rn]
  cases hl:lkm m i with
  |none=>simp only[VR]
  |some j=>simp only[VR];exact⟨b,c,cs,f,(rnr_at h hl).trans h1,h2⟩
 |.agg az,v,hs,hv=>by
  simp only[VR,rn,slp]at*
  obtain⟨vs,e,h0,h1⟩:=hv
  exact⟨vs,e,h0,rns_vr h hO az _ hs h1⟩
 |.tup az,v,hs,hv=>by
  simp only[VR,rn,slp]at*
  obtain⟨vs,e,h1⟩:=hv
  exact⟨vs,e,rns_vr h hO az _ hs h1⟩
 |.fn f az,v,hs,hv=>by
  simp only[VR,rn,slp]at*
  obtain⟨vs,e,h1⟩:=hv
  exact⟨vs,e,rns_vr h hO az _ hs h1⟩
 |.pat az,v,hs,hv=>by
  simp only[VR,rn,slp]at*
  obtain⟨a,e,h1,h2,h3⟩:=hv
  exact⟨a,e,fun x=>h1 (hO _ x),h2,rnPC_vr h hO az _ _ hs h3⟩
 |.sl s es,v,hs,hv=>by
  simp only[rn,slp]at*
  exact pur_vr (.sl s es) v (by simp only[pur];exact hs) (VR_carry ⟨fun _ _ h=>h,Nat.le_refl _,fun _ _ _=>rfl,fun b cs e f h=>⟨cs,f,h,rfl⟩,fun b _ ho=>hO b ho⟩ _ _ hv)
 |.int _ _,_,_,hv=>by simpa only[VR,rn]using hv
 |.bool _,_,_,hv=>by simpa only[VR,rn]using hv
 |.str _,_,_,hv=>by simpa only[VR,rn]using hv
 |.raw _,_,_,hv=>by simpa only[VR,rn]using hv
 |.nils,_,_,hv=>by simpa only[VR,rn]using hv
 |.nilp,_,_,hv=>by simpa only[VR,rn]using hv
 |.dead,_,_,_=>by simp only[VR,rn]
theorem rns_vr (h:okm m n=true) (hO:∀b,O' b->O b):∀(az:List AV) (vs:List Value),slps az->VRs ρ w O az vs->VRs (rnr m ρ) w O' (rns m az) vs
 |[],[],_,_=>by simp only[VRs,rns]
 |a::az,v::vs,hs,hv=>by
  simp only[VRs,rns,slps]at*
  exact⟨rn_vr h hO a v hs.1 hv.1,rns_vr h hO az vs hs.2 hv.2⟩
 |[],_::_,_,hv=>by simp only[VRs]at hv
 |_::_,[],_,hv=>by simp only[VRs]at hv
theorem rnPC_vr (h:okm m n=true) (hO:∀b,O' b->O b):∀(cs:List AV) (a:Addr) (j:Nat),slps cs->PCs ρ w O cs a j->PCs (rnr m ρ) w O' (rns m cs) a j
 |[],_,_,_,_=>by simp only[PCs,rns]
 |c::cs,a,j,hs,hv=>by
  simp only[PCs,rns,slps]at*
  obtain⟨⟨v,h1,h0,h2⟩,h3⟩:=hv
  exact⟨⟨v,h1,h0,rn_vr h hO c v hs.1 h2⟩,rnPC_vr h hO cs a _ hs.2 h3⟩
end
theorem rns_len (m:List (Nat×Nat)):∀az:List AV,(rns m az).length=az.length
 |[]=>rfl
 |a::az=>by simp[rns,rns_len m az]
theorem gt_rnF (m:List (Nat×Nat)):∀(F:Fr) (t:Nat),gt (rnF m F) t=rn m (gt F t)
 |[],t=>by simp[rnF,gt,rn]
 |(k,v)::F,t=>by
  simp only[rnF,gt]
  cases k==t
  ·exact gt_rnF m F t
  ·rfl
theorem slF_gt:∀{F:Fr} (t:Nat),slF F->slp (gt F t)
 |[],t,_=>by simp[gt,slp]
 |(k,v)::F,t,h=>by
  simp only[slF]at h
  simp only[gt]
  cases k==t
  ·exact slF_gt t h.2
  ·exact h.1
end
def TCw (np:Nat) (G:Prg) (f:Nat) (args:List AV) (H:Hp) (n:Nat) (Q:CPost):Prop:=
 ∀X ρ w (vs:Array Value),Fresh ρ n->HR X ρ w H->VRs ρ w (OX X ρ H) args vs.toList->
  CallsX G.P f vs w fun e w'=>∃v r ρ' H' n',e=.returned v/\Fresh ρ' n'/\HR X ρ' w' H'/\VR ρ' w' (OX X ρ' H') r v/\Ny np ρ H w ρ' H' w'/\Q r H' n'
section
variable {np:Nat} {G:Prg} {X:Nat->Prop} {N:Nat} {ρ:Rho} {n:Nat} {F:Fr} {H:Hp} {a:Act} {w:World}
theorem rdR_mono {C C':AV->Prop} (hk:∀v,C v->C' v):∀{r:Res},rdR C r->rdR C' r
 |.ok v _ _,h=>hk v h
 |.need p r,h=>⟨h.1,rdR_mono hk h.2⟩
 |.bad,h=>h.elim
 |.call ..,h=>h.elim
theorem rq_mono {C C':List AV->Prop} (hk:∀v,C v->C' v):∀{rs:List ResultVar} {acc:List AV},rq G F H n C rs acc->rq G F H n C' rs acc
 |[],acc,h=>hk acc h
 |r::rs,acc,h=>by
  simp only[rq]at h⊢
  exact rdR_mono (fun v hv=>rq_mono hk hv) h
theorem TCw_enter {f:Nat} {fn:Func} {c:Code} {args:List AV} {Q:CPost} (hf:G.P.funcs[f]?=some fn) (hb:fn.body=some c) (hc:(codeOk fn.ntmps c&&(decide (args.length<=fn.ntmps)&& !(fn.name== "runtime.NumGoroutine")))=true)
  (h:TT np G.P c (efr args 0) H n (RQ G fn.results Q)):TCw np G f args H n Q:=by
 simp only[Bool.and_eq_true,decide_eq_true_eq,Bool.not_eq_true']at hc
 obtain⟨hc,hl,hnm⟩:=hc
 intro X ρ w vs hfr hr hv
 have hlen:=VRs_length hv
 simp only[Array.length_toList]at hlen
 have henter:(callFunc f vs).run G.P w=.ok (.enter f vs) w:=by
  have hnm':¬fn.name= "runtime.NumGoroutine" :=by simpa using hnm
  simp[callFunc,hf,hnm',hb]
 unfold CallsX
 rw[henter]
 refine⟨rfl,calls_of_wp hf hb ?_⟩
 have hs:S X fn.ntmps ρ n (efr args 0) H {tmps:=vs++Array.replicate (fn.ntmps-vs.size) undef,defers:=[]} w:=by
  refine⟨hfr,hr,fun t=>?_,rfl,by simp;omega⟩
  rw[efr_gt,if_pos (Nat.zero_le _),Nat.sub_zero]
  by_cases ht:t<vs.size
  ·have:=VRs_get hv t
   rw [show vs.toList.getD t undef=(vs++Array.replicate (fn.ntmps-vs.size) undef).getD t undef by
    simp only[List.getD,Array.getD_eq_getD_getElem?];rw[Array.getElem?_append_left ht];simp]at this
   exact this
  ·rw[show args.getD t .dead=.dead by simp only[List.getD];rw[List.getElem?_eq_none (by omega)];rfl]
   simp only[VR]
 refine wp_mono (h X _ ρ _ w hs hc) ?_
 rintro e a' w' ⟨ρ',F',H',n',hs',hn,hq⟩
 have key:rq G F' H' n' (fun vs=>Fin Q (mkr vs) H' n') fn.results.toList []->a'.defers=[]/\∃v,(results fn a'.tmps).run G.P w'=.ok v w'/\∃v' r ρ' H' n',Ending.returned v=.returned v'/\Fresh ρ' n'/\HR X ρ' w' H'/\VR ρ' w' (OX X ρ' H') r v'/\Ny np ρ H w ρ' H' w'/\Q r H' n':=by
  intro hq
  obtain⟨us,xs,k1,k2,H0,k3,k4⟩:=rq_ok hs' _ _ hq
  simp only[List.nil_append]at k4
  refine⟨hs'.df,?_⟩
  have hres:(results fn a'.tmps).run G.P w'=.ok (if h:us.toArray.size=1 then us.toArray[0]else .tuple us.toArray) w':=by
   unfold results
   simp only[Sem.run_bind]
   rw[Array.mapM_eq_mapM_toList]
   simp only[Sem.run_map]
   rw[k1 _ ⟨fun _=>rfl,fun _ _=>rfl⟩]
   simp
  refine⟨_,hres,_,mkr xs,ρ',H0,n',rfl,hs'.fresh,hs'.hr.sub k3,?_,⟨hn.pin,hn.ext,fun b hb=>hn.own b (Own.sub k3 hb)⟩,k4⟩
  refine VR_carry (Carry.less fun b hb=>hb.imp (fun h=>h) (Own.sub k3)) _ _ ?_
  have hl2:=VRs_length k2
  match xs,us,k2,hl2 with
  |[x],[u],k2,_=>simp only[VRs]at k2;exact k2.1
  |[],[],k2,_=>simp only[mkr,VR];exact⟨#[],by simp,k2⟩
  |x::y::xs,u::v::us,k2,_=>simp only[mkr,VR];exact⟨(u::v::us).toArray,by simp,k2⟩
  |[],_::_,_,h=>simp at h
  |[_],[],_,h=>simp at h
  |[_],_::_::_,_,h=>simp at h
  |_::_::_,[],_,h=>simp at h
  |_::_::_,[_],_,h=>simp at h
 cases e<;>simp only[RQ]at hq
 ·exact key hq
 ·exact key hq
end
theorem PC_of_w {G:Prg} {f:Nat} {args:List AV} {R:AV->Prop} (hp:purs args=true) (h:TCw 0 G f args [] 0 fun r _ _=>∃r',lea r r'/\R r'/\pur r'=true):PC G f args R:=by
 intro ρ n X w vs hf hx hv
 have hr:HR X (fun _=>none) w []:=⟨by simp[ids],by simp[ids],by simp[ids],hx,by simp⟩
 refine(h X (fun _=>none) w vs ⟨rfl,fun _ _ _=>rfl,0,fun _ _=>rfl⟩ hr (by rw[OX_nil];exact purs_vr _ _ hp hv)).mono ?_
 rintro e w' ⟨v,r,ρ',H',n',rfl,k1,k2,k3,k4,r',k7,k5,k6⟩
 refine⟨v,r',rfl,k5,pur_vr r' v k6 (VR_carry (Carry.less fun b hb=>.inl hb) _ _ (lea_vr r r' v k7 k3)),?_⟩
 exact k4.ext.mono fun b _ hb=>by obtain⟨i,hi,_⟩:=hb;simp[ids]at hi
section
variable {np:Nat} {G:Prg} {c a b:Code} {id:Nat} {F F':Fr} {H:Hp} {n:Nat} {Q:Post} {K:RK} {L:List Oper} {pl:List (Nat×List Nat)} {d:Nat} {v v':AV} {k:Nat}
theorem ttvs (h:∀K:RK,(∀F H n,TT np G.P b F H n Q->K F H n)->TT np G.P a F H n (JK K Q)):TT np G.P (.seq a b) F H n Q:=by
 refine TT_seq (TT_mono (h (fun F H n=>TT np G.P b F H n Q) (fun _ _ _ h=>h)) ?_)
 intro e F' H' n' hq
 cases e<;>exact hq
theorem ttvj (J:RK) (h:TT np G.P a F H n (JK J Q)) (k:∀F' H' n',J F' H' n'->TT np G.P b F' H' n' Q):TT np G.P (.seq a b) F H n Q:=by
 refine TT_seq (TT_mono h ?_)
 intro e F' H' n' hq
 cases e<;>first|exact k _ _ _ hq|exact hq
theorem ttr {ops:Array Oper} (h:run0 G ops.toList 0 F H n (NK Q)):TT np G.P (.region id ops false) F H n Q:=(tr (c:=.skip) (runE_run h)).tt
theorem ttq {ops:Array Oper} (B:List Nat) (hp:okPq G ops.toList B pl=true) (h:runq G ops.toList pl 0 F H n (NK Q)):TT np G.P (.region id ops true) F H n Q:=(trq B pl hp h).tt
theorem h_pe {f:Nat} {fn:Func} {args:List AV} {r:AV} (hp:purs args=true) (hr:pur r=true) (hf:G.P.funcs[f]?=some fn) (hb:fn.body=some (bd fn)) (hc:(codeOk fn.ntmps (bd fn)&&(decide (args.length<=fn.ntmps)&& !(fn.name== "runtime.NumGoroutine")))=true)
  (h:TT 0 G.P (bd fn) F [] 0 (RQ G fn.results fun r' _ _=>lea r' r)) (hF:efr args 0=F):PE G f args r:=by
 refine PC_of_w hp (TCw_enter hf hb hc ?_)
 rw[hF]
 refine TT_mono h fun e F H n hq=>?_
 cases e<;>simp only[RQ]at hq⊢
 all_goals exact rq_mono (fun vs k=>by obtain⟨H0,h1,h2⟩:=k;exact⟨H0,h1,r,h2,rfl,hr⟩) hq
theorem h_pc {f:Nat} {fn:Func} {args:List AV} {R:AV->Prop} (hp:purs args=true) (hf:G.P.funcs[f]?=some fn) (hb:fn.body=some (bd fn)) (hc:(codeOk fn.ntmps (bd fn)&&(decide (args.length<=fn.ntmps)&& !(fn.name== "runtime.NumGoroutine")))=true)
  (h:TT 0 G.P (bd fn) F [] 0 (RQ G fn.results fun r _ _=>∃r',lea r r'/\R r'/\pur r'=true)) (hF:efr args 0=F):PC G f args R:=
 PC_of_w hp (TCw_enter hf hb hc (hF▸h))
theorem h_jr (F1:Fr) (H1:Hp) (n1:Nat) (hc:c=.seq (.region id (ro (q1 c)) false) (q2 c)) (hL:(ro (q1 c)).toList=L) (h:∀K:RK,(∀F' H' n',fsub F1 F'->H'=H1->n'=n1->K F' H' n')->run0 G L 0 F H n K) (k:TT np G.P (q2 c) F1 H1 n1 Q):TT np G.P c F H n Q:=by
 rw[hc];subst hL
 refine ttvj (fun F' H' n'=>fsub F1 F'/\H'=H1/\n'=n1) (ttr (h _ fun F' H' n' a b c=>⟨a,b,c⟩)) ?_
 rintro F' H' n' ⟨hf,rfl,rfl⟩
 exact TT_weak hf (List.Sublist.refl _) k
theorem h_b (hc:c=.block id (bk c)) (h:TT np G.P (bk c) F H n (BK id Q)):TT np G.P c F H n Q:=by rw[hc];exact TT_block h
theorem h_c {x:Operand} {t:Bool} (hc:c=.cond x (ct c) (cf c)) (hv:ev F x=.bool t) (hx:t=true->TT np G.P (ct c) F H n Q) (hy:t=false->TT np G.P (cf c) F H n Q):TT np G.P c F H n Q:=by rw[hc];exact TT_cond hv hx hy
theorem h_ct {x:Operand} (hc:c=.cond x (ct c) (cf c)) (hv:ev F x=.bool true) (hx:TT np G.P (ct c) F H n Q):TT np G.P c F H n Q:=h_c hc hv (fun _=>hx) (fun h=>by cases h)
theorem h_cf {x:Operand} (hc:c=.cond x (ct c) (cf c)) (hv:ev F x=.bool false) (hx:TT np G.P (cf c) F H n Q):TT np G.P c F H n Q:=h_c hc hv (fun h=>by cases h) (fun _=>hx)
theorem h_skip (hc:c=.skip) (h:Q .normal F H n):TT np G.P c F H n Q:=by rw[hc];exact(T_skip h).tt
theorem h_exit (hc:c=.exit id) (h:Q (.exit id) F H n):TT np G.P c F H n Q:=by rw[hc];exact(T_exit h).tt
theorem h_ret (hc:c=.ret) (h:Q .ret F H n):TT np G.P c F H n Q:=by rw[hc];exact(T_ret h).tt
theorem h_k (ks:List Nat) (hF:keepF ks F=F') (h:TT np G.P c F' H n Q):TT np G.P c F H n Q:=TT_weak (keepF_sub F ks) (List.Sublist.refl _) (hF▸h)
end
def rnC (m:List (Nat×Nat)) (cs cs':List AV):Prop:=(purs cs=true/\cs=cs')\/(slps cs/\rns m cs=cs')
def rnR (m:List (Nat×Nat)):Hp->Hp->Prop
 |[],[]=>True
 |(i,cs)::H,(j,cs')::H'=>lkm m i=some j/\rnC m cs cs'/\rnR m H H'
 |_,_=>False
theorem purs_app:∀(az bs:List AV),purs (az++bs)=(purs az&&purs bs)
 |[],bs=>by simp[purs]
 |a::az,bs=>by simp only[List.cons_append,purs,purs_app az bs,Bool.and_assoc]
theorem purs_fl {α:Type} {f:α->List AV} (hf:∀x,purs (f x)=true):∀X:List α,purs (fl f X)=true
 |[]=>rfl
 |x::X=>by
  have:=purs_fl hf X
  simp only[fl,List.map_cons,List.flatten_cons]at*
  rw[purs_app,hf x,this];rfl
@[go_sem] theorem purs_flT (X:List Tr):purs (fl trc X)=true:=purs_fl purs_trc X
@[go_sem] theorem purs_flS (X:List Str):purs (fl sc X)=true:=purs_fl (fun _=>rfl) X
section
variable {m:List (Nat×Nat)} {n:Nat}
theorem rnR_mem:∀{H H':Hp} {j:Nat} {ds:List AV},rnR m H H'->(j,ds)∈H'->∃i cs,(i,cs)∈H/\lkm m i=some j/\rnC m cs ds
 |[],[],_,_,_,h=>by simp at h
 |(i,cs)::H,(k,cs')::H',j,ds,hr,h=>by
  simp only[rnR]at hr
  rcases List.mem_cons.1 h with e|h
  ·cases e;exact⟨i,cs,by simp,hr.1,hr.2.1⟩
  ·obtain⟨i',cs2,h1,h2⟩:=rnR_mem hr.2.2 h
   exact⟨i',cs2,by simp[h1],h2⟩
 |[],_::_,_,_,hr,_=>by simp only[rnR]at hr
 |_::_,[],_,_,hr,_=>by simp only[rnR]at hr
theorem rnR_ids {H H':Hp} (hr:rnR m H H') {j:Nat} (h:j∈ids H'):∃i,i∈ids H/\lkm m i=some j:=by
 obtain⟨⟨k,ds⟩,hm,rfl⟩:=List.mem_map.1 h
 obtain⟨i,cs,h1,h2,_⟩:=rnR_mem hr hm
 exact⟨i,List.mem_map.2 ⟨_,h1,rfl⟩,h2⟩
theorem rnR_nodup (h:okm m n=true):∀{H H':Hp},rnR m H H'->(ids H).Nodup->(ids H').Nodup
 |[],[],_,_=>by simp[ids]
 |(i,cs)::H,(k,cs')::H',hr,hn=>by
  simp only[rnR]at hr
  simp only[ids,List.map_cons,List.nodup_cons]at hn⊢
  refine⟨fun hk=>hn.1 ?_,rnR_nodup h hr.2.2 hn.2⟩
  obtain⟨i',h1,h2⟩:=rnR_ids hr.2.2 hk
  have e1:=(okm_at h (lkm_mem hr.1)).1
  have e2:=(okm_at h (lkm_mem h2)).1
  rw[e1]at e2;cases e2;exact h1
 |[],_::_,hr,_=>by simp only[rnR]at hr
 |_::_,[],hr,_=>by simp only[rnR]at hr
theorem S.rn {np:Nat} {X:Nat->Prop} {N n n':Nat} {ρ:Rho} {F F':Fr} {H H':Hp} {a:Act} {w:World} (hm:okm m n'=true) (hpn:okp m np=true) (hF:slF F/\rnF m F=F') (hH:rnR m H H') (hst:S X N ρ n F H a w):
  S X N (rnr m ρ) n' F' H' a w/\(∀b,Own (rnr m ρ) H' b->Own ρ H b)/\∀i b,(i<np\/i%2=1)->ρ i=some b->rnr m ρ i=some b:=by
 obtain⟨hsl,rfl⟩:=hF
 have hown:∀b,Own (rnr m ρ) H' b->Own ρ H b:=by
  rintro b ⟨j,hj,hb⟩
  obtain⟨i,hi,hl⟩:=rnR_ids hH hj
  rw[rnr_at hm hl]at hb
  exact⟨i,hi,hb⟩
 have hO:∀b,OX X (rnr m ρ) H' b->OX X ρ H b:=fun b hb=>hb.imp id (hown b)
 refine⟨⟨⟨?_,fun j hj he=>?_,?_⟩,⟨rnR_nodup hm hH hst.hr.nodup,?_,?_,hst.hr.xold,?_⟩,fun t=>?_,hst.df,hst.sz⟩,hown,fun i b hi hb=>?_⟩
 ·unfold okm at hm
  rw[Bool.and_eq_true]at hm
  exact Nat.eq_of_beq_eq_true hm.1
 ·unfold rnr
  rw[if_neg (by omega)]
  cases hl:lkm (swp m) j with
  |none=>rfl
  |some i=>
   exfalso
   have:=lkm_mem hl
   obtain⟨⟨a1,a2⟩,h1,h2⟩:=List.mem_map.1 this
   cases h2
   have:=(okm_at hm h1).2
   omega
 ·obtain⟨m0,h0⟩:=hst.fresh.2.2
  refine⟨max m0 n',fun j hj=>?_⟩
  unfold rnr
  by_cases h2:j%2=1
  ·rw[if_pos h2];exact h0 j (by omega)
  ·rw[if_neg h2]
   cases hl:lkm (swp m) j with
   |none=>rfl
   |some i=>
    exfalso
    have:=lkm_mem hl
    obtain⟨⟨a1,a2⟩,h1,h2⟩:=List.mem_map.1 this
    cases h2
    have:=(okm_at hm h1).2
    omega
 ·intro i j b hi hj h1 h2
  obtain⟨i',k1,k2⟩:=rnR_ids hH hi
  obtain⟨j',k3,k4⟩:=rnR_ids hH hj
  rw[rnr_at hm k2]at h1
  rw[rnr_at hm k4]at h2
  have:=hst.hr.inj i' j' b k1 k3 h1 h2
  subst this
  rw[k2]at k4;cases k4;rfl
 ·intro i b hi h1
  obtain⟨i',k1,k2⟩:=rnR_ids hH hi
  rw[rnr_at hm k2]at h1
  exact hst.hr.notX i' b k1 h1
 ·intro j ds hj
  obtain⟨i,cs,h1,h2,h3⟩:=rnR_mem hH hj
  obtain⟨b,c',e,f,k1,k2,k3,k4,k5,k6⟩:=hst.hr.obj i cs h1
  rcases h3 with ⟨hp,rfl⟩|⟨hs,rfl⟩
  ·exact⟨b,c',e,f,(rnr_at hm h2).trans k1,k2,⟨k3.1,k3.2.imp (fun h=>h) (by have:=(okm_at hm (lkm_mem h2)).2.2.2;omega)⟩,k4,k5,purs_vr _ _ hp (VRs_carry (Carry.less hO) _ _ k6)⟩
  ·refine⟨b,c',e,f,(rnr_at hm h2).trans k1,k2,⟨k3.1,k3.2.imp (fun h=>h) (by have:=(okm_at hm (lkm_mem h2)).2.2.2;omega)⟩,k4,by rw[rns_len];exact k5,?_⟩
   rw[rns_len]
   exact rns_vr hm hO _ _ hs k6
 ·rw[gt_rnF]
  exact rn_vr hm hO _ _ (slF_gt t hsl) (hst.fr t)
 ·unfold okp at hpn
  rw[List.all_eq_true]at hpn
  unfold rnr
  by_cases ho:i%2=1
  ·rw[if_pos ho];exact hb
  rw[if_neg ho]
  have h1:=hpn i (by simpa using hi.resolve_right ho)
  rw[show Nat.beq (i%2) 1=false from Bool.eq_false_iff.2 fun hq=>ho (Nat.eq_of_beq_eq_true hq)]at h1
  rw[Bool.false_or]at h1
  cases hl:lkm (swp m) i with
  |none=>rw[hl]at h1;cases h1
  |some k=>
   rw[hl]at h1
   simp only[opb]at h1
   rw[Nat.eq_of_beq_eq_true h1]
   exact hb
end
theorem h_rn {np:Nat} {G:Prg} {c:Code} {F:Fr} {H:Hp} {n:Nat} {Q:Post} (m:List (Nat×Nat)) (n':Nat) (F1:Fr) (H1:Hp) (F':Fr) (H':Hp) (hm:okm m n'=true) (hpn:okp m np=true) (h4:fsub F1 F) (h5:H1.Sublist H) (hF:slF F1/\rnF m F1=F') (hH:rnR m H1 H') (h:TT np G.P c F' H' n' Q):TT np G.P c F H n Q:=
 TT_weak h4 h5 (TT_conv h fun X N ρ a w hst=>⟨_,S.rn hm hpn hF hH hst⟩)
theorem ids_perm {H H':Hp} (hp:H'.Perm H) (i:Nat):i∈ids H'↔i∈ids H:=(hp.map (·.1)).mem_iff
theorem OX_perm {X:Nat->Prop} {ρ:Rho} {H H':Hp} (hp:H'.Perm H):OX X ρ H'=OX X ρ H:=by funext b;simp only[OX,Own,ids_perm hp]
theorem S.perm {X:Nat->Prop} {N n:Nat} {ρ:Rho} {F:Fr} {H H':Hp} {a:Act} {w:World} (h:S X N ρ n F H a w) (hp:H'.Perm H):S X N ρ n F H' a w:=by
 refine⟨h.fresh,⟨show(H'.map (·.1)).Nodup from((hp.map (fun p:Nat×List AV=>p.1)).nodup_iff).2 h.hr.nodup,fun i j b h1 h2=>h.hr.inj i j b ((ids_perm hp i).1 h1) ((ids_perm hp j).1 h2),fun i b h1=>h.hr.notX i b ((ids_perm hp i).1 h1),h.hr.xold,fun i cs hm=>?_⟩,fun t=>?_,h.df,h.sz⟩
 ·rw[OX_perm hp];exact h.hr.obj i cs (hp.mem_iff.1 hm)
 ·rw[OX_perm hp];exact h.fr t
theorem h_pm {np:Nat} {G:Prg} {c:Code} {F:Fr} {H H':Hp} {n:Nat} {Q:Post} (hp:H'.Perm H) (h:TT np G.P c F H' n Q):TT np G.P c F H n Q:=
 TT_conv h fun X N ρ a w hs=>⟨ρ,hs.perm hp,fun b ⟨i,hi,hb⟩=>⟨i,(ids_perm hp i).1 hi,hb⟩,fun _ _ _ h=>h⟩
def LR (np:Nat) {σ:Type} (Fi:σ->Fr) (Hi:σ->Hp) (I:σ->Nat->Prop) (m:σ->Nat) (x:σ) (Q:Post):Post:=fun e F H n=>match e with
 |.normal=>∃(y:σ) (mp:List (Nat×Nat)) (n':Nat) (F1:Fr) (H1:Hp),m y<m x/\I y n'/\(okm mp n'=true/\okp mp np=true)/\fsub F1 F/\(∃H0:Hp,H0.Perm H/\H1.Sublist H0)/\(slF F1/\rnF mp F1=Fi y)/\rnR mp H1 (Hi y)
 |e=>Q e F H n
theorem lr_mk {np:Nat} {σ:Type} {Fi:σ->Fr} {Hi:σ->Hp} {I:σ->Nat->Prop} {m:σ->Nat} {x:σ} {Q:Post} {F:Fr} {H:Hp} {n:Nat} (y:σ) (mp:List (Nat×Nat)) (n':Nat) (F1:Fr) (H1:Hp)
  (h1:m y<m x) (h2:I y n') (h3:okm mp n'=true/\okp mp np=true) (h4:fsub F1 F) (h5:∃H0:Hp,H0.Perm H/\H1.Sublist H0) (h6:slF F1/\rnF mp F1=Fi y) (h7:rnR mp H1 (Hi y)):LR np Fi Hi I m x Q .normal F H n:=
 ⟨y,mp,n',F1,H1,h1,h2,h3,h4,h5,h6,h7⟩
theorem TT_loopr {np:Nat} {P:Program} {c:Code} {F:Fr} {H:Hp} {n:Nat} {Q:Post} {σ:Type} (Fi:σ->Fr) (Hi:σ->Hp) (I:σ->Nat->Prop) (m:σ->Nat) (x0:σ)
  (h0:I x0 n) (hf:fsub (Fi x0) F) (hh:(Hi x0).Sublist H)
  (round:∀x n',I x n'->TT np P c (Fi x) (Hi x) n' (LR np Fi Hi I m x Q)):TT np P (.loop c) F H n Q:=by
 intro X N ρ a w hst hc
 simp only[codeOk]at hc
 intro b it cs
 have key:∀k x ρ' n' a' w',m x=k->S X N ρ' n' (Fi x) (Hi x) a' w'->Ny np ρ H w ρ' (Hi x) w'->I x n'->
   ∃e a2 w2,(∃ρ' F' H' n',S X N ρ' n' F' H' a2 w2/\Ny np ρ H w ρ' H' w2/\Q e F' H' n')/\Arrives P (lone (b.at a' (.code c::.inLoop c::it)) cs w') b it cs e a2 w2:=by
  intro k
  induction k using Nat.strongRecOn with
  |_ k ih=>
   intro x ρ' n' a' w' hk hs' hn' hI
   obtain⟨e,a1,w1,⟨ρ1,F1,H1,n1,hs1,hn1,hq⟩,harr⟩:=round x n' hI X N ρ' a' w' hs' hc b (.inLoop c::it) cs
   cases e with
   |normal=>
    obtain⟨y,mp,n2,F2,H2,hm,hIy,hok,hfy,⟨H0,hpm,hhy⟩,e1,e2⟩:=hq
    have hs2:=((hs1.perm hpm).sub hhy hfy).rn (np:=np) (n':=n2) hok.1 hok.2 e1 e2
    have hn2:Ny np ρ H w (rnr mp ρ1) (Hi y) w1:=
     let h:=hn'.trans hn1
     ⟨fun i b hi hb=>hs2.2.2 i b hi (h.pin i b hi hb),h.ext,fun b hb=>h.own b (by obtain⟨i,hi,hb⟩:=Own.sub hhy (hs2.2.1 b hb);exact⟨i,(ids_perm hpm i).1 hi,hb⟩)⟩
    obtain⟨e2,a2,w2,hq2,harr2⟩:=ih (m y) (hk▸hm) y _ n2 a1 w1 rfl hs2.1 hn2 hIy
    exact⟨e2,a2,w2,hq2,.of_steps (Steps.trans harr (.one step_inLoop)) harr2⟩
   |exit id=>exact⟨_,a1,w1,⟨ρ1,F1,H1,n1,hs1,hn'.trans hn1,hq⟩,.pass (x:=.inLoop c) rfl (fun _ _=>.inl (by simp)) harr⟩
   |goto l=>exact⟨_,a1,w1,⟨ρ1,F1,H1,n1,hs1,hn'.trans hn1,hq⟩,.pass (x:=.inLoop c) rfl (fun _ _=>.inl (by simp)) harr⟩
   |ret=>exact⟨_,a1,w1,⟨ρ1,F1,H1,n1,hs1,hn'.trans hn1,hq⟩,.pass (x:=.inLoop c) rfl (fun _ _=>.inl (by simp)) harr⟩
   |panic ch=>exact⟨_,a1,w1,⟨ρ1,F1,H1,n1,hs1,hn'.trans hn1,hq⟩,.pass (x:=.inLoop c) rfl (fun _ _=>.inl (by simp)) harr⟩
   |outgrown=>exact⟨_,a1,w1,⟨ρ1,F1,H1,n1,hs1,hn'.trans hn1,hq⟩,.pass (x:=.inLoop c) rfl (fun _ _=>.inl (by simp)) harr⟩
 obtain⟨e,a2,w2,hq,harr⟩:=key _ x0 ρ n a w rfl (hst.sub hh hf) ⟨fun _ _ _ h=>h,Ext.refl _ _,fun b hb=>.inl (Own.sub hh hb)⟩ h0
 exact⟨e,a2,w2,hq,.of_steps (.one step_loop) harr⟩
theorem h_l {np:Nat} {G:Prg} {c:Code} {F:Fr} {H:Hp} {n:Nat} {Q:Post} {σ:Type} (Fi:σ->Fr) (Hi:σ->Hp) (I:σ->Nat->Prop) (m:σ->Nat) (x0:σ) (hc:c=.loop (lp c)) (h0:I x0 n) (hf:fsub (Fi x0) F) (hh:(Hi x0).Sublist H)
  (round:∀x n',I x n'->TT np G.P (lp c) (Fi x) (Hi x) n' (LR np Fi Hi I m x Q)):TT np G.P c F H n Q:=by
 rw[hc];exact TT_loopr Fi Hi I m x0 h0 hf hh round
mutual
def fq (id s:Nat) (es:List (List AV)) (cs:List AV):AV->AV
 |.osl i s' o l=>bif Nat.beq i id then .sl s es else .osl i s' o l
 |.ocl i s o l c=>.ocl i s o l c
 |.ptr i o=>bif Nat.beq i id then .pat (cs.drop o)else .ptr i o
 |.agg az=>.agg (fqs id s es cs az)
 |.tup az=>.tup (fqs id s es cs az)
 |.fn f az=>.fn f (fqs id s es cs az)
 |.pat az=>.pat (fqs id s es cs az)
 |.sl s es=>.sl s es
 |.int k n=>.int k n
 |.bool b=>.bool b
 |.str s=>.str s
 |.raw v=>.raw v
 |.nils=>.nils
 |.nilp=>.nilp
 |.dead=>.dead
 |.tp i t k=>.tp i t k
 |.tsl i t l=>.tsl i t l
def fqs (id s:Nat) (es:List (List AV)) (cs:List AV):List AV->List AV
 |[]=>[]
 |a::az=>fq id s es cs a::fqs id s es cs az
end
mutual
def oq (id s l:Nat):AV->Prop
 |.osl i s' o l'=>if i=id then s'=s/\o=0/\l'=l else True
 |.sl _ es=>puress es=true
 |.agg az=>oqs id s l az
 |.tup az=>oqs id s l az
 |.fn _ az=>oqs id s l az
 |.pat az=>oqs id s l az
 |_=>True
def oqs (id s l:Nat):List AV->Prop
 |[]=>True
 |a::az=>oq id s l a/\oqs id s l az
end
def fqF (id s:Nat) (es:List (List AV)) (cs:List AV):Fr->Fr
 |[]=>[]
 |(k,v)::F=>(k,fq id s es cs v)::fqF id s es cs F
def oqF (id s l:Nat):Fr->Prop
 |[]=>True
 |(_,v)::F=>oq id s l v/\oqF id s l F
def fqC (id s l:Nat) (es:List (List AV)) (cs:List AV) (ds ds':List AV):Prop:=(purs ds=true/\ds=ds')\/(oqs id s l ds/\fqs id s es cs ds=ds')
def fqR (id s l:Nat) (es:List (List AV)) (cs:List AV):Hp->Hp->Prop
 |[],[]=>True
 |(i,ds)::H,(j,ds')::H'=>i=j/\fqC id s l es cs ds ds'/\fqR id s l es cs H H'
 |_,_=>False
section
variable {id s l:Nat} {es:List (List AV)} {cs:List AV} {ρ:Rho} {w:World} {O:Nat->Prop}
mutual
theorem fq_eq (he:chk s l cs=es) (hl:l*s<=cs.length):∀a:AV,oq id s l a->fz id cs a=fq id s es cs a
 |.osl i s' o l',h=>by
  simp only[oq]at h
  simp only[fz,fq]
  by_cases e:i=id
  ·subst e
   rw[if_pos rfl]at h
   obtain⟨rfl,rfl,rfl⟩:=h
   rw[Nat.zero_add,Nat.ble_eq_true_of_le hl,beq_self_eq_true,List.drop_zero,he]
   simp[Nat.beq_refl]
  ·have h1:(i==id)=false:=by simpa using e
   have h2:Nat.beq i id=false:=nbq e
   rw[h1,h2];rfl
 |.ptr i o,_=>by
  simp only[fz,fq]
  by_cases e:i=id
  ·subst e;simp[Nat.beq_refl]
  ·have h1:(i==id)=false:=by simpa using e
   have h2:Nat.beq i id=false:=nbq e
   rw[h1,h2]
 |.ocl _ _ _ _ _,_=>rfl
 |.agg az,h=>by simp only[oq]at h;simp only[fz,fq,fqs_eq he hl az h]
 |.tup az,h=>by simp only[oq]at h;simp only[fz,fq,fqs_eq he hl az h]
 |.fn f az,h=>by simp only[oq]at h;simp only[fz,fq,fqs_eq he hl az h]
 |.pat az,h=>by simp only[oq]at h;simp only[fz,fq,fqs_eq he hl az h]
 |.sl s' es',h=>by simp only[oq]at h;simp only[fz,fq,fzss_pur id cs es' h]
 |.int _ _,_=>rfl
 |.bool _,_=>rfl
 |.str _,_=>rfl
 |.raw _,_=>rfl
 |.nils,_=>rfl
 |.nilp,_=>rfl
 |.dead,_=>rfl
 |.tp ..,_=>rfl
 |.tsl ..,_=>rfl
theorem fqs_eq (he:chk s l cs=es) (hl:l*s<=cs.length):∀az:List AV,oqs id s l az->fzs id cs az=fqs id s es cs az
 |[],_=>rfl
 |a::az,h=>by simp only[oqs]at h;simp only[fzs,fqs,fq_eq he hl a h.1,fqs_eq he hl az h.2]
end
theorem fqF_eq (he:chk s l cs=es) (hl:l*s<=cs.length):∀F:Fr,oqF id s l F->fzF id cs F=fqF id s es cs F
 |[],_=>rfl
 |(k,v)::F,h=>by simp only[oqF]at h;simp only[fzF,fqF,fq_eq he hl v h.1,fqF_eq he hl F h.2]
theorem fqR_eq (he:chk s l cs=es) (hl:l*s<=cs.length):∀{H H':Hp},fqR id s l es cs H H'->fzH id cs H=H'
 |[],[],_=>rfl
 |(i,ds)::H,(j,ds')::H',h=>by
  simp only[fqR]at h
  obtain⟨rfl,hc,hr⟩:=h
  simp only[fzH,fqR_eq he hl hr]
  rcases hc with ⟨h1,rfl⟩|⟨h1,rfl⟩
  ·rw[fzs_pur id cs ds h1]
  ·rw[fqs_eq he hl ds h1]
 |[],_::_,h=>by simp only[fqR]at h
 |_::_,[],h=>by simp only[fqR]at h
end
theorem flT_le (X:List Tr):X.length*5<=(fl trc X).length:=by rw[flTl];exact Nat.le_refl _
theorem flS_le (X:List Str):X.length*1<=(fl sc X).length:=by rw[flSl,Nat.mul_one];exact Nat.le_refl _
@[go_sem] theorem oq_pth (id s l:Nat) (p:List Str):oq id s l (pth p)=True:=by simp only[oq,pth,puress_str]
theorem h_st {np:Nat} {G:Prg} {c:Code} {F F':Fr} {H H':Hp} {n:Nat} {Q:Post} (hF:F=F') (hH:H=H') (h:TT np G.P c F' H' n Q):TT np G.P c F H n Q:=by subst hF;subst hH;exact h
theorem nk_n {Q:Post} {F:Fr} {H:Hp} {n:Nat} (h:Q .normal F H n):NK Q F H n:=h
theorem h_c1 {np:Nat} {G:Prg} {c:Code} {F:Fr} {H:Hp} {n:Nat} {Q:Post} {x:Operand} {t:Bool} (hc:c=.cond x (ct c) (cf c)) (hv:ev F x=.bool t) (ht:t=true) (hx:TT np G.P (ct c) F H n Q):TT np G.P c F H n Q:=h_c hc hv (fun _=>hx) (fun h=>by rw[ht]at h;cases h)
theorem purs_ints:∀X:Str,purs (ints X)=true
 |[]=>rfl
 |c::X=>by
  have:=purs_ints X
  simp only[ints,List.map_cons,purs,pur,Bool.true_and]at*
  exact this
attribute [go_sem] purs_ints
theorem OC_lift {G:Prg} {f:Nat} {a b:Nat->AV} {Cc:Nat->Prop} {OK:AV->AV->Prop} {args:List AV} {cs:List AV} {R:AV->List AV->Prop} {P:CPost} {id:Nat} (hA:∀{ρ ρ':Rho} {w:World} {O O':Nat->Prop} {v:Value},ρ' 0=ρ id->VR ρ w O (a id) v->∃c,Cc c/\VR ρ' w O' (b c) v)
  (hOK:∀{ρ ρ1:Rho} {w:World} {O O1:Nat->Prop} {r r':AV} {v:Value},OK r r'->ρ1 0=ρ id->(∀b,O b->O1 b)->VR ρ1 w O1 r v->VR ρ w O r' v) (ha:purs args=true) (hcs:purs cs=true)
  (h:∀c,Cc c->TCw 1 G f (b c::args) [(0,cs)] 4 P) (hP:∀{r H' n'},P r H' n'->∃r' cs' tl,OK r r'/\purs cs'=true/\hgt H' 0=some (cs'++tl)/\R r' cs') {H:Hp} {n:Nat} (hg:hgt H id=some cs) (hcl:id%4≠2):
  TCall G f (a id::args) H n fun r H' n'=>∃cs',H'=hset H id cs'/\n'=n/\R r cs':=by
 intro X ρ w vs hf hr hv
 obtain⟨b0,c0,e0,f0,k1,k2,k3,k4,k5,k6⟩:=hr.obj id cs (hgt_mem hg)
 have hid:=hgt_ids hg
 let ρ0:Rho:=fun i=>if i=0 then ρ id else none
 let X':Nat->Prop:=OX X ρ (hdel H id)
 have hb0:ρ0 0=some b0:=by simp[ρ0,k1]
 have hown0:∀b,Own ρ0 [(0,cs)] b↔b=b0:=by
  intro b
  constructor
  ·rintro⟨i,hi,hb⟩
   simp only[ids,List.map_cons,List.map_nil,List.mem_singleton]at hi
   subst hi
   rw[hb0]at hb;cases hb;rfl
  ·rintro rfl;exact⟨0,by simp[ids],hb0⟩
 have hnX':¬X' b0:=by
  rintro(hx|⟨i,hi,hb⟩)
  ·exact hr.notX id b0 hid k1 hx
  ·have:=hr.inj i id b0 (((hdel_sub H id).map (·.1)).subset hi) hid hb k1
   subst this
   exact hdel_not hr.nodup hi
 have hOsub:∀b,OX X' ρ0 [(0,cs)] b->OX X ρ H b:=by
  rintro b (hx|hx)
  ·exact hx.imp (fun h=>h) (Own.sub (hdel_sub H id))
  ·rw[hown0]at hx;subst hx;exact .inr ⟨id,hid,k1⟩
 have hOsup:∀b,OX X ρ H b->X' b\/b=b0:=by
  rintro b (hx|⟨i,hi,hb⟩)
  ·exact .inl (.inl hx)
  ·by_cases e:i=id
   ·subst e;rw[k1]at hb;cases hb;exact .inr rfl
   ·refine .inl (.inr ⟨i,?_,hb⟩)
    have:∀(H:Hp),i∈ids H->i∈ids (hdel H id):=by
     intro H
     induction H with
     |nil=>simp[ids]
     |cons q H ih=>
      intro hm
      obtain⟨j,o⟩:=q
      simp only[hdel]
      by_cases hj:j=id
      ·subst hj
       simp only[beq_self_eq_true,cond_true]
       simp only[ids,List.map_cons,List.mem_cons]at hm
       exact hm.resolve_left e
      ·have:(j==id)=false:=by simpa using hj
       simp only[this,cond_false,ids,List.map_cons,List.mem_cons]at hm⊢
       exact hm.imp (fun h=>h) ih
    exact this H hi
 have hr0:HR X' ρ0 w [(0,cs)]:=by
  refine⟨by simp[ids],fun i j b hi hj _ _=>?_,fun i b hi hb=>?_,fun b hb=>?_,fun i ds hm=>?_⟩
  ·simp only[ids,List.map_cons,List.map_nil,List.mem_singleton]at hi hj;rw[hi,hj]
  ·simp only[ids,List.map_cons,List.map_nil,List.mem_singleton]at hi
   subst hi
   rw[hb0]at hb;cases hb;exact hnX'
  ·exact hr.ox_old (hb.imp (fun h=>h) (Own.sub (hdel_sub H id)))
  ·simp only[List.mem_singleton,Prod.mk.injEq]at hm
   obtain⟨rfl,rfl⟩:=hm
   exact⟨b0,c0,e0,f0,hb0,k2,⟨k3.1,k3.2.imp (fun h=>h) (fun h=>by omega)⟩,k4,k5,VRs_carry (Carry.less hOsub) _ _ (purs_vr _ _ hcs k6)⟩
 obtain⟨c,hcc,hv0⟩:∃c,Cc c/\VRs ρ0 w (OX X' ρ0 [(0,cs)]) (b c::args) vs.toList:=by
  revert hv
  cases vs.toList with
  |nil=>simp only[VRs];exact fun h=>h.elim
  |cons x xs=>
   intro hv
   simp only[VRs]at hv⊢
   obtain⟨c,h1,h2⟩:=hA (ρ':=ρ0) (by simp[ρ0]) hv.1
   exact⟨c,h1,h2,purs_vr _ _ ha (VRs_carry (Carry.less hOsub) _ _ hv.2)⟩
 refine(h c hcc X' ρ0 w vs ⟨rfl,fun i hi _=>by simp[ρ0];omega,1,fun i hi=>by simp[ρ0];omega⟩ hr0 hv0).mono ?_
 rintro e w' ⟨v,r,ρ1,H1,n1,rfl,q1,q2,q3,q4,hq⟩
 obtain⟨r',cs',tl,q5,q7,q8,q9⟩:=hP hq
 have hp:ρ1 0=some b0:=q4.pin 0 b0 (by omega) hb0
 obtain⟨b1,c1,e1,f1,p1,p2,p3,p4,p5,p6⟩:=q2.obj 0 (cs'++tl) (hgt_mem q8)
 have hlt:cs'.length<=(cs'++tl).length:=by simp
 have p7:=VRs_take cs'.length p6
 rw[List.take_left' rfl,List.take_take,Nat.min_eq_left hlt]at p7
 rw[hp]at p1;cases p1
 have hOs:OX X ρ (hset H id cs')=OX X ρ H:=by funext x;simp only[OX,Own,hset_ids]
 have hO1:∀b,OX X ρ H b->OX X' ρ1 H1 b:=by
  intro b hb
  rcases hOsup b hb with hx|rfl
  ·exact .inl hx
  ·exact .inr ⟨0,hgt_ids q8,hp⟩
 have hext:Ext (Own ρ H) w w':=q4.ext.mono fun b _ hb=>by rw[hown0]at hb;subst hb;exact⟨id,hid,k1⟩
 have hcar:Carry ρ ρ w w' (OX X ρ H) (OX X ρ (hset H id cs')):=by
  rw[hOs]
  exact⟨fun _ _ h=>h,hext.size,fun b hb hn=>hext.keep b hb fun hx=>hn (.inr hx),hext.shape,fun _ _ h=>h⟩
 refine⟨v,r',ρ,hset H id cs',n,rfl,hf,⟨by rw[hset_ids];exact hr.nodup,fun i j b=>by rw[hset_ids];exact hr.inj i j b,fun i b=>by rw[hset_ids];exact hr.notX i b,fun b hb=>Nat.lt_of_lt_of_le (hr.xold b hb) hext.size,fun j ds hm=>?_⟩,?_,⟨fun _ _ h=>h,Nat.le_refl _,hext,fun b hb=>.inl (by simpa only[Own,hset_ids]using hb)⟩,cs',rfl,rfl,q9⟩
 ·rcases hset_mem hr.nodup hm with ⟨rfl,rfl⟩|⟨hne,hm⟩
  ·exact⟨b0,c1,e1,f1,k1,p2,⟨p3.1,p3.2.imp (fun h=>h) (fun h=>by omega)⟩,p4,Nat.le_trans hlt p5,by rw[hOs];exact purs_vr _ _ q7 (VRs_carry (Carry.less hO1) _ _ p7)⟩
  ·obtain⟨b,c,e,f,m1,m2,m3,m4,m5,m6⟩:=hr.obj j ds hm
   have hjm:j∈ids H:=List.mem_map.2 ⟨_,hm,rfl⟩
   have hbne:b≠b0:=fun e=>hne (hr.inj j id b hjm hid m1 (e▸k1))
   have hlt:b<w.heap.size:=(Array.getElem?_eq_some_iff.1 m2).1
   exact⟨b,c,e,f,m1,by rw[q4.ext.keep b hlt fun hx=>hbne ((hown0 b).1 hx)];exact m2,m3,m4,m5,VRs_carry hcar _ _ m6⟩
 ·rw[hOs]
  exact hOK q5 (hp.trans k1.symm) hO1 q3
theorem ok_pur {ρ ρ1:Rho} {w:World} {O O1:Nat->Prop} {r r':AV} {v:Value} (h:lea r r'/\pur r'=true) (hO:∀b,O b->O1 b) (k:VR ρ1 w O1 r v):VR ρ w O r' v:=pur_vr _ _ h.2 (VR_carry (Carry.less hO) _ _ (lea_vr r r' v h.1 k))
def XC (G:Prg) (f:Nat) (a:Nat->AV) (args:List AV) (cs:List AV) (R:AV->List AV->Prop):Prop:=
 ∀(H:Hp) (n id:Nat),hgt H id=some cs->id%4≠2->TCall G f (a id::args) H n fun r H' n'=>∃cs',H'=hset H id cs'/\n'=n/\R r cs'
theorem XC.use {G:Prg} {f:Nat} {a:Nat->AV} {args cs:List AV} {R:AV->List AV->Prop} {H:Hp} {n id:Nat} {Q:CPost} (h:XC G f a args cs R) (hg:hgt H id=some cs) (hq:∀r cs',R r cs'->Q r (hset H id cs') n) (hcl:id%4≠2:=by decide):TCall G f (a id::args) H n Q:=by
 refine(h H n id hg hcl).mono ?_
 rintro r H' n' _ ⟨p',rfl,rfl,hr⟩
 exact hq r p' hr
theorem osl_arg (s l:Nat) {ρ ρ':Rho} {w:World} {O O':Nat->Prop} {v:Value} {id:Nat} (h:ρ' 0=ρ id) (k:VR ρ w O (.osl id s 0 l) v):VR ρ' w O' (.osl 0 s 0 l) v:=by
 simp only[VR]at k⊢;rw[h];exact k
theorem h_xc {G:Prg} {f:Nat} {fn:Func} {s l:Nat} {args cs:List AV} {F:Fr} {R:AV->List AV->Prop} (hp:purs args=true) (hcs:purs cs=true) (hf:G.P.funcs[f]?=some fn) (hb:fn.body=some (bd fn)) (hc:(codeOk fn.ntmps (bd fn)&&(decide ((.osl 0 s 0 l::args:List AV).length<=fn.ntmps)&& !(fn.name== "runtime.NumGoroutine")))=true)
  (h:TT 1 G.P (bd fn) F [(0,cs)] 4 (RQ G fn.results fun r H' _=>∃r' cs',lea r r'/\pur r'=true/\purs cs'=true/\hgt H' 0=some cs'/\R r' cs')) (hF:efr (.osl 0 s 0 l::args) 0=F):XC G f (fun i=>.osl i s 0 l) args cs R:=
 fun H n id hg hcl=>OC_lift (a:=fun i=>.osl i s 0 l) (b:=fun _=>.osl 0 s 0 l) (Cc:=fun _=>True) (OK:=fun r r'=>lea r r'/\pur r'=true) (fun e k=>⟨0,trivial,osl_arg s l e k⟩) (fun h _=>ok_pur h) hp hcs (fun _ _=>TCw_enter hf hb hc (hF▸h)) (fun⟨r',cs',h1,h2,h3,h4,h5⟩=>⟨r',cs',[],⟨h1,h2⟩,h3,by rw[List.append_nil];exact h4,h5⟩) hg hcl
theorem fin_xc {R:AV->List AV->Prop} {r r':AV} {H:Hp} {n:Nat} (cs':List AV) (h1:lea r r') (h2:pur r'=true) (h3:purs cs'=true) (h4:hgt H 0=some cs') (h5:R r' cs'):Fin (fun r H' _=>∃r' cs',lea r r'/\pur r'=true/\purs cs'=true/\hgt H' 0=some cs'/\R r' cs') r H n:=
 ⟨H,List.Sublist.refl _,r',cs',h1,h2,h3,h4,h5⟩
theorem osl_ocl (s l:Nat) {ρ ρ':Rho} {w:World} {O O':Nat->Prop} {v:Value} {id:Nat} (h:ρ' 0=ρ id) (k:VR ρ w O (.osl id s 0 l) v):∃c,l<=c/\VR ρ' w O' (.ocl 0 s 0 l c) v:=by
 simp only[VR]at k⊢
 obtain⟨b,c,o',cs,e,f',r1,rfl,r2,r3,r4,r5⟩:=k
 exact⟨c,r2,b,o',cs,e,f',h.trans r1,rfl,r2,r3,r4,r5⟩
theorem xd_use {G:Prg} {f s:Nat} {α:Type} {fc:α->List AV} {X Y:List α} {args:List AV} {H:Hp} {n id:Nat} {Q:CPost} (hp:purs args=true) (hX:purs (fl fc X)=true) (hY:purs (fl fc Y)=true)
  (h:∀c,X.length<=c->TCw 1 G f (.ocl 0 s 0 X.length c::args) [(0,fl fc X)] 4 fun r H1 _=>∃tl,unc r=.osl 0 s 0 Y.length/\hgt H1 0=some (fl fc Y++tl)) (hg:hgt H id=some (fl fc X)) (hq:Q (.osl id s 0 Y.length) (hset H id (fl fc Y)) n) (hcl:id%4≠2:=by decide):TCall G f (.osl id s 0 X.length::args) H n Q:=by
 refine (OC_lift (a:=fun i=>.osl i s 0 X.length) (b:=fun c=>.ocl 0 s 0 X.length c) (Cc:=fun c=>X.length<=c) (OK:=fun r r'=>unc r=.osl 0 s 0 Y.length/\r'=.osl id s 0 Y.length) (R:=fun r cs=>r=.osl id s 0 Y.length/\cs=fl fc Y) (osl_ocl s X.length)
  (fun {ρ ρ1 w O O1 r r' v} h e _ k=>by have k:=unc_vr k;rw[h.1]at k;rw[h.2];simp only[VR]at k⊢;rw[<-e];exact k) hp hX h (fun⟨tl,h1,h2⟩=>⟨_,_,tl,⟨h1,rfl⟩,hY,h2,rfl,rfl⟩) hg hcl).mono ?_
 rintro r H' n' _ ⟨_,rfl,rfl,rfl,rfl⟩
 exact hq
theorem tc_fz {G:Prg} {f:Nat} {args:List AV} {H:Hp} {n:Nat} {Q:CPost} (id s l:Nat) (es:List (List AV)) (cs:List AV) (args':List AV) (H1 H':Hp) (hg:hgt H id=some cs) (he:chk s l cs=es) (hl:l*s<=cs.length) (h5:hdel H id=H1)
  (hA:oqs id s l args/\fqs id s es cs args=args') (hH:fqR id s l es cs H1 H') (h:TCall G f args' H' n Q):TCall G f args H n Q:=by
 refine TCall_fz id hg ?_
 rw[fqs_eq he hl args hA.1,hA.2,h5,fqR_eq he hl hH]
 exact h
abbrev Ki:Prop:=IntKind.i64=IntKind.i64
def ks1 (vs:Fr) (ko:List Nat):List Nat:=vs.map (·.1)++ko
def mx (vs:Fr) (ko:List Nat) (F:Fr):Fr:=vs++keepF ko F
def rid:Code->Nat|.region i _ _=>i|.block i _=>i|.exit i=>i|_=>0
def cx:Code->Operand|.cond x _ _=>x|_=>.tmp 0
def CF (np:Nat) (G:Prg) (c:Code) (Q:Post):RK:=fun F H n=>TT np G.P c F H n Q
class BF (b:Bool) (U V:outParam Prop):Prop where
 pt:b=true->U
 pf:b=false->V
instance (priority:=low) bf0 (b:Bool):BF b (b=true) (b=false):=⟨id,id⟩
instance bfD (p:Prop) [Decidable p]:BF (decide p) p (¬p):=⟨of_decide_eq_true,of_decide_eq_false⟩
instance bfN (b:Bool) {U V:Prop} [h:BF b U V]:BF (!b) V U:=⟨fun e=>h.pf (by simpa using e),fun e=>h.pt (by simpa using e)⟩
instance bfA (a b:Bool) {U V S T:Prop} [h:BF a U V] [k:BF b S T]:BF (a&&b) (U/\S) (V\/T):=⟨fun e=>by rw[Bool.and_eq_true]at e;exact⟨h.pt e.1,k.pt e.2⟩,fun e=>by rw[Bool.and_eq_false_iff]at e;exact e.imp h.pf k.pf⟩
instance bfO (a b:Bool) {U V S T:Prop} [h:BF a U V] [k:BF b S T]:BF (a||b) (U\/S) (V/\T):=⟨fun e=>by rw[Bool.or_eq_true]at e;exact e.imp h.pt k.pt,fun e=>by rw[Bool.or_eq_false_iff]at e;exact⟨h.pf e.1,k.pf e.2⟩⟩
theorem om {p:Prop} (h:p:=by omega):p:=h
theorem dc {p:Prop} [Decidable p] (h:decide p=true:=by kernel_rfl):p:=of_decide_eq_true h
theorem lm {p:Prop} (h:p:=by rw[List.length_map]):p:=h
theorem lmo {p:Prop} (h:p:=by rw[List.length_map];omega):p:=h
theorem gl {p:Prop} (h:p:=by first|omega|(simp only[LL];omega)):p:=h
theorem cI {a b:Int} (h:a=b):AV.int .i64 a=AV.int .i64 b:=congrArg _ h
@[simp,go_sem] abbrev AV.i (n:Int):AV:=.int .i64 n
@[simp,go_sem] abbrev tr5 (t:Tr) (x y:AV):List AV:=[.bool t.dir,.int .i64 t.mode,.str t.data,x,y]
theorem kr {α:Sort _} {a b:α} (h:a=b:=by kernel_rfl):a=b:=h
def kpH (is:List Nat) (H:Hp):Hp:=H.filter fun p=>is.any (Nat.beq p.1)
def oqR (i s l:Nat):List Bool->Hp->Prop
 |true::m,(_,cs)::H=>oqs i s l cs/\oqR i s l m H
 |false::m,(_,cs)::H=>purs cs=true/\oqR i s l m H
 |_,[]=>True
 |[],_::_=>False
def fqH (i s:Nat) (es:List (List AV)) (cs:List AV):List Bool->Hp->Hp
 |true::m,(j,ds)::H=>(j,fqs i s es cs ds)::fqH i s es cs m H
 |false::m,(j,ds)::H=>(j,ds)::fqH i s es cs m H
 |_,_=>[]
theorem fqR_of {i s l:Nat} {es:List (List AV)} {cs:List AV}:∀(m:List Bool) (H:Hp),oqR i s l m H->fqR i s l es cs H (fqH i s es cs m H)
 |true::m,(_,_)::H,h=>by simp only[oqR]at h;exact⟨rfl,.inr ⟨h.1,rfl⟩,fqR_of m H h.2⟩
 |false::m,(_,_)::H,h=>by simp only[oqR]at h;exact⟨rfl,.inl ⟨h.1,rfl⟩,fqR_of m H h.2⟩
 |[],[],_=>by simp[fqH,fqR]
 |true::_,[],_=>by simp[fqH,fqR]
 |false::_,[],_=>by simp[fqH,fqR]
 |[],_::_,h=>by simp only[oqR]at h
theorem LL:(∀X:List Tr,(fl trc X).length=X.length*5)/\(∀X:List Str,(fl sc X).length=X.length)/\(∀X:Str,(ints X).length=X.length)/\(∀(α:Type) (a b:List α),(a++b).length=a.length+b.length)/\(∀(α:Type) (a:α) (l:List α),(a::l).length=l.length+1)/\(∀(α:Type),([]:List α).length=0)/\(∀(α β:Type) (f:α->β) (l:List α),(l.map f).length=l.length)/\
  (∀(α:Type) (n:Nat) (a:α),(List.replicate n a).length=n)/\(∀(α:Type) (n:Nat) (l:List α),(l.take n).length=min n l.length)/\(∀(α:Type) (n:Nat) (l:List α),(l.drop n).length=l.length-n):=
 ⟨flTl,flSl,ints_len,fun _ _ _=>List.length_append,fun _ _ _=>List.length_cons,fun _=>List.length_nil,fun _ _ _ _=>List.length_map _,fun _ _ _=>List.length_replicate,fun _ _ _=>List.length_take,fun _ _ _=>List.length_drop⟩
abbrev zt:List AV:=[.bool false,.int .i64 0,.str [],.nils,.nils]
class Btm (Q:Post) (Q0:outParam Post):Prop where
 of:∀{F H n},Q0 .ret F H n->Q .ret F H n
instance {K:RK} {Q Q0:Post} [h:Btm Q Q0]:Btm (JK K Q) Q0:=⟨fun k=>h.of k⟩
instance {i:Nat} {Q Q0:Post} [h:Btm Q Q0]:Btm (BK i Q) Q0:=⟨fun k=>h.of k⟩
instance {σ:Type} {Fi:σ->Fr} {Hi:σ->Hp} {I:σ->Nat->Prop} {m:σ->Nat} {x:σ} {Q Q0:Post} [h:Btm Q Q0]:Btm (LK Fi Hi I m x Q) Q0:=⟨fun k=>h.of k⟩
instance {np:Nat} {σ:Type} {Fi:σ->Fr} {Hi:σ->Hp} {I:σ->Nat->Prop} {m:σ->Nat} {x:σ} {Q Q0:Post} [h:Btm Q Q0]:Btm (LR np Fi Hi I m x Q) Q0:=⟨fun k=>h.of k⟩
instance {G:Prg} {rs:Array ResultVar} {Qc:CPost}:Btm (RQ G rs Qc) (RQ G rs Qc):=⟨fun k=>k⟩
section
variable {np:Nat} {G:Prg} {c b:Code} {F F':Fr} {H H':Hp} {n n' i j:Nat} {Q Q':Post} {K:RK} {L:List Oper} {pl:List (Nat×List Nat)} {k d:Nat} {v v':AV}
theorem Pe {f:Nat} {fn:Func} {args:List AV} {r:AV} (hf:G.P.funcs[f]?=some fn) (h:TT 0 G.P (bd fn) (efr args 0) [] 0 (RQ G fn.results fun r' _ _=>lea r' r)) (hp:purs args=true:=by simp only[go_sem]) (hr:pur r=true:=by simp only[go_sem]) (hb:fn.body=some (bd fn):=by kernel_rfl) (hc:(codeOk fn.ntmps (bd fn)&&(decide (args.length<=fn.ntmps)&& !(fn.name== "runtime.NumGoroutine")))=true:=by kernel_rfl):PE G f args r:=h_pe hp hr hf hb hc h rfl
theorem Rr (h:run0 G (ro (q1 c)).toList 0 F H n (CF np G (q2 c) Q)) (hc:c=.seq (.region (rid (q1 c)) (ro (q1 c)) false) (q2 c):=by kernel_rfl):TT np G.P c F H n Q:=by
 rw[hc];exact ttvs fun K hK=>ttr (runE_mono (fun F H n h=>hK _ _ _ h) h)
theorem Rb (hQ:∀{F H n},TT np G.P b F H n Q'->Q .normal F H n) (h:run0 G (ro c).toList 0 F H n (CF np G b Q')) (hc:c=.region (rid c) (ro c) false:=by kernel_rfl):TT np G.P c F H n Q:=by
 rw[hc];exact ttr (runE_mono (fun F H n h=>hQ h) h)
theorem Rn (h:run0 G (ro c).toList 0 F H n (NK Q)) (hc:c=.region (rid c) (ro c) false:=by kernel_rfl):TT np G.P c F H n Q:=by
 rw[hc];exact ttr h
theorem Qr (B:List Nat) (pl:List (Nat×List Nat)) (h:runq G (ro (q1 c)).toList pl 0 F H n (CF np G (q2 c) Q)) (hc:c=.seq (.region (rid (q1 c)) (ro (q1 c)) true) (q2 c):=by kernel_rfl) (hp:okPq G (ro (q1 c)).toList B pl=true:=by kernel_rfl):TT np G.P c F H n Q:=by
 rw[hc];exact ttvs fun K hK=>ttq B hp (runQ_mono (fun F H n h=>hK _ _ _ h) h)
theorem Qb (B:List Nat) (pl:List (Nat×List Nat)) (hQ:∀{F H n},TT np G.P b F H n Q'->Q .normal F H n) (h:runq G (ro c).toList pl 0 F H n (CF np G b Q')) (hc:c=.region (rid c) (ro c) true:=by kernel_rfl) (hp:okPq G (ro c).toList B pl=true:=by kernel_rfl):TT np G.P c F H n Q:=by
 rw[hc];exact ttq B hp (runQ_mono (fun F H n h=>hQ h) h)
theorem Qn (B:List Nat) (pl:List (Nat×List Nat)) (h:runq G (ro c).toList pl 0 F H n (NK Q)) (hc:c=.region (rid c) (ro c) true:=by kernel_rfl) (hp:okPq G (ro c).toList B pl=true:=by kernel_rfl):TT np G.P c F H n Q:=by
 rw[hc];exact ttq B hp h
theorem Rj (F1:Fr) (H1:Hp) (n1:Nat) (h:∀K:RK,(∀F' H' n',fsub F1 F'->H'=H1->n'=n1->K F' H' n')->run0 G (ro (q1 c)).toList 0 F H n K) (k:TT np G.P (q2 c) F1 H1 n1 Q) (hc:c=.seq (.region (rid (q1 c)) (ro (q1 c)) false) (q2 c):=by kernel_rfl):TT np G.P c F H n Q:=h_jr F1 H1 n1 hc rfl h k
theorem Sq (h:∀K:RK,(∀{F H n},TT np G.P (q2 c) F H n Q->K F H n)->TT np G.P (q1 c) F H n (JK K Q)) (hc:c=.seq (q1 c) (q2 c):=by kernel_rfl):TT np G.P c F H n Q:=by
 rw[hc];exact ttvs fun K hK=>h K fun h=>hK _ _ _ h
theorem Sj {σ:Type} (Fi:σ->Fr) (Hi:σ->Hp) (I:σ->Prop) (n1:Nat) (k:∀x,I x->TT np G.P (q2 c) (Fi x) (Hi x) n1 Q) (h:(∀x,I x->TT np G.P (q2 c) (Fi x) (Hi x) n1 Q)->∀K:RK,(∀{F H n},TT np G.P (q2 c) F H n Q->K F H n)->TT np G.P (q1 c) F H n (JK K Q)) (hc:c=.seq (q1 c) (q2 c):=by kernel_rfl):TT np G.P c F H n Q:=Sq (h k) hc
def MJ (d:Nat) (m:Bool) (ko:List Nat) (F0:Fr) (H0:Hp) (n0:Nat):RK:=fun F H n=>gt F d=.bool m/\keepF ko F=keepF ko F0/\H=H0/\n=n0
theorem Rm (d:Nat) (m:Bool) (ko:List Nat) (h:run0 G (ro (q1 c)).toList 0 F H n (MJ d m ko F H n)) (k:TT np G.P (q2 c) ((d,.bool m)::keepF ko F) H n Q) (hc:c=.seq (.region (rid (q1 c)) (ro (q1 c)) false) (q2 c):=by kernel_rfl):TT np G.P c F H n Q:=
 Rr (runE_mono (fun F' H' n' ⟨h1,h2,h3,h4⟩=>by subst h3;subst h4;exact TT_weak (F':=(d,.bool m)::keepF ko F) ⟨h1,h2▸keepF_sub F' ko⟩ (List.Sublist.refl _) k) h) hc
theorem Qm (B:List Nat) (pl:List (Nat×List Nat)) (d:Nat) (m:Bool) (ko:List Nat) (h:runq G (ro (q1 c)).toList pl 0 F H n (MJ d m ko F H n)) (k:TT np G.P (q2 c) ((d,.bool m)::keepF ko F) H n Q) (hc:c=.seq (.region (rid (q1 c)) (ro (q1 c)) true) (q2 c):=by kernel_rfl) (hp:okPq G (ro (q1 c)).toList B pl=true:=by kernel_rfl):TT np G.P c F H n Q:=
 Qr B pl (runQ_mono (fun F' H' n' ⟨h1,h2,h3,h4⟩=>by subst h3;subst h4;exact TT_weak (F':=(d,.bool m)::keepF ko F) ⟨h1,h2▸keepF_sub F' ko⟩ (List.Sublist.refl _) k) h) hc hp
def selH:List Nat->Hp->Option (Hp×Hp)
 |[],H=>some ([],H)
 |i::is,H=>match hgt H i with
  |none=>none
  |some cs=>match selH is (hdel H i)with|some (a,r)=>some ((i,cs)::a,r)|none=>none
theorem hdel_prm:∀{H:Hp} {i:Nat} {cs:List AV},hgt H i=some cs->((i,cs)::hdel H i).Perm H
 |(j,o)::H,i,cs,h=>by
  simp only[hgt]at h
  cases e:j==i with
  |true=>
   rw[e]at h;simp only[cond_true,Option.some.injEq]at h;subst h
   rw[beq_iff_eq]at e;subst e
   simp only[hdel,beq_self_eq_true,cond_true];exact List.Perm.refl _
  |false=>
   rw[e]at h;simp only[cond_false]at h
   simp only[hdel,e,cond_false]
   exact(List.Perm.swap _ _ _).trans ((hdel_prm h).cons _)
theorem selH_perm:∀{is:List Nat} {H a r:Hp},selH is H=some (a,r)->(a++r).Perm H
 |[],_,_,_,h=>by simp only[selH,Option.some.injEq,Prod.mk.injEq]at h;obtain⟨rfl,rfl⟩:=h;exact List.Perm.refl _
 |i::is,H,a,r,h=>by
  simp only[selH]at h
  cases hg:hgt H i with
  |none=>rw[hg]at h;cases h
  |some cs=>
   rw[hg]at h
   dsimp only at h
   cases hs:selH is (hdel H i)with
   |none=>rw[hs]at h;cases h
   |some p=>
    obtain⟨a',r'⟩:=p
    rw[hs]at h
    simp only[Option.some.injEq,Prod.mk.injEq]at h
    obtain⟨rfl,rfl⟩:=h
    exact((selH_perm hs).cons _).trans (hdel_prm hg)
def slHm:List Bool->Hp->Prop
 |true::m,(_,cs)::H=>slps cs/\slHm m H
 |false::m,(_,cs)::H=>purs cs=true/\slHm m H
 |_,_=>True
def rnHm (mp:List (Nat×Nat)):List Bool->Hp->Hp
 |b::m,(i,cs)::H=>((lkm mp i).getD 0,bif b then rns mp cs else cs)::rnHm mp m H
 |_,_=>[]
def okH (mp:List (Nat×Nat)):List Bool->Hp->Bool
 |_::m,(i,_)::H=>(lkm mp i).isSome&&okH mp m H
 |[],[]=>true
 |_,_=>false
theorem rnR_of {mp:List (Nat×Nat)}:∀{m:List Bool} {H:Hp},okH mp m H=true->slHm m H->rnR mp H (rnHm mp m H)
 |[],[],_,_=>by simp only[rnHm,rnR]
 |true::m,(i,cs)::H,h,k=>by
  simp only[okH,Bool.and_eq_true,slHm]at h k
  simp only[rnHm,rnR,cond_true]
  obtain⟨j,hj⟩:=Option.isSome_iff_exists.1 h.1
  exact⟨by rw[hj];rfl,.inr ⟨k.1,rfl⟩,rnR_of h.2 k.2⟩
 |false::m,(i,cs)::H,h,k=>by
  simp only[okH,Bool.and_eq_true,slHm]at h k
  simp only[rnHm,rnR,cond_false]
  obtain⟨j,hj⟩:=Option.isSome_iff_exists.1 h.1
  exact⟨by rw[hj];rfl,.inl ⟨k.1,rfl⟩,rnR_of h.2 k.2⟩
 |[],_::_,h,_=>by simp[okH]at h
 |true::_,[],h,_=>by simp[okH]at h
 |false::_,[],h,_=>by simp[okH]at h
theorem Lr {σ:Type} {Fi:σ->Fr} {Hi:σ->Hp} {I:σ->Nat->Prop} {m:σ->Nat} {x:σ} (y:σ) (mp:List (Nat×Nat)) (n':Nat) (F1:Fr) (H1:Hp) (k:List Bool) (h1:m y<m x) (h2:I y n') (hH:rnHm mp k H1=Hi y) (hF:rnF mp F1=Fi y)
  (hs:slF F1/\slHm k H1:=by simp only[slHm,slF,slp,slps,go_sem,and_self]) (h3:(okm mp n'&&(okp mp np&&okH mp k H1))=true:=by kernel_rfl) (h4:keepF (F1.map (·.1)) F=F1:=by kernel_rfl) (h5:(selH (H1.map (·.1)) H).map Prod.fst=some H1:=by kernel_rfl):LR np Fi Hi I m x Q .normal F H n:=by
 simp only[Bool.and_eq_true]at h3
 cases hs5:selH (H1.map (·.1)) H with
 |none=>rw[hs5]at h5;cases h5
 |some p=>
  obtain⟨a,r⟩:=p
  rw[hs5]at h5
  simp only[Option.map_some,Option.some.injEq]at h5
  subst h5
  exact⟨y,mp,n',F1,_,h1,h2,⟨h3.1,h3.2.1⟩,h4▸keepF_sub F _,⟨_,selH_perm hs5,List.sublist_append_left _ _⟩,⟨hs.1,hF⟩,hH▸rnR_of h3.2.2 hs.2⟩
theorem Tr2 {σ:Type} {Fi:σ->Fr} {Hi:σ->Hp} {I:σ->Prop} {n1:Nat} (hJ:∀x,I x->TT np G.P c (Fi x) (Hi x) n1 Q) (y:σ) (mp:List (Nat×Nat)) (F1:Fr) (H1:Hp) (k:List Bool) (h2:I y) (hH:rnHm mp k H1=Hi y) (hF:rnF mp F1=Fi y)
  (hs:slF F1/\slHm k H1:=by simp only[slHm,slF,slp,slps,go_sem,and_self]) (h3:(okm mp n1&&(okp mp np&&okH mp k H1))=true:=by kernel_rfl) (h4:keepF (F1.map (·.1)) F=F1:=by kernel_rfl) (h5:(selH (H1.map (·.1)) H).map Prod.fst=some H1:=by kernel_rfl):TT np G.P c F H n Q:=by
 simp only[Bool.and_eq_true]at h3
 cases hs5:selH (H1.map (·.1)) H with
 |none=>rw[hs5]at h5;cases h5
 |some p=>
  obtain⟨a,r⟩:=p
  rw[hs5]at h5
  simp only[Option.map_some,Option.some.injEq]at h5
  subst h5
  exact h_pm (selH_perm hs5) (h_rn mp n1 F1 _ _ _ h3.1 h3.2.1 (h4▸keepF_sub F _) (List.sublist_append_left _ _) ⟨hs.1,hF⟩ (hH▸rnR_of h3.2.2 hs.2) (hJ y h2))
theorem Hn (H':Hp) (h:TT np G.P c F H' n Q) (e:H=H':=by kernel_rfl):TT np G.P c F H n Q:=e▸h
theorem Fz (i s l:Nat) (es:List (List AV)) (cs:List AV) (F1:Fr) (H1:Hp) (m:List Bool) (he:chk s l cs=es) (hl:l*s<=cs.length) (h:TT np G.P c (fqF i s es cs F1) (fqH i s es cs m H1) n Q)
  (hF:oqF i s l F1:=by simp only[oqF,oq,oqs,go_sem,and_self,reduceIte,Nat.reduceEqDiff]) (hH:oqR i s l m H1:=by simp only[oqR,oqs,oq,go_sem,and_self,reduceIte,Nat.reduceEqDiff]) (hg:hgt (kpH (i::H1.map (·.1)) H) i=some cs:=by kernel_rfl) (h5:hdel (kpH (i::H1.map (·.1)) H) i=H1:=by kernel_rfl) (h4:keepF (F1.map (·.1)) F=F1:=by kernel_rfl):TT np G.P c F H n Q:=by
 refine TT_weak (F':=F1) (H':=kpH (i::H1.map (·.1)) H) (h4▸keepF_sub F _) List.filter_sublist (TT_fz i hg ?_)
 rw[fqF_eq he hl F1 hF,h5,fqR_eq he hl (fqR_of _ _ hH)]
 exact h
theorem FzS (i:Nat) (X:List Str) (F1:Fr) (H1:Hp) (m:List Bool) (h:TT np G.P c (fqF i 1 (X.map fun s=>[AV.str s]) (fl sc X) F1) (fqH i 1 (X.map fun s=>[AV.str s]) (fl sc X) m H1) n Q)
  (hF:oqF i 1 X.length F1:=by simp only[oqF,oq,oqs,go_sem,and_self,reduceIte,Nat.reduceEqDiff]) (hH:oqR i 1 X.length m H1:=by simp only[oqR,oqs,oq,go_sem,and_self,reduceIte,Nat.reduceEqDiff]) (hg:hgt (kpH (i::H1.map (·.1)) H) i=some (fl sc X):=by kernel_rfl) (h5:hdel (kpH (i::H1.map (·.1)) H) i=H1:=by kernel_rfl) (h4:keepF (F1.map (·.1)) F=F1:=by kernel_rfl):TT np G.P c F H n Q:=Fz i 1 X.length _ _ F1 H1 m (chkS X) (flS_le X) h hF hH hg h5 h4
theorem FzT (i:Nat) (X:List Tr) (F1:Fr) (H1:Hp) (m:List Bool) (h:TT np G.P c (fqF i 5 (X.map trc) (fl trc X) F1) (fqH i 5 (X.map trc) (fl trc X) m H1) n Q)
  (hF:oqF i 5 X.length F1:=by simp only[oqF,oq,oqs,go_sem,and_self,reduceIte,Nat.reduceEqDiff]) (hH:oqR i 5 X.length m H1:=by simp only[oqR,oqs,oq,go_sem,and_self,reduceIte,Nat.reduceEqDiff]) (hg:hgt (kpH (i::H1.map (·.1)) H) i=some (fl trc X):=by kernel_rfl) (h5:hdel (kpH (i::H1.map (·.1)) H) i=H1:=by kernel_rfl) (h4:keepF (F1.map (·.1)) F=F1:=by kernel_rfl):TT np G.P c F H n Q:=Fz i 5 X.length _ _ F1 H1 m (chkT X) (flT_le X) h hF hH hg h5 h4
theorem Tz {f:Nat} {args:List AV} {Qc:CPost} (i s l:Nat) (es:List (List AV)) (cs:List AV) (args':List AV) (H1:Hp) (m:List Bool) (he:chk s l cs=es) (hl:l*s<=cs.length) (h:TCall G f args' (fqH i s es cs m H1) n Qc)
  (hA:oqs i s l args:=by simp only[oqs,oq,go_sem,and_self,reduceIte,Nat.reduceEqDiff]) (hA2:fqs i s es cs args=args':=by kernel_rfl) (hH:oqR i s l m H1:=by simp only[oqR,oqs,oq,go_sem,and_self,reduceIte,Nat.reduceEqDiff]) (hg:hgt H i=some cs:=by kernel_rfl) (h5:hdel H i=H1:=by kernel_rfl):TCall G f args H n Qc:=
 tc_fz i s l es cs args' H1 _ hg he hl h5 ⟨hA,hA2⟩ (fqR_of _ _ hH) h
theorem Bl (h:TT np G.P (bk c) F H n (BK (rid c) Q)) (hc:c=.block (rid c) (bk c):=by kernel_rfl):TT np G.P c F H n Q:=h_b hc h
theorem Cc (t:Bool) {U V:Prop} [bf:BF t U V] (hx:t=true->U->TT np G.P (ct c) F H n Q) (hy:t=false->V->TT np G.P (cf c) F H n Q) (hc:c=.cond (cx c) (ct c) (cf c):=by kernel_rfl) (hv:ev F (cx c)=.bool t:=by kernel_rfl):TT np G.P c F H n Q:=h_c hc hv (fun h=>hx h (bf.pt h)) (fun h=>hy h (bf.pf h))
theorem Rg {G:Prg} {L:List Oper} {k d:Nat} {F:Fr} {H:Hp} {n:Nat} {K:RK} {t:Bool} {U V:Prop} [bf:BF t U V] (h1:t=true->U->run0 G L k ((d,.bool true)::F) H n K) (h2:t=false->V->run0 G L k ((d,.bool false)::F) H n K):run0 G L k ((d,.bool t)::F) H n K:=run_b (fun h=>h1 h (bf.pt h)) (fun h=>h2 h (bf.pf h))
theorem Qg {G:Prg} {L:List Oper} {pl:List (Nat×List Nat)} {k d:Nat} {F:Fr} {H:Hp} {n:Nat} {K:RK} {t:Bool} {U V:Prop} [bf:BF t U V] (h1:t=true->U->runq G L pl k ((d,.bool true)::F) H n K) (h2:t=false->V->runq G L pl k ((d,.bool false)::F) H n K):runq G L pl k ((d,.bool t)::F) H n K:=runq_b (fun h=>h1 h (bf.pt h)) (fun h=>h2 h (bf.pf h))
theorem Ct (hx:TT np G.P (ct c) F H n Q) (hc:c=.cond (cx c) (ct c) (cf c):=by kernel_rfl) (hv:ev F (cx c)=.bool true:=by kernel_rfl):TT np G.P c F H n Q:=h_ct hc hv hx
theorem Cf (hx:TT np G.P (cf c) F H n Q) (hc:c=.cond (cx c) (ct c) (cf c):=by kernel_rfl) (hv:ev F (cx c)=.bool false:=by kernel_rfl):TT np G.P c F H n Q:=h_cf hc hv hx
theorem C1 {t:Bool} (ht:t=true) (hx:TT np G.P (ct c) F H n Q) (hc:c=.cond (cx c) (ct c) (cf c):=by kernel_rfl) (hv:ev F (cx c)=.bool t:=by kernel_rfl):TT np G.P c F H n Q:=h_c1 hc hv ht hx
theorem Sk (h:Q .normal F H n) (hc:c=.skip:=by kernel_rfl):TT np G.P c F H n Q:=h_skip hc h
theorem Xt (h:Q (.exit (rid c)) F H n) (hc:c=.exit (rid c):=by kernel_rfl):TT np G.P c F H n Q:=h_exit hc h
theorem Kp (ks:List Nat) (h:TT np G.P c (keepF ks F) H n Q):TT np G.P c F H n Q:=TT_weak (keepF_sub F ks) (List.Sublist.refl _) h
theorem Jn (h:K F H n):JK K Q .normal F H n:=h
theorem Bn (h:Q .normal F H n):BK i Q .normal F H n:=h
theorem Jx (h:Q (.exit j) F H n):JK K Q (.exit j) F H n:=h
theorem Bh (h:Q .normal F H n) (e:(j==i)=true:=by kernel_rfl):BK i Q (.exit j) F H n:=by
 simp only[BK,e,cond_true];exact h
theorem Lx {σ:Type} {Fi:σ->Fr} {Hi:σ->Hp} {I:σ->Nat->Prop} {m:σ->Nat} {x:σ} (h:Q (.exit j) F H n):LR np Fi Hi I m x Q (.exit j) F H n:=h
theorem Lkx {σ:Type} {Fi:σ->Fr} {Hi:σ->Hp} {I:σ->Nat->Prop} {m:σ->Nat} {x:σ} (h:Q (.exit j) F H n):LK Fi Hi I m x Q (.exit j) F H n:=h
theorem Rt {rs:Array ResultVar} {Qc:CPost} [hb:Btm Q (RQ G rs Qc)] (R:AV) (h:Fin Qc R H n) (hc:c=.ret:=by kernel_rfl) (e:∀X:AV->Prop,rq G F H n (fun vs=>X (mkr vs)) rs.toList []=X R:=by intro X;kernel_rfl):TT np G.P c F H n Q:=by
 refine h_ret hc (hb.of ?_)
 show rq G F H n (fun vs=>Fin Qc (mkr vs) H n) rs.toList []
 rw[e fun r=>Fin Qc r H n];exact h
theorem Rt1 {rs:Array ResultVar} {Qc:CPost} [hb:Btm Q (RQ G rs Qc)] (P:Prop->Prop) (R:AV) (h:P (Fin Qc R H n)) (hc:c=.ret:=by kernel_rfl) (e:∀X:AV->Prop,rq G F H n (fun vs=>X (mkr vs)) rs.toList []=P (X R):=by intro X;kernel_rfl):TT np G.P c F H n Q:=by
 refine h_ret hc (hb.of ?_)
 show rq G F H n (fun vs=>Fin Qc (mkr vs) H n) rs.toList []
 rw[e fun r=>Fin Qc r H n];exact h
theorem Rtn {rs:Array ResultVar} {Qc:CPost} (P:Prop->Prop) (R:AV) (h:P (Fin Qc R H n)) (e:∀X:AV->Prop,rq G F H n (fun vs=>X (mkr vs)) rs.toList []=P (X R):=by intro X;kernel_rfl):RQ G rs Qc .normal F H n:=by
 show rq G F H n (fun vs=>Fin Qc (mkr vs) H n) rs.toList []
 rw[e fun r=>Fin Qc r H n];exact h
theorem Ke {r:AV} (h:runE G L (L.drop k) ((d,r)::F) H n K):KE d F (fun F H n=>runE G L (L.drop k) F H n K) r H n:=h
theorem Kq {r:AV} {us:List Nat} {p:Prop} (hp:p) (h:runQ G L (pl.drop k) ((d,r)::F) H n K) (e:stq G L ((d,r)::F) H n us=p:=by kernel_rfl):KQ G L us d F (fun F H n=>runQ G L (pl.drop k) F H n K) r H n:=⟨e▸hp,h⟩
end
def Hw (ch:Hp) (dl:List Nat):Hp->Hp
 |[]=>[]
 |(i,cs)::H=>bif dl.any (Nat.beq i)then Hw ch dl H else(i,(hgt ch i).getD cs)::Hw ch dl H
theorem lnm {α:Type} (X:List α) (f:α->List AV):AV.int .i64 ((X.map f).length:Nat)=.int .i64 (X.length:Nat):=by rw[List.length_map]
section
variable {G:Prg} {L:List Oper} {pl:List (Nat×List Nat)} {k:Nat} {F:Fr} {H:Hp} {n:Nat} {K:RK} {np:Nat} {b:Code} {Q:Post}
theorem Fn3 (ko:List Nat) (vs:Fr) (J:Hp->Hp) (n':Nat) (P:Prop->Prop) (h:P (TT np G.P b (mx vs ko F) (J H) n' Q)) (e:∀X:RK,runE G L (L.drop k) F H n (fun F' H' n'=>X (keepF (ks1 vs ko) F') H' n')=P (X (mx vs ko F) (J H) n'):=by intro X;kernel_rfl):runE G L (L.drop k) F H n (CF np G b Q):=by
 have h2:runE G L (L.drop k) F H n (fun F' H' n'=>TT np G.P b (keepF (ks1 vs ko) F') H' n' Q):=by rw[e fun F H n=>TT np G.P b F H n Q];exact h
 exact runE_mono (fun F' H' n' k=>TT_weak (keepF_sub F' _) (List.Sublist.refl _) k) h2
theorem Fn0 (ko:List Nat) (vs:Fr) (h:TT np G.P b (mx vs ko F) H n Q) (e:∀X:RK,runE G L (L.drop k) F H n (fun F' H' n'=>X (keepF (ks1 vs ko) F') H' n')=X (mx vs ko F) H n:=by intro X;kernel_rfl):runE G L (L.drop k) F H n (CF np G b Q):=Fn3 ko vs (fun H=>H) n (fun Z=>Z) h e
theorem Fn1 (ko:List Nat) (vs:Fr) (P:Prop->Prop) (h:P (TT np G.P b (mx vs ko F) H n Q)) (e:∀X:RK,runE G L (L.drop k) F H n (fun F' H' n'=>X (keepF (ks1 vs ko) F') H' n')=P (X (mx vs ko F) H n):=by intro X;kernel_rfl):runE G L (L.drop k) F H n (CF np G b Q):=Fn3 ko vs (fun H=>H) n P h e
theorem Fn2 (ko:List Nat) (vs:Fr) (J:Hp->Hp) (n':Nat) (h:TT np G.P b (mx vs ko F) (J H) n' Q) (e:∀X:RK,runE G L (L.drop k) F H n (fun F' H' n'=>X (keepF (ks1 vs ko) F') H' n')=X (mx vs ko F) (J H) n':=by intro X;kernel_rfl):runE G L (L.drop k) F H n (CF np G b Q):=Fn3 ko vs J n' (fun Z=>Z) h e
theorem Cn3 (t:Bool) {U V:Prop} [bf:BF t U V] (ko:List Nat) (vs:Fr) (J:Hp->Hp) (n':Nat) (P:Prop->Prop) (h:P ((t=true->U->TT np G.P (ct b) (mx vs ko F) (J H) n' Q)/\(t=false->V->TT np G.P (cf b) (mx vs ko F) (J H) n' Q))) (hc:b=.cond (cx b) (ct b) (cf b):=by kernel_rfl) (e:∀X:AV->RK,runE G L (L.drop k) F H n (fun F' H' n'=>X (ev F' (cx b)) (keepF (ks1 vs ko) F') H' n')=P (X (.bool t) (mx vs ko F) (J H) n'):=by intro X;kernel_rfl):runE G L (L.drop k) F H n (CF np G b Q):=by
 let X:AV->RK:=fun v F H n=>v=.bool t/\(t=true->U->TT np G.P (ct b) F H n Q)/\(t=false->V->TT np G.P (cf b) F H n Q)
 have hX:X (.bool t) (mx vs ko F) (J H) n'=((t=true->U->TT np G.P (ct b) (mx vs ko F) (J H) n' Q)/\(t=false->V->TT np G.P (cf b) (mx vs ko F) (J H) n' Q)):=propext ⟨fun h=>h.2,fun h=>⟨rfl,h⟩⟩
 have h2:runE G L (L.drop k) F H n (fun F' H' n'=>X (ev F' (cx b)) (keepF (ks1 vs ko) F') H' n'):=by rw[e X,hX];exact h
 refine runE_mono (fun F' H' n' k=>?_) h2
 obtain⟨h1,h2,h3⟩:=k
 exact h_c hc h1 (fun h=>TT_weak (keepF_sub F' _) (List.Sublist.refl _) (h2 h (bf.pt h))) (fun h=>TT_weak (keepF_sub F' _) (List.Sublist.refl _) (h3 h (bf.pf h)))
theorem Cn0 (t:Bool) {U V:Prop} [bf:BF t U V] (ko:List Nat) (vs:Fr) (h:(t=true->U->TT np G.P (ct b) (mx vs ko F) H n Q)/\(t=false->V->TT np G.P (cf b) (mx vs ko F) H n Q)) (hc:b=.cond (cx b) (ct b) (cf b):=by kernel_rfl) (e:∀X:AV->RK,runE G L (L.drop k) F H n (fun F' H' n'=>X (ev F' (cx b)) (keepF (ks1 vs ko) F') H' n')=X (.bool t) (mx vs ko F) H n:=by intro X;kernel_rfl):runE G L (L.drop k) F H n (CF np G b Q):=Cn3 t ko vs (fun H=>H) n (fun Z=>Z) h hc e
theorem Cn1 (t:Bool) {U V:Prop} [bf:BF t U V] (ko:List Nat) (vs:Fr) (P:Prop->Prop) (h:P ((t=true->U->TT np G.P (ct b) (mx vs ko F) H n Q)/\(t=false->V->TT np G.P (cf b) (mx vs ko F) H n Q))) (hc:b=.cond (cx b) (ct b) (cf b):=by kernel_rfl) (e:∀X:AV->RK,runE G L (L.drop k) F H n (fun F' H' n'=>X (ev F' (cx b)) (keepF (ks1 vs ko) F') H' n')=P (X (.bool t) (mx vs ko F) H n):=by intro X;kernel_rfl):runE G L (L.drop k) F H n (CF np G b Q):=Cn3 t ko vs (fun H=>H) n P h hc e
theorem Gn3 (vs:Fr) (J:Hp->Hp) (n':Nat) (P:Prop->Prop) (h:P (K (vs++F) (J H) n')) (e:∀X:RK,runE G L (L.drop k) F H n X=P (X (vs++F) (J H) n'):=by intro X;kernel_rfl):runE G L (L.drop k) F H n K:=by rw[e K];exact h
theorem Gn0 (vs:Fr) (h:K (vs++F) H n) (e:∀X:RK,runE G L (L.drop k) F H n X=X (vs++F) H n:=by intro X;kernel_rfl):runE G L (L.drop k) F H n K:=Gn3 vs (fun H=>H) n (fun Z=>Z) h e
theorem Gn1 (vs:Fr) (P:Prop->Prop) (h:P (K (vs++F) H n)) (e:∀X:RK,runE G L (L.drop k) F H n X=P (X (vs++F) H n):=by intro X;kernel_rfl):runE G L (L.drop k) F H n K:=Gn3 vs (fun H=>H) n P h e
theorem Mn3 {d:Nat} {m:Bool} {ko:List Nat} {F0:Fr} {H0:Hp} {n0:Nat} (b:Bool) (J:Hp->Hp) (n':Nat) (P:Prop->Prop) (h:P (b=m)) (e:∀X:AV->RK,runE G L (L.drop k) F H n (fun F' H' n'=>X (gt F' d) (keepF ko F') H' n')=P (X (.bool b) (keepF ko F0) H0 n0):=by intro X;kernel_rfl):runE G L (L.drop k) F H n (MJ d m ko F0 H0 n0):=by
 refine runE_mono (fun F' H' n' k=>?_) ((e fun v F H n=>v=AV.bool m/\F=keepF ko F0/\H=H0/\n=n0)▸(?_:P (_)))
 ·exact⟨k.1,k.2.1,k.2.2.1,k.2.2.2⟩
 ·have:(AV.bool b=.bool m/\keepF ko F0=keepF ko F0/\H0=H0/\n0=n0)=(b=m):=propext ⟨fun h=>by injection h.1,fun h=>⟨by rw[h],rfl,rfl,rfl⟩⟩
  rw[this];exact h
theorem Mn0 {d:Nat} {m:Bool} {ko:List Nat} {F0:Fr} {H0:Hp} {n0:Nat} (b:Bool) (h:b=m) (e:∀X:AV->RK,runE G L (L.drop k) F H n (fun F' H' n'=>X (gt F' d) (keepF ko F') H' n')=X (.bool b) (keepF ko F0) H0 n0:=by intro X;kernel_rfl):runE G L (L.drop k) F H n (MJ d m ko F0 H0 n0):=Mn3 b (fun H=>H) n (fun Z=>Z) h e
theorem Mn1 {d:Nat} {m:Bool} {ko:List Nat} {F0:Fr} {H0:Hp} {n0:Nat} (b:Bool) (P:Prop->Prop) (h:P (b=m)) (e:∀X:AV->RK,runE G L (L.drop k) F H n (fun F' H' n'=>X (gt F' d) (keepF ko F') H' n')=P (X (.bool b) (keepF ko F0) H0 n0):=by intro X;kernel_rfl):runE G L (L.drop k) F H n (MJ d m ko F0 H0 n0):=Mn3 b (fun H=>H) n P h e
theorem Av3 (j d:Nat) (vs:Fr) {r v:AV} (pf:r=v) (J:Hp->Hp) (n':Nat) (P:Prop->Prop) (h:P (runE G L (L.drop (k+j)) ((d,v)::(vs++F)) (J H) n' K)) (e:∀X:RK,runE G L ((L.drop k).take j) F H n X=P (X ((d,r)::(vs++F)) (J H) n'):=by intro X;kernel_rfl):runE G L (L.drop k) F H n K:=by
 subst pf
 have:=runE_app (bs:=L.drop (k+j)) (K:=K) (by rw[e fun F H n=>runE G L (L.drop (k+j)) F H n K];exact h)
 rwa[<-List.drop_drop,List.take_append_drop]at this
theorem Av0 (j d:Nat) (vs:Fr) {r v:AV} (pf:r=v) (h:runE G L (L.drop (k+j)) ((d,v)::(vs++F)) H n K) (e:∀X:RK,runE G L ((L.drop k).take j) F H n X=X ((d,r)::(vs++F)) H n:=by intro X;kernel_rfl):runE G L (L.drop k) F H n K:=Av3 j d vs pf (fun H=>H) n (fun Z=>Z) h e
theorem Av1 (j d:Nat) (vs:Fr) {r v:AV} (pf:r=v) (P:Prop->Prop) (h:P (runE G L (L.drop (k+j)) ((d,v)::(vs++F)) H n K)) (e:∀X:RK,runE G L ((L.drop k).take j) F H n X=P (X ((d,r)::(vs++F)) H n):=by intro X;kernel_rfl):runE G L (L.drop k) F H n K:=Av3 j d vs pf (fun H=>H) n P h e
theorem An3 (j:Nat) (vs:Fr) (J:Hp->Hp) (n':Nat) (P:Prop->Prop) (h:P (runE G L (L.drop (k+j)) (vs++F) (J H) n' K)) (e:∀X:RK,runE G L ((L.drop k).take j) F H n X=P (X (vs++F) (J H) n'):=by intro X;kernel_rfl):runE G L (L.drop k) F H n K:=by
 have:=runE_app (bs:=L.drop (k+j)) (K:=K) (by rw[e fun F H n=>runE G L (L.drop (k+j)) F H n K];exact h)
 rwa[<-List.drop_drop,List.take_append_drop]at this
theorem An0 (j:Nat) (vs:Fr) (h:runE G L (L.drop (k+j)) (vs++F) H n K) (e:∀X:RK,runE G L ((L.drop k).take j) F H n X=X (vs++F) H n:=by intro X;kernel_rfl):runE G L (L.drop k) F H n K:=An3 j vs (fun H=>H) n (fun Z=>Z) h e
theorem An1 (j:Nat) (vs:Fr) (P:Prop->Prop) (h:P (runE G L (L.drop (k+j)) (vs++F) H n K)) (e:∀X:RK,runE G L ((L.drop k).take j) F H n X=P (X (vs++F) H n):=by intro X;kernel_rfl):runE G L (L.drop k) F H n K:=An3 j vs (fun H=>H) n P h e
theorem Bc3 (j:Nat) (vs:Fr) (f:Nat) (args:List AV) (d:Nat) (J:Hp->Hp) (n':Nat) (P:Prop->Prop) (h:P (TCall G f args (J H) n' (KE d (vs++F) (fun F H n=>runE G L (L.drop (k+j)) F H n K)))) (e:∀X:RK,runE G L ((L.drop k).take j) F H n X=P (TCall G f args (J H) n' (KE d (vs++F) X)):=by intro X;kernel_rfl):runE G L (L.drop k) F H n K:=by
 have:=runE_app (bs:=L.drop (k+j)) (K:=K) (by rw[e fun F H n=>runE G L (L.drop (k+j)) F H n K];exact h)
 rwa[<-List.drop_drop,List.take_append_drop]at this
theorem Bc0 (j:Nat) (vs:Fr) (f:Nat) (args:List AV) (d:Nat) (h:TCall G f args H n (KE d (vs++F) (fun F H n=>runE G L (L.drop (k+j)) F H n K))) (e:∀X:RK,runE G L ((L.drop k).take j) F H n X=TCall G f args H n (KE d (vs++F) X):=by intro X;kernel_rfl):runE G L (L.drop k) F H n K:=Bc3 j vs f args d (fun H=>H) n (fun Z=>Z) h e
theorem Bc1 (j:Nat) (vs:Fr) (f:Nat) (args:List AV) (d:Nat) (P:Prop->Prop) (h:P (TCall G f args H n (KE d (vs++F) (fun F H n=>runE G L (L.drop (k+j)) F H n K)))) (e:∀X:RK,runE G L ((L.drop k).take j) F H n X=P (TCall G f args H n (KE d (vs++F) X)):=by intro X;kernel_rfl):runE G L (L.drop k) F H n K:=Bc3 j vs f args d (fun H=>H) n P h e
theorem Pc0 (j:Nat) (vs:Fr) (d:Nat) {f:Nat} {args:List AV} {r:AV} (pf:PE G f args r) (h:runE G L (L.drop (k+j)) ((d,r)::(vs++F)) H n K) (e:∀X:RK,runE G L ((L.drop k).take j) F H n X=TCall G f args H n (KE d (vs++F) X):=by intro X;kernel_rfl):runE G L (L.drop k) F H n K:=Bc0 j vs f args d (PE.use pf h) e
theorem Pc1 (j:Nat) (vs:Fr) (d:Nat) (P:Prop) {f:Nat} {args:List AV} {r:AV} (hP:P) (pf:PE G f args r) (h:runE G L (L.drop (k+j)) ((d,r)::(vs++F)) H n K) (e:∀X:RK,runE G L ((L.drop k).take j) F H n X=(P/\TCall G f args H n (KE d (vs++F) X)):=by intro X;kernel_rfl):runE G L (L.drop k) F H n K:=Bc1 j vs f args d (P/\·) ⟨hP,PE.use pf h⟩ e
theorem qFn3 (ko:List Nat) (vs:Fr) (J:Hp->Hp) (n':Nat) (P:Prop->Prop) (h:P (TT np G.P b (mx vs ko F) (J H) n' Q)) (e:∀X:RK,runQ G L (pl.drop k) F H n (fun F' H' n'=>X (keepF (ks1 vs ko) F') H' n')=P (X (mx vs ko F) (J H) n'):=by intro X;kernel_rfl):runQ G L (pl.drop k) F H n (CF np G b Q):=by
 have h2:runQ G L (pl.drop k) F H n (fun F' H' n'=>TT np G.P b (keepF (ks1 vs ko) F') H' n' Q):=by rw[e fun F H n=>TT np G.P b F H n Q];exact h
 exact runQ_mono (fun F' H' n' k=>TT_weak (keepF_sub F' _) (List.Sublist.refl _) k) h2
theorem qFn0 (ko:List Nat) (vs:Fr) (h:TT np G.P b (mx vs ko F) H n Q) (e:∀X:RK,runQ G L (pl.drop k) F H n (fun F' H' n'=>X (keepF (ks1 vs ko) F') H' n')=X (mx vs ko F) H n:=by intro X;kernel_rfl):runQ G L (pl.drop k) F H n (CF np G b Q):=qFn3 ko vs (fun H=>H) n (fun Z=>Z) h e
theorem qFn1 (ko:List Nat) (vs:Fr) (P:Prop->Prop) (h:P (TT np G.P b (mx vs ko F) H n Q)) (e:∀X:RK,runQ G L (pl.drop k) F H n (fun F' H' n'=>X (keepF (ks1 vs ko) F') H' n')=P (X (mx vs ko F) H n):=by intro X;kernel_rfl):runQ G L (pl.drop k) F H n (CF np G b Q):=qFn3 ko vs (fun H=>H) n P h e
theorem qCn3 (t:Bool) {U V:Prop} [bf:BF t U V] (ko:List Nat) (vs:Fr) (J:Hp->Hp) (n':Nat) (P:Prop->Prop) (h:P ((t=true->U->TT np G.P (ct b) (mx vs ko F) (J H) n' Q)/\(t=false->V->TT np G.P (cf b) (mx vs ko F) (J H) n' Q))) (hc:b=.cond (cx b) (ct b) (cf b):=by kernel_rfl) (e:∀X:AV->RK,runQ G L (pl.drop k) F H n (fun F' H' n'=>X (ev F' (cx b)) (keepF (ks1 vs ko) F') H' n')=P (X (.bool t) (mx vs ko F) (J H) n'):=by intro X;kernel_rfl):runQ G L (pl.drop k) F H n (CF np G b Q):=by
 let X:AV->RK:=fun v F H n=>v=.bool t/\(t=true->U->TT np G.P (ct b) F H n Q)/\(t=false->V->TT np G.P (cf b) F H n Q)
 have hX:X (.bool t) (mx vs ko F) (J H) n'=((t=true->U->TT np G.P (ct b) (mx vs ko F) (J H) n' Q)/\(t=false->V->TT np G.P (cf b) (mx vs ko F) (J H) n' Q)):=propext ⟨fun h=>h.2,fun h=>⟨rfl,h⟩⟩
 have h2:runQ G L (pl.drop k) F H n (fun F' H' n'=>X (ev F' (cx b)) (keepF (ks1 vs ko) F') H' n'):=by rw[e X,hX];exact h
 refine runQ_mono (fun F' H' n' k=>?_) h2
 obtain⟨h1,h2,h3⟩:=k
 exact h_c hc h1 (fun h=>TT_weak (keepF_sub F' _) (List.Sublist.refl _) (h2 h (bf.pt h))) (fun h=>TT_weak (keepF_sub F' _) (List.Sublist.refl _) (h3 h (bf.pf h)))
theorem qCn0 (t:Bool) {U V:Prop} [bf:BF t U V] (ko:List Nat) (vs:Fr) (h:(t=true->U->TT np G.P (ct b) (mx vs ko F) H n Q)/\(t=false->V->TT np G.P (cf b) (mx vs ko F) H n Q)) (hc:b=.cond (cx b) (ct b) (cf b):=by kernel_rfl) (e:∀X:AV->RK,runQ G L (pl.drop k) F H n (fun F' H' n'=>X (ev F' (cx b)) (keepF (ks1 vs ko) F') H' n')=X (.bool t) (mx vs ko F) H n:=by intro X;kernel_rfl):runQ G L (pl.drop k) F H n (CF np G b Q):=qCn3 t ko vs (fun H=>H) n (fun Z=>Z) h hc e
theorem qCn1 (t:Bool) {U V:Prop} [bf:BF t U V] (ko:List Nat) (vs:Fr) (P:Prop->Prop) (h:P ((t=true->U->TT np G.P (ct b) (mx vs ko F) H n Q)/\(t=false->V->TT np G.P (cf b) (mx vs ko F) H n Q))) (hc:b=.cond (cx b) (ct b) (cf b):=by kernel_rfl) (e:∀X:AV->RK,runQ G L (pl.drop k) F H n (fun F' H' n'=>X (ev F' (cx b)) (keepF (ks1 vs ko) F') H' n')=P (X (.bool t) (mx vs ko F) H n):=by intro X;kernel_rfl):runQ G L (pl.drop k) F H n (CF np G b Q):=qCn3 t ko vs (fun H=>H) n P h hc e
theorem qGn3 (vs:Fr) (J:Hp->Hp) (n':Nat) (P:Prop->Prop) (h:P (K (vs++F) (J H) n')) (e:∀X:RK,runQ G L (pl.drop k) F H n X=P (X (vs++F) (J H) n'):=by intro X;kernel_rfl):runQ G L (pl.drop k) F H n K:=by rw[e K];exact h
theorem qGn0 (vs:Fr) (h:K (vs++F) H n) (e:∀X:RK,runQ G L (pl.drop k) F H n X=X (vs++F) H n:=by intro X;kernel_rfl):runQ G L (pl.drop k) F H n K:=qGn3 vs (fun H=>H) n (fun Z=>Z) h e
theorem qMn3 {d:Nat} {m:Bool} {ko:List Nat} {F0:Fr} {H0:Hp} {n0:Nat} (b:Bool) (J:Hp->Hp) (n':Nat) (P:Prop->Prop) (h:P (b=m)) (e:∀X:AV->RK,runQ G L (pl.drop k) F H n (fun F' H' n'=>X (gt F' d) (keepF ko F') H' n')=P (X (.bool b) (keepF ko F0) H0 n0):=by intro X;kernel_rfl):runQ G L (pl.drop k) F H n (MJ d m ko F0 H0 n0):=by
 refine runQ_mono (fun F' H' n' k=>?_) ((e fun v F H n=>v=AV.bool m/\F=keepF ko F0/\H=H0/\n=n0)▸(?_:P (_)))
 ·exact⟨k.1,k.2.1,k.2.2.1,k.2.2.2⟩
 ·have:(AV.bool b=.bool m/\keepF ko F0=keepF ko F0/\H0=H0/\n0=n0)=(b=m):=propext ⟨fun h=>by injection h.1,fun h=>⟨by rw[h],rfl,rfl,rfl⟩⟩
  rw[this];exact h
theorem qMn0 {d:Nat} {m:Bool} {ko:List Nat} {F0:Fr} {H0:Hp} {n0:Nat} (b:Bool) (h:b=m) (e:∀X:AV->RK,runQ G L (pl.drop k) F H n (fun F' H' n'=>X (gt F' d) (keepF ko F') H' n')=X (.bool b) (keepF ko F0) H0 n0:=by intro X;kernel_rfl):runQ G L (pl.drop k) F H n (MJ d m ko F0 H0 n0):=qMn3 b (fun H=>H) n (fun Z=>Z) h e
theorem qMn1 {d:Nat} {m:Bool} {ko:List Nat} {F0:Fr} {H0:Hp} {n0:Nat} (b:Bool) (P:Prop->Prop) (h:P (b=m)) (e:∀X:AV->RK,runQ G L (pl.drop k) F H n (fun F' H' n'=>X (gt F' d) (keepF ko F') H' n')=P (X (.bool b) (keepF ko F0) H0 n0):=by intro X;kernel_rfl):runQ G L (pl.drop k) F H n (MJ d m ko F0 H0 n0):=qMn3 b (fun H=>H) n P h e
theorem qAv3 (j d:Nat) (vs:Fr) {r v:AV} (pf:r=v) (J:Hp->Hp) (n':Nat) (P:Prop->Prop) (h:P (runQ G L (pl.drop (k+j)) ((d,v)::(vs++F)) (J H) n' K)) (e:∀X:RK,runQ G L ((pl.drop k).take j) F H n X=P (X ((d,r)::(vs++F)) (J H) n'):=by intro X;kernel_rfl):runQ G L (pl.drop k) F H n K:=by
 subst pf
 have:=runQ_app (bs:=pl.drop (k+j)) (K:=K) (by rw[e fun F H n=>runQ G L (pl.drop (k+j)) F H n K];exact h)
 rwa[<-List.drop_drop,List.take_append_drop]at this
theorem qAv0 (j d:Nat) (vs:Fr) {r v:AV} (pf:r=v) (h:runQ G L (pl.drop (k+j)) ((d,v)::(vs++F)) H n K) (e:∀X:RK,runQ G L ((pl.drop k).take j) F H n X=X ((d,r)::(vs++F)) H n:=by intro X;kernel_rfl):runQ G L (pl.drop k) F H n K:=qAv3 j d vs pf (fun H=>H) n (fun Z=>Z) h e
theorem qAv1 (j d:Nat) (vs:Fr) {r v:AV} (pf:r=v) (P:Prop->Prop) (h:P (runQ G L (pl.drop (k+j)) ((d,v)::(vs++F)) H n K)) (e:∀X:RK,runQ G L ((pl.drop k).take j) F H n X=P (X ((d,r)::(vs++F)) H n):=by intro X;kernel_rfl):runQ G L (pl.drop k) F H n K:=qAv3 j d vs pf (fun H=>H) n P h e
theorem qAn3 (j:Nat) (vs:Fr) (J:Hp->Hp) (n':Nat) (P:Prop->Prop) (h:P (runQ G L (pl.drop (k+j)) (vs++F) (J H) n' K)) (e:∀X:RK,runQ G L ((pl.drop k).take j) F H n X=P (X (vs++F) (J H) n'):=by intro X;kernel_rfl):runQ G L (pl.drop k) F H n K:=by
 have:=runQ_app (bs:=pl.drop (k+j)) (K:=K) (by rw[e fun F H n=>runQ G L (pl.drop (k+j)) F H n K];exact h)
 rwa[<-List.drop_drop,List.take_append_drop]at this
theorem qAn0 (j:Nat) (vs:Fr) (h:runQ G L (pl.drop (k+j)) (vs++F) H n K) (e:∀X:RK,runQ G L ((pl.drop k).take j) F H n X=X (vs++F) H n:=by intro X;kernel_rfl):runQ G L (pl.drop k) F H n K:=qAn3 j vs (fun H=>H) n (fun Z=>Z) h e
theorem qAn1 (j:Nat) (vs:Fr) (P:Prop->Prop) (h:P (runQ G L (pl.drop (k+j)) (vs++F) H n K)) (e:∀X:RK,runQ G L ((pl.drop k).take j) F H n X=P (X (vs++F) H n):=by intro X;kernel_rfl):runQ G L (pl.drop k) F H n K:=qAn3 j vs (fun H=>H) n P h e
theorem qBc3 (j:Nat) (vs:Fr) (us:List Nat) (f:Nat) (args:List AV) (d:Nat) (J:Hp->Hp) (n':Nat) (P:Prop->Prop) (h:P (TCall G f args (J H) n' (KQ G L us d (vs++F) (fun F H n=>runQ G L (pl.drop (k+j)) F H n K)))) (e:∀X:RK,runQ G L ((pl.drop k).take j) F H n X=P (TCall G f args (J H) n' (KQ G L us d (vs++F) X)):=by intro X;kernel_rfl):runQ G L (pl.drop k) F H n K:=by
 have:=runQ_app (bs:=pl.drop (k+j)) (K:=K) (by rw[e fun F H n=>runQ G L (pl.drop (k+j)) F H n K];exact h)
 rwa[<-List.drop_drop,List.take_append_drop]at this
theorem qBc0 (j:Nat) (vs:Fr) (us:List Nat) (f:Nat) (args:List AV) (d:Nat) (h:TCall G f args H n (KQ G L us d (vs++F) (fun F H n=>runQ G L (pl.drop (k+j)) F H n K))) (e:∀X:RK,runQ G L ((pl.drop k).take j) F H n X=TCall G f args H n (KQ G L us d (vs++F) X):=by intro X;kernel_rfl):runQ G L (pl.drop k) F H n K:=qBc3 j vs us f args d (fun H=>H) n (fun Z=>Z) h e
theorem qBc1 (j:Nat) (vs:Fr) (us:List Nat) (f:Nat) (args:List AV) (d:Nat) (P:Prop->Prop) (h:P (TCall G f args H n (KQ G L us d (vs++F) (fun F H n=>runQ G L (pl.drop (k+j)) F H n K)))) (e:∀X:RK,runQ G L ((pl.drop k).take j) F H n X=P (TCall G f args H n (KQ G L us d (vs++F) X)):=by intro X;kernel_rfl):runQ G L (pl.drop k) F H n K:=qBc3 j vs us f args d (fun H=>H) n P h e
end
def sstp (p0:Str) (one gone:Bool) (x:Tr) (r:Tr->Tr) (s:List Str×List Tr×Bool) (e:Str×Tr):List Str×List Tr×Bool:=
 let s1:=bif one&&(!s.2.2&&(!gone&& !blt e.1 p0))then(s.1++[p0],s.2.1++[x],true)else s
 bif e.1==p0&&one then s1 else(s1.1++[e.1],s1.2.1++[bif e.1==p0 then r e.2 else e.2],s1.2.2)
def sA (p0:Str) (one gone:Bool) (x:Tr) (r:Tr->Tr) (t:Tr) (k:Nat):List Str×List Tr×Bool:=
 ((t.names.zip t.kids).take k).foldl (sstp p0 one gone x r) ([],[],false)
def sE (p0:Str) (one gone:Bool) (x:Tr) (t:Tr) (s:List Str×List Tr×Bool):Tr:=
 bif one&&(!s.2.2&& !gone)then .mk t.dir t.mode t.data (s.1++[p0]) (s.2.1++[x])else .mk t.dir t.mode t.data s.1 s.2.1
def tset:List Str->Tr->Tr->Bool->Tr
 |[],t,_,_=>t
 |p0::p,t,x,gone=>sE p0 p.isEmpty gone x t (sA p0 p.isEmpty gone x (fun k=>tset p k x gone) t t.names.length)
section
variable {p0:Str} {one gone:Bool} {x:Tr} {r:Tr->Tr} {t:Tr} {k:Nat}
theorem sA_succ (hk:k<t.names.length) (hl:t.names.length=t.kids.length):
  sA p0 one gone x r t (k+1)=sstp p0 one gone x r (sA p0 one gone x r t k) (t.names.getD k default,t.kids.getD k default):=by
 unfold sA
 have hz:k<(t.names.zip t.kids).length:=by simp;omega
 rw[take_snoc _ k (default,default) hz,List.foldl_append]
 have:(t.names.zip t.kids).getD k (default,default)=(t.names.getD k default,t.kids.getD k default):=by
  have hk2:k<t.kids.length:=by omega
  simp only[List.getD_eq_getElem?_getD,List.getElem?_eq_getElem hz,List.getElem?_eq_getElem hk,List.getElem?_eq_getElem hk2,Option.getD_some,List.getElem_zip]
 rw[this];rfl
theorem sstp_len {s:List Str×List Tr×Bool} {e:Str×Tr} (h:s.1.length=s.2.1.length):(sstp p0 one gone x r s e).1.length=(sstp p0 one gone x r s e).2.1.length/\(sstp p0 one gone x r s e).1.length<=s.1.length+2:=by
 unfold sstp
 cases one&&(!s.2.2&&(!gone&& !blt e.1 p0))<;>cases e.1==p0&&one<;>simp[h]
theorem sA_len (hl:t.names.length=t.kids.length):∀k,k<=t.names.length->(sA p0 one gone x r t k).1.length=(sA p0 one gone x r t k).2.1.length/\(sA p0 one gone x r t k).1.length<=2*k
 |0,_=>by simp[sA]
 |k+1,hk=>by
  obtain⟨h1,h2⟩:=sA_len hl k (by omega)
  rw[sA_succ (by omega) hl]
  obtain⟨h3,h4⟩:=sstp_len (p0:=p0) (one:=one) (gone:=gone) (x:=x) (r:=r) (e:=(t.names.getD k default,t.kids.getD k default)) h1
  exact⟨h3,by omega⟩
end
theorem tset_eq {p:List Str} (hp:0<p.length) (t x:Tr) (gone:Bool):tset p t x gone=sE (p.getD 0 default) (decide (((p.length:Nat):Int)=(1:Int))) gone x t (sA (p.getD 0 default) (decide (((p.length:Nat):Int)=(1:Int))) gone x (fun k=>tset (p.drop 1) k x gone) t t.names.length):=by
 cases p with
 |nil=>simp at hp
 |cons p0 p=>
  have:decide ((((p0::p).length:Nat):Int)=(1:Int))=p.isEmpty:=by cases p<;>simp<;>omega
  rw[this];simp[tset]
def l2w (s:Str) (a:Nat) (d:Str):Str:=
 let out:=s++List.replicate (a+d.length-s.length) 0
 out.take a++d++out.drop (a+d.length)
theorem l2w_len (s:Str) (a:Nat) (d:Str):(l2w s a d).length=max s.length (a+d.length):=by
 simp only[l2w,List.length_append,List.length_take,List.length_drop,List.length_replicate];omega
theorem l2w_step {out d:Str} {a i:Nat} (h:i<d.length) (hl:a+d.length<=out.length):
  (out.take a++d.take i++out.drop (a+i)).set (a+i) (d.getD i 0)=out.take a++d.take (i+1)++out.drop (a+(i+1)):=by
 have e1:(out.take a++d.take i).length=a+i:=by simp;omega
 rw[List.set_append_right _ _ (by omega),e1,Nat.sub_self,take_snoc d i 0 h]
 have:out.drop (a+i)=out.getD (a+i) 0::out.drop (a+(i+1)):=by
  rw[List.drop_eq_getElem_cons (by omega)]
  congr 1
  simp[List.getD,show a+i<out.length by omega]
 rw[this]
 simp
def wData (x:Tr) (s:Str):Tr:=.mk x.dir x.mode s x.names x.kids
def wMode (x:Tr) (m:Int):Tr:=.mk x.dir m x.data x.names x.kids
def fits (y t:Tr):Tr×Int:=(if treeOk y then y else t,if treeOk y then 0 else 6)
def xat (t:Tr) (p:List Str):Tr:=(tat t p).getD .none
def sFile (t:Tr) (c:Cl):Tr×Int:=
 bif (tat t c.path).isSome&&(xat t c.path).dir then(t,4)else
 bif !(tat t c.path).isSome&&decide (c.kind=(3:Int))then(t,3)else
 bif decide (c.kind=(3:Int))then
  fits (tset c.path t (wData (xat t c.path) (l2w (bif decide (c.at_<(((xat t c.path).data.length:Nat):Int))then(xat t c.path).data.take c.at_.toNat else(xat t c.path).data) c.at_.toNat [])) false) t
 else bif decide ((24:Int)<((c.data.length:Nat):Int)+c.at_)then(t,6)else
  fits (tset c.path t (wData (xat t c.path) (l2w (xat t c.path).data c.at_.toNat c.data)) false) t
def sRename (t:Tr) (c:Cl):Tr×Int:=
 bif !(tat t c.path).isSome then(t,3)else
 bif c.path.isPrefixOf c.to then(t,7)else
 bif !decide (parC t c.to=(0:Int))then(t,parC t c.to)else
 bif (tat t c.to).isSome then(t,5)else
 fits (tset c.to (tset c.path t .none true) (xat t c.path) false) t
def newDir (m:Int):Tr:=.mk true m [] [] []
def sDo (t:Tr) (c:Cl):Tr×Int:=
 bif !decide (parC t c.path=(0:Int))then(t,parC t c.path)else
 bif decide (c.kind=(1:Int))then
  (bif (tat t c.path).isSome then(t,5)else fits (tset c.path t (newDir c.at_) false) t)
 else bif decide (c.kind=(2:Int))then sFile t c else bif decide (c.kind=(3:Int))then sFile t c else
 bif decide (c.kind=(5:Int))then sRename t c else
 bif !(tat t c.path).isSome then(t,3)else
 bif decide (c.kind=(4:Int))then
  (bif decide ((0:Int)<(((xat t c.path).names.length:Nat):Int))then(t,5)else(tset c.path t .none true,0))
 else(tset c.path t (wMode (xat t c.path) c.at_) false,0)
def sTreeDo (t:Tr) (c:Cl):Tr×Int:=
 bif !treeOk t then(.none,1)else bif !callOk c then(t,2)else sDo t c
theorem wS_app:∀(a b:List Str),wS (a++b)=wS a+wS b
 |[],b=>by simp[wS]
 |x::a,b=>by simp only[List.cons_append,wS,wS_app a b];omega
theorem Ws_app:∀(a b:List Tr),Tr.Ws (a++b)=Tr.Ws a+Tr.Ws b
 |[],b=>by simp[Tr.Ws]
 |x::a,b=>by simp only[List.cons_append,Tr.Ws,Ws_app a b];omega
theorem wS_ok:∀{l:List Str},l.all nmOk=true->wS l<=6*l.length
 |[],_=>by simp[wS]
 |x::l,h=>by
  simp only[List.all_cons,Bool.and_eq_true]at h
  have:=wS_ok h.2
  have h1:=h.1
  simp only[nmOk,inb,Bool.and_eq_true,decide_eq_true_eq]at h1
  simp only[wS,List.length_cons];omega
mutual
theorem W_parts:∀(t:Tr) (n:Int),partsOk t n=true->t.W<=25+31*cnt t
 |.mk d m s ns ks,n,h=>by
  simp only[partsOk,Bool.and_eq_true]at h
  obtain⟨h1,_,h3⟩:=h
  have h4:=Ws_parts ks (n+1) h3
  simp only[plainOk,Tr.mode_mk,Tr.names_mk,Tr.kids_mk,Tr.dir_mk,Tr.data_mk,Bool.and_eq_true,decide_eq_true_eq]at h1
  obtain⟨_,h6,h7⟩:=h1
  have h6:=of_decide_eq_true h6
  simp only[Tr.W,cnt]
  cases d with
  |true=>
   simp only[if_true,Bool.and_eq_true]at h7
   have:=wS_ok h7.1
   have h8:s=[]:=eq_of_beq h7.2.2
   subst h8
   simp only[List.length_nil];omega
  |false=>
   simp only[Bool.false_eq_true,if_false,Bool.and_eq_true]at h7
   have h9:=of_decide_eq_true h7.1
   have h8:ns=[]:=List.eq_nil_of_length_eq_zero (of_decide_eq_true h7.2)
   subst h8
   simp only[wS];omega
theorem Ws_parts:∀(ks:List Tr) (n:Int),partsOks ks n=true->Tr.Ws ks+6*ks.length<=31*cnts ks
 |[],_,_=>by simp[Tr.Ws,cnts]
 |k::ks,n,h=>by
  simp only[partsOks,Bool.and_eq_true]at h
  have h1:=W_parts k n h.1
  have h2:=Ws_parts ks n h.2
  simp only[Tr.Ws,cnts,List.length_cons];omega
end
theorem W_ok {t:Tr} (h:treeOk t=true):t.W<2^10:=by
 simp only[treeOk,Bool.and_eq_true,decide_eq_true_eq]at h
 have:=W_parts t 0 h.2.1
 omega
mutual
theorem wf_parts:∀(t:Tr) (n:Int),partsOk t n=true->t.wf=true
 |.mk d m s ns ks,n,h=>by
  simp only[partsOk,Bool.and_eq_true]at h
  have h4:=wfs_parts ks (n+1) h.2.2
  have h1:=h.1
  simp only[plainOk,Tr.names_mk,Tr.kids_mk,Bool.and_eq_true,decide_eq_true_eq]at h1
  simp only[Tr.wf,Bool.and_eq_true,decide_eq_true_eq]
  exact⟨of_decide_eq_true h1.2.1,h4⟩
theorem wfs_parts:∀(ks:List Tr) (n:Int),partsOks ks n=true->Tr.wfs ks=true
 |[],_,_=>by simp[Tr.wfs]
 |k::ks,n,h=>by
  simp only[partsOks,Bool.and_eq_true]at h
  simp only[Tr.wfs,wf_parts k n h.1,wfs_parts ks n h.2,Bool.and_self]
end
theorem wf_ok {t:Tr} (h:treeOk t=true):t.wf=true:=by
 simp only[treeOk,Bool.and_eq_true]at h
 exact wf_parts t 0 h.2.1
theorem W_none:Tr.none.W=1:=by simp[Tr.none,Tr.W,wS,Tr.Ws]
theorem W_tat:∀(p:List Str) (t x:Tr),tat t p=some x->x.W<=t.W
 |[],t,x,h=>by simp only[tat,Option.some.injEq]at h;subst h;exact Nat.le_refl _
 |n::p,t,x,h=>by
  simp only[tat]at h
  split at h
  ·rename_i k hk
   have h1:=W_tat p _ x h
   have h2:(t.kids.getD k .none).W<=max 1 (Tr.Ws t.kids):=by
    by_cases hl:k<t.kids.length
    ·have:=Ws_mem (getD_mem t.kids k .none hl);omega
    ·have e:t.kids.getD k .none=.none:=by simp[List.getD,hl]
     rw[e,W_none];omega
   rw[W_eq t];omega
  ·cases h
theorem W_xat (t:Tr) (p:List Str):(xat t p).W<=t.W:=by
 unfold xat
 cases h:tat t p with
 |none=>simp only[Option.getD_none,W_none];exact W_pos t
 |some x=>simp only[Option.getD_some];exact W_tat p t x h
theorem W_wData (x:Tr) (s:Str):(wData x s).W+x.data.length=x.W+s.length:=by
 rw[W_eq,W_eq x];simp[wData];omega
theorem W_wMode (x:Tr) (m:Int):(wMode x m).W=x.W:=by rw[W_eq,W_eq x];simp[wMode]
theorem data_W (x:Tr):x.data.length<x.W:=by rw[W_eq];omega
theorem sstp_W {p0:Str} {one gone:Bool} {x:Tr} {r:Tr->Tr} {C:Nat} (hC:1<=C) (hr:∀k:Tr,(r k).W<=k.W*C) {s:List Str×List Tr×Bool} {e:Str×Tr} {M:Nat}
  (h:wS s.1+Tr.Ws s.2.1+(bif s.2.2 then 0 else p0.length+1+x.W)<=M):
  wS (sstp p0 one gone x r s e).1+Tr.Ws (sstp p0 one gone x r s e).2.1+(bif (sstp p0 one gone x r s e).2.2 then 0 else p0.length+1+x.W)<=M+(e.1.length+1)+e.2.W*C:=by
 have h1:=hr e.2
 have h2:e.2.W<=e.2.W*C:=Nat.le_mul_of_pos_right _ hC
 unfold sstp
 have hx:wS [p0]=p0.length+1:=by simp[wS]
 have hy:∀y:Tr,Tr.Ws [y]=y.W:=fun y=>by simp[Tr.Ws]
 have hz:wS [e.1]=e.1.length+1:=by simp[wS]
 cases hi:(one&&(!s.2.2&&(!gone&& !blt e.1 p0)))with
 |true=>
  have hd:s.2.2=false:=by simp only[Bool.and_eq_true,Bool.not_eq_true']at hi;exact hi.2.1
  rw[hd]at h
  simp only[cond_false]at h
  cases e.1==p0&&one
  ·cases e.1==p0<;>simp only[cond_true,cond_false,wS_app,Ws_app,hx,hy,hz]<;>omega
  ·simp only[cond_true,wS_app,Ws_app,hx,hy];omega
 |false=>
  cases e.1==p0&&one
  ·cases e.1==p0<;>simp only[cond_true,cond_false,wS_app,Ws_app,hx,hy,hz]<;>omega
  ·simp only[cond_true,cond_false];omega
theorem sA_W {p0:Str} {one gone:Bool} {x:Tr} {r:Tr->Tr} {C:Nat} (hC:1<=C) (hr:∀k:Tr,(r k).W<=k.W*C):∀(l:List (Str×Tr)) (s:List Str×List Tr×Bool) (M:Nat),
  wS s.1+Tr.Ws s.2.1+(bif s.2.2 then 0 else p0.length+1+x.W)<=M->
  let s':=l.foldl (sstp p0 one gone x r) s
  wS s'.1+Tr.Ws s'.2.1+(bif s'.2.2 then 0 else p0.length+1+x.W)<=M+wS (l.map (·.1))+Tr.Ws (l.map (·.2))*C
 |[],s,M,h=>by simpa[wS,Tr.Ws]using h
 |e::l,s,M,h=>by
  have:=sA_W (one:=one) (gone:=gone) hC hr l _ _ (sstp_W (one:=one) (gone:=gone) (e:=e) hC hr h)
  simp only[List.foldl_cons,List.map_cons,wS,Tr.Ws,Nat.add_mul]at this⊢
  omega
theorem wS_take:∀(l:List Str) (k:Nat),wS (l.take k)<=wS l
 |[],k=>by simp
 |x::l,0=>by simp[wS]
 |x::l,k+1=>by have:=wS_take l k;simp only[List.take_succ_cons,wS];omega
theorem zip_W:∀(ns:List Str) (ks:List Tr),wS ((ns.zip ks).map (·.1))<=wS ns/\Tr.Ws ((ns.zip ks).map (·.2))<=Tr.Ws ks
 |[],ks=>by simp[wS,Tr.Ws]
 |n::ns,[]=>by simp[wS,Tr.Ws]
 |n::ns,k::ks=>by have:=zip_W ns ks;simp only[List.zip_cons_cons,List.map_cons,wS,Tr.Ws];omega
theorem W_tset:∀(p:List Str) (t x:Tr) (g:Bool),(tset p t x g).W<=t.W*(2+x.W+wS p)
 |[],t,x,g=>by simp only[tset];exact Nat.le_mul_of_pos_right _ (by omega)
 |p0::p,t,x,g=>by
  have hC:1<=2+x.W+wS p:=by omega
  have hs:=sA_W (p0:=p0) (one:=p.isEmpty) (gone:=g) (x:=x) (r:=fun k=>tset p k x g) hC (fun k=>W_tset p k x g) ((t.names.zip t.kids).take t.names.length) ([],[],false) (p0.length+1+x.W) (by simp[wS,Tr.Ws])
  rw[List.take_of_length_le (by simp;omega)]at hs
  obtain⟨z1,z2⟩:=zip_W t.names t.kids
  have z3:Tr.Ws ((t.names.zip t.kids).map (·.2))*(2+x.W+wS p)<=Tr.Ws t.kids*(2+x.W+wS p):=Nat.mul_le_mul_right _ z2
  dsimp only at hs
  have he:(tset (p0::p) t x g).W<=1+t.data.length+wS t.names+Tr.Ws t.kids*(2+x.W+wS p)+(p0.length+1+x.W):=by
   simp only[tset,sA,sE]
   rw[List.take_of_length_le (by simp;omega)]
   generalize (t.names.zip t.kids).foldl _ _=s at hs⊢
   cases hd:(p.isEmpty&&(!s.2.2&& !g))with
   |true=>
    have:s.2.2=false:=by simp only[Bool.and_eq_true,Bool.not_eq_true']at hd;exact hd.2.1
    rw[this]at hs
    simp only[cond_true,cond_false]at hs⊢
    simp only[Tr.W,wS_app,Ws_app,wS,Tr.Ws];omega
   |false=>
    simp only[cond_false]
    simp only[Tr.W]
    have:0<=(bif s.2.2 then 0 else p0.length+1+x.W):=Nat.zero_le _
    omega
  have e1:wS (p0::p)=p0.length+1+wS p:=by simp[wS]
  rw[e1]
  have e2:t.W*(2+x.W+(p0.length+1+wS p))=t.W*(2+x.W+wS p)+t.W*(p0.length+1):=by rw[<-Nat.mul_add];congr 1;omega
  have e3:t.W*(2+x.W+wS p)=(1+t.data.length+wS t.names)*(2+x.W+wS p)+Tr.Ws t.kids*(2+x.W+wS p):=by rw[W_eq t,Nat.add_mul]
  have e4:1+t.data.length+wS t.names+x.W<=(1+t.data.length+wS t.names)*(2+x.W+wS p):=by
   have q:(1+t.data.length+wS t.names)*(2+x.W+wS p)=(1+t.data.length+wS t.names)*1+(1+t.data.length+wS t.names)*(1+x.W+wS p):=by rw[<-Nat.mul_add];congr 1;omega
   have q2:1*(1+x.W+wS p)<=(1+t.data.length+wS t.names)*(1+x.W+wS p):=Nat.mul_le_mul_right _ (by omega)
   omega
  have e5:p0.length+1<=t.W*(p0.length+1):=Nat.le_mul_of_pos_left _ (W_pos t)
  omega
theorem W_tset_lt {p:List Str} {t x:Tr} {g:Bool} (ht:t.W<2^12) (hx:x.W<2^30) (hp:wS p<2^10):(tset p t x g).W<2^44:=by
 have h:=W_tset p t x g
 have:t.W*(2+x.W+wS p)<=2^12*2^31:=Nat.mul_le_mul (by omega) (by omega)
 omega
theorem W_tset_lt2 {p:List Str} {t x:Tr} {g:Bool} (ht:t.W<2^12) (hx:x.W<2^12) (hp:wS p<2^10):(tset p t x g).W<2^26:=by
 have h:=W_tset p t x g
 have:t.W*(2+x.W+wS p)<=2^12*2^13:=Nat.mul_le_mul (by omega) (by omega)
 omega
theorem W_tset_lt3 {p:List Str} {t x:Tr} {g:Bool} (ht:t.W<2^26) (hx:x.W<2^12) (hp:wS p<2^10):(tset p t x g).W<2^40:=by
 have h:=W_tset p t x g
 have:t.W*(2+x.W+wS p)<=2^26*2^13:=Nat.mul_le_mul (by omega) (by omega)
 omega
theorem wf_xat (t:Tr):∀(p:List Str) (t x:Tr),t.wf=true->tat t p=some x->x.wf=true
 |[],t,x,hw,h=>by simp only[tat,Option.some.injEq]at h;subst h;exact hw
 |n::p,t,x,hw,h=>by
  simp only[tat]at h
  split at h
  ·rename_i k hk
   by_cases hl:k<t.kids.length
   ·exact wf_xat t p _ x (wf_kid hw hl _) h
   ·have e:t.kids.getD k .none=.none:=by simp[List.getD,hl]
    rw[e]at h
    exact wf_xat t p _ x rfl h
  ·cases h
theorem xat_wf {t:Tr} (h:t.wf=true) (p:List Str):(xat t p).wf=true:=by
 unfold xat
 cases hx:tat t p with
 |none=>rfl
 |some x=>exact wf_xat t p t x h hx
theorem sA_wf {p0:Str} {one gone:Bool} {x:Tr} {r:Tr->Tr} (hx:x.wf=true) (hr:∀k:Tr,k.wf=true->(r k).wf=true):∀(l:List (Str×Tr)) (s:List Str×List Tr×Bool),(l.all fun e=>e.2.wf)=true->s.2.1.all Tr.wf=true->
  (l.foldl (sstp p0 one gone x r) s).2.1.all Tr.wf=true
 |[],s,_,h=>h
 |e::l,s,hl,h=>by
  simp only[List.all_cons,Bool.and_eq_true]at hl
  simp only[List.foldl_cons]
  refine sA_wf hx hr l _ hl.2 ?_
  unfold sstp
  have h2:=hr e.2 hl.1
  cases one&&(!s.2.2&&(!gone&& !blt e.1 p0))<;>cases e.1==p0&&one<;>cases e.1==p0<;>simp[h,hx,h2,hl.1]
theorem wf_tset:∀(p:List Str) (t x:Tr) (g:Bool),t.wf=true->x.wf=true->(tset p t x g).wf=true
 |[],t,x,g,ht,hx=>ht
 |p0::p,t,x,g,ht,hx=>by
  have hl:=wf_len ht
  obtain⟨h1,h2⟩:=sA_len (p0:=p0) (one:=p.isEmpty) (gone:=g) (x:=x) (r:=fun k=>tset p k x g) hl t.names.length (Nat.le_refl _)
  have h3 := sA_wf (p0 := p0) (one := p.isEmpty) (gone := g) (x := x) (r := fun k => tset p k x g) hx (fun k hk => wf_tset p k x g hk hx) ((t.names.zip t.kids).take t.names.length) ([], [], false) (by
   rw[List.all_eq_true]
   intro e he
   have:=List.of_mem_zip (List.mem_of_mem_take he)
   rw[wf_eq]at ht
   simp only[Bool.and_eq_true,List.all_eq_true]at ht
   exact ht.2 _ this.2) rfl
  simp only[tset,sE]
  unfold sA at h1⊢
  cases p.isEmpty&&(!(((t.names.zip t.kids).take t.names.length).foldl (sstp p0 p.isEmpty g x fun k=>tset p k x g) ([],[],false)).2.2&& !g)<;>
   simp only[cond_true,cond_false]<;>rw[wf_eq]<;>simp[h1,h3,hx]
theorem pthOk_W {p:List Str} {lo:Int} (h:pthOk p lo=true):wS p<2^10/\lo<=p.length:=by
 simp only[pthOk,inb,Bool.and_eq_true]at h
 have h1:=wS_ok h.1
 have h2:=of_decide_eq_true h.2.1
 have h3:=of_decide_eq_true h.2.2
 omega
theorem callOk_facts {c:Cl} (h:callOk c=true):0<c.path.length/\wS c.path<2^10/\(c.kind=2\/c.kind=3->0<=c.at_/\c.at_<=24)/\(c.kind=5->0<c.to.length/\wS c.to<2^10):=by
 unfold callOk at h
 split at h
 ·rename_i hk
  rw[Bool.and_eq_true]at h
  obtain⟨h1,h2⟩:=pthOk_W h.1
  exact⟨by omega,h1,fun hc=>by omega,fun hc=>by omega⟩
 ·split at h
  ·rename_i hk
   rw[Bool.and_eq_true]at h
   obtain⟨h1,h2⟩:=pthOk_W h.1
   have h3:=h.2
   simp only[inb,Bool.and_eq_true]at h3
   exact⟨by omega,h1,fun _=>⟨of_decide_eq_true h3.1,of_decide_eq_true h3.2⟩,fun hc=>by omega⟩
  ·split at h
   ·obtain⟨h1,h2⟩:=pthOk_W h
    exact⟨by omega,h1,fun hc=>by omega,fun hc=>by omega⟩
   ·split at h
    ·rw[Bool.and_eq_true]at h
     obtain⟨h1,h2⟩:=pthOk_W h.1
     obtain⟨h3,h4⟩:=pthOk_W h.2
     exact⟨by omega,h1,fun hc=>by omega,fun _=>⟨by omega,h3⟩⟩
    ·cases h
theorem W_fits {x t:Tr} (ht:t.W<2^10):(fits x t).1.W<2^10:=by
 unfold fits
 dsimp only
 by_cases h:treeOk x=true
 ·rw[if_pos h];exact W_ok h
 ·rw[if_neg h];exact ht
theorem W_sDo {t:Tr} {c:Cl} (ht:t.W<2^10) (hp:wS c.path<2^10):(sDo t c).1.W<2^26:=by
 have hx:=W_xat t c.path
 have hb:∀x g,x.W<2^12->(tset c.path t x g).W<2^26:=fun x g h=>W_tset_lt2 (by omega) h hp
 have hn:Tr.none.W<2^12:=by rw[W_none];omega
 have hf:∀x:Tr,(fits x t).1.W<2^26:=fun x=>Nat.lt_trans (W_fits ht) (by omega)
 have ht':t.W<2^26:=by omega
 have hfile:(sFile t c).1.W<2^26:=by
  unfold sFile
  cases (tat t c.path).isSome&&(xat t c.path).dir<;>simp only[cond_true,cond_false,ht']
  cases !(tat t c.path).isSome&&decide (c.kind=(3:Int))<;>simp only[cond_true,cond_false,ht']
  cases decide (c.kind=(3:Int))<;>simp only[cond_true,cond_false,hf]
  cases decide ((24:Int)<((c.data.length:Nat):Int)+c.at_)<;>simp only[cond_true,cond_false,hf,ht']
 have hren:(sRename t c).1.W<2^26:=by
  unfold sRename
  cases !(tat t c.path).isSome<;>simp only[cond_true,cond_false,ht']
  cases c.path.isPrefixOf c.to<;>simp only[cond_true,cond_false,ht']
  cases !decide (parC t c.to=(0:Int))<;>simp only[cond_true,cond_false,ht']
  cases (tat t c.to).isSome<;>simp only[cond_true,cond_false,ht',hf]
 unfold sDo
 cases !decide (parC t c.path=(0:Int))<;>simp only[cond_true,cond_false,ht']
 cases decide (c.kind=(1:Int))<;>simp only[cond_true,cond_false]
 ·cases decide (c.kind=(2:Int))<;>simp only[cond_true,cond_false,hfile]
  cases decide (c.kind=(3:Int))<;>simp only[cond_true,cond_false,hfile]
  cases decide (c.kind=(5:Int))<;>simp only[cond_true,cond_false,hren]
  cases !(tat t c.path).isSome<;>simp only[cond_true,cond_false,ht']
  cases decide (c.kind=(4:Int))<;>simp only[cond_true,cond_false]
  ·exact hb _ _ (by rw[W_wMode];omega)
  ·cases decide ((0:Int)<(((xat t c.path).names.length:Nat):Int))<;>simp only[cond_true,cond_false,ht']
   exact hb _ _ hn
 ·cases (tat t c.path).isSome<;>simp only[cond_true,cond_false,ht',hf]
section
variable {G:Prg} {X:Nat->Prop} {N:Nat} {ops:Array Oper}
end
section
variable {np:Nat} {G:Prg} {c:Code} {F:Fr} {H:Hp} {n id:Nat} {Q:Post} {L:List Oper}
variable {f:Nat} {ls:List Nat} {K:RK}
end
section
variable {np:Nat} {G:Prg} {c:Code} {F F1:Fr} {H H':Hp} {n n' i f:Nat} {Q:Post} {ls l1:List Nat} {L:List Oper} {C:RK}
end
mutual
def od:AV->Prop
 |.osl i _ _ _=>i%2=1
 |.ocl i _ _ _ _=>i%2=1
 |.ptr i _=>i%2=1
 |.tp .. |.tsl .. =>False
 |.agg az=>ods az
 |.tup az=>ods az
 |.fn _ az=>ods az
 |.pat az=>ods az
 |.sl _ es=>puress es=true
 |_=>True
def ods:List AV->Prop
 |[]=>True
 |a::az=>od a/\ods az
end
def odH:Hp->Prop
 |[]=>True
 |(i,cs)::H=>i%2=1/\ods cs/\odH H
def evH:Hp->Prop
 |[]=>True
 |(i,_)::H=>i%2=0/\evH H
theorem odH_mem:∀{H:Hp} {i:Nat} {cs:List AV},odH H->(i,cs)∈H->i%2=1/\ods cs
 |(j,ds)::H,i,cs,h,hm=>by
  rcases List.mem_cons.1 hm with e|hm
  ·cases e;exact⟨h.1,h.2.1⟩
  ·exact odH_mem h.2.2 hm
theorem odH_of:∀{H:Hp},(∀i cs,(i,cs)∈H->i%2=1/\ods cs)->odH H
 |[],_=>trivial
 |(i,cs)::H,h=>⟨(h i cs (by simp)).1,(h i cs (by simp)).2,odH_of fun j ds hm=>h j ds (by simp[hm])⟩
theorem odH_ids {H:Hp} (h:odH H) {i:Nat} (hi:i∈ids H):i%2=1:=by
 obtain⟨⟨j,cs⟩,hm,rfl⟩:=List.mem_map.1 hi
 exact(odH_mem h hm).1
theorem evH_ids:∀{H:Hp},evH H->∀{i:Nat},i∈ids H->i%2=0
 |(j,ds)::H,h,i,hi=>by
  simp only[ids,List.map_cons,List.mem_cons]at hi
  rcases hi with rfl|hi
  ·exact h.1
  ·exact evH_ids h.2 hi
theorem ods_app:∀{az bs:List AV},ods (az++bs)↔ods az/\ods bs
 |[],bs=>by simp[ods]
 |a::az,bs=>by simp only[List.cons_append,ods,ods_app (az:=az),and_assoc]
theorem odH_app {H H':Hp}:odH (H++H')↔odH H/\odH H':=by
 induction H with
 |nil=>simp[odH]
 |cons p H ih=>obtain⟨i,cs⟩:=p;simp only[List.cons_append,odH,ih,and_assoc]
section
variable {ρ ρ':Rho} {w:World} {O O':Nat->Prop}
mutual
theorem od_vr (hρ:∀i b,i%2=1->ρ i=some b->ρ' i=some b) (hO:∀b,O' b->O b):∀(a:AV) (v:Value),od a->VR ρ w O a v->VR ρ' w O' a v
 |.osl i s o l,v,h,hv=>by
  simp only[VR,od]at*
  obtain⟨b,c,o',cs,e,f,h1,h2⟩:=hv
  exact⟨b,c,o',cs,e,f,hρ _ _ h h1,h2⟩
 |.ocl i s o l c,v,h,hv=>by
  simp only[VR,od]at*
  obtain⟨b,o',cs,e,f,h1,h2⟩:=hv
  exact⟨b,o',cs,e,f,hρ _ _ h h1,h2⟩
 |.ptr i o,v,h,hv=>by
  simp only[VR,od]at*
  obtain⟨b,h1,h2⟩:=hv
  exact⟨b,hρ _ _ h h1,h2⟩
 |.tp ..,_,h,_=>by simp only[od]at h
 |.tsl ..,_,h,_=>by simp only[od]at h
 |.agg az,v,h,hv=>by
  simp only[VR,od]at*
  obtain⟨vs,e,h0,h1⟩:=hv
  exact⟨vs,e,h0,ods_vr hρ hO az _ h h1⟩
 |.tup az,v,h,hv=>by
  simp only[VR,od]at*
  obtain⟨vs,e,h1⟩:=hv
  exact⟨vs,e,ods_vr hρ hO az _ h h1⟩
 |.fn f az,v,h,hv=>by
  simp only[VR,od]at*
  obtain⟨vs,e,h1⟩:=hv
  exact⟨vs,e,ods_vr hρ hO az _ h h1⟩
 |.pat az,v,h,hv=>by
  simp only[VR,od]at*
  obtain⟨a,e,h1,h2,h3⟩:=hv
  exact⟨a,e,fun x=>h1 (hO _ x),h2,odPC_vr hρ hO az _ _ h h3⟩
 |.sl s es,v,h,hv=>by
  simp only[od]at h
  exact pur_vr (.sl s es) v (by simp only[pur];exact h) (VR_carry ⟨fun _ _ h=>h,Nat.le_refl _,fun _ _ _=>rfl,fun b cs e f h=>⟨cs,f,h,rfl⟩,fun b _ ho=>hO b ho⟩ _ _ hv)
 |.int _ _,_,_,hv=>by simpa only[VR]using hv
 |.bool _,_,_,hv=>by simpa only[VR]using hv
 |.str _,_,_,hv=>by simpa only[VR]using hv
 |.raw _,_,_,hv=>by simpa only[VR]using hv
 |.nils,_,_,hv=>by simpa only[VR]using hv
 |.nilp,_,_,hv=>by simpa only[VR]using hv
 |.dead,_,_,_=>by simp only[VR]
theorem ods_vr (hρ:∀i b,i%2=1->ρ i=some b->ρ' i=some b) (hO:∀b,O' b->O b):∀(az:List AV) (vs:List Value),ods az->VRs ρ w O az vs->VRs ρ' w O' az vs
 |[],[],_,_=>by simp only[VRs]
 |a::az,v::vs,hs,hv=>by
  simp only[VRs,ods]at*
  exact⟨od_vr hρ hO a v hs.1 hv.1,ods_vr hρ hO az vs hs.2 hv.2⟩
 |[],_::_,_,hv=>by simp only[VRs]at hv
 |_::_,[],_,hv=>by simp only[VRs]at hv
theorem odPC_vr (hρ:∀i b,i%2=1->ρ i=some b->ρ' i=some b) (hO:∀b,O' b->O b):∀(cs:List AV) (a:Addr) (j:Nat),ods cs->PCs ρ w O cs a j->PCs ρ' w O' cs a j
 |[],_,_,_,_=>by simp only[PCs]
 |c::cs,a,j,hs,hv=>by
  simp only[PCs,ods]at*
  obtain⟨⟨v,h1,h0,h2⟩,h3⟩:=hv
  exact⟨⟨v,h1,h0,od_vr hρ hO c v hs.1 h2⟩,odPC_vr hρ hO cs a _ hs.2 h3⟩
end
end
def DC (G:Prg) (f:Nat) (args:List AV) (Z:Hp) (R:AV->Hp->Prop):Prop:=
 ∀(E:Hp) (n:Nat),evH E->TCall G f args (E++Z) n fun r H' n'=>n'=n/\∃Z',H'=E++Z'/\R r Z'
theorem DC.use {G:Prg} {f:Nat} {args:List AV} {Z:Hp} {R:AV->Hp->Prop} (h:DC G f args Z R) (E:Hp) {H:Hp} {n:Nat} {Q:CPost} (hH:E++Z=H) (hE:evH E) (hq:∀r Z',R r Z'->Q r (E++Z') n):TCall G f args H n Q:=by
 subst hH
 refine(h E n hE).mono ?_
 rintro r H' n' _ ⟨rfl,Z',rfl,hr⟩
 exact hq r Z' hr
theorem DC.mono {G:Prg} {f:Nat} {args:List AV} {Z:Hp} {R R':AV->Hp->Prop} (h:DC G f args Z R) (hq:∀r Z',R r Z'->R' r Z'):DC G f args Z R':=fun E n hE=>(h E n hE).mono fun r H' n' _ ⟨a,Z',b,c⟩=>⟨a,Z',b,hq _ _ c⟩
theorem DC_of {G:Prg} {f:Nat} {args:List AV} {Z:Hp} {R:AV->Hp->Prop} (ha:ods args) (hz:odH Z)
  (h:TCw 0 G f args Z 0 fun r H1 _=>∃r',lea r r'/\od r'/\odH H1/\R r' H1):DC G f args Z R:=by
 intro E n hE X ρ w vs hf hr hv
 let ρ0:Rho:=fun i=>if i%2=1 then ρ i else none
 have e0:∀i,i%2=1->ρ0 i=ρ i:=fun i hi=>if_pos hi
 have iE:∀i,i∈ids E->i∈ids (E++Z):=fun i hi=>by simp only[ids,List.map_append,List.mem_append];exact .inl hi
 have iZ:∀i,i∈ids Z->i∈ids (E++Z):=fun i hi=>by simp only[ids,List.map_append,List.mem_append];exact .inr hi
 have iA:∀{A B:Hp} {i:Nat},i∈ids (A++B)->i∈ids A\/i∈ids B:=fun {A B i} hi=>by simpa only[ids,List.map_append,List.mem_append]using hi
 have hown0:∀b,Own ρ0 Z b->Own ρ Z b:=by
  rintro b ⟨i,hi,hb⟩
  rw[e0 i (odH_ids hz hi)]at hb
  exact⟨i,hi,hb⟩
 have hownZ:∀b,Own ρ Z b->Own ρ0 Z b:=by
  rintro b ⟨i,hi,hb⟩
  exact⟨i,hi,by rw[e0 i (odH_ids hz hi)];exact hb⟩
 let X':Nat->Prop:=OX X ρ E
 have hOsub:∀b,OX X' ρ0 Z b->OX X ρ (E++Z) b:=by
  rintro b ((hx|⟨i,hi,hb⟩)|hx)
  ·exact .inl hx
  ·exact .inr ⟨i,iE i hi,hb⟩
  ·obtain⟨i,hi,hb⟩:=hown0 b hx
   exact .inr ⟨i,iZ i hi,hb⟩
 have hdisj:∀b,Own ρ E b->Own ρ Z b->False:=by
  rintro b ⟨i,hi,hb⟩ ⟨j,hj,hb'⟩
  have:=hr.inj i j b (iE i hi) (iZ j hj) hb hb'
  have h1:=evH_ids hE hi
  have h2:=odH_ids hz hj
  omega
 have hnd:(ids E).Nodup/\(ids Z).Nodup:=by
  have:=hr.nodup
  simp only[ids,List.map_append]at this
  exact⟨(List.nodup_append.1 this).1,(List.nodup_append.1 this).2.1⟩
 have hr0:HR X' ρ0 w Z:=by
  refine⟨hnd.2,fun i j b hi hj h1 h2=>?_,fun i b hi h1=>?_,fun b hb=>?_,fun i cs hm=>?_⟩
  ·rw[e0 i (odH_ids hz hi)]at h1;rw[e0 j (odH_ids hz hj)]at h2
   exact hr.inj i j b (iZ i hi) (iZ j hj) h1 h2
  ·rw[e0 i (odH_ids hz hi)]at h1
   rintro(hx|hx)
   ·exact hr.notX i b (iZ i hi) h1 hx
   ·exact hdisj b hx ⟨i,hi,h1⟩
  ·exact hr.ox_old (hOsub b (.inl hb))
  ·obtain⟨b,c,e,f,k1,k2,k3,k4,k5,k6⟩:=hr.obj i cs (List.mem_append.2 (.inr hm))
   exact⟨b,c,e,f,by rw[e0 i (odH_mem hz hm).1];exact k1,k2,k3,k4,k5,ods_vr (fun i b hi h=>by rw[e0 i hi];exact h) hOsub _ _ (odH_mem hz hm).2 k6⟩
 obtain⟨m0,hm0⟩:=hf.2.2
 refine(h X' ρ0 w vs ⟨rfl,fun i _ hi=>if_neg (by omega),m0,fun i hi=>?_⟩ hr0 (ods_vr (fun i b hi h=>by rw[e0 i hi];exact h) hOsub _ _ ha hv)).mono ?_
 ·show(if i%2=1 then ρ i else none)=none
  rw[hm0 i hi];simp
 rintro e w' ⟨v,r,ρ1,H1,n1,rfl,q1,q2,q3,q4,r',q5,q6,q7,q8⟩
 let ρ':Rho:=fun i=>if i%2=1 then ρ1 i else ρ i
 have eo':∀i,i%2=1->ρ' i=ρ1 i:=fun i hi=>if_pos hi
 have ee':∀i,i%2=0->ρ' i=ρ i:=fun i hi=>if_neg (by omega)
 have hrho:∀i b,ρ i=some b->ρ' i=some b:=by
  intro i b hb
  rcases Nat.mod_two_eq_zero_or_one i with h0|h0
  ·rw[ee' i h0];exact hb
  ·rw[eo' i h0];exact q4.pin i b (.inr h0) (by rw[e0 i h0];exact hb)
 have hown1:∀b,Own ρ' H1 b->Own ρ1 H1 b:=by
  rintro b ⟨i,hi,hb⟩
  rw[eo' i (odH_ids q7 hi)]at hb
  exact⟨i,hi,hb⟩
 have hownE:∀b,Own ρ' E b->Own ρ E b:=by
  rintro b ⟨i,hi,hb⟩
  rw[ee' i (evH_ids hE hi)]at hb
  exact⟨i,hi,hb⟩
 have hsp:∀{A:Hp} {σ:Rho} b,Own σ (E++A) b->Own σ E b\/Own σ A b:=by
  rintro A σ b ⟨i,hi,hb⟩
  exact(iA hi).imp (fun h=>⟨i,h,hb⟩) (fun h=>⟨i,h,hb⟩)
 have hext:Ext (Own ρ (E++Z)) w w':=q4.ext.mono fun b _ hb=>by
  obtain⟨i,hi,hb⟩:=hown0 b hb
  exact⟨i,iZ i hi,hb⟩
 have hown':∀b,Own ρ' (E++H1) b->Own ρ (E++Z) b\/w.heap.size<=b:=by
  intro b hb
  rcases hsp b hb with hb|hb
  ·obtain⟨i,hi,hb⟩:=hownE b hb
   exact .inl ⟨i,iE i hi,hb⟩
  ·rcases q4.own b (hown1 b hb)with hb|hb
   ·obtain⟨i,hi,hb⟩:=hown0 b hb
    exact .inl ⟨i,iZ i hi,hb⟩
   ·exact .inr hb
 have hnx:Nx ρ (E++Z) w n ρ' (E++H1) w' n:=⟨hrho,Nat.le_refl _,hext,hown'⟩
 have hO1:∀b,OX X ρ' (E++H1) b->OX X' ρ1 H1 b:=by
  rintro b (hx|hx)
  ·exact .inl (.inl hx)
  ·rcases hsp b hx with hx|hx
   ·exact .inl (.inr (hownE b hx))
   ·exact .inr (hown1 b hx)
 have hcar:=hnx.carry (X:=X)
 refine⟨v,r',ρ',E++H1,n,rfl,⟨hf.1,fun i hi h0=>by rw[ee' i h0];exact hf.2.1 i hi h0,?_⟩,⟨?_,?_,?_,fun b hb=>Nat.lt_of_lt_of_le (hr.xold b hb) hext.size,?_⟩,od_vr (fun i b hi h=>by rw[eo' i hi];exact h) hO1 _ _ q6 (lea_vr _ _ _ q5 q3),hnx,rfl,H1,rfl,q8⟩
 ·obtain⟨m1,hm1⟩:=q1.2.2
  refine⟨max m0 m1,fun i hi=>?_⟩
  rcases Nat.mod_two_eq_zero_or_one i with h0|h0
  ·rw[ee' i h0];exact hm0 i (by omega)
  ·rw[eo' i h0];exact hm1 i (by omega)
 ·simp only[ids,List.map_append]
  refine List.nodup_append.2 ⟨hnd.1,q2.nodup,fun a ha b hb=>?_⟩
  rintro rfl
  have h1:=evH_ids hE ha
  have h2:=odH_ids q7 hb
  omega
 ·intro i j b hi hj h1 h2
  rcases iA hi with hi|hi<;>rcases iA hj with hj|hj
  ·rw[ee' i (evH_ids hE hi)]at h1;rw[ee' j (evH_ids hE hj)]at h2
   exact hr.inj i j b (iE i hi) (iE j hj) h1 h2
  ·rw[ee' i (evH_ids hE hi)]at h1;rw[eo' j (odH_ids q7 hj)]at h2
   exact absurd (.inr ⟨i,hi,h1⟩) (q2.notX j b hj h2)
  ·rw[eo' i (odH_ids q7 hi)]at h1;rw[ee' j (evH_ids hE hj)]at h2
   exact absurd (.inr ⟨j,hj,h2⟩) (q2.notX i b hi h1)
  ·rw[eo' i (odH_ids q7 hi)]at h1;rw[eo' j (odH_ids q7 hj)]at h2
   exact q2.inj i j b hi hj h1 h2
 ·intro i b hi h1 hx
  rcases iA hi with hi|hi
  ·rw[ee' i (evH_ids hE hi)]at h1;exact hr.notX i b (iE i hi) h1 hx
  ·rw[eo' i (odH_ids q7 hi)]at h1;exact q2.notX i b hi h1 (.inl hx)
 ·intro i cs hm
  rcases List.mem_append.1 hm with hm|hm
  ·obtain⟨b,c,e,f,k1,k2,k3,k4,k5,k6⟩:=hr.obj i cs (List.mem_append.2 (.inl hm))
   have hib:Own ρ E b:=⟨i,List.mem_map.2 ⟨_,hm,rfl⟩,k1⟩
   exact⟨b,c,e,f,hrho i b k1,by rw[q4.ext.keep b (Array.getElem?_eq_some_iff.1 k2).1 fun h=>hdisj b hib (hown0 b h)];exact k2,k3,k4,k5,VRs_carry hcar _ _ k6⟩
  ·obtain⟨b,c,e,f,k1,k2,k3,k4,k5,k6⟩:=q2.obj i cs hm
   exact⟨b,c,e,f,by rw[eo' i (odH_mem q7 hm).1];exact k1,k2,k3,k4,k5,ods_vr (fun i b hi h=>by rw[eo' i hi];exact h) hO1 _ _ (odH_mem q7 hm).2 k6⟩
theorem h_dc {G:Prg} {f:Nat} {fn:Func} {args:List AV} {F:Fr} {Z:Hp} {R:AV->Hp->Prop} (ha:ods args) (hz:odH Z) (hf:G.P.funcs[f]?=some fn) (hb:fn.body=some (bd fn)) (hc:(codeOk fn.ntmps (bd fn)&&(decide (args.length<=fn.ntmps)&& !(fn.name== "runtime.NumGoroutine")))=true)
  (h:TT 0 G.P (bd fn) F Z 0 (RQ G fn.results fun r H1 _=>∃r',lea r r'/\od r'/\odH H1/\R r' H1)) (hF:efr args 0=F):DC G f args Z R:=
 DC_of ha hz (TCw_enter hf hb hc (hF▸h))
theorem fin_dc {R:AV->Hp->Prop} {r:AV} {H:Hp} {n:Nat} (r':AV) (Z:Hp) (hs:Z.Sublist H) (h1:lea r r') (h2:od r') (h3:odH Z) (h4:R r' Z):Fin (fun r H1 _=>∃r',lea r r'/\od r'/\odH H1/\R r' H1) r H n:=⟨Z,hs,r',h1,h2,h3,h4⟩
mutual
def r1 (a b:Nat):AV->AV
 |.osl i s o l=>.osl (bif Nat.beq i a then b else i) s o l
 |.ocl i s o l c=>.ocl (bif Nat.beq i a then b else i) s o l c
 |.ptr i o=>.ptr (bif Nat.beq i a then b else i) o
 |.agg az=>.agg (r1s a b az)
 |.tup az=>.tup (r1s a b az)
 |.fn f az=>.fn f (r1s a b az)
 |.pat az=>.pat (r1s a b az)
 |.sl s es=>.sl s es
 |.int k n=>.int k n
 |.bool b=>.bool b
 |.str s=>.str s
 |.raw v=>.raw v
 |.nils=>.nils
 |.nilp=>.nilp
 |.dead=>.dead
 |.tp i t k=>.tp (bif Nat.beq i a then b else i) t k
 |.tsl i t l=>.tsl (bif Nat.beq i a then b else i) t l
def r1s (a b:Nat):List AV->List AV
 |[]=>[]
 |x::xs=>r1 a b x::r1s a b xs
end
def r1F (a b:Nat):Fr->Fr
 |[]=>[]
 |(k,v)::F=>(k,r1 a b v)::r1F a b F
def r1C (a b:Nat) (cs cs':List AV):Prop:=(ods cs/\cs=cs')\/(slps cs/\r1s a b cs=cs')
def r1R (a b:Nat):Hp->Hp->Prop
 |[],[]=>True
 |(i,cs)::H,(j,cs')::H'=>(bif Nat.beq i a then b else i)=j/\r1C a b cs cs'/\r1R a b H H'
 |_,_=>False
section
variable {ρ ρ':Rho} {w:World} {O:Nat->Prop} {a j:Nat}
def ρ1 (ρ:Rho) (a j:Nat):Rho:=fun i=>if i=j then ρ a else if i=a then none else ρ i
theorem r1_rho (hj:ρ j=none) (ha:a≠j) {i b:Nat} (h:ρ i=some b):ρ1 ρ a j (bif Nat.beq i a then j else i)=some b:=by
 unfold ρ1
 by_cases hi:i=a
 ·subst hi;simp[h]
 ·have:Nat.beq i a=false:=nbq hi
  rw[this]
  have hij:i≠j:=by rintro rfl;rw[hj]at h;cases h
  simp[hi,hij,h]
mutual
theorem r1_vr (hρ:∀i b,ρ i=some b->ρ' (bif Nat.beq i a then j else i)=some b):∀(x:AV) (v:Value),slp x->VR ρ w O x v->VR ρ' w O (r1 a j x) v
 |.osl i s o l,v,_,hv=>by
  simp only[VR,r1]at*
  obtain⟨b,c,o',cs,e,f,h1,h2⟩:=hv
  exact⟨b,c,o',cs,e,f,hρ _ _ h1,h2⟩
 |.ocl i s o l c,v,_,hv=>by
  simp only[VR,r1]at*
  obtain⟨b,o',cs,e,f,h1,h2⟩:=hv
  exact⟨b,o',cs,e,f,hρ _ _ h1,h2⟩
 |.ptr i o,v,_,hv=>by
  simp only[VR,r1]at*
  obtain⟨b,h1,h2⟩:=hv
  exact⟨b,hρ _ _ h1,h2⟩
 |.tp i t k,v,_,hv=>by
  simp only[VR,r1]at*
  obtain⟨b,cs,f,h1,h2⟩:=hv
  exact⟨b,cs,f,hρ _ _ h1,h2⟩
 |.tsl i t l,v,_,hv=>by
  simp only[VR,r1]at*
  obtain⟨b,c,cs,f,h1,h2⟩:=hv
  exact⟨b,c,cs,f,hρ _ _ h1,h2⟩
 |.agg az,v,hs,hv=>by
  simp only[VR,r1,slp]at*
  obtain⟨vs,e,h0,h1⟩:=hv
  exact⟨vs,e,h0,r1s_vr hρ az _ hs h1⟩
 |.tup az,v,hs,hv=>by
  simp only[VR,r1,slp]at*
  obtain⟨vs,e,h1⟩:=hv
  exact⟨vs,e,r1s_vr hρ az _ hs h1⟩
 |.fn f az,v,hs,hv=>by
  simp only[VR,r1,slp]at*
  obtain⟨vs,e,h1⟩:=hv
  exact⟨vs,e,r1s_vr hρ az _ hs h1⟩
 |.pat az,v,hs,hv=>by
  simp only[VR,r1,slp]at*
  obtain⟨a,e,h1,h2,h3⟩:=hv
  exact⟨a,e,h1,h2,r1PC_vr hρ az _ _ hs h3⟩
 |.sl s es,v,hs,hv=>by
  simp only[r1,slp]at*
  exact pur_vr (.sl s es) v (by simp only[pur];exact hs) hv
 |.int _ _,_,_,hv=>by simpa only[VR,r1]using hv
 |.bool _,_,_,hv=>by simpa only[VR,r1]using hv
 |.str _,_,_,hv=>by simpa only[VR,r1]using hv
 |.raw _,_,_,hv=>by simpa only[VR,r1]using hv
 |.nils,_,_,hv=>by simpa only[VR,r1]using hv
 |.nilp,_,_,hv=>by simpa only[VR,r1]using hv
 |.dead,_,_,_=>by simp only[VR,r1]
theorem r1s_vr (hρ:∀i b,ρ i=some b->ρ' (bif Nat.beq i a then j else i)=some b):∀(az:List AV) (vs:List Value),slps az->VRs ρ w O az vs->VRs ρ' w O (r1s a j az) vs
 |[],[],_,_=>by simp only[VRs,r1s]
 |x::az,v::vs,hs,hv=>by
  simp only[VRs,r1s,slps]at*
  exact⟨r1_vr hρ x v hs.1 hv.1,r1s_vr hρ az vs hs.2 hv.2⟩
 |[],_::_,_,hv=>by simp only[VRs]at hv
 |_::_,[],_,hv=>by simp only[VRs]at hv
theorem r1PC_vr (hρ:∀i b,ρ i=some b->ρ' (bif Nat.beq i a then j else i)=some b):∀(cs:List AV) (ad:Addr) (k:Nat),slps cs->PCs ρ w O cs ad k->PCs ρ' w O (r1s a j cs) ad k
 |[],_,_,_,_=>by simp only[PCs,r1s]
 |c::cs,ad,k,hs,hv=>by
  simp only[PCs,r1s,slps]at*
  obtain⟨⟨v,h1,h0,h2⟩,h3⟩:=hv
  exact⟨⟨v,h1,h0,r1_vr hρ c v hs.1 h2⟩,r1PC_vr hρ cs ad _ hs.2 h3⟩
end
theorem r1s_len (a b:Nat):∀az:List AV,(r1s a b az).length=az.length
 |[]=>rfl
 |x::az=>by simp[r1s,r1s_len a b az]
theorem gt_r1F (a b:Nat):∀(F:Fr) (t:Nat),gt (r1F a b F) t=r1 a b (gt F t)
 |[],t=>by simp[r1F,gt,r1]
 |(k,v)::F,t=>by
  simp only[r1F,gt]
  cases k==t
  ·exact gt_r1F a b F t
  ·rfl
theorem r1R_mem:∀{H H':Hp} {i:Nat} {cs:List AV},r1R a j H H'->(i,cs)∈H'->∃k ds,(k,ds)∈H/\(bif Nat.beq k a then j else k)=i/\r1C a j ds cs
 |[],[],_,_,_,h=>by simp at h
 |(k,ds)::H,(i',cs')::H',i,cs,hr,h=>by
  simp only[r1R]at hr
  rcases List.mem_cons.1 h with e|h
  ·cases e;exact⟨k,ds,by simp,hr.1,hr.2.1⟩
  ·obtain⟨k',ds',h1,h2⟩:=r1R_mem hr.2.2 h
   exact⟨k',ds',by simp[h1],h2⟩
 |[],_::_,_,_,hr,_=>by simp only[r1R]at hr
 |_::_,[],_,_,hr,_=>by simp only[r1R]at hr
theorem r1R_ids:∀{H H':Hp},r1R a j H H'->ids H'=(ids H).map fun i=>bif Nat.beq i a then j else i
 |[],[],_=>rfl
 |(k,ds)::H,(i',cs')::H',hr=>by
  simp only[r1R]at hr
  simp only[ids,List.map_cons]
  rw[<-hr.1]
  congr 1
  exact r1R_ids hr.2.2
 |[],_::_,hr=>by simp only[r1R]at hr
 |_::_,[],hr=>by simp only[r1R]at hr
end
theorem h_odd {np:Nat} {G:Prg} {c:Code} {F:Fr} {H Z:Hp} {n:Nat} {Q:Post} (a:Nat) (F':Nat->Fr) (H':Nat->Hp) (hnp:(Nat.beq (a%4) 0&&Nat.ble np a)=true) (hz:odH Z)
  (hF:∀j,slF F/\r1F a (2*j+1) F=F' j) (hH:∀j,r1R a (2*j+1) H (H' j)) (h:∀j,TT np G.P c (F' j) (H' j++Z) n Q):TT np G.P c F (H++Z) n Q:=by
 simp only[Bool.and_eq_true,Nat.ble_eq]at hnp
 have ha0:a%4=0:=Nat.eq_of_beq_eq_true hnp.1
 intro X N ρ ac w hs hc
 obtain⟨m,hm⟩:=hs.fresh.2.2
 let j:=m
 have hj:ρ (2*j+1)=none:=hm _ (by omega)
 have haj:a≠2*j+1:=by omega
 let ρ':=ρ1 ρ a (2*j+1)
 have hnj:∀i,i∈ids (H++Z)->i≠2*j+1:=by
  rintro i hi rfl
  obtain⟨b,hb,_⟩:=hs.hr.has hi
  rw[hj]at hb;cases hb
 have hmap:ids (H' j++Z)=(ids (H++Z)).map fun i=>bif Nat.beq i a then 2*j+1 else i:=by
  simp only[ids,List.map_append]
  rw[show(H' j).map (·.1)=ids (H' j)from rfl,r1R_ids (hH j)]
  congr 1
  symm
  show(ids Z).map _=ids Z
  conv=>rhs;rw[<-List.map_id (ids Z)]
  refine List.map_congr_left fun i hi=>?_
  have:=odH_ids hz hi
  rw[nbq (show i≠a by omega)];rfl
 have hinj:∀i k,i∈ids (H++Z)->k∈ids (H++Z)->(bif Nat.beq i a then 2*j+1 else i)=(bif Nat.beq k a then 2*j+1 else k)->i=k:=by
  intro i k hi hk e
  by_cases h1:i=a<;>by_cases h2:k=a
  ·rw[h1,h2]
  ·subst h1;rw[nbq h2]at e;simp[Nat.beq_refl]at e;exact absurd e.symm (hnj k hk)
  ·subst h2;rw[nbq h1]at e;simp[Nat.beq_refl]at e;exact absurd e (hnj i hi)
  ·rw[nbq h1,nbq h2]at e;exact e
 have hown:∀b,Own ρ' (H' j++Z) b↔Own ρ (H++Z) b:=by
  intro b
  constructor
  ·rintro⟨i,hi,hb⟩
   rw[hmap]at hi
   obtain⟨k,hk,rfl⟩:=List.mem_map.1 hi
   obtain⟨b',hb',_⟩:=hs.hr.has hk
   rw[show ρ' _=_ from r1_rho hj haj hb']at hb
   cases hb
   exact⟨k,hk,hb'⟩
  ·rintro⟨k,hk,hb⟩
   exact⟨_,by rw[hmap];exact List.mem_map.2 ⟨k,hk,rfl⟩,r1_rho hj haj hb⟩
 have hcl:∀k,k%4=2->(bif Nat.beq k a then 2*j+1 else k)%4=2:=by
  intro k hk
  rw[nbq (show k≠a by omega)]
  exact hk
 have hO:OX X ρ' (H' j++Z)=OX X ρ (H++Z):=by funext b;simp only[OX,hown]
 have hs':S X N ρ' n (F' j) (H' j++Z) ac w:=by
  refine⟨⟨hs.fresh.1,fun i hi h0=>?_,max m (2*j+2),fun i hi=>?_⟩,⟨?_,?_,?_,hs.hr.xold,?_⟩,fun t=>?_,hs.df,hs.sz⟩
  ·show(if i=2*j+1 then ρ a else if i=a then none else ρ i)=none
   rw[if_neg (by omega)]
   by_cases e:i=a
   ·rw[if_pos e]
   ·rw[if_neg e];exact hs.fresh.2.1 i hi h0
  ·show(if i=2*j+1 then ρ a else if i=a then none else ρ i)=none
   rw[if_neg (by omega)]
   by_cases e:i=a
   ·rw[if_pos e]
   ·rw[if_neg e];exact hm i (by omega)
  ·rw[hmap]
   exact List.pairwise_map.2 (hs.hr.nodup.imp_of_mem fun {x y} hx hy hxy e=>hxy (hinj x y hx hy e))
  ·intro i k b hi hk h1 h2
   rw[hmap]at hi hk
   obtain⟨i',hi',rfl⟩:=List.mem_map.1 hi
   obtain⟨k',hk',rfl⟩:=List.mem_map.1 hk
   obtain⟨b1,hb1,_⟩:=hs.hr.has hi'
   obtain⟨b2,hb2,_⟩:=hs.hr.has hk'
   rw[show ρ' _=_ from r1_rho hj haj hb1]at h1
   rw[show ρ' _=_ from r1_rho hj haj hb2]at h2
   cases h1;cases h2
   rw[hs.hr.inj i' k' b hi' hk' hb1 hb2]
  ·intro i b hi h1
   rw[hmap]at hi
   obtain⟨i',hi',rfl⟩:=List.mem_map.1 hi
   obtain⟨b1,hb1,_⟩:=hs.hr.has hi'
   rw[show ρ' _=_ from r1_rho hj haj hb1]at h1
   cases h1
   exact hs.hr.notX i' b hi' hb1
  ·intro i cs hm'
   rw[hO]
   have hod : ∀ cs, ods cs -> ∀ vs, VRs ρ w (OX X ρ (H ++ Z)) cs vs -> VRs ρ' w (OX X ρ (H ++ Z)) cs vs := fun cs ho vs hv => ods_vr (fun i b hi hb=>by
    have:=r1_rho (a:=a) hj haj hb
    rwa[nbq (show i≠a by omega)]at this) (fun _ h=>h) _ _ ho hv
   rcases List.mem_append.1 hm' with hm'|hm'
   ·obtain⟨k,ds,h1,h2,h3⟩:=r1R_mem (hH j) hm'
    obtain⟨b,c',e,f,k1,k2,k3,k4,k5,k6⟩:=hs.hr.obj k ds (List.mem_append.2 (.inl h1))
    subst h2
    rcases h3 with ⟨ho,rfl⟩|⟨ho,rfl⟩
    ·exact⟨b,c',e,f,r1_rho hj haj k1,k2,⟨k3.1,k3.2.imp (fun h=>h) (hcl k)⟩,k4,k5,hod _ ho _ k6⟩
    ·exact⟨b,c',e,f,r1_rho hj haj k1,k2,⟨k3.1,k3.2.imp (fun h=>h) (hcl k)⟩,k4,by rw[r1s_len];exact k5,by rw[r1s_len];exact r1s_vr (fun _ _ h=>r1_rho hj haj h) _ _ ho k6⟩
   ·obtain⟨b,c',e,f,k1,k2,k3,k4,k5,k6⟩:=hs.hr.obj i cs (List.mem_append.2 (.inr hm'))
    have h1:=odH_mem hz hm'
    have:=r1_rho (a:=a) hj haj k1
    rw[nbq (show i≠a by omega)]at this
    exact⟨b,c',e,f,this,k2,k3,k4,k5,hod _ h1.2 _ k6⟩
  ·rw[hO,<-(hF j).2,gt_r1F]
   exact r1_vr (fun _ _ h=>r1_rho hj haj h) _ _ (slF_gt t (hF j).1) (hs.fr t)
 refine wp_mono (h j X N ρ' ac w hs' hc) ?_
 rintro e a' w' ⟨ρ2,F2,H2,n2,h1,h2,h3⟩
 refine⟨ρ2,F2,H2,n2,h1,⟨fun i b hi hb=>?_,h2.ext.mono fun b _ hb=>(hown b).1 hb,fun b hb=>(h2.own b hb).imp (hown b).1 id⟩,h3⟩
 have hia:i≠a:=by omega
 have:=r1_rho (a:=a) hj haj hb
 rw[nbq hia]at this
 exact h2.pin i b hi this
section rows
variable {α:Type} {f:α->List AV} {s:Nat}
theorem fl_take (hf:∀x,(f x).length=s):∀(l:List α) (k:Nat),(fl f l).take (k*s)=fl f (l.take k)
 |[],k=>by simp[fl]
 |x::l,0=>by simp[fl]
 |x::l,k+1=>by
  have h1:fl f (x::l)=f x++fl f l:=by simp[fl]
  have h2:fl f ((x::l).take (k+1))=f x++fl f (l.take k):=by simp[fl]
  rw[h1,h2,<-fl_take hf l k,Nat.add_mul,Nat.one_mul,List.take_append,hf,Nat.add_sub_cancel,List.take_of_length_le (by rw[hf];omega)]
theorem fl_drop (hf:∀x,(f x).length=s):∀(l:List α) (k:Nat),(fl f l).drop (k*s)=fl f (l.drop k)
 |[],k=>by simp[fl]
 |x::l,0=>by simp[fl]
 |x::l,k+1=>by
  have h1:fl f (x::l)=f x++fl f l:=by simp[fl]
  rw[h1,Nat.add_mul,Nat.one_mul,List.drop_append,hf,Nat.add_sub_cancel,List.drop_of_length_le (by rw[hf];omega),List.nil_append,fl_drop hf l k]
  rfl
theorem spl_mid {A B C B':List AV} (h:B'.length=B.length):spl (A++B++C) A.length B'=A++B'++C:=by
 unfold spl
 rw[h]
 have e1:(A++B++C).take A.length=A:=by rw[List.append_assoc,List.take_left'];rfl
 have e2:(A++B++C).drop (A.length+B.length)=C:=by
  rw[<-List.length_append,List.drop_left'];rfl
 rw[e1,e2]
theorem spl_at {cs A B C B':List AV} {o:Nat} (h:cs=A++B++C) (ho:o=A.length) (hb:B'.length=B.length):spl cs o B'=A++B'++C:=by
 subst h;subst ho;exact spl_mid hb
theorem zrs_len' (k:Nat) (z:List AV):(zrs k z).length=k*z.length:=by
 unfold zrs;induction k with
 |zero=>simp
 |succ k ih=>rw[List.replicate_succ,List.flatten_cons,List.length_append,ih,Nat.add_mul];omega
theorem zrs_add (a b:Nat) (z:List AV):zrs (a+b) z=zrs a z++zrs b z:=by
 unfold zrs;rw[<-List.replicate_append_replicate,List.flatten_append]
variable (hf:∀x,(f x).length=s)
include hf
theorem fl_len' (l:List α):(fl f l).length=l.length*s:=fl_len hf l
theorem ig1 (X:List α) (D:List AV) (i:Nat) (hi:i<=X.length):(fl f X++D).take (i*s)=fl f (X.take i):=by
 rw[List.take_append_of_le_length (by rw[fl_len hf];exact Nat.mul_le_mul_right s hi),fl_take hf]
theorem ig2 (X:List α) (y:α) (i m:Nat) (z:List AV) (hz:z.length=s) (hi:i<=X.length) (hm:0<m):
  spl (fl f (X.take i)++zrs m z) (i*s) (f y)=fl f (X.take i++[y])++zrs (m-1) z:=by
 have e:zrs m z=z++zrs (m-1) z:=by
  rw[show m=1+(m-1) by omega,zrs_add,show 1+(m-1)-1=m-1 by omega]
  simp[zrs]
 rw[e,<-List.append_assoc,spl_at rfl (by rw[fl_len hf,List.length_take,Nat.min_eq_left hi]) (by rw[hf,hz]),fl_app,fl_one]
theorem ig3 (X:List α) (y:α) (i:Nat) (z:List AV) (hz:z.length=s) (hi:i<=X.length):
  spl (fl f (X.take i++[y])++zrs (X.length-i) z) ((i+1)*s) (fl f (X.drop i))=fl f (X.take i++[y]++X.drop i):=by
 have:=spl_at (cs:=fl f (X.take i++[y])++zrs (X.length-i) z) (A:=fl f (X.take i++[y])) (B:=zrs (X.length-i) z) (C:=[]) (B':=fl f (X.drop i)) (o:=(i+1)*s) (by simp)
  (by rw[fl_len hf,List.length_append,List.length_take,Nat.min_eq_left hi];rfl) (by rw[fl_len hf,zrs_len',hz,List.length_drop])
 rw[this,List.append_nil,<-fl_app]
theorem is1 (X:List α) (D:List AV) (i:Nat) (hi:i<X.length) (hD:s<=D.length):
  spl (fl f X++D) ((i+1)*s) (fl f (X.drop i))=fl f (X.take (i+1)++X.drop i)++D.drop s:=by
 have e:fl f X++D=fl f (X.take (i+1))++(fl f (X.drop (i+1))++D.take s)++D.drop s:=by
  rw[List.append_assoc,List.append_assoc,List.take_append_drop,<-List.append_assoc,<-fl_app,List.take_append_drop]
 rw [spl_at e (by rw [fl_len hf, List.length_take, Nat.min_eq_left (by omega)]) (by
  rw[fl_len hf,List.length_append,fl_len hf,List.length_drop,List.length_drop,List.length_take,Nat.min_eq_left hD]
  rw[show X.length-i=(X.length-(i+1))+1 by omega,Nat.add_mul,Nat.one_mul]),<-fl_app]
theorem is2 (X:List α) (D:List AV) (y:α) (i:Nat) (hi:i<X.length):
  spl (fl f (X.take (i+1)++X.drop i)++D) (i*s) (f y)=fl f (X.take i++[y]++X.drop i)++D:=by
 have e:fl f (X.take (i+1)++X.drop i)++D=fl f (X.take i)++f (X[i]'hi)++(fl f (X.drop i)++D):=by
  rw[List.take_succ_eq_append_getElem hi,fl_app,fl_app,fl_one];simp only[List.append_assoc]
 rw[spl_at e (by rw[fl_len hf,List.length_take,Nat.min_eq_left (by omega)]) (by rw[hf,hf]),fl_app,fl_app,fl_one]
 simp only[List.append_assoc]
theorem id1 (X:List α) (i:Nat) (hi:i<X.length):
  spl (fl f X) (i*s) (fl f (X.drop (i+1)))=fl f (X.take i++X.drop (i+1))++fl f (X.drop (X.length-1)):=by
 have hl:((X.drop i).take (X.length-1-i)).length=(X.drop (i+1)).length:=by simp;omega
 have e:fl f X=fl f (X.take i)++fl f ((X.drop i).take (X.length-1-i))++fl f (X.drop (X.length-1)):=by
  rw[<-fl_app,<-fl_app]
  congr 1
  rw[List.append_assoc]
  have:X.drop (X.length-1)=(X.drop i).drop (X.length-1-i):=by rw[List.drop_drop];congr 1;omega
  rw[this,List.take_append_drop,List.take_append_drop]
 rw[spl_at e (by rw[fl_len hf,List.length_take,Nat.min_eq_left (by omega)]) (by rw[fl_len hf,fl_len hf,hl]),<-fl_app]
theorem id2 (X:List α) (i:Nat) (z:List AV) (hz:z.length=s) (hi:i<X.length):
  spl (fl f (X.take i++X.drop (i+1))++fl f (X.drop (X.length-1))) ((X.length-1)*s) (zrs 1 z)=fl f (X.take i++X.drop (i+1))++zrs 1 z:=by
 have:=spl_at (cs:=fl f (X.take i++X.drop (i+1))++fl f (X.drop (X.length-1))) (A:=fl f (X.take i++X.drop (i+1))) (B:=fl f (X.drop (X.length-1))) (C:=[]) (B':=zrs 1 z) (o:=(X.length-1)*s) (by simp)
  (by rw[fl_len hf];congr 1;simp;omega) (by rw[fl_len hf,zrs_len',hz];congr 1;simp;omega)
 rw[this,List.append_nil]
end rows
def uncF:Fr->Fr
 |[]=>[]
 |(k,v)::F=>(k,unc v)::uncF F
theorem gt_uncF:∀(F:Fr) (t:Nat),gt (uncF F) t=unc (gt F t)
 |[],_=>rfl
 |(k,v)::F,t=>by
  simp only[uncF,gt]
  cases k==t
  ·exact gt_uncF F t
  ·rfl
theorem h_unc {np:Nat} {G:Prg} {c:Code} {F F':Fr} {H:Hp} {n:Nat} {Q:Post} (hF:uncF F=F') (h:TT np G.P c F' H n Q):TT np G.P c F H n Q:=
 TT_conv h fun X N ρ a w hs=>⟨ρ,⟨hs.fresh,hs.hr,fun t=>by rw[<-hF,gt_uncF];exact unc_vr (hs.fr t),hs.df,hs.sz⟩,fun _ h=>h,fun _ _ _ h=>h⟩
theorem frame_out {X:Nat->Prop} {ρ ρ':Rho} {w w':World} {H B C:Hp} {n:Nat} (OA:Nat->Prop) (hr:HR X ρ w H) (hB:B.Sublist H) (hOA:∀b,OA b->Own ρ H b/\¬Own ρ B b) (hrho:∀i b,ρ i=some b->ρ' i=some b)
  (hC:HR (OX X ρ B) ρ' w' C) (hdj:∀i,i∈ids B->i∉ids C) (hext:Ext OA w w') (hown:∀b,Own ρ' C b->OA b\/w.heap.size<=b):
  HR X ρ' w' (B++C)/\Nx ρ H w n ρ' (B++C) w' n:=by
 have hrB:=hr.sub hB
 have iA:∀{A B:Hp} {i:Nat},i∈ids (A++B)->i∈ids A\/i∈ids B:=fun {A B i} hi=>by simpa only[ids,List.map_append,List.mem_append]using hi
 have hρB:∀i,i∈ids B->ρ' i=ρ i:=fun i hi=>by
  obtain⟨b,hb,_⟩:=hrB.has hi
  rw[hrho i b hb,hb]
 have hBo:∀b,Own ρ' B b->Own ρ B b:=by
  rintro b ⟨i,hi,hb⟩
  exact⟨i,hi,by rw[<-hρB i hi];exact hb⟩
 have hsp:∀b,Own ρ' (B++C) b->Own ρ B b\/Own ρ' C b:=by
  rintro b ⟨i,hi,hb⟩
  rcases iA hi with hi|hi
  ·exact .inl (hBo b ⟨i,hi,hb⟩)
  ·exact .inr ⟨i,hi,hb⟩
 have hext':Ext (Own ρ H) w w':=hext.mono fun b _ hb=>(hOA b hb).1
 have hown':∀b,Own ρ' (B++C) b->Own ρ H b\/w.heap.size<=b:=by
  intro b hb
  rcases hsp b hb with hb|hb
  ·exact .inl (Own.sub hB hb)
  ·exact(hown b hb).imp (fun h=>(hOA b h).1) (fun h=>h)
 have hnx:Nx ρ H w n ρ' (B++C) w' n:=⟨hrho,Nat.le_refl _,hext',hown'⟩
 have hcar:=hnx.carry (X:=X)
 have hO1:∀b,OX X ρ' (B++C) b->OX (OX X ρ B) ρ' C b:=by
  rintro b (hx|hx)
  ·exact .inl (.inl hx)
  ·rcases hsp b hx with hx|hx
   ·exact .inl (.inr hx)
   ·exact .inr hx
 refine⟨⟨?_,?_,?_,fun b hb=>Nat.lt_of_lt_of_le (hr.xold b hb) hext.size,?_⟩,hnx⟩
 ·simp only[ids,List.map_append]
  exact List.nodup_append.2 ⟨hrB.nodup,hC.nodup,fun a ha b hb=>by rintro rfl;exact hdj a ha hb⟩
 ·intro i j b hi hj h1 h2
  rcases iA hi with hi|hi<;>rcases iA hj with hj|hj
  ·rw[hρB i hi]at h1;rw[hρB j hj]at h2
   exact hrB.inj i j b hi hj h1 h2
  ·rw[hρB i hi]at h1
   exact absurd (.inr ⟨i,hi,h1⟩) (hC.notX j b hj h2)
  ·rw[hρB j hj]at h2
   exact absurd (.inr ⟨j,hj,h2⟩) (hC.notX i b hi h1)
  ·exact hC.inj i j b hi hj h1 h2
 ·intro i b hi h1 hx
  rcases iA hi with hi|hi
  ·rw[hρB i hi]at h1;exact hrB.notX i b hi h1 hx
  ·exact hC.notX i b hi h1 (.inl hx)
 ·intro i cs hm
  rcases List.mem_append.1 hm with hm|hm
  ·obtain⟨b,c,e,f,k1,k2,k3,k4,k5,k6⟩:=hr.obj i cs (hB.subset hm)
   have hib:Own ρ B b:=⟨i,List.mem_map.2 ⟨_,hm,rfl⟩,k1⟩
   exact⟨b,c,e,f,hrho i b k1,by rw[hext.keep b (Array.getElem?_eq_some_iff.1 k2).1 fun h=>(hOA b h).2 hib];exact k2,k3,k4,k5,VRs_carry hcar _ _ k6⟩
  ·obtain⟨b,c,e,f,k1,k2,k3,k4,k5,k6⟩:=hC.obj i cs hm
   exact⟨b,c,e,f,k1,k2,k3,k4,k5,VRs_carry (Carry.less hO1) _ _ k6⟩
theorem VRs_dead {ρ:Rho} {w:World} {O:Nat->Prop}:∀vs:List Value,VRs ρ w O (List.replicate vs.length .dead) vs
 |[]=>by simp only[List.length_nil,List.replicate_zero,VRs]
 |v::vs=>by simp only[List.length_cons,List.replicate_succ,VRs,VR];exact⟨trivial,VRs_dead vs⟩
theorem ins_lift {G:Prg} {f s:Nat} {α:Type} {fc:α->List AV} {X Y:List α} {y:α} {i:Int} {E Z:Hp} {a b:Nat} (hE:evH E) (hZ:odH Z) (ha:hgt Z a=some (fl fc X)) (hb:hgt E b=some (fc y)) (hb4:b%4=0)
  (hX:ods (fl fc X)) (hy:ods (fc y)) (hY:ods (fl fc Y)) (hl:(fl fc X).length=X.length*s)
  (h:∀c,X.length<=c->TCw 0 G f [.ocl 0 s 0 X.length c,.int .i64 i,.osl 4 s 0 1] [(0,fl fc X++List.replicate ((c-X.length)*s) .dead),(4,fc y)] 8 fun r H1 _=>∃j tl,j%4=0/\unc r=.osl j s 0 Y.length/\hgt H1 j=some (fl fc Y++tl)) (n:Nat):
  TCall G f [.osl a s 0 X.length,.int .i64 i,.osl b s 0 1] (E++Z) n fun r H' n'=>n'=n/\∃k,(2*k+1)∉ids Z/\r=.osl (2*k+1) s 0 Y.length/\H'=(hdel E b++hdel Z a)++[(2*k+1,fl fc Y)]:=by
 intro X0 ρ w vs hf hr hv
 have haid:=hgt_ids ha
 have hbid:=hgt_ids hb
 have hao:=odH_ids hZ haid
 have hbe:=evH_ids hE hbid
 have hmA:(a,fl fc X)∈E++Z:=List.mem_append.2 (.inr (hgt_mem ha))
 have hmB:(b,fc y)∈E++Z:=List.mem_append.2 (.inl (hgt_mem hb))
 obtain⟨ba,ca,ea,fa,p1,p2,p3,p4,p5,p6⟩:=hr.obj a _ hmA
 obtain⟨bb,cb,eb,fb,q1,q2,q3,q4,q5,q6⟩:=hr.obj b _ hmB
 have hiA:a∈ids (E++Z):=List.mem_map.2 ⟨_,hmA,rfl⟩
 have hiB:b∈ids (E++Z):=List.mem_map.2 ⟨_,hmB,rfl⟩
 have hne:ba≠bb:=fun e=>by have:=hr.inj a b ba hiA hiB p1 (e▸q1);omega
 obtain⟨va,vi,vb,hvs⟩:∃va vi vb,vs.toList=[va,vi,vb]:=by
  have:=VRs_length hv
  match vs.toList,this with
  |[x,y,z],_=>exact⟨x,y,z,rfl⟩
 rw[hvs]at hv
 simp only[VRs]at hv
 obtain⟨v1,v2,v3,_⟩:=hv
 simp only[VR]at v1
 obtain⟨ba',c,o',cs,e,f',r1,rfl,r2,r3,r4,r5⟩:=v1
 rw[p1]at r1;cases r1
 rw[p2]at r4;cases r4
 let B:Hp:=hdel E b++hdel Z a
 have hBs:B.Sublist (E++Z):=(hdel_sub E b).append (hdel_sub Z a)
 have iA:∀{A B:Hp} {i:Nat},i∈ids (A++B)->i∈ids A\/i∈ids B:=fun {A B i} hi=>by simpa only[ids,List.map_append,List.mem_append]using hi
 have hnd:(ids E).Nodup/\(ids Z).Nodup:=by
  have:=hr.nodup
  simp only[ids,List.map_append]at this
  exact⟨(List.nodup_append.1 this).1,(List.nodup_append.1 this).2.1⟩
 have hBa:a∉ids B:=by
  intro hi
  rcases iA hi with hi|hi
  ·have:=evH_ids hE (((hdel_sub E b).map (·.1)).subset hi);omega
  ·exact hdel_not hnd.2 hi
 have hBb:b∉ids B:=by
  intro hi
  rcases iA hi with hi|hi
  ·exact hdel_not hnd.1 hi
  ·have:=odH_ids hZ (((hdel_sub Z a).map (·.1)).subset hi);omega
 have hsubi:∀i,i∈ids B->i∈ids (E++Z):=fun i hi=>(hBs.map (·.1)).subset hi
 have hoA:¬Own ρ B ba:=by
  rintro⟨i,hi,hb'⟩
  have:=hr.inj i a ba (hsubi i hi) hiA hb' p1
  subst this;exact hBa hi
 have hoB:¬Own ρ B bb:=by
  rintro⟨i,hi,hb'⟩
  have:=hr.inj i b bb (hsubi i hi) hiB hb' q1
  subst this;exact hBb hi
 let ρ0:Rho:=fun i=>if i=0 then some ba else if i=4 then some bb else if i%2=1 then ρ i else none
 let X':Nat->Prop:=OX X0 ρ B
 obtain⟨m0,hm0⟩:=hf.2.2
 have hfr0:Fresh ρ0 8:=by
  refine⟨rfl,fun i hi h0=>?_,max m0 8,fun i hi=>?_⟩
  ·show(if i=0 then some ba else if i=4 then some bb else if i%2=1 then ρ i else none)=none
   rw[if_neg (by omega),if_neg (by omega),if_neg (by omega)]
  ·show(if i=0 then some ba else if i=4 then some bb else if i%2=1 then ρ i else none)=none
   rw[if_neg (by omega),if_neg (by omega),hm0 i (by omega)];simp
 have hod0:∀i b,i%2=1->ρ i=some b->ρ0 i=some b:=fun i b hi hb=>by
  show(if i=0 then some ba else if i=4 then some bb else if i%2=1 then ρ i else none)=some b
  rw[if_neg (by omega),if_neg (by omega),if_pos hi];exact hb
 have hids0:ids [(0,fl fc X++List.replicate ((c-X.length)*s) AV.dead),(4,fc y)]=[0,4]:=rfl
 have hOs:∀b,OX X' ρ0 [(0,fl fc X++List.replicate ((c-X.length)*s) AV.dead),(4,fc y)] b->OX X0 ρ (E++Z) b:=by
  rintro b ((hx|hx)|⟨i,hi,hb'⟩)
  ·exact .inl hx
  ·exact .inr (Own.sub hBs hx)
  ·rw[hids0]at hi
   simp only[List.mem_cons,List.not_mem_nil,or_false]at hi
   rcases hi with rfl|rfl
   ·simp only[ρ0,if_true,Option.some.injEq]at hb';subst hb';exact .inr ⟨a,hiA,p1⟩
   ·simp only[ρ0,if_true,Nat.reduceEqDiff,if_false,Option.some.injEq]at hb';subst hb';exact .inr ⟨b,hiB,q1⟩
 have hcsz:X.length*s+(c-X.length)*s=c*s:=by rw[<-Nat.add_mul];congr 1;omega
 have hr0:HR X' ρ0 w [(0,fl fc X++List.replicate ((c-X.length)*s) .dead),(4,fc y)]:=by
  refine⟨by rw[hids0];decide,fun i j b hi hj h1 h2=>?_,fun i b hi h1=>?_,fun b hb=>hr.ox_old (hb.imp (fun h=>h) (Own.sub hBs)),fun i ds hm=>?_⟩
  ·rw[hids0]at hi hj
   simp only[List.mem_cons,List.not_mem_nil,or_false]at hi hj
   rcases hi with rfl|rfl<;>rcases hj with rfl|rfl
   ·rfl
   ·simp only[ρ0,if_true,Nat.reduceEqDiff,if_false,Option.some.injEq]at h1 h2;exact absurd (h1.trans h2.symm) hne
   ·simp only[ρ0,if_true,Nat.reduceEqDiff,if_false,Option.some.injEq]at h1 h2;exact absurd (h2.trans h1.symm) hne
   ·rfl
  ·rw[hids0]at hi
   simp only[List.mem_cons,List.not_mem_nil,or_false]at hi
   rcases hi with rfl|rfl
   ·simp only[ρ0,if_true,Option.some.injEq]at h1;subst h1
    rintro(hx|hx)
    ·exact hr.notX a _ hiA p1 hx
    ·exact hoA hx
   ·simp only[ρ0,if_true,Nat.reduceEqDiff,if_false,Option.some.injEq]at h1;subst h1
    rintro(hx|hx)
    ·exact hr.notX b _ hiB q1 hx
    ·exact hoB hx
  ·simp only[List.mem_cons,Prod.mk.injEq,List.not_mem_nil,or_false]at hm
   rcases hm with ⟨rfl,rfl⟩|⟨rfl,rfl⟩
   ·refine⟨ba,ca,ea,fa,by simp[ρ0],p2,⟨p3.1,p3.2.imp (fun h=>h) (fun h=>by omega)⟩,p4,by rw[List.length_append,List.length_replicate,hl];omega,?_⟩
    have hlen:(fl fc X++List.replicate ((c-X.length)*s) AV.dead).length=c*s:=by rw[List.length_append,List.length_replicate,hl,hcsz]
    rw[hlen]
    have e1:ca.toList.take (c*s)=ca.toList.take (fl fc X).length++(ca.toList.drop (fl fc X).length).take ((c-X.length)*s):=by
     rw[<-hcsz,<-hl,List.take_add]
    rw[e1]
    refine VRs_append (ods_vr hod0 hOs _ _ hX p6) ?_
    have e2:((ca.toList.drop (fl fc X).length).take ((c-X.length)*s)).length=(c-X.length)*s:=by
     have hca:ca.toList.length=ca.size:=by simp
     rw[List.length_take,List.length_drop,hca,hl];omega
    have:=VRs_dead (ρ:=ρ0) (w:=w) (O:=OX X' ρ0 [(0,fl fc X++List.replicate ((c-X.length)*s) AV.dead),(4,fc y)]) ((ca.toList.drop (fl fc X).length).take ((c-X.length)*s))
    rw[e2]at this
    exact this
   ·exact⟨bb,cb,eb,fb,by simp[ρ0],q2,⟨q3.1,q3.2.imp (fun h=>h) (fun h=>by omega)⟩,q4,q5,ods_vr hod0 hOs _ _ hy q6⟩
 have hv0:VRs ρ0 w (OX X' ρ0 [(0,fl fc X++List.replicate ((c-X.length)*s) AV.dead),(4,fc y)]) [.ocl 0 s 0 X.length c,.int .i64 i,.osl 4 s 0 1] vs.toList:=by
  rw[hvs]
  simp only[VRs]
  refine⟨?_,by simpa only[VR]using v2,?_,trivial⟩
  ·simp only[VR]
   exact⟨ba,o',ca,ea,fa,by simp[ρ0],rfl,r2,r3,p2,r5⟩
  ·simp only[VR]at v3⊢
   obtain⟨bb',c3,o3,cs3,e3,f3,s1,s2⟩:=v3
   rw[q1]at s1;cases s1
   exact⟨bb,c3,o3,cs3,e3,f3,by simp[ρ0],s2⟩
 refine(h c r2 X' ρ0 w vs hfr0 hr0 hv0).mono ?_
 rintro e w' ⟨v,r,ρ1,H1,n1,rfl,t1,t2,t3,t4,j,tl,t5,t6,t7⟩
 obtain⟨bj,cj,ej,fj,u1,u2,u3,u4,u5,u6⟩:=t2.obj j _ (hgt_mem t7)
 obtain⟨m1,hm1⟩:=t1.2.2
 let k:=m0+m1
 let ρ':Rho:=fun i=>if i=2*k+1 then some bj else if i%2=1 then ρ1 i else ρ i
 have hk1:∀i,2*k+1<=i->ρ i=none/\ρ1 i=none:=fun i hi=>⟨hm0 i (by omega),hm1 i (by omega)⟩
 have hrho:∀i b,ρ i=some b->ρ' i=some b:=by
  intro i b hb
  show(if i=2*k+1 then some bj else if i%2=1 then ρ1 i else ρ i)=some b
  have:i≠2*k+1:=by rintro rfl;rw[(hk1 _ (Nat.le_refl _)).1]at hb;cases hb
  rw[if_neg this]
  by_cases ho:i%2=1
  ·rw[if_pos ho];exact t4.pin i b (.inr ho) (hod0 i b ho hb)
  ·rw[if_neg ho];exact hb
 have hrho1:∀i b,i%2=1->ρ1 i=some b->ρ' i=some b:=by
  intro i b ho hb
  show(if i=2*k+1 then some bj else if i%2=1 then ρ1 i else ρ i)=some b
  have:i≠2*k+1:=by rintro rfl;rw[(hk1 _ (Nat.le_refl _)).2]at hb;cases hb
  rw[if_neg this,if_pos ho];exact hb
 have hρk:ρ' (2*k+1)=some bj:=by simp[ρ']
 have hknot:∀i,i∈ids (E++Z)->i≠2*k+1:=by
  rintro i hi rfl
  obtain⟨b',hb',_⟩:=hr.has hi
  rw[(hk1 _ (Nat.le_refl _)).1]at hb';cases hb'
 let C:Hp:=[(2*k+1,fl fc Y)]
 have hidsC:ids C=[2*k+1]:=rfl
 have hownC:∀x,Own ρ' C x->x=bj:=by
  rintro x ⟨i,hi,hx⟩
  rw[hidsC]at hi;simp only[List.mem_singleton]at hi;subst hi
  rw[hρk]at hx;cases hx;rfl
 have hO2:∀x,OX X' ρ' C x->OX X' ρ1 H1 x:=by
  rintro x (hx|hx)
  ·exact .inl hx
  ·rw[hownC x hx];exact .inr ⟨j,hgt_ids t7,u1⟩
 have hlenY:(fl fc Y).length<=(fl fc Y++tl).length:=by simp
 have hC:HR X' ρ' w' C:=by
  refine⟨by rw[hidsC];simp,fun i i' b hi hj _ _=>?_,fun i b hi h1=>?_,t2.xold,fun i ds hm=>?_⟩
  ·rw[hidsC]at hi hj;simp only[List.mem_singleton]at hi hj;rw[hi,hj]
  ·rw[hownC b ⟨i,hi,h1⟩];exact t2.notX j bj (hgt_ids t7) u1
  ·simp only[C,List.mem_singleton,Prod.mk.injEq]at hm
   obtain⟨rfl,rfl⟩:=hm
   refine⟨bj,cj,ej,fj,hρk,u2,⟨u3.1,u3.2.imp (fun h=>h) (fun h=>by omega)⟩,u4,by omega,?_⟩
   have:=VRs_take (fl fc Y).length u6
   rw[List.take_left',List.take_take,Nat.min_eq_left hlenY]at this
   ·exact ods_vr hrho1 hO2 _ _ hY this
   ·rfl
 let OA:Nat->Prop:=fun x=>x=ba\/x=bb
 have hown0:∀x,Own ρ0 [(0,fl fc X++List.replicate ((c-X.length)*s) AV.dead),(4,fc y)] x->OA x:=by
  rintro x ⟨i,hi,hb'⟩
  rw[hids0]at hi
  simp only[List.mem_cons,List.not_mem_nil,or_false]at hi
  rcases hi with rfl|rfl
  ·simp only[ρ0,if_true,Option.some.injEq]at hb';exact .inl hb'.symm
  ·simp only[ρ0,if_true,Nat.reduceEqDiff,if_false,Option.some.injEq]at hb';exact .inr hb'.symm
 obtain⟨g1,g2⟩:=frame_out (n:=n) OA hr hBs (fun x hx=>hx.elim (fun e=>by subst e;exact⟨⟨a,hiA,p1⟩,hoA⟩) (fun e=>by subst e;exact⟨⟨b,hiB,q1⟩,hoB⟩)) hrho hC
  (fun i hi hi'=>by rw[hidsC]at hi';simp only[List.mem_singleton]at hi';exact hknot i (hsubi i hi) hi') (t4.ext.mono fun x _ hx=>hown0 x hx)
  (fun x hx=>by
   rw[hownC x hx]
   exact(t4.own bj ⟨j,hgt_ids t7,u1⟩).imp (hown0 bj) (fun h=>h))
 refine⟨v,.osl (2*k+1) s 0 Y.length,ρ',B++C,n,rfl,⟨hf.1,fun i hi h0=>?_,?_⟩,g1,?_,g2,rfl,k,fun hi=>hknot _ (by simp only[ids,List.map_append,List.mem_append];exact .inr hi) rfl,rfl,rfl⟩
 ·show(if i=2*k+1 then some bj else if i%2=1 then ρ1 i else ρ i)=none
  rw[if_neg (by omega),if_neg (by omega)];exact hf.2.1 i hi h0
 ·refine⟨2*k+2,fun i hi=>?_⟩
  show(if i=2*k+1 then some bj else if i%2=1 then ρ1 i else ρ i)=none
  rw[if_neg (by omega)]
  obtain⟨h1,h2⟩:=hk1 i (by omega)
  split
  ·exact h2
  ·exact h1
 ·have:=unc_vr t3
  rw[t6]at this
  simp only[VR]at this⊢
  obtain⟨b5,c5,o5,cs5,e5,f5,w1,w2,w3,w4,w5,w6⟩:=this
  rw[u1]at w1;cases w1
  exact⟨bj,c5,o5,cs5,e5,f5,hρk,w2,w3,w4,w5,w6⟩
theorem del_lift {G:Prg} {f s:Nat} {α:Type} {fc:α->List AV} {X Y:List α} {args:List AV} {E Z:Hp} {a:Nat} (hE:evH E) (hZ:odH Z) (ha:hgt Z a=some (fl fc X)) (hp:purs args=true)
  (hX:ods (fl fc X)) (hY:ods (fl fc Y))
  (h:∀c,X.length<=c->TCw 1 G f (.ocl 0 s 0 X.length c::args) [(0,fl fc X)] 4 fun r H1 _=>∃tl,unc r=.osl 0 s 0 Y.length/\hgt H1 0=some (fl fc Y++tl)) (n:Nat):
  TCall G f (.osl a s 0 X.length::args) (E++Z) n fun r H' n'=>n'=n/\r=.osl a s 0 Y.length/\H'=(E++hdel Z a)++[(a,fl fc Y)]:=by
 intro X0 ρ w vs hf hr hv
 have haid:=hgt_ids ha
 have hao:=odH_ids hZ haid
 have hmA:(a,fl fc X)∈E++Z:=List.mem_append.2 (.inr (hgt_mem ha))
 obtain⟨ba,ca,ea,fa,p1,p2,p3,p4,p5,p6⟩:=hr.obj a _ hmA
 have hiA:a∈ids (E++Z):=List.mem_map.2 ⟨_,hmA,rfl⟩
 obtain⟨va,vr,hvs⟩:∃va vr,vs.toList=va::vr:=by
  have:=VRs_length hv
  match vs.toList,this with
  |x::xs,_=>exact⟨x,xs,rfl⟩
 rw[hvs]at hv
 simp only[VRs]at hv
 obtain⟨v1,v2⟩:=hv
 simp only[VR]at v1
 obtain⟨ba',c,o',cs,e,f',r1,rfl,r2,r3,r4,r5⟩:=v1
 rw[p1]at r1;cases r1
 rw[p2]at r4;cases r4
 let B:Hp:=E++hdel Z a
 have hBs:B.Sublist (E++Z):=(List.Sublist.refl E).append (hdel_sub Z a)
 have iA:∀{A B:Hp} {i:Nat},i∈ids (A++B)->i∈ids A\/i∈ids B:=fun {A B i} hi=>by simpa only[ids,List.map_append,List.mem_append]using hi
 have hnd:(ids E).Nodup/\(ids Z).Nodup:=by
  have:=hr.nodup
  simp only[ids,List.map_append]at this
  exact⟨(List.nodup_append.1 this).1,(List.nodup_append.1 this).2.1⟩
 have hBa:a∉ids B:=by
  intro hi
  rcases iA hi with hi|hi
  ·have:=evH_ids hE hi;omega
  ·exact hdel_not hnd.2 hi
 have hsubi:∀i,i∈ids B->i∈ids (E++Z):=fun i hi=>(hBs.map (·.1)).subset hi
 have hoA:¬Own ρ B ba:=by
  rintro⟨i,hi,hb'⟩
  have:=hr.inj i a ba (hsubi i hi) hiA hb' p1
  subst this;exact hBa hi
 let ρ0:Rho:=fun i=>if i=0 then some ba else if i%2=1 then ρ i else none
 let X':Nat->Prop:=OX X0 ρ B
 obtain⟨m0,hm0⟩:=hf.2.2
 have hfr0:Fresh ρ0 4:=by
  refine⟨rfl,fun i hi h0=>?_,max m0 8,fun i hi=>?_⟩
  ·show(if i=0 then some ba else if i%2=1 then ρ i else none)=none
   rw[if_neg (by omega),if_neg (by omega)]
  ·show(if i=0 then some ba else if i%2=1 then ρ i else none)=none
   rw[if_neg (by omega),hm0 i (by omega)];simp
 have hod0:∀i b,i%2=1->ρ i=some b->ρ0 i=some b:=fun i b hi hb=>by
  show(if i=0 then some ba else if i%2=1 then ρ i else none)=some b
  rw[if_neg (by omega),if_pos hi];exact hb
 have hids0:ids [(0,fl fc X)]=[0]:=rfl
 have hOs:∀b,OX X' ρ0 [(0,fl fc X)] b->OX X0 ρ (E++Z) b:=by
  rintro b ((hx|hx)|⟨i,hi,hb'⟩)
  ·exact .inl hx
  ·exact .inr (Own.sub hBs hx)
  ·rw[hids0]at hi
   simp only[List.mem_singleton]at hi
   subst hi
   simp only[ρ0,if_true,Option.some.injEq]at hb';subst hb';exact .inr ⟨a,hiA,p1⟩
 have hr0:HR X' ρ0 w [(0,fl fc X)]:=by
  refine⟨by rw[hids0];decide,fun i j b hi hj h1 h2=>?_,fun i b hi h1=>?_,fun b hb=>hr.ox_old (hb.imp (fun h=>h) (Own.sub hBs)),fun i ds hm=>?_⟩
  ·rw[hids0]at hi hj
   simp only[List.mem_singleton]at hi hj
   rw[hi,hj]
  ·rw[hids0]at hi
   simp only[List.mem_singleton]at hi
   subst hi
   simp only[ρ0,if_true,Option.some.injEq]at h1;subst h1
   rintro(hx|hx)
   ·exact hr.notX a _ hiA p1 hx
   ·exact hoA hx
  ·simp only[Prod.mk.injEq,List.mem_singleton]at hm
   obtain⟨rfl,rfl⟩:=hm
   exact⟨ba,ca,ea,fa,by simp[ρ0],p2,⟨p3.1,p3.2.imp (fun h=>h) (fun h=>by omega)⟩,p4,p5,ods_vr hod0 hOs _ _ hX p6⟩
 have hv0:VRs ρ0 w (OX X' ρ0 [(0,fl fc X)]) (.ocl 0 s 0 X.length c::args) vs.toList:=by
  rw[hvs]
  simp only[VRs]
  refine⟨?_,purs_vr _ _ hp (VRs_carry (Carry.less hOs) _ _ v2)⟩
  simp only[VR]
  exact⟨ba,o',ca,ea,fa,by simp[ρ0],rfl,r2,r3,p2,r5⟩
 refine(h c r2 X' ρ0 w vs hfr0 hr0 hv0).mono ?_
 rintro e w' ⟨v,r,ρ1,H1,n1,rfl,t1,t2,t3,t4,tl,t6,t7⟩
 obtain⟨bj,cj,ej,fj,u1,u2,u3,u4,u5,u6⟩:=t2.obj 0 _ (hgt_mem t7)
 have hp0:ρ1 0=some ba:=t4.pin 0 ba (.inl (by omega)) (by simp[ρ0])
 rw[hp0]at u1;cases u1
 obtain⟨m1,hm1⟩:=t1.2.2
 let ρ':Rho:=fun i=>if i%2=1 then ρ1 i else ρ i
 have hrho:∀i b,ρ i=some b->ρ' i=some b:=by
  intro i b hb
  show(if i%2=1 then ρ1 i else ρ i)=some b
  by_cases ho:i%2=1
  ·rw[if_pos ho];exact t4.pin i b (.inr ho) (hod0 i b ho hb)
  ·rw[if_neg ho];exact hb
 have hrho1:∀i b,i%2=1->ρ1 i=some b->ρ' i=some b:=by
  intro i b ho hb
  show(if i%2=1 then ρ1 i else ρ i)=some b
  rw[if_pos ho];exact hb
 have hρa:ρ' a=some ba:=hrho a ba p1
 let C:Hp:=[(a,fl fc Y)]
 have hidsC:ids C=[a]:=rfl
 have hownC:∀x,Own ρ' C x->x=ba:=by
  rintro x ⟨i,hi,hx⟩
  rw[hidsC]at hi;simp only[List.mem_singleton]at hi;subst hi
  rw[hρa]at hx;cases hx;rfl
 have hO2:∀x,OX X' ρ' C x->OX X' ρ1 H1 x:=by
  rintro x (hx|hx)
  ·exact .inl hx
  ·rw[hownC x hx];exact .inr ⟨0,hgt_ids t7,hp0⟩
 have hlenY:(fl fc Y).length<=(fl fc Y++tl).length:=by simp
 have hC:HR X' ρ' w' C:=by
  refine⟨by rw[hidsC];simp,fun i i' b hi hj _ _=>?_,fun i b hi h1=>?_,t2.xold,fun i ds hm=>?_⟩
  ·rw[hidsC]at hi hj;simp only[List.mem_singleton]at hi hj;rw[hi,hj]
  ·rw[hownC b ⟨i,hi,h1⟩];exact t2.notX 0 ba (hgt_ids t7) hp0
  ·simp only[C,List.mem_singleton,Prod.mk.injEq]at hm
   obtain⟨rfl,rfl⟩:=hm
   refine⟨ba,cj,ej,fj,hρa,u2,⟨u3.1,u3.2.imp (fun h=>h) (fun h=>by omega)⟩,u4,by omega,?_⟩
   have:=VRs_take (fl fc Y).length u6
   rw[List.take_left',List.take_take,Nat.min_eq_left hlenY]at this
   ·exact ods_vr hrho1 hO2 _ _ hY this
   ·rfl
 have hown0:∀x,Own ρ0 [(0,fl fc X)] x->x=ba:=by
  rintro x ⟨i,hi,hb'⟩
  rw[hids0]at hi
  simp only[List.mem_singleton]at hi
  subst hi
  simp only[ρ0,if_true,Option.some.injEq]at hb';exact hb'.symm
 obtain⟨g1,g2⟩:=frame_out (n:=n) (fun x=>x=ba) hr hBs (by rintro x rfl;exact⟨⟨a,hiA,p1⟩,hoA⟩) hrho hC
  (fun i hi hi'=>by rw[hidsC]at hi';simp only[List.mem_singleton]at hi';subst hi';exact hBa hi) (t4.ext.mono fun x _ hx=>hown0 x hx)
  (fun x hx=>by
   rw[hownC x hx]
   exact .inl rfl)
 refine⟨v,.osl a s 0 Y.length,ρ',B++C,n,rfl,⟨hf.1,fun i hi h0=>?_,?_⟩,g1,?_,g2,rfl,rfl,rfl⟩
 ·show(if i%2=1 then ρ1 i else ρ i)=none
  rw[if_neg (by omega)];exact hf.2.1 i hi h0
 ·refine⟨max m0 m1,fun i hi=>?_⟩
  show(if i%2=1 then ρ1 i else ρ i)=none
  split
  ·exact hm1 i (by omega)
  ·exact hm0 i (by omega)
 ·have:=unc_vr t3
  rw[t6]at this
  simp only[VR]at this⊢
  obtain⟨b5,c5,o5,cs5,e5,f5,w1,w2,w3,w4,w5,w6⟩:=this
  rw[hp0]at w1;cases w1
  exact⟨ba,c5,o5,cs5,e5,f5,hρa,w2,w3,w4,w5,w6⟩
theorem tt_eq {np:Nat} {P:Program} {c:Code} {F F':Fr} {H:Hp} {n:Nat} {Q:Post} (hF:F'=F) (h:TT np P c F H n Q):TT np P c F' H n Q:=hF▸h
theorem nshr (a:Nat):((a:Nat):Int).fdiv (2^min (1:Int).toNat IntKind.u64.bits)=((a/2:Nat):Int):=by
 have e:(2:Int)^min (1:Int).toNat IntKind.u64.bits=2:=by decide
 rw[e,Int.fdiv_eq_ediv_of_nonneg _ (by omega)]
 omega
theorem ov_use {G:Prg} {f s t tR e la o lb cb a b oa:Nat} {i j:TI} {fn:Func} {H:Hp} {n:Nat} {Q:CPost} {ca cb':List AV} (hq:Q (.bool false) H n)
  (ha:hgt H a=some ca) (hb:hgt H b=some cb') (hab:Nat.beq a b=false) (ha4:Nat.beq (a%4) 2=false) (hlb:0<lb) (hs:s=j.size) (hs0:0<j.size)
  (ht:G.tf t=some i) (hk:i.k=.slice e) (hj:G.tf e=some j)
  (hf:G.P.funcs[f]?=some fn) (hn:(fn.name== "runtime.NumGoroutine")=false) (hbd:fn.body.isNone=true) (hx:Extern.findNext fn=none) (he:Extern.find fn=some (Extern.SlicesOverlaps.overlaps #[t,t] #[tR])):
  TCall G f [.osl a s oa la,.ocl b s o lb cb] H n Q:=by
 intro X ρ w vs hfr hr hv
 obtain⟨va,vb,hvs⟩:∃va vb,vs.toList=[va,vb]:=by
  have:=VRs_length hv
  match vs.toList,this with
  |[x,y],_=>exact⟨x,y,rfl⟩
 have hvs':vs=#[va,vb]:=by apply Array.ext';simpa using hvs
 rw[hvs]at hv
 simp only[VRs]at hv
 obtain⟨v1,v2,_⟩:=hv
 have v1':=v1
 have v2':=v2
 simp only[VR]at v1 v2
 obtain⟨ba,c,o',cs,e1,f1,r1,rfl,r2,r3,r4,r5⟩:=v1
 obtain⟨bb,o2,cs2,e2,f2,q1,rfl,q2,q3,q4,q5⟩:=v2
 obtain⟨ba',c1,e3,f3,k1,k2,k3,k4,k5,k6⟩:=hr.obj a _ (hgt_mem ha)
 rw[r1]at k1;cases k1
 rw[r4]at k2;cases k2
 have hne:ba≠bb:=by
  rintro rfl
  have:=hr.inj a b ba (hgt_ids ha) (hgt_ids hb) r1 q1
  subst this
  rw[Nat.beq_refl]at hab;cases hab
 have hf0:f1=(0,0):=k3.2.resolve_right fun h=>by
  rw[h]at ha4;cases ha4
 subst hf0
 have hkB:cs2.size≠0:=by
  have:cb*1<=cb*s:=Nat.mul_le_mul_left _ (by omega)
  omega
 obtain⟨d,d1,d2,_⟩:=(G.ok _ _ ht).und
 rw[hk]at d2
 cases d<;>simp only[kok]at d2
 subst d2
 have hrun:=Lib.run_overlaps_apart (P:=G.P) w t tR _ d1 j.size (fun w=>run_sizeOf hj) ⟨ba,o',none⟩ ⟨bb,o2,none⟩ la c lb cb hne e1 e2 cs.size cs2.size (by simp[World.shape?,r4]) (by simp[World.shape?,q4]) hkB (by simp[World.frozen?,r4]) (by simp[World.frozen?,r4])
 unfold CallsX
 rw[run_callFunc_extern hf hn hbd hx he,hvs',hrun]
 simp only[Result.andThen_ok]
 exact⟨.bool false,.bool false,ρ,H,n,rfl,hfr,hr,by simp only[VR],Nx.refl ..,hq⟩
theorem trd_any {G:Prg} {A:Array Oper} {F:Fr} {H:Hp} {n:Nat} {K:RK} (B:List Nat) (ord:List Nat) (hc:okD A.toList B ord=true) (hM:okMk G A.toList=true)
  (h:runC G A.toList B ord [] F H n K) {X:Nat->Prop} {N:Nat} {ρ:Rho} {a:Act} {w:World} (hs:S X N ρ n F H a w) (hN:okOps N A=true) {Q':Exit->Act->World->Prop}
  (hQ:∀ρ' F' H' n' a' w',S X N ρ' n' F' H' a' w'->Nx ρ H w n ρ' H' w' n'->K F' H' n'->Q' .normal a' w'):
  wpAny G.P .any A Q' A.size (Array.replicate A.size false) a {w with drawn:=w.drawn+1}:=by
 simp only[okD,Bool.and_eq_true,List.all_eq_true]at hc
 obtain⟨hB,hO,hR,hD,hall⟩:=hc
 have hcar:Carry ρ ρ w {w with drawn:=w.drawn+1} (OX X ρ H) (OX X ρ H):=⟨fun _ _ h=>h,Nat.le_refl _,fun _ _ _=>rfl,fun b cs e f h=>⟨cs,f,h,rfl⟩,fun _ _ h=>h⟩
 have hs1:S X N ρ n F H a {w with drawn:=w.drawn+1}:=⟨hs.fresh,hs.hr.carry hcar (fun _ _=>rfl) (fun _ _=>rfl),fun t=>VR_carry hcar _ _ (hs.fr t),hs.df,hs.sz⟩
 have hfalse:∀j,(Array.replicate A.size false).getD j false=false:=by
  intro j
  rw[Array.getD_eq_getD_getElem?]
  by_cases hj:j<A.size<;>simp[hj]
 have hA:At G A B (Array.replicate A.size false) [] ord [] [] F H n K:=by
  refine⟨hO,fun i hi=>.inr ?_,by simp,by simp,fun j hj=>?_,by simp,by simp,h⟩
  ·have:=hall i (by simpa using hi);simpa using this
  ·rw[hfalse]at hj;cases hj
 have hc0:∀k o,A.toList[k]?=some o->(Array.replicate A.size false).getD k false=true->∀j,j∈prs o->(Array.replicate A.size false).getD j false=true:=fun k o _ hk=>by rw[hfalse]at hk;cases hk
 have hn1:Nx ρ H w n ρ H {w with drawn:=w.drawn+1} n:=⟨fun _ _ h=>h,Nat.le_refl _,⟨rfl,rfl,rfl,Nat.le_refl _,fun _ _ _=>rfl,fun b cs e f h=>⟨cs,f,h,rfl⟩⟩,fun b hb=>.inl hb⟩
 obtain⟨s',r',d',l',F',H',n',ρ',pn',k1,k2,k3,k4,k5⟩:=settle (X:=X) (N:=N) (a:=a) (w:={w with drawn:=w.drawn+1}) (ρ0:=ρ) (H0:=H) (w0:=w) (n0:=n) hB hR hD hc0 _ _ _ _ _ _ _ _ _ hA
  (by rw[XP_nil];exact hs1.re fun t=>(gt_msk').symm) hn1 ⟨by simp,by simp,fun j o _ _ hl=>(by rw[hfalse]at hl;cases hl),by simp⟩
 exact draw_all (Q':=Q') hB hR hD hM hN (ρ0:=ρ) (H0:=H) (w0:=w) (n0:=n) hQ
  A.size _ a _ ρ' n' F' H' s' r' d' l' pn' k2 k3 k1 k4 k5 hc0 (by simp) (Nat.le_trans List.countP_le_length (by simp))
section
variable {P:Program} {A:Array Oper} {o:Oper} {Q:Exit->Act->World->Prop}
def Qe (o:Oper) (P:Program) (Q:Exit->Act->World->Prop):Exit->Act->World->Prop:=fun e a w=>match e with
 |.normal=>o.wp P a w (fun a' w'=>Q .normal a' w') Q
 |e=>Q e a w
theorem upon_qe {o':Oper} {a:Act} {K:Act->World->Prop} {r:Result Next} (h:o'.upon P a K (Qe o P Q) r):o'.upon P a K Q r:=by
 unfold Oper.upon at h⊢
 split at h<;>first|exact h|(simp only[Qe]at h;exact h)|(simp only[Qe,LetsOut]at h⊢;exact h)
def gin (L:List Oper):Bool:=L.all fun o=>match o.guard with|none=>true|some (j,_)=>Nat.blt j L.length
theorem wpAny_last (hg:gin A.toList=true) (hgo:o.guard=none) (hA:∀i oi,A[i]?=some oi->∀j,j∈prs oi->j<i) (ho:∀j,j<A.size↔j∈prs o):
  ∀(fuel:Nat) (lA l:Array Bool) (a:Act) (w:World),l.size=A.size+1->lA.size=A.size->(∀j,j<A.size->l.getD j false=lA.getD j false)->l.getD A.size false=false->
   wpAny P .any A (Qe o P Q) fuel lA a w->wpAny P .any (A.push o) Q (fuel+1) l a w:=by
 have hget:∀i,i<A.size->(A.push o)[i]?=A[i]?:=fun i hi=>by rw[Array.getElem?_push,if_neg (by omega)]
 have hgetl:(A.push o)[A.size]?=some o:=by simp
 have hbt:∀{l:Array Bool} {i:Nat},i<l.size->l.getD i true=l.getD i false:=fun {l i} hi=>by
  rw[Array.getD_eq_getD_getElem?,Array.getD_eq_getD_getElem?,Array.getElem?_eq_getElem hi];rfl
 have hprs:∀(o':Oper) (l:Array Bool),(∀e,e∈o'.after.toList->Region.binds .any e=true->l.getD e.on false=true)↔∀j,j∈prs o'->l.getD j false=true:=by
  intro o' l
  constructor
  ·intro h j hj
   obtain⟨e,he,hej⟩:=List.mem_filterMap.1 hj
   cases hb:Region.binds .any e with
   |false=>rw[hb]at hej;cases hej
   |true=>rw[hb]at hej;simp only[cond_true,Option.some.injEq]at hej;subst hej;exact h e he hb
  ·intro h e he hb
   exact h _ (List.mem_filterMap.2 ⟨e,he,by simp[hb]⟩)
 have hrd:∀(lA l:Array Bool),l.size=A.size+1->lA.size=A.size->(∀j,j<A.size->l.getD j false=lA.getD j false)->l.getD A.size false=false->∀i,i∈Region.ready .any (A.push o) l↔(i∈Region.ready .any A lA\/(i=A.size/\∀j,j<A.size->lA.getD j false=true)):=by
  intro lA l h1 h2 h3 h4 i
  rw[mem_ready,mem_ready]
  constructor
  ·rintro⟨k1,o',k2,k3⟩
   have hi:i<(A.push o).size:=(Array.getElem?_eq_some_iff.1 k2).1
   rw[Array.size_push]at hi
   by_cases hia:i=A.size
   ·subst hia
    rw[hgetl]at k2;cases k2
    refine .inr ⟨rfl,fun j hj=>?_⟩
    rw[<-h3 j hj]
    exact(hprs o l).1 (fun e he hb=>k3 e (by simpa using he) hb) j ((ho j).1 hj)
   ·have hi:i<A.size:=by omega
    rw[hget i hi]at k2
    refine .inl ⟨?_,o',k2,fun e he hb=>?_⟩
    ·rw[hbt (by omega),<-h3 i hi,<-hbt (by omega)];exact k1
    ·have hj:=(hprs o' l).1 (fun e he hb=>k3 e (by simpa using he) hb)
     have hlt:e.on<i:=hA i o' k2 _ (List.mem_filterMap.2 ⟨e,by simpa using he,by simp[hb]⟩)
     rw[<-h3 _ (by omega)]
     exact k3 e he hb
  ·rintro(⟨k1,o',k2,k3⟩|⟨rfl,hall⟩)
   ·have hi:i<A.size:=(Array.getElem?_eq_some_iff.1 k2).1
    refine⟨?_,o',by rw[hget i hi];exact k2,fun e he hb=>?_⟩
    ·rw[hbt (by omega),h3 i hi,<-hbt (by omega)];exact k1
    ·have hlt:e.on<i:=hA i o' k2 _ (List.mem_filterMap.2 ⟨e,by simpa using he,by simp[hb]⟩)
     rw[h3 _ (by omega)]
     exact k3 e he hb
   ·refine⟨by rw[hbt (by omega)];exact h4,o,hgetl,fun e he hb=>?_⟩
    have hj:e.on∈prs o:=List.mem_filterMap.2 ⟨e,by simpa using he,by simp[hb]⟩
    have:=(ho _).2 hj
    rw[h3 _ this]
    exact hall _ this
 have hend:∀(fuel:Nat) (lA l:Array Bool) (a:Act) (w:World),l.size=A.size+1->lA.size=A.size->(∀j,j<A.size->l.getD j false=lA.getD j false)->l.getD A.size false=false->Region.ready .any A lA=[]->Qe o P Q .normal a w->wpAny P .any (A.push o) Q (fuel+1) l a w:=by
  intro fuel lA l a w h1 h2 h3 h4 hr hq
  have hall:∀j,j<A.size->lA.getD j false=true:=by
   intro j
   induction j using Nat.strongRecOn with
   |_ j ih=>
    intro hj
    cases hx:lA.getD j false
    ·exfalso
     have:j∈Region.ready .any A lA:=by
      rw[mem_ready]
      refine⟨by rw[hbt (by omega)];exact hx,A[j],Array.getElem?_eq_getElem hj,fun e he hb=>?_⟩
      have hlt:e.on<j:=hA j _ (Array.getElem?_eq_getElem hj) _ (List.mem_filterMap.2 ⟨e,by simpa using he,by simp[hb]⟩)
      exact ih _ hlt (by omega)
     rw[hr]at this;simp at this
    ·rfl
  have hready:∀i,i∈Region.ready .any (A.push o) l↔i=A.size:=fun i=>by
   rw[hrd lA l h1 h2 h3 h4 i,hr]
   exact⟨fun h=>h.elim (fun h=>by simp at h) (·.1),fun h=>.inr ⟨h,hall⟩⟩
  refine⟨fun he=>?_,fun i hi=>?_⟩
  ·exfalso
   have:=(hready A.size).2 rfl
   rw[he]at this;simp at this
  ·rw[hready]at hi;subst hi
   unfold wpOp
   rw[hgetl]
   dsimp only
   rw[if_pos (by simp[Region.wanted,hgo])]
   refine .inl (Oper.wp_mono (fun a' w' hq'=>?_) hq)
   have hl':∀j,(l.setIfInBounds A.size true).getD j false=true\/A.size<j:=by
    intro j
    rcases Nat.lt_trichotomy j A.size with hj|hj|hj
    ·left
     rw[Array.getD_eq_getD_getElem?,Array.getElem?_setIfInBounds,if_neg (by omega),<-Array.getD_eq_getD_getElem?,h3 j hj]
     exact hall j hj
    ·left
     subst hj
     rw[Array.getD_eq_getD_getElem?,Array.getElem?_setIfInBounds,if_pos rfl,if_pos (by omega)];rfl
    ·exact .inr hj
   have hnone:Region.ready .any (A.push o) (l.setIfInBounds A.size true)=[]:=by
    rw[List.eq_nil_iff_forall_not_mem]
    intro i hi
    rw[mem_ready]at hi
    obtain⟨k1,o',k2,_⟩:=hi
    have hi:i<(A.push o).size:=(Array.getElem?_eq_some_iff.1 k2).1
    rw[Array.size_push]at hi
    rw[hbt (by simp;omega)]at k1
    rcases hl' i with h|h
    ·rw[h]at k1;cases k1
    ·omega
   cases fuel with
   |zero=>exact⟨hnone,hq'⟩
   |succ fuel=>exact⟨fun _=>hq',fun i hi=>by rw[hnone]at hi;simp at hi⟩
 intro fuel
 induction fuel with
 |zero=>
  intro lA l a w h1 h2 h3 h4 h
  exact hend 0 lA l a w h1 h2 h3 h4 h.1 h.2
 |succ fuel ih=>
  intro lA l a w h1 h2 h3 h4 h
  by_cases hr:Region.ready .any A lA=[]
  ·exact hend (fuel+1) lA l a w h1 h2 h3 h4 hr (h.1 hr)
  ·refine⟨fun he=>?_,fun i hi=>?_⟩
   ·exfalso
    apply hr
    rw[List.eq_nil_iff_forall_not_mem]at he⊢
    intro i hi
    exact he i ((hrd lA l h1 h2 h3 h4 i).2 (.inl hi))
   ·rcases(hrd lA l h1 h2 h3 h4 i).1 hi with hi|⟨rfl,hall⟩
    ·have hk:=h.2 i hi
     have hia:i<A.size:=by
      obtain⟨_,o',k2,_⟩:=mem_ready.1 hi
      exact(Array.getElem?_eq_some_iff.1 k2).1
     unfold wpOp at hk⊢
     rw[hget i hia]
     rw[Array.getElem?_eq_getElem hia]at hk⊢
     dsimp only at hk⊢
     have hw:Region.wanted A[i] (yielded (A.push o) a.tmps)=Region.wanted A[i] (yielded A a.tmps):=by
      unfold gin at hg
      rw[List.all_eq_true]at hg
      have:=hg A[i] (by simp)
      unfold Region.wanted
      cases hgd:A[i].guard with
      |none=>rfl
      |some g=>
       rw[hgd]at this
       obtain⟨gj,gb⟩:=g
       have hlt:gj<A.size:=by simpa[Nat.blt_eq]using this
       simp only[yielded,hget gj hlt]
     rw[hw]
     have hset:∀j,(l.setIfInBounds i true).getD j false=if j=i then true else l.getD j false:=fun j=>by
      rw[Array.getD_eq_getD_getElem?,Array.getElem?_setIfInBounds]
      by_cases e:i=j
      ·subst e;simp[show i<l.size by omega]
      ·rw[if_neg e,if_neg (fun h=>e h.symm),Array.getD_eq_getD_getElem?]
     have hsetA:∀j,(lA.setIfInBounds i true).getD j false=if j=i then true else lA.getD j false:=fun j=>by
      rw[Array.getD_eq_getD_getElem?,Array.getElem?_setIfInBounds]
      by_cases e:i=j
      ·subst e;simp[show i<lA.size by omega]
      ·rw[if_neg e,if_neg (fun h=>e h.symm),Array.getD_eq_getD_getElem?]
     cases hwt:Region.wanted A[i] (yielded A a.tmps)with
     |false=>
      rw[hwt]at hk
      simp only[Bool.false_eq_true,if_false]at hk⊢
      exact ih _ _ _ w (by simp[h1]) (by simp[h2]) (fun j hj=>by rw[hset,hsetA,h3 j hj]) (by rw[hset,if_neg (by omega)];exact h4) hk
     |true=>
     rw[hwt,if_pos rfl]at hk
     rw[if_pos rfl]
     refine hk.imp (fun hk=>?_) (fun hk=>⟨hk.1,?_⟩)
     ·unfold Oper.wp at hk⊢
      refine upon_qe (o:=o) (P:=P) (Q:=Q) ?_
      have:=Oper.wp_mono (P:=P) (Q:=Qe o P Q) (o:=A[i]) (a:=a) (w:=w) (K:=wpAny P .any A (Qe o P Q) fuel (lA.setIfInBounds i true)) (K':=wpAny P .any (A.push o) Q (fuel+1) (l.setIfInBounds i true)) (fun a' w' hk'=>ih _ _ a' w' (by simp[h1]) (by simp[h2]) (fun j hj=>by rw[hset,hsetA,h3 j hj]) (by rw[hset,if_neg (by omega)];exact h4) hk') hk
      exact this
     ·obtain⟨a',w',hq⟩:=hk.2
      exact⟨a',w',hq⟩
    ·exfalso
     apply hr
     rw[List.eq_nil_iff_forall_not_mem]
     intro i hi
     obtain⟨k1,o',k2,_⟩:=mem_ready.1 hi
     have hia:=(Array.getElem?_eq_some_iff.1 k2).1
     rw[hbt (by omega),hall i hia]at k1
     cases k1
end
def okLast (L:List Oper) (o:Oper):Bool:=gin L&&((match o.guard with|none=>true|some _=>false)&&((List.range L.length).all (fun j=>(prs o).contains j)&&((prs o).all fun j=>Nat.blt j L.length)))
theorem trq_last {G:Prg} {A:Array Oper} {o:Oper} {id:Nat} {F:Fr} {H:Hp} {n:Nat} {Q:Post} (B:List Nat) (pl:List (Nat×List Nat)) (hc:okPq G A.toList B pl=true) (hl:okLast A.toList o=true)
  (h:runQ G A.toList pl F H n (fun F' H' n'=>runR G (NK Q) o.dst F' H' n' (eo G o.op F' H' n'))):T G.P (.region id (A.push o) true) F H n Q:=by
 simp only[okPq,Bool.and_eq_true]at hc
 have hd:=hc.2.2.1
 simp only[okD,Bool.and_eq_true]at hd
 have hC:=runQ_runC (okCv_at hc.2.1) hd.2.2.1 hd.2.2.2.1 hd.2.1 hc.2.2.2 (by simp) (by simp) h
 simp only[okLast,Bool.and_eq_true,List.all_eq_true,List.mem_range]at hl
 obtain⟨l1,l2,l3,l4⟩:=hl
 intro X N ρ a w hs hN
 simp only[codeOk]at hN
 have hNA:okOps N A=true/\∀d,o.dst=some d->d<N:=by
  unfold okOps at hN⊢
  rw[Array.toList_push,List.all_append,Bool.and_eq_true]at hN
  refine⟨hN.1,fun d hd=>?_⟩
  have:=hN.2
  simp only[List.all_cons,hd,List.all_nil,Bool.and_true,decide_eq_true_eq]at this
  exact this
 refine wp_region_any G.mixed ?_
 have hgo:o.guard=none:=by
  cases hg:o.guard with
  |none=>rfl
  |some g=>rw[hg]at l2;cases l2
 rw[Array.size_push]
 refine wpAny_last l1 hgo (fun i oi hi j hj=>(okB_at hd.1 (by simpa using hi)).1 j hj) (fun j=>⟨fun hj=>by simpa using l3 j (by simpa using hj),fun hj=>by have:=l4 j hj;rw[Nat.blt_eq]at this;simpa using this⟩)
  A.size (Array.replicate A.size false) _ a _ (by simp) (by simp) (fun j hj=>by
   rw[Array.getD_eq_getD_getElem?,Array.getD_eq_getD_getElem?]
   simp[hj,show j<A.size+1 by omega]) (by rw[Array.getD_eq_getD_getElem?];simp) ?_
 refine trd_any B _ hc.2.2.1 hc.1 hC hs hNA.1 ?_
 intro ρ' F' H' n' a' w' h1 h2 h3
 show o.wp G.P a' w' _ _
 refine runR_put h1 hNA.2 ?_ _ (eo_sound o h1) h3
 rintro ρ2 F2 H2 n2 a2 w2 k1 k2 k3 _
 exact⟨ρ2,F2,H2,n2,k1,h2.trans k2,k3⟩
section
variable {np:Nat} {G:Prg} {c:Code} {F:Fr} {H:Hp} {n id:Nat} {Q:Post} {L:List Oper} {pl:List (Nat×List Nat)}
def pp (c:Code):List Oper:=(ro c).toList.dropLast
def po (c:Code):Oper:=(ro c).toList.getLastD {dst:=none,op:=.move (.tmp 0),type:=0,pos:= "",after:=#[],guard:=none}
theorem h_sl (B:List Nat) (hc:c=.seq (.region id ((pp (q1 c)).toArray.push (po (q1 c))) true) (q2 c)) (hL:pp (q1 c)=L) (hp:okPq G L B pl=true) (hl:okLast L (po (q1 c))=true) (h:∀K:RK,(∀F H n,TT np G.P (q2 c) F H n Q->K F H n)->runq G L pl 0 F H n (fun F' H' n'=>runR G K (po (q1 c)).dst F' H' n' (eo G (po (q1 c)).op F' H' n'))):TT np G.P c F H n Q:=by
 rw[hc];subst hL
 exact ttvs fun K hK => (trq_last (Q := JK K Q) (A := (pp (q1 c)).toArray) B pl (by simpa using hp) (by simpa using hl) (by
  have:=h K hK
  rw[show NK (JK K Q)=K from rfl]
  exact this)).tt
theorem h_ql (B:List Nat) (hc:c=.region id ((pp c).toArray.push (po c)) true) (hL:pp c=L) (hp:okPq G L B pl=true) (hl:okLast L (po c)=true) (h:runq G L pl 0 F H n (fun F' H' n'=>runR G (NK Q) (po c).dst F' H' n' (eo G (po c).op F' H' n'))):TT np G.P c F H n Q:=by
 rw[hc];subst hL
 exact(trq_last (A:=(pp c).toArray) B pl (by simpa using hp) (by simpa using hl) h).tt
theorem Sl (B:List Nat) (pl:List (Nat×List Nat)) (h:∀K:RK,(∀F H n,TT np G.P (q2 c) F H n Q->K F H n)->runq G (pp (q1 c)) pl 0 F H n (fun F' H' n'=>runR G K (po (q1 c)).dst F' H' n' (eo G (po (q1 c)).op F' H' n'))) (hc:c=.seq (.region (rid (q1 c)) ((pp (q1 c)).toArray.push (po (q1 c))) true) (q2 c):=by kernel_rfl) (hp:okPq G (pp (q1 c)) B pl=true:=by kernel_rfl) (hl:okLast (pp (q1 c)) (po (q1 c))=true:=by kernel_rfl):TT np G.P c F H n Q:=h_sl B hc rfl hp hl h
theorem Ql (B:List Nat) (pl:List (Nat×List Nat)) (h:runq G (pp c) pl 0 F H n (fun F' H' n'=>runR G (NK Q) (po c).dst F' H' n' (eo G (po c).op F' H' n'))) (hc:c=.region (rid c) ((pp c).toArray.push (po c)) true:=by kernel_rfl) (hp:okPq G (pp c) B pl=true:=by kernel_rfl) (hl:okLast (pp c) (po c)=true:=by kernel_rfl):TT np G.P c F H n Q:=h_ql B hc rfl hp hl h
theorem Qlb {b:Code} {Q':Post} (B:List Nat) (pl:List (Nat×List Nat)) (hQ:∀{F H n},TT np G.P b F H n Q'->Q .normal F H n) (h:runq G (pp c) pl 0 F H n (fun F' H' n'=>runR G (CF np G b Q') (po c).dst F' H' n' (eo G (po c).op F' H' n'))) (hc:c=.region (rid c) ((pp c).toArray.push (po c)) true:=by kernel_rfl) (hp:okPq G (pp c) B pl=true:=by kernel_rfl) (hl:okLast (pp c) (po c)=true:=by kernel_rfl):TT np G.P c F H n Q:=
 Ql B pl (runQ_mono (fun F H n k=>runR_mono (fun F H n h=>hQ h) k) h) hc hp hl
theorem Cfi (ks:List Nat) (h:TT np G.P c (keepF ks F) H n Q):CF np G c Q F H n:=TT_weak (keepF_sub F ks) (List.Sublist.refl _) h
theorem Lo {K:RK} {o:Oper} (d:Nat) (v:AV) (P:Prop->Prop) (h:P (K ((d,v)::F) H n)) (e:∀X:RK,runR G X o.dst F H n (eo G o.op F H n)=P (X ((d,v)::F) H n):=by intro X;kernel_rfl):runR G K o.dst F H n (eo G o.op F H n):=by rw[e K];exact h
end
inductive OT where
 |mk (dir:Bool) (mode:Int) (data:Str) (ids:Option (Nat×Nat)) (names:List Str) (kids:List OT)
instance:Inhabited OT:=⟨.mk false 0 [] none [] []⟩
namespace OT
def dir:OT->Bool|.mk d _ _ _ _ _=>d
def mode:OT->Int|.mk _ m _ _ _ _=>m
def data:OT->Str|.mk _ _ s _ _ _=>s
def ids:OT->Option (Nat×Nat)|.mk _ _ _ i _ _=>i
def names:OT->List Str|.mk _ _ _ _ n _=>n
def kids:OT->List OT|.mk _ _ _ _ _ k=>k
end OT
@[simp] theorem OT.dir_mk (d:Bool) (m:Int) (s:Str) (i:Option (Nat×Nat)) (n:List Str) (k:List OT):(OT.mk d m s i n k).dir=d:=rfl
@[simp] theorem OT.mode_mk (d:Bool) (m:Int) (s:Str) (i:Option (Nat×Nat)) (n:List Str) (k:List OT):(OT.mk d m s i n k).mode=m:=rfl
@[simp] theorem OT.data_mk (d:Bool) (m:Int) (s:Str) (i:Option (Nat×Nat)) (n:List Str) (k:List OT):(OT.mk d m s i n k).data=s:=rfl
@[simp] theorem OT.ids_mk (d:Bool) (m:Int) (s:Str) (i:Option (Nat×Nat)) (n:List Str) (k:List OT):(OT.mk d m s i n k).ids=i:=rfl
@[simp] theorem OT.names_mk (d:Bool) (m:Int) (s:Str) (i:Option (Nat×Nat)) (n:List Str) (k:List OT):(OT.mk d m s i n k).names=n:=rfl
@[simp] theorem OT.kids_mk (d:Bool) (m:Int) (s:Str) (i:Option (Nat×Nat)) (n:List Str) (k:List OT):(OT.mk d m s i n k).kids=k:=rfl
def sln:Option (Nat×Nat)->Nat->AV|none,_=>.nils|some (a,_),l=>.osl (2*a+1) 1 0 l
def slk:Option (Nat×Nat)->Nat->AV|none,_=>.nils|some (_,b),l=>.osl (2*b+1) 5 0 l
def otc (t:OT):List AV:=[.bool t.dir,.int .i64 t.mode,.str t.data,sln t.ids t.names.length,slk t.ids t.kids.length]
theorem otc_len (t:OT):(otc t).length=5:=rfl
def own (t:OT):Hp:=match t.ids with|none=>[]|some (a,b)=>[(2*a+1,fl sc t.names),(2*b+1,fl otc t.kids)]
mutual
def objs:OT->Hp|.mk d m s i ns ks=>own (.mk d m s i ns ks)++objss ks
def objss:List OT->Hp|[]=>[]|t::ts=>objs t++objss ts
end
theorem objs_eq (t:OT):objs t=own t++objss t.kids:=by cases t;simp only[objs,OT.kids]
theorem objss_app:∀(a b:List OT),objss (a++b)=objss a++objss b
 |[],b=>by simp[objss]
 |x::a,b=>by simp only[List.cons_append,objss,objss_app a b,List.append_assoc]
mutual
def er:OT->Tr|.mk d m s _ ns ks=>.mk d m s ns (ers ks)
def ers:List OT->List Tr|[]=>[]|t::ts=>er t::ers ts
end
theorem ers_map:∀ks:List OT,ers ks=ks.map er
 |[]=>by simp[ers]
 |t::ts=>by simp[ers,ers_map ts]
theorem er_eq (t:OT):er t=.mk t.dir t.mode t.data t.names (t.kids.map er):=by cases t;simp only[er,ers_map,OT.dir,OT.mode,OT.data,OT.names,OT.kids]
mutual
def shp:OT->Prop|.mk _ _ _ i ns ks=>(i=none->ns=[]/\ks=[])/\shps ks
def shps:List OT->Prop|[]=>True|t::ts=>shp t/\shps ts
end
theorem shp_eq (t:OT):shp t↔(t.ids=none->t.names=[]/\t.kids=[])/\shps t.kids:=by cases t;simp only[shp,OT.ids,OT.names,OT.kids]
theorem shps_app:∀{a b:List OT},shps (a++b)↔shps a/\shps b
 |[],b=>by simp[shps]
 |x::a,b=>by simp only[List.cons_append,shps,shps_app (a:=a),and_assoc]
theorem shps_get:∀{ks:List OT},shps ks->∀{k:Nat},k<ks.length->shp (ks.getD k default)
 |[],_,k,hk=>by simp at hk
 |t::ts,h,0,_=>h.1
 |t::ts,h,k+1,hk=>shps_get (ks:=ts) h.2 (by simpa using hk)
theorem ods_otc (t:OT):ods (otc t):=by
 simp only[otc,ods,od,true_and]
 cases t.ids with
 |none=>exact⟨trivial,trivial,trivial⟩
 |some p=>obtain⟨a,b⟩:=p;simp only[sln,slk,od];exact⟨by omega,by omega,trivial⟩
theorem ods_fl {α:Type} {f:α->List AV} (hf:∀x,ods (f x)):∀X:List α,ods (fl f X)
 |[]=>trivial
 |x::X=>by
  have:fl f (x::X)=f x++fl f X:=by simp[fl]
  rw[this,ods_app]
  exact⟨hf x,ods_fl hf X⟩
theorem ods_flS (X:List Str):ods (fl sc X):=ods_fl (f:=sc) (fun s=>by simp[sc,ods,od]) X
theorem ods_flO (X:List OT):ods (fl otc X):=ods_fl ods_otc X
theorem odH_own (t:OT):odH (own t):=by
 unfold own
 cases t.ids with
 |none=>trivial
 |some p=>obtain⟨a,b⟩:=p;exact⟨by omega,ods_flS _,by omega,ods_flO _,trivial⟩
mutual
theorem odH_objs:∀t:OT,odH (objs t)
 |.mk d m s i ns ks=>by simp only[objs];exact odH_app.2 ⟨odH_own _,odH_objss ks⟩
theorem odH_objss:∀ks:List OT,odH (objss ks)
 |[]=>by simp only[objss];trivial
 |t::ts=>by simp only[objss];exact odH_app.2 ⟨odH_objs t,odH_objss ts⟩
end
def oat:OT->List Str->Option OT
 |t,[]=>some t
 |t,n::p=>match fnd n t.names with
  |some k=>oat (t.kids.getD k default) p
  |none=>none
def opos:OT->Nat->Nat->List Str->Option (Nat×Nat)
 |_,i,o,[]=>some (i,o)
 |t,_,_,n::p=>match fnd n t.names,t.ids with
  |some k,some (_,b)=>opos (t.kids.getD k default) (2*b+1) (k*5) p
  |_,_=>none
def orep:OT->List Str->OT->OT
 |_,[],x=>x
 |t,n::p,x=>match fnd n t.names with
  |some k=>.mk t.dir t.mode t.data t.ids t.names (t.kids.set k (orep (t.kids.getD k default) p x))
  |none=>t
theorem getD_er (ks:List OT) (k:Nat):(ks.map er).getD k Tr.none=er (ks.getD k default):=by
 simp only[List.getD,List.getElem?_map]
 cases ks[k]?<;>rfl
theorem tat_er:∀(p:List Str) (t:OT),tat (er t) p=(oat t p).map er
 |[],t=>by simp[tat,oat]
 |n::p,t=>by
  rw[tat_cons,oat,er_eq,Tr.names_mk,Tr.kids_mk]
  cases fnd n t.names with
  |none=>rfl
  |some k=>
   dsimp only
   rw[getD_er,tat_er p]
def owf (t:OT):Prop:=(er t).wf=true
theorem owf_len {t:OT} (h:owf t):t.names.length=t.kids.length:=by
 have:=wf_len h
 rw[er_eq]at this
 simpa using this
theorem owf_kid {t:OT} (h:owf t) {k:Nat} (hk:k<t.kids.length):owf (t.kids.getD k default):=by
 have:=wf_kid h (k:=k) (by rw[er_eq];simpa using hk) Tr.none
 rw[er_eq,Tr.kids_mk,getD_er]at this
 exact this
theorem oat_wf:∀{p:List Str} {t x:OT},owf t->oat t p=some x->owf x
 |[],t,x,h,he=>by simp only[oat,Option.some.injEq]at he;exact he▸h
 |n::p,t,x,h,he=>by
  rw[oat]at he
  cases hf:fnd n t.names with
  |none=>rw[hf]at he;cases he
  |some k=>
   rw[hf]at he
   exact oat_wf (owf_kid h (by rw[<-owf_len h];exact fnd_lt hf)) he
theorem oat_shp:∀{p:List Str} {t x:OT},owf t->shp t->oat t p=some x->shp x
 |[],t,x,_,h,he=>by simp only[oat,Option.some.injEq]at he;exact he▸h
 |n::p,t,x,hw,h,he=>by
  rw[oat]at he
  cases hf:fnd n t.names with
  |none=>rw[hf]at he;cases he
  |some k=>
   rw[hf]at he
   have hk:k<t.kids.length:=by rw[<-owf_len hw];exact fnd_lt hf
   exact oat_shp (owf_kid hw hk) (shps_get ((shp_eq t).1 h).2 hk) he
theorem set_split {α:Type} (l:List α) (k:Nat) (hk:k<l.length) (y:α):l.set k y=l.take k++y::l.drop (k+1):=by
 rw[List.set_eq_take_append_cons_drop,if_pos hk]
theorem get_split {α:Type} (l:List α) (k:Nat) (hk:k<l.length) (d:α):l=l.take k++l.getD k d::l.drop (k+1):=by
 have:l.getD k d=l[k]:=by simp[List.getD,hk]
 rw[this,<-List.drop_eq_getElem_cons hk,List.take_append_drop]
theorem focus:∀(p:List Str) (T t:OT),owf T->shp T->oat T p=some t->∀(r:Nat) (A0 B0:List AV),
  ∃(i:Nat) (A B:List AV) (Wo:Hp),opos T r A0.length p=some (i,A.length)/\(i=r\/i%2=1)/\
   ∀t',((r,A0++otc (orep T p t')++B0)::objs (orep T p t')).Perm ((i,A++otc t'++B)::(objs t'++Wo))
 |[],T,t,_,_,he,r,A0,B0=>⟨r,A0,B0,[],rfl,.inl rfl,fun t'=>by simp only[orep,List.append_nil];exact List.Perm.refl _⟩
 |n::p,T,t,hw,hs,he,r,A0,B0=>by
  rw[oat]at he
  cases hf:fnd n T.names with
  |none=>rw[hf]at he;cases he
  |some k=>
   rw[hf]at he
   have hk:k<T.kids.length:=by rw[<-owf_len hw];exact fnd_lt hf
   cases hi:T.ids with
   |none=>
    have:=(((shp_eq T).1 hs).1 hi).2
    rw[this]at hk;simp at hk
   |some q=>
    obtain⟨a,b⟩:=q
    obtain⟨i,A,B,Wo,h1,h2,h3⟩:=focus p (T.kids.getD k default) t (owf_kid hw hk) (shps_get ((shp_eq T).1 hs).2 hk) he (2*b+1) (fl otc (T.kids.take k)) (fl otc (T.kids.drop (k+1)))
    have hl:(fl otc (T.kids.take k)).length=k*5:=by rw[fl_len otc_len,List.length_take,Nat.min_eq_left (by omega)]
    refine⟨i,A,B,(r,A0++otc T++B0)::(2*a+1,fl sc T.names)::(objss (T.kids.take k)++(objss (T.kids.drop (k+1))++Wo)),?_,.inr (h2.elim (fun e=>by omega) id),fun t'=>?_⟩
    ·rw[opos,hf,hi]
     dsimp only
     rw[<-hl];exact h1
    ·have h3:=h3 t'
     have hrep:orep T (n::p) t'=.mk T.dir T.mode T.data T.ids T.names (T.kids.set k (orep (T.kids.getD k default) p t')):=by rw[orep,hf]
     have hcell:otc (orep T (n::p) t')=otc T:=by rw[hrep];simp[otc]
     rw[hcell,objs_eq,hrep,OT.kids_mk,set_split _ _ hk]
     have hown:own (.mk T.dir T.mode T.data T.ids T.names (T.kids.take k++orep (T.kids.getD k default) p t'::T.kids.drop (k+1)))=
       [(2*a+1,fl sc T.names),(2*b+1,fl otc (T.kids.take k)++otc (orep (T.kids.getD k default) p t')++fl otc (T.kids.drop (k+1)))]:=by
      simp only[own,OT.ids_mk,hi,OT.names_mk,OT.kids_mk]
      rw[show T.kids.take k++orep (T.kids.getD k default) p t'::T.kids.drop (k+1)=T.kids.take k++[orep (T.kids.getD k default) p t']++T.kids.drop (k+1) by simp,fl_app,fl_app,fl_one]
     rw[hown,show T.kids.take k++orep (T.kids.getD k default) p t'::T.kids.drop (k+1)=T.kids.take k++([orep (T.kids.getD k default) p t']++T.kids.drop (k+1)) by simp,objss_app,objss_app]
     have e1:objss [orep (T.kids.getD k default) p t']=objs (orep (T.kids.getD k default) p t'):=by simp[objss]
     rw[e1]
     have g1:((r,A0++otc T++B0)::([(2*a+1,fl sc T.names),(2*b+1,fl otc (T.kids.take k)++otc (orep (T.kids.getD k default) p t')++fl otc (T.kids.drop (k+1)))]++(objss (T.kids.take k)++(objs (orep (T.kids.getD k default) p t')++objss (T.kids.drop (k+1)))))).Perm
       ((r,A0++otc T++B0)::(2*a+1,fl sc T.names)::(((2*b+1,fl otc (T.kids.take k)++otc (orep (T.kids.getD k default) p t')++fl otc (T.kids.drop (k+1)))::objs (orep (T.kids.getD k default) p t'))++(objss (T.kids.take k)++objss (T.kids.drop (k+1))))):=by
      simp only[List.cons_append,List.nil_append]
      refine List.Perm.cons _ (List.Perm.cons _ (List.Perm.cons _ ?_))
      rw[<-List.append_assoc,<-List.append_assoc]
      exact List.perm_append_comm.append_right _
     refine g1.trans ?_
     have g2:=(h3.append_right (objss (T.kids.take k)++objss (T.kids.drop (k+1))))
     refine(List.Perm.cons _ (List.Perm.cons _ g2)).trans ?_
     simp only[List.cons_append,List.append_assoc]
     refine(List.Perm.cons _ (List.Perm.swap _ _ _)).trans ((List.Perm.swap _ _ _).trans (List.Perm.cons _ ?_))
     refine List.Perm.trans ?_ (List.perm_append_comm (l₁:=objs t') (l₂:=_)).symm
     simp only[List.cons_append,List.append_assoc]
     refine List.Perm.cons _ (List.Perm.cons _ ?_)
     have g3:∀X Y M:Hp,(X++(Y++M)).Perm (M++(Y++X)):=fun X Y M=>by
      refine List.perm_append_comm.trans ?_
      rw[<-List.append_assoc]
      exact List.perm_append_comm.append_right X
     rw[<-List.append_assoc (objss (T.kids.take k)) (objss (T.kids.drop (k+1)))]
     exact g3 _ _ _
theorem orep_same:∀(p:List Str) (T t:OT),owf T->oat T p=some t->orep T p t=T
 |[],T,t,_,he=>by simp only[oat,Option.some.injEq]at he;rw[orep,he]
 |n::p,T,t,hw,he=>by
  rw[oat]at he
  rw[orep]
  cases hf:fnd n T.names with
  |none=>rfl
  |some k=>
   rw[hf]at he
   have hk:k<T.kids.length:=by rw[<-owf_len hw];exact fnd_lt hf
   dsimp only
   rw[orep_same p _ t (owf_kid hw hk) he]
   have:T.kids.set k (T.kids.getD k default)=T.kids:=by rw[set_split _ _ hk];exact(get_split _ _ hk _).symm
   rw[this]
   cases T;rfl
theorem hgt_of:∀{H:Hp},(ids H).Nodup->∀{i:Nat} {cs:List AV},(i,cs)∈H->hgt H i=some cs
 |(j,ds)::H,hn,i,cs,hm=>by
  simp only[ids,List.map_cons,List.nodup_cons]at hn
  simp only[hgt]
  rcases List.mem_cons.1 hm with e|hm
  ·cases e;simp
  ·have hne:j≠i:=by rintro rfl;exact hn.1 (List.mem_map.2 ⟨_,hm,rfl⟩)
   have:(j==i)=false:=by simpa using hne
   rw[this];exact hgt_of hn.2 hm
theorem hgt_perm {H H':Hp} (hn:(ids H).Nodup) (h:H.Perm H') {i:Nat} {cs:List AV} (hm:(i,cs)∈H'):hgt H i=some cs:=hgt_of hn (h.mem_iff.2 hm)
theorem hgt_ev {E Z:Hp} {i:Nat} (hE:evH E) (hi:i%2=1):hgt (E++Z) i=hgt Z i:=by
 induction E with
 |nil=>rfl
 |cons p E ih=>
  obtain⟨j,o⟩:=p
  have:(j==i)=false:=by have:=hE.1;simpa using(show j≠i by omega)
  simp only[List.cons_append,hgt,this,cond_false,ih hE.2]
theorem hset_ev {E Z:Hp} {i:Nat} {cs:List AV} (hE:evH E) (hi:i%2=1):hset (E++Z) i cs=E++hset Z i cs:=by
 induction E with
 |nil=>rfl
 |cons p E ih=>
  obtain⟨j,o⟩:=p
  have:(j==i)=false:=by have:=hE.1;simpa using(show j≠i by omega)
  simp only[List.cons_append,hset,this,cond_false,ih hE.2]
theorem hset_perm:∀{H:Hp} {i:Nat} {cs ds:List AV} {W:Hp},(ids H).Nodup->H.Perm ((i,cs)::W)->(hset H i ds).Perm ((i,ds)::W):=by
 intro H i cs ds W hn hp
 have hm:(i,cs)∈H:=hp.mem_iff.2 (by simp)
 have key:∀H:Hp,(ids H).Nodup->(i,cs)∈H->∃A B,H=A++(i,cs)::B/\hset H i ds=A++(i,ds)::B:=by
  intro H
  induction H with
  |nil=>intro _ h;simp at h
  |cons q H ih=>
   intro hn hm
   obtain⟨j,o⟩:=q
   simp only[ids,List.map_cons,List.nodup_cons]at hn
   simp only[hset]
   rcases List.mem_cons.1 hm with e|hm
   ·cases e
    exact⟨[],H,rfl,by simp⟩
   ·have hne:j≠i:=by rintro rfl;exact hn.1 (List.mem_map.2 ⟨_,hm,rfl⟩)
    have:(j==i)=false:=by simpa using hne
    obtain⟨A,B,h1,h2⟩:=ih hn.2 hm
    exact⟨(j,o)::A,B,by rw[h1];rfl,by simp only[this,cond_false,h2];rfl⟩
 obtain⟨A,B,h1,h2⟩:=key H hn hm
 rw[h2]
 refine List.perm_middle.trans (List.Perm.cons _ ?_)
 rw[h1]at hp
 exact(List.perm_cons _).1 (List.perm_middle.symm.trans hp)
theorem hdel_perm {H:Hp} {i:Nat} {cs:List AV} {W:Hp} (hn:(ids H).Nodup) (hp:H.Perm ((i,cs)::W)):(hdel H i).Perm W:=by
 have hm:(i,cs)∈H:=hp.mem_iff.2 (by simp)
 have key:∀H:Hp,(ids H).Nodup->(i,cs)∈H->∃A B,H=A++(i,cs)::B/\hdel H i=A++B:=by
  intro H
  induction H with
  |nil=>intro _ h;simp at h
  |cons q H ih=>
   intro hn hm
   obtain⟨j,o⟩:=q
   simp only[ids,List.map_cons,List.nodup_cons]at hn
   simp only[hdel]
   rcases List.mem_cons.1 hm with e|hm
   ·cases e
    exact⟨[],H,rfl,by simp⟩
   ·have hne:j≠i:=by rintro rfl;exact hn.1 (List.mem_map.2 ⟨_,hm,rfl⟩)
    have:(j==i)=false:=by simpa using hne
    obtain⟨A,B,h1,h2⟩:=ih hn.2 hm
    exact⟨(j,o)::A,B,by rw[h1];rfl,by simp only[this,cond_false,h2];rfl⟩
 obtain⟨A,B,h1,h2⟩:=key H hn hm
 rw[h2]
 rw[h1]at hp
 exact(List.perm_cons _).1 (List.perm_middle.symm.trans hp)
theorem DC_nd {G:Prg} {f:Nat} {args:List AV} {Z:Hp} {R:AV->Hp->Prop} (h:(ids Z).Nodup->DC G f args Z R):DC G f args Z R:=by
 intro E n hE X ρ w vs hf hr hv
 have hn:(ids Z).Nodup:=by
  have:=hr.nodup
  simp only[ids,List.map_append]at this
  exact(List.nodup_append.1 this).2.1
 exact h hn E n hE X ρ w vs hf hr hv
theorem TT_nd {np:Nat} {P:Program} {c:Code} {F:Fr} {H:Hp} {n:Nat} {Q:Post} (h:(ids H).Nodup->TT np P c F H n Q):TT np P c F H n Q:=fun X N ρ a w hs hc=>h hs.hr.nodup X N ρ a w hs hc
theorem ldr_d {ti:TI} {i o:Nat} {cs:List AV} {v:AV} {H:Hp} {n:Nat} (hg:hgt H i=some cs) (hv:ldo ti cs o=v):ldr ti (.ptr i o) H n=.need (o+ti.size<=cs.length/\o<cs.length) (.ok v H n):=by
 simp only[ldr,hg,hv]
def tiq (G:Prg) (t:Nat):TI:=match G.tf t with|some i=>i|none=>⟨0,0,false,[],.other⟩
section
variable {G:Prg} {L:List Oper} {pl:List (Nat×List Nat)} {k:Nat} {F:Fr} {H:Hp} {n:Nat} {K:RK}
theorem gel (d:Nat) (ti:TI) (i o:Nat) (v:AV) {cs:List AV} (e:∀J:RK,runE G L ((L.drop k).take 1) F H n J=runR G J (some d) F H n (ldr ti (.ptr i o) H n)) (hg:hgt H i=some cs) (h1:o+ti.size<=cs.length/\o<cs.length) (hv:ldo ti cs o=v)
  (h:runE G L (L.drop (k+1)) ((d,v)::F) H n K):runE G L (L.drop k) F H n K:=by
 refine sege 1 (k+1) rfl fun J hJ=>?_
 rw[e J,ldr_d hg hv]
 exact⟨h1,hJ _ _ _ h⟩
theorem gql (d:Nat) (ti:TI) (i o:Nat) (v:AV) {cs:List AV} (e:∀J:RK,runQ G L ((pl.drop k).take 1) F H n J=rR2 (ldr ti (.ptr i o) H n) (fun v=>J ((d,v)::F) H n)) (hg:hgt H i=some cs) (h1:o+ti.size<=cs.length/\o<cs.length) (hv:ldo ti cs o=v)
  (h:runQ G L (pl.drop (k+1)) ((d,v)::F) H n K):runQ G L (pl.drop k) F H n K:=by
 refine segq 1 (k+1) rfl fun J hJ=>?_
 rw[e J,ldr_d hg hv]
 exact⟨h1,hJ _ _ _ h⟩
theorem ges (ti:TI) (i o:Nat) (v:AV) (H':Hp) {cs:List AV} (e:∀J:RK,runE G L ((L.drop k).take 1) F H n J=runR G J none F H n (str ti (.ptr i o) v H n)) (hg:hgt H i=some cs) (h1:okc v=true/\(cl v).length=ti.size/\o+ti.size<=cs.length) (hH:hset H i (cs.take o++cl v++cs.drop (o+ti.size))=H')
  (h:runE G L (L.drop (k+1)) F H' n K):runE G L (L.drop k) F H n K:=by
 refine sege 1 (k+1) rfl fun J hJ=>?_
 rw[e J]
 unfold str
 dsimp only
 rw[hg]
 dsimp only
 rw[hH]
 exact⟨h1,hJ _ _ _ h⟩
theorem gqs (ti:TI) (i o:Nat) (v:AV) (H':Hp) {cs:List AV} (e:∀J:RK,runQ G L ((pl.drop k).take 1) F H n J=runR G (fun F' H' n'=>True/\J F' H' n') none F H n (str ti (.ptr i o) v H n)) (hg:hgt H i=some cs) (h1:okc v=true/\(cl v).length=ti.size/\o+ti.size<=cs.length) (hH:hset H i (cs.take o++cl v++cs.drop (o+ti.size))=H')
  (h:runQ G L (pl.drop (k+1)) F H' n K):runQ G L (pl.drop k) F H n K:=by
 refine segq 1 (k+1) rfl fun J hJ=>?_
 rw[e J]
 unfold str
 dsimp only
 rw[hg]
 dsimp only
 rw[hH]
 exact⟨h1,trivial,hJ _ _ _ h⟩
end
theorem mid_get {A B:List AV} {t:OT} (j:Nat) (hj:j<5) (d:AV):(A++otc t++B).getD (A.length+j) d=(otc t).getD j d:=by
 simp only[List.getD]
 rw[List.append_assoc,List.getElem?_append_right (by omega),Nat.add_sub_cancel_left,List.getElem?_append_left (by rw[otc_len];exact hj)]
theorem mid_take {A B:List AV} {t:OT}:((A++otc t++B).drop A.length).take 5=otc t:=by
 rw[List.append_assoc,List.drop_left',List.take_left']<;>rfl
theorem mid_set {A B:List AV} {t:OT} (j:Nat) (hj:j<5) (x:AV):(A++otc t++B).take (A.length+j)++[x]++(A++otc t++B).drop (A.length+j+1)=A++((otc t).take j++[x]++(otc t).drop (j+1))++B:=by
 have e1:(A++otc t++B).take (A.length+j)=A++(otc t).take j:=by
  rw[List.append_assoc,List.take_append,List.take_of_length_le (by omega),Nat.add_sub_cancel_left,List.take_append_of_le_length (by rw[otc_len];omega)]
 have e2:(A++otc t++B).drop (A.length+j+1)=(otc t).drop (j+1)++B:=by
  rw[List.append_assoc,List.drop_append,List.drop_of_length_le (by omega),List.nil_append,show A.length+j+1-A.length=j+1 by omega,List.drop_append_of_le_length (by rw[otc_len];omega)]
 rw[e1,e2]
 simp only[List.append_assoc]
section
variable {G:Prg} {L:List Oper} {pl:List (Nat×List Nat)} {k:Nat} {F:Fr} {H:Hp} {n:Nat} {K:RK} {A B:List AV} {t:OT}
def ok1 (ti:TI):Bool:=Nat.beq ti.size 1&& !ti.agg
theorem ok1_at {ti:TI} (h:ok1 ti=true):ti.size=1/\ti.agg=false:=by
 simp only[ok1,Bool.and_eq_true,Bool.not_eq_true']at h
 exact⟨Nat.eq_of_beq_eq_true h.1,h.2⟩
theorem mid_in {ti:TI} (h:ok1 ti=true) (j:Nat) (hj:j<5):A.length+j+ti.size<=(A++otc t++B).length/\A.length+j<(A++otc t++B).length:=by
 rw[(ok1_at h).1];simp only[List.length_append,otc_len];omega
theorem mid_ldo {ti:TI} (h:ok1 ti=true) (j:Nat) (hj:j<5):ldo ti (A++otc t++B) (A.length+j)=(otc t).getD j .dead:=by
 simp only[ldo,(ok1_at h).2,cond_false,mid_get j hj]
theorem geln (d tn:Nat) (i j:Nat) (v:AV) (e:∀J:RK,runE G L ((L.drop k).take 1) F H n J=runR G J (some d) F H n (ldr (tiq G tn) (.ptr i (A.length+j)) H n)) (hg:hgt H i=some (A++otc t++B)) (h1:(ok1 (tiq G tn)&&Nat.blt j 5)=true) (hv:(otc t).getD j .dead=v)
  (h:runE G L (L.drop (k+1)) ((d,v)::F) H n K):runE G L (L.drop k) F H n K:=by
 rw[Bool.and_eq_true,Nat.blt_eq]at h1
 exact gel d (tiq G tn) i (A.length+j) v e hg (mid_in h1.1 j h1.2) ((mid_ldo h1.1 j h1.2).trans hv) h
theorem gqln (d tn:Nat) (i j:Nat) (v:AV) (e:∀J:RK,runQ G L ((pl.drop k).take 1) F H n J=rR2 (ldr (tiq G tn) (.ptr i (A.length+j)) H n) (fun v=>J ((d,v)::F) H n)) (hg:hgt H i=some (A++otc t++B)) (h1:(ok1 (tiq G tn)&&Nat.blt j 5)=true) (hv:(otc t).getD j .dead=v)
  (h:runQ G L (pl.drop (k+1)) ((d,v)::F) H n K):runQ G L (pl.drop k) F H n K:=by
 rw[Bool.and_eq_true,Nat.blt_eq]at h1
 exact gql d (tiq G tn) i (A.length+j) v e hg (mid_in h1.1 j h1.2) ((mid_ldo h1.1 j h1.2).trans hv) h
theorem gela (d tn:Nat) (i:Nat) (v:AV) (e:∀J:RK,runE G L ((L.drop k).take 1) F H n J=runR G J (some d) F H n (ldr (tiq G tn) (.ptr i A.length) H n)) (hg:hgt H i=some (A++otc t++B)) (h1:(Nat.beq (tiq G tn).size 5&&(tiq G tn).agg)=true) (hv:.agg (otc t)=v)
  (h:runE G L (L.drop (k+1)) ((d,v)::F) H n K):runE G L (L.drop k) F H n K:=by
 rw[Bool.and_eq_true]at h1
 have hs:=Nat.eq_of_beq_eq_true h1.1
 refine gel d (tiq G tn) i A.length v e hg (by rw[hs];simp only[List.length_append,otc_len];omega) ?_ h
 simp only[ldo,h1.2,hs,cond_true,mid_take]
 exact hv
theorem gesn (tn:Nat) (i j:Nat) (v:AV) (t':OT) (H':Hp) (e:∀J:RK,runE G L ((L.drop k).take 1) F H n J=runR G J none F H n (str (tiq G tn) (.ptr i (A.length+j)) v H n)) (hg:hgt H i=some (A++otc t++B)) (h1:(ok1 (tiq G tn)&&(Nat.blt j 5&&okc v))=true) (hc:cl v=[v]) (hv:(otc t).take j++[v]++(otc t).drop (j+1)=otc t') (hH:hset H i (A++otc t'++B)=H')
  (h:runE G L (L.drop (k+1)) F H' n K):runE G L (L.drop k) F H n K:=by
 rw[Bool.and_eq_true,Bool.and_eq_true,Nat.blt_eq]at h1
 obtain⟨h2,h3,h4⟩:=h1
 refine ges (tiq G tn) i (A.length+j) v H' e hg ⟨h4,by rw[hc,(ok1_at h2).1];rfl,(mid_in h2 j h3).1⟩ ?_ h
 rw[hc,(ok1_at h2).1,mid_set j h3,hv];exact hH
theorem gqsn (tn:Nat) (i j:Nat) (v:AV) (t':OT) (H':Hp) (e:∀J:RK,runQ G L ((pl.drop k).take 1) F H n J=runR G (fun F' H' n'=>True/\J F' H' n') none F H n (str (tiq G tn) (.ptr i (A.length+j)) v H n)) (hg:hgt H i=some (A++otc t++B)) (h1:(ok1 (tiq G tn)&&(Nat.blt j 5&&okc v))=true) (hc:cl v=[v]) (hv:(otc t).take j++[v]++(otc t).drop (j+1)=otc t') (hH:hset H i (A++otc t'++B)=H')
  (h:runQ G L (pl.drop (k+1)) F H' n K):runQ G L (pl.drop k) F H n K:=by
 rw[Bool.and_eq_true,Bool.and_eq_true,Nat.blt_eq]at h1
 obtain⟨h2,h3,h4⟩:=h1
 refine gqs (tiq G tn) i (A.length+j) v H' e hg ⟨h4,by rw[hc,(ok1_at h2).1];rfl,(mid_in h2 j h3).1⟩ ?_ h
 rw[hc,(ok1_at h2).1,mid_set j h3,hv];exact hH
end
theorem vw_n {H:Hp} {a:Nat} {X:List Str} (s:Str) (hg:hgt H a=some (fl sc X)):View H [.osl a 1 0 X.length,.str s] [pth X,.str s]:=by
 refine View.fz a hg ?_
 have:fzs a (fl sc X) [.osl a 1 0 X.length,.str s]=[pth X,.str s]:=by
  simp only[fzs,fz,beq_self_eq_true,Bool.true_and,List.drop_zero]
  rw[Nat.ble_eq_true_of_le (by rw[flSl];omega)]
  simp only[cond_true,pth]
  have:=chkS X
  rw[this]
 rw[this]
 exact View.refl _ _
def okid (t:OT) (nm:Str):AV:=match fnd nm t.names,t.ids with|some k,some (_,b)=>.ptr (2*b+1) (k*5)|_,_=>.nilp
theorem okid_no {t:OT} {nm:Str} (h:fndI nm t.names<0\/((t.names.length:Nat):Int)<=fndI nm t.names):okid t nm=.nilp:=by
 unfold okid fndI at*
 cases hf:fnd nm t.names with
 |none=>rfl
 |some k=>
  rw[hf]at h
  have:=fnd_lt hf
  dsimp only at h
  omega
theorem okid_none {t:OT} {nm:Str} (h:t.ids=none):okid t nm=.nilp:=by
 unfold okid;rw[h]
 cases fnd nm t.names<;>rfl
def oad (x:Option (Nat×Nat)):AV:=match x with|some (i,o)=>.ptr i o|none=>.nilp
theorem oat_snoc:∀(q:List Str) (T:OT) (n:Str),oat T (q++[n])=match oat T q with|some t=>oat t [n]|none=>none
 |[],T,n=>by simp only[List.nil_append];rfl
 |m::q,T,n=>by
  rw[List.cons_append,oat,oat]
  cases fnd m T.names with
  |none=>rfl
  |some k=>exact oat_snoc q _ n
theorem opos_snoc:∀(q:List Str) (T:OT) (r o:Nat) (n:Str),opos T r o (q++[n])=match opos T r o q,oat T q with|some (i,o'),some t=>opos t i o' [n]|_,_=>none
 |[],T,r,o,n=>by simp only[List.nil_append,oat];rw[show opos T r o []=some (r,o)from rfl]
 |m::q,T,r,o,n=>by
  rw[List.cons_append,opos,opos,oat]
  cases fnd m T.names with
  |none=>rfl
  |some k=>
   cases T.ids with
   |none=>rfl
   |some p=>obtain⟨a,b⟩:=p;exact opos_snoc q _ _ _ n
theorem opos_cut {T:OT} {r o:Nat} {p:List Str} (k:Nat) (h:opos T r o (p.take k)=none):opos T r o p=none:=by
 have key:∀(q:List Str) (T:OT) (r o:Nat) (s:List Str),opos T r o q=none->opos T r o (q++s)=none:=by
  intro q
  induction q with
  |nil=>intro T r o s h;simp[opos]at h
  |cons m q ih=>
   intro T r o s h
   rw[List.cons_append,opos]
   rw[opos]at h
   cases hf:fnd m T.names with
   |none=>rfl
   |some k=>
    cases hi:T.ids with
    |none=>rfl
    |some p=>
     rw[hf,hi]at h
     exact ih _ _ _ _ h
 have:=key (p.take k) T r o (p.drop k) h
 rwa[List.take_append_drop]at this
theorem okid_oad (t:OT) (nm:Str) (i o:Nat):okid t nm=oad (opos t i o [nm]):=by
 unfold okid
 rw[opos]
 cases fnd nm t.names with
 |none=>rfl
 |some k=>cases t.ids with
  |none=>rfl
  |some p=>obtain⟨a,b⟩:=p;rfl
theorem opos_oat:∀{p:List Str} {T:OT} {r o:Nat},owf T->shp T->((opos T r o p).isSome=(oat T p).isSome)
 |[],T,r,o,_,_=>rfl
 |n::p,T,r,o,hw,hs=>by
  rw[opos,oat]
  cases hf:fnd n T.names with
  |none=>rfl
  |some k=>
   have hk:k<T.kids.length:=by rw[<-owf_len hw];exact fnd_lt hf
   cases hi:T.ids with
   |none=>
    have:=(((shp_eq T).1 hs).1 hi).2
    rw[this]at hk;simp at hk
   |some q=>obtain⟨a,b⟩:=q;exact opos_oat (owf_kid hw hk) (shps_get ((shp_eq T).1 hs).2 hk)
mutual
def osm (B:Nat):OT->Prop|.mk _ _ _ _ ns ks=>ns.length<B/\osms B ks
def osms (B:Nat):List OT->Prop|[]=>True|t::ts=>osm B t/\osms B ts
end
theorem osm_eq {B:Nat} (t:OT):osm B t↔t.names.length<B/\osms B t.kids:=by cases t;simp only[osm,OT.names,OT.kids]
theorem osms_get {B:Nat}:∀{ks:List OT},osms B ks->∀{k:Nat},k<ks.length->osm B (ks.getD k default)
 |[],_,k,hk=>by simp at hk
 |t::ts,h,0,_=>h.1
 |t::ts,h,k+1,hk=>osms_get (ks:=ts) h.2 (by simpa using hk)
theorem oat_osm {B:Nat}:∀{p:List Str} {t x:OT},owf t->osm B t->oat t p=some x->osm B x
 |[],t,x,_,h,he=>by simp only[oat,Option.some.injEq]at he;exact he▸h
 |n::p,t,x,hw,h,he=>by
  rw[oat]at he
  cases hf:fnd n t.names with
  |none=>rw[hf]at he;cases he
  |some k=>
   rw[hf]at he
   have hk:k<t.kids.length:=by rw[<-owf_len hw];exact fnd_lt hf
   exact oat_osm (owf_kid hw hk) (osms_get ((osm_eq t).1 h).2 hk) he
theorem h_lp {np:Nat} {G:Prg} {c:Code} {F:Fr} {H:Hp} {n:Nat} {Q:Post} {σ:Type} (Fi:σ->Fr) (Hi:σ->Hp) (I:σ->Nat->Prop) (m:σ->Nat) (x0:σ) (hc:c=.loop (lp c)) (h0:I x0 n) (hf:fsub (Fi x0) F) (hh:(Hi x0).Sublist H)
  (round:∀x n',I x n'->TT np G.P (lp c) (Fi x) (Hi x) n' (LK Fi Hi I m x Q)):TT np G.P c F H n Q:=by
 rw[hc];exact TT_loop Fi Hi I m x0 h0 hf hh round
structure Lies (Z:Hp) (r:Nat) (A0 B0:List AV) (T:OT) (W:Hp):Prop where
 odd:odH Z
 r1:r%2=1
 perm:Z.Perm ((r,A0++otc T++B0)::(objs T++W))
 wf:owf T
 shp:shp T
 sm:osm (2^36) T
theorem Lies.foc {Z W:Hp} {r:Nat} {A0 B0:List AV} {T t:OT} {p:List Str} (h:Lies Z r A0 B0 T W) (ht:oat T p=some t):
  ∃(i:Nat) (A B:List AV) (Wo:Hp),opos T r A0.length p=some (i,A.length)/\i%2=1/\Z.Perm ((i,A++otc t++B)::(own t++(objss t.kids++Wo)))/\t.names.length=t.kids.length/\t.names.length<2^36/\
   (∀t',((r,A0++otc (orep T p t')++B0)::(objs (orep T p t')++W)).Perm ((i,A++otc t'++B)::(objs t'++Wo))):=by
 obtain⟨i,A,B,Wo,h1,h2,h3⟩:=focus p T t h.wf h.shp ht r A0 B0
 have hr:=h.r1
 refine⟨i,A,B,Wo++W,h1,h2.elim (fun e=>by omega) id,?_,owf_len (oat_wf h.wf ht),((osm_eq t).1 (oat_osm h.wf h.sm ht)).1,fun t'=>?_⟩
 ·have h4:=h3 t
  rw[orep_same p T t h.wf ht]at h4
  refine h.perm.trans ?_
  have:=h4.append_right W
  simp only[List.cons_append,List.append_assoc]at this
  rw[objs_eq t,List.append_assoc]at this
  simpa only[List.append_assoc]using this
 ·have:=(h3 t').append_right W
  simpa only[List.cons_append,List.append_assoc]using this
theorem rows_set (X:List OT) (j:Nat) (x:OT) (hj:j<X.length):(fl otc X).take (0+j*5)++otc x++(fl otc X).drop (0+j*5+5)=fl otc (X.set j x):=by
 rw[Nat.zero_add,fl_take otc_len,show j*5+5=(j+1)*5 by omega,fl_drop otc_len,set_split X j hj]
 rw[show X.take j++x::X.drop (j+1)=X.take j++[x]++X.drop (j+1) by simp,fl_app,fl_app,fl_one]
section
variable {G:Prg} {L:List Oper} {pl:List (Nat×List Nat)} {k:Nat} {F:Fr} {H:Hp} {n:Nat} {K:RK}
theorem gqsr (tn i:Nat) (X:List OT) (j:Nat) (x:OT) (H':Hp) (e:∀J:RK,runQ G L ((pl.drop k).take 1) F H n J=runR G (fun F' H' n'=>True/\J F' H' n') none F H n (str (tiq G tn) (.ptr i (0+j*5)) (.agg (otc x)) H n)) (hg:hgt H i=some (fl otc X)) (h1:Nat.beq (tiq G tn).size 5=true) (hj:j<X.length) (hH:hset H i (fl otc (X.set j x))=H')
  (h:runQ G L (pl.drop (k+1)) F H' n K):runQ G L (pl.drop k) F H n K:=by
 have h1:=Nat.eq_of_beq_eq_true h1
 refine gqs (tiq G tn) i (0+j*5) (.agg (otc x)) H' e hg ⟨rfl,h1.symm▸rfl,by rw[h1,fl_len otc_len];omega⟩ ?_ h
 rw[h1]
 simp only[cl]
 rw[rows_set X j x hj];exact hH
end
theorem put_p1 {Z W:Hp} {i a b k:Nat} {cs X K Y:List AV} (hn:(ids Z).Nodup) (hp:Z.Perm ((i,cs)::([(2*a+1,X),(2*b+1,K)]++W))) (hk:(2*k+1)∉ids Z):
  (hdel Z (2*a+1)++[(2*k+1,Y)]).Perm ((i,cs)::([(2*k+1,Y),(2*b+1,K)]++W))/\(ids (hdel Z (2*a+1)++[(2*k+1,Y)])).Nodup:=by
 have h1:Z.Perm ((2*a+1,X)::(i,cs)::(2*b+1,K)::W):=hp.trans (List.Perm.swap _ _ _)
 have h2:=hdel_perm hn h1
 refine⟨?_,?_⟩
 ·refine List.perm_append_comm.trans ?_
  simp only[List.cons_append,List.nil_append]
  refine(List.Perm.cons _ h2).trans (List.Perm.swap _ _ _)
 ·simp only[ids,List.map_append,List.map_cons,List.map_nil]
  refine List.nodup_append.2 ⟨List.Sublist.nodup ((hdel_sub Z (2*a+1)).map (·.1)) hn,by simp,fun x hx y hy e=>?_⟩
  simp only[List.mem_singleton]at hy
  subst hy;subst e
  exact hk (((hdel_sub Z (2*a+1)).map (·.1)).subset hx)
theorem put_p2 {Z W:Hp} {i a b k:Nat} {cs X K Y:List AV} (hn:(ids Z).Nodup) (hp:Z.Perm ((i,cs)::([(2*a+1,X),(2*b+1,K)]++W))) (hk:(2*k+1)∉ids Z):
  (hdel Z (2*b+1)++[(2*k+1,Y)]).Perm ((i,cs)::([(2*a+1,X),(2*k+1,Y)]++W))/\(ids (hdel Z (2*b+1)++[(2*k+1,Y)])).Nodup:=by
 have h0:((i,cs)::([(2*a+1,X),(2*b+1,K)]++W)).Perm ((i,cs)::([(2*b+1,K),(2*a+1,X)]++W)):=List.Perm.cons _ (List.Perm.swap _ _ _)
 obtain⟨h1,h2⟩:=put_p1 (Y:=Y) hn (hp.trans h0) hk
 exact⟨h1.trans (List.Perm.cons _ (List.Perm.swap _ _ _)),h2⟩
theorem odH_put {Z:Hp} {a k:Nat} {Y:List AV} (hz:odH Z) (hY:ods Y):odH (hdel Z a++[(2*k+1,Y)]):=
 odH_app.2 ⟨odH_of fun i cs hm=>odH_mem hz ((hdel_sub Z a).subset hm),⟨by omega,hY,trivial⟩⟩
theorem odH_hset {Z:Hp} {a:Nat} {Y:List AV} (hz:odH Z) (hY:ods Y) (hn:(ids Z).Nodup):odH (hset Z a Y):=odH_of fun i cs hm=>by
 rcases hset_mem hn hm with ⟨rfl,rfl⟩|⟨_,hm'⟩
 ·have:i∈ids (hset Z i cs):=List.mem_map.2 ⟨_,hm,rfl⟩
  rw[hset_ids]at this
  exact⟨odH_ids hz this,hY⟩
 ·exact odH_mem hz hm'
theorem ods_mid {A B:List AV} {t:OT} {Z:Hp} {i:Nat} {W:Hp} {t0:OT} (hz:odH Z) (hp:Z.Perm ((i,A++otc t0++B)::W)):ods (A++otc t++B):=by
 have h:=(odH_mem hz (hp.mem_iff.2 (by simp):(i,A++otc t0++B)∈Z)).2
 rw[ods_app,ods_app]at h⊢
 exact⟨⟨h.1.1,ods_otc t⟩,h.2⟩
theorem rldn {H:Hp} {n i j:Nat} {A B:List AV} {t:OT} {ti:TI} {v:AV} (hg:hgt H i=some (A++otc t++B)) (h1:(ok1 ti&&Nat.blt j 5)=true) (hv:(otc t).getD j .dead=v):rR2 (ldr ti (.ptr i (A.length+j)) H n) (fun x=>x=v):=by
 rw[Bool.and_eq_true,Nat.blt_eq]at h1
 rw[ldr_d hg ((mid_ldo h1.1 j h1.2).trans hv)]
 exact⟨mid_in h1.1 j h1.2,rfl⟩
theorem del_p1 {Z W:Hp} {i a b:Nat} {cs X K Y:List AV} (hn:(ids Z).Nodup) (hp:Z.Perm ((i,cs)::([(2*a+1,X),(2*b+1,K)]++W))):
  (hdel Z (2*a+1)++[(2*a+1,Y)]).Perm ((i,cs)::([(2*a+1,Y),(2*b+1,K)]++W))/\(ids (hdel Z (2*a+1)++[(2*a+1,Y)])).Nodup:=by
 have h1:Z.Perm ((2*a+1,X)::(i,cs)::(2*b+1,K)::W):=hp.trans (List.Perm.swap _ _ _)
 have h2:=hdel_perm hn h1
 refine⟨?_,?_⟩
 ·refine List.perm_append_comm.trans ?_
  simp only[List.cons_append,List.nil_append]
  exact(List.Perm.cons _ h2).trans (List.Perm.swap _ _ _)
 ·simp only[ids,List.map_append,List.map_cons,List.map_nil]
  refine List.nodup_append.2 ⟨List.Sublist.nodup ((hdel_sub Z (2*a+1)).map (·.1)) hn,by simp,fun x hx y hy e=>?_⟩
  simp only[List.mem_singleton]at hy
  subst hy;subst e
  exact hdel_not hn hx
theorem del_p2 {Z W:Hp} {i a b:Nat} {cs X K Y:List AV} (hn:(ids Z).Nodup) (hp:Z.Perm ((i,cs)::([(2*a+1,X),(2*b+1,K)]++W))):
  (hdel Z (2*b+1)++[(2*b+1,Y)]).Perm ((i,cs)::([(2*a+1,X),(2*b+1,Y)]++W))/\(ids (hdel Z (2*b+1)++[(2*b+1,Y)])).Nodup:=by
 have h0:((i,cs)::([(2*a+1,X),(2*b+1,K)]++W)).Perm ((i,cs)::([(2*b+1,K),(2*a+1,X)]++W)):=List.Perm.cons _ (List.Perm.swap _ _ _)
 obtain⟨h1,h2⟩:=del_p1 (Y:=Y) hn (hp.trans h0)
 exact⟨h1.trans (List.Perm.cons _ (List.Perm.swap _ _ _)),h2⟩
theorem chkS' (X:List Str):chk 1 X.length (fl sc X)=X.map fun s=>[AV.str s]:=chkS X
theorem chkT' (X:List Tr):chk 5 X.length (fl trc X)=X.map trc:=chkT X
section
variable {X:Nat->Prop} {ρ:Rho} {w:World} {H:Hp} {X':Nat->Prop}
mutual
theorem deep_vr (hr:HR X ρ w H) (hX:∀b,X' b->OX X ρ H b):∀(T:OT) (vs:List Value) (O:Nat->Prop),shp T->(∀p,p∈objs T->p∈H)->(∀i b,i∈ids (objs T)->ρ i=some b->¬X' b)->VRs ρ w O (otc T) vs->VRs ρ w X' (trc (er T)) vs
 |.mk d m s i ns ks,vs,O,hs,hsub,hno,hv=>by
  match vs,hv with
  |[v1,v2,v3,v4,v5],hv=>
   simp only[otc,VRs,OT.dir,OT.mode,OT.data,OT.ids,OT.names,OT.kids]at hv
   obtain⟨h1,h2,h3,h4,h5,_⟩:=hv
   rw[er,trc]
   simp only[VRs]
   refine⟨by simpa only[VR]using h1,by simpa only[VR]using h2,by simpa only[VR]using h3,?_,?_,trivial⟩
   ·cases i with
    |none=>
     obtain⟨e1,e2⟩:=hs.1 rfl
     subst e1
     simp only[sln,VR]at h4
     simp only[pth,VR,List.map_nil]
     exact⟨none,0,h4,Nat.le_refl _,fun h=>absurd rfl h⟩
    |some p=>
     obtain⟨a,b⟩:=p
     have hm:(2*a+1,fl sc ns)∈objs (.mk d m s (some (a,b)) ns ks):=by simp[objs,own]
     simp only[sln,VR]at h4
     obtain⟨bk,c,o',cs,e,f,k1,rfl,k2,k3,k4,k5⟩:=h4
     obtain⟨b',c',e',f',q1,q2,q3,q4,q5,q6⟩:=hr.obj _ _ (hsub _ hm)
     rw[k1]at q1;cases q1
     rw[k4]at q2;cases q2
     simp only[pth,VR,List.length_map]
     refine⟨_,c,rfl,k2,fun hne=>?_⟩
     have hl:0<ns.length:=List.length_pos_iff.2 fun h=>hne (by rw[h];rfl)
     have ho:=k3 (by omega)
     subst ho
     refine⟨_,rfl,hno _ _ (List.mem_map.2 ⟨_,hm,rfl⟩) k1,(Array.getElem?_eq_some_iff.1 k4).1,?_⟩
     have:=PEs_of (ρ:=ρ) (O:=X') (s:=1) k4 q4 ns.length (fl sc ns) 0 0 (by rw[flSl];omega) (by rw[flSl]at q5⊢;omega) (VRs_carry (Carry.less hX) _ _ q6)
     rw[chkS']at this
     exact this
   ·cases i with
    |none=>
     obtain⟨e1,e2⟩:=hs.1 rfl
     subst e2
     simp only[slk,VR]at h5
     simp only[ers,trcs,VR]
     exact⟨none,0,h5,Nat.le_refl _,fun h=>absurd rfl h⟩
    |some p=>
     obtain⟨a,b⟩:=p
     have hm:(2*b+1,fl otc ks)∈objs (.mk d m s (some (a,b)) ns ks):=by simp[objs,own]
     simp only[slk,VR]at h5
     obtain⟨bk,c,o',cs,e,f,k1,rfl,k2,k3,k4,k5⟩:=h5
     obtain⟨b',c',e',f',q1,q2,q3,q4,q5,q6⟩:=hr.obj _ _ (hsub _ hm)
     rw[k1]at q1;cases q1
     rw[k4]at q2;cases q2
     have hrow:=deeps_vr hr hX ks _ _ hs.2 (fun p hp=>hsub p (by simp only[objs,List.mem_append];exact .inr hp)) (fun i b hi hb=>hno i b (by simp only[objs,ids,List.map_append,List.mem_append];exact .inr hi) hb) q6
     have hlen:(fl trc (ers ks)).length=(fl otc ks).length:=by rw[flTl,fl_len otc_len,ers_map,List.length_map]
     simp only[VR,trcs_map,List.length_map]
     rw[show(ers ks).length=ks.length by rw[ers_map,List.length_map]]
     refine⟨_,c,rfl,k2,fun hne=>?_⟩
     have hl:0<ks.length:=List.length_pos_iff.2 fun h=>hne (by rw[h];rfl)
     have ho:=k3 (by omega)
     subst ho
     refine⟨_,rfl,hno _ _ (List.mem_map.2 ⟨_,hm,rfl⟩) k1,(Array.getElem?_eq_some_iff.1 k4).1,?_⟩
     have:=PEs_of (ρ:=ρ) (O:=X') (s:=5) k4 q4 (ers ks).length (fl trc (ers ks)) 0 0 (by rw[flTl];omega) (by rw[hlen];omega) (by rw[hlen];exact hrow)
     rw[chkT']at this
     exact this
  |[],hv=>simp[otc,VRs]at hv
  |[_],hv=>simp[otc,VRs]at hv
  |[_,_],hv=>simp[otc,VRs]at hv
  |[_,_,_],hv=>simp[otc,VRs]at hv
  |[_,_,_,_],hv=>simp[otc,VRs]at hv
  |_::_::_::_::_::_::_,hv=>simp[otc,VRs]at hv
theorem deeps_vr (hr:HR X ρ w H) (hX:∀b,X' b->OX X ρ H b):∀(ks:List OT) (vs:List Value) (O:Nat->Prop),shps ks->(∀p,p∈objss ks->p∈H)->(∀i b,i∈ids (objss ks)->ρ i=some b->¬X' b)->VRs ρ w O (fl otc ks) vs->VRs ρ w X' (fl trc (ers ks)) vs
 |[],vs,O,_,_,_,hv=>by
  simp only[ers,fl,List.map_nil,List.flatten_nil]at hv⊢
  match vs,hv with
  |[],_=>simp only[VRs]
  |_::_,hv=>simp[VRs]at hv
 |t::ts,vs,O,hs,hsub,hno,hv=>by
  have e1:fl otc (t::ts)=otc t++fl otc ts:=by simp[fl]
  have e2:fl trc (ers (t::ts))=trc (er t)++fl trc (ers ts):=by simp[fl,ers]
  rw[e1]at hv
  rw[e2]
  have h1:=VRs_take 5 hv
  have h2:=VRs_drop 5 hv
  rw[List.take_left' (otc_len t)]at h1
  rw[List.drop_left' (otc_len t)]at h2
  have g1:=deep_vr hr hX t _ _ hs.1 (fun p hp=>hsub p (by simp only[objss,List.mem_append];exact .inl hp)) (fun i b hi hb=>hno i b (by simp only[objss,ids,List.map_append,List.mem_append];exact .inl hi) hb) h1
  have g2:=deeps_vr hr hX ts _ _ hs.2 (fun p hp=>hsub p (by simp only[objss,List.mem_append];exact .inr hp)) (fun i b hi hb=>hno i b (by simp only[objss,ids,List.map_append,List.mem_append];exact .inr hi) hb) h2
  have:=VRs_append g1 g2
  rwa[List.take_append_drop]at this
end
end
theorem vw_deep {H:Hp} {T:OT} {bs:List AV} (hs:shp T) (hsub:∀p,p∈objs T->p∈H) (hb:purs bs=true):View H (.agg (otc T)::bs) (.agg (tcs (er T))::bs):=by
 intro X ρ w vs hr hv
 refine⟨fun b=>OX X ρ H b/\¬Own ρ (objs T) b,fun b h=>h.1,?_⟩
 match vs,hv with
 |v::vs,hv=>
  simp only[VRs]at hv⊢
  refine⟨?_,purs_vr _ _ hb (VRs_carry (Carry.less fun b h=>h.1) _ _ hv.2)⟩
  have h1:=hv.1
  simp only[VR]at h1⊢
  obtain⟨us,e,h0,h2⟩:=h1
  refine⟨us,e,h0,?_⟩
  rw[show tcs (er T)=trc (er T)from(trc_eq _).symm]
  exact deep_vr hr (fun b h=>h.1) T _ _ hs hsub (fun i b hi hb h=>h.2 ⟨i,hi,hb⟩) h2
 |[],hv=>simp only[VRs]at hv
mutual
def nsl:AV->Prop
 |.sl .. |.pat _=>False
 |.tp .. |.tsl .. =>False
 |.agg az=>nsls az
 |.tup az=>nsls az
 |.fn _ az=>nsls az
 |_=>True
def nsls:List AV->Prop
 |[]=>True
 |a::az=>nsl a/\nsls az
end
def nslH:Hp->Prop
 |[]=>True
 |(_,cs)::H=>nsls cs/\nslH H
theorem nslH_mem:∀{H:Hp} {i:Nat} {cs:List AV},nslH H->(i,cs)∈H->nsls cs
 |(j,ds)::H,i,cs,h,hm=>by
  rcases List.mem_cons.1 hm with e|hm
  ·cases e;exact h.1
  ·exact nslH_mem h.2 hm
theorem nsls_app:∀{az bs:List AV},nsls (az++bs)↔nsls az/\nsls bs
 |[],bs=>by simp[nsls]
 |a::az,bs=>by simp only[List.cons_append,nsls,nsls_app (az:=az),and_assoc]
theorem nslH_app:∀{H K:Hp},nslH (H++K)↔nslH H/\nslH K
 |[],K=>by simp[nslH]
 |(i,cs)::H,K=>by simp only[List.cons_append,nslH,nslH_app (H:=H),and_assoc]
section
variable {ρ:Rho} {w:World} {O O':Nat->Prop}
mutual
theorem nsl_vr:∀(a:AV) (v:Value),nsl a->VR ρ w O a v->VR ρ w O' a v
 |.osl ..,_,_,hv=>by simpa only[VR]using hv
 |.ocl ..,_,_,hv=>by simpa only[VR]using hv
 |.ptr ..,_,_,hv=>by simpa only[VR]using hv
 |.agg az,_,h,hv=>by
  simp only[VR,nsl]at*
  obtain⟨vs,e,h0,h1⟩:=hv
  exact⟨vs,e,h0,nsls_vr az _ h h1⟩
 |.tup az,_,h,hv=>by
  simp only[VR,nsl]at*
  obtain⟨vs,e,h1⟩:=hv
  exact⟨vs,e,nsls_vr az _ h h1⟩
 |.fn f az,_,h,hv=>by
  simp only[VR,nsl]at*
  obtain⟨vs,e,h1⟩:=hv
  exact⟨vs,e,nsls_vr az _ h h1⟩
 |.sl ..,_,h,_=>by simp only[nsl]at h
 |.pat _,_,h,_=>by simp only[nsl]at h
 |.tp ..,_,h,_=>by simp only[nsl]at h
 |.tsl ..,_,h,_=>by simp only[nsl]at h
 |.int _ _,_,_,hv=>by simpa only[VR]using hv
 |.bool _,_,_,hv=>by simpa only[VR]using hv
 |.str _,_,_,hv=>by simpa only[VR]using hv
 |.raw _,_,_,hv=>by simpa only[VR]using hv
 |.nils,_,_,hv=>by simpa only[VR]using hv
 |.nilp,_,_,hv=>by simpa only[VR]using hv
 |.dead,_,_,_=>by simp only[VR]
theorem nsls_vr:∀(az:List AV) (vs:List Value),nsls az->VRs ρ w O az vs->VRs ρ w O' az vs
 |[],[],_,_=>by simp only[VRs]
 |a::az,v::vs,h,hv=>by
  simp only[VRs,nsls]at*
  exact⟨nsl_vr a v h.1 hv.1,nsls_vr az vs h.2 hv.2⟩
 |[],_::_,_,hv=>by simp only[VRs]at hv
 |_::_,[],_,hv=>by simp only[VRs]at hv
end
end
theorem nsls_otc (t:OT):nsls (otc t):=by
 simp only[otc,nsls,nsl,true_and]
 cases t.ids with
 |none=>exact⟨trivial,trivial,trivial⟩
 |some p=>obtain⟨a,b⟩:=p;exact⟨trivial,trivial,trivial⟩
theorem nsls_fl {α:Type} {f:α->List AV} (hf:∀x,nsls (f x)):∀X:List α,nsls (fl f X)
 |[]=>trivial
 |x::X=>by
  have:fl f (x::X)=f x++fl f X:=by simp[fl]
  rw[this,nsls_app]
  exact⟨hf x,nsls_fl hf X⟩
theorem nslH_own (t:OT):nslH (own t):=by
 unfold own
 cases t.ids with
 |none=>trivial
 |some p=>obtain⟨a,b⟩:=p;exact⟨nsls_fl (f:=sc) (fun s=>⟨trivial,trivial⟩) _,nsls_fl nsls_otc _,trivial⟩
mutual
theorem nslH_objs:∀t:OT,nslH (objs t)
 |.mk d m s i ns ks=>by simp only[objs];exact nslH_app.2 ⟨nslH_own _,nslH_objss ks⟩
theorem nslH_objss:∀ks:List OT,nslH (objss ks)
 |[]=>by simp only[objss];trivial
 |t::ts=>by simp only[objss];exact nslH_app.2 ⟨nslH_objs t,nslH_objss ts⟩
end
theorem lend_own {G:Prg} {f:Nat} {args args':List AV} {H:Hp} {n:Nat} {R:AV->Hp->Prop} (hv:View H args args') (h:TCall G f args' [] n fun r Z' n'=>n'=n/\nsl r/\nslH Z'/\odH Z'/\R r Z'):
  TCall G f args H n fun r H' n'=>n'=n/\∃Z',H'=H++Z'/\odH Z'/\R r Z':=by
 intro X ρ w vs hf hr hvs
 obtain⟨X',h1,h2⟩:=hv X ρ w vs.toList hr hvs
 have hr0:HR X' ρ w []:=⟨by simp[ids],by simp[ids],by simp[ids],fun b hb=>hr.ox_old (h1 b hb),by simp⟩
 refine(h X' ρ w vs hf hr0 (by rw[OX_nil];exact h2)).mono ?_
 rintro e w' ⟨v,r,ρ',Z',n',rfl,q1,q2,q3,q4,rfl,q5,q6,q6b,q7⟩
 have hnew:∀b,Own ρ' Z' b->w.heap.size<=b:=fun b hb=>(q4.own b hb).resolve_left fun⟨i,hi,_⟩=>by simp[ids]at hi
 have hC:HR (OX X ρ H) ρ' w' Z':=by
  refine⟨q2.nodup,q2.inj,fun i b hi hb hx=>?_,fun b hb=>Nat.lt_of_lt_of_le (hr.ox_old hb) q4.ext.size,fun i cs hm=>?_⟩
  ·have:=hnew b ⟨i,hi,hb⟩
   have:=hr.ox_old hx
   omega
  ·obtain⟨b,c,e,f,k1,k2,k3,k4,k5,k6⟩:=q2.obj i cs hm
   exact⟨b,c,e,f,k1,k2,k3,k4,k5,nsls_vr _ _ (nslH_mem q6 hm) k6⟩
 obtain⟨g1,g2⟩:=frame_out (n:=n') (fun _=>False) hr (List.Sublist.refl H) (fun _ h=>h.elim) q4.rho hC
  (fun i hi hi'=>by
   obtain⟨b,hb,hlt⟩:=hr.has hi
   have:=hnew b ⟨i,hi',q4.rho i b hb⟩
   omega)
  (q4.ext.mono fun b _ hb=>by obtain⟨i,hi,_⟩:=hb;simp[ids]at hi) (fun b hb=>.inr (hnew b hb))
 exact⟨v,r,ρ',H++Z',n',rfl,q1,g1,nsl_vr _ _ q5 q3,g2,rfl,Z',rfl,q6b,q7⟩
def rnC3 (m:List (Nat×Nat)) (cs cs':List AV):Prop:=rnC m cs cs'\/(ods cs/\cs=cs')
def rnR3 (m:List (Nat×Nat)):Hp->Hp->Prop
 |[],[]=>True
 |(i,cs)::H,(j,cs')::H'=>lkm m i=some j/\rnC3 m cs cs'/\rnR3 m H H'
 |_,_=>False
section
variable {m:List (Nat×Nat)} {n:Nat}
theorem rnR3_mem:∀{H H':Hp} {j:Nat} {ds:List AV},rnR3 m H H'->(j,ds)∈H'->∃i cs,(i,cs)∈H/\lkm m i=some j/\rnC3 m cs ds
 |[],[],_,_,_,h=>by simp at h
 |(i,cs)::H,(k,cs')::H',j,ds,hr,h=>by
  simp only[rnR3]at hr
  rcases List.mem_cons.1 h with e|h
  ·cases e;exact⟨i,cs,by simp,hr.1,hr.2.1⟩
  ·obtain⟨i',cs2,h1,h2⟩:=rnR3_mem hr.2.2 h
   exact⟨i',cs2,by simp[h1],h2⟩
 |[],_::_,_,_,hr,_=>by simp only[rnR3]at hr
 |_::_,[],_,_,hr,_=>by simp only[rnR3]at hr
theorem rnR3_ids {H H':Hp} (hr:rnR3 m H H') {j:Nat} (h:j∈ids H'):∃i,i∈ids H/\lkm m i=some j:=by
 obtain⟨⟨k,ds⟩,hm,rfl⟩:=List.mem_map.1 h
 obtain⟨i,cs,h1,h2,_⟩:=rnR3_mem hr hm
 exact⟨i,List.mem_map.2 ⟨_,h1,rfl⟩,h2⟩
theorem rnR3_nodup (h:okm m n=true):∀{H H':Hp},rnR3 m H H'->(ids H).Nodup->(ids H').Nodup
 |[],[],_,_=>by simp[ids]
 |(i,cs)::H,(k,cs')::H',hr,hn=>by
  simp only[rnR3]at hr
  simp only[ids,List.map_cons,List.nodup_cons]at hn⊢
  refine⟨fun hk=>hn.1 ?_,rnR3_nodup h hr.2.2 hn.2⟩
  obtain⟨i',h1,h2⟩:=rnR3_ids hr.2.2 hk
  have e1:=(okm_at h (lkm_mem hr.1)).1
  have e2:=(okm_at h (lkm_mem h2)).1
  rw[e1]at e2;cases e2;exact h1
 |[],_::_,hr,_=>by simp only[rnR3]at hr
 |_::_,[],hr,_=>by simp only[rnR3]at hr
theorem S.rnz {np:Nat} {X:Nat->Prop} {N n n':Nat} {ρ:Rho} {F F':Fr} {H H' Z:Hp} {a:Act} {w:World} (hm:okm m n'=true) (hpn:okp m np=true) (hF:slF F/\rnF m F=F') (hH:rnR3 m H H') (hz:odH Z) (hst:S X N ρ n F (H++Z) a w):
  S X N (rnr m ρ) n' F' (H'++Z) a w/\(∀b,Own (rnr m ρ) (H'++Z) b->Own ρ (H++Z) b)/\∀i b,(i<np\/i%2=1)->ρ i=some b->rnr m ρ i=some b:=by
 obtain⟨hsl,rfl⟩:=hF
 have iA:∀{A B:Hp} {i:Nat},i∈ids (A++B)↔i∈ids A\/i∈ids B:=fun {A B i}=>by simp only[ids,List.map_append,List.mem_append]
 have hodd:∀i,i%2=1->rnr m ρ i=ρ i:=fun i hi=>by unfold rnr;rw[if_pos hi]
 have hev:∀j,j∈ids H'->j%2=0:=fun j hj=>by
  obtain⟨i,_,hl⟩:=rnR3_ids hH hj
  exact(okm_at hm (lkm_mem hl)).2.2.1
 have hown:∀b,Own (rnr m ρ) (H'++Z) b->Own ρ (H++Z) b:=by
  rintro b ⟨j,hj,hb⟩
  rcases iA.1 hj with hj|hj
  ·obtain⟨i,hi,hl⟩:=rnR3_ids hH hj
   rw[rnr_at hm hl]at hb
   exact⟨i,iA.2 (.inl hi),hb⟩
  ·rw[hodd j (odH_ids hz hj)]at hb
   exact⟨j,iA.2 (.inr hj),hb⟩
 have hO:∀b,OX X (rnr m ρ) (H'++Z) b->OX X ρ (H++Z) b:=fun b hb=>hb.imp id (hown b)
 have hnd:(ids H).Nodup/\(ids Z).Nodup:=by
  have:=hst.hr.nodup
  simp only[ids,List.map_append]at this
  exact⟨(List.nodup_append.1 this).1,(List.nodup_append.1 this).2.1⟩
 refine⟨⟨⟨?_,fun j hj he=>?_,?_⟩,⟨?_,?_,?_,hst.hr.xold,?_⟩,fun t=>?_,hst.df,hst.sz⟩,hown,fun i b hi hb=>?_⟩
 ·unfold okm at hm
  rw[Bool.and_eq_true]at hm
  exact Nat.eq_of_beq_eq_true hm.1
 ·unfold rnr
  rw[if_neg (by omega)]
  cases hl:lkm (swp m) j with
  |none=>rfl
  |some i=>
   exfalso
   have:=lkm_mem hl
   obtain⟨⟨a1,a2⟩,h1,h2⟩:=List.mem_map.1 this
   cases h2
   have:=(okm_at hm h1).2
   omega
 ·obtain⟨m0,h0⟩:=hst.fresh.2.2
  refine⟨max m0 n',fun j hj=>?_⟩
  unfold rnr
  by_cases h2:j%2=1
  ·rw[if_pos h2];exact h0 j (by omega)
  ·rw[if_neg h2]
   cases hl:lkm (swp m) j with
   |none=>rfl
   |some i=>
    exfalso
    have:=lkm_mem hl
    obtain⟨⟨a1,a2⟩,h1,h2⟩:=List.mem_map.1 this
    cases h2
    have:=(okm_at hm h1).2
    omega
 ·simp only[ids,List.map_append]
  refine List.nodup_append.2 ⟨rnR3_nodup hm hH hnd.1,hnd.2,fun x hx y hy e=>?_⟩
  subst e
  have h1:=hev x hx
  have h2:=odH_ids hz hy
  omega
 ·intro i j b hi hj h1 h2
  rcases iA.1 hi with hi|hi<;>rcases iA.1 hj with hj|hj
  ·obtain⟨i',k1,k2⟩:=rnR3_ids hH hi
   obtain⟨j',k3,k4⟩:=rnR3_ids hH hj
   rw[rnr_at hm k2]at h1
   rw[rnr_at hm k4]at h2
   have:=hst.hr.inj i' j' b (iA.2 (.inl k1)) (iA.2 (.inl k3)) h1 h2
   subst this
   rw[k2]at k4;cases k4;rfl
  ·obtain⟨i',k1,k2⟩:=rnR3_ids hH hi
   rw[rnr_at hm k2]at h1
   rw[hodd j (odH_ids hz hj)]at h2
   have:=hst.hr.inj i' j b (iA.2 (.inl k1)) (iA.2 (.inr hj)) h1 h2
   subst this
   have:=hst.hr.nodup
   simp only[ids,List.map_append]at this
   exact absurd rfl ((List.nodup_append.1 this).2.2 i' k1 i' hj)
  ·obtain⟨j',k1,k2⟩:=rnR3_ids hH hj
   rw[rnr_at hm k2]at h2
   rw[hodd i (odH_ids hz hi)]at h1
   have:=hst.hr.inj j' i b (iA.2 (.inl k1)) (iA.2 (.inr hi)) h2 h1
   subst this
   have:=hst.hr.nodup
   simp only[ids,List.map_append]at this
   exact absurd rfl ((List.nodup_append.1 this).2.2 j' k1 j' hi)
  ·rw[hodd i (odH_ids hz hi)]at h1;rw[hodd j (odH_ids hz hj)]at h2
   exact hst.hr.inj i j b (iA.2 (.inr hi)) (iA.2 (.inr hj)) h1 h2
 ·intro i b hi h1
  rcases iA.1 hi with hi|hi
  ·obtain⟨i',k1,k2⟩:=rnR3_ids hH hi
   rw[rnr_at hm k2]at h1
   exact hst.hr.notX i' b (iA.2 (.inl k1)) h1
  ·rw[hodd i (odH_ids hz hi)]at h1
   exact hst.hr.notX i b (iA.2 (.inr hi)) h1
 ·intro j ds hj
  have hod:∀cs,ods cs->∀vs,VRs ρ w (OX X ρ (H++Z)) cs vs->VRs (rnr m ρ) w (OX X (rnr m ρ) (H'++Z)) cs vs:=fun cs ho vs hv=>ods_vr (fun i b hi hb=>by rw[hodd i hi];exact hb) hO _ _ ho hv
  rcases List.mem_append.1 hj with hj|hj
  ·obtain⟨i,cs,h1,h2,h3⟩:=rnR3_mem hH hj
   obtain⟨b,c',e,f,k1,k2,k3,k4,k5,k6⟩:=hst.hr.obj i cs (List.mem_append.2 (.inl h1))
   have hk3:UF j c' f:=⟨k3.1,k3.2.imp (fun h=>h) (by have:=(okm_at hm (lkm_mem h2)).2.2.2;omega)⟩
   rcases h3 with (⟨hp,rfl⟩|⟨hs,rfl⟩)|⟨ho,rfl⟩
   ·exact⟨b,c',e,f,(rnr_at hm h2).trans k1,k2,hk3,k4,k5,purs_vr _ _ hp (VRs_carry (Carry.less hO) _ _ k6)⟩
   ·refine⟨b,c',e,f,(rnr_at hm h2).trans k1,k2,hk3,k4,by rw[rns_len];exact k5,?_⟩
    rw[rns_len]
    exact rns_vr hm hO _ _ hs k6
   ·exact⟨b,c',e,f,(rnr_at hm h2).trans k1,k2,hk3,k4,k5,hod _ ho _ k6⟩
  ·obtain⟨b,c',e,f,k1,k2,k3,k4,k5,k6⟩:=hst.hr.obj j ds (List.mem_append.2 (.inr hj))
   have h1:=odH_mem hz hj
   exact⟨b,c',e,f,by rw[hodd j h1.1];exact k1,k2,k3,k4,k5,hod _ h1.2 _ k6⟩
 ·rw[gt_rnF]
  exact rn_vr hm hO _ _ (slF_gt t hsl) (hst.fr t)
 ·unfold okp at hpn
  rw[List.all_eq_true]at hpn
  by_cases ho:i%2=1
  ·rw[hodd i ho];exact hb
  unfold rnr
  rw[if_neg ho]
  have h1:=hpn i (by simpa using hi.resolve_right ho)
  rw[show Nat.beq (i%2) 1=false from Bool.eq_false_iff.2 fun hq=>ho (Nat.eq_of_beq_eq_true hq)]at h1
  rw[Bool.false_or]at h1
  cases hl:lkm (swp m) i with
  |none=>rw[hl]at h1;cases h1
  |some k=>
   rw[hl]at h1
   simp only[opb]at h1
   rw[Nat.eq_of_beq_eq_true h1]
   exact hb
end
def LS (np:Nat) {σ:Type} (Fi:σ->Fr) (Hi:σ->Hp) (I:σ->Nat->Prop) (m:σ->Nat) (x:σ) (Q:Post):Post:=fun e F H n=>match e with
 |.normal=>∃y,m y<m x/\∃n',I y n'/\∀X N ρ a w,S X N ρ n F H a w->∃ρ',S X N ρ' n' (Fi y) (Hi y) a w/\(∀b,Own ρ' (Hi y) b->Own ρ H b)/\∀i b,(i<np\/i%2=1)->ρ i=some b->ρ' i=some b
 |e=>Q e F H n
theorem TT_loops {np:Nat} {P:Program} {c:Code} {F:Fr} {H:Hp} {n:Nat} {Q:Post} {σ:Type} (Fi:σ->Fr) (Hi:σ->Hp) (I:σ->Nat->Prop) (m:σ->Nat) (x0:σ)
  (h0:I x0 n) (hf:fsub (Fi x0) F) (hh:(Hi x0).Sublist H)
  (round:∀x n',I x n'->TT np P c (Fi x) (Hi x) n' (LS np Fi Hi I m x Q)):TT np P (.loop c) F H n Q:=by
 intro X N ρ a w hst hc
 simp only[codeOk]at hc
 intro b it cs
 have key:∀k x ρ' n' a' w',m x=k->S X N ρ' n' (Fi x) (Hi x) a' w'->Ny np ρ H w ρ' (Hi x) w'->I x n'->
   ∃e a2 w2,(∃ρ' F' H' n',S X N ρ' n' F' H' a2 w2/\Ny np ρ H w ρ' H' w2/\Q e F' H' n')/\Arrives P (lone (b.at a' (.code c::.inLoop c::it)) cs w') b it cs e a2 w2:=by
  intro k
  induction k using Nat.strongRecOn with
  |_ k ih=>
   intro x ρ' n' a' w' hk hs' hn' hI
   obtain⟨e,a1,w1,⟨ρ1,F1,H1,n1,hs1,hn1,hq⟩,harr⟩:=round x n' hI X N ρ' a' w' hs' hc b (.inLoop c::it) cs
   cases e with
   |normal=>
    obtain⟨y,hm,n2,hIy,hcv⟩:=hq
    obtain⟨ρ2,hs2,ho2,hp2⟩:=hcv X N ρ1 a1 w1 hs1
    have hn2:Ny np ρ H w ρ2 (Hi y) w1:=
     let h:=hn'.trans hn1
     ⟨fun i b hi hb=>hp2 i b hi (h.pin i b hi hb),h.ext,fun b hb=>h.own b (ho2 b hb)⟩
    obtain⟨e2,a2,w2,hq2,harr2⟩:=ih (m y) (hk▸hm) y ρ2 n2 a1 w1 rfl hs2 hn2 hIy
    exact⟨e2,a2,w2,hq2,.of_steps (Steps.trans harr (.one step_inLoop)) harr2⟩
   |exit id=>exact⟨_,a1,w1,⟨ρ1,F1,H1,n1,hs1,hn'.trans hn1,hq⟩,.pass (x:=.inLoop c) rfl (fun _ _=>.inl (by simp)) harr⟩
   |goto l=>exact⟨_,a1,w1,⟨ρ1,F1,H1,n1,hs1,hn'.trans hn1,hq⟩,.pass (x:=.inLoop c) rfl (fun _ _=>.inl (by simp)) harr⟩
   |ret=>exact⟨_,a1,w1,⟨ρ1,F1,H1,n1,hs1,hn'.trans hn1,hq⟩,.pass (x:=.inLoop c) rfl (fun _ _=>.inl (by simp)) harr⟩
   |panic ch=>exact⟨_,a1,w1,⟨ρ1,F1,H1,n1,hs1,hn'.trans hn1,hq⟩,.pass (x:=.inLoop c) rfl (fun _ _=>.inl (by simp)) harr⟩
   |outgrown=>exact⟨_,a1,w1,⟨ρ1,F1,H1,n1,hs1,hn'.trans hn1,hq⟩,.pass (x:=.inLoop c) rfl (fun _ _=>.inl (by simp)) harr⟩
 obtain⟨e,a2,w2,hq,harr⟩:=key _ x0 ρ n a w rfl (hst.sub hh hf) ⟨fun _ _ _ h=>h,Ext.refl _ _,fun b hb=>.inl (Own.sub hh hb)⟩ h0
 exact⟨e,a2,w2,hq,.of_steps (.one step_loop) harr⟩
theorem h_ls {np:Nat} {G:Prg} {c:Code} {F:Fr} {H:Hp} {n:Nat} {Q:Post} {σ:Type} (Fi:σ->Fr) (Hi:σ->Hp) (I:σ->Nat->Prop) (m:σ->Nat) (x0:σ) (hc:c=.loop (lp c)) (h0:I x0 n) (hf:fsub (Fi x0) F) (hh:(Hi x0).Sublist H)
  (round:∀x n',I x n'->TT np G.P (lp c) (Fi x) (Hi x) n' (LS np Fi Hi I m x Q)):TT np G.P c F H n Q:=by
 rw[hc];exact TT_loops Fi Hi I m x0 h0 hf hh round
instance {np:Nat} {σ:Type} {Fi:σ->Fr} {Hi:σ->Hp} {I:σ->Nat->Prop} {m:σ->Nat} {x:σ} {Q Q0:Post} [h:Btm Q Q0]:Btm (LS np Fi Hi I m x Q) Q0:=⟨fun k=>h.of k⟩
theorem Lsx {np j:Nat} {σ:Type} {Fi:σ->Fr} {Hi:σ->Hp} {I:σ->Nat->Prop} {m:σ->Nat} {x:σ} {Q:Post} {F:Fr} {H:Hp} {n:Nat} (h:Q (.exit j) F H n):LS np Fi Hi I m x Q (.exit j) F H n:=h
theorem lsz_mk {np:Nat} {σ:Type} {Fi:σ->Fr} {Hi:σ->Hp} {I:σ->Nat->Prop} {m:σ->Nat} {x:σ} {Q:Post} {F:Fr} {H:Hp} {n:Nat} (y:σ) (mp:List (Nat×Nat)) (n':Nat) (F1:Fr) (H1 Hf Z:Hp)
  (h1:m y<m x) (h2:I y n') (h3:okm mp n'=true/\okp mp np=true) (h4:fsub F1 F) (h5:∃H0:Hp,H0.Perm H/\(H1++Z).Sublist H0) (h6:slF F1/\rnF mp F1=Fi y) (h7:rnR3 mp H1 Hf) (h8:Hf++Z=Hi y) (h9:odH Z):LS np Fi Hi I m x Q .normal F H n:=by
 refine⟨y,h1,n',h2,fun X N ρ a w hs=>?_⟩
 obtain⟨H0,hpm,hsub⟩:=h5
 obtain⟨k1,k2,k3⟩:=S.rnz (np:=np) h3.1 h3.2 h6 h7 h9 ((hs.perm hpm).sub hsub h4)
 rw[h8]at k1 k2
 exact⟨_,k1,fun b hb=>by obtain⟨i,hi,hb⟩:=Own.sub hsub (k2 b hb);exact⟨i,(ids_perm hpm i).1 hi,hb⟩,k3⟩
mutual
def asm:OT->Prop|.mk _ _ _ i _ ks=>i.isSome=true/\asms ks
def asms:List OT->Prop|[]=>True|t::ts=>asm t/\asms ts
end
theorem asm_eq (t:OT):asm t↔t.ids.isSome=true/\asms t.kids:=by cases t;simp only[asm,OT.ids,OT.kids]
theorem asms_app:∀{a b:List OT},asms (a++b)↔asms a/\asms b
 |[],b=>by simp[asms]
 |x::a,b=>by simp only[List.cons_append,asms,asms_app (a:=a),and_assoc]
theorem asms_get:∀{ks:List OT},asms ks->∀{k:Nat},k<ks.length->asm (ks.getD k default)
 |[],_,k,hk=>by simp at hk
 |t::ts,h,0,_=>h.1
 |t::ts,h,k+1,hk=>asms_get (ks:=ts) h.2 (by simpa using hk)
theorem oat_asm:∀{p:List Str} {t x:OT},owf t->asm t->oat t p=some x->asm x
 |[],t,x,_,h,he=>by simp only[oat,Option.some.injEq]at he;exact he▸h
 |n::p,t,x,hw,h,he=>by
  rw[oat]at he
  cases hf:fnd n t.names with
  |none=>rw[hf]at he;cases he
  |some k=>
   rw[hf]at he
   have hk:k<t.kids.length:=by rw[<-owf_len hw];exact fnd_lt hf
   exact oat_asm (owf_kid hw hk) (asms_get ((asm_eq t).1 h).2 hk) he
def ClR (t:Tr) (r:AV) (Z:Hp):Prop:=∃T:OT,er T=t/\shp T/\asm T/\r=.agg (otc T)/\Z=objs T
theorem push_ot (X:List OT) (y:OT):apd (fl otc X) (X.length*5) (otc y)=fl otc (X++[y]):=by
 unfold apd
 rw[List.take_of_length_le (by rw[fl_len otc_len];exact Nat.le_refl _),fl_app,fl_one]
theorem ods_tcs (t:Tr):ods [.agg (tcs t)]:=by
 simp only[ods,od,tcs,true_and,and_true]
 exact⟨purs_pth _,puress_trc _⟩
theorem cl_use {G:Prg} {f:Nat} {t:Tr} {H:Hp} {n:Nat} {arg:AV} (hv:View H [arg] [.agg (tcs t)]) (h:DC G f [.agg (tcs t)] [] (ClR t)):
  TCall G f [arg] H n fun r H' n'=>n'=n/\∃T:OT,H'=H++objs T/\er T=t/\shp T/\asm T/\r=.agg (otc T):=by
 refine TCall.mono (lend_own (R:=ClR t) hv ((h [] n trivial).mono ?_)) ?_
 ·rintro r H' n' _ ⟨rfl,Z',rfl,T,q1,q2,q3,rfl,rfl⟩
  exact⟨rfl,nsls_otc T,nslH_objs T,odH_objs T,T,q1,q2,q3,rfl,rfl⟩
 ·rintro r H' n' _ ⟨rfl,Z',rfl,_,T,q1,q2,q3,rfl,rfl⟩
  exact⟨rfl,T,rfl,q1,q2,q3,rfl⟩
end Go.Proofs.YtbfeplcaapiaoaaGreatT
