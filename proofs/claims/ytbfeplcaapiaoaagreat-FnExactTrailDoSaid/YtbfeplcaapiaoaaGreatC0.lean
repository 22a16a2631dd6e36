/- A part of the proof that FnExactTrailDo, on every tree, list of marks and call, returns true (no conditions): rules of the walk, and what the functions compute. -/
import Derived.Attr
import Derived.KernelRfl
import Derived.Laws.Sem
import Derived.Lib.FrozenHead
import Derived.Orders
import Derived.Test.YtbfeplcaapiaoaaGreatProg
set_option linter.unusedVariables false
set_option linter.unusedSimpArgs false
namespace Go.Proofs.YtbfeplcaapiaoaaGreatT
open Go
inductive AV where
 |int (k:IntKind) (n:Int)
 |bool (b:Bool)
 |str (s:List UInt8)
 |raw (v:Value)
 |agg (cs:List AV)
 |tup (cs:List AV)
 |fn (f:Fn) (cs:List AV)
 |sl (s:Nat) (es:List (List AV))
 |pat (cs:List AV)
 |osl (i s o l:Nat)
 |ocl (i s o l c:Nat)
 |ptr (i o:Nat)
 |nils
 |nilp
 |dead
 |tp (i t k:Nat)
 |tsl (i t l:Nat)
 deriving Inhabited
abbrev Rho:=Nat->Option Nat
def bstr (s:List UInt8):ByteArray:=⟨s.toArray⟩
def one:Value->Bool
 |.agg _|.tuple _=>false
 |_=>true
mutual
def VR (ρ:Rho) (w:World) (O:Nat->Prop):AV->Value->Prop
 |.int k n,v=>v=.int k n
 |.bool b,v=>v=.bool b
 |.str s,v=>v=.string (bstr s)
 |.raw x,v=>v=x
 |.agg cs,v=>∃vs:Array Value,v=.agg vs/\(∀x,x∈vs.toList->one x=true)/\VRs ρ w O cs vs.toList
 |.tup cs,v=>∃vs:Array Value,v=.tuple vs/\VRs ρ w O cs vs.toList
 |.fn f cs,v=>∃vs:Array Value,v=.func f #[] vs/\VRs ρ w O cs vs.toList
 |.sl s es,v=>∃A c,v=.slice A es.length c/\es.length<=c/\(es≠[]->∃a,A=some a/\¬O a.block/\a.block<w.heap.size/\PEs ρ w O s es a 0)
 |.pat cs,v=>∃a,v=.pointer (some a)/\¬O a.block/\a.block<w.heap.size/\PCs ρ w O cs a 0
 |.osl i s o l,v=>∃b c o' cs e f,ρ i=some b/\v=.slice (some ⟨b,o',none⟩) l c/\l<=c/\(0<c->o'=o)/\w.heap[b]?=some (Obj.cells cs e f)/\o+c*s<=cs.size
 |.ocl i s o l c,v=>∃b o' cs e f,ρ i=some b/\v=.slice (some ⟨b,o',none⟩) l c/\l<=c/\(0<c->o'=o)/\w.heap[b]?=some (Obj.cells cs e f)/\o+c*s<=cs.size
 |.ptr i o,v=>∃b,ρ i=some b/\v=.pointer (some ⟨b,o,none⟩)
 |.nils,v=>v=.slice none 0 0
 |.nilp,v=>v=.pointer none
 |.dead,_=>True
 |.tp i t k,v=>∃b cs f,ρ i=some b/\v=.pointer (some ⟨b,0,none⟩)/\w.heap[b]?=some (Obj.cells cs t f)/\cs.size=k
 |.tsl i t l,v=>∃b c cs f,ρ i=some b/\v=.slice (some ⟨b,0,none⟩) l c/\l<=c/\c<=9223372036854775807/\w.heap[b]?=some (Obj.cells cs t f)/\cs.size=c
def VRs (ρ:Rho) (w:World) (O:Nat->Prop):List AV->List Value->Prop
 |[],[]=>True
 |a::az,v::vs=>VR ρ w O a v/\VRs ρ w O az vs
 |_,_=>False
def PCs (ρ:Rho) (w:World) (O:Nat->Prop):List AV->Addr->Nat->Prop
 |[],_,_=>True
 |c::cs,a,j=>(∃v,w.cell? (a.add j)=some v/\one v=true/\VR ρ w O c v)/\PCs ρ w O cs a (j+1)
def PEs (ρ:Rho) (w:World) (O:Nat->Prop) (s:Nat):List (List AV)->Addr->Nat->Prop
 |[],_,_=>True
 |cs::es,a,i=>cs.length=s/\PCs ρ w O cs a (i*s)/\PEs ρ w O s es a (i+1)
end
structure Ext (O:Nat->Prop) (w w':World):Prop where
 os:w'.os=w.os
 tape:w'.tape=w.tape
 output:w'.output=w.output
 size:w.heap.size<=w'.heap.size
 keep:∀b:Nat,b<w.heap.size->¬O b->w'.heap[b]?=w.heap[b]?
 shape:∀(b:Nat) (cs:Array Value) (e:TypeId) (f:Nat×Nat),w.heap[b]?=some (Obj.cells cs e f)->∃cs' f',w'.heap[b]?=some (Obj.cells cs' e f')/\cs'.size=cs.size
theorem Ext.refl (O:Nat->Prop) (w:World):Ext O w w:=⟨rfl,rfl,rfl,Nat.le_refl _,fun _ _ _=>rfl,fun _ cs e f h=>⟨cs,f,h,rfl⟩⟩
theorem Ext.mono {O O':Nat->Prop} {w w':World} (h:Ext O w w') (ho:∀b,b<w.heap.size->O b->O' b):Ext O' w w':=
 ⟨h.os,h.tape,h.output,h.size,fun b hb hn=>h.keep b hb fun x=>hn (ho b hb x),h.shape⟩
theorem Ext.trans {O O1:Nat->Prop} {w w1 w2:World} (h:Ext O w w1) (h1:Ext O1 w1 w2) (ho:∀b,b<w.heap.size->O1 b->O b):Ext O w w2:=
 ⟨h1.os.trans h.os,h1.tape.trans h.tape,h1.output.trans h.output,Nat.le_trans h.size h1.size,
  fun b hb hn=>(h1.keep b (Nat.lt_of_lt_of_le hb h.size) fun x=>hn (ho b hb x)).trans (h.keep b hb hn),
  fun b cs e f hc=>by
   obtain⟨c1,f1,h2,h3⟩:=h.shape b cs e f hc
   obtain⟨c2,f2,h4,h5⟩:=h1.shape b c1 e f1 h2
   exact⟨c2,f2,h4,h5.trans h3⟩⟩
theorem cell_block {w:World} {a:Addr} {v:Value} (h:w.cell? a=some v):∃c e f,w.heap[a.block]?=some (Obj.cells c e f):=by
 unfold World.cell? at h
 split at h
 ·rename_i c e f hb;exact⟨c,e,f,hb⟩
 ·cases h
theorem cell_lt {w:World} {a:Addr} {v:Value} (h:w.cell? a=some v):a.block<w.heap.size:=by
 obtain⟨c,e,f,hb⟩:=cell_block h
 exact(Array.getElem?_eq_some_iff.1 hb).1
theorem cell_same {w w':World} {a:Addr} (h:w'.heap[a.block]?=w.heap[a.block]?):w'.cell? a=w.cell? a:=by
 unfold World.cell?;rw[h]
theorem Addr.add_block (a:Addr) (n:Nat):(a.add n).block=a.block:=by unfold Addr.add;split<;>rfl
theorem Addr.add_add (a:Addr) (m n:Nat):(a.add m).add n=a.add (m+n):=by
 unfold Addr.add
 by_cases h:m=0
 ·subst h;simp
 ·by_cases h':n=0
  ·subst h';simp
  ·simp[h,h',Nat.add_assoc]
theorem add_plain (b o n:Nat):(⟨b,o,none⟩:Addr).add n=⟨b,o+n,none⟩:=by unfold Addr.add;split<;>simp_all
section mono
variable {ρ ρ':Rho} {w w':World} {O O':Nat->Prop}
structure Carry (ρ ρ':Rho) (w w':World) (O O':Nat->Prop):Prop where
 rho:∀i b,ρ i=some b->ρ' i=some b
 size:w.heap.size<=w'.heap.size
 keep:∀b:Nat,b<w.heap.size->¬O b->w'.heap[b]?=w.heap[b]?
 shape:∀(b:Nat) (cs:Array Value) (e:TypeId) (f:Nat×Nat),w.heap[b]?=some (Obj.cells cs e f)->∃cs' f',w'.heap[b]?=some (Obj.cells cs' e f')/\cs'.size=cs.size
 own:∀b,b<w.heap.size->O' b->O b
mutual
theorem VR_carry (h:Carry ρ ρ' w w' O O'):∀(a:AV) (v:Value),VR ρ w O a v->VR ρ' w' O' a v
 |.int _ _,_,hv=>by simpa only[VR]using hv
 |.bool _,_,hv=>by simpa only[VR]using hv
 |.str _,_,hv=>by simpa only[VR]using hv
 |.raw _,_,hv=>by simpa only[VR]using hv
 |.agg cs,_,hv=>by
  simp only[VR]at hv⊢
  obtain⟨vs,e,h0,h1⟩:=hv
  exact⟨vs,e,h0,VRs_carry h cs _ h1⟩
 |.tup cs,_,hv=>by
  simp only[VR]at hv⊢
  obtain⟨vs,e,h1⟩:=hv
  exact⟨vs,e,VRs_carry h cs _ h1⟩
 |.fn f cs,_,hv=>by
  simp only[VR]at hv⊢
  obtain⟨vs,e,h1⟩:=hv
  exact⟨vs,e,VRs_carry h cs _ h1⟩
 |.sl s es,_,hv=>by
  simp only[VR]at hv⊢
  obtain⟨A,c,e,hc,h1⟩:=hv
  refine⟨A,c,e,hc,fun hne=>?_⟩
  obtain⟨a,ha,hO,hb,h2⟩:=h1 hne
  exact⟨a,ha,fun x=>hO (h.own _ hb x),Nat.lt_of_lt_of_le hb h.size,PEs_carry h s es a 0 hO h2⟩
 |.pat cs,_,hv=>by
  simp only[VR]at hv⊢
  obtain⟨a,e,hO,hb,h2⟩:=hv
  exact⟨a,e,fun x=>hO (h.own _ hb x),Nat.lt_of_lt_of_le hb h.size,PCs_carry h cs a 0 hO h2⟩
 |.osl i s o l,_,hv=>by
  simp only[VR]at hv⊢
  obtain⟨b,c,o',cs,e,f,h1,h2,h3,h0,h4,h5⟩:=hv
  obtain⟨cs',f',h6,h7⟩:=h.shape b cs e f h4
  exact⟨b,c,o',cs',e,f',h.rho _ _ h1,h2,h3,h0,h6,by rw[h7];exact h5⟩
 |.ocl i s o l c,_,hv=>by
  simp only[VR]at hv⊢
  obtain⟨b,o',cs,e,f,h1,h2,h3,h0,h4,h5⟩:=hv
  obtain⟨cs',f',h6,h7⟩:=h.shape b cs e f h4
  exact⟨b,o',cs',e,f',h.rho _ _ h1,h2,h3,h0,h6,by rw[h7];exact h5⟩
 |.ptr i o,_,hv=>by
  simp only[VR]at hv⊢
  obtain⟨b,h1,h2⟩:=hv
  exact⟨b,h.rho _ _ h1,h2⟩
 |.nils,_,hv=>by simpa only[VR]using hv
 |.nilp,_,hv=>by simpa only[VR]using hv
 |.dead,_,_=>by simp only[VR]
 |.tp i t k,_,hv=>by
  simp only[VR]at hv⊢
  obtain⟨b,cs,f,h1,h2,h3,h4⟩:=hv
  obtain⟨cs',f',h6,h7⟩:=h.shape b cs t f h3
  exact⟨b,cs',f',h.rho _ _ h1,h2,h6,h7.trans h4⟩
 |.tsl i t l,_,hv=>by
  simp only[VR]at hv⊢
  obtain⟨b,c,cs,f,h1,h2,h3,h4,h5,h6⟩:=hv
  obtain⟨cs',f',h7,h8⟩:=h.shape b cs t f h5
  exact⟨b,c,cs',f',h.rho _ _ h1,h2,h3,h4,h7,h8.trans h6⟩
theorem VRs_carry (h:Carry ρ ρ' w w' O O'):∀(az:List AV) (vs:List Value),VRs ρ w O az vs->VRs ρ' w' O' az vs
 |[],[],_=>by simp only[VRs]
 |a::az,v::vs,hv=>by
  simp only[VRs]at hv⊢
  exact⟨VR_carry h a v hv.1,VRs_carry h az vs hv.2⟩
 |[],_::_,hv=>by simp only[VRs]at hv
 |_::_,[],hv=>by simp only[VRs]at hv
theorem PCs_carry (h:Carry ρ ρ' w w' O O'):∀(cs:List AV) (a:Addr) (j:Nat),¬O a.block->PCs ρ w O cs a j->PCs ρ' w' O' cs a j
 |[],_,_,_,_=>by simp only[PCs]
 |c::cs,a,j,hO,hv=>by
  simp only[PCs]at hv⊢
  obtain⟨⟨v,h1,h0,h2⟩,h3⟩:=hv
  refine⟨⟨v,?_,h0,VR_carry h c v h2⟩,PCs_carry h cs a (j+1) hO h3⟩
  rw[cell_same (h.keep _ (cell_lt h1) (by rw[Addr.add_block];exact hO)),h1]
theorem PEs_carry (h:Carry ρ ρ' w w' O O'):∀(s:Nat) (es:List (List AV)) (a:Addr) (i:Nat),¬O a.block->PEs ρ w O s es a i->PEs ρ' w' O' s es a i
 |_,[],_,_,_,_=>by simp only[PEs]
 |s,cs::es,a,i,hO,hv=>by
  simp only[PEs]at hv⊢
  exact⟨hv.1,PCs_carry h cs a _ hO hv.2.1,PEs_carry h s es a _ hO hv.2.2⟩
end
end mono
abbrev Fr:=List (Nat×AV)
abbrev Hp:=List (Nat×List AV)
def gt:Fr->Nat->AV
 |[],_=>.dead
 |(k,v)::F,t=>bif k==t then v else gt F t
def ids (H:Hp):List Nat:=H.map (·.1)
def Own (ρ:Rho) (H:Hp) (b:Nat):Prop:=∃i,i∈ids H/\ρ i=some b
def OX (X:Nat->Prop) (ρ:Rho) (H:Hp):Nat->Prop:=fun b=>X b\/Own ρ H b
def Fresh (ρ:Rho) (n:Nat):Prop:=n%4=0/\(∀i,n<=i->i%2=0->ρ i=none)/\∃m,∀i,m<=i->ρ i=none
def Unf (c:Array Value) (f:Nat×Nat):Prop:=∀o,o<c.size->¬(f.1<=o/\o<f.2)
def UF (i:Nat) (c:Array Value) (f:Nat×Nat):Prop:=Unf c f/\(f=(0,0)\/i%4=2)
structure HR (X:Nat->Prop) (ρ:Rho) (w:World) (H:Hp):Prop where
 nodup:(ids H).Nodup
 inj:∀i j b,i∈ids H->j∈ids H->ρ i=some b->ρ j=some b->i=j
 notX:∀i b,i∈ids H->ρ i=some b->¬X b
 xold:∀b,X b->b<w.heap.size
 obj:∀i cs,(i,cs)∈H->∃b c e f,ρ i=some b/\w.heap[b]?=some (Obj.cells c e f)/\UF i c f/\(∀x,x∈c.toList->one x=true)/\cs.length<=c.size/\VRs ρ w (OX X ρ H) cs (c.toList.take cs.length)
theorem HR.has {X:Nat->Prop} {ρ:Rho} {w:World} {H:Hp} (h:HR X ρ w H) {i:Nat} (hi:i∈ids H):∃b,ρ i=some b/\b<w.heap.size:=by
 obtain⟨⟨j,cs⟩,hm,rfl⟩:=List.mem_map.1 hi
 obtain⟨b,c,e,f,h1,h2,_⟩:=h.obj j cs hm
 exact⟨b,h1,(Array.getElem?_eq_some_iff.1 h2).1⟩
theorem HR.own_old {X:Nat->Prop} {ρ:Rho} {w:World} {H:Hp} (h:HR X ρ w H) {b:Nat} (hb:Own ρ H b):b<w.heap.size:=by
 obtain⟨i,hi,hr⟩:=hb
 obtain⟨b',h1,h2⟩:=h.has hi
 rw[hr]at h1;cases h1;exact h2
theorem HR.ox_old {X:Nat->Prop} {ρ:Rho} {w:World} {H:Hp} (h:HR X ρ w H) {b:Nat} (hb:OX X ρ H b):b<w.heap.size:=
 hb.elim (h.xold b) h.own_old
structure S (X:Nat->Prop) (N:Nat) (ρ:Rho) (n:Nat) (F:Fr) (H:Hp) (a:Act) (w:World):Prop where
 fresh:Fresh ρ n
 hr:HR X ρ w H
 fr:∀t,VR ρ w (OX X ρ H) (gt F t) (a.tmps.getD t undef)
 df:a.defers=[]
 sz:a.tmps.size=N
structure Nx (ρ:Rho) (H:Hp) (w:World) (n:Nat) (ρ':Rho) (H':Hp) (w':World) (n':Nat):Prop where
 rho:∀i b,ρ i=some b->ρ' i=some b
 le:n<=n'
 ext:Ext (Own ρ H) w w'
 own:∀b,Own ρ' H' b->Own ρ H b\/w.heap.size<=b
theorem Nx.refl (ρ:Rho) (H:Hp) (w:World) (n:Nat):Nx ρ H w n ρ H w n:=⟨fun _ _ h=>h,Nat.le_refl _,Ext.refl _ _,fun _ h=>.inl h⟩
theorem Nx.trans {ρ ρ1 ρ2:Rho} {H H1 H2:Hp} {w w1 w2:World} {n n1 n2:Nat} (h:Nx ρ H w n ρ1 H1 w1 n1) (k:Nx ρ1 H1 w1 n1 ρ2 H2 w2 n2):Nx ρ H w n ρ2 H2 w2 n2:=
 ⟨fun i b hi=>k.rho i b (h.rho i b hi),Nat.le_trans h.le k.le,
  h.ext.trans k.ext fun b hb ho=>(h.own b ho).resolve_right (by omega),
  fun b hb=>by
   rcases k.own b hb with h1|h1
   ·exact h.own b h1
   ·exact .inr (Nat.le_trans h.ext.size h1)⟩
theorem Nx.carry {X:Nat->Prop} {ρ ρ':Rho} {H H':Hp} {w w':World} {n n':Nat} (h:Nx ρ H w n ρ' H' w' n'):Carry ρ ρ' w w' (OX X ρ H) (OX X ρ' H'):=
 ⟨h.rho,h.ext.size,fun b hb ho=>h.ext.keep b hb fun x=>ho (.inr x),h.ext.shape,fun b hb ho=>ho.elim .inl fun x=>.inr ((h.own b x).resolve_right (by omega))⟩
def okOps (N:Nat) (ops:Array Oper):Bool:=ops.toList.all fun o=>match o.dst with|some d=>decide (d<N)|none=>true
def codeOk (N:Nat):Code->Bool
 |.region _ ops _=>okOps N ops
 |.seq a b=>codeOk N a&&codeOk N b
 |.cond _ a b=>codeOk N a&&codeOk N b
 |.block _ b=>codeOk N b
 |.loop b=>codeOk N b
 |_=>true
abbrev Post:=Exit->Fr->Hp->Nat->Prop
def T (P:Program) (c:Code) (F:Fr) (H:Hp) (n:Nat) (Q:Post):Prop:=
 ∀X N ρ a w,S X N ρ n F H a w->codeOk N c=true->
  c.wp P (fun e a' w'=>∃ρ' F' H' n',S X N ρ' n' F' H' a' w'/\Nx ρ H w n ρ' H' w' n'/\Q e F' H' n') a w
def SK (P:Program) (b:Code) (Q:Post):Post:=fun e F H n=>match e with|.normal=>T P b F H n Q|e=>Q e F H n
def BK (id:Nat) (Q:Post):Post:=fun e F H n=>match e with|.exit i=>bif i==id then Q .normal F H n else Q (.exit i) F H n|e=>Q e F H n
theorem T_seq {P:Program} {a b:Code} {F:Fr} {H:Hp} {n:Nat} {Q:Post} (h:T P a F H n (SK P b Q)):T P (.seq a b) F H n Q:=by
 intro X N ρ ac w hs hc
 simp only[codeOk,Bool.and_eq_true]at hc
 refine wp_seq (wp_mono (h X N ρ ac w hs hc.1) ?_)
 rintro e a' w' ⟨ρ',F',H',n',hs',hn,hq⟩
 cases e with
 |normal=>
  refine wp_mono (hq X N ρ' a' w' hs' hc.2) ?_
  rintro e2 a2 w2 ⟨ρ2,F2,H2,n2,hs2,hn2,hq2⟩
  exact⟨ρ2,F2,H2,n2,hs2,hn.trans hn2,hq2⟩
 |_=>exact⟨ρ',F',H',n',hs',hn,hq⟩
theorem T_skip {P:Program} {F:Fr} {H:Hp} {n:Nat} {Q:Post} (h:Q .normal F H n):T P .skip F H n Q:=
 fun X N ρ a w hs _=>wp_skip ⟨ρ,F,H,n,hs,Nx.refl ..,h⟩
theorem T_exit {P:Program} {F:Fr} {H:Hp} {n id:Nat} {Q:Post} (h:Q (.exit id) F H n):T P (.exit id) F H n Q:=
 fun X N ρ a w hs _=>wp_exit ⟨ρ,F,H,n,hs,Nx.refl ..,h⟩
theorem T_ret {P:Program} {F:Fr} {H:Hp} {n:Nat} {Q:Post} (h:Q .ret F H n):T P .ret F H n Q:=
 fun X N ρ a w hs _=>wp_ret ⟨ρ,F,H,n,hs,Nx.refl ..,h⟩
theorem T_block {P:Program} {id:Nat} {c:Code} {F:Fr} {H:Hp} {n:Nat} {Q:Post} (h:T P c F H n (BK id Q)):T P (.block id c) F H n Q:=by
 intro X N ρ a w hs hc
 simp only[codeOk]at hc
 refine wp_block (wp_mono (h X N ρ a w hs hc) ?_)
 rintro e a' w' ⟨ρ',F',H',n',hs',hn,hq⟩
 cases e with
 |exit i=>
  simp only[BK,Exit.inBlock]at*
  by_cases hi:i=id
  ·subst hi;simp only[beq_self_eq_true,cond_true,if_true]at*;exact⟨ρ',F',H',n',hs',hn,hq⟩
  ·have:(i==id)=false:=by simpa using hi
   simp only[this,cond_false,hi,if_false]at*;exact⟨ρ',F',H',n',hs',hn,hq⟩
 |_=>exact⟨ρ',F',H',n',hs',hn,hq⟩
def cav:Value->AV
 |.int k n=>.int k n
 |.bool b=>.bool b
 |.string s=>.str s.data.toList
 |.slice none 0 0=>.nils
 |.pointer none=>.nilp
 |v=>.raw v
def ev (F:Fr):Operand->AV
 |.tmp t=>gt F t
 |.const v=>cav v
 |.func f=>.fn (.func f) []
 |.global g=>.raw (.pointer (some ⟨g,0,none⟩))
theorem cav_vr (ρ:Rho) (w:World) (O:Nat->Prop) (v:Value):VR ρ w O (cav v) v:=by
 unfold cav
 split<;>simp only[VR]
 rfl
theorem ev_vr {X:Nat->Prop} {N n:Nat} {ρ:Rho} {F:Fr} {H:Hp} {a:Act} {w:World} (h:S X N ρ n F H a w) (x:Operand):VR ρ w (OX X ρ H) (ev F x) (a.eval x):=by
 cases x with
 |tmp t=>exact h.fr t
 |const v=>exact cav_vr ..
 |global g=>simp only[ev,VR,Act.eval]
 |func f=>simp only[ev,VR,Act.eval];exact⟨#[],rfl,by simp only[VRs]⟩
theorem T_cond {P:Program} {c:Operand} {x y:Code} {b:Bool} {F:Fr} {H:Hp} {n:Nat} {Q:Post} (hb:ev F c=.bool b) (hx:b=true->T P x F H n Q) (hy:b=false->T P y F H n Q):T P (.cond c x y) F H n Q:=by
 intro X N ρ a w hs hc
 simp only[codeOk,Bool.and_eq_true]at hc
 have h:=ev_vr hs c
 rw[hb]at h
 simp only[VR]at h
 cases b with
 |true=>exact wp_cond h (hx rfl X N ρ a w hs hc.1)
 |false=>exact wp_cond h (hy rfl X N ρ a w hs hc.2)
def fsub:Fr->Fr->Prop
 |[],_=>True
 |(k,v)::G,F=>gt F k=v/\fsub G F
theorem fsub_gt:∀{G F:Fr},fsub G F->∀t,gt G t=.dead\/gt G t=gt F t
 |[],_,_,_=>.inl rfl
 |(k,v)::G,F,h,t=>by
  simp only[fsub]at h
  simp only[gt]
  by_cases hk:k=t
  ·subst hk;simp[h.1]
  ·have:(k==t)=false:=by simpa using hk
   simp only[this,cond_false];exact fsub_gt h.2 t
theorem HR.sub {X:Nat->Prop} {ρ:Rho} {w:World} {H H':Hp} (h:HR X ρ w H) (hs:H'.Sublist H):HR X ρ w H':=by
 have hi:∀i,i∈ids H'->i∈ids H:=fun i hi=>(hs.map (·.1)).subset hi
 refine⟨List.Sublist.nodup (show(ids H').Sublist (ids H)from hs.map _) h.nodup,fun i j b h1 h2=>h.inj i j b (hi i h1) (hi j h2),fun i b h1=>h.notX i b (hi i h1),h.xold,fun i cs hm=>?_⟩
 obtain⟨b,c,e,f,h1,h2,h3,h0,h4,h5⟩:=h.obj i cs (hs.subset hm)
 exact⟨b,c,e,f,h1,h2,h3,h0,h4,VRs_carry ⟨fun _ _ h=>h,Nat.le_refl _,fun _ _ _=>rfl,fun b cs e f h=>⟨cs,f,h,rfl⟩,fun b _ ho=>ho.elim .inl fun⟨i,h1,h2⟩=>.inr ⟨i,hi i h1,h2⟩⟩ _ _ h5⟩
theorem Own.sub {ρ:Rho} {H H':Hp} (hs:H'.Sublist H) {b:Nat} (h:Own ρ H' b):Own ρ H b:=
 let ⟨i,h1,h2⟩:=h;⟨i,(hs.map (·.1)).subset h1,h2⟩
theorem S.sub {X:Nat->Prop} {N n:Nat} {ρ:Rho} {F F':Fr} {H H':Hp} {a:Act} {w:World} (h:S X N ρ n F H a w) (hs:H'.Sublist H) (hf:fsub F' F):S X N ρ n F' H' a w:=by
 refine⟨h.fresh,h.hr.sub hs,fun t=>?_,h.df,h.sz⟩
 rcases fsub_gt hf t with h1|h1
 ·rw[h1];simp only[VR]
 ·rw[h1]
  exact VR_carry ⟨fun _ _ h=>h,Nat.le_refl _,fun _ _ _=>rfl,fun b cs e f h=>⟨cs,f,h,rfl⟩,fun b _ ho=>ho.elim .inl fun x=>.inr (Own.sub hs x)⟩ _ _ (h.fr t)
theorem T_mono {P:Program} {c:Code} {F:Fr} {H:Hp} {n:Nat} {Q Q':Post} (h:T P c F H n Q) (hq:∀e F H n',n<=n'->Q e F H n'->Q' e F H n'):T P c F H n Q':=by
 intro X N ρ a w hst hc
 refine wp_mono (h X N ρ a w hst hc) ?_
 rintro e a' w' ⟨ρ',F',H',n',hs',hn,h1⟩
 exact⟨ρ',F',H',n',hs',hn,hq _ _ _ _ hn.le h1⟩
def LK {σ:Type} (Fi:σ->Fr) (Hi:σ->Hp) (I:σ->Nat->Prop) (m:σ->Nat) (x:σ) (Q:Post):Post:=fun e F H n=>match e with
 |.normal=>∃y,m y<m x/\I y n/\fsub (Fi y) F/\(Hi y).Sublist H
 |e=>Q e F H n
theorem Carry.less {ρ:Rho} {w:World} {O O':Nat->Prop} (h:∀b,O' b->O b):Carry ρ ρ w w O O':=⟨fun _ _ h=>h,Nat.le_refl _,fun _ _ _=>rfl,fun _ cs e f h=>⟨cs,f,h,rfl⟩,fun b _ ho=>h b ho⟩
theorem VRs_length {ρ:Rho} {w:World} {O:Nat->Prop}:∀{az:List AV} {vs:List Value},VRs ρ w O az vs->az.length=vs.length
 |[],[],_=>rfl
 |_::az,_::vs,h=>by simp only[VRs]at h;simp[VRs_length h.2]
 |[],_::_,h=>by simp only[VRs]at h
 |_::_,[],h=>by simp only[VRs]at h
theorem VRs_get {ρ:Rho} {w:World} {O:Nat->Prop}:∀{az:List AV} {vs:List Value},VRs ρ w O az vs->∀k,VR ρ w O (az.getD k .dead) (vs.getD k undef)
 |[],[],_,k=>by simp[VR]
 |a::az,v::vs,h,0=>by simp only[VRs]at h;simpa using h.1
 |a::az,v::vs,h,k+1=>by simp only[VRs]at h;simpa using VRs_get h.2 k
 |[],_::_,h,_=>by simp only[VRs]at h
 |_::_,[],h,_=>by simp only[VRs]at h
theorem VRs_append {ρ:Rho} {w:World} {O:Nat->Prop}:∀{az bs:List AV} {vs us:List Value},VRs ρ w O az vs->VRs ρ w O bs us->VRs ρ w O (az++bs) (vs++us)
 |[],_,[],_,_,h=>by simpa using h
 |a::az,_,v::vs,_,h,k=>by
  simp only[VRs,List.cons_append]at h⊢
  exact⟨h.1,VRs_append h.2 k⟩
 |[],_,_::_,_,h,_=>by simp only[VRs]at h
 |_::_,_,[],_,h,_=>by simp only[VRs]at h
theorem VRs_take {ρ:Rho} {w:World} {O:Nat->Prop}:∀{az:List AV} {vs:List Value} (k:Nat),VRs ρ w O az vs->VRs ρ w O (az.take k) (vs.take k)
 |[],[],k,_=>by simp only[List.take_nil,VRs]
 |a::az,v::vs,0,_=>by simp only[List.take_zero,VRs]
 |a::az,v::vs,k+1,h=>by
  simp only[VRs,List.take_succ_cons]at h⊢
  exact⟨h.1,VRs_take k h.2⟩
 |[],_::_,_,h=>by simp only[VRs]at h
 |_::_,[],_,h=>by simp only[VRs]at h
theorem VRs_drop {ρ:Rho} {w:World} {O:Nat->Prop}:∀{az:List AV} {vs:List Value} (k:Nat),VRs ρ w O az vs->VRs ρ w O (az.drop k) (vs.drop k)
 |[],[],k,_=>by simp only[List.drop_nil,VRs]
 |a::az,v::vs,0,h=>by simpa using h
 |a::az,v::vs,k+1,h=>by
  simp only[VRs]at h
  simpa using VRs_drop k h.2
 |[],_::_,_,h=>by simp only[VRs]at h
 |_::_,[],_,h=>by simp only[VRs]at h
theorem PCs_vals {ρ:Rho} {w:World} {O:Nat->Prop}:∀{cs:List AV} {a:Addr} {j:Nat},PCs ρ w O cs a j->
  ∃vs:List Value,vs.length=cs.length/\(∀k,k<vs.length->w.cell? (a.add (j+k))=some (vs.getD k undef))/\VRs ρ w O cs vs/\∀x,x∈vs->one x=true
 |[],_,_,_=>⟨[],rfl,by simp,by simp only[VRs],by simp⟩
 |c::cs,a,j,h=>by
  simp only[PCs]at h
  obtain⟨⟨v,h1,h2,h3⟩,h4⟩:=h
  obtain⟨vs,k1,k2,k3,k4⟩:=PCs_vals h4
  refine⟨v::vs,by simp[k1],fun k hk=>?_,by simp only[VRs];exact⟨h3,k3⟩,by simpa using⟨h2,k4⟩⟩
  cases k with
  |zero=>simpa using h1
  |succ k=>
   have:=k2 k (by simpa using hk)
   rw[show j+(k+1)=j+1+k by omega]
   simpa using this
theorem PCs_drop {ρ:Rho} {w:World} {O:Nat->Prop}:∀{cs:List AV} {a:Addr} {j:Nat} (k:Nat),PCs ρ w O cs a j->PCs ρ w O (cs.drop k) a (j+k)
 |[],_,_,_,_=>by simp only[List.drop_nil,PCs]
 |c::cs,a,j,0,h=>by simpa using h
 |c::cs,a,j,k+1,h=>by
  simp only[PCs]at h
  rw[show j+(k+1)=j+1+k by omega]
  simpa using PCs_drop k h.2
theorem PCs_shift {ρ:Rho} {w:World} {O:Nat->Prop}:∀{cs:List AV} {a:Addr} {j k:Nat},PCs ρ w O cs a (j+k)->PCs ρ w O cs (a.add j) k
 |[],_,_,_,_=>by simp only[PCs]
 |c::cs,a,j,k,h=>by
  simp only[PCs]at h⊢
  rw[Addr.add_add]
  exact⟨h.1,PCs_shift (by rw[<-Nat.add_assoc];exact h.2)⟩
theorem PEs_get {ρ:Rho} {w:World} {O:Nat->Prop} {s:Nat}:∀{es:List (List AV)} {a:Addr} {i:Nat},PEs ρ w O s es a i->∀k,k<es.length->
  (es.getD k []).length=s/\PCs ρ w O (es.getD k []) a ((i+k)*s)
 |[],_,_,_,k,hk=>by simp at hk
 |c::es,a,i,h,0,_=>by simp only[PEs]at h;simpa using⟨h.1,h.2.1⟩
 |c::es,a,i,h,k+1,hk=>by
  simp only[PEs]at h
  have:=PEs_get h.2.2 k (by simpa using hk)
  rw[show i+(k+1)=i+1+k by omega]
  simpa using this
theorem PEs_take {ρ:Rho} {w:World} {O:Nat->Prop} {s:Nat}:∀{es:List (List AV)} {a:Addr} {i:Nat} (k:Nat),PEs ρ w O s es a i->PEs ρ w O s (es.take k) a i
 |[],_,_,_,_=>by simp only[List.take_nil,PEs]
 |c::es,a,i,0,_=>by simp only[List.take_zero,PEs]
 |c::es,a,i,k+1,h=>by
  simp only[PEs,List.take_succ_cons]at h⊢
  exact⟨h.1,h.2.1,PEs_take k h.2.2⟩
theorem PEs_drop {ρ:Rho} {w:World} {O:Nat->Prop} {s:Nat}:∀{es:List (List AV)} {a:Addr} {i:Nat} (k:Nat),PEs ρ w O s es a i->PEs ρ w O s (es.drop k) a (i+k)
 |[],_,_,_,_=>by simp only[List.drop_nil,PEs]
 |c::es,a,i,0,h=>by simpa using h
 |c::es,a,i,k+1,h=>by
  simp only[PEs]at h
  rw[show i+(k+1)=i+1+k by omega]
  simpa using PEs_drop k h.2.2
theorem PEs_shift {ρ:Rho} {w:World} {O:Nat->Prop} {s:Nat}:∀{es:List (List AV)} {a:Addr} {j k:Nat},PEs ρ w O s es a (j+k)->PEs ρ w O s es (a.add (j*s)) k
 |[],_,_,_,_=>by simp only[PEs]
 |c::es,a,j,k,h=>by
  simp only[PEs]at h⊢
  refine⟨h.1,PCs_shift (by rw[<-Nat.add_mul];exact h.2.1),PEs_shift (by rw[<-Nat.add_assoc];exact h.2.2)⟩
theorem PEs_vals {ρ:Rho} {w:World} {O:Nat->Prop} {s:Nat}:∀{es:List (List AV)} {a:Addr} {i:Nat},PEs ρ w O s es a i->PCs ρ w O es.flatten a (i*s)/\es.flatten.length=es.length*s
 |[],_,_,_=>by simp[PCs]
 |c::es,a,i,h=>by
  simp only[PEs]at h
  obtain⟨h1,h2,h3⟩:=h
  obtain⟨k1,k2⟩:=PEs_vals h3
  have app:∀(xs ys:List AV) (j:Nat),PCs ρ w O xs a j->PCs ρ w O ys a (j+xs.length)->PCs ρ w O (xs++ys) a j:=by
   intro xs
   induction xs with
   |nil=>intro ys j _ h;simpa using h
   |cons x xs ih=>
    intro ys j h h'
    simp only[PCs,List.cons_append]at h⊢
    exact⟨h.1,ih ys (j+1) h.2 (by rw[List.length_cons]at h';rw[show j+1+xs.length=j+(xs.length+1) by omega];exact h')⟩
  refine⟨?_,by rw[List.flatten_cons,List.length_append,k2,h1,List.length_cons,Nat.add_mul];omega⟩
  rw[List.flatten_cons]
  refine app _ _ _ h2 ?_
  rw[h1]
  rw[Nat.add_mul,Nat.one_mul]at k1
  exact k1
theorem run_loadCellsFrom (P:Program) (w:World) (a:Addr):∀(vs:List Value) (i:Nat) (acc:Array Value),(∀k,k<vs.length->w.cell? (a.add (i+k))=some (vs.getD k undef))->
  (loadCellsFrom a i vs.length acc).run P w=.ok (acc++vs.toArray) w
 |[],i,acc,_=>by simp[loadCellsFrom]
 |v::vs,i,acc,h=>by
  have h0:=h 0 (by simp)
  simp only[Nat.add_zero,List.getD_cons_zero]at h0
  simp only[List.length_cons,loadCellsFrom,Sem.run_bind,run_load,h0,Result.andThen_ok]
  rw [run_loadCellsFrom P w a vs (i + 1) (acc.push v) (fun k hk=>by
   have:=h (k+1) (by simpa using hk)
   rw[show i+1+k=i+(k+1) by omega];simpa using this)]
  simp
theorem run_loadCells (P:Program) (w:World) (a:Addr) (vs:List Value) (n:Nat) (hn:n=vs.length) (h:∀k,k<vs.length->w.cell? (a.add k)=some (vs.getD k undef)):
  (loadCells a n).run P w=.ok vs.toArray w:=by
 subst hn
 unfold loadCells
 rw[run_loadCellsFrom P w a vs 0 #[] (by simpa using h)];simp
def wput (w:World) (b:Nat) (c:Array Value) (e:TypeId) (f:Nat×Nat):World:={w with heap:=w.heap.setIfInBounds b (.cells c e f)}
theorem wput_heap {w:World} {b:Nat} {c:Array Value} {e:TypeId} {f:Nat×Nat} (k:Nat):(wput w b c e f).heap[k]?=if k=b/\b<w.heap.size then some (Obj.cells c e f)else w.heap[k]?:=by
 simp only[wput,Array.getElem?_setIfInBounds]
 by_cases h:b=k
 ·subst h
  by_cases hb:b<w.heap.size<;>simp[hb]
 ·have:¬k=b:=fun e=>h e.symm
  simp[h,this]
theorem wput_size {w:World} {b:Nat} {c:Array Value} {e:TypeId} {f:Nat×Nat}:(wput w b c e f).heap.size=w.heap.size:=by simp[wput]
def splice (c:List Value) (o:Nat) (vs:List Value):List Value:=c.take o++vs++c.drop (o+vs.length)
theorem splice_length {c:List Value} {o:Nat} {vs:List Value} (h:o+vs.length<=c.length):(splice c o vs).length=c.length:=by
 simp[splice];omega
theorem splice_get {c:List Value} {o:Nat} {vs:List Value} (h:o+vs.length<=c.length) (k:Nat):(splice c o vs)[k]?=if k<o then c[k]? else if k<o+vs.length then vs[k-o]? else c[k]?:=by
 have ho:(c.take o).length=o:=by simp;omega
 simp only[splice]
 by_cases h1:k<o
 ·rw[if_pos h1,List.append_assoc,List.getElem?_append_left (by omega),List.getElem?_take,if_pos h1]
 ·rw[if_neg h1]
  by_cases h2:k<o+vs.length
  ·rw[if_pos h2,List.append_assoc,List.getElem?_append_right (by omega),ho,List.getElem?_append_left (by omega)]
  ·rw[if_neg h2,List.getElem?_append_right (by simp;omega),List.getElem?_drop]
   congr 1;simp;omega
theorem run_storeCells (P:Program) (b:Nat) (e:TypeId) (f:Nat×Nat):∀(vs:List Value) (w:World) (c:Array Value) (o i:Nat),w.heap[b]?=some (Obj.cells c e f)->Unf c f->(∀x,x∈vs->one x=true)->
  o+i+vs.length<=c.size->(storeCells ⟨b,o,none⟩ vs i).run P w=.ok () (if vs=[]then w else wput w b (splice c.toList (o+i) vs).toArray e f)
 |[],w,c,o,i,_,_,_,_=>by simp[storeCells]
 |v::vs,w,c,o,i,hb,hf,h1,hl=>by
  simp only[List.length_cons]at hl
  have hcell:w.cell? ((⟨b,o,none⟩:Addr).add i)=some (c[o+i]'(by omega)):=by
   rw[add_plain];simp only[World.cell?,hb];simp
  have hfr:w.frozen? ((⟨b,o,none⟩:Addr).add i)=false:=by
   rw[add_plain];simp only[World.frozen?,hb]
   have:=hf (o+i) (by omega)
   simpa using this
  have hv:v.oneCell'=true:=by
   have:=h1 v (by simp)
   cases v<;>simp_all[one,Value.oneCell']
  have hset:w.setCell ((⟨b,o,none⟩:Addr).add i) v=wput w b (c.set (o+i) v (by omega)) e f:=by
   rw[add_plain]
   simp only[World.setCell,wput]
   congr 1
   apply Array.ext_getElem?
   intro k
   rw[Array.getElem?_modify,Array.getElem?_setIfInBounds]
   by_cases hk:b=k
   ·subst hk
    have hlt:=(Array.getElem?_eq_some_iff.1 hb).1
    simp only[hb,hlt,if_true,Option.map_some,Option.isSome_none,Bool.false_eq_true,if_false]
    rw[Array.setIfInBounds,dif_pos (show o+i<c.size by omega)]
   ·simp[hk]
  simp only[storeCells,Sem.run_bind]
  rw[run_store P w _ v _ hv,hcell]
  simp only[hfr,Bool.false_eq_true,if_false,Result.andThen_ok]
  rw[hset]
  have hlt:=(Array.getElem?_eq_some_iff.1 hb).1
  have hb':(wput w b (c.set (o+i) v (by omega)) e f).heap[b]?=some (Obj.cells (c.set (o+i) v (by omega)) e f):=by
   rw[wput_heap];simp[hlt]
  rw[run_storeCells P b e f vs _ (c.set (o+i) v (by omega)) o (i+1) hb' (fun o' ho'=>hf o' (by simpa using ho')) (fun x hx=>h1 x (by simp[hx])) (by simp;omega)]
  have key:splice (c.set (o+i) v (by omega)).toList (o+(i+1)) vs=splice c.toList (o+i) (v::vs):=by
   apply List.ext_getElem?
   intro k
   have hl':o+i+(vs.length+1)<=c.toList.length:=by simpa using hl
   rw[splice_get (by simp;omega),splice_get (by simpa using hl)]
   simp only[Array.toList_set,List.getElem?_set,List.length_cons]
   by_cases h1:k<o+i
   ·rw[if_pos (by omega),if_neg (by omega),if_pos h1]
   ·by_cases h2:k=o+i
    ·subst h2
     rw[if_pos (by omega),if_pos rfl,if_pos (by omega),if_neg (by omega),if_pos (by omega)];simp
    ·rw[if_neg (by omega),if_neg h1]
     by_cases h3:k<o+(i+1)+vs.length
     ·rw[if_pos h3,if_pos (by omega),show k-(o+i)=(k-(o+(i+1)))+1 by omega];simp
     ·rw[if_neg h3,if_neg (by omega),if_neg (by omega)]
  by_cases hvs:vs=[]
  ·subst hvs
   simp only[if_true,List.cons_ne_nil,if_false]
   rw[<-key]
   have:(splice (c.set (o+i) v (by omega)).toList (o+(i+1)) []).toArray=c.set (o+i) v (by omega):=by apply Array.ext';simp[splice]
   rw[this]
  ·simp only[hvs,List.cons_ne_nil,if_false]
   rw[key]
   simp[wput]
def hgt:Hp->Nat->Option (List AV)
 |[],_=>none
 |(j,o)::H,i=>bif j==i then some o else hgt H i
def hset:Hp->Nat->List AV->Hp
 |[],_,_=>[]
 |(j,o)::H,i,cs=>bif j==i then(j,cs)::H else(j,o)::hset H i cs
def hdel:Hp->Nat->Hp
 |[],_=>[]
 |(j,o)::H,i=>bif j==i then H else(j,o)::hdel H i
theorem hgt_mem:∀{H:Hp} {i:Nat} {cs:List AV},hgt H i=some cs->(i,cs)∈H
 |[],_,_,h=>by simp[hgt]at h
 |(j,o)::H,i,cs,h=>by
  simp only[hgt]at h
  by_cases hj:j=i
  ·subst hj;simp at h;simp[h]
  ·have:(j==i)=false:=by simpa using hj
   simp only[this,cond_false]at h
   exact List.mem_cons_of_mem _ (hgt_mem h)
theorem hset_ids:∀(H:Hp) (i:Nat) (cs:List AV),ids (hset H i cs)=ids H
 |[],_,_=>rfl
 |(j,o)::H,i,cs=>by
  simp only[hset]
  cases hj:j==i
  ·simp only[cond_false];simp only[ids,List.map_cons];congr 1;exact hset_ids H i cs
  ·simp only[cond_true];simp[ids]
theorem hset_mem:∀{H:Hp} {i:Nat} {cs:List AV} {j:Nat} {o:List AV},(ids H).Nodup->(j,o)∈hset H i cs->(j=i/\o=cs)\/(j≠i/\(j,o)∈H)
 |[],_,_,_,_,_,h=>by simp[hset]at h
 |(k,p)::H,i,cs,j,o,hn,h=>by
  simp only[ids,List.map_cons,List.nodup_cons]at hn
  simp only[hset]at h
  by_cases hk:k=i
  ·subst hk
   simp only[beq_self_eq_true,cond_true,List.mem_cons,Prod.mk.injEq]at h
   rcases h with h|h
   ·exact .inl h
   ·refine .inr ⟨fun e=>hn.1 ?_,List.mem_cons_of_mem _ h⟩
    subst e;exact List.mem_map.2 ⟨_,h,rfl⟩
  ·have:(k==i)=false:=by simpa using hk
   simp only[this,cond_false,List.mem_cons,Prod.mk.injEq]at h
   rcases h with h|h
   ·exact .inr ⟨by rw[h.1];exact hk,by simp[h]⟩
   ·rcases hset_mem hn.2 h with h1|h1
    ·exact .inl h1
    ·exact .inr ⟨h1.1,List.mem_cons_of_mem _ h1.2⟩
theorem hdel_sub:∀(H:Hp) (i:Nat),(hdel H i).Sublist H
 |[],_=>by simp[hdel]
 |(j,o)::H,i=>by
  simp only[hdel]
  cases hj:j==i
  ·simp only[cond_false];exact(hdel_sub H i).cons_cons _
  ·simp only[cond_true];exact List.sublist_cons_self _ _
theorem hdel_not:∀{H:Hp} {i:Nat},(ids H).Nodup->i∉ids (hdel H i)
 |[],_,_=>by simp[hdel,ids]
 |(j,o)::H,i,hn=>by
  simp only[ids,List.map_cons,List.nodup_cons]at hn
  simp only[hdel]
  by_cases hj:j=i
  ·subst hj;simp only[beq_self_eq_true,cond_true];exact hn.1
  ·have:(j==i)=false:=by simpa using hj
   simp only[this,cond_false,ids,List.map_cons,List.mem_cons,not_or]
   exact⟨fun e=>hj e.symm,hdel_not hn.2⟩
theorem hgt_ids {H:Hp} {i:Nat} {cs:List AV} (h:hgt H i=some cs):i∈ids H:=List.mem_map.2 ⟨_,hgt_mem h,rfl⟩
def rput (ρ:Rho) (n b:Nat):Rho:=fun i=>if i=n then some b else ρ i
def nxt (q n:Nat):Prop:=q=n\/q=n+2
theorem Fresh.no {ρ:Rho} {n q:Nat} (h:Fresh ρ n) (hq:nxt q n):ρ q=none:=by
 have h1:=h.1
 rcases hq with rfl|rfl
 ·exact h.2.1 _ (Nat.le_refl _) (by omega)
 ·exact h.2.1 _ (by omega) (by omega)
theorem rput_le {ρ:Rho} {n q b:Nat} (h:Fresh ρ n) (hq:nxt q n:=by exact .inl rfl):∀i c,ρ i=some c->rput ρ q b i=some c:=by
 intro i c hc
 unfold rput
 by_cases hi:i=q
 ·subst hi;rw[h.no hq]at hc;cases hc
 ·rw[if_neg hi];exact hc
theorem rput_fresh {ρ:Rho} {n q b:Nat} (h:Fresh ρ n) (hq:nxt q n:=by exact .inl rfl):Fresh (rput ρ q b) (n+4):=by
 obtain⟨h1,h2,m,h3⟩:=h
 unfold nxt at hq
 refine⟨by omega,fun i hi he=>?_,max m (n+3),fun i hi=>?_⟩
 ·unfold rput
  rw[if_neg (by omega)];exact h2 i (by omega) he
 ·unfold rput
  rw[if_neg (by omega)];exact h3 i (by omega)
theorem HR.lt {X:Nat->Prop} {ρ:Rho} {w:World} {H:Hp} {n q:Nat} (h:HR X ρ w H) (hf:Fresh ρ n) {i:Nat} (hi:i∈ids H) (hq:nxt q n:=by exact .inl rfl):i≠q:=by
 rintro rfl
 obtain⟨b,hb,_⟩:=h.has hi
 rw[hf.no hq]at hb;cases hb
theorem rput_old {ρ:Rho} {n b i:Nat} (h:i≠n):rput ρ n b i=ρ i:=if_neg h
def wnew (w:World) (o:Obj):World:={w with heap:=w.heap.push o}
theorem wnew_heap {w:World} {o:Obj} (k:Nat):(wnew w o).heap[k]?=if k=w.heap.size then some o else w.heap[k]?:=by
 simp only[wnew,Array.getElem?_push]
theorem wnew_old {w:World} {o:Obj} {k:Nat} (h:k<w.heap.size):(wnew w o).heap[k]?=w.heap[k]?:=by
 rw[wnew_heap,if_neg (by omega)]
theorem HR.newq {X:Nat->Prop} {ρ:Rho} {w:World} {H:Hp} {n q:Nat} (h:HR X ρ w H) (hf:Fresh ρ n) (hq:nxt q n) {c:Array Value} {e:TypeId} {f:Nat×Nat} {cs:List AV} (hu:UF q c f) (h1:∀x,x∈c.toList->one x=true)
  (hl:cs.length<=c.size) (hv:VRs ρ w (OX X ρ H) cs (c.toList.take cs.length)):
  HR X (rput ρ q w.heap.size) (wnew w (.cells c e f)) ((q,cs)::H)/\Nx ρ H w n (rput ρ q w.heap.size) ((q,cs)::H) (wnew w (.cells c e f)) (n+4):=by
 have hlt:∀i,i∈ids H->i≠q:=fun i hi e=>by have:=h.lt hf hi hq;omega
 have hown:∀b,Own (rput ρ q w.heap.size) ((q,cs)::H) b->Own ρ H b\/b=w.heap.size:=by
  rintro b ⟨i,hi,hb⟩
  simp only[ids,List.map_cons,List.mem_cons]at hi
  rcases hi with rfl|hi
  ·simp only[rput,if_true,Option.some.injEq]at hb;exact .inr hb.symm
  ·rw[rput_old (hlt i hi)]at hb;exact .inl ⟨i,hi,hb⟩
 have hsz:w.heap.size<=(wnew w (.cells c e f)).heap.size:=by simp[wnew]
 have hk:∀b,b<w.heap.size->(wnew w (.cells c e f)).heap[b]?=w.heap[b]?:=fun b hb=>wnew_old hb
 have hnx:Nx ρ H w n (rput ρ q w.heap.size) ((q,cs)::H) (wnew w (.cells c e f)) (n+4):=
  ⟨rput_le hf hq,by omega,⟨rfl,rfl,rfl,hsz,fun b hb _=>hk b hb,fun b cs e f hc=>⟨cs,f,by rw[hk b (Array.getElem?_eq_some_iff.1 hc).1];exact hc,rfl⟩⟩,
   fun b hb=>(hown b hb).imp id fun e=>by omega⟩
 have hcar:Carry ρ (rput ρ q w.heap.size) w (wnew w (.cells c e f)) (OX X ρ H) (OX X (rput ρ q w.heap.size) ((q,cs)::H)):=hnx.carry
 refine⟨⟨?_,?_,?_,fun b hb=>Nat.lt_of_lt_of_le (h.xold b hb) hsz,?_⟩,hnx⟩
 ·simp only[ids,List.map_cons,List.nodup_cons];exact⟨fun hm=>hlt q hm rfl,h.nodup⟩
 ·intro i j b hi hj hbi hbj
  simp only[ids,List.map_cons,List.mem_cons]at hi hj
  rcases hi with rfl|hi<;>rcases hj with rfl|hj
  ·rfl
  ·rw[rput_old (hlt j hj)]at hbj;simp only[rput,if_true,Option.some.injEq]at hbi
   have:=h.own_old ⟨j,hj,hbj⟩;omega
  ·rw[rput_old (hlt i hi)]at hbi;simp only[rput,if_true,Option.some.injEq]at hbj
   have:=h.own_old ⟨i,hi,hbi⟩;omega
  ·rw[rput_old (hlt i hi)]at hbi;rw[rput_old (hlt j hj)]at hbj;exact h.inj i j b hi hj hbi hbj
 ·intro i b hi hb hx
  simp only[ids,List.map_cons,List.mem_cons]at hi
  rcases hi with rfl|hi
  ·simp only[rput,if_true,Option.some.injEq]at hb;have:=h.xold b hx;omega
  ·rw[rput_old (hlt i hi)]at hb;exact h.notX i b hi hb hx
 ·intro i cs' hm
  simp only[List.mem_cons,Prod.mk.injEq]at hm
  rcases hm with ⟨rfl,rfl⟩|hm
  ·exact⟨w.heap.size,c,e,f,by simp[rput],by rw[wnew_heap,if_pos rfl],hu,h1,hl,VRs_carry hcar _ _ hv⟩
  ·obtain⟨b,c',e',f',k1,k2,k3,k4,k5,k6⟩:=h.obj i cs' hm
   exact⟨b,c',e',f',rput_le hf hq _ _ k1,by rw[hk b (Array.getElem?_eq_some_iff.1 k2).1];exact k2,k3,k4,k5,VRs_carry hcar _ _ k6⟩
theorem HR.new {X:Nat->Prop} {ρ:Rho} {w:World} {H:Hp} {n:Nat} (h:HR X ρ w H) (hf:Fresh ρ n) {c:Array Value} {e:TypeId} {f:Nat×Nat} {cs:List AV} (hu:UF n c f) (h1:∀x,x∈c.toList->one x=true)
  (hl:cs.length<=c.size) (hv:VRs ρ w (OX X ρ H) cs (c.toList.take cs.length)):
  HR X (rput ρ n w.heap.size) (wnew w (.cells c e f)) ((n,cs)::H)/\Nx ρ H w n (rput ρ n w.heap.size) ((n,cs)::H) (wnew w (.cells c e f)) (n+4):=h.newq hf (.inl rfl) hu h1 hl hv
theorem HR.carry {X:Nat->Prop} {ρ ρ':Rho} {w w':World} {H:Hp} (h:HR X ρ w H) (hc:Carry ρ ρ' w w' (OX X ρ H) (OX X ρ' H)) (hi:∀i,i∈ids H->ρ' i=ρ i)
  (hk:∀b,Own ρ H b->w'.heap[b]?=w.heap[b]?):HR X ρ' w' H:=by
 refine⟨h.nodup,fun i j b h1 h2 h3 h4=>h.inj i j b h1 h2 (by rw[<-hi i h1];exact h3) (by rw[<-hi j h2];exact h4),fun i b h1 h2=>h.notX i b h1 (by rw[<-hi i h1];exact h2),fun b hb=>Nat.lt_of_lt_of_le (h.xold b hb) hc.size,fun i cs hm=>?_⟩
 obtain⟨b,c,e,f,k1,k2,k3,k4,k5,k6⟩:=h.obj i cs hm
 have hmem:i∈ids H:=List.mem_map.2 ⟨_,hm,rfl⟩
 exact⟨b,c,e,f,by rw[hi i hmem];exact k1,by rw[hk b ⟨i,hmem,k1⟩];exact k2,k3,k4,k5,VRs_carry hc _ _ k6⟩
theorem HR.put {X:Nat->Prop} {ρ:Rho} {w:World} {H:Hp} {n:Nat} (h:HR X ρ w H) {i b:Nat} (hi:i∈ids H) (hb:ρ i=some b) {c c':Array Value} {e:TypeId} {f:Nat×Nat} {cs:List AV}
  (hw:w.heap[b]?=some (Obj.cells c e f)) (hs:c'.size=c.size) (hu:UF i c' f) (h1:∀x,x∈c'.toList->one x=true)
  (hl:cs.length<=c'.size) (hv:VRs ρ w (OX X ρ H) cs (c'.toList.take cs.length)):
  HR X ρ (wput w b c' e f) (hset H i cs)/\Nx ρ H w n ρ (hset H i cs) (wput w b c' e f) n:=by
 have hlt:=(Array.getElem?_eq_some_iff.1 hw).1
 have hO:OX X ρ (hset H i cs)=OX X ρ H:=by funext x;simp only[OX,Own,hset_ids]
 have hnx:Nx ρ H w n ρ (hset H i cs) (wput w b c' e f) n:=by
  refine⟨fun _ _ h=>h,Nat.le_refl _,⟨rfl,rfl,rfl,by rw[wput_size];exact Nat.le_refl _,fun k hk hn=>?_,fun k cs' e' f' hc=>?_⟩,fun k hk=>.inl (by simpa only[Own,hset_ids]using hk)⟩
  ·rw[wput_heap,if_neg (fun⟨e,_⟩=>hn (e▸⟨i,hi,hb⟩))]
  ·rw[wput_heap]
   by_cases hkb:k=b
   ·subst hkb
    rw[if_pos ⟨rfl,hlt⟩]
    rw[hw]at hc;cases hc
    exact⟨c',_,rfl,hs⟩
   ·rw[if_neg (fun h=>hkb h.1)];exact⟨cs',_,hc,rfl⟩
 have hcar:=hnx.carry (X:=X)
 rw[hO]at hcar
 refine⟨⟨by rw[hset_ids];exact h.nodup,fun j k b=>by rw[hset_ids];exact h.inj j k b,fun j b=>by rw[hset_ids];exact h.notX j b,fun b hb=>by rw[wput_size];exact h.xold b hb,fun j cs' hm=>?_⟩,hnx⟩
 rw[hO]
 rcases hset_mem h.nodup hm with ⟨rfl,rfl⟩|⟨hne,hm⟩
 ·exact⟨b,c',e,f,hb,by rw[wput_heap,if_pos ⟨rfl,hlt⟩],hu,h1,hl,VRs_carry hcar _ _ hv⟩
 ·obtain⟨b',c2,e',f',k1,k2,k3,k4,k5,k6⟩:=h.obj j cs' hm
  have:b'≠b:=fun e=>hne (h.inj j i b (List.mem_map.2 ⟨_,hm,rfl⟩) hi (e▸k1) hb)
  exact⟨b',c2,e',f',k1,by rw[wput_heap,if_neg (fun h=>this h.1)];exact k2,k3,k4,k5,VRs_carry hcar _ _ k6⟩
theorem HR.draw {X:Nat->Prop} {ρ:Rho} {w:World} {H:Hp} (h:HR X ρ w H) (d:Nat):HR X ρ {w with drawn:=d} H:=
 h.carry ⟨fun _ _ h=>h,Nat.le_refl _,fun _ _ _=>rfl,fun _ cs e f h=>⟨cs,f,h,rfl⟩,fun _ _ h=>h⟩ (fun _ _=>rfl) (fun _ _=>rfl)
theorem HR.rename {X:Nat->Prop} {ρ:Rho} {w:World} {H:Hp} {n q:Nat} (h:HR X ρ w H) (hf:Fresh ρ n) (hq:nxt q n) {i b:Nat} (hcl:i%4=2->q%4=2) (hb:ρ i=some b) {cs cs':List AV} (hm:(i,cs)∈H)
  (hl:cs'.length<=cs.length) (hp:cs'=cs.take cs'.length):
  HR X (rput ρ q b) w ((q,cs')::hdel H i)/\Nx ρ H w n (rput ρ q b) ((q,cs')::hdel H i) w (n+4):=by
 have hi:i∈ids H:=List.mem_map.2 ⟨_,hm,rfl⟩
 have hlt:∀j,j∈ids H->j≠q:=fun j hj e=>by have:=h.lt hf hj hq;omega
 have hsub:∀j,j∈ids (hdel H i)->j∈ids H:=fun j hj=>((hdel_sub H i).map (·.1)).subset hj
 have hown:∀x,Own (rput ρ q b) ((q,cs')::hdel H i) x->Own ρ H x:=by
  rintro x ⟨j,hj,hx⟩
  simp only[ids,List.map_cons,List.mem_cons]at hj
  rcases hj with rfl|hj
  ·simp only[rput,if_true,Option.some.injEq]at hx;subst hx;exact⟨i,hi,hb⟩
  ·rw[rput_old (hlt j (hsub j hj))]at hx;exact⟨j,hsub j hj,hx⟩
 have hnx:Nx ρ H w n (rput ρ q b) ((q,cs')::hdel H i) w (n+4):=⟨rput_le hf hq,by omega,Ext.refl _ _,fun x hx=>.inl (hown x hx)⟩
 have hcar:=hnx.carry (X:=X)
 refine⟨⟨?_,?_,?_,h.xold,?_⟩,hnx⟩
 ·simp only[ids,List.map_cons,List.nodup_cons]
  exact⟨fun hm=>hlt q (hsub q hm) rfl,List.Sublist.nodup (show(ids (hdel H i)).Sublist (ids H)from(hdel_sub H i).map _) h.nodup⟩
 ·intro j k x hj hk hx hy
  simp only[ids,List.map_cons,List.mem_cons]at hj hk
  have key:∀l,l∈ids (hdel H i)->ρ l=some b->False:=fun l hl hlb=>by
   have:=h.inj l i b (hsub l hl) hi hlb hb
   subst this;exact hdel_not h.nodup hl
  rcases hj with rfl|hj<;>rcases hk with rfl|hk
  ·rfl
  ·rw[rput_old (hlt k (hsub k hk))]at hy;simp only[rput,if_true,Option.some.injEq]at hx;subst hx
   exact(key k hk hy).elim
  ·rw[rput_old (hlt j (hsub j hj))]at hx;simp only[rput,if_true,Option.some.injEq]at hy;subst hy
   exact(key j hj hx).elim
  ·rw[rput_old (hlt j (hsub j hj))]at hx;rw[rput_old (hlt k (hsub k hk))]at hy
   exact h.inj j k x (hsub j hj) (hsub k hk) hx hy
 ·intro j x hj hx hX
  simp only[ids,List.map_cons,List.mem_cons]at hj
  rcases hj with rfl|hj
  ·simp only[rput,if_true,Option.some.injEq]at hx;subst hx;exact h.notX i _ hi hb hX
  ·rw[rput_old (hlt j (hsub j hj))]at hx;exact h.notX j x (hsub j hj) hx hX
 ·intro j o hm'
  simp only[List.mem_cons,Prod.mk.injEq]at hm'
  rcases hm' with ⟨rfl,rfl⟩|hm'
  ·obtain⟨b',c,e,f,k1,k2,k3,k4,k5,k6⟩:=h.obj i cs hm
   rw[hb]at k1;cases k1
   refine⟨b,c,e,f,by simp[rput],k2,⟨k3.1,k3.2.imp (fun h=>h) hcl⟩,k4,by omega,VRs_carry hcar _ _ ?_⟩
   have:=VRs_take o.length k6
   rw[<-hp,List.take_take,Nat.min_eq_left hl]at this
   exact this
  ·obtain⟨b',c,e,f,k1,k2,k3,k4,k5,k6⟩:=h.obj j o ((hdel_sub H i).subset hm')
   exact⟨b',c,e,f,rput_le hf hq _ _ k1,k2,k3,k4,k5,VRs_carry hcar _ _ k6⟩
inductive TK where
 |int (k:IntKind)|bool|str|slice (e:Nat)|ptr (e:Nat)|struct (fs:List (Nat×Nat))|array (n e:Nat)|other
 deriving Inhabited,DecidableEq
structure TI where
 size:Nat
 bytes:Nat
 agg:Bool
 zero:List AV
 k:TK
 deriving Inhabited
def zav (i:TI):AV:=bif i.agg then .agg i.zero else i.zero.headD .dead
def kok:TypeDesc->TK->Prop
 |.int k,.int k'=>k=k'
 |.bool,.bool=>True
 |.string,.str=>True
 |.slice e,.slice e'=>e=e'
 |.pointer e,.ptr e'=>e=e'
 |.struct fs,.struct l=>fs.toList.map (fun f=>(f.offset,f.type))=l
 |.array n e,.array n' e'=>n=n'/\e=e'
 |_,.other=>True
 |_,_=>False
def isagg:TypeDesc->Bool
 |.struct _|.array _ _=>true
 |_=>false
structure TOK (P:Program) (t:Nat) (i:TI):Prop where
 info:∃f,P.info? t=some f/\f.size=i.size/\f.bytes=i.bytes/\∃z,f.zero=some z/\(∀ρ w O,VR ρ w O (zav i) z)/\z.cells.size=i.size/\z.cells.size=i.zero.length/\(∀ρ w O,VRs ρ w O i.zero z.cells.toList)/\∀x,x∈z.cells.toList->one x=true
 und:∃d,P.underlying t=some d/\kok d i.k/\isagg d=i.agg
def vchk:AV->Value->Bool
 |.int k n,.int k' n'=>k==k'&&n==n'
 |.bool b,.bool b'=>b==b'
 |.str s,.string s'=>s==s'.data.toList
 |.nils,.slice none 0 0=>true
 |.nilp,.pointer none=>true
 |.dead,v=>one v
 |_,_=>false
theorem vchk_vr {a:AV} {v:Value} (h:vchk a v=true) (ρ:Rho) (w:World) (O:Nat->Prop):VR ρ w O a v/\one v=true:=by
 unfold vchk at h
 split at h
 ·simp only[Bool.and_eq_true,beq_iff_eq]at h;simp only[VR,one];simp[h.1,h.2]
 ·simp only[beq_iff_eq]at h;simp only[VR,one];simp[h]
 ·simp only[beq_iff_eq]at h;simp only[VR,one];subst h;exact⟨by simp[bstr],trivial⟩
 ·simp only[VR,one];simp
 ·simp only[VR,one];simp
 ·exact⟨by simp only[VR],h⟩
 ·cases h
def vschk:List AV->List Value->Bool
 |[],[]=>true
 |a::az,v::vs=>vchk a v&&vschk az vs
 |_,_=>false
theorem vschk_vr:∀{az:List AV} {vs:List Value},vschk az vs=true->∀(ρ:Rho) (w:World) (O:Nat->Prop),VRs ρ w O az vs/\∀x,x∈vs->one x=true
 |[],[],_,_,_,_=>⟨by simp only[VRs],by simp⟩
 |a::az,v::vs,h,ρ,w,O=>by
  simp only[vschk,Bool.and_eq_true]at h
  have h1:=vchk_vr h.1 ρ w O
  have h2:=vschk_vr h.2 ρ w O
  exact⟨by simp only[VRs];exact⟨h1.1,h2.1⟩,by simpa using⟨h1.2,h2.2⟩⟩
 |[],_::_,h,_,_,_=>by simp[vschk]at h
 |_::_,[],h,_,_,_=>by simp[vschk]at h
def kchk:TypeDesc->TK->Bool
 |.int k,.int k'=>k==k'
 |.bool,.bool=>true
 |.string,.str=>true
 |.slice e,.slice e'=>e==e'
 |.pointer e,.ptr e'=>e==e'
 |.struct fs,.struct l=>fs.toList.map (fun f=>(f.offset,f.type))==l
 |.array n e,.array n' e'=>n==n'&&e==e'
 |_,.other=>true
 |_,_=>false
theorem kchk_ok {d:TypeDesc} {k:TK} (h:kchk d k=true):kok d k:=by
 unfold kchk at h
 split at h<;>simp_all[kok]
def tchk (P:Program) (t:Nat) (i:TI):Bool:=
 (match P.info? t with
  | some f => f.size == i.size && f.bytes == i.bytes && (match f.zero with
   |some z=>(match z with|.agg cs=>i.agg&&vschk i.zero cs.toList|.tuple _=>false|z=> !i.agg&&vschk i.zero [z])&&z.cells.size==i.size&&i.zero.length==i.size
   |none=>false)
  |none=>false)&&
 (match P.underlying t with
  |some d=>kchk d i.k&&isagg d==i.agg
  |none=>false)
theorem tchk_ok {P:Program} {t:Nat} {i:TI} (h:tchk P t i=true):TOK P t i:=by
 unfold tchk at h
 rw[Bool.and_eq_true]at h
 obtain⟨h1,h2⟩:=h
 constructor
 ·split at h1
  ·rename_i f hf
   simp only[Bool.and_eq_true,beq_iff_eq]at h1
   obtain⟨⟨h3,h4⟩,h5⟩:=h1
   split at h5
   ·rename_i z hz
    simp only[Bool.and_eq_true,beq_iff_eq]at h5
    obtain⟨⟨h6,h7⟩,h8⟩:=h5
    refine⟨f,hf,h3,h4,z,hz,?_⟩
    cases z with
    |agg cs=>
     simp only[Bool.and_eq_true]at h6
     have hv:=fun ρ w O=>vschk_vr h6.2 ρ w O
     refine⟨fun ρ w O=>?_,h7,by rw[h7,h8],fun ρ w O=>(hv ρ w O).1,(hv (fun _=>none) default (fun _=>False)).2⟩
     simp only[zav,h6.1,cond_true,VR]
     exact⟨cs,rfl,(hv ρ w O).2,(hv ρ w O).1⟩
    |tuple cs=>simp at h6
    |_=>
     simp only[Bool.and_eq_true,Bool.not_eq_true']at h6
     have hv:=fun ρ w O=>vschk_vr h6.2 ρ w O
     refine⟨fun ρ w O=>?_,h7,by rw[h7,h8],fun ρ w O=>(hv ρ w O).1,(hv (fun _=>none) default (fun _=>False)).2⟩
     simp only[zav,h6.1,cond_false]
     have h9:=(hv ρ w O).1
     revert h9
     cases i.zero with
     |nil=>simp[VRs]
     |cons a az=>intro h9;simp only[VRs]at h9;simpa using h9.1
   ·cases h5
  ·cases h1
 ·split at h2
  ·rename_i d hd
   simp only[Bool.and_eq_true,beq_iff_eq]at h2
   exact⟨d,hd,kchk_ok h2.1,h2.2⟩
  ·cases h2
structure Prg where
 P:Program
 tf:Nat->Option TI
 ok:∀t i,tf t=some i->TOK P t i
 mixed:P.follows .mixedOrders=true
def lk:List (Nat×TI)->Nat->Option TI
 |[],_=>none
 |(k,i)::l,t=>if k=t then some i else lk l t
theorem lk_ok {P:Program}:∀{l:List (Nat×TI)},(l.all fun p=>tchk P p.1 p.2)=true->∀t i,lk l t=some i->TOK P t i
 |[],_,_,_,h=>by simp[lk]at h
 |(k,i)::l,h,t,j,hj=>by
  simp only[List.all_cons,Bool.and_eq_true]at h
  simp only[lk]at hj
  split at hj
  ·rename_i e;subst e;cases hj;exact tchk_ok h.1
  ·exact lk_ok h.2 t j hj
inductive Res where
 |ok (v:AV) (H:Hp) (n:Nat)
 |need (p:Prop) (r:Res)
 |call (f:Nat) (args:List AV)
 |bad
def RS (G:Prg) (X:Nat->Prop) (ρ:Rho) (n:Nat) (H:Hp) (w:World) (run:Result Next):Res->Prop
 |.ok v H' n'=>∃val ρ' w',(run=.ok (.value val) w'\/(run=.ok .skip w'/\val=undef))/\Fresh ρ' n'/\HR X ρ' w' H'/\VR ρ' w' (OX X ρ' H') v val/\Nx ρ H w n ρ' H' w' n'
 |.need p r=>p->RS G X ρ n H w run r
 |.call f args=>∃vs:Array Value,run=(callFunc f vs).run G.P w/\VRs ρ w (OX X ρ H) args vs.toList
 |.bad=>True
section ops
variable {G:Prg} {X:Nat->Prop} {ρ:Rho} {n N:Nat} {F:Fr} {H:Hp} {a:Act} {w:World}
theorem RS.pure (hf:Fresh ρ n) (hr:HR X ρ w H) {run:Result Next} {val:Value} {v:AV} (h:run=.ok (.value val) w) (hv:VR ρ w (OX X ρ H) v val):RS G X ρ n H w run (.ok v H n):=
 ⟨val,ρ,w,.inl h,hf,hr,hv,Nx.refl ..⟩
theorem RS.bad {run:Result Next}:RS G X ρ n H w run .bad:=trivial
theorem RS.need {run:Result Next} {p:Prop} {r:Res} (h:p->RS G X ρ n H w run r):RS G X ρ n H w run (.need p r):=h
theorem run_info {t:Nat} {i:TI} (h:G.tf t=some i):∃f,(typeInfo t).run G.P w=.ok f w/\f.size=i.size/\f.bytes=i.bytes/\∃z,f.zero=some z/\(∀ρ w O,VR ρ w O (zav i) z)/\z.cells.size=i.size/\z.cells.size=i.zero.length/\(∀ρ w O,VRs ρ w O i.zero z.cells.toList)/\∀x,x∈z.cells.toList->one x=true:=by
 obtain⟨f,h1,h2,h3,h4⟩:=(G.ok t i h).info
 exact⟨f,by simp[typeInfo,h1],h2,h3,h4⟩
theorem run_und {t:Nat} {i:TI} (h:G.tf t=some i):∃d,(underlying t).run G.P w=.ok d w/\kok d i.k/\isagg d=i.agg:=by
 obtain⟨d,h1,h2⟩:=(G.ok t i h).und
 exact⟨d,by simp[underlying,h1],h2⟩
theorem run_sizeOf {t:Nat} {i:TI} (h:G.tf t=some i):(sizeOf t).run G.P w=.ok i.size w:=by
 obtain⟨f,h1,h2,_⟩:=run_info (w:=w) h
 simp[sizeOf,h1,h2]
theorem run_isAgg {t:Nat} {i:TI} (h:G.tf t=some i):(isAgg t).run G.P w=.ok i.agg w:=by
 obtain⟨d,h1,_,h2⟩:=run_und (w:=w) h
 rw[<-h2]
 simp only[isAgg,Sem.run_bind,h1,Result.andThen_ok]
 cases d<;>rfl
theorem run_zero {t:Nat} {i:TI} (h:G.tf t=some i):∃z,(zeroValue t).run G.P w=.ok z w/\(∀ρ w O,VR ρ w O (zav i) z)/\z.cells.size=i.size/\z.cells.size=i.zero.length/\(∀ρ w O,VRs ρ w O i.zero z.cells.toList)/\∀x,x∈z.cells.toList->one x=true:=by
 obtain⟨f,h1,_,_,z,h2,h3⟩:=run_info (w:=w) h
 exact⟨z,by simp[zeroValue,h1,h2],h3⟩
def cl:AV->List AV
 |.agg cs=>cs
 |a=>[a]
def okc:AV->Bool
 |.dead|.raw _|.tup _=>false
 |_=>true
theorem cl_vr {O:Nat->Prop} {v:AV} {val:Value} (h:VR ρ w O v val) (ho:okc v=true):VRs ρ w O (cl v) val.cells.toList/\∀x,x∈val.cells.toList->one x=true:=by
 cases v with
 |agg cs=>
  simp only[VR]at h
  obtain⟨vs,rfl,h1,h2⟩:=h
  exact⟨h2,h1⟩
 |dead=>simp[okc]at ho
 |raw x=>simp[okc]at ho
 |tup x=>simp[okc]at ho
 |fn f cs=>have h':=h;simp only[VR]at h';obtain⟨vs,rfl,_⟩:=h';simp only[cl,Value.cells,VRs];exact⟨⟨h,trivial⟩,by simp[one]⟩
 |sl s es=>have h':=h;simp only[VR]at h';obtain⟨A,c,rfl,_⟩:=h';simp only[cl,Value.cells,VRs];exact⟨⟨h,trivial⟩,by simp[one]⟩
 |pat cs=>have h':=h;simp only[VR]at h';obtain⟨A,rfl,_⟩:=h';simp only[cl,Value.cells,VRs];exact⟨⟨h,trivial⟩,by simp[one]⟩
 |osl i s o l=>have h':=h;simp only[VR]at h';obtain⟨b,c,o',cs,e,f,_,rfl,_⟩:=h';simp only[cl,Value.cells,VRs];exact⟨⟨h,trivial⟩,by simp[one]⟩
 |ocl i s o l c=>have h':=h;simp only[VR]at h';obtain⟨b,o',cs,e,f,_,rfl,_⟩:=h';simp only[cl,Value.cells,VRs];exact⟨⟨h,trivial⟩,by simp[one]⟩
 |ptr i o=>have h':=h;simp only[VR]at h';obtain⟨b,_,rfl⟩:=h';simp only[cl,Value.cells,VRs];exact⟨⟨h,trivial⟩,by simp[one]⟩
 |tp i t k=>have h':=h;simp only[VR]at h';obtain⟨b,cs,f,_,rfl,_⟩:=h';simp only[cl,Value.cells,VRs];exact⟨⟨h,trivial⟩,by simp[one]⟩
 |tsl i t l=>have h':=h;simp only[VR]at h';obtain⟨b,c,cs,f,_,rfl,_⟩:=h';simp only[cl,Value.cells,VRs];exact⟨⟨h,trivial⟩,by simp[one]⟩
 |_=>have h':=h;simp only[VR]at h';subst h';simp only[cl,Value.cells,VRs];exact⟨⟨h,trivial⟩,by simp[one]⟩
theorem unf0 {i:Nat} (c:Array Value):UF i c (0,0):=⟨fun o _ h=>by simp at h,.inl rfl⟩
theorem new_var {cs:List AV} {c:Array Value} {e:TypeId} (hf:Fresh ρ n) (hr:HR X ρ w H) (h1:∀x,x∈c.toList->one x=true) (hv:VRs ρ w (OX X ρ H) cs c.toList):
  Fresh (rput ρ n w.heap.size) (n+4)/\HR X (rput ρ n w.heap.size) (wnew w (.cells c e)) ((n,cs)::H)/\Nx ρ H w n (rput ρ n w.heap.size) ((n,cs)::H) (wnew w (.cells c e)) (n+4):=by
 have hl:=VRs_length hv
 have:=hr.new (c:=c) (e:=e) (f:=(0,0)) (cs:=cs) hf (unf0 c) h1 (by simpa using Nat.le_of_eq hl) (by rw[hl,List.take_length];exact hv)
 exact⟨rput_fresh hf,this⟩
theorem op_alloc {t:Nat} {i:TI} (ht:G.tf t=some i) (hf:Fresh ρ n) (hr:HR X ρ w H):
  RS G X ρ n H w ((do pure (.value (<-Instr.alloc t true (.tuple #[]))):Sem Next).run G.P w) (.ok (.ptr n 0) ((n,i.zero)::H) (n+4)):=by
 obtain⟨z,hz,h1,h2,h3,h4,h5⟩:=run_zero (w:=w) ht
 obtain⟨k1,k2,k3⟩:=new_var (e:=t) hf hr h5 (h4 ρ w (OX X ρ H))
 refine⟨.pointer (some ⟨w.heap.size,0,none⟩),_,_,.inl ?_,k1,k2,?_,k3⟩
 ·simp[Instr.alloc,hz,newVar,newRow,wnew]
 ·simp only[VR];exact⟨w.heap.size,by simp[rput],rfl⟩
def bxp (t n:Nat):List AV->AV
 |[.nilp,.nils]=>.tp n t 2
 |_=>.ptr n 0
theorem op_box {t:Nat} {v:AV} {val:Value} (hf:Fresh ρ n) (hr:HR X ρ w H) (hv:VR ρ w (OX X ρ H) v val) (ho:okc v=true):
  RS G X ρ n H w ((do pure (.value (<-Instr.box t val)):Sem Next).run G.P w) (.ok (bxp t n (cl v)) ((n,cl v)::H) (n+4)):=by
 obtain⟨h1,h2⟩:=cl_vr hv ho
 obtain⟨k1,k2,k3⟩:=new_var (e:=t) hf hr h2 h1
 refine⟨.pointer (some ⟨w.heap.size,0,none⟩),_,_,.inl ?_,k1,k2,?_,k3⟩
 ·simp[Instr.box,newVar,newRow,wnew]
 ·unfold bxp
  split
  ·rename_i hc
   have hl:=VRs_length h1
   rw[hc]at hl
   simp only[VR];exact⟨w.heap.size,val.cells,(0,0),by simp[rput],rfl,by simp only[wnew,Array.size_push,Nat.lt_add_one,getElem?_pos,Array.getElem_push_eq],by simpa using hl.symm⟩
  ·simp only[VR];exact⟨w.heap.size,by simp[rput],rfl⟩
def ldo (i:TI) (cs:List AV) (o:Nat):AV:=bif i.agg then .agg ((cs.drop o).take i.size)else cs.getD o .dead
theorem load_pat {t:Nat} {i:TI} {cs:List AV} {val:Value} (ht:G.tf t=some i) (hf:Fresh ρ n) (hr:HR X ρ w H) (hv:VR ρ w (OX X ρ H) (.pat cs) val) (hl:i.size<=cs.length) (hs:i.agg=true\/0<cs.length):
  RS G X ρ n H w ((do pure (.value (<-Instr.loadAt t val)):Sem Next).run G.P w) (.ok (ldo i cs 0) H n):=by
 simp only[VR]at hv
 obtain⟨ad,rfl,hO,hb,hp⟩:=hv
 obtain⟨vs,h1,h2,h3,h4⟩:=PCs_vals hp
 simp only[Nat.zero_add]at h2
 unfold ldo
 cases ha:i.agg with
 |true=>
  have hld := run_loadCells G.P w ad (vs.take i.size) i.size (by simp; omega) (fun k hk=>by
   have hk':k<i.size/\k<vs.length:=by simp at hk;omega
   rw[h2 k hk'.2]
   congr 1
   simp[List.getD,List.getElem?_take,hk'.1])
  refine RS.pure hf hr (val:=.agg (vs.take i.size).toArray) ?_ ?_
  ·simp[Instr.loadAt,Instr.sureAddr,loadVar,run_isAgg ht,ha,run_sizeOf ht,hld]
  ·simp only[cond_true,VR,List.drop_zero]
   exact⟨_,rfl,fun x hx=>h4 x (List.mem_of_mem_take (by simpa using hx)),by simpa using VRs_take i.size h3⟩
 |false=>
  have hc:0<vs.length:=by
   rcases hs with h|h
   ·rw[ha]at h;cases h
   ·omega
  have h0:=h2 0 hc
  refine RS.pure hf hr (val:=vs.getD 0 undef) ?_ ?_
  ·simp only[Instr.loadAt,Instr.sureAddr,loadVar,Sem.run_bind,Sem.run_pure,Result.andThen_ok,run_isAgg ht,ha,Bool.false_eq_true,if_false,run_load]
   rw[show ad=ad.add 0 from rfl,h0];rfl
  ·simp only[cond_false];exact VRs_get h3 0
theorem load_ptr {t:Nat} {i:TI} {id o:Nat} {cs:List AV} {val:Value} (ht:G.tf t=some i) (hf:Fresh ρ n) (hr:HR X ρ w H) (hv:VR ρ w (OX X ρ H) (.ptr id o) val) (hg:hgt H id=some cs) (hl:o+i.size<=cs.length) (hs:o<cs.length):
  RS G X ρ n H w ((do pure (.value (<-Instr.loadAt t val)):Sem Next).run G.P w) (.ok (ldo i cs o) H n):=by
 simp only[VR]at hv
 obtain⟨b,hb,rfl⟩:=hv
 obtain⟨b',c,e,f,k1,k2,k3,k4,k5,k6⟩:=hr.obj id cs (hgt_mem hg)
 rw[hb]at k1;cases k1
 have hcell:∀k,o+k<c.size->w.cell? ((⟨b,o,none⟩:Addr).add k)=some (c.toList.getD (o+k) undef):=fun k hk=>by
  rw[add_plain];simp[World.cell?,k2,hk]
 unfold ldo
 cases ha:i.agg with
 |true=>
  have hld := run_loadCells G.P w ⟨b, o, none⟩ ((c.toList.drop o).take i.size) i.size (by simp; omega) (fun k hk=>by
   have hk':k<i.size/\k<c.size-o:=by simp at hk;omega
   rw[hcell k (by omega)]
   congr 1
   simp[List.getD,List.getElem?_take,hk'.1])
  refine RS.pure hf hr (val:=.agg ((c.toList.drop o).take i.size).toArray) ?_ ?_
  ·simp[Instr.loadAt,Instr.sureAddr,loadVar,run_isAgg ht,ha,run_sizeOf ht,hld]
  ·simp only[cond_true,VR]
   refine⟨_,rfl,fun x hx=>k4 x (List.mem_of_mem_drop (List.mem_of_mem_take (by simpa using hx))),?_⟩
   have:=VRs_take i.size (VRs_drop o k6)
   rw[List.drop_take,List.take_take,Nat.min_eq_left (by omega)]at this
   simpa using this
 |false=>
  refine RS.pure hf hr (val:=c.toList.getD o undef) ?_ ?_
  ·simp only[Instr.loadAt,Instr.sureAddr,loadVar,Sem.run_bind,Sem.run_pure,Result.andThen_ok,run_isAgg ht,ha,Bool.false_eq_true,if_false,run_load]
   have:=hcell 0 (by omega)
   rw[show(⟨b,o,none⟩:Addr).add 0=⟨b,o,none⟩from rfl]at this
   rw[this];rfl
  ·simp only[cond_false]
   have:=VRs_get k6 o
   rw[show(c.toList.take cs.length).getD o undef=c.toList.getD o undef by simp only[List.getD];rw[List.getElem?_take,if_pos (by omega)]]at this
   exact this
theorem store_ptr {t:Nat} {i:TI} {id o:Nat} {cs:List AV} {v:AV} {val ad:Value} (ht:G.tf t=some i) (hf:Fresh ρ n) (hr:HR X ρ w H) (hv:VR ρ w (OX X ρ H) (.ptr id o) ad) (hx:VR ρ w (OX X ρ H) v val) (ho:okc v=true)
  (hg:hgt H id=some cs) (hsz:(cl v).length=i.size) (hl:o+i.size<=cs.length):
  RS G X ρ n H w ((do Instr.storeAt t ad val;pure .skip:Sem Next).run G.P w) (.ok .dead (hset H id (cs.take o++cl v++cs.drop (o+i.size))) n):=by
 simp only[VR]at hv
 obtain⟨b,hb,rfl⟩:=hv
 obtain⟨b',c,e,f,k1,k2,k3,k4,k5,k6⟩:=hr.obj id cs (hgt_mem hg)
 rw[hb]at k1;cases k1
 obtain⟨h1,h2⟩:=cl_vr hx ho
 have hlen:=VRs_length h1
 have hrun:=run_storeCells G.P b e f val.cells.toList w c o 0 k2 k3.1 h2 (by simp at hlen⊢;omega)
 simp only[Nat.add_zero]at hrun
 have hcsz:val.cells.size=i.size:=by simpa using hlen.symm.trans hsz
 have hstep:((do Instr.storeAt t (.pointer (some ⟨b,o,none⟩)) val;pure .skip:Sem Next).run G.P w)=.ok .skip (if val.cells.toList=[]then w else wput w b (splice c.toList o val.cells.toList).toArray e f):=by
  simp[Instr.storeAt,Instr.sureAddr,storeVar,run_sizeOf ht,hcsz,hrun]
 have hspl:(splice c.toList o val.cells.toList).length=c.size:=by rw[splice_length (by simp;omega)];simp
 have hvals:VRs ρ w (OX X ρ H) (cs.take o++cl v++cs.drop (o+i.size)) ((splice c.toList o val.cells.toList).take cs.length):=by
  have e1:(splice c.toList o val.cells.toList).take cs.length=(c.toList.take cs.length).take o++val.cells.toList++(c.toList.take cs.length).drop (o+i.size):=by
   apply List.ext_getElem?
   intro k
   rw[List.getElem?_take]
   by_cases hk:k<cs.length
   ·rw[if_pos hk,splice_get (by simp;omega)]
    have e2:((c.toList.take cs.length).take o).length=o:=by simp;omega
    by_cases h3:k<o
    ·rw[if_pos h3,List.append_assoc,List.getElem?_append_left (by omega)];simp[List.getElem?_take,h3,hk]
    ·rw[if_neg h3]
     by_cases h4:k<o+val.cells.toList.length
     ·rw[if_pos h4,List.append_assoc,List.getElem?_append_right (by omega),e2,List.getElem?_append_left (by omega)]
     ·rw[if_neg h4,List.getElem?_append_right (by simp at h4⊢;omega),List.getElem?_drop,List.getElem?_take]
      have e3:((c.toList.take cs.length).take o++val.cells.toList).length=o+i.size:=by rw[List.length_append,e2];simp[hcsz]
      rw[e3]
      have:o+i.size+(k-(o+i.size))=k:=by simp at h4;omega
      rw[this,if_pos hk]
   ·rw[if_neg hk]
    rw[List.getElem?_eq_none]
    simp;omega
  rw[e1]
  exact VRs_append (VRs_append (VRs_take o k6) h1) (VRs_drop _ k6)
 have hput:=hr.put (n:=n) (i:=id) (b:=b) (hgt_ids hg) hb (c':=(splice c.toList o val.cells.toList).toArray) (cs:=cs.take o++cl v++cs.drop (o+i.size)) k2 (by simp[hspl])
  ⟨fun o' ho'=>k3.1 o' (by simpa[hspl]using ho'),k3.2⟩
  (fun x hx=>by
   simp only[splice]at hx
   rcases List.mem_append.1 hx with hx|hx
   ·rcases List.mem_append.1 hx with hx|hx
    ·exact k4 x (List.mem_of_mem_take hx)
    ·exact h2 x hx
   ·exact k4 x (List.mem_of_mem_drop hx))
  (by simp [hspl]; omega) (by
   have:(cs.take o++cl v++cs.drop (o+i.size)).length=cs.length:=by simp;omega
   rw[this];exact hvals)
 have hw:(if val.cells.toList=[]then w else wput w b (splice c.toList o val.cells.toList).toArray e f)=wput w b (splice c.toList o val.cells.toList).toArray e f:=by
  split
  ·rename_i he
   rw[he]
   simp only[splice,List.append_nil,List.length_nil,Nat.add_zero,List.take_append_drop,Array.toArray_toList]
   have:w.heap.setIfInBounds b (.cells c e f)=w.heap:=by
    apply Array.ext_getElem?
    intro k
    rw[Array.getElem?_setIfInBounds]
    by_cases hk:b=k
    ·subst hk;rw[k2];simp[(Array.getElem?_eq_some_iff.1 k2).1]
    ·simp[hk]
   unfold wput
   rw[this]
  ·rfl
 rw[hw]at hstep
 exact⟨undef,ρ,_,.inr ⟨hstep,rfl⟩,hf,hput.1,by simp only[VR],hput.2⟩
end ops
section ops
variable {G:Prg} {X:Nat->Prop} {ρ:Rho} {n N:Nat} {F:Fr} {H:Hp} {a:Act} {w:World}
theorem VR_drop_pat {cs:List AV} {ad:Addr} (k:Nat) (hO:¬OX X ρ H ad.block) (hb:ad.block<w.heap.size) (h:PCs ρ w (OX X ρ H) cs ad 0):VR ρ w (OX X ρ H) (.pat (cs.drop k)) (.pointer (some (ad.add k))):=by
 simp only[VR]
 refine⟨_,rfl,by rw[Addr.add_block];exact hO,by rw[Addr.add_block];exact hb,?_⟩
 have:=PCs_drop k h
 rw[Nat.zero_add]at this
 exact PCs_shift (j:=k) (k:=0) (by simpa using this)
def fae (l:List (Nat×Nat)) (f:Nat) (v:AV) (j:TI) (H:Hp) (n:Nat):Res:=
 match l[f]?,v with
 |some (off,_),.ptr id o=>.need (j.size≠0) (.ok (.ptr id (o+off)) H n)
 |some (off,_),.pat cs=>.need (j.size≠0) (.ok (.pat (cs.drop off)) H n)
 |_,_=>.bad
theorem op_fieldAddr {s f ft off:Nat} {i j:TI} {l:List (Nat×Nat)} {v:AV} {val:Value} (hs:G.tf s=some i) (hi:i.k=.struct l) (hl:l[f]?=some (off,ft)) (hj:G.tf ft=some j)
  (hf:Fresh ρ n) (hr:HR X ρ w H) (hv:VR ρ w (OX X ρ H) v val):
  RS G X ρ n H w ((do pure (.value (<-Instr.fieldAt s val f)):Sem Next).run G.P w) (fae l f v j H n):=by
 obtain⟨d,h1,h2,h9⟩:=run_und (w:=w) hs
 rw[hi]at h2
 cases d<;>simp only[kok]at h2
 clear h9
 rename_i fs
 have h3:(fs.toList.map (fun f=>(f.offset,f.type)))[f]?=some (off,ft):=by rw[h2];exact hl
 rw[List.getElem?_map]at h3
 obtain⟨fd,hfd,hfd2⟩:=Option.map_eq_some_iff.1 h3
 simp only[Prod.mk.injEq]at hfd2
 have hfd':fs[f]?=some fd:=by simpa using hfd
 unfold fae
 rw[hl]
 cases v with
 |ptr id o=>
  refine RS.need fun hz=>?_
  simp only[VR]at hv
  obtain⟨b,hb,rfl⟩:=hv
  refine RS.pure hf hr (val:=.pointer (some (⟨b,o+off,none⟩))) ?_ (by simp only[VR];exact⟨b,hb,rfl⟩)
  simp[Instr.fieldAt,h1,hfd',Instr.sureAddr,fieldPlace,hfd2.1,hfd2.2,run_sizeOf hj,hz,add_plain]
 |pat cs=>
  refine RS.need fun hz=>?_
  simp only[VR]at hv
  obtain⟨ad,rfl,hO,hb,hp⟩:=hv
  refine RS.pure hf hr (val:=.pointer (some (ad.add off))) ?_ (VR_drop_pat off hO hb hp)
  simp[Instr.fieldAt,h1,hfd',Instr.sureAddr,fieldPlace,hfd2.1,hfd2.2,run_sizeOf hj,hz]
 |_=>exact RS.bad
theorem agg_part {t:Nat} {j:TI} {cs:List AV} {vs:Array Value} {off:Nat} {O:Nat->Prop} (hj:G.tf t=some j) (h1:∀x,x∈vs.toList->one x=true) (h2:VRs ρ w O cs vs.toList) (hl:off+j.size<=cs.length) (hs:off<cs.length):
  ∃u,(part t vs off).run G.P w=.ok u w/\VR ρ w O (ldo j cs off) u:=by
 have hlen:=VRs_length h2
 simp only[Array.length_toList]at hlen
 unfold ldo
 cases ha:j.agg with
 |true=>
  refine⟨.agg (vs.extract off (off+j.size)),by simp[part,run_isAgg hj,ha,run_sizeOf hj],?_⟩
  simp only[cond_true,VR]
  refine⟨_,rfl,fun x hx=>h1 x ?_,?_⟩
  ·simp only[Array.toList_extract,List.extract_eq_take_drop]at hx
   exact List.mem_of_mem_drop (List.mem_of_mem_take hx)
  ·simp only[Array.toList_extract,List.extract_eq_take_drop]
   have:=VRs_take j.size (VRs_drop off h2)
   rw[show off+j.size-off=j.size by omega]
   exact this
 |false=>
  have hlt:off<vs.size:=by omega
  refine⟨vs[off],?_,?_⟩
  ·simp[part,run_isAgg hj,ha,hlt]
  ·simp only[cond_false]
   have:=VRs_get h2 off
   rw[show vs.toList.getD off undef=vs[off] by simp[List.getD,hlt]]at this
   exact this
theorem op_field {s f ft off:Nat} {i j:TI} {l:List (Nat×Nat)} {cs:List AV} {val:Value} (hs:G.tf s=some i) (hi:i.k=.struct l) (hl:l[f]?=some (off,ft)) (hj:G.tf ft=some j)
  (hf:Fresh ρ n) (hr:HR X ρ w H) (hv:VR ρ w (OX X ρ H) (.agg cs) val) (hn:off+j.size<=cs.length) (hs':off<cs.length):
  RS G X ρ n H w ((do pure (.value (<-Instr.field s val f)):Sem Next).run G.P w) (.ok (ldo j cs off) H n):=by
 obtain⟨d,h1,h2,h9⟩:=run_und (w:=w) hs
 rw[hi]at h2
 cases d<;>simp only[kok]at h2
 clear h9
 rename_i fs
 have h3:(fs.toList.map (fun f=>(f.offset,f.type)))[f]?=some (off,ft):=by rw[h2];exact hl
 rw[List.getElem?_map]at h3
 obtain⟨fd,hfd,hfd2⟩:=Option.map_eq_some_iff.1 h3
 simp only[Prod.mk.injEq]at hfd2
 have hfd':fs[f]?=some fd:=by simpa using hfd
 simp only[VR]at hv
 obtain⟨vs,rfl,k1,k2⟩:=hv
 obtain⟨u,hu,hu2⟩:=agg_part hj k1 k2 hn hs'
 refine RS.pure hf hr (val:=u) ?_ hu2
 simp[Instr.field,h1,hfd',asAgg,hfd2.1,hfd2.2,hu]
def iae (e:TI) (v:AV) (i:Int) (H:Hp) (n:Nat):Res:=
 match v with
 |.sl s es=>.need (s=e.size/\0<=i/\i<es.length) (.ok (.pat (es.getD i.toNat [])) H n)
 |.osl id s o l=>.need (s=e.size/\0<=i/\i<l) (.ok (.ptr id (o+i.toNat*s)) H n)
 |_=>.bad
theorem op_indexAddr {t e:Nat} {i j:TI} {v:AV} {val:Value} {k:IntKind} {ix:Int} (ht:G.tf t=some i) (hi:i.k=.slice e) (hj:G.tf e=some j)
  (hf:Fresh ρ n) (hr:HR X ρ w H) (hv:VR ρ w (OX X ρ H) v val):
  RS G X ρ n H w ((do pure (.value (<-Instr.indexAt t val (.int k ix))):Sem Next).run G.P w) (iae j v ix H n):=by
 obtain⟨d,h1,h2,_⟩:=run_und (w:=w) ht
 rw[hi]at h2
 cases d<;>simp only[kok]at h2
 subst h2
 unfold iae
 cases v with
 |sl s es=>
  refine RS.need fun⟨hs,h0,hl⟩=>?_
  simp only[VR]at hv
  obtain⟨A,c,rfl,hc,hp⟩:=hv
  have hne:es≠[]:=fun h=>by subst h;simp at hl;omega
  obtain⟨ad,rfl,hO,hb,hp⟩:=hp hne
  obtain⟨q1,q2⟩:=PEs_get hp ix.toNat (by omega)
  refine RS.pure hf hr (val:=.pointer (some (ad.add (ix.toNat*j.size)))) ?_ ?_
  ·simp[Instr.indexAt,asIntOf,h1,h0,hl,run_sizeOf hj]
  ·simp only[VR]
   refine⟨_,rfl,by rw[Addr.add_block];exact hO,by rw[Addr.add_block];exact hb,?_⟩
   rw[Nat.zero_add,hs]at q2
   exact PCs_shift (k:=0) (by simpa using q2)
 |osl id s o l=>
  refine RS.need fun⟨hs,h0,hl⟩=>?_
  simp only[VR]at hv
  obtain⟨b,c,o',cs,e',f,hb,rfl,hlc,ho,hh,hsz⟩:=hv
  have ho:=ho (by omega)
  subst ho
  refine RS.pure hf hr (val:=.pointer (some ⟨b,o'+ix.toNat*s,none⟩)) ?_ (by simp only[VR];exact⟨b,hb,rfl⟩)
  simp[Instr.indexAt,asIntOf,h1,h0,hl,run_sizeOf hj,add_plain,hs]
 |_=>exact RS.bad
theorem op_index_str {t:Nat} {i:TI} {s:List UInt8} {val:Value} {k:IntKind} {ix:Int} (ht:G.tf t=some i) (hi:i.k=.str)
  (hf:Fresh ρ n) (hr:HR X ρ w H) (hv:VR ρ w (OX X ρ H) (.str s) val) (h0:0<=ix) (hl:ix<s.length):
  RS G X ρ n H w ((do pure (.value (<-Instr.index t val (.int k ix))):Sem Next).run G.P w) (.ok (.int .u8 (s.getD ix.toNat 0).toNat) H n):=by
 obtain⟨d,h1,h2,_⟩:=run_und (w:=w) ht
 rw[hi]at h2
 cases d<;>simp only[kok]at h2
 simp only[VR]at hv
 subst hv
 have hlt:ix.toNat<(bstr s).size:=by simp[bstr,ByteArray.size];omega
 refine RS.pure hf hr (val:=.int .u8 (s.getD ix.toNat 0).toNat) ?_ (by simp only[VR])
 have:(bstr s)[ix.toNat]?=some (s.getD ix.toNat 0):=by
  have h3:ix.toNat<s.length:=by omega
  rw[getElem?_pos (bstr s) ix.toNat hlt]
  congr 1
  simp[bstr,List.getD,h3]
  rfl
 simp[Instr.index,asIntOf,h1,h0,this]
theorem bound_ok {k:IntKind} {i:Int} {y:Nat} {code:BoundsCode} (h0:0<=i) (hl:i<=y):(Instr.sliceBound (.int k i) y code).run G.P w=.ok i.toNat w:=by
 simp[Instr.sliceBound,asIntOf,h0,hl]
def bnd:Option AV->Int->Option Int
 |none,d=>some d
 |some (.int _ i),_=>some i
 |_,_=>none
def sle (s:Nat) (v:AV) (lo hi:Int) (H:Hp) (n:Nat):Res:=
 match v with
 |.str x=>.need (0<=lo/\lo<=hi/\hi<=x.length) (.ok (.str ((x.take hi.toNat).drop lo.toNat)) H n)
 |.sl s' es=>.need (s'=s/\0<=lo/\lo<=hi/\hi<=es.length) (.ok (.sl s' ((es.take hi.toNat).drop lo.toNat)) H n)
 |.osl id s' o l=>.need (s'=s/\0<=lo/\lo<=hi/\hi<=l) (.ok (.osl id s' (o+lo.toNat*s') (hi.toNat-lo.toNat)) H n)
 |_=>.bad
def avlen:AV->Int
 |.str x=>x.length
 |.sl _ es=>es.length
 |.osl _ _ _ l=>l
 |_=>0
theorem run_bounds {b:Bool} {len cap:Nat} {lo hi:Option AV} {vlo vhi:Option Value} {l h:Int} (hlo:bnd lo 0=some l) (hhi:bnd hi len=some h) (v1:∀x,vlo=some x->∃y,lo=some y/\VR ρ w (OX X ρ H) y x) (v2:∀x,vhi=some x->∃y,hi=some y/\VR ρ w (OX X ρ H) y x)
  (n1:vlo=none->lo=none) (n2:vhi=none->hi=none) (h0:0<=l) (h1:l<=h) (h2:h<=len) (h3:len<=cap):
  (Instr.sliceBounds b len cap vlo vhi none).run G.P w=.ok (l.toNat,h.toNat,cap) w:=by
 have hlo':vlo=none/\l=0\/∃k,vlo=some (.int k l):=by
  cases vlo with
  |none=>rw[n1 rfl]at hlo;simp[bnd]at hlo;exact .inl ⟨rfl,hlo.symm⟩
  |some x=>
   obtain⟨y,rfl,hy⟩:=v1 x rfl
   cases y<;>simp[bnd]at hlo
   subst hlo
   simp only[VR]at hy
   exact .inr ⟨_,by rw[hy]⟩
 have hhi':vhi=none/\h=len\/∃k,vhi=some (.int k h):=by
  cases vhi with
  |none=>rw[n2 rfl]at hhi;simp[bnd]at hhi;exact .inl ⟨rfl,hhi.symm⟩
  |some x=>
   obtain⟨y,rfl,hy⟩:=v2 x rfl
   cases y<;>simp[bnd]at hhi
   subst hhi
   simp only[VR]at hy
   exact .inr ⟨_,by rw[hy]⟩
 rcases hlo' with ⟨rfl,rfl⟩|⟨k,rfl⟩<;>rcases hhi' with ⟨rfl,rfl⟩|⟨k',rfl⟩
 ·simp[Instr.sliceBounds]
 ·simp[Instr.sliceBounds,bound_ok (G:=G) (w:=w) (show 0<=h by omega) (show h<=(cap:Int) by omega)]
 ·simp[Instr.sliceBounds,bound_ok (G:=G) (w:=w) h0 h1]
 ·simp[Instr.sliceBounds,bound_ok (G:=G) (w:=w) (show 0<=h by omega) (show h<=(cap:Int) by omega),bound_ok (G:=G) (w:=w) (y:=h.toNat) h0 (by omega)]
theorem op_slice_str {t:Nat} {i:TI} {x:List UInt8} {val:Value} {lo hi:Option AV} {vlo vhi:Option Value} {l h:Int} (ht:G.tf t=some i) (hi':i.k=.str) (hf:Fresh ρ n) (hr:HR X ρ w H)
  (hv:VR ρ w (OX X ρ H) (.str x) val) (hlo:bnd lo 0=some l) (hhi:bnd hi x.length=some h) (v1:∀x,vlo=some x->∃y,lo=some y/\VR ρ w (OX X ρ H) y x) (v2:∀x,vhi=some x->∃y,hi=some y/\VR ρ w (OX X ρ H) y x)
  (n1:vlo=none->lo=none) (n2:vhi=none->hi=none):
  RS G X ρ n H w ((do pure (.value (<-Instr.sliceAt t val vlo vhi none)):Sem Next).run G.P w) (sle 1 (.str x) l h H n):=by
 refine RS.need fun⟨h0,h1,h2⟩=>?_
 obtain⟨d,k1,k2,_⟩:=run_und (w:=w) ht
 rw[hi']at k2
 cases d<;>simp only[kok]at k2
 simp only[VR]at hv
 subst hv
 have hsz:(bstr x).size=x.length:=by simp[bstr,ByteArray.size]
 have hb:=run_bounds (G:=G) (b:=false) (len:=x.length) (cap:=x.length) hlo hhi v1 v2 n1 n2 h0 h1 h2 (Nat.le_refl _)
 refine RS.pure hf hr (val:=.string ((bstr x).extract l.toNat h.toNat)) ?_ ?_
 ·simp[Instr.sliceAt,k1,Instr.slice,hsz,hb]
 ·simp only[VR]
  congr 1
  apply ByteArray.ext
  apply Array.ext'
  simp[bstr,ByteArray.data_extract,List.extract_eq_take_drop]
  rw[List.take_drop]
  congr 2;omega
theorem op_slice_sl {t e:Nat} {i j:TI} {v:AV} {val:Value} {lo hi:Option AV} {vlo vhi:Option Value} {l h:Int} (ht:G.tf t=some i) (hi':i.k=.slice e) (hj:G.tf e=some j) (hf:Fresh ρ n) (hr:HR X ρ w H)
  (hv:VR ρ w (OX X ρ H) v val) (hlo:bnd lo 0=some l) (hhi:bnd hi (avlen v)=some h) (v1:∀x,vlo=some x->∃y,lo=some y/\VR ρ w (OX X ρ H) y x) (v2:∀x,vhi=some x->∃y,hi=some y/\VR ρ w (OX X ρ H) y x)
  (n1:vlo=none->lo=none) (n2:vhi=none->hi=none) (hns:∀x,v≠.str x):
  RS G X ρ n H w ((do pure (.value (<-Instr.sliceAt t val vlo vhi none)):Sem Next).run G.P w) (sle j.size v l h H n):=by
 obtain⟨d,k1,k2,_⟩:=run_und (w:=w) ht
 rw[hi']at k2
 cases d<;>simp only[kok]at k2
 subst k2
 unfold sle
 cases v with
 |str x=>exact absurd rfl (hns x)
 |sl s' es=>
  refine RS.need fun⟨hs,h0,h1,h2⟩=>?_
  simp only[VR]at hv
  obtain⟨A,c,rfl,hc,hp⟩:=hv
  have hb:=run_bounds (G:=G) (b:=true) (len:=es.length) (cap:=c) hlo hhi v1 v2 n1 n2 h0 h1 h2 hc
  refine RS.pure hf hr (val:=.slice (if c=l.toNat then A else A.map (·.add (l.toNat*j.size))) (h.toNat-l.toNat) (c-l.toNat)) ?_ ?_
  ·simp[Instr.sliceAt,k1,Instr.slice,hb,run_sizeOf hj]
  ·simp only[VR]
   have hlen:((es.take h.toNat).drop l.toNat).length=h.toNat-l.toNat:=by simp;omega
   refine⟨_,c-l.toNat,by rw[hlen],by rw[hlen];omega,fun hne=>?_⟩
   have hpos:0<h.toNat-l.toNat:=by rw[<-hlen];exact List.length_pos_iff.2 hne
   have hes:es≠[]:=fun h'=>by subst h';simp at hne
   obtain⟨ad,rfl,hO,hb',hp⟩:=hp hes
   rw[if_neg (by omega)]
   refine⟨_,rfl,by rw[Addr.add_block];exact hO,by rw[Addr.add_block];exact hb',?_⟩
   have:=PEs_drop l.toNat (PEs_take h.toNat hp)
   rw[<-hs]
   exact PEs_shift (k:=0) (by simpa using this)
 |osl id s' o len=>
  refine RS.need fun⟨hs,h0,h1,h2⟩=>?_
  simp only[VR]at hv
  obtain⟨b,c,o',cs,e',f,hb',rfl,hlc,ho,hh,hsz⟩:=hv
  have hb:=run_bounds (G:=G) (b:=true) (len:=len) (cap:=c) hlo hhi v1 v2 n1 n2 h0 h1 h2 hlc
  refine RS.pure hf hr (val:=.slice (if c=l.toNat then some ⟨b,o',none⟩else some ((⟨b,o',none⟩:Addr).add (l.toNat*j.size))) (h.toNat-l.toNat) (c-l.toNat)) ?_ ?_
  ·simp[Instr.sliceAt,k1,Instr.slice,hb,run_sizeOf hj]
  ·simp only[VR]
   by_cases hcl:c=l.toNat
   ·rw[if_pos hcl]
    exact⟨b,c-l.toNat,o',cs,e',f,hb',rfl,by omega,fun h'=>by omega,hh,by rw[show c-l.toNat=0 by omega];rw[<-hcl];omega⟩
   ·rw[if_neg hcl,add_plain]
    have ho:=ho (by omega)
    subst ho
    refine⟨b,c-l.toNat,o'+l.toNat*j.size,cs,e',f,hb',rfl,by omega,fun _=>by rw[hs],hh,?_⟩
    have e1:o'+l.toNat*s'+(c-l.toNat)*s'=o'+c*s':=by
     rw[Nat.add_assoc,<-Nat.add_mul];congr 2;omega
    omega
 |_=>exact RS.bad
def slnil (lo hi:Option AV) (H:Hp) (n:Nat):Res:=match bnd lo 0,bnd hi 0 with
 |some l,some h=>.need (l=0/\h=0) (.ok .nils H n)
 |_,_=>.bad
theorem op_slice_nils {t e:Nat} {i j:TI} {val:Value} {lo hi:Option AV} {vlo vhi:Option Value} (ht:G.tf t=some i) (hi':i.k=.slice e) (hj:G.tf e=some j) (hf:Fresh ρ n) (hr:HR X ρ w H)
  (hv:VR ρ w (OX X ρ H) .nils val) (v1:∀x,vlo=some x->∃y,lo=some y/\VR ρ w (OX X ρ H) y x) (v2:∀x,vhi=some x->∃y,hi=some y/\VR ρ w (OX X ρ H) y x)
  (n1:vlo=none->lo=none) (n2:vhi=none->hi=none):
  RS G X ρ n H w ((do pure (.value (<-Instr.sliceAt t val vlo vhi none)):Sem Next).run G.P w) (slnil lo hi H n):=by
 obtain⟨d,k1,k2,_⟩:=run_und (w:=w) ht
 rw[hi']at k2
 cases d<;>simp only[kok]at k2
 subst k2
 unfold slnil
 split
 ·rename_i l h hlo hhi
  refine RS.need fun⟨h0,h1⟩=>?_
  subst h0;subst h1
  simp only[VR]at hv
  subst hv
  have hb:=run_bounds (G:=G) (b:=true) (len:=0) (cap:=0) hlo hhi v1 v2 n1 n2 (Int.le_refl _) (Int.le_refl _) (Int.le_refl _) (Nat.le_refl _)
  refine RS.pure hf hr (val:=.slice none 0 0) ?_ (by simp only[VR])
  simp[Instr.sliceAt,k1,Instr.slice,hb,run_sizeOf hj]
 ·exact RS.bad
end ops
section ops
variable {G:Prg} {X:Nat->Prop} {ρ:Rho} {n N:Nat} {F:Fr} {H:Hp} {a:Act} {w:World}
theorem growBy_le (m:Nat):∀(r c:Nat),c<=m+(m+768)/4->Builtin.growBy m r c<=m+(m+768)/4
 |0,c,h=>h
 |r+1,c,h=>by
  simp only[Builtin.growBy]
  split
  ·exact h
  ·exact growBy_le m r _ (by omega)
theorem nextcap_le {m c:Nat} (h:c<m):Builtin.nextslicecap m c<=2*m:=by
 unfold Builtin.nextslicecap
 split
 ·omega
 ·split
  ·omega
  ·have:=growBy_le m 4 c (by omega);omega
def cls (i:Nat):Nat:=bif Nat.beq (i%4) 2 then 2 else 0
theorem cls_nxt (n i:Nat):nxt (n+cls i) n:=by
 unfold cls nxt
 cases Nat.beq (i%4) 2
 ·exact .inl rfl
 ·exact .inr rfl
theorem cls_cl {n i:Nat} (h:n%4=0):i%4=2->(n+cls i)%4=2:=by
 intro hi
 unfold cls
 rw[hi]
 show(n+2)%4=2
 omega
def srcc (H:Hp) (s:Nat):AV->Option (List AV×Nat)
 |.nils=>some ([],0)
 |.sl s' es=>bif s'==s then some (es.flatten,es.length)else none
 |.osl id s' o l=>match hgt H id with
  |some cs=>bif s'==s then some ((cs.drop o).take (l*s),l)else none
  |none=>none
 |.str b=>bif s==1 then some (b.map (fun c=>.int .u8 c.toNat),b.length)else none
 |_=>none
def srcn (H:Hp) (s:Nat):AV->Prop
 |.osl id s' o l=>match hgt H id with
  |some cs=>o+l*s<=cs.length
  |none=>True
 |_=>True
theorem src_ok {s m:Nat} {v:AV} {val:Value} {sc:List AV} (hr:HR X ρ w H) (hv:VR ρ w (OX X ρ H) v val) (h:srcc H s v=some (sc,m)) (hn:srcn H s v):
  ∃vs:List Value,(Builtin.lenOf val).run G.P w=.ok m w/\(Builtin.firstCells s m val).run G.P w=.ok vs.toArray w/\VRs ρ w (OX X ρ H) sc vs/\(∀x,x∈vs->one x=true)/\vs.length=m*s:=by
 cases v with
 |nils=>
  simp only[srcc,Option.some.injEq,Prod.mk.injEq]at h
  obtain⟨rfl,rfl⟩:=h
  simp only[VR]at hv;subst hv
  exact⟨[],by simp[Builtin.lenOf],by simp[Builtin.firstCells],by simp[VRs],by simp,by simp⟩
 |sl s' es=>
  simp only[srcc]at h
  cases hs:s'==s<;>simp only[hs,cond_true,cond_false]at h
  ·cases h
  simp only[Option.some.injEq,Prod.mk.injEq]at h
  obtain⟨rfl,rfl⟩:=h
  have hs:s'=s:=by simpa using hs
  subst hs
  simp only[VR]at hv
  obtain⟨A,c,rfl,hc,hp⟩:=hv
  by_cases hne:es=[]
  ·subst hne
   refine⟨[],by simp[Builtin.lenOf],?_,by simp[VRs],by simp,by simp⟩
   cases A<;>simp[Builtin.firstCells,loadCells,loadCellsFrom]
  ·obtain⟨ad,rfl,hO,hb,hp⟩:=hp hne
   obtain⟨k1,k2⟩:=PEs_vals hp
   obtain⟨vs,q1,q2,q3,q4⟩:=PCs_vals k1
   refine⟨vs,by simp[Builtin.lenOf],?_,q3,q4,by rw[q1,k2]⟩
   simp only[Builtin.firstCells]
   exact run_loadCells G.P w ad vs _ (by rw[q1,k2]) (fun k hk=>by simpa using q2 k hk)
 |osl id s' o l=>
  simp only[srcc]at h
  simp only[srcn]at hn
  cases hg:hgt H id with
  |none=>rw[hg]at h;cases h
  |some cs=>
   rw[hg]at h hn
   dsimp only at h hn
   cases hs:s'==s<;>simp only[hs,cond_true,cond_false]at h
   ·cases h
   simp only[Option.some.injEq,Prod.mk.injEq]at h
   obtain⟨rfl,rfl⟩:=h
   have hs:s'=s:=by simpa using hs
   subst hs
   simp only[VR]at hv
   obtain⟨b,c,o',cc,e,f,hb,rfl,hlc,ho,hh,hsz⟩:=hv
   obtain⟨b',c2,e2,f2,k1,k2,k3,k4,k5,k6⟩:=hr.obj id cs (hgt_mem hg)
   rw[hb]at k1;cases k1
   rw[hh]at k2;cases k2
   refine⟨(cc.toList.drop o).take (l*s'),by simp[Builtin.lenOf],?_,?_,fun x hx=>k4 x (List.mem_of_mem_drop (List.mem_of_mem_take hx)),by simp;omega⟩
   ·simp only[Builtin.firstCells]
    by_cases hl:l=0
    ·subst hl;simp[loadCells,loadCellsFrom]
    ·have ho:=ho (by omega)
     subst ho
     refine run_loadCells G.P w _ _ _ (by simp;omega) (fun k hk=>?_)
     have hk':k<l*s'/\k<cc.size-o':=by simp at hk;omega
     rw[add_plain]
     have:o'+k<cc.size:=by omega
     simp[World.cell?,hh,this,List.getD,List.getElem?_take,hk'.1]
   ·have:=VRs_take (l*s') (VRs_drop o k6)
    rw[List.drop_take,List.take_take,Nat.min_eq_left (by omega)]at this
    exact this
 |str b=>
  simp only[srcc]at h
  cases hs:s==1<;>simp only[hs,cond_true,cond_false]at h
  ·cases h
  simp only[Option.some.injEq,Prod.mk.injEq]at h
  obtain⟨rfl,rfl⟩:=h
  have hs:s=1:=by simpa using hs
  subst hs
  simp only[VR]at hv
  subst hv
  refine⟨b.map (fun c=>.int .u8 c.toNat),?_,?_,?_,by simp[one],by simp⟩
  ·simp[Builtin.lenOf,bstr,ByteArray.size]
  ·have:(bstr b).extract 0 b.length=bstr b:=by
    apply ByteArray.ext;apply Array.ext'
    simp[bstr,ByteArray.data_extract]
   simp only[Builtin.firstCells,this,Sem.run_pure]
   congr 1
   simp[bstr]
  ·clear hr hn
   induction b with
   |nil=>simp[VRs]
   |cons c b ih=>simp only[List.map_cons,VRs];exact⟨by simp only[VR],ih⟩
 |_=>simp[srcc]at h
theorem zc_one {z:Array Value} {k:Nat} (h:∀x,x∈z.toList->one x=true) (hs:∀x∈z,True):∀x,x∈(Builtin.zeroCells z k).toList->one x=true:=by
 intro x hx
 simp only[Builtin.zeroCells,Array.toList_map,List.mem_map]at hx
 obtain⟨i,hi,rfl⟩:=hx
 have hi':i<k*z.size:=by simpa using hi
 have hz:0<z.size:=by
  rcases Nat.eq_zero_or_pos z.size with h0|h0
  ·rw[h0]at hi';omega
  ·exact h0
 have hm:=Nat.mod_lt i hz
 rw[getElem!_pos z (i%z.size) hm]
 exact h _ (by simp)
theorem zc_size {z:Array Value} {k:Nat}:(Builtin.zeroCells z k).size=k*z.size:=by simp[Builtin.zeroCells]
def apd (cs:List AV) (k:Nat) (sc:List AV):List AV:=cs.take k++sc
theorem op_append {t t2 e id s l m:Nat} {i i2 j:TI} {cs sc:List AV} {v2:AV} {x1 x2:Value} {ty:TypeId} (ht:G.tf t=some i) (hi:i.k=.slice e) (hj:G.tf e=some j) (ht2:G.tf t2=some i2) (hi2:∀k,i2.k≠.int k)
  (hno:i2.k≠.other) (hf:Fresh ρ n) (hr:HR X ρ w H) (h1:VR ρ w (OX X ρ H) (.osl id s 0 l) x1) (h2:VR ρ w (OX X ρ H) v2 x2) (hg:hgt H id=some cs) (hs:s=j.size) (hl:l*s<=cs.length)
  (hsrc:srcc H s v2=some (sc,m)) (hsn:srcn H s v2) (hb0:0<j.bytes) (hbig:(l+m)*j.bytes<=140737488355328):
  RS G X ρ n H w ((do pure (.value (<-Builtin.append_ #[t,t2] ty #[x1,x2])):Sem Next).run G.P w) (.ok (.osl (n+cls id) s 0 (l+m)) ((n+cls id,apd cs (l*s) sc)::hdel H id) (n+4)):=by
 obtain⟨vs,q1,q2,q3,q4,q5⟩:=src_ok (G:=G) hr h2 hsrc hsn
 obtain⟨d,d1,d2,d9⟩:=run_und (w:=w) ht
 rw[hi]at d2
 cases d<;>simp only[kok]at d2
 have d3:=d2.symm
 subst d3
 obtain⟨d',d1',d2',d9'⟩:=run_und (w:=w) ht2
 have hnint:∀k,d'≠.int k:=by
  rintro k rfl
  cases hk:i2.k<;>rw[hk]at d2'<;>simp only[kok]at d2'
  ·exact hi2 _ hk
  ·exact hno hk
 obtain⟨fi,f0,f2,f3,z,z1,z2,z3,z4,z5,z6⟩:=(G.ok _ _ hj).info
 have f1:∀w,(typeInfo e).run G.P w=.ok fi w:=fun w=>by simp[typeInfo,f0]
 have fz:∀w,(zeroValue e).run G.P w=.ok z w:=fun w=>by simp[zeroValue,f1,z1]
 simp only[VR]at h1
 obtain⟨b,c,o',cc,e',f,hb,rfl,hlc,ho,hh,hsz⟩:=h1
 obtain⟨b',c2,e2,f4,k1,k2,k3,k4,k5,k6⟩:=hr.obj id cs (hgt_mem hg)
 rw[hb]at k1;cases k1
 rw[hh]at k2;cases k2
 have hsrcl:sc.length=m*s:=by rw[VRs_length q3,q5]
 by_cases hfit:l+m<=c
 ·--in place
  have hroom:(l*s)+vs.length<=cc.size:=by
   rw[q5,<-Nat.add_mul]
   exact Nat.le_trans (Nat.mul_le_mul_right s hfit) (by omega)
  have hst:=run_storeCells G.P b e' f vs w cc (l*s) 0 hh k3.1 q4 (by omega)
  simp only[Nat.add_zero]at hst
  have hrun:((do pure (.value (<-Builtin.append_ #[t,t2] ty #[.slice (some ⟨b,o',none⟩) l c,x2])):Sem Next).run G.P w)=
    .ok (.value (.slice (some ⟨b,o',none⟩) (l+m) c)) (if vs=[]then w else wput w b (splice cc.toList (l*s) vs).toArray e' f):=by
   have hz:((match d' with|.int _=>true|_=>false):Bool)=false:=by
    cases d'<;>first|rfl|exact absurd rfl (hnint _)
   have hst':(storeCells ((⟨b,o',none⟩:Addr).add (l*j.size)) vs 0).run G.P w=.ok () (if vs=[]then w else wput w b (splice cc.toList (l*s) vs).toArray e' f):=by
    by_cases hc0:0<c
    ·rw[ho hc0,add_plain,<-hs,Nat.zero_add];exact hst
    ·have:m=0:=by omega
     subst this
     have:vs=[]:=List.length_eq_zero_iff.1 (by rw[q5];simp)
     subst this;simp[storeCells]
   simp only[Builtin.append_,List.getElem?_toArray,List.getElem?_cons_zero,List.getElem?_cons_succ,Sem.run_bind,d1,Result.andThen_ok,run_sizeOf hj,d1',Sem.run_pure]
   simp only[hz,Bool.false_eq_true,if_false,q1,Result.andThen_ok,hfit,if_true,Sem.run_bind,<-hs,q2,Sem.run_pure]
   rw[<-hs]at hst'
   simp only[Bool.not_false,if_true,q2,Result.andThen_ok,hst']
  have hsplen:(splice cc.toList (l*s) vs).length=cc.size:=by rw[splice_length (by simpa using hroom)];simp
  have hvals:VRs ρ w (OX X ρ H) (apd cs (l*s) sc) ((splice cc.toList (l*s) vs).take (apd cs (l*s) sc).length):=by
   have hal:(apd cs (l*s) sc).length=l*s+vs.length:=by
    rw[apd,List.length_append,List.length_take,hsrcl,q5];omega
   have e1:(splice cc.toList (l*s) vs).take (l*s+vs.length)=(cc.toList.take cs.length).take (l*s)++vs:=by
    simp only[splice]
    rw[List.take_append_of_le_length (by simp;omega),List.take_take,Nat.min_eq_left hl]
    rw[List.take_of_length_le (by simp;omega)]
   rw[hal,e1,apd]
   exact VRs_append (VRs_take _ k6) q3
  have hput:=hr.put (n:=n) (i:=id) (b:=b) (hgt_ids hg) hb (c':=(splice cc.toList (l*s) vs).toArray) (cs:=apd cs (l*s) sc) hh (by simp[hsplen])
   ⟨fun o2 ho2=>k3.1 o2 (by simpa[hsplen]using ho2),k3.2⟩
   (fun x hx=>by
    simp only[splice]at hx
    rcases List.mem_append.1 hx with hx|hx
    ·rcases List.mem_append.1 hx with hx|hx
     ·exact k4 x (List.mem_of_mem_take hx)
     ·exact q4 x hx
    ·exact k4 x (List.mem_of_mem_drop hx))
   (by simp only[List.size_toArray];rw[hsplen,apd,List.length_append,List.length_take,hsrcl];rw[q5]at hroom;omega) hvals
  have hweq:(if vs=[]then w else wput w b (splice cc.toList (l*s) vs).toArray e' f)=wput w b (splice cc.toList (l*s) vs).toArray e' f:=by
   split
   ·rename_i he
    subst he
    have:(splice cc.toList (l*s) []).toArray=cc:=by apply Array.ext';simp[splice]
    rw[this]
    have:w.heap.setIfInBounds b (.cells cc e' f)=w.heap:=by
     apply Array.ext_getElem?
     intro k
     rw[Array.getElem?_setIfInBounds]
     by_cases hk:b=k
     ·subst hk;rw[hh];simp[(Array.getElem?_eq_some_iff.1 hh).1]
     ·simp[hk]
    unfold wput;rw[this]
   ·rfl
  rw[hweq]at hrun
  have hmem:(id,apd cs (l*s) sc)∈hset H id (apd cs (l*s) sc):=by
   have:∀(H:Hp) (x:List AV),id∈ids H->(id,x)∈hset H id x:=by
    intro H x hm
    induction H with
    |nil=>simp[ids]at hm
    |cons p H ih=>
     obtain⟨k,o⟩:=p
     simp only[hset]
     by_cases hk:k=id
     ·subst hk;simp
     ·have:(k==id)=false:=by simpa using hk
      simp only[this,cond_false,List.mem_cons]
      refine .inr (ih ?_)
      simp only[ids,List.map_cons,List.mem_cons]at hm
      exact hm.resolve_left fun e=>hk e.symm
   exact this H _ (hgt_ids hg)
  have hren:=hput.1.rename (n:=n) (q:=n+cls id) hf (cls_nxt _ _) (i:=id) (cls_cl hf.1) (b:=b) hb hmem (Nat.le_refl _) (by simp)
  have hdel':hdel (hset H id (apd cs (l*s) sc)) id=hdel H id:=by
   have:∀(H:Hp) (x:List AV),hdel (hset H id x) id=hdel H id:=by
    intro H x
    induction H with
    |nil=>rfl
    |cons p H ih=>
     obtain⟨k,o⟩:=p
     simp only[hset,hdel]
     cases hk:k==id
     ·simp only[cond_false,hdel,hk,ih]
     ·simp only[cond_true,hdel,hk]
   exact this H _
  rw[hdel']at hren
  refine⟨_,_,_,.inl hrun,rput_fresh hf (cls_nxt _ _),hren.1,?_,hput.2.trans hren.2⟩
  simp only[VR]
  exact⟨b,c,o',(splice cc.toList (l*s) vs).toArray,e',f,by simp[rput],rfl,hfit,ho,by rw[wput_heap,if_pos ⟨rfl,(Array.getElem?_eq_some_iff.1 hh).1⟩],by simp[hsplen];omega⟩
 ·--it grows
  have hcap:¬(Builtin.nextslicecap (l+m) c*j.bytes>2^48):=by
   have h1:=nextcap_le (m:=l+m) (c:=c) (by omega)
   have h2:=Nat.mul_le_mul_right j.bytes h1
   have h3:2*(l+m)*j.bytes=2*((l+m)*j.bytes):=Nat.mul_assoc ..
   omega
  let w1:World:={w with drawn:=w.drawn+1}
  have hr1:HR X ρ w1 H:=hr.draw _
  have hcar1:Carry ρ ρ w w1 (OX X ρ H) (OX X ρ H):=⟨fun _ _ h=>h,Nat.le_refl _,fun _ _ _=>rfl,fun _ cs e f h=>⟨cs,f,h,rfl⟩,fun _ _ h=>h⟩
  obtain⟨vs,_,r2,r3,r4,r5⟩:=src_ok (G:=G) hr1 (VR_carry hcar1 _ _ h2) hsrc hsn
  have hold:∃os:List Value,(Builtin.firstCells s l (.slice (some ⟨b,o',none⟩) l c)).run G.P w1=.ok os.toArray w1/\VRs ρ w1 (OX X ρ H) (cs.take (l*s)) os/\(∀x,x∈os->one x=true)/\os.length=l*s:=by
   refine⟨cc.toList.take (l*s),?_,?_,fun x hx=>k4 x (List.mem_of_mem_take hx),by simp;omega⟩
   ·simp only[Builtin.firstCells]
    by_cases hl0:l=0
    ·subst hl0;simp[loadCells,loadCellsFrom]
    ·have ho:=ho (by omega)
     subst ho
     refine run_loadCells G.P _ _ _ _ (by simp;omega) (fun k hk=>?_)
     have hk':k<l*s/\k<cc.size:=by simp at hk;omega
     rw[add_plain]
     simp[w1,World.cell?,hh,List.getD,List.getElem?_take,hk'.1,hk'.2]
   ·have:=VRs_take (l*s) k6
    rw[List.take_take,Nat.min_eq_left hl]at this
    exact VRs_carry hcar1 _ _ this
  obtain⟨os,o1,o2,o3,o4⟩:=hold
  obtain⟨nc,hnc,hncge⟩:∃nc,nc=(Question.appendCap (l+m) c e).cut (w.tape w.drawn (.appendCap (l+m) c e))/\l+m<=nc:=⟨_,rfl,by simp[Question.cut]⟩
  let blk:Array Value:=os.toArray++vs.toArray++Builtin.zeroCells z.cells (nc-(l+m))
  have hrun:((do pure (.value (<-Builtin.append_ #[t,t2] ty #[.slice (some ⟨b,o',none⟩) l c,x2])):Sem Next).run G.P w)=
    .ok (.value (.slice (some ⟨w.heap.size,0,none⟩) (l+m) nc)) (wnew w1 (.cells blk e)):=by
   have hz:((match (generalizing:=false) d' with|.int _=>true|_=>false):Bool)=false:=by
    cases d'<;>first|rfl|exact absurd rfl (hnint _)
   have hcap':¬(Builtin.nextslicecap (l+m) c*fi.bytes>2^48):=by rw[f3];exact hcap
   simp only[Builtin.append_,List.getElem?_toArray,List.getElem?_cons_zero,List.getElem?_cons_succ,Sem.run_bind,d1,Result.andThen_ok,run_sizeOf hj,d1',Sem.run_pure]
   have hbig':¬(((l+m:Nat):Int)>IntKind.i64.max/\((match (generalizing:=false) d' with|.int _=>true|_=>false)=true\/fi.bytes=0)):=by
    rw[hz,f3];intro h;rcases h.2 with h3|h3
    ·cases h3
    ·omega
   simp only[hz,Bool.false_eq_true,if_false,q1,Result.andThen_ok,hfit,Sem.run_bind,<-hs,f1,hcap',false_or,f3,show ¬(j.bytes=0) by omega,and_false,run_choose,Question.forced,Sem.run_pure,run_askRoom,<-hnc]
   rw[f3]at hcap'
   simp only[hcap',if_false,Sem.run_pure,Result.andThen_ok,run_choose,Question.forced,Bool.false_eq_true,<-hnc,run_askRoom,Sem.run_bind]
   simp only[f1,fz,Result.andThen_ok,Bool.not_false,if_true]
   rw[o1]
   simp only[Result.andThen_ok]
   rw[r2]
   simp only[Result.andThen_ok,newRow,Sem.run_bind,run_newObj,Sem.run_pure]
   rfl
  have hvo:VRs ρ w1 (OX X ρ H) (apd cs (l*s) sc) (os++vs):=VRs_append o2 r3
  have hsub:=hdel_sub H id
  have hr2:=hr1.sub hsub
  have hvo2:VRs ρ w1 (OX X ρ (hdel H id)) (apd cs (l*s) sc) (os++vs):=VRs_carry (Carry.less fun x hx=>hx.imp (fun h=>h) (Own.sub hsub)) _ _ hvo
  have hblk:blk.toList=os++vs++(Builtin.zeroCells z.cells (nc-(l+m))).toList:=by simp[blk]
  have hal:(apd cs (l*s) sc).length=(os++vs).length:=by rw[VRs_length hvo]
  have hnew := hr2.newq (q := n + cls id) (c := blk) (e := e) (f := (0, 0)) (cs := apd cs (l * s) sc) hf (cls_nxt _ _) (unf0 _) (fun x hx=>by
    rw[hblk]at hx
    rcases List.mem_append.1 hx with hx|hx
    ·rcases List.mem_append.1 hx with hx|hx
     ·exact o3 x hx
     ·exact r4 x hx
    ·exact zc_one z6 (fun _ _ => trivial) x hx) (by rw [hal, <- Array.length_toList, hblk]; simp) (by
    rw[hblk,hal,List.take_left];exact hvo2)
  have hnx1:Nx ρ H w n ρ (hdel H id) w1 n:=⟨fun _ _ h=>h,Nat.le_refl _,⟨rfl,rfl,rfl,Nat.le_refl _,fun _ _ _=>rfl,fun _ cs e f h=>⟨cs,f,h,rfl⟩⟩,fun x hx=>.inl (Own.sub hsub hx)⟩
  refine⟨_,_,_,.inl hrun,rput_fresh hf (cls_nxt _ _),hnew.1,?_,hnx1.trans hnew.2⟩
  simp only[VR]
  refine⟨w.heap.size,nc,0,blk,e,(0,0),by simp[rput,w1],rfl,hncge,fun _=>rfl,by rw[wnew_heap];simp[w1],?_⟩
  rw[<-Array.length_toList,hblk,List.length_append,List.length_append,o4,r5,Array.length_toList,zc_size,z3,<-hs,<-Nat.add_mul,<-Nat.add_mul]
  rw[Nat.zero_add]
  exact Nat.mul_le_mul_right s (by omega)
end ops
section ops
variable {G:Prg} {X:Nat->Prop} {ρ:Rho} {n N:Nat} {F:Fr} {H:Hp} {a:Act} {w:World}
theorem op_append_nil {t t2 e m:Nat} {i i2 j:TI} {sc:List AV} {v2:AV} {x1 x2:Value} {ty:TypeId} (ht:G.tf t=some i) (hi:i.k=.slice e) (hj:G.tf e=some j) (ht2:G.tf t2=some i2) (hi2:∀k,i2.k≠.int k)
  (hno:i2.k≠.other) (hf:Fresh ρ n) (hr:HR X ρ w H) (h1:VR ρ w (OX X ρ H) .nils x1) (h2:VR ρ w (OX X ρ H) v2 x2)
  (hsrc:srcc H j.size v2=some (sc,m)) (hsn:srcn H j.size v2) (hm:0<m) (hb0:0<j.bytes) (hbig:m*j.bytes<=140737488355328):
  RS G X ρ n H w ((do pure (.value (<-Builtin.append_ #[t,t2] ty #[x1,x2])):Sem Next).run G.P w) (.ok (.osl n j.size 0 m) ((n,sc)::H) (n+4)):=by
 obtain⟨vs0,q1,_,_,_,_⟩:=src_ok (G:=G) hr h2 hsrc hsn
 obtain⟨d,d1,d2,d9⟩:=run_und (w:=w) ht
 rw[hi]at d2
 cases d<;>simp only[kok]at d2
 have d3:=d2.symm
 subst d3
 obtain⟨d',d1',d2',d9'⟩:=run_und (w:=w) ht2
 have hnint:∀k,d'≠.int k:=by
  rintro k rfl
  cases hk:i2.k<;>rw[hk]at d2'<;>simp only[kok]at d2'
  ·exact hi2 _ hk
  ·exact hno hk
 obtain⟨fi,f0,f2,f3,z,z1,z2,z3,z4,z5,z6⟩:=(G.ok _ _ hj).info
 have f1:∀w,(typeInfo e).run G.P w=.ok fi w:=fun w=>by simp[typeInfo,f0]
 have fz:∀w,(zeroValue e).run G.P w=.ok z w:=fun w=>by simp[zeroValue,f1,z1]
 simp only[VR]at h1
 subst h1
 have hfit:¬0+m<=0:=by omega
 have hcap:¬(Builtin.nextslicecap (0+m) 0*j.bytes>2^48):=by
  have h1:=nextcap_le (m:=0+m) (c:=0) (by omega)
  have h2:=Nat.mul_le_mul_right j.bytes h1
  have h3:2*(0+m)*j.bytes=2*(m*j.bytes):=by rw[Nat.zero_add,Nat.mul_assoc]
  omega
 let w1:World:={w with drawn:=w.drawn+1}
 have hr1:HR X ρ w1 H:=hr.draw _
 have hcar1:Carry ρ ρ w w1 (OX X ρ H) (OX X ρ H):=⟨fun _ _ h=>h,Nat.le_refl _,fun _ _ _=>rfl,fun _ cs e f h=>⟨cs,f,h,rfl⟩,fun _ _ h=>h⟩
 obtain⟨vs,_,r2,r3,r4,r5⟩:=src_ok (G:=G) hr1 (VR_carry hcar1 _ _ h2) hsrc hsn
 obtain⟨nc,hnc,hncge⟩:∃nc,nc=(Question.appendCap (0+m) 0 e).cut (w.tape w.drawn (.appendCap (0+m) 0 e))/\0+m<=nc:=⟨_,rfl,by simp[Question.cut]⟩
 let blk:Array Value:=#[]++vs.toArray++Builtin.zeroCells z.cells (nc-(0+m))
 have hrun:((do pure (.value (<-Builtin.append_ #[t,t2] ty #[.slice none 0 0,x2])):Sem Next).run G.P w)=
   .ok (.value (.slice (some ⟨w.heap.size,0,none⟩) (0+m) nc)) (wnew w1 (.cells blk e)):=by
  have hz:((match (generalizing:=false) d' with|.int _=>true|_=>false):Bool)=false:=by
   cases d'<;>first|rfl|exact absurd rfl (hnint _)
  have hcap':¬(Builtin.nextslicecap (0+m) 0*fi.bytes>2^48):=by rw[f3];exact hcap
  simp only[Builtin.append_,List.getElem?_toArray,List.getElem?_cons_zero,List.getElem?_cons_succ,Sem.run_bind,d1,Result.andThen_ok,run_sizeOf hj,d1',Sem.run_pure]
  simp only[hz,Bool.false_eq_true,if_false,q1,Result.andThen_ok,hfit,Sem.run_bind,f1,hcap',false_or,f3,show ¬(j.bytes=0) by omega,and_false,run_choose,Question.forced,Sem.run_pure,run_askRoom,<-hnc]
  rw[f3]at hcap'
  simp only[hcap',if_false,Sem.run_pure,Result.andThen_ok,run_choose,Question.forced,Bool.false_eq_true,<-hnc,run_askRoom,Sem.run_bind]
  simp only[f1,fz,Result.andThen_ok,Bool.not_false,if_true]
  have h00:(Builtin.firstCells j.size 0 (.slice none 0 0)).run G.P w1=.ok #[] w1:=rfl
  rw[h00]
  simp only[Result.andThen_ok]
  rw[r2]
  simp only[Result.andThen_ok,newRow,Sem.run_bind,run_newObj,Sem.run_pure]
  rfl
 have hblk:blk.toList=vs++(Builtin.zeroCells z.cells (nc-(0+m))).toList:=by simp[blk]
 have hal:sc.length=vs.length:=VRs_length r3
 have hnew := hr1.new (c := blk) (e := e) (f := (0, 0)) (cs := sc) hf (unf0 _) (fun x hx=>by
   rw[hblk]at hx
   rcases List.mem_append.1 hx with hx|hx
   ·exact r4 x hx
   ·exact zc_one z6 (fun _ _ => trivial) x hx) (by rw [hal, <- Array.length_toList, hblk]; simp) (by
   rw[hblk,hal,List.take_left];exact r3)
 have hnx1:Nx ρ H w n ρ H w1 n:=⟨fun _ _ h=>h,Nat.le_refl _,⟨rfl,rfl,rfl,Nat.le_refl _,fun _ _ _=>rfl,fun _ cs e f h=>⟨cs,f,h,rfl⟩⟩,fun x hx=>.inl hx⟩
 refine⟨_,_,_,.inl hrun,rput_fresh hf,hnew.1,?_,hnx1.trans hnew.2⟩
 simp only[VR]
 refine⟨w.heap.size,nc,0,blk,e,(0,0),by simp[rput,w1],by rw[Nat.zero_add],by omega,fun _=>rfl,by rw[wnew_heap];simp[w1],?_⟩
 rw[<-Array.length_toList,hblk,List.length_append,r5,Array.length_toList,zc_size,z3,<-Nat.add_mul,Nat.zero_add]
 exact Nat.mul_le_mul_right _ (by omega)
theorem fold_set (off:Nat):∀(l:List Value) (k:Nat) (c:Array Value),off+k+l.length<=c.size->
  ((l.zipIdx k).foldl (fun cs (p:Value×Nat)=>cs.setIfInBounds (off+p.2) p.1) c).toList=splice c.toList (off+k) l
 |[],k,c,_=>by simp[splice]
 |v::l,k,c,h=>by
  simp only[List.length_cons]at h
  simp only[List.zipIdx_cons,List.foldl_cons]
  rw[fold_set off l (k+1) _ (by simp;omega)]
  apply List.ext_getElem?
  intro q
  rw[splice_get (by simp;omega),splice_get (by simp;omega)]
  simp only[Array.toList_setIfInBounds,List.getElem?_set,List.length_cons]
  by_cases h1:q<off+k
  ·rw[if_pos (by omega),if_neg (by omega),if_pos h1]
  ·by_cases h2:q=off+k
   ·subst h2
    rw[if_pos (by omega),if_pos rfl,if_pos (by simp;omega),if_neg (by omega),if_pos (by omega)];simp
   ·rw[if_neg h1]
    by_cases h3:q<off+(k+1)+l.length
    ·rw[if_neg (by omega),if_pos h3,if_pos (by omega),show q-(off+k)=(q-(off+(k+1)))+1 by omega];simp
    ·rw[if_neg (by omega),if_neg h3,if_neg (by omega),if_neg (by omega)]
def bld (pl:Nat->Option (Nat×Nat)):List AV->List (Nat×AV)->Option (List AV)
 |zs,[]=>some zs
 |zs,(i,v)::r=>match pl i with
  |some (off,size)=>bif okc v&&((cl v).length==size&&Nat.ble (off+size) zs.length)then bld pl (zs.take off++cl v++zs.drop (off+size)) r else none
  |none=>none
theorem fill_ok {O:Nat->Prop} {pl:Nat->Option (Nat×Nat)}:∀{ps:List (Nat×AV)} {vs:List (Nat×Value)} {zs zs':List AV} {c:Array Value},
  ps.length=vs.length->(∀k,k<ps.length->(ps.getD k default).1=(vs.getD k default).1/\VR ρ w O (ps.getD k default).2 (vs.getD k default).2)->
  VRs ρ w O zs c.toList->(∀x,x∈c.toList->one x=true)->bld pl zs ps=some zs'->
  ∃c',Instr.fill pl c vs=some c'/\VRs ρ w O zs' c'.toList/\(∀x,x∈c'.toList->one x=true)/\c'.size=c.size
 |[],[],zs,zs',c,_,_,hz,h1,hb=>by simp only[bld,Option.some.injEq]at hb;subst hb;exact⟨c,rfl,hz,h1,rfl⟩
 |(i,v)::ps,(i',val)::vs,zs,zs',c,hl,hk,hz,h1,hb=>by
  have h0:=hk 0 (by simp)
  simp only[List.getD_cons_zero]at h0
  obtain⟨h0,h0v⟩:=h0
  subst h0
  simp only[bld]at hb
  cases hp:pl i with
  |none=>rw[hp]at hb;cases hb
  |some p=>
   obtain⟨off,size⟩:=p
   rw[hp]at hb
   dsimp only at hb
   cases hc:okc v&&((cl v).length==size&&Nat.ble (off+size) zs.length)with
   |false=>rw[hc]at hb;cases hb
   |true=>
    rw[hc]at hb
    simp only[cond_true]at hb
    simp only[Bool.and_eq_true,beq_iff_eq,Nat.ble_eq]at hc
    obtain⟨hc1,hc2,hc3⟩:=hc
    obtain⟨k1,k2⟩:=cl_vr h0v hc1
    have hlen:=VRs_length k1
    have hzl:=VRs_length hz
    simp only[Array.length_toList]at hlen hzl
    have hf:=fold_set off val.cells.toList 0 c (by simp;omega)
    have hcells:val.cells.zipIdx.foldl (fun cs (p:Value×Nat)=>cs.setIfInBounds (off+p.2) p.1) c=(splice c.toList off val.cells.toList).toArray:=by
     apply Array.ext'
     rw[<-Array.foldl_toList]
     simp only[Array.toList_zipIdx]
     simpa using hf
    have hsz:(splice c.toList off val.cells.toList).length=c.size:=by rw[splice_length (by simp;omega)];simp
    obtain ⟨c', q1, q2, q3, q4⟩ := fill_ok (ps := ps) (vs := vs) (c := (splice c.toList off val.cells.toList).toArray) (by simpa using hl) (fun k hk'=>by
      have:=hk (k+1) (by simpa using hk');simpa using this)
     (by
      simp only[splice]
      have e1:off+val.cells.toList.length=off+size:=by simp;omega
      rw[e1]
      exact VRs_append (VRs_append (VRs_take off hz) k1) (VRs_drop _ hz))
     (fun x hx=>by
      simp only[splice]at hx
      rcases List.mem_append.1 hx with hx|hx
      ·rcases List.mem_append.1 hx with hx|hx
       ·exact h1 x (List.mem_of_mem_take hx)
       ·exact k2 x hx
      ·exact h1 x (List.mem_of_mem_drop hx)) hb
    refine⟨c',?_,q2,q3,by rw[q4];simpa using hsz⟩
    simp only[Instr.fill,hp]
    have hsv:val.cells.size=size:=by omega
    have:(decide (val.cells.size≠size)||decide (off+val.cells.size>c.size))=false:=by
     simp;omega
    rw[this]
    simp only[Bool.false_eq_true,if_false]
    rw[<-q1]
    congr 1
 |[],_::_,_,_,_,hl,_,_,_,_=>by simp at hl
 |_::_,[],_,_,_,hl,_,_,_,_=>by simp at hl
end ops
def blt:List UInt8->List UInt8->Bool:=Op.bytesLess
def bo (op:BinOp) (k:TK) (x y:AV) (H:Hp) (n:Nat):Res:=
 match op,x,y with
 |.add,.int k a,.int k' b=>.need (k=k') (.ok (.int k (k.wrap (a+b))) H n)
 |.sub,.int k a,.int k' b=>.need (k=k') (.ok (.int k (k.wrap (a-b))) H n)
 |.mul,.int k a,.int k' b=>.need (k=k') (.ok (.int k (k.wrap (a*b))) H n)
 |.quo,.int k a,.int k' b=>.need (k=k'/\b≠0) (.ok (.int k (k.wrap (a.tdiv b))) H n)
 |.rem,.int k a,.int k' b=>.need (k=k'/\b≠0) (.ok (.int k (a.tmod b)) H n)
 |.eql,.int k a,.int k' b=>.need (k=k') (.ok (.bool (decide (a=b))) H n)
 |.neq,.int k a,.int k' b=>.need (k=k') (.ok (.bool (!decide (a=b))) H n)
 |.lss,.int k a,.int k' b=>.need (k=k') (.ok (.bool (decide (a<b))) H n)
 |.leq,.int k a,.int k' b=>.need (k=k') (.ok (.bool (decide (a<=b))) H n)
 |.gtr,.int k a,.int k' b=>.need (k=k') (.ok (.bool (decide (b<a))) H n)
 |.geq,.int k a,.int k' b=>.need (k=k') (.ok (.bool (decide (b<=a))) H n)
 |.shl,.int k a,.int _ b=>.need (0<=b) (.ok (.int k (k.wrap (a*2^min b.toNat k.bits))) H n)
 |.shr,.int k a,.int _ b=>.need (0<=b) (.ok (.int k (a.fdiv (2^min b.toNat k.bits))) H n)
 |.xor,.int k a,.int k' b=>.need (k=k') (.ok (.int k (k.wrap (BitVec.ofInt k.bits a^^^BitVec.ofInt k.bits b).toNat)) H n)
 |.and,.int k a,.int k' b=>.need (k=k') (.ok (.int k (k.wrap (BitVec.ofInt k.bits a&&&BitVec.ofInt k.bits b).toNat)) H n)
 |.or,.int k a,.int k' b=>.need (k=k') (.ok (.int k (k.wrap (BitVec.ofInt k.bits a|||BitVec.ofInt k.bits b).toNat)) H n)
 |.add,.str a,.str b=>.need (a.length+b.length<=9223372036854775807) (.ok (.str (a++b)) H n)
 |.eql,.str a,.str b=>.ok (.bool (a==b)) H n
 |.neq,.str a,.str b=>.ok (.bool (!(a==b))) H n
 |.lss,.str a,.str b=>.ok (.bool (blt a b)) H n
 |.geq,.str a,.str b=>.ok (.bool (!blt a b)) H n
 |.gtr,.str a,.str b=>.ok (.bool (!(blt a b||a==b))) H n
 |.leq,.str a,.str b=>.ok (.bool (blt a b||a==b)) H n
 |.eql,.bool a,.bool b=>.need (k=.bool) (.ok (.bool (a==b)) H n)
 |.neq,.bool a,.bool b=>.need (k=.bool) (.ok (.bool (!(a==b))) H n)
 |.eql,.nilp,.nilp=>.need (∃e,k=.ptr e) (.ok (.bool true) H n)
 |.neq,.nilp,.nilp=>.need (∃e,k=.ptr e) (.ok (.bool false) H n)
 |.eql,.ptr _ _,.nilp=>.need (∃e,k=.ptr e) (.ok (.bool false) H n)
 |.neq,.ptr _ _,.nilp=>.need (∃e,k=.ptr e) (.ok (.bool true) H n)
 |.eql,.pat _,.nilp=>.need (∃e,k=.ptr e) (.ok (.bool false) H n)
 |.neq,.pat _,.nilp=>.need (∃e,k=.ptr e) (.ok (.bool true) H n)
 |_,_,_=>.bad
def uo (op:UnOp) (x:AV) (H:Hp) (n:Nat):Res:=
 match op,x with
 |.not,.bool b=>.ok (.bool (!b)) H n
 |.neg,.int k a=>.ok (.int k (k.wrap (0-a))) H n
 |_,_=>.bad
section ops
variable {G:Prg} {X:Nat->Prop} {ρ:Rho} {n N:Nat} {F:Fr} {H:Hp} {a:Act} {w:World}
theorem bl_loop (bs:ByteArray):∀(k i:Nat) (r:List UInt8),bs.size-i=k->ByteArray.toList.loop bs i r=r.reverse++bs.data.toList.drop i:=by
 intro k
 induction k with
 |zero=>
  intro i r h
  rw[ByteArray.toList.loop,if_neg (by omega)]
  have:bs.data.toList.length<=i:=by simp only[Array.length_toList];have:bs.size=bs.data.size:=rfl;omega
  rw[List.drop_eq_nil_of_le this,List.append_nil]
 |succ k ih=>
  intro i r h
  have hlt:i<bs.size:=by omega
  have hlt':i<bs.data.toList.length:=by simpa using hlt
  rw[ByteArray.toList.loop,if_pos hlt,ih (i+1) _ (by omega),List.drop_eq_getElem_cons hlt']
  have:bs.get! i=bs.data.toList[i]:=by
   have h1:bs.get! i=bs.data[i]! :=rfl
   rw[h1,getElem!_pos bs.data i hlt];simp
  rw[this];simp
theorem bl_eq (bs:ByteArray):bs.toList=bs.data.toList:=by
 rw[ByteArray.toList,bl_loop bs _ 0 [] rfl];simp
theorem bstr_list (s:List UInt8):(bstr s).toList=s:=by rw[bl_eq];simp[bstr]
theorem bstr_size (s:List UInt8):(bstr s).size=s.length:=by simp[bstr,ByteArray.size]
theorem bstr_append (s t:List UInt8):bstr s++bstr t=bstr (s++t):=by
 apply ByteArray.ext;apply Array.ext';simp[bstr,ByteArray.data_append]
theorem beq_int (a b:Int):(a==b)=decide (a=b):=by by_cases h:a=b<;>simp[h]
theorem equalIn_bool {t:Nat} (h:(underlying t).run G.P w=.ok .bool w) (d:Nat) (x y:Bool):(Op.equalIn (d+1) t (.bool x) (.bool y)).run G.P w=.ok (x==y) w:=by
 simp only[Op.equalIn,Sem.run_bind,h,Result.andThen_ok,Sem.run_pure]
theorem equalIn_nil {t e:Nat} (h:(underlying t).run G.P w=.ok (.pointer e) w) (d:Nat) (x:Option Addr):(Op.equalIn (d+1) t (.pointer x) (.pointer none)).run G.P w=.ok x.isNone w:=by
 cases x<;>simp only[Op.equalIn,Sem.run_bind,h,Result.andThen_ok,Sem.run_pure,Option.isNone]
theorem maxd:Op.maxDepth=9999+1:=rfl
theorem equal_bool {t:Nat} {i:TI} (ht:G.tf t=some i) (hk:i.k=.bool) (x y:Bool):(Op.equal t (.bool x) (.bool y)).run G.P w=.ok (x==y) w:=by
 obtain⟨d,d1,d2,d9⟩:=run_und (w:=w) ht
 rw[hk]at d2
 cases d<;>simp only[kok]at d2
 rw[Op.equal,maxd];exact equalIn_bool d1 9999 x y
theorem equal_nil {t e:Nat} {i:TI} (ht:G.tf t=some i) (hk:i.k=.ptr e) (x:Option Addr):(Op.equal t (.pointer x) (.pointer none)).run G.P w=.ok x.isNone w:=by
 obtain⟨d,d1,d2,d9⟩:=run_und (w:=w) ht
 rw[hk]at d2
 cases d<;>simp only[kok]at d2
 rw[Op.equal,maxd];exact equalIn_nil d1 9999 x
theorem op_bin {op:BinOp} {t:Nat} {i:TI} {o1 o2:Operand} {x y:AV} {u v:Value} (ht:G.tf t=some i) (hf:Fresh ρ n) (hr:HR X ρ w H) (hx:VR ρ w (OX X ρ H) x u) (hy:VR ρ w (OX X ρ H) y v):
  RS G X ρ n H w ((do pure (.value (<-(do eqGuard op t o1 o2 u v;binOp op t u v))):Sem Next).run G.P w) (bo op i.k x y H n):=by
 have hund:=run_und (w:=w) ht
 unfold bo
 split
 all_goals first|exact RS.bad|skip
 all_goals simp only[VR]at hx hy
 all_goals try subst hx
 all_goals try subst hy
 all_goals try (refine RS.need fun hc=>?_)
 all_goals try (obtain⟨hc,hc2⟩:=hc)
 all_goals try subst hc
 all_goals first
  |(refine RS.pure hf hr (val:=.int _ _) ?_ (by simp only[VR];rfl);simp[eqGuard,binOp,Op.intArith,Op.intDiv,Op.intBits, *];done)
  |(refine RS.pure hf hr (val:=.bool _) ?_ (by simp only[VR];rfl);simp[eqGuard,binOp,Op.intCmp,beq_int,bne,Op.stringOp,bstr_list,blt, *];done)
  |(refine RS.pure hf hr (val:=.string _) ?_ (by simp only[VR];rfl);simp[eqGuard,binOp,Op.stringOp,bstr_size,bstr_append,IntKind.max,IntKind.signed,IntKind.bits,hc];done)
  |skip
 case h_12 k a k' b=>exact RS.pure hf hr (val:=.int k (k.wrap (a*2^min b.toNat k.bits))) (by simp[eqGuard,binOp,Op.shift,show ¬(b<(0:Int))from Int.not_lt.2 hc]) (by simp only[VR])
 case h_13 k a k' b=>exact RS.pure hf hr (val:=.int k (a.fdiv (2^min b.toNat k.bits))) (by simp[eqGuard,binOp,Op.shift,show ¬(b<(0:Int))from Int.not_lt.2 hc]) (by simp only[VR])
 case h_17 a b=>
  have:¬(((bstr a).size+(bstr b).size:Nat):Int)>IntKind.i64.max:=by
   rw[bstr_size,bstr_size];simp only[IntKind.max,IntKind.signed,IntKind.bits];omega
  exact RS.pure hf hr (val:=.string (bstr a++bstr b)) (by simp only[eqGuard,binOp,Op.stringOp,this,if_false];rfl) (by simp only[VR,bstr_append])
 case h_24 a b=>exact RS.pure hf hr (val:=.bool (a==b)) (by simp[eqGuard,binOp,equal_bool ht hc]) (by simp only[VR])
 case h_25 a b=>exact RS.pure hf hr (val:=.bool (!(a==b))) (by simp[eqGuard,binOp,equal_bool ht hc]) (by simp only[VR])
 case h_26=>exact RS.pure hf hr (val:=.bool true) (by simp[eqGuard,binOp,equal_nil ht hc2]) (by simp only[VR])
 case h_27=>exact RS.pure hf hr (val:=.bool false) (by simp[eqGuard,binOp,equal_nil ht hc2]) (by simp only[VR])
 case h_28=>obtain⟨_,_,rfl⟩:=hx;exact RS.pure hf hr (val:=.bool false) (by simp[eqGuard,binOp,equal_nil ht hc2]) (by simp only[VR])
 case h_29=>obtain⟨_,_,rfl⟩:=hx;exact RS.pure hf hr (val:=.bool true) (by simp[eqGuard,binOp,equal_nil ht hc2]) (by simp only[VR])
 case h_30=>obtain⟨_,rfl,_⟩:=hx;exact RS.pure hf hr (val:=.bool false) (by simp[eqGuard,binOp,equal_nil ht hc2]) (by simp only[VR])
 case h_31=>obtain⟨_,rfl,_⟩:=hx;exact RS.pure hf hr (val:=.bool true) (by simp[eqGuard,binOp,equal_nil ht hc2]) (by simp only[VR])
end ops
def ints (b:List UInt8):List AV:=b.map fun c=>.int .u8 (c.toNat:Int)
def unu:AV->UInt8|.int _ n=>UInt8.ofNat n.toNat|_=>0
def allu:List AV->Prop|[]=>True|.int .u8 _::l=>allu l|_=>False
section ops
variable {G:Prg} {X:Nat->Prop} {ρ:Rho} {n N:Nat} {F:Fr} {H:Hp} {a:Act} {w:World}
theorem ints_vr (O:Nat->Prop):∀b:List UInt8,VRs ρ w O (ints b) (b.map fun c=>Value.int .u8 (c.toNat:Int))
 |[]=>by simp[ints,VRs]
 |c::b=>by
  have:=ints_vr O b
  simp only[ints,List.map_cons,VRs]at*
  exact⟨by simp only[VR],this⟩
theorem op_s2b {e:Nat} {x:List UInt8} (hf:Fresh ρ n) (hr:HR X ρ w H):
  RS G X ρ n H w ((do pure (.value (<-Conv.stringToBytes e (bstr x))):Sem Next).run G.P w) (.ok (.osl (n+2) 1 0 x.length) ((n+2,ints x)::H) (n+4)):=by
 let w1:World:={w with drawn:=w.drawn+1}
 have hr1:HR X ρ w1 H:=hr.draw _
 obtain⟨nc,hnc,hncge⟩:∃nc,nc=(Question.appendCap x.length 0 e).cut (w.tape w.drawn (.appendCap x.length 0 e))/\x.length<=nc:=⟨_,rfl,by simp[Question.cut]⟩
 let vs:List Value:=x.map fun c=>Value.int .u8 (c.toNat:Int)
 let blk:Array Value:=(vs++List.replicate (nc-x.length) (Value.int .u8 0)).toArray
 have hsz:blk.size=nc:=by simp[blk,vs];omega
 have hrun:((do pure (.value (<-Conv.stringToBytes e (bstr x))):Sem Next).run G.P w)=.ok (.value (.slice (some ⟨w.heap.size,0,none⟩) x.length nc)) (wnew w1 (.cells blk e (blk.size,blk.size+1))):=by
  have hb:(Array.map (fun b:UInt8=>Value.int .u8 (b.toNat:Int)) (bstr x).data++Array.replicate (nc-(bstr x).size) (Value.int .u8 0))=blk:=by
   rw[bstr_size]
   apply Array.ext'
   simp[blk,vs,bstr]
  simp only[Conv.stringToBytes,Sem.run_bind,run_choose,Question.forced,Bool.false_eq_true,if_false,Result.andThen_ok,bstr_size,<-hnc]
  rw[show(Array.map (fun b:UInt8=>Value.int .u8 (b.toNat:Int)) (bstr x).data++Array.replicate (nc-x.length) (Value.int .u8 0))=blk by rw[<-hb,bstr_size]]
  simp only[newRow,Sem.run_bind,run_newObj,Result.andThen_ok,Sem.run_pure,markStringish,run_shape]
  have hsh:World.shape? {heap:=w.heap.push (.cells blk e),tape:=w.tape,drawn:=w.drawn+1,os:=w.os,output:=w.output} w.heap.size=some (e,blk.size):=by
   simp[World.shape?]
  simp only[hsh,run_freeze,Result.andThen_ok,Sem.run_pure]
  congr 1
  simp only[World.freeze,wnew,Nat.one_ne_zero,if_false,w1]
  congr 1
  apply Array.ext_getElem?
  intro k
  rw[Array.getElem?_modify,Array.getElem?_push,Array.getElem?_push]
  by_cases hk:k=w.heap.size
  ·subst hk;simp
  ·have:¬w.heap.size=k:=fun e=>hk e.symm
   simp[hk,this]
 have hnew := hr1.newq (q := n + 2) (c := blk) (e := e) (f := (blk.size, blk.size + 1)) (cs := ints x) hf (.inr rfl) ⟨fun o ho h => by have := h.1; dsimp only at this; omega, .inr (by have := hf.1; omega)⟩ (fun y hy=>by
   have:y∈vs++List.replicate (nc-x.length) (Value.int .u8 0):=by simpa[blk]using hy
   rcases List.mem_append.1 this with hy|hy
   ·obtain⟨c,_,rfl⟩:=List.mem_map.1 hy;rfl
   ·rw [List.mem_replicate] at hy; rw [hy.2]; rfl) (by rw [hsz]; simp [ints]; exact hncge) (by
   have:blk.toList.take (ints x).length=vs:=by
    simp only[blk,ints,List.length_map]
    rw[List.take_append_of_le_length (by simp[vs]),List.take_of_length_le (by simp[vs])]
   rw[this]
   exact ints_vr _ x)
 have hnx1:Nx ρ H w n ρ H w1 n:=⟨fun _ _ h=>h,Nat.le_refl _,⟨rfl,rfl,rfl,Nat.le_refl _,fun _ _ _=>rfl,fun _ cs e f h=>⟨cs,f,h,rfl⟩⟩,fun x hx=>.inl hx⟩
 refine⟨_,_,_,.inl hrun,rput_fresh hf (.inr rfl),hnew.1,?_,hnx1.trans hnew.2⟩
 simp only[VR]
 exact⟨w.heap.size,nc,0,blk,e,(blk.size,blk.size+1),by simp[rput,w1],rfl,hncge,fun _=>rfl,by rw[wnew_heap];simp[w1],by rw[hsz];omega⟩
theorem allu_vals {O:Nat->Prop}:∀{cs:List AV} {vs:List Value},allu cs->VRs ρ w O cs vs->vs=cs.map (fun c=>match c with|.int _ n=>Value.int .u8 n|_=>undef)/\∀k,k<cs.length->∃m,cs.getD k .dead=.int .u8 m
 |[],[],_,_=>⟨rfl,by simp⟩
 |.int .u8 m::cs,v::vs,ha,hv=>by
  simp only[allu,VRs,VR]at ha hv
  obtain⟨h1,h2⟩:=allu_vals ha hv.2
  refine⟨by simp only[List.map_cons];rw[hv.1,<-h1],fun k hk=>?_⟩
  cases k with
  |zero=>exact⟨m,rfl⟩
  |succ k=>simpa using h2 k (by simpa using hk)
theorem push_all:∀(cs:List AV) (s:ByteArray),allu cs->((forIn (cs.map fun c=>match c with|.int _ n=>Value.int .u8 n|_=>undef) s fun c (r:ByteArray)=>(match c with|.int .u8 n=>pure (ForInStep.yield (r.push (UInt8.ofNat n.toNat)))|_=>do stuck "bytesToString: byte expected";pure (ForInStep.yield r):Sem (ForInStep ByteArray))).run G.P w)=.ok ⟨(s.data.toList++cs.map unu).toArray⟩ w
 |[],s,_=>by simp
 |.int .u8 m::cs,s,ha=>by
  simp only[allu]at ha
  simp only[List.map_cons,List.forIn_cons,Sem.run_bind,Sem.run_pure,Result.andThen_ok]
  rw[push_all cs _ ha]
  simp[unu,ByteArray.push]
theorem op_b2s {id o l:Nat} {cs:List AV} {val:Value} (hf:Fresh ρ n) (hr:HR X ρ w H) (hv:VR ρ w (OX X ρ H) (.osl id 1 o l) val) (hg:hgt H id=some cs) (hl:o+l<=cs.length) (ha:allu ((cs.drop o).take l)):
  RS G X ρ n H w ((do pure (.value (<-Conv.bytesToString val)):Sem Next).run G.P w) (.ok (.str (((cs.drop o).take l).map unu)) H n):=by
 simp only[VR]at hv
 obtain⟨b,c,o',cs0,e,f,h1,rfl,h3,h4,h5,h6⟩:=hv
 obtain⟨b',c',e',f',k1,k2,k3,k4,k5,k6⟩:=hr.obj id cs (hgt_mem hg)
 rw[h1]at k1;cases k1
 rw[h5]at k2;cases k2
 have hvs:=VRs_take l (VRs_drop o k6)
 obtain⟨hval,_⟩:=allu_vals ha hvs
 have hlen:((cs.drop o).take l).length=l:=by simp;omega
 have hld:(loadCells ⟨b,o',none⟩ l).run G.P w=.ok (((cs0.toList.take cs.length).drop o).take l).toArray w:=by
  by_cases hl0:l=0
  ·subst hl0
   exact run_loadCells G.P w ⟨b,o',none⟩ [] 0 rfl (by simp)
  ·have:o'=o:=h4 (by omega)
   subst this
   refine run_loadCells G.P w ⟨b,o',none⟩ _ l (by simp;omega) fun k hk=>?_
   have hk':k<l:=by simp at hk;omega
   rw[add_plain]
   simp only[World.cell?,h5]
   have hlt:o'+k<cs0.size:=by omega
   simp[hlt,List.getD,List.getElem?_take,List.getElem?_drop,hk',show o'+k<cs.length by omega]
 refine RS.pure hf hr (val:=.string (bstr (((cs.drop o).take l).map unu))) ?_ (by simp only[VR])
 simp only[Conv.bytesToString,Sem.run_bind,hld,Result.andThen_ok]
 rw[hval,<-Array.forIn_toList]
 have hp:=push_all (G:=G) (w:=w) ((cs.drop o).take l) ByteArray.empty ha
 have e1:ByteArray.empty.data.toList=[]:=rfl
 rw[e1,List.nil_append]at hp
 simp only[List.toList_toArray]
 have hp':=congrArg (fun r:Result ByteArray=>((r.andThen fun a w'=>Sem.run G.P (pure (Value.string a)) w').andThen fun a w'=>Sem.run G.P (pure (Next.value a)) w')) hp
 exact hp'.trans rfl
end ops
def pkv (b:Bool) (x y:AV):AV:=bif b then x else y
def ldr (i:TI) (v:AV) (H:Hp) (n:Nat):Res:=
 match v with
 |.pat cs=>.need (i.size<=cs.length/\0<cs.length) (.ok (ldo i cs 0) H n)
 |.ptr id o=>match hgt H id with
  |some cs=>.need (o+i.size<=cs.length/\o<cs.length) (.ok (ldo i cs o) H n)
  |none=>.bad
 |_=>.bad
def str (i:TI) (a v:AV) (H:Hp) (n:Nat):Res:=
 match a with
 |.ptr id o=>match hgt H id with
  |some cs=>.need (okc v=true/\(cl v).length=i.size/\o+i.size<=cs.length) (.ok .dead (hset H id (cs.take o++cl v++cs.drop (o+i.size))) n)
  |none=>.bad
 |_=>.bad
def sz (G:Prg) (t:Nat):Nat:=match G.tf t with|some i=>i.size|none=>0
def bpl (G:Prg) (l:List (Nat×Nat)) (f:Nat):Option (Nat×Nat):=match l[f]? with|some (off,ft)=>some (off,sz G ft)|none=>none
def okt (G:Prg) (l:List (Nat×Nat)):Bool:=l.all fun p=>(G.tf p.2).isSome
def evs (F:Fr) (xs:List Operand):List AV:=match xs with|[]=>[]|x::xs=>ev F x::evs F xs
def evp (F:Fr) (xs:List (Nat×Operand)):List (Nat×AV):=match xs with|[]=>[]|(i,x)::xs=>(i,ev F x)::evp F xs
def bldr (r:Option (List AV)) (H:Hp) (n:Nat):Res:=match r with|some cs=>.ok (.agg cs) H n|none=>.bad
def blsr (r:Option (List AV)) (s len:Nat) (H:Hp) (n:Nat):Res:=match r with|some cs=>.ok (.osl n s 0 len) ((n,cs)::H) (n+4)|none=>.bad
def zrs (n:Nat) (z:List AV):List AV:=(List.replicate n z).flatten
def ixs (v i:AV) (H:Hp) (n:Nat):Res:=match v,i with
 |.str s,.int _ i=>.need (0<=i/\i<s.length) (.ok (.int .u8 (s.getD i.toNat 0).toNat) H n)
 |_,_=>.bad
def ixa (e:TI) (v i:AV) (H:Hp) (n:Nat):Res:=match i with|.int _ i=>iae e v i H n|_=>.bad
def evo (F:Fr):Option Operand->Option AV|none=>none|some x=>some (ev F x)
def slr (s:Nat) (v:AV) (lo hi:Option AV) (H:Hp) (n:Nat):Res:=match bnd lo 0,bnd hi (avlen v)with
 |some l,some h=>sle s v l h H n
 |_,_=>.bad
def slrs (v:AV) (lo hi:Option AV) (H:Hp) (n:Nat):Res:=match v with|.str s=>slr 1 (.str s) lo hi H n|_=>.bad
def slrl (s:Nat) (v:AV) (lo hi:Option AV) (H:Hp) (n:Nat):Res:=match v with|.sl a b=>slr s (.sl a b) lo hi H n|.osl a b c d=>slr s (.osl a b c d) lo hi H n|_=>.bad
def extr (v:AV) (i:Nat) (H:Hp) (n:Nat):Res:=match v with|.tup vs=>.need (i<vs.length) (.ok (vs.getD i .dead) H n)|_=>.bad
def nck (v:AV) (H:Hp) (n:Nat):Res:=match v with|.ptr i o=>.ok (.ptr i o) H n|.pat c=>.ok (.pat c) H n|.fn (.func f) c=>.ok (.fn (.func f) c) H n|_=>.bad
def lenr (k:TK) (v:AV) (H:Hp) (n:Nat):Res:=match k,v with
 |.str,.str s=>.ok (.int .i64 s.length) H n
 |.slice _,.sl _ es=>.ok (.int .i64 es.length) H n
 |.slice _,.osl _ _ _ l=>.ok (.int .i64 l) H n
 |.slice _,.ocl _ _ _ l _=>.ok (.int .i64 l) H n
 |.slice _,.nils=>.ok (.int .i64 0) H n
 |.array k _,_=>.ok (.int .i64 k) H n
 |_,_=>.bad
def minr (v u:AV) (H:Hp) (n:Nat):Res:=match v,u with
 |.int k x,.int k' y=>.need (k=k') (.ok (.int k (if y<x then y else x)) H n)
 |_,_=>.bad
def maxr (v u:AV) (H:Hp) (n:Nat):Res:=match v,u with
 |.int k x,.int k' y=>.need (k=k') (.ok (.int k (if y>x then y else x)) H n)
 |_,_=>.bad
def srct:TK->Bool|.slice _|.str=>true|_=>false
def app2 (id s l m:Nat) (cs sc:List AV) (j:TI) (H:Hp) (n:Nat):Res:=
 .need (s=j.size/\l*s<=cs.length/\0<j.bytes/\(l+m)*j.bytes<=140737488355328) (.ok (.osl (n+cls id) s 0 (l+m)) ((n+cls id,apd cs (l*s) sc)::hdel H id) (n+4))
def app1 (d:AV) (j:TI) (r:Option (List AV×Nat)) (H:Hp) (n:Nat):Res:=match d,r with
 |.osl id s 0 l,some (sc,m)=>match hgt H id with
  |some cs=>app2 id s l m cs sc j H n
  |none=>.bad
 |.nils,some (sc,m)=>.need (0<m/\0<j.bytes/\m*j.bytes<=140737488355328) (.ok (.osl n j.size 0 m) ((n,sc)::H) (n+4))
 |_,_=>.bad
def appr (d v:AV) (k2:TK) (j:TI) (H:Hp) (n:Nat):Res:=bif srct k2 then .need (srcn H j.size v) (app1 d j (srcc H j.size v) H n)else .bad
def unc:AV->AV
 |.ocl i s o l _=>.osl i s o l
 |v=>v
def spl (cs:List AV) (o:Nat) (sc:List AV):List AV:=cs.take o++sc++cs.drop (o+sc.length)
def slc2 (s id s' o len c:Nat) (lo hi:Int) (H:Hp) (n:Nat):Res:=
 .need (s'=s/\0<=lo/\lo<=hi/\hi<=c) (.ok (.ocl id s' (o+lo.toNat*s') (hi.toNat-lo.toNat) (c-lo.toNat)) H n)
def slc3 (s:Nat) (v:AV) (lo hi mx:Option AV) (H:Hp) (n:Nat):Res:=match v,lo,hi,mx with
 |.ocl id s' o _ c,some (.int _ lo),some (.int _ hi),some (.int _ mx)=>.need (s'=s/\0<=lo/\lo<=hi/\hi<=mx/\mx<=c) (.ok (.ocl id s' (o+lo.toNat*s') (hi.toNat-lo.toNat) (mx.toNat-lo.toNat)) H n)
 |_,_,_,_=>.bad
def capr (k:TK) (v:AV) (H:Hp) (n:Nat):Res:=match k,v with
 |.slice _,.ocl _ _ _ _ c=>.ok (.int .i64 c) H n
 |_,_=>.bad
def cpr (d v:AV) (k2:TK) (j:TI) (H:Hp) (n:Nat):Res:=bif srct2 k2 then .need (srcn H j.size (unc v)) (cp1 (unc d) j (srcc H j.size (unc v)) H n)else .bad
where
 srct2:TK->Bool|.slice _|.str=>true|_=>false
 cp1 (d:AV) (j:TI) (r:Option (List AV×Nat)) (H:Hp) (n:Nat):Res:=match d,r with
 |.osl id s o l,some (sc,m)=>match hgt H id with
  |some cs=>.need (s=j.size/\o+min m l*s<=cs.length) (.ok (.int .i64 ((min m l:Nat):Int)) (hset H id (spl cs o (sc.take (min m l*s)))) n)
  |none=>.bad
 |_,_=>.bad
def clrr (k:TK) (v:AV) (j:TI) (H:Hp) (n:Nat):Res:=match v with
 |.ocl id s o l _=>match hgt H id with
  |some cs=>.need (s=j.size/\o+l*s<=cs.length) (.ok (.tup []) (hset H id (spl cs o (zrs l j.zero))) n)
  |none=>.bad
 |_=>.bad
def apc (id s l c m:Nat) (cs sc:List AV) (j:TI) (H:Hp) (n:Nat):Res:=
 .need (s=j.size/\l+m<=c/\(l+m)*s<=cs.length) (.ok (.ocl id s 0 (l+m) c) (hset H id (spl cs (l*s) sc)) n)
def apz (id s l c:Nat) (k:Int) (cs:List AV) (j:TI) (H:Hp) (n:Nat):Res:=
 .need (s=j.size/\0<=k/\k<=1099511627776/\c<l+k.toNat/\l*s<=cs.length/\0<j.bytes/\(l+k.toNat)*j.bytes<=140737488355328)
  (.ok (.osl n s 0 (l+k.toNat)) ((n,cs.take (l*s)++zrs k.toNat j.zero)::H) (n+4))
def apcr (d v:AV) (k2:TK) (j:TI) (H:Hp) (n:Nat):Res:=match d with
 |.ocl id s 0 l c=>match k2,v with
  |.int .i64,.int .i64 k=>match hgt H id with
   |some cs=>apz id s l c k cs j H n
   |none=>.bad
  | _, _ => bif srct k2 then .need (srcn H j.size (unc v)) (match srcc H j.size (unc v),hgt H id with
   |some (sc,m),some cs=>apc id s l c m cs sc j H n
   |_,_=>.bad)else .bad
 |_=>appr d v k2 j H n
def bty (j:TI):Prop:=j.size=1/\j.bytes=1/\j.agg=false/\j.zero=[.int .u8 0]
def apt (e:Nat) (d v:AV) (k2:TK) (j:TI) (H:Hp) (n:Nat):Res:=match d,v,k2 with
 |.tsl id e' l,.str s,.str=>match hgt H id with
  |some cs=>.need (e'=e/\id%4=0/\bty j/\l<=cs.length/\l+s.length<=140737488355328) (.ok (.tsl n e (l+s.length)) ((n,apd cs l (ints s))::hdel H id) (n+4))
  |none=>.bad
 |.nils,.str s,.str=>.need (bty j/\0<s.length/\s.length<=140737488355328) (.ok (.tsl n e s.length) ((n,ints s)::H) (n+4))
 |_,_,_=>apcr d v k2 j H n
def slcl (s:Nat) (v:AV) (lo hi:Option AV) (H:Hp) (n:Nat):Res:=match v with
 |.ocl id s' o l c=>match bnd lo 0,bnd hi l with
  |some lo,some hi=>slc2 s id s' o l c lo hi H n
  |_,_=>.bad
 |.nils=>slnil lo hi H n
 |_=>slrl s v lo hi H n
def bir (G:Prg) (b:Builtin) (ts:List Nat) (vs:List AV) (H:Hp) (n:Nat):Res:=match b,ts,vs with
 |.len,[t],[v]=>match G.tf t with|some i=>lenr i.k v H n|none=>.bad
 |.min,[_,_],[v,u]=>minr v u H n
 |.max,[_,_],[v,u]=>maxr v u H n
 |.append,[t,t2],[v,u]=>match G.tf t,G.tf t2 with
  |some i,some i2=>match i.k with
   |.slice e=>match G.tf e with|some j=>apt e v u i2.k j H n|none=>.bad
   |_=>.bad
  |_,_=>.bad
 |.cap,[t],[v]=>match G.tf t with|some i=>capr i.k v H n|none=>.bad
 |.copy,[t,t2],[v,u]=>match G.tf t,G.tf t2 with
  |some i,some i2=>match i.k with
   |.slice e=>match G.tf e with|some j=>cpr v u i2.k j H n|none=>.bad
   |_=>.bad
  |_,_=>.bad
 |.clear,[t],[v]=>match G.tf t with
  |some i=>match i.k with
   |.slice e=>match G.tf e with|some j=>clrr i.k v j H n|none=>.bad
   |_=>.bad
  |none=>.bad
 |_,_,_=>.bad
def calr (f:AV) (vs:List AV):Res:=match f with|.fn (.func g) cs=>.call g (vs++cs)|_=>.bad
def cvr (ks kd es ed:TK) (v:AV) (H:Hp) (n:Nat):Res:=match ks,kd,v with
 |.int _,.int k,.int _ x=>.ok (.int k (k.wrap x)) H n
 |.str,.str,.str x=>.ok (.str x) H n
 |.str,.slice _,.str x=>match ed with
  |.int .u8=>.ok (.osl (n+2) 1 0 x.length) ((n+2,ints x)::H) (n+4)
  |_=>.bad
 |.slice _,.str,.osl id s o l=>match es,hgt H id with
  |.int .u8,some cs=>.need (s=1/\o+l<=cs.length/\allu ((cs.drop o).take l)) (.ok (.str (((cs.drop o).take l).map unu)) H n)
  |_,_=>.bad
 |.slice _,.str,.nils=>match es with
  |.int .u8=>.ok (.str []) H n
  |_=>.bad
 |_,_,_=>.bad
def mksr (v u:AV) (j:TI) (H:Hp) (n:Nat):Res:=match v,u with
 |.int .i64 k,.int .i64 c=>.need (c=k/\0<=k/\k.toNat*j.bytes<=140737488355328/\k<=140737488355328) (.ok (.osl n j.size 0 k.toNat) ((n,zrs k.toNat j.zero)::H) (n+4))
 |_,_=>.bad
def elk (G:Prg) (k:TK):TK:=match k with|.slice e=>(match G.tf e with|some j=>j.k|none=>.other)|_=>.other
def eo (G:Prg) (op:Op) (F:Fr) (H:Hp) (n:Nat):Res:=match op with
 |.move x=>.ok (ev F x) H n
 |.assign x=>.ok (ev F x) H n
 |.pick c a b=>match ev F c with|.bool t=>.ok (pkv t (ev F a) (ev F b)) H n|_=>.bad
 |.alloc t=>match G.tf t with|some i=>.ok (.ptr n 0) ((n,i.zero)::H) (n+4)|none=>.bad
 |.box t x=>bif okc (ev F x)then .ok (bxp t n (cl (ev F x))) ((n,cl (ev F x))::H) (n+4)else .bad
 |.build t ps=>match G.tf t with
  |some i=>match i.k with
   |.struct l=>bif okt G l then bldr (bld (bpl G l) i.zero (evp F ps.toList)) H n else .bad
   |_=>.bad
  |none=>.bad
 |.buildSlice t len ps=>match G.tf t with
  |some i=>match i.k with
   |.slice e=>match G.tf e with
    |some j=>.need (len*j.size<=16777216) (blsr (bld (fun i=>some (i*j.size,j.size)) (zrs len j.zero) (evp F ps.toList)) j.size len H n)
    |none=>.bad
   |_=>.bad
  |none=>.bad
 |.load t x=>match G.tf t with|some i=>ldr i (ev F x) H n|none=>.bad
 |.store t a x=>match G.tf t with|some i=>str i (ev F a) (ev F x) H n|none=>.bad
 |.nilCheck x=>nck (ev F x) H n
 |.binOp op t x y _=>match G.tf t with|some i=>bo op i.k (ev F x) (ev F y) H n|none=>.bad
 |.unOp op _ x=>uo op (ev F x) H n
 |.convert s d x=>match G.tf s,G.tf d with|some i,some j=>cvr i.k j.k (elk G i.k) (elk G j.k) (ev F x) H n|_,_=>.bad
 |.makeFunc f first caps=>bif first.toList.isEmpty then .ok (.fn f (evs F caps.toList)) H n else .bad
 |.slice t x lo hi none=>match G.tf t with
  |some i=>match i.k with
   |.str=>slrs (ev F x) (evo F lo) (evo F hi) H n
   |.slice e=>match G.tf e with|some j=>slcl j.size (ev F x) (evo F lo) (evo F hi) H n|none=>.bad
   |_=>.bad
  |none=>.bad
 |.slice t x lo hi (some mx)=>match G.tf t with
  |some i=>match i.k with
   |.slice e=>match G.tf e with|some j=>slc3 j.size (ev F x) (evo F lo) (evo F hi) (some (ev F mx)) H n|none=>.bad
   |_=>.bad
  |none=>.bad
 |.fieldAddr s x f=>match G.tf s with
  |some i=>match i.k with
   |.struct l=>match l[f]? with
    |some (off,ft)=>match G.tf ft with|some j=>fae l f (ev F x) j H n|none=>.bad
    |none=>.bad
   |_=>.bad
  |none=>.bad
 |.field s x f=>match G.tf s with
  |some i=>match i.k with
   |.struct l=>match l[f]? with
    |some (off,ft)=>match G.tf ft with
     |some j=>match ev F x with
      |.agg cs=>.need (off+j.size<=cs.length/\off<cs.length) (.ok (ldo j cs off) H n)
      |_=>.bad
     |none=>.bad
    |none=>.bad
   |_=>.bad
  |none=>.bad
 |.indexAddr t x ix=>match G.tf t with
  |some i=>match i.k with
   |.slice e=>match G.tf e with|some j=>ixa j (ev F x) (ev F ix) H n|none=>.bad
   |_=>.bad
  |none=>.bad
 |.makeSlice t x y=>match G.tf t with
  |some i=>match i.k with
   |.slice e=>match G.tf e with|some j=>mksr (ev F x) (ev F y) j H n|none=>.bad
   |_=>.bad
  |none=>.bad
 |.index t x ix=>match G.tf t with
  |some i=>match i.k with
   |.str=>ixs (ev F x) (ev F ix) H n
   |_=>.bad
  |none=>.bad
 |.extract x i=>extr (ev F x) i H n
 |.call c=>match c.callee with
  |.builtin b=>bir G b c.argTypes.toList (evs F c.args.toList) H n
  |.value f=>calr (ev F f) (evs F c.args.toList)
  |.invoke _ _=>.bad
 |_=>.bad
section ops
variable {G:Prg} {X:Nat->Prop} {ρ:Rho} {n N:Nat} {F:Fr} {H:Hp} {a:Act} {w:World}
theorem evs_vr (hs:S X N ρ n F H a w):∀xs:List Operand,VRs ρ w (OX X ρ H) (evs F xs) (xs.map a.eval)
 |[]=>by simp[evs,VRs]
 |x::xs=>by simp only[evs,List.map_cons,VRs];exact⟨ev_vr hs x,evs_vr hs xs⟩
theorem evp_len:∀xs:List (Nat×Operand),(evp F xs).length=xs.length
 |[]=>rfl
 |(i,x)::xs=>by simp[evp,evp_len xs]
theorem evp_vr (hs:S X N ρ n F H a w):∀(xs:List (Nat×Operand)) (k:Nat),k<(evp F xs).length->((evp F xs).getD k default).1=((xs.map fun p=>(p.1,a.eval p.2)).getD k default).1/\VR ρ w (OX X ρ H) ((evp F xs).getD k default).2 ((xs.map fun p=>(p.1,a.eval p.2)).getD k default).2
 |[],k,h=>by simp[evp]at h
 |(i,x)::xs,0,_=>by simp only[evp,List.map_cons,List.getD_cons_zero];exact⟨trivial,ev_vr hs x⟩
 |(i,x)::xs,k+1,h=>by
  simp only[evp,List.length_cons]at h
  simpa[evp]using evp_vr hs xs k (by omega)
theorem ldr_ok {t:Nat} {i:TI} {v:AV} {val:Value} (ht:G.tf t=some i) (hf:Fresh ρ n) (hr:HR X ρ w H) (hv:VR ρ w (OX X ρ H) v val):
  RS G X ρ n H w ((do pure (.value (<-Instr.loadAt t val)):Sem Next).run G.P w) (ldr i v H n):=by
 unfold ldr
 cases v with
 |pat cs=>exact RS.need fun⟨h1,h2⟩=>load_pat ht hf hr hv h1 (.inr h2)
 |ptr id o=>
  dsimp only
  cases hg:hgt H id with
  |none=>exact RS.bad
  |some cs=>exact RS.need fun⟨h1,h2⟩=>load_ptr ht hf hr hv hg h1 h2
 |_=>exact RS.bad
theorem str_ok {t:Nat} {i:TI} {v ad:AV} {val aval:Value} (ht:G.tf t=some i) (hf:Fresh ρ n) (hr:HR X ρ w H) (ha:VR ρ w (OX X ρ H) ad aval) (hv:VR ρ w (OX X ρ H) v val):
  RS G X ρ n H w ((do Instr.storeAt t aval val;pure .skip:Sem Next).run G.P w) (str i ad v H n):=by
 unfold str
 cases ad with
 |ptr id o=>
  dsimp only
  cases hg:hgt H id with
  |none=>exact RS.bad
  |some cs=>exact RS.need fun⟨h1,h2,h3⟩=>store_ptr ht hf hr ha hv h1 hg h2 h3
 |_=>exact RS.bad
theorem op_build {t:Nat} {i:TI} {l:List (Nat×Nat)} {ps:Array (Nat×Operand)} (ht:G.tf t=some i) (hk:i.k=.struct l) (hok:okt G l=true) (hs:S X N ρ n F H a w):
  RS G X ρ n H w ((do pure (.value (<-Instr.build t (ps.map fun(i,x)=>(i,a.eval x)))):Sem Next).run G.P w) (bldr (bld (bpl G l) i.zero (evp F ps.toList)) H n):=by
 obtain⟨z,hz,h1,h2,h3,h4,h5⟩:=run_zero (w:=w) ht
 obtain⟨d,d1,d2,d9⟩:=run_und (w:=w) ht
 rw[hk]at d2
 cases d<;>simp only[kok]at d2
 clear d9
 rename_i fs
 cases hb:bld (bpl G l) i.zero (evp F ps.toList)with
 |none=>exact RS.bad
 |some cs=>
  have hplaces:(fs.mapM (m:=Sem) fun f=>do pure (f.offset,<-sizeOf f.type)).run G.P w=.ok ((fs.toList.map fun f=>(f.offset,sz G f.type)).toArray) w:=by
   have key:∀(l':List Field),(∀f,f∈l'->(G.tf f.type).isSome=true)->∀w,(l'.mapM (m:=Sem) fun f=>do pure (f.offset,<-sizeOf f.type)).run G.P w=.ok (l'.map fun f=>(f.offset,sz G f.type)) w:=by
    intro l'
    induction l' with
    |nil=>intro _ w;simp
    |cons f l' ih=>
     intro hall w
     have hf:=hall f (by simp)
     cases hj:G.tf f.type with
     |none=>rw[hj]at hf;cases hf
     |some j=>
      simp only[List.mapM_cons,Sem.run_bind,run_sizeOf hj,Result.andThen_ok,Sem.run_pure]
      rw[ih (fun g hg=>hall g (by simp[hg])) w]
      simp[sz,hj]
   rw[Array.mapM_eq_mapM_toList]
   simp only[Sem.run_map]
   rw [key fs.toList (fun f hf=>by
    simp only[okt,List.all_eq_true]at hok
    have:=hok (f.offset,f.type) (by rw[<-d2];exact List.mem_map.2 ⟨f,hf,rfl⟩)
    exact this)]
   rfl
  have hpl:(fun i=>((fs.toList.map fun f=>(f.offset,sz G f.type)).toArray)[i]?)=bpl G l:=by
   funext k
   unfold bpl
   rw[<-d2,List.getElem?_map]
   simp only[List.getElem?_toArray,List.getElem?_map]
   cases fs.toList[k]?<;>rfl
  obtain⟨c',q1,q2,q3,q4⟩:=fill_ok (O:=OX X ρ H) (vs:=(ps.toList.map fun p=>(p.1,a.eval p.2))) (c:=z.cells) (by rw[evp_len];simp) (evp_vr hs ps.toList) (h4 ρ w _) h5 hb
  refine RS.pure hs.fresh hs.hr (val:=.agg c') ?_ (by simp only[VR];exact⟨c',rfl,q3,q2⟩)
  simp only[Instr.build,Sem.run_bind,hz,Result.andThen_ok,d1,hplaces]
  rw[hpl]
  have:(ps.map fun(i,x)=>(i,a.eval x)).toList=ps.toList.map fun p=>(p.1,a.eval p.2):=by simp
  rw[this,q1]
  rfl
theorem zrs_vr {O:Nat->Prop} {z:List AV} {vs:List Value} (h:VRs ρ w O z vs):∀k,VRs ρ w O (zrs k z) (List.replicate k vs).flatten
 |0=>by simp[zrs,VRs]
 |k+1=>by
  have:=zrs_vr h k
  simp only[zrs]at this⊢
  simp only[List.replicate_succ,List.flatten_cons]
  exact VRs_append h this
theorem zeros_eq (z:Array Value) (k:Nat):((Array.range (k*z.size)).map (fun i=>z[i%z.size]!)).toList=(List.replicate k z.toList).flatten:=by
 induction k with
 |zero=>simp
 |succ k ih=>
  rw[List.replicate_succ',List.flatten_append,<-ih]
  simp only[Array.toList_map,Array.toList_range,Nat.add_mul,Nat.one_mul,List.range_add,List.map_append,List.map_map]
  congr 1
  simp only[List.flatten_cons,List.flatten_nil,List.append_nil]
  apply List.ext_getElem
  ·simp
  ·intro i h1 h2
   simp only[List.length_map,List.length_range]at h1
   simp only[List.getElem_map,List.getElem_range,Function.comp]
   rw[Nat.mul_add_mod_self_right,Nat.mod_eq_of_lt h1,getElem!_pos z i h1];simp
theorem op_buildSlice {t e len:Nat} {i j:TI} {ps:Array (Nat×Operand)} (ht:G.tf t=some i) (hk:i.k=.slice e) (hj:G.tf e=some j) (hsz:len*j.size<=16777216) (hs:S X N ρ n F H a w):
  RS G X ρ n H w ((do pure (.value (<-Instr.buildSlice t len (ps.map fun(i,x)=>(i,a.eval x)))):Sem Next).run G.P w) (blsr (bld (fun i=>some (i*j.size,j.size)) (zrs len j.zero) (evp F ps.toList)) j.size len H n):=by
 obtain⟨z,hz,h1,h2,h3,h4,h5⟩:=run_zero (w:=w) hj
 obtain⟨d,d1,d2,d9⟩:=run_und (w:=w) ht
 rw[hk]at d2
 cases d<;>simp only[kok]at d2
 have d3:=d2.symm
 subst d3
 cases hb:bld (fun i=>some (i*j.size,j.size)) (zrs len j.zero) (evp F ps.toList)with
 |none=>exact RS.bad
 |some cs=>
  let zc:Array Value:=(Array.range (len*j.size)).map (fun i=>z.cells[i%z.cells.size]!)
  have hzc:zc.toList=(List.replicate len z.cells.toList).flatten:=by
   show((Array.range (len*j.size)).map (fun i=>z.cells[i%z.cells.size]!)).toList=_
   rw[<-h2];exact zeros_eq _ _
  have hone:∀x,x∈zc.toList->one x=true:=by
   intro x hx
   rw[hzc]at hx
   obtain⟨l,hl,hx⟩:=List.mem_flatten.1 hx
   rw[List.eq_of_mem_replicate hl]at hx
   exact h5 x hx
  obtain⟨c',q1,q2,q3,q4⟩:=fill_ok (O:=OX X ρ H) (vs:=(ps.toList.map fun p=>(p.1,a.eval p.2))) (c:=zc) (by rw[evp_len];simp) (evp_vr hs ps.toList) (by rw[hzc];exact zrs_vr (h4 ρ w _) len) hone hb
  obtain⟨k1,k2,k3⟩:=new_var (e:=e) hs.fresh hs.hr q3 q2
  have hc's:c'.size=len*j.size:=by rw[q4];simp[zc]
  refine⟨.slice (some ⟨w.heap.size,0,none⟩) len len,_,_,.inl ?_,k1,k2,?_,k3⟩
  ·have hnb:¬(len*j.size>2^24):=by omega
   have hps:(ps.map fun(i,x)=>(i,a.eval x)).toList=ps.toList.map fun p=>(p.1,a.eval p.2):=by simp
   simp only[Instr.buildSlice,Sem.run_bind,d1,Result.andThen_ok,run_sizeOf hj,hnb,if_false]
   by_cases h0:len*j.size=0
   ·have hz0:(Array.range (len*j.size)).map (fun x=>(#[]:Array Value)[x%(#[]:Array Value).size]!)=zc:=by
     simp[zc,h0]
    rw[if_pos h0]
    simp only[Sem.run_bind,Sem.run_pure,Result.andThen_ok,hz0,hps,q1,newRow,run_newObj]
    rfl
   ·have hz0:(Array.range (len*j.size)).map (fun x=>z.cells[x%z.cells.size]!)=zc:=rfl
    rw[if_neg h0]
    simp only[Sem.run_bind,Sem.run_pure,Result.andThen_ok,hz,hz0,hps,q1,newRow,run_newObj]
    rfl
  ·simp only[VR]
   exact⟨w.heap.size,len,0,c',e,(0,0),by simp[rput],rfl,Nat.le_refl _,fun _=>rfl,by rw[wnew_heap,if_pos rfl],by rw[hc's];omega⟩
theorem op_makeSlice {t e:Nat} {i j:TI} {v u:AV} {x y:Value} (ht:G.tf t=some i) (hk:i.k=.slice e) (hj:G.tf e=some j) (hf:Fresh ρ n) (hr:HR X ρ w H) (hx:VR ρ w (OX X ρ H) v x) (hy:VR ρ w (OX X ρ H) u y):
  RS G X ρ n H w ((do pure (.value (<-Instr.makeSlice t x y)):Sem Next).run G.P w) (mksr v u j H n):=by
 unfold mksr
 split
 ·rename_i k c
  refine RS.need fun hn=>?_
  obtain⟨rfl,h0,hb,hk3⟩:=hn
  simp only[VR]at hx hy
  subst hx hy
  obtain⟨m,rfl⟩:∃m:Nat,c=(m:Int):=⟨c.toNat,by omega⟩
  rw[Int.toNat_natCast]at hb⊢
  obtain⟨z,hz,h1,h2,h3,h4,h5⟩:=run_zero (w:=w) hj
  obtain⟨d,d1,d2,d9⟩:=run_und (w:=w) ht
  rw[hk]at d2
  cases d<;>simp only[kok]at d2
  have d3:=d2.symm
  subst d3
  obtain⟨fi,f1,f2,f3,_⟩:=run_info (w:=w) hj
  let zc:Array Value:=(Array.range (m*j.size)).map (fun i=>z.cells[i%z.cells.size]!)
  have hzc:zc.toList=(List.replicate m z.cells.toList).flatten:=by
   show((Array.range (m*j.size)).map (fun i=>z.cells[i%z.cells.size]!)).toList=_
   rw[<-h2];exact zeros_eq _ _
  have hone:∀x,x∈zc.toList->one x=true:=by
   intro x hx
   rw[hzc]at hx
   obtain⟨l,hl,hx⟩:=List.mem_flatten.1 hx
   rw[List.eq_of_mem_replicate hl]at hx
   exact h5 x hx
  obtain⟨k1,k2,k3⟩:=new_var (e:=e) (cs:=zrs m j.zero) hf hr hone (by rw[hzc];exact zrs_vr (h4 ρ w _) m)
  refine⟨.slice (some ⟨w.heap.size,0,none⟩) m m,_,_,.inl ?_,k1,k2,?_,k3⟩
  ·have hwr:IntKind.i64.wrap (m:Int)=(m:Int):=by
    unfold IntKind.wrap
    have e1:(2^IntKind.i64.bits:Int)=18446744073709551616:=by decide
    have e2:(2^(IntKind.i64.bits-1):Int)=9223372036854775808:=by decide
    simp only[e1,e2,IntKind.signed,Bool.true_and,decide_eq_true_eq]
    split<;>omega
   have hai:∀w,(asInt (.int .i64 (m:Int))).run G.P w=.ok (m:Int) w:=fun w=>rfl
   have hnb:¬((fi.bytes:Int)*(m:Int)>2^48):=by
    rw[f3]
    have h2:(j.bytes:Int)*(m:Int)=((m*j.bytes:Nat):Int):=by simp[Int.mul_comm]
    rw[h2];omega
   have ht:(decide ((m:Int)<0)||decide ((fi.bytes:Int)*(m:Int)>2^48))=false:=by simp only[hnb,decide_false,Bool.or_false,decide_eq_false_iff_not];omega
   have hbm:m*fi.bytes=m*fi.bytes:=rfl
   simp only[Instr.makeSlice,Sem.run_bind,d1,Result.andThen_ok,hai,f1,hwr,ht,show decide ((m:Int)<0)=false from decide_eq_false (by omega),show decide ((m:Int)>(m:Int))=false from decide_eq_false (by omega),Bool.or_self,Bool.false_eq_true,if_false,run_askRoom,run_sizeOf hj,Int.toNat_natCast]
   simp only[hnb,decide_false,Bool.or_self,Bool.false_eq_true,if_false,Sem.run_bind,run_askRoom,Result.andThen_ok,run_sizeOf hj]
   by_cases h0:m*j.size=0
   ·have hz0:(Array.range (m*j.size)).map (fun x=>(#[]:Array Value)[x%(#[]:Array Value).size]!)=zc:=by
     simp[zc,h0]
    rw[if_pos h0]
    simp only[Sem.run_bind,Sem.run_pure,Result.andThen_ok,hz0,newRow,run_newObj]
    rfl
   ·have hz0:(Array.range (m*j.size)).map (fun x=>z.cells[x%z.cells.size]!)=zc:=rfl
    rw[if_neg h0]
    simp only[Sem.run_bind,Sem.run_pure,Result.andThen_ok,hz,hz0,newRow,run_newObj]
    rfl
  ·simp only[VR]
   exact⟨w.heap.size,m,0,zc,e,(0,0),by simp[rput],rfl,Nat.le_refl _,fun _=>rfl,by rw[wnew_heap,if_pos rfl],by simp[zc]⟩
 ·exact RS.bad
end ops
section ops
variable {G:Prg} {X:Nat->Prop} {ρ:Rho} {n N:Nat} {F:Fr} {H:Hp} {a:Act} {w:World}
theorem unc_vr {O:Nat->Prop} {v:AV} {val:Value} (h:VR ρ w O v val):VR ρ w O (unc v) val:=by
 cases v<;>try exact h
 simp only[unc,VR]at h⊢
 obtain⟨b,o',cs,e,f,h1,h2,h3,h4,h5,h6⟩:=h
 exact⟨b,_,o',cs,e,f,h1,h2,h3,h4,h5,h6⟩
theorem put_cells {id o b:Nat} {cs sc:List AV} {c:Array Value} {e:TypeId} {f:Nat×Nat} {vs:List Value} (hr:HR X ρ w H) (hg:hgt H id=some cs) (hb:ρ id=some b) (hh:w.heap[b]?=some (Obj.cells c e f))
  (h1:VRs ρ w (OX X ρ H) sc vs) (h2:∀x,x∈vs->one x=true) (hl:o+sc.length<=cs.length):
  ∃w',(storeCells ⟨b,o,none⟩ vs 0).run G.P w=.ok () w'/\HR X ρ w' (hset H id (spl cs o sc))/\Nx ρ H w n ρ (hset H id (spl cs o sc)) w' n/\(∃c' e' f',w'.heap[b]?=some (Obj.cells c' e' f')/\c'.size=c.size):=by
 obtain⟨b',c2,e2,f2,k1,k2,k3,k4,k5,k6⟩:=hr.obj id cs (hgt_mem hg)
 rw[hb]at k1;cases k1
 rw[hh]at k2;cases k2
 have hlen:=VRs_length h1
 have hrun:=run_storeCells G.P b e f vs w c o 0 hh k3.1 h2 (by omega)
 simp only[Nat.add_zero]at hrun
 have hspl:(splice c.toList o vs).length=c.size:=by rw[splice_length (by simp;omega)];simp
 have hvals:VRs ρ w (OX X ρ H) (spl cs o sc) ((splice c.toList o vs).take cs.length):=by
  have e1:(splice c.toList o vs).take cs.length=(c.toList.take cs.length).take o++vs++(c.toList.take cs.length).drop (o+sc.length):=by
   apply List.ext_getElem?
   intro k
   rw[List.getElem?_take]
   by_cases hk:k<cs.length
   ·rw[if_pos hk,splice_get (by simp;omega)]
    have e2:((c.toList.take cs.length).take o).length=o:=by simp;omega
    by_cases h3:k<o
    ·rw[if_pos h3,List.append_assoc,List.getElem?_append_left (by omega)];simp[List.getElem?_take,h3,hk]
    ·rw[if_neg h3]
     by_cases h4:k<o+vs.length
     ·rw[if_pos h4,List.append_assoc,List.getElem?_append_right (by omega),e2,List.getElem?_append_left (by omega)]
     ·rw[if_neg h4,List.getElem?_append_right (by simp at h4⊢;omega),List.getElem?_drop,List.getElem?_take]
      have e3:((c.toList.take cs.length).take o++vs).length=o+vs.length:=by rw[List.length_append,e2]
      rw[e3]
      have:o+sc.length+(k-(o+vs.length))=k:=by omega
      rw[this,if_pos hk]
   ·rw[if_neg hk]
    rw[List.getElem?_eq_none]
    simp;omega
  rw[e1]
  exact VRs_append (VRs_append (VRs_take o k6) h1) (VRs_drop _ k6)
 have hsl:(spl cs o sc).length=cs.length:=by simp[spl];omega
 have hput:=hr.put (n:=n) (i:=id) (b:=b) (hgt_ids hg) hb (c':=(splice c.toList o vs).toArray) (cs:=spl cs o sc) hh (by simp[hspl])
  ⟨fun o' ho'=>k3.1 o' (by simpa[hspl]using ho'),k3.2⟩
  (fun x hx=>by
   simp only[splice]at hx
   rcases List.mem_append.1 hx with hx|hx
   ·rcases List.mem_append.1 hx with hx|hx
    ·exact k4 x (List.mem_of_mem_take hx)
    ·exact h2 x hx
   ·exact k4 x (List.mem_of_mem_drop hx))
  (by rw[hsl];simp[hspl];omega) (by rw[hsl];exact hvals)
 have hw:(if vs=[]then w else wput w b (splice c.toList o vs).toArray e f)=wput w b (splice c.toList o vs).toArray e f:=by
  split
  ·rename_i he
   rw[he]
   simp only[splice,List.append_nil,List.length_nil,Nat.add_zero,List.take_append_drop,Array.toArray_toList]
   have:w.heap.setIfInBounds b (.cells c e f)=w.heap:=by
    apply Array.ext_getElem?
    intro k
    rw[Array.getElem?_setIfInBounds]
    by_cases hk:b=k
    ·subst hk;rw[hh];simp[(Array.getElem?_eq_some_iff.1 hh).1]
    ·simp[hk]
   unfold wput
   rw[this]
  ·rfl
 rw[hw]at hrun
 exact⟨_,hrun,hput.1,hput.2,_,e,f,by rw[wput_heap,if_pos ⟨rfl,(Array.getElem?_eq_some_iff.1 hh).1⟩],by simp[hspl]⟩
theorem run_bounds2 {len cap:Nat} {lo hi:Option AV} {vlo vhi:Option Value} {l h:Int} (hlo:bnd lo 0=some l) (hhi:bnd hi len=some h) (v1:∀x,vlo=some x->∃y,lo=some y/\VR ρ w (OX X ρ H) y x) (v2:∀x,vhi=some x->∃y,hi=some y/\VR ρ w (OX X ρ H) y x)
  (n1:vlo=none->lo=none) (n2:vhi=none->hi=none) (h0:0<=l) (h1:l<=h) (h2:h<=cap):
  (Instr.sliceBounds true len cap vlo vhi none).run G.P w=.ok (l.toNat,h.toNat,cap) w:=by
 have hlo':vlo=none/\l=0\/∃k,vlo=some (.int k l):=by
  cases vlo with
  |none=>rw[n1 rfl]at hlo;simp[bnd]at hlo;exact .inl ⟨rfl,hlo.symm⟩
  |some x=>
   obtain⟨y,rfl,hy⟩:=v1 x rfl
   cases y<;>simp[bnd]at hlo
   subst hlo
   simp only[VR]at hy
   exact .inr ⟨_,by rw[hy]⟩
 have hhi':vhi=none/\h=len\/∃k,vhi=some (.int k h):=by
  cases vhi with
  |none=>rw[n2 rfl]at hhi;simp[bnd]at hhi;exact .inl ⟨rfl,hhi.symm⟩
  |some x=>
   obtain⟨y,rfl,hy⟩:=v2 x rfl
   cases y<;>simp[bnd]at hhi
   subst hhi
   simp only[VR]at hy
   exact .inr ⟨_,by rw[hy]⟩
 rcases hlo' with ⟨rfl,rfl⟩|⟨k,rfl⟩<;>rcases hhi' with ⟨rfl,rfl⟩|⟨k',rfl⟩
 ·simp[Instr.sliceBounds]
 ·simp[Instr.sliceBounds,bound_ok (G:=G) (w:=w) (show 0<=h by omega) (show h<=(cap:Int) by omega)]
 ·simp[Instr.sliceBounds,bound_ok (G:=G) (w:=w) h0 h1]
 ·simp[Instr.sliceBounds,bound_ok (G:=G) (w:=w) (show 0<=h by omega) (show h<=(cap:Int) by omega),bound_ok (G:=G) (w:=w) (y:=h.toNat) h0 (by omega)]
theorem op_slice_ocl {t e id s' o len c:Nat} {i j:TI} {val:Value} {lo hi:Option AV} {vlo vhi:Option Value} {l h:Int} (ht:G.tf t=some i) (hi':i.k=.slice e) (hj:G.tf e=some j) (hf:Fresh ρ n) (hr:HR X ρ w H)
  (hv:VR ρ w (OX X ρ H) (.ocl id s' o len c) val) (hlo:bnd lo 0=some l) (hhi:bnd hi len=some h) (v1:∀x,vlo=some x->∃y,lo=some y/\VR ρ w (OX X ρ H) y x) (v2:∀x,vhi=some x->∃y,hi=some y/\VR ρ w (OX X ρ H) y x)
  (n1:vlo=none->lo=none) (n2:vhi=none->hi=none):
  RS G X ρ n H w ((do pure (.value (<-Instr.sliceAt t val vlo vhi none)):Sem Next).run G.P w) (slc2 j.size id s' o len c l h H n):=by
 obtain⟨d,k1,k2,_⟩:=run_und (w:=w) ht
 rw[hi']at k2
 cases d<;>simp only[kok]at k2
 subst k2
 refine RS.need fun⟨hs,h0,h1,h2⟩=>?_
 simp only[VR]at hv
 obtain⟨b,o',cs,e',f,hb',rfl,hlc,ho,hh,hsz⟩:=hv
 have hb:=run_bounds2 (G:=G) (len:=len) (cap:=c) hlo hhi v1 v2 n1 n2 h0 h1 h2
 refine RS.pure hf hr (val:=.slice (if c=l.toNat then some ⟨b,o',none⟩else some ((⟨b,o',none⟩:Addr).add (l.toNat*j.size))) (h.toNat-l.toNat) (c-l.toNat)) ?_ ?_
 ·simp[Instr.sliceAt,k1,Instr.slice,hb,run_sizeOf hj]
 ·simp only[VR]
  by_cases hcl:c=l.toNat
  ·rw[if_pos hcl]
   exact⟨b,o',cs,e',f,hb',rfl,by omega,fun h'=>by omega,hh,by rw[show c-l.toNat=0 by omega];rw[<-hcl];omega⟩
  ·rw[if_neg hcl,add_plain]
   have ho:=ho (by omega)
   subst ho
   refine⟨b,o'+l.toNat*j.size,cs,e',f,hb',rfl,by omega,fun _=>by rw[hs],hh,?_⟩
   have e1:o'+l.toNat*s'+(c-l.toNat)*s'=o'+c*s':=by
    rw[Nat.add_assoc,<-Nat.add_mul];congr 2;omega
   omega
theorem op_slice3 {t e:Nat} {i j:TI} {v:AV} {val x1 x2 x3:Value} {a1 a2 a3:AV} (ht:G.tf t=some i) (hi':i.k=.slice e) (hj:G.tf e=some j) (hf:Fresh ρ n) (hr:HR X ρ w H)
  (hv:VR ρ w (OX X ρ H) v val) (v1:VR ρ w (OX X ρ H) a1 x1) (v2:VR ρ w (OX X ρ H) a2 x2) (v3:VR ρ w (OX X ρ H) a3 x3):
  RS G X ρ n H w ((do pure (.value (<-Instr.sliceAt t val (some x1) (some x2) (some x3))):Sem Next).run G.P w) (slc3 j.size v (some a1) (some a2) (some a3) H n):=by
 unfold slc3
 split
 ·rename_i id s' o len c k1 lo k2 hi k3 mx e1 e2 e3
  cases e1;cases e2;cases e3
  obtain⟨d,q1,q2,_⟩:=run_und (w:=w) ht
  rw[hi']at q2
  cases d<;>simp only[kok]at q2
  subst q2
  refine RS.need fun⟨hs,h0,h1,h2,h3⟩=>?_
  simp only[VR]at hv v1 v2 v3
  subst v1;subst v2;subst v3
  obtain⟨b,o',cs,e',f,hb',rfl,hlc,ho,hh,hsz⟩:=hv
  have b1:=bound_ok (G:=G) (w:=w) (k:=k3) (i:=mx) (y:=c) (code:=.slice3Acap) (by omega) (by omega)
  have b2:=bound_ok (G:=G) (w:=w) (k:=k2) (i:=hi) (y:=mx.toNat) (code:=.slice3B) (by omega) (by omega)
  have b3:=bound_ok (G:=G) (w:=w) (k:=k1) (i:=lo) (y:=hi.toNat) (code:=.slice3C) (by omega) (by omega)
  refine RS.pure hf hr (val:=.slice (if mx.toNat=lo.toNat then some ⟨b,o',none⟩else some ((⟨b,o',none⟩:Addr).add (lo.toNat*j.size))) (hi.toNat-lo.toNat) (mx.toNat-lo.toNat)) ?_ ?_
  ·simp[Instr.sliceAt,q1,Instr.slice,Instr.sliceBounds,b1,b2,b3,run_sizeOf hj]
  ·simp only[VR]
   have hm:(lo.toNat+(mx.toNat-lo.toNat))*s'<=c*s':=Nat.mul_le_mul_right _ (by omega)
   rw[Nat.add_mul]at hm
   by_cases hcl:mx.toNat=lo.toNat
   ·rw[if_pos hcl]
    exact⟨b,o',cs,e',f,hb',rfl,by omega,fun h'=>by omega,hh,by omega⟩
   ·rw[if_neg hcl,add_plain]
    have ho:=ho (by omega)
    subst ho
    exact⟨b,o'+lo.toNat*j.size,cs,e',f,hb',rfl,by omega,fun _=>by rw[hs],hh,by omega⟩
 ·exact RS.bad
theorem capr_ok {t:Nat} {i:TI} {v:AV} {val:Value} {ty:TypeId} (ht:G.tf t=some i) (hf:Fresh ρ n) (hr:HR X ρ w H) (hv:VR ρ w (OX X ρ H) v val):
  RS G X ρ n H w ((do pure (.value (<-Builtin.cap_ #[t] ty #[val])):Sem Next).run G.P w) (capr i.k v H n):=by
 obtain⟨d,d1,d2,d9⟩:=run_und (w:=w) ht
 unfold capr
 split
 ·rename_i e id s o l c hk
  rw[hk]at d2;cases d<;>simp only[kok]at d2
  simp only[VR]at hv;obtain⟨b,o',cs,e',f,_,rfl,_⟩:=hv
  exact RS.pure hf hr (val:=.int .i64 c) (by simp[Builtin.cap_,d1,goInt]) (by simp only[VR])
 ·exact RS.bad
theorem firstCells_min {s m k:Nat} {v:AV} {val:Value} {sc:List AV} (hr:HR X ρ w H) (hv:VR ρ w (OX X ρ H) v val) (h:srcc H s v=some (sc,m)) (hn:srcn H s v) (hk:k<=m):
  ∃vs:List Value,(Builtin.firstCells s k val).run G.P w=.ok vs.toArray w/\VRs ρ w (OX X ρ H) (sc.take (k*s)) vs/\(∀x,x∈vs->one x=true)/\vs.length=k*s:=by
 have hkm:k*s<=m*s:=Nat.mul_le_mul_right s hk
 cases v with
 |nils=>
  simp only[srcc,Option.some.injEq,Prod.mk.injEq]at h
  obtain⟨rfl,rfl⟩:=h
  simp only[VR]at hv;subst hv
  obtain rfl:k=0:=by omega
  exact⟨[],by simp[Builtin.firstCells],by simp[VRs],by simp,by simp⟩
 |sl s' es=>
  simp only[srcc]at h
  cases hs:s'==s<;>simp only[hs,cond_true,cond_false]at h
  ·cases h
  simp only[Option.some.injEq,Prod.mk.injEq]at h
  obtain⟨rfl,rfl⟩:=h
  have hs:s'=s:=by simpa using hs
  subst hs
  simp only[VR]at hv
  obtain⟨A,c,rfl,hc,hp⟩:=hv
  by_cases hne:es=[]
  ·subst hne
   obtain rfl:k=0:=by simpa using hk
   refine⟨[],?_,by simp[VRs],by simp,by simp⟩
   cases A<;>simp[Builtin.firstCells,loadCells,loadCellsFrom]
  ·obtain⟨ad,rfl,hO,hb,hp⟩:=hp hne
   obtain⟨k1,k2⟩:=PEs_vals hp
   obtain⟨vs,q1,q2,q3,q4⟩:=PCs_vals k1
   refine⟨vs.take (k*s'),?_,VRs_take _ q3,fun x hx=>q4 x (List.mem_of_mem_take hx),by rw[List.length_take,q1,k2];omega⟩
   simp only[Builtin.firstCells]
   refine run_loadCells G.P w ad _ _ (by rw[List.length_take,q1,k2];omega) (fun i hi=>?_)
   have hi':i<k*s'/\i<vs.length:=by rw[List.length_take]at hi;omega
   have:=q2 i hi'.2
   simp only[Nat.zero_mul,Nat.zero_add]at this
   rw[this]
   congr 1
   simp[List.getD,List.getElem?_take,hi'.1]
 |osl id s' o l=>
  simp only[srcc]at h
  simp only[srcn]at hn
  cases hg:hgt H id with
  |none=>rw[hg]at h;cases h
  |some cs=>
   rw[hg]at h hn
   dsimp only at h hn
   cases hs:s'==s<;>simp only[hs,cond_true,cond_false]at h
   ·cases h
   simp only[Option.some.injEq,Prod.mk.injEq]at h
   obtain⟨rfl,rfl⟩:=h
   have hs:s'=s:=by simpa using hs
   subst hs
   simp only[VR]at hv
   obtain⟨b,c,o',cc,e,f,hb,rfl,hlc,ho,hh,hsz⟩:=hv
   obtain⟨b',c2,e2,f2,k1,k2,k3,k4,k5,k6⟩:=hr.obj id cs (hgt_mem hg)
   rw[hb]at k1;cases k1
   rw[hh]at k2;cases k2
   refine⟨(cc.toList.drop o).take (k*s'),?_,?_,fun x hx=>k4 x (List.mem_of_mem_drop (List.mem_of_mem_take hx)),by simp;omega⟩
   ·simp only[Builtin.firstCells]
    by_cases hl:k=0
    ·subst hl;simp[loadCells,loadCellsFrom]
    ·have ho:=ho (by omega)
     subst ho
     refine run_loadCells G.P w _ _ _ (by simp;omega) (fun i hi=>?_)
     have hi':i<k*s'/\i<cc.size-o':=by simp at hi;omega
     rw[add_plain]
     have:o'+i<cc.size:=by omega
     simp[World.cell?,hh,this,List.getD,List.getElem?_take,hi'.1]
   ·have:=VRs_take (k*s') (VRs_drop o k6)
    rw[List.drop_take,List.take_take,Nat.min_eq_left (by omega)]at this
    rw[List.take_take,Nat.min_eq_left hkm]
    exact this
 |str b=>
  simp only[srcc]at h
  cases hs:s==1<;>simp only[hs,cond_true,cond_false]at h
  ·cases h
  simp only[Option.some.injEq,Prod.mk.injEq]at h
  obtain⟨rfl,rfl⟩:=h
  have hs:s=1:=by simpa using hs
  subst hs
  simp only[VR]at hv
  subst hv
  refine⟨(b.take k).map (fun c=>.int .u8 c.toNat),?_,?_,fun x hx=>by obtain⟨y,_,rfl⟩:=List.mem_map.1 hx;rfl,by simp;omega⟩
  ·have:(bstr b).extract 0 k=bstr (b.take k):=by
    apply ByteArray.ext;apply Array.ext'
    simp[bstr,ByteArray.data_extract]
   simp only[Builtin.firstCells,this,Sem.run_pure]
   congr 1
   simp[bstr]
  ·rw[Nat.mul_one,<-List.map_take]
   clear hr hn hkm hk
   induction b.take k with
   |nil=>simp[VRs]
   |cons c b ih=>simp only[List.map_cons,VRs];exact⟨by simp only[VR],ih⟩
 |_=>simp[srcc]at h
theorem cpr_ok {t t2 e:Nat} {i i2 j:TI} {v u:AV} {val uval:Value} {ty:TypeId} (ht:G.tf t=some i) (hi:i.k=.slice e) (hj:G.tf e=some j) (ht2:G.tf t2=some i2) (hf:Fresh ρ n) (hr:HR X ρ w H)
  (hv:VR ρ w (OX X ρ H) v val) (hu:VR ρ w (OX X ρ H) u uval):
  RS G X ρ n H w ((do pure (.value (<-Builtin.copy_ #[t,t2] ty #[val,uval])):Sem Next).run G.P w) (cpr v u i2.k j H n):=by
 unfold cpr
 cases hk:cpr.srct2 i2.k with
 |false=>exact RS.bad
 |true=>
  refine RS.need fun hn=>?_
  unfold cpr.cp1
  have hv:=unc_vr hv
  have hu:=unc_vr hu
  split
  ·rename_i id s o l sc m hd hsrc
   rw[hd]at hv
   cases hg:hgt H id with
   |none=>exact RS.bad
   |some cs=>
    refine RS.need fun⟨g1,g2⟩=>?_
    obtain⟨d,d1,d2,d9⟩:=run_und (w:=w) ht
    rw[hi]at d2
    cases d<;>simp only[kok]at d2
    have d3:=d2.symm
    subst d3
    obtain⟨_,q1,_,_,_,_⟩:=src_ok (G:=G) hr hu hsrc hn
    obtain⟨vs,p1,p2,p3,p4⟩:=firstCells_min (G:=G) (k:=min m l) hr hu hsrc hn (by omega)
    simp only[VR]at hv
    obtain⟨b,c,o',cc,e',f,hb,rfl,hlc,ho,hh,hsz⟩:=hv
    rw[g1]at g2
    have hsl:(sc.take (min m l*j.size)).length=min m l*j.size:=by rw[VRs_length p2,p4]
    obtain⟨w',r1,r2,r3,r4⟩:=put_cells (G:=G) (n:=n) (o:=o) hr hg hb hh p2 p3 (by rw[hsl];exact g2)
    have hst:(storeCells ⟨b,o',none⟩ vs 0).run G.P w=.ok () w':=by
     by_cases hc0:0<c
     ·rw[ho hc0];exact r1
     ·have:vs=[]:=List.length_eq_zero_iff.1 (by rw[p4,show min m l=0 by omega];simp)
      subst this
      simp only[storeCells]at r1⊢
      exact r1
    rw[g1]
    refine⟨.int .i64 ((min m l:Nat):Int),ρ,w',.inl ?_,hf,r2,by simp only[VR],r3⟩
    simp only[Builtin.copy_,List.getElem?_toArray,List.getElem?_cons_zero,List.getElem?_cons_succ,Sem.run_bind,d1,Result.andThen_ok,q1,run_sizeOf hj,Sem.run_pure]
    rw[show Nat.min m l=min m l from rfl,p1]
    simp only[Result.andThen_ok,hst,goInt,Sem.run_pure]
  ·exact RS.bad
theorem zcells {e:Nat} {j:TI} (hj:G.tf e=some j) (k:Nat):∃z,(zeroValue e).run G.P w=.ok z w/\(∀w,(zeroValue e).run G.P w=.ok z w)/\z.cells.size=j.size/\(∀ρ w O,VRs ρ w O (zrs k j.zero) (Builtin.zeroCells z.cells k).toList)/\(∀x,x∈(Builtin.zeroCells z.cells k).toList->one x=true)/\(zrs k j.zero).length=k*j.size:=by
 obtain⟨fi,f0,f2,f3,z,z1,z2,z3,z4,z5,z6⟩:=(G.ok _ _ hj).info
 have f1:∀w,(typeInfo e).run G.P w=.ok fi w:=fun w=>by simp[typeInfo,f0]
 have fz:∀w,(zeroValue e).run G.P w=.ok z w:=fun w=>by simp[zeroValue,f1,z1]
 have hzl:(Builtin.zeroCells z.cells k).toList=(List.replicate k z.cells.toList).flatten:=zeros_eq _ _
 have h5:∀ρ w O,VRs ρ w O (zrs k j.zero) (Builtin.zeroCells z.cells k).toList:=fun ρ w O=>by rw[hzl];exact zrs_vr (z5 ρ w O) k
 refine⟨z,fz w,fz,z3,h5,zc_one z6 (fun _ _=>trivial),?_⟩
 rw[VRs_length (h5 (fun _=>none) w (fun _=>False)),Array.length_toList,zc_size,z3]
theorem clrr_ok {t e:Nat} {i j:TI} {v:AV} {val:Value} {ty:TypeId} (ht:G.tf t=some i) (hi:i.k=.slice e) (hj:G.tf e=some j) (hf:Fresh ρ n) (hr:HR X ρ w H) (hv:VR ρ w (OX X ρ H) v val):
  RS G X ρ n H w ((do pure (.value (<-Builtin.clear_ #[t] ty #[val])):Sem Next).run G.P w) (clrr i.k v j H n):=by
 unfold clrr
 split
 ·rename_i id s o l c
  cases hg:hgt H id with
  |none=>exact RS.bad
  |some cs=>
   refine RS.need fun⟨g1,g2⟩=>?_
   subst g1
   obtain⟨d,d1,d2,d9⟩:=run_und (w:=w) ht
   rw[hi]at d2
   cases d<;>simp only[kok]at d2
   have d3:=d2.symm
   subst d3
   obtain⟨z,z0,z1,z2,z3,z4,z5⟩:=zcells (G:=G) (w:=w) hj l
   simp only[VR]at hv
   obtain⟨b,o',cc,e',f,hb,rfl,hlc,ho,hh,hsz⟩:=hv
   obtain⟨w',r1,r2,r3,r4⟩:=put_cells (G:=G) (n:=n) (o:=o) hr hg hb hh (z3 _ _ _) z4 (by rw[z5];exact g2)
   refine⟨.tuple #[],ρ,w',.inl ?_,hf,r2,by simp only[VR];exact⟨#[],rfl,by simp only[VRs]⟩,r3⟩
   cases l with
   |zero=>
    have hw:w'=w:=by
     have:(Builtin.zeroCells z.cells 0).toList=[]:=by simp[Builtin.zeroCells]
     rw[this]at r1
     simp only[storeCells,Sem.run_pure]at r1
     cases r1;rfl
    subst hw
    simp[Builtin.clear_,d1]
   |succ l=>
    have ho:=ho (by omega)
    subst ho
    simp[Builtin.clear_,d1,z0,r1]
 ·exact RS.bad
theorem op_apc {t t2 e id s l c m:Nat} {i i2 j:TI} {cs sc:List AV} {v2:AV} {x1 x2:Value} {ty:TypeId} (ht:G.tf t=some i) (hi:i.k=.slice e) (hj:G.tf e=some j) (ht2:G.tf t2=some i2) (hi2:∀k,i2.k≠.int k)
  (hno:i2.k≠.other) (hf:Fresh ρ n) (hr:HR X ρ w H) (h1:VR ρ w (OX X ρ H) (.ocl id s 0 l c) x1) (h2:VR ρ w (OX X ρ H) v2 x2) (hg:hgt H id=some cs)
  (hsrc:srcc H j.size v2=some (sc,m)) (hsn:srcn H j.size v2):
  RS G X ρ n H w ((do pure (.value (<-Builtin.append_ #[t,t2] ty #[x1,x2])):Sem Next).run G.P w) (apc id s l c m cs sc j H n):=by
 refine RS.need fun⟨hs,hfit,hroom⟩=>?_
 subst hs
 obtain⟨vs,q1,q2,q3,q4,q5⟩:=src_ok (G:=G) hr h2 hsrc hsn
 obtain⟨d,d1,d2,d9⟩:=run_und (w:=w) ht
 rw[hi]at d2
 cases d<;>simp only[kok]at d2
 have d3:=d2.symm
 subst d3
 obtain⟨d',d1',d2',d9'⟩:=run_und (w:=w) ht2
 have hnint:∀k,d'≠.int k:=by
  rintro k rfl
  cases hk:i2.k<;>rw[hk]at d2'<;>simp only[kok]at d2'
  ·exact hi2 _ hk
  ·exact hno hk
 simp only[VR]at h1
 obtain⟨b,o',cc,e',f,hb,rfl,hlc,ho,hh,hsz⟩:=h1
 have hsl:sc.length=m*j.size:=by rw[VRs_length q3,q5]
 obtain⟨w',r1,r2,r3,c',e2,f2,r4,r5⟩:=put_cells (G:=G) (n:=n) (o:=l*j.size) hr hg hb hh q3 q4 (by rw[hsl,<-Nat.add_mul];exact hroom)
 have hz:((match d' with|.int _=>true|_=>false):Bool)=false:=by
  cases d'<;>first|rfl|exact absurd rfl (hnint _)
 have hst':(storeCells ((⟨b,o',none⟩:Addr).add (l*j.size)) vs 0).run G.P w=.ok () w':=by
  by_cases hc0:0<c
  ·rw[ho hc0,add_plain,Nat.zero_add];exact r1
  ·have:m=0:=by omega
   subst this
   have:vs=[]:=List.length_eq_zero_iff.1 (by rw[q5];simp)
   subst this
   simp only[storeCells]at r1⊢
   exact r1
 refine⟨.slice (some ⟨b,o',none⟩) (l+m) c,ρ,w',.inl ?_,hf,r2,?_,r3⟩
 ·simp only[Builtin.append_,List.getElem?_toArray,List.getElem?_cons_zero,List.getElem?_cons_succ,Sem.run_bind,d1,Result.andThen_ok,run_sizeOf hj,d1',Sem.run_pure]
  simp only[hz,Bool.false_eq_true,if_false,q1,Result.andThen_ok,hfit,if_true,Sem.run_bind,q2,Sem.run_pure]
  simp only[Bool.not_false,if_true,q2,Result.andThen_ok,hst']
 ·simp only[VR]
  exact⟨b,o',c',e2,f2,hb,rfl,hfit,ho,r4,by rw[r5];exact hsz⟩
theorem op_apz {t t2 e id s l c:Nat} {k:Int} {i i2 j:TI} {cs:List AV} {x1:Value} {ty:TypeId} (ht:G.tf t=some i) (hi:i.k=.slice e) (hj:G.tf e=some j) (ht2:G.tf t2=some i2) (hi2:i2.k=.int .i64)
  (hf:Fresh ρ n) (hr:HR X ρ w H) (h1:VR ρ w (OX X ρ H) (.ocl id s 0 l c) x1) (hg:hgt H id=some cs):
  RS G X ρ n H w ((do pure (.value (<-Builtin.append_ #[t,t2] ty #[x1,.int .i64 k])):Sem Next).run G.P w) (apz id s l c k cs j H n):=by
 refine RS.need fun⟨hs,hk0,hk1,hgrow,hl,hby,hbig⟩=>?_
 subst hs
 obtain⟨m,rfl⟩:∃m:Nat,k=m:=⟨k.toNat,by omega⟩
 simp only[Int.toNat_natCast]at*
 obtain⟨d,d1,d2,d9⟩:=run_und (w:=w) ht
 rw[hi]at d2
 cases d<;>simp only[kok]at d2
 have d3:=d2.symm
 subst d3
 obtain⟨d',d1',d2',d9'⟩:=run_und (w:=w) ht2
 rw[hi2]at d2'
 cases d'<;>simp only[kok]at d2'
 obtain⟨fi,f0,f2,f3,z,z1,z2,z3,z4,z5,z6⟩:=(G.ok _ _ hj).info
 have f1:∀w,(typeInfo e).run G.P w=.ok fi w:=fun w=>by simp[typeInfo,f0]
 have fz:∀w,(zeroValue e).run G.P w=.ok z w:=fun w=>by simp[zeroValue,f1,z1]
 simp only[VR]at h1
 obtain⟨b,o',cc,e',f,hb,rfl,hlc,ho,hh,hsz⟩:=h1
 obtain⟨b',c2,e2,f4,k1,k2,k3,k4,k5,k6⟩:=hr.obj id cs (hgt_mem hg)
 rw[hb]at k1;cases k1
 rw[hh]at k2;cases k2
 have hcap:¬(Builtin.nextslicecap (l+m) c*j.bytes>2^48):=by
  have h1:=nextcap_le (m:=l+m) (c:=c) (by omega)
  have h2:=Nat.mul_le_mul_right j.bytes h1
  have h3:2*(l+m)*j.bytes=2*((l+m)*j.bytes):=Nat.mul_assoc ..
  omega
 let w1:World:={w with drawn:=w.drawn+1}
 have hr1:HR X ρ w1 H:=hr.draw _
 have hcar1:Carry ρ ρ w w1 (OX X ρ H) (OX X ρ H):=⟨fun _ _ h=>h,Nat.le_refl _,fun _ _ _=>rfl,fun _ cs e f h=>⟨cs,f,h,rfl⟩,fun _ _ h=>h⟩
 have hold:∃os:List Value,(Builtin.firstCells j.size l (.slice (some ⟨b,o',none⟩) l c)).run G.P w1=.ok os.toArray w1/\VRs ρ w1 (OX X ρ H) (cs.take (l*j.size)) os/\(∀x,x∈os->one x=true)/\os.length=l*j.size:=by
  refine⟨cc.toList.take (l*j.size),?_,?_,fun x hx=>k4 x (List.mem_of_mem_take hx),by simp;omega⟩
  ·simp only[Builtin.firstCells]
   by_cases hl0:l=0
   ·subst hl0;simp[loadCells,loadCellsFrom]
   ·have ho:=ho (by omega)
    subst ho
    refine run_loadCells G.P _ _ _ _ (by simp;omega) (fun k hk=>?_)
    have hk':k<l*j.size/\k<cc.size:=by simp at hk;omega
    rw[add_plain]
    simp[w1,World.cell?,hh,List.getD,List.getElem?_take,hk'.1,hk'.2]
  ·have:=VRs_take (l*j.size) k6
   rw[List.take_take,Nat.min_eq_left hl]at this
   exact VRs_carry hcar1 _ _ this
 obtain⟨os,o1,o2,o3,o4⟩:=hold
 obtain⟨nc,hnc,hncge⟩:∃nc,nc=(Question.appendCap (l+m) c e).cut (w.tape w.drawn (.appendCap (l+m) c e))/\l+m<=nc:=⟨_,rfl,by simp[Question.cut]⟩
 let vs:List Value:=(Builtin.zeroCells z.cells m).toList
 let blk:Array Value:=os.toArray++vs.toArray++Builtin.zeroCells z.cells (nc-(l+m))
 have hvz:VRs ρ w1 (OX X ρ H) (zrs m j.zero) vs:=by
  have hzl:(Builtin.zeroCells z.cells m).toList=(List.replicate m z.cells.toList).flatten:=zeros_eq _ _
  show VRs _ _ _ _ (Builtin.zeroCells z.cells m).toList
  rw[hzl];exact zrs_vr (z5 _ _ _) m
 have hvl:vs.length=m*j.size:=by show(Builtin.zeroCells z.cells m).toList.length=_;rw[Array.length_toList,zc_size,z3]
 have hrun:((do pure (.value (<-Builtin.append_ #[t,t2] ty #[.slice (some ⟨b,o',none⟩) l c,.int .i64 (m:Int)])):Sem Next).run G.P w)=
   .ok (.value (.slice (some ⟨w.heap.size,0,none⟩) (l+m) nc)) (wnew w1 (.cells blk e)):=by
  have hcap':¬(Builtin.nextslicecap (l+m) c*fi.bytes>2^48):=by rw[f3];exact hcap
  have hwr:IntKind.i64.wrap (m:Int)=(m:Int):=by
   unfold IntKind.wrap
   have e1:(2^IntKind.i64.bits:Int)=18446744073709551616:=by decide
   have e2:(2^(IntKind.i64.bits-1):Int)=9223372036854775808:=by decide
   simp only[e1,e2,IntKind.signed,Bool.true_and,decide_eq_true_eq]
   split<;>omega
  have hnb:¬((m:Int)*(fi.bytes:Int)>2^48):=by
   rw[f3]
   have h1:m*j.bytes<=(l+m)*j.bytes:=Nat.mul_le_mul_right _ (by omega)
   have h2:(m:Int)*(j.bytes:Int)=((m*j.bytes:Nat):Int):=by simp
   rw[h2];omega
  have hmx:¬(((l+m:Nat):Int)>IntKind.i64.max/\((true=true)\/fi.bytes=0)):=by
   intro h
   have:IntKind.i64.max=9223372036854775807:=by decide
   rw[this]at h
   have h1:(l+m)*1<=(l+m)*j.bytes:=Nat.mul_le_mul_left _ hby
   omega
  have happ:(if m*j.size=0 then(Pure.pure #[]:Sem (Array Value))else do Pure.pure (Builtin.zeroCells (<-zeroValue e).cells m)).run G.P w1=.ok vs.toArray w1:=by
   by_cases h0:m*j.size=0
   ·rw[if_pos h0]
    have:vs=[]:=List.length_eq_zero_iff.1 (by rw[hvl,h0])
    rw[this];rfl
   ·rw[if_neg h0]
    simp[fz,vs]
  simp only[Builtin.append_,List.getElem?_toArray,List.getElem?_cons_zero,List.getElem?_cons_succ,Sem.run_bind,d1,Result.andThen_ok,run_sizeOf hj,d1',Sem.run_pure]
  have hai:∀w,(asInt (.int .i64 (m:Int))).run G.P w=.ok (m:Int) w:=fun w=>rfl
  simp only[if_true,Sem.run_bind,hai,Result.andThen_ok,hwr,show ¬((m:Int)<0) by omega,if_false,f1,hnb,Sem.run_pure,Int.toNat_natCast,show ¬(l+m<=c) by omega]
  have hmx2:¬(((l+m:Nat):Int)>IntKind.i64.max):=fun h=>hmx ⟨h,.inl rfl⟩
  have happ':(if(!true)=true then Builtin.firstCells j.size m (.int .i64 (m:Int))else if m*j.size=0 then(Pure.pure #[]:Sem (Array Value))else do Pure.pure (Builtin.zeroCells (<-zeroValue e).cells m)).run G.P w1=.ok vs.toArray w1:=happ
  simp only[hmx2,true_or,and_true,if_false,Sem.run_pure,Result.andThen_ok,hcap',run_choose,Question.forced,Bool.false_eq_true,<-hnc,run_askRoom,Sem.run_bind,f1]
  rw[o1]
  simp only[Result.andThen_ok]
  rw[happ']
  simp only[Result.andThen_ok,fz,newRow,Sem.run_bind,run_newObj,Sem.run_pure]
  rfl
 have hvo:VRs ρ w1 (OX X ρ H) (cs.take (l*j.size)++zrs m j.zero) (os++vs):=VRs_append o2 hvz
 have hblk:blk.toList=os++vs++(Builtin.zeroCells z.cells (nc-(l+m))).toList:=by simp[blk]
 have hal:(cs.take (l*j.size)++zrs m j.zero).length=(os++vs).length:=by rw[VRs_length hvo]
 have hnew := hr1.new (c := blk) (e := e) (f := (0, 0)) (cs := cs.take (l * j.size) ++ zrs m j.zero) hf (unf0 _) (fun x hx=>by
   rw[hblk]at hx
   rcases List.mem_append.1 hx with hx|hx
   ·rcases List.mem_append.1 hx with hx|hx
    ·exact o3 x hx
    ·exact zc_one z6 (fun _ _=>trivial) x hx
   ·exact zc_one z6 (fun _ _ => trivial) x hx) (by rw [hal, <- Array.length_toList, hblk]; simp) (by
   rw[hblk,hal,List.take_left];exact hvo)
 have hnx1:Nx ρ H w n ρ H w1 n:=⟨fun _ _ h=>h,Nat.le_refl _,⟨rfl,rfl,rfl,Nat.le_refl _,fun _ _ _=>rfl,fun _ cs e f h=>⟨cs,f,h,rfl⟩⟩,fun x hx=>.inl hx⟩
 refine⟨_,_,_,.inl hrun,rput_fresh hf,hnew.1,?_,hnx1.trans hnew.2⟩
 simp only[VR]
 refine⟨w.heap.size,nc,0,blk,e,(0,0),by simp[rput,w1],rfl,hncge,fun _=>rfl,by rw[wnew_heap];simp[w1],?_⟩
 rw[<-Array.length_toList,hblk,List.length_append,List.length_append,o4,hvl,Array.length_toList,zc_size,z3,<-Nat.add_mul,<-Nat.add_mul]
 rw[Nat.zero_add]
 exact Nat.mul_le_mul_right _ (by omega)
end ops
section ops
variable {G:Prg} {X:Nat->Prop} {ρ:Rho} {n N:Nat} {F:Fr} {H:Hp} {a:Act} {w:World}
theorem lenr_ok {t:Nat} {i:TI} {v:AV} {val:Value} {ty:TypeId} (ht:G.tf t=some i) (hf:Fresh ρ n) (hr:HR X ρ w H) (hv:VR ρ w (OX X ρ H) v val):
  RS G X ρ n H w ((do pure (.value (<-Builtin.len_ #[t] ty #[val])):Sem Next).run G.P w) (lenr i.k v H n):=by
 obtain⟨d,d1,d2,d9⟩:=run_und (w:=w) ht
 unfold lenr
 split
 ·rename_i s hk
  rw[hk]at d2;cases d<;>simp only[kok]at d2
  simp only[VR]at hv;subst hv
  exact RS.pure hf hr (val:=.int .i64 s.length) (by simp[Builtin.len_,d1,goInt,bstr_size]) (by simp only[VR])
 ·rename_i e s es hk
  rw[hk]at d2;cases d<;>simp only[kok]at d2
  simp only[VR]at hv;obtain⟨A,c,rfl,_⟩:=hv
  exact RS.pure hf hr (val:=.int .i64 es.length) (by simp[Builtin.len_,d1,goInt]) (by simp only[VR])
 ·rename_i e id s o l hk
  rw[hk]at d2;cases d<;>simp only[kok]at d2
  simp only[VR]at hv;obtain⟨b,c,o',cs,e',f,_,rfl,_⟩:=hv
  exact RS.pure hf hr (val:=.int .i64 l) (by simp[Builtin.len_,d1,goInt]) (by simp only[VR])
 ·rename_i e id s o l c hk
  rw[hk]at d2;cases d<;>simp only[kok]at d2
  simp only[VR]at hv;obtain⟨b,o',cs,e',f,_,rfl,_⟩:=hv
  exact RS.pure hf hr (val:=.int .i64 l) (by simp[Builtin.len_,d1,goInt]) (by simp only[VR])
 ·rename_i e hk
  rw[hk]at d2;cases d<;>simp only[kok]at d2
  simp only[VR]at hv;subst hv
  exact RS.pure hf hr (val:=.int .i64 0) (by simp[Builtin.len_,d1,goInt]) (by simp only[VR])
 ·rename_i k e _ hk
  rw[hk]at d2;cases d<;>simp only[kok]at d2
  obtain⟨rfl,_⟩:=d2
  exact RS.pure hf hr (val:=.int .i64 _) (by simp[Builtin.len_,d1,goInt];rfl) (by simp only[VR])
 ·exact RS.bad
theorem minr_ok {t t2:Nat} {v u:AV} {val uval:Value} {ty:TypeId} (hf:Fresh ρ n) (hr:HR X ρ w H) (hv:VR ρ w (OX X ρ H) v val) (hu:VR ρ w (OX X ρ H) u uval):
  RS G X ρ n H w ((do pure (.value (<-Builtin.min_ #[t,t2] ty #[val,uval])):Sem Next).run G.P w) (minr v u H n):=by
 unfold minr
 split
 ·simp only[VR]at hv hu
  subst hv;subst hu
  refine RS.need fun hk=>?_
  rename_i k x k' y
  exact RS.pure hf hr (val:=.int k (if y<x then y else x)) (by simp[Builtin.min_,Builtin.min2]) (by simp only[VR])
 ·exact RS.bad
theorem maxr_ok {t t2:Nat} {v u:AV} {val uval:Value} {ty:TypeId} (hf:Fresh ρ n) (hr:HR X ρ w H) (hv:VR ρ w (OX X ρ H) v val) (hu:VR ρ w (OX X ρ H) u uval):
  RS G X ρ n H w ((do pure (.value (<-Builtin.max_ #[t,t2] ty #[val,uval])):Sem Next).run G.P w) (maxr v u H n):=by
 unfold maxr
 split
 ·simp only[VR]at hv hu
  subst hv;subst hu
  refine RS.need fun hk=>?_
  rename_i k x k' y
  exact RS.pure hf hr (val:=.int k (if y>x then y else x)) (by simp[Builtin.max_,Builtin.max2]) (by simp only[VR])
 ·exact RS.bad
theorem appr_ok {t t2 e:Nat} {i i2 j:TI} {v u:AV} {val uval:Value} {ty:TypeId} (ht:G.tf t=some i) (hi:i.k=.slice e) (hj:G.tf e=some j) (ht2:G.tf t2=some i2) (hf:Fresh ρ n) (hr:HR X ρ w H)
  (hv:VR ρ w (OX X ρ H) v val) (hu:VR ρ w (OX X ρ H) u uval):
  RS G X ρ n H w ((do pure (.value (<-Builtin.append_ #[t,t2] ty #[val,uval])):Sem Next).run G.P w) (appr v u i2.k j H n):=by
 unfold appr
 cases hk:srct i2.k with
 |false=>exact RS.bad
 |true=>
  have h1:∀k,i2.k≠.int k:=fun k h=>by rw[h]at hk;cases hk
  have h2:i2.k≠.other:=fun h=>by rw[h]at hk;cases hk
  refine RS.need fun hn=>?_
  unfold app1
  split
  ·rename_i id s l sc m hsrc
   cases hg:hgt H id with
   |none=>exact RS.bad
   |some cs=>exact RS.need fun⟨g1,g2,g3,g4⟩=>op_append ht hi hj ht2 h1 h2 hf hr hv hu hg g1 g2 (by rw[g1];exact hsrc) (by rw[g1];exact hn) g3 g4
  ·rename_i sc m hsrc
   exact RS.need fun⟨g1,g2,g3⟩=>op_append_nil ht hi hj ht2 h1 h2 hf hr hv hu hsrc hn g1 g2 g3
  ·exact RS.bad
theorem apcr_ok {t t2 e:Nat} {i i2 j:TI} {v u:AV} {val uval:Value} {ty:TypeId} (ht:G.tf t=some i) (hi:i.k=.slice e) (hj:G.tf e=some j) (ht2:G.tf t2=some i2) (hf:Fresh ρ n) (hr:HR X ρ w H)
  (hv:VR ρ w (OX X ρ H) v val) (hu:VR ρ w (OX X ρ H) u uval):
  RS G X ρ n H w ((do pure (.value (<-Builtin.append_ #[t,t2] ty #[val,uval])):Sem Next).run G.P w) (apcr v u i2.k j H n):=by
 unfold apcr
 split
 ·rename_i id s l c
  split
  ·rename_i k hk
   cases hg:hgt H id with
   |none=>exact RS.bad
   |some cs=>
    simp only[VR]at hu;subst hu
    exact op_apz ht hi hj ht2 hk hf hr hv hg
  ·rename_i hnk
   cases hk:srct i2.k with
   |false=>exact RS.bad
   |true=>
    refine RS.need fun hn=>?_
    split
    ·rename_i sc m cs hsrc hg
     exact op_apc ht hi hj ht2 (fun k h=>by rw[h]at hk;cases hk) (fun h=>by rw[h]at hk;cases hk) hf hr hv (unc_vr hu) hg hsrc hn
    ·exact RS.bad
 ·exact appr_ok ht hi hj ht2 hf hr hv hu
theorem tsl_osl {O:Nat->Prop} {i t l:Nat} {v:Value} (h:VR ρ w O (.tsl i t l) v):VR ρ w O (.osl i 1 0 l) v:=by
 simp only[VR]at h⊢
 obtain⟨b,c,cs,f,h1,h2,h3,h4,h5,h6⟩:=h
 exact⟨b,c,0,cs,t,f,h1,h2,h3,fun _=>rfl,h5,by omega⟩
theorem osl_tsl {O:Nat->Prop} {ρ:Rho} {w:World} {i e m:Nat} {v:Value} {xs:List Value} (h:VR ρ w O (.osl i 1 0 m) v) (hw:w.ownsRowF 0 e 1 v m xs):VR ρ w O (.tsl i e m) v:=by
 simp only[VR]at h⊢
 obtain⟨b,c,o',cs,e',f',h1,rfl,h3,h4,h5,h6⟩:=h
 rcases hw.2 with ⟨hv,_⟩|⟨g,cap,cur,fz,hv,_,hg,_,k1,k2,k3,_⟩
 ·cases hv
 ·injection hv with a1 a2 a3
  injection a1 with a1
  injection a1 with a1 a4
  subst a1 a3
  exact⟨b,c,cur,fz,h1,by rw[a4],h3,by unfold maxLen at k2;exact k2,hg,by omega⟩
theorem bty_ok {e:Nat} {j:TI} (hj:G.tf e=some j) (hb:bty j):∃i,G.P.info? e=some i/\i.zero=some (.int .u8 0)/\i.size=1/\i.bytes=1:=by
 obtain⟨b1,b2,b3,b4⟩:=hb
 obtain⟨f,f1,f2,f3,z,f4,f5,_⟩:=(G.ok _ _ hj).info
 refine⟨f,f1,?_,f2.trans b1,f3.trans b2⟩
 have:=f5 (fun _=>none) default (fun _=>False)
 simp only[zav,b3,b4,cond_false,List.headD_cons,VR]at this
 rw[f4,this]
theorem und_slice {t e:Nat} {i:TI} (ht:G.tf t=some i) (hi:i.k=.slice e):G.P.underlying t=some (.slice e):=by
 obtain⟨d,d1,d2,_⟩:=(G.ok _ _ ht).und
 rw[hi]at d2
 cases d<;>simp only[kok]at d2
 rw[d1,d2]
theorem und_str {t:Nat} {i:TI} (ht:G.tf t=some i) (hi:i.k=.str):G.P.underlying t=some .string:=by
 obtain⟨d,d1,d2,_⟩:=(G.ok _ _ ht).und
 rw[hi]at d2
 cases d<;>simp only[kok]at d2
 exact d1
theorem apt_ok {t t2 e:Nat} {i i2 j:TI} {v u:AV} {val uval:Value} {ty:TypeId} (ht:G.tf t=some i) (hi:i.k=.slice e) (hj:G.tf e=some j) (ht2:G.tf t2=some i2) (hf:Fresh ρ n) (hr:HR X ρ w H)
  (hv:VR ρ w (OX X ρ H) v val) (hu:VR ρ w (OX X ρ H) u uval):
  RS G X ρ n H w ((do pure (.value (<-Builtin.append_ #[t,t2] ty #[val,uval])):Sem Next).run G.P w) (apt e v u i2.k j H n):=by
 unfold apt
 split
 ·rename_i id e' l s hk2
  cases hg:hgt H id with
  |none=>exact RS.bad
  |some cs=>
   refine RS.need fun⟨g1,g2,g3,g4,g5⟩=>?_
   subst g1
   have h1:∀k,i2.k≠.int k:=fun k h=>by rw[h]at hk2;cases hk2
   have h2:i2.k≠.other:=fun h=>by rw[h]at hk2;cases hk2
   have hc0:cls id=0:=by unfold cls;rw[show Nat.beq (id%4) 2=false by rw[g2];rfl];rfl
   have R:=op_append (ty:=ty) ht hi hj ht2 h1 h2 hf hr (tsl_osl hv) hu hg g3.1.symm (by omega) (m:=s.length) (sc:=ints s) rfl trivial (by rw[g3.2.1];decide) (by rw[g3.2.1];omega)
   rw[hc0,Nat.mul_one,Nat.add_zero]at R
   obtain⟨x,ρ',w',hrun,f',r',v',nx⟩:=R
   have hv0:=hv
   simp only[VR]at hv hu
   obtain⟨b,c,ds,f,k1,rfl,k3,k4,k5,k6⟩:=hv
   subst hu
   obtain⟨b',c',e2,f2,q1,q2,q3,q4,q5,q6⟩:=hr.obj id cs (hgt_mem hg)
   rw[k1]at q1;cases q1
   rw[k5]at q2;cases q2
   have hf0:f=(0,0):=q3.2.resolve_right (by omega)
   subst hf0
   obtain⟨ti,t1,t2',t3,t4⟩:=bty_ok hj g3
   have hsz:(bstr s).size=s.length:=by simp[bstr,ByteArray.size]
   obtain⟨v2,w2,z1,z2,_⟩:=Lib.run_append_own_stringF (P:=G.P) w 0 t t2 ty e' ti (und_slice ht hi) (und_str ht2 hk2) t1 t2' t3 t4 (.slice (some ⟨b,0,none⟩) l c) l (ds.toList.take l)
    ⟨by simp;omega,.inr ⟨b,c,ds,(0,0),rfl,Nat.zero_le _,k5,Nat.zero_le _,k3,by unfold maxLen;exact k4,by omega,by rw[Nat.mul_one]⟩⟩ (bstr s) (by rw[hsz];unfold maxLen;omega) (by rw[hsz];omega) (Nat.zero_le _)
   have hrun2:((do pure (.value (<-Builtin.append_ #[t,t2] ty #[.slice (some ⟨b,0,none⟩) l c,.string (bstr s)])):Sem Next).run G.P w)=.ok (.value v2) w2:=by
    simp only[Sem.run_bind,z1,Result.andThen_ok,Sem.run_pure]
   rw[hrun2]at hrun
   rcases hrun with hrun|⟨hrun,_⟩
   ·cases hrun
    rw[hsz]at z2
    exact⟨x,ρ',w',.inl hrun2,f',r',osl_tsl v' z2,nx⟩
   ·cases hrun
 ·rename_i s hk2
  refine RS.need fun⟨g3,g4,g5⟩=>?_
  have h1:∀k,i2.k≠.int k:=fun k h=>by rw[h]at hk2;cases hk2
  have h2:i2.k≠.other:=fun h=>by rw[h]at hk2;cases hk2
  have R:=op_append_nil (ty:=ty) ht hi hj ht2 h1 h2 hf hr hv hu (m:=s.length) (sc:=ints s) (by rw[g3.1];rfl) trivial g4 (by rw[g3.2.1];decide) (by rw[g3.2.1];omega)
  obtain⟨x,ρ',w',hrun,f',r',v',nx⟩:=R
  simp only[VR]at hv hu
  subst hv hu
  obtain⟨ti,t1,t2',t3,t4⟩:=bty_ok hj g3
  have hsz:(bstr s).size=s.length:=by simp[bstr,ByteArray.size]
  obtain⟨v2,w2,z1,z2,_⟩:=Lib.run_append_own_stringF (P:=G.P) w 0 t t2 ty e ti (und_slice ht hi) (und_str ht2 hk2) t1 t2' t3 t4 (.slice none 0 0) 0 [] ⟨by simp,.inl ⟨rfl,rfl⟩⟩ (bstr s) (by rw[hsz];unfold maxLen;omega) (by rw[hsz];omega) (Nat.zero_le _)
  have hrun2:((do pure (.value (<-Builtin.append_ #[t,t2] ty #[.slice none 0 0,.string (bstr s)])):Sem Next).run G.P w)=.ok (.value v2) w2:=by
   simp only[Sem.run_bind,z1,Result.andThen_ok,Sem.run_pure]
  rw[hrun2]at hrun
  rcases hrun with hrun|⟨hrun,_⟩
  ·cases hrun
   rw[hsz,Nat.zero_add]at z2
   rw[g3.1]at v'
   exact⟨x,ρ',w',.inl hrun2,f',r',osl_tsl v' z2,nx⟩
  ·cases hrun
 ·exact apcr_ok ht hi hj ht2 hf hr hv hu
theorem vrs1 {O:Nat->Prop} {v:AV} {vs:List Value} (h:VRs ρ w O [v] vs):∃x,vs=[x]/\VR ρ w O v x:=by
 match vs,h with
 |[x],h=>simp only[VRs]at h;exact⟨x,rfl,h.1⟩
 |[],h=>simp only[VRs]at h
 |_::_::_,h=>simp[VRs]at h
theorem vrs2 {O:Nat->Prop} {v u:AV} {vs:List Value} (h:VRs ρ w O [v,u] vs):∃x y,vs=[x,y]/\VR ρ w O v x/\VR ρ w O u y:=by
 match vs,h with
 |[x,y],h=>simp only[VRs]at h;exact⟨x,y,rfl,h.1,h.2.1⟩
 |[],h=>simp only[VRs]at h
 |[_],h=>simp[VRs]at h
 |_::_::_::_,h=>simp[VRs]at h
theorem bir_ok {b:Builtin} {ts:Array Nat} {vs:List AV} {vals:Array Value} {ty:TypeId} {cs:Array Bool} (hf:Fresh ρ n) (hr:HR X ρ w H) (hv:VRs ρ w (OX X ρ H) vs vals.toList):
  RS G X ρ n H w ((builtin b ts ty cs vals).run G.P w) (bir G b ts.toList vs H n):=by
 unfold bir
 split
 ·rename_i t v hts
  obtain⟨x,hx,hvx⟩:=vrs1 hv
  obtain rfl:vals=#[x]:=by apply Array.ext';simpa using hx
  obtain rfl:ts=#[t]:=by apply Array.ext';simpa using hts
  split
  ·rename_i i ht;exact lenr_ok ht hf hr hvx
  ·exact RS.bad
 ·rename_i t t2 v u hts
  obtain⟨x,y,hx,h1,h2⟩:=vrs2 hv
  obtain rfl:vals=#[x,y]:=by apply Array.ext';simpa using hx
  obtain rfl:ts=#[t,t2]:=by apply Array.ext';simpa using hts
  exact minr_ok hf hr h1 h2
 ·rename_i t t2 v u hts
  obtain⟨x,y,hx,h1,h2⟩:=vrs2 hv
  obtain rfl:vals=#[x,y]:=by apply Array.ext';simpa using hx
  obtain rfl:ts=#[t,t2]:=by apply Array.ext';simpa using hts
  exact maxr_ok hf hr h1 h2
 ·rename_i t t2 v u hts
  obtain⟨x,y,hx,h1,h2⟩:=vrs2 hv
  obtain rfl:vals=#[x,y]:=by apply Array.ext';simpa using hx
  obtain rfl:ts=#[t,t2]:=by apply Array.ext';simpa using hts
  split
  ·rename_i i i2 ht ht2
   split
   ·rename_i e hk
    split
    ·rename_i j hj;exact apt_ok ht hk hj ht2 hf hr h1 h2
    ·exact RS.bad
   ·exact RS.bad
  ·exact RS.bad
 ·rename_i t v hts
  obtain⟨x,hx,hvx⟩:=vrs1 hv
  obtain rfl:vals=#[x]:=by apply Array.ext';simpa using hx
  obtain rfl:ts=#[t]:=by apply Array.ext';simpa using hts
  split
  ·rename_i i ht;exact capr_ok ht hf hr hvx
  ·exact RS.bad
 ·rename_i t t2 v u hts
  obtain⟨x,y,hx,h1,h2⟩:=vrs2 hv
  obtain rfl:vals=#[x,y]:=by apply Array.ext';simpa using hx
  obtain rfl:ts=#[t,t2]:=by apply Array.ext';simpa using hts
  split
  ·rename_i i i2 ht ht2
   split
   ·rename_i e hk
    split
    ·rename_i j hj;exact cpr_ok ht hk hj ht2 hf hr h1 h2
    ·exact RS.bad
   ·exact RS.bad
  ·exact RS.bad
 ·rename_i t v hts
  obtain⟨x,hx,hvx⟩:=vrs1 hv
  obtain rfl:vals=#[x]:=by apply Array.ext';simpa using hx
  obtain rfl:ts=#[t]:=by apply Array.ext';simpa using hts
  split
  ·rename_i i ht
   split
   ·rename_i e hk
    split
    ·rename_i j hj;exact clrr_ok ht hk hj hf hr hvx
    ·exact RS.bad
   ·exact RS.bad
  ·exact RS.bad
 ·exact RS.bad
theorem RS_run {run run':Result Next} {r:Res} (h:RS G X ρ n H w run r) (e:run'=run):RS G X ρ n H w run' r:=e▸h
theorem eo_sound (o:Oper) (hs:S X N ρ n F H a w):RS G X ρ n H w ((execOp a.eval o).run G.P w) (eo G o.op F H n):=by
 have hf:=hs.fresh
 have hr:=hs.hr
 obtain⟨dst,op,ty,pos,aft,g⟩:=o
 cases op<;>try exact RS.bad
 case move x=>exact RS.pure hf hr rfl (ev_vr hs x)
 case assign x=>exact RS.pure hf hr rfl (ev_vr hs x)
 case pick c x y=>
  simp only[eo]
  have hc:=ev_vr hs c
  split
  ·rename_i t ht
   rw[ht]at hc
   simp only[VR]at hc
   refine RS.pure hf hr (val:=if t then a.eval x else a.eval y) (by simp[execOp,hc,asBool]) ?_
   cases t
   ·exact ev_vr hs y
   ·exact ev_vr hs x
  ·exact RS.bad
 case alloc t=>
  simp only[eo]
  split
  ·rename_i i ht;exact op_alloc ht hf hr
  ·exact RS.bad
 case box t x=>
  simp only[eo]
  cases ho:okc (ev F x)with
  |false=>exact RS.bad
  |true=>exact op_box hf hr (ev_vr hs x) ho
 case build t ps=>
  simp only[eo]
  split
  ·rename_i i ht
   split
   ·rename_i l hk
    cases ho:okt G l with
    |false=>exact RS.bad
    |true=>exact op_build ht hk ho hs
   ·exact RS.bad
  ·exact RS.bad
 case makeSlice t x y=>
  simp only[eo]
  split
  ·rename_i i ht
   split
   ·rename_i e hk
    split
    ·rename_i j hj
     exact op_makeSlice ht hk hj hf hr (ev_vr hs x) (ev_vr hs y)
    ·exact RS.bad
   ·exact RS.bad
  ·exact RS.bad
 case buildSlice t len ps=>
  simp only[eo]
  split
  ·rename_i i ht
   split
   ·rename_i e hk
    split
    ·rename_i j hj
     exact RS.need fun h=>op_buildSlice ht hk hj h hs
    ·exact RS.bad
   ·exact RS.bad
  ·exact RS.bad
 case load t x=>
  simp only[eo]
  split
  ·rename_i i ht;exact ldr_ok ht hf hr (ev_vr hs x)
  ·exact RS.bad
 case store t x y=>
  simp only[eo]
  split
  ·rename_i i ht;exact str_ok ht hf hr (ev_vr hs x) (ev_vr hs y)
  ·exact RS.bad
 case nilCheck x=>
  simp only[eo,nck]
  have hx:=ev_vr hs x
  split
  ·rename_i i o he
   rw[he]at hx
   have hx':=hx
   simp only[VR]at hx'
   obtain⟨b,_,e⟩:=hx'
   exact RS.pure hf hr (val:=a.eval x) (by simp[execOp,e]) hx
  ·rename_i c he
   rw[he]at hx
   have hx':=hx
   simp only[VR]at hx'
   obtain⟨b,e,_⟩:=hx'
   exact RS.pure hf hr (val:=a.eval x) (by simp[execOp,e]) hx
  ·rename_i f c he
   rw[he]at hx
   have hx':=hx
   simp only[VR]at hx'
   obtain⟨b,e,_⟩:=hx'
   exact RS.pure hf hr (val:=a.eval x) (by simp[execOp,e]) hx
  ·exact RS.bad
 case binOp op t x y t'=>
  simp only[eo]
  split
  ·rename_i i ht;exact op_bin ht hf hr (ev_vr hs x) (ev_vr hs y)
  ·exact RS.bad
 case unOp op t x=>
  simp only[eo,uo]
  have hx:=ev_vr hs x
  split
  ·rename_i b he
   rw[he]at hx;simp only[VR]at hx
   exact RS.pure hf hr (val:=.bool (!b)) (by simp[execOp,Op.unary,hx]) (by simp only[VR])
  ·rename_i k b he
   rw[he]at hx;simp only[VR]at hx
   exact RS.pure hf hr (val:=.int k (k.wrap (0-b))) (by simp[execOp,Op.unary,Op.intArith,hx]) (by simp only[VR])
  ·exact RS.bad
 case convert s d x=>
  simp only[eo]
  have hx:=ev_vr hs x
  split
  ·rename_i i j hi hj
   obtain⟨d1,p1,p2,_⟩:=run_und (w:=w) hi
   obtain⟨d2,q1,q2,_⟩:=run_und (w:=w) hj
   unfold cvr
   split
   ·rename_i k0 k k1 z h1 h2 h3
    rw[h3]at hx;simp only[VR]at hx
    rw[h1]at p2;rw[h2]at q2
    cases d1<;>simp only[kok]at p2
    cases d2<;>simp only[kok]at q2
    subst q2
    rename_i kd _
    exact RS.pure hf hr (val:=.int kd (kd.wrap z)) (by simp[execOp,convert,p1,q1,hx,Conv.intToInt]) (by simp only[VR])
   ·rename_i z h1 h2 h3
    rw[h3]at hx;simp only[VR]at hx
    rw[h1]at p2;rw[h2]at q2
    cases d1<;>simp only[kok]at p2
    cases d2<;>simp only[kok]at q2
    exact RS.pure hf hr (val:=.string (bstr z)) (by simp[execOp,convert,p1,q1,hx]) (by simp only[VR])
   ·rename_i e0 z h1 h2 h3
    split
    ·rename_i h4
     rw[h3]at hx;simp only[VR]at hx
     rw[h1]at p2;rw[h2]at q2
     cases d1<;>simp only[kok]at p2
     cases d2<;>simp only[kok]at q2
     subst q2
     rename_i el rr
     simp only[elk,h2]at h4
     split at h4
     ·rename_i e1 j1 hj1
      obtain⟨d3,r1,r2,_⟩:=run_und (w:=w) hj1
      rw[h4]at r2
      cases d3<;>simp only[kok]at r2
      subst r2
      have:=op_s2b (G:=G) (w:=w) (e:=el) (x:=z) hf hr
      refine RS_run (this) ?_
      simp[execOp,convert,p1,q1,r1,hx]
     ·cases h4
    ·exact RS.bad
   ·rename_i e0 id s o l h1 h2 h3
    split
    ·rename_i cs h4 h5
     refine RS.need fun hn=>?_
     obtain⟨rfl,hl,ha⟩:=hn
     rw[h1]at p2;rw[h2]at q2
     cases d1<;>simp only[kok]at p2
     cases d2<;>simp only[kok]at q2
     subst p2
     simp only[elk,h1]at h4
     split at h4
     ·rename_i e1 j1 hj1
      obtain⟨d3,r1,r2,_⟩:=run_und (w:=w) hj1
      rw[h4]at r2
      cases d3<;>simp only[kok]at r2
      subst r2
      rw[h3]at hx
      have:=op_b2s (G:=G) hf hr hx h5 hl ha
      refine RS_run this ?_
      simp only[VR]at hx
      obtain⟨b,c,o',cs0,e,f,_,hv,_⟩:=hx
      simp[execOp,convert,p1,q1,r1,hv]
     ·cases h4
    ·exact RS.bad
   ·rename_i e0 h1 h2 h3
    split
    ·rename_i h4
     rw[h1]at p2;rw[h2]at q2
     cases d1<;>simp only[kok]at p2
     cases d2<;>simp only[kok]at q2
     subst p2
     simp only[elk,h1]at h4
     split at h4
     ·rename_i e1 j1 hj1
      obtain⟨d3,r1,r2,_⟩:=run_und (w:=w) hj1
      rw[h4]at r2
      cases d3<;>simp only[kok]at r2
      subst r2
      rw[h3]at hx;simp only[VR]at hx
      exact RS.pure hf hr (val:=.string .empty) (by simp[execOp,convert,p1,q1,r1,hx,Conv.bytesToString]) (by simp only[VR];rfl)
     ·cases h4
    ·exact RS.bad
   ·exact RS.bad
  ·exact RS.bad
 case makeFunc f first caps=>
  simp only[eo]
  cases he:first.toList.isEmpty with
  |false=>exact RS.bad
  |true=>
   have:first=#[]:=by apply Array.ext';simpa using he
   subst this
   refine RS.pure hf hr (val:=.func f #[] (caps.map a.eval)) (by simp[execOp,Instr.makeFunc]) ?_
   simp only[VR]
   exact⟨_,rfl,by rw[Array.toList_map];exact evs_vr hs caps.toList⟩
 case slice t x lo hi mx=>
  have hx:=ev_vr hs x
  cases mx with
  |some mx=>
   simp only[eo]
   split
   ·rename_i i ht
    split
    ·rename_i e hk
     split
     ·rename_i j hj
      cases lo with
      |none=>unfold slc3;split<;>first|exact RS.bad|(rename_i h _ _;cases h)
      |some lo=>
       cases hi with
       |none=>unfold slc3;split<;>first|exact RS.bad|(rename_i h _;cases h)
       |some hi=>exact op_slice3 ht hk hj hf hr hx (ev_vr hs lo) (ev_vr hs hi) (ev_vr hs mx)
     ·exact RS.bad
    ·exact RS.bad
   ·exact RS.bad
  |none=>
   have v1:∀x,lo.map a.eval=some x->∃y,evo F lo=some y/\VR ρ w (OX X ρ H) y x:=by
    intro x hx;cases lo with
    |none=>cases hx
    |some l=>simp only[Option.map_some,Option.some.injEq]at hx;subst hx;exact⟨_,rfl,ev_vr hs l⟩
   have v2:∀x,hi.map a.eval=some x->∃y,evo F hi=some y/\VR ρ w (OX X ρ H) y x:=by
    intro x hx;cases hi with
    |none=>cases hx
    |some l=>simp only[Option.map_some,Option.some.injEq]at hx;subst hx;exact⟨_,rfl,ev_vr hs l⟩
   have n1:lo.map a.eval=none->evo F lo=none:=by cases lo<;>simp[evo]
   have n2:hi.map a.eval=none->evo F hi=none:=by cases hi<;>simp[evo]
   simp only[eo]
   split
   ·rename_i i ht
    split
    ·rename_i hk
     unfold slrs
     split
     ·rename_i s hv
      rw[hv]at hx
      unfold slr
      split
      ·rename_i l h hl hh
       exact op_slice_str ht hk hf hr hx hl hh v1 v2 n1 n2
      ·exact RS.bad
     ·exact RS.bad
    ·rename_i e hk
     split
     ·rename_i j hj
      unfold slcl
      split
      ·rename_i id s' o l c hv
       rw[hv]at hx
       split
       ·rename_i l h hl hh
        exact op_slice_ocl ht hk hj hf hr hx hl hh v1 v2 n1 n2
       ·exact RS.bad
      ·rename_i hv
       rw[hv]at hx
       exact op_slice_nils ht hk hj hf hr hx v1 v2 n1 n2
      unfold slrl
      split
      ·rename_i s es hv
       rw[hv]at hx
       unfold slr
       split
       ·rename_i l h hl hh
        exact op_slice_sl ht hk hj hf hr hx hl hh v1 v2 n1 n2 (by intro x h;cases h)
       ·exact RS.bad
      ·rename_i i s o len hv
       rw[hv]at hx
       unfold slr
       split
       ·rename_i l h hl hh
        exact op_slice_sl ht hk hj hf hr hx hl hh v1 v2 n1 n2 (by intro x h;cases h)
       ·exact RS.bad
      ·exact RS.bad
     ·exact RS.bad
    ·exact RS.bad
   ·exact RS.bad
 case fieldAddr s x f=>
  simp only[eo]
  split
  ·rename_i i ht
   split
   ·rename_i l hk
    split
    ·rename_i off ft hl
     split
     ·rename_i j hj;exact op_fieldAddr ht hk hl hj hf hr (ev_vr hs x)
     ·exact RS.bad
    ·exact RS.bad
   ·exact RS.bad
  ·exact RS.bad
 case field s x f=>
  simp only[eo]
  have hx:=ev_vr hs x
  split
  ·rename_i i ht
   split
   ·rename_i l hk
    split
    ·rename_i off ft hl
     split
     ·rename_i j hj
      split
      ·rename_i cs hc
       rw[hc]at hx
       exact RS.need fun⟨g1,g2⟩=>op_field ht hk hl hj hf hr hx g1 g2
      ·exact RS.bad
     ·exact RS.bad
    ·exact RS.bad
   ·exact RS.bad
  ·exact RS.bad
 case indexAddr t x ix=>
  simp only[eo]
  have hx:=ev_vr hs x
  have hi:=ev_vr hs ix
  split
  ·rename_i i ht
   split
   ·rename_i e hk
    split
    ·rename_i j hj
     unfold ixa
     split
     ·rename_i k z hz
      rw[hz]at hi;simp only[VR]at hi
      have:=op_indexAddr (ix:=z) (k:=k) ht hk hj hf hr hx
      simp only[execOp,hi]
      exact this
     ·exact RS.bad
    ·exact RS.bad
   ·exact RS.bad
  ·exact RS.bad
 case index t x ix=>
  simp only[eo]
  have hx:=ev_vr hs x
  have hi:=ev_vr hs ix
  split
  ·rename_i i ht
   split
   ·rename_i hk
    unfold ixs
    split
    ·rename_i s k z h1 h2
     rw[h1]at hx
     rw[h2]at hi;simp only[VR]at hi
     refine RS.need fun⟨g1,g2⟩=>?_
     have:=op_index_str (ix:=z) (k:=k) ht hk hf hr hx g1 g2
     simp only[execOp,hi]
     exact this
    ·exact RS.bad
   ·exact RS.bad
  ·exact RS.bad
 case extract x i=>
  simp only[eo,extr]
  have hx:=ev_vr hs x
  split
  ·rename_i vs hv
   rw[hv]at hx;simp only[VR]at hx
   obtain⟨us,hu,hus⟩:=hx
   refine RS.need fun hi=>?_
   have hi:i<us.size:=by rw[VRs_length hus]at hi;simpa using hi
   refine RS.pure hf hr (val:=us[i]) (by simp[execOp,Instr.extract,hu,hi]) ?_
   have:=VRs_get hus i
   rw[show us.toList.getD i undef=us[i] by simp[List.getD,hi]]at this
   exact this
  ·exact RS.bad
 case call c=>
  simp only[eo]
  obtain⟨callee,args,tys⟩:=c
  have hargs:VRs ρ w (OX X ρ H) (evs F args.toList) (args.map a.eval).toList:=by rw[Array.toList_map];exact evs_vr hs args.toList
  cases callee with
  |builtin b=>exact bir_ok hf hr hargs
  |invoke r m=>exact RS.bad
  |value f=>
   have hx:=ev_vr hs f
   simp only[calr]
   split
   ·rename_i g cs hv
    rw[hv]at hx;simp only[VR]at hx
    obtain⟨us,hu,hus⟩:=hx
    refine⟨args.map a.eval++us,?_,?_⟩
    ·simp[execOp,resolve,hu,Deferred.ofValue,invoke]
    ·rw[Array.toList_append];exact VRs_append hargs hus
   ·exact RS.bad
end ops
def pt (F:Fr) (d:Option Nat) (v:AV):Fr:=match d with|some d=>(d,v)::F|none=>F
def CallsX (P:Program) (f:Nat) (vs:Array Value) (w:World) (R:Ending->World->Prop):Prop:=
 match (callFunc f vs).run P w with
 |.ok (.enter f' args) w'=>w'=w/\Calls P f' args w R
 |.ok (.value v) w'=>R (.returned v) w'
 |_=>False
theorem CallsX.mono {P:Program} {f:Nat} {vs:Array Value} {w:World} {R R':Ending->World->Prop} (h:CallsX P f vs w R) (hr:∀e w',R e w'->R' e w'):CallsX P f vs w R':=by
 unfold CallsX at*
 split at h<;>first|exact⟨h.1,h.2.mono hr⟩|exact hr _ _ h|exact h
abbrev CPost:=AV->Hp->Nat->Prop
def TCall (G:Prg) (f:Nat) (args:List AV) (H:Hp) (n:Nat) (Q:CPost):Prop:=
 ∀X ρ w (vs:Array Value),Fresh ρ n->HR X ρ w H->VRs ρ w (OX X ρ H) args vs.toList->
  CallsX G.P f vs w fun e w'=>∃v r ρ' H' n',e=.returned v/\Fresh ρ' n'/\HR X ρ' w' H'/\VR ρ' w' (OX X ρ' H') r v/\Nx ρ H w n ρ' H' w' n'/\Q r H' n'
theorem TCall.mono {G:Prg} {f:Nat} {args:List AV} {H:Hp} {n:Nat} {Q Q':CPost} (h:TCall G f args H n Q) (hq:∀r H' n',n<=n'->Q r H' n'->Q' r H' n'):TCall G f args H n Q':=by
 intro X ρ w vs hf hr hv
 refine(h X ρ w vs hf hr hv).mono ?_
 rintro e w' ⟨v,r,ρ',H',n',h1,h2,h3,h4,h5,h6⟩
 exact⟨v,r,ρ',H',n',h1,h2,h3,h4,h5,hq _ _ _ h5.le h6⟩
def Spl (b:Bool) (p q:Prop):Prop:=(b=true->p)/\(b=false->q)
@[go_sem] theorem Spl_true (p q:Prop):Spl true p q=p:=by simp[Spl]
@[go_sem] theorem Spl_false (p q:Prop):Spl false p q=q:=by simp[Spl]
def Nd (p q:Prop):Prop:=p/\q
abbrev RK:=Fr->Hp->Nat->Prop
def runR (G:Prg) (K:RK) (dst:Option Nat) (F:Fr) (H:Hp) (n:Nat):Res->Prop
 |.ok v H' n'=>K (pt F dst v) H' n'
 |.need p r=>Nd p (runR G K dst F H n r)
 |.call f args=>TCall G f args H n fun r H' n'=>K (pt F dst r) H' n'
 |.bad=>False
def gsl (L:List Oper) (j:Nat):Option Nat:=match L[j]? with|some o=>o.dst|none=>none
def gbl (v:AV) (want:Bool):Option Bool:=match v with|.bool b=>some (b==want)|.tup []=>some false|_=>none
def wnt (L:List Oper) (F:Fr) (g:Option (Nat×Bool)):Option Bool:=match g with
 |none=>some true
 |some (j,want)=>match gsl L j with
  |some d=>gbl (gt F d) want
  |none=>none
def Spo (b:Option Bool) (p q:Prop):Prop:=match b with|some b=>Spl b p q|none=>False
@[go_sem] theorem Spo_some (b:Bool) (p q:Prop):Spo (some b) p q=Spl b p q:=propext Iff.rfl
def run (G:Prg) (L:List Oper):List Oper->Fr->Hp->Nat->RK->Prop
 |[],F,H,n,K=>K F H n
 |o::os,F,H,n,K=>Spo (wnt L F o.guard) (runR G (fun F H n=>run G L os F H n K) o.dst F H n (eo G o.op F H n)) (run G L os (pt F o.dst (.tup [])) H n K)
section
variable {G:Prg} {X:Nat->Prop} {N:Nat}
theorem S.put {ρ ρ':Rho} {n n':Nat} {F:Fr} {H H':Hp} {a:Act} {w w':World} {v:AV} {val:Value} {dst:Option Nat} (h:S X N ρ n F H a w) (hd:∀d,dst=some d->d<N)
  (hf:Fresh ρ' n') (hr:HR X ρ' w' H') (hv:VR ρ' w' (OX X ρ' H') v val) (hn:Nx ρ H w n ρ' H' w' n'):S X N ρ' n' (pt F dst v) H' (a.put dst val) w':=by
 cases dst with
 |none=>exact⟨hf,hr,fun t=>VR_carry hn.carry _ _ (h.fr t),h.df,h.sz⟩
 |some d=>
  have hd:=hd d rfl
  refine⟨hf,hr,fun t=>?_,h.df,by simp[Act.put,h.sz]⟩
  simp only[pt,gt,Act.put]
  by_cases ht:d=t
  ·subst ht
   have:d<a.tmps.size:=by rw[h.sz];exact hd
   simp only[beq_self_eq_true,cond_true]
   rw[show(a.tmps.setIfInBounds d val).getD d undef=val by simp[Array.getD,this]]
   exact hv
  ·have hb:(d==t)=false:=by simpa using ht
   simp only[hb,cond_false]
   rw [show(a.tmps.setIfInBounds d val).getD t undef=a.tmps.getD t undef by
    simp only[Array.getD_eq_getD_getElem?];rw[Array.getElem?_setIfInBounds_ne ht]]
   exact VR_carry hn.carry _ _ (h.fr t)
theorem runR_sound {ρ:Rho} {n:Nat} {F:Fr} {H:Hp} {a:Act} {w:World} {o:Oper} {K:RK} {next:Act->World->Prop} {Q':Exit->Act->World->Prop} (hs:S X N ρ n F H a w) (hd:∀d,o.dst=some d->d<N)
  (hnext:∀ρ' F' H' n' a' w',S X N ρ' n' F' H' a' w'->Nx ρ H w n ρ' H' w' n'->K F' H' n'->next a' w'):
  ∀r:Res,RS G X ρ n H w ((execOp a.eval o).run G.P w) r->runR G K o.dst F H n r->o.wp G.P a w next Q':=by
 intro r
 induction r with
 |ok v H' n'=>
  rintro⟨val,ρ',w',h1,h2,h3,h4,h5⟩ hk
  have hS:=hs.put hd h2 h3 h4 h5
  unfold Oper.wp
  rcases h1 with h1|⟨h1,rfl⟩
  ·rw[h1];exact hnext _ _ _ _ _ _ hS h5 hk
  ·rw[h1];exact hnext _ _ _ _ _ _ hS h5 hk
 |need p r ih=>intro h1 h2;exact ih (h1 h2.1) h2.2
 |call f args=>
  rintro⟨vs,h1,h2⟩ hk
  have hc:=hk X ρ w vs hs.fresh hs.hr h2
  unfold Oper.wp
  rw[h1]
  unfold CallsX at hc
  split at hc
  ·rename_i f' args' w' he
   obtain⟨rfl,hc⟩:=hc
   rw[he]
   refine hc.mono ?_
   rintro e w' ⟨v,r,ρ',H',n',rfl,k2,k3,k4,k5,k6⟩
   exact hnext _ _ _ _ _ _ (hs.put hd k2 k3 k4 k5) k5 k6
  ·rename_i v w' he
   rw[he]
   obtain⟨v,r,ρ',H',n',e,k2,k3,k4,k5,k6⟩:=hc
   cases e
   exact hnext _ _ _ _ _ _ (hs.put hd k2 k3 k4 k5) k5 k6
  ·exact hc.elim
 |bad=>intro _ h;exact h.elim
theorem wnt_ok {ρ:Rho} {n:Nat} {F:Fr} {H:Hp} {a:Act} {w:World} {ops:Array Oper} {o:Oper} {b:Bool} (hs:S X N ρ n F H a w) (h:wnt ops.toList F o.guard=some b):Region.wanted o (yielded ops a.tmps)=b:=by
 unfold wnt at h
 unfold Region.wanted
 cases hg:o.guard with
 |none=>rw[hg]at h;simpa using h
 |some p=>
  obtain⟨j,want⟩:=p
  rw[hg]at h
  dsimp only at h⊢
  cases hd:gsl ops.toList j with
  |none=>rw[hd]at h;cases h
  |some d=>
   rw[hd]at h
   dsimp only at h
   have hd':(ops[j]?).bind (·.dst)=some d:=by
    unfold gsl at hd
    simp only[Array.getElem?_toList]at hd
    cases ho:ops[j]? with
    |none=>rw[ho]at hd;cases hd
    |some o'=>rw[ho]at hd;simpa using hd
   have hf:=hs.fr d
   rw[Array.getD_eq_getD_getElem?]at hf
   unfold gbl at h
   split at h
   ·rename_i c hv
    rw[hv]at hf
    simp only[VR]at hf
    have ht:a.tmps[d]?=some (.bool c):=by
     cases hx:a.tmps[d]? with
     |none=>rw[hx]at hf;simp[undef]at hf
     |some y=>rw[hx]at hf;simpa using hf
    unfold yielded
    rw[hd']
    simp only[Option.bind_some,ht]
    simp only[Option.some.injEq]at h
    rw[<-h]
    cases c<;>cases want<;>rfl
   ·rename_i hv
    rw[hv]at hf
    simp only[VR]at hf
    obtain⟨vs,e,hvs⟩:=hf
    simp only[Option.some.injEq]at h
    rw[<-h]
    unfold yielded
    rw[hd']
    simp only[Option.bind_some]
    cases hx:a.tmps[d]? with
    |none=>rfl
    |some y=>
     rw[hx]at e
     simp only[Option.getD_some]at e
     subst e
     rfl
   ·cases h
theorem run_sound {ops:Array Oper} {K:RK} {Q':Exit->Act->World->Prop} (hN:okOps N ops=true) {ρ0:Rho} {H0:Hp} {w0:World} {n0:Nat}
  (hQ:∀ρ' F' H' n' a' w',S X N ρ' n' F' H' a' w'->Nx ρ0 H0 w0 n0 ρ' H' w' n'->K F' H' n'->Q' .normal a' w'):
  ∀(os:List Oper) (i:Nat) (F:Fr) (H:Hp) (n:Nat) (ρ:Rho) (a:Act) (w:World),ops.toList.drop i=os->S X N ρ n F H a w->Nx ρ0 H0 w0 n0 ρ H w n->
   run G ops.toList os F H n K->wpOps G.P ops Q' (List.range' i os.length) a w
 |[],i,F,H,n,ρ,a,w,_,hs,hn,hr=>hQ _ _ _ _ _ _ hs hn hr
 |o::os,i,F,H,n,ρ,a,w,hd,hs,hn,hr=>by
  have ho:ops[i]?=some o:=by
   have:(ops.toList.drop i)[0]?=some o:=by rw[hd];rfl
   rw[List.getElem?_drop]at this
   simpa using this
  have hdst:∀d,o.dst=some d->d<N:=by
   intro d hd'
   unfold okOps at hN
   rw[List.all_eq_true]at hN
   have:=hN o (by rw[List.mem_iff_getElem?];exact⟨i,by simpa using ho⟩)
   rw[hd']at this
   simpa using this
  have hd2:ops.toList.drop (i+1)=os:=by
   rw[<-List.drop_drop,hd];rfl
  simp only[List.length_cons,List.range'_succ,wpOps,ho]
  simp only[run]at hr
  cases hw:wnt ops.toList F o.guard with
  |none=>rw[hw]at hr;exact hr.elim
  |some b=>
   rw[hw]at hr
   rw[wnt_ok hs hw]
   cases b with
   |true=>
    rw[Spo_some,Spl_true]at hr
    simp only[if_true]
    refine .inl (runR_sound hs hdst (K:=fun F H n=>run G ops.toList os F H n K) ?_ _ (eo_sound o hs) hr)
    intro ρ' F' H' n' a' w' hs' hn' hk
    exact run_sound hN hQ os (i+1) F' H' n' ρ' a' w' hd2 hs' (hn.trans hn') hk
   |false=>
    rw[Spo_some,Spl_false]at hr
    simp only[Bool.false_eq_true,if_false]
    exact run_sound hN hQ os (i+1) _ H n ρ _ w hd2 (hs.put hdst hs.fresh hs.hr (by simp only[VR];exact⟨#[],rfl,by simp only[VRs]⟩) (Nx.refl ..)) hn hr
end
def DR (G:Prg) (id:Nat) (ops:Array Oper) (F:Fr) (H:Hp) (n:Nat) (Q:Post):Prop:=T G.P (.region id ops true) F H n Q
def bcnd (v:AV) (p q:Prop):Prop:=match v with|.bool b=>Spl b p q|_=>False
def vc (G:Prg):Code->Fr->Hp->Nat->Post->Prop
 |.seq a b,F,H,n,Q=>vc G a F H n fun e F H n=>match e with|.normal=>vc G b F H n Q|e=>Q e F H n
 |.region id ops d,F,H,n,Q=>bif d then DR G id ops F H n Q else run G ops.toList ops.toList F H n (fun F H n=>Q .normal F H n)
 |.cond c x y,F,H,n,Q=>bcnd (ev F c) (vc G x F H n Q) (vc G y F H n Q)
 |.block id c,F,H,n,Q=>vc G c F H n (BK id Q)
 |.exit id,F,H,n,Q=>Q (.exit id) F H n
 |.ret,F,H,n,Q=>Q .ret F H n
 |.skip,F,H,n,Q=>Q .normal F H n
 |c,F,H,n,Q=>T G.P c F H n Q
theorem vc_T {G:Prg}:∀{c:Code} {F:Fr} {H:Hp} {n:Nat} {Q:Post},vc G c F H n Q->T G.P c F H n Q
 |.seq a b,F,H,n,Q,h=>by
  simp only[vc]at h
  refine T_seq (T_mono (vc_T h) ?_)
  intro e F' H' n' _ hq
  cases e<;>simp only[SK]at* <;>first|exact vc_T hq|exact hq
 |.region id ops d,F,H,n,Q,h=>by
  simp only[vc]at h
  cases d with
  |true=>exact h
  |false=>
   simp only[cond_false]at h
   intro X N ρ a w hs hc
   simp only[codeOk]at hc
   refine wp_region ?_
   have:=run_sound (G:=G) (Q':=fun e a' w'=>∃ρ' F' H' n',S X N ρ' n' F' H' a' w'/\Nx ρ H w n ρ' H' w' n'/\Q e F' H' n') hc (ρ0:=ρ) (H0:=H) (w0:=w) (n0:=n) (fun ρ' F' H' n' a' w' h1 h2 h3=>⟨ρ',F',H',n',h1,h2,h3⟩) ops.toList 0 F H n ρ a w (by simp) hs (Nx.refl ..) h
   rw[List.range_eq_range']
   simpa using this
 |.cond c x y,F,H,n,Q,h=>by
  simp only[vc]at h
  cases hv:ev F c<;>rw[hv]at h<;>try exact h.elim
  exact T_cond hv (fun hb=>vc_T (h.1 hb)) (fun hb=>vc_T (h.2 hb))
 |.block id c,F,H,n,Q,h=>T_block (vc_T h)
 |.exit id,F,H,n,Q,h=>T_exit h
 |.ret,F,H,n,Q,h=>T_ret h
 |.skip,F,H,n,Q,h=>T_skip h
 |.loop c,F,H,n,Q,h=>h
 |.rangeFunc ..,F,H,n,Q,h=>h
 |.scope _,F,H,n,Q,h=>h
 |.label _,F,H,n,Q,h=>h
 |.goto _,F,H,n,Q,h=>h
 |.refuse _,F,H,n,Q,h=>h
section
variable {G:Prg} {L os:List Oper} {dst:Option Nat} {F:Fr} {H:Hp} {n:Nat} {K:RK}
end
def JK (K:RK) (Q:Post):Post:=fun e F H n=>match e with|.normal=>K F H n|e=>Q e F H n
def NK (Q:Post):RK:=fun F H n=>Q .normal F H n
section
variable {G:Prg} {F F':Fr} {H H':Hp} {n id:Nat} {Q:Post} {K:RK} {a b:Code} {ops:Array Oper}
theorem tr {c:Code} (h:run G ops.toList ops.toList F H n (NK Q)):T G.P (.region id ops false) F H n Q:=vc_T (by simp only[vc];exact h)
end
def kF (F:Fr):List Nat->Fr
 |[]=>[]
 |k::ks=>(k,gt F k)::kF F ks
def keepF (ks:List Nat) (F:Fr):Fr:=kF F ks
theorem keepF_sub (F:Fr):∀ks:List Nat,fsub (keepF ks F) F
 |[]=>trivial
 |_::ks=>⟨rfl,keepF_sub F ks⟩
def efr:List AV->Nat->Fr
 |[],_=>[]
 |a::az,k=>(k,a)::efr az (k+1)
def rvr (G:Prg) (F:Fr) (H:Hp) (n:Nat):ResultVar->Res
 |.tmp t=>.ok (gt F t) H n
 |.cell a t=>match G.tf t with|some i=>ldr i (gt F a) H n|none=>.bad
def rdR (K:AV->Prop):Res->Prop
 |.ok v _ _=>K v
 |.need p r=>Nd p (rdR K r)
 |_=>False
def rq (G:Prg) (F:Fr) (H:Hp) (n:Nat) (K:List AV->Prop):List ResultVar->List AV->Prop
 |[],acc=>K acc
 |r::rs,acc=>rdR (fun v=>rq G F H n K rs (acc++[v])) (rvr G F H n r)
def mkr:List AV->AV
 |[v]=>v
 |vs=>.tup vs
def Fin (Q:CPost) (v:AV) (H:Hp) (n:Nat):Prop:=∃H0,List.Sublist H0 H/\Q v H0 n
def RQ (G:Prg) (rs:Array ResultVar) (Q:CPost):Post:=fun e F H n=>match e with
 |.normal|.ret=>rq G F H n (fun vs=>Fin Q (mkr vs) H n) rs.toList []
 |_=>False
section
variable {G:Prg} {X:Nat->Prop} {N:Nat} {ρ:Rho} {n:Nat} {F:Fr} {H:Hp} {a:Act} {w:World}
theorem ldv_ok {t:Nat} {i:TI} {v:AV} {val:Value} (ht:G.tf t=some i) (hf:Fresh ρ n) (hr:HR X ρ w H) (hv:VR ρ w (OX X ρ H) v val) {K:AV->Prop} (hk:rdR K (ldr i v H n)):
  ∃u x,(do loadVar t (<-asAddr val):Sem Value).run G.P w=.ok u w/\VR ρ w (OX X ρ H) x u/\K x:=by
 unfold ldr at hk
 cases v with
 |pat cs=>
  obtain⟨⟨h1,h2⟩,hk⟩:=hk
  simp only[VR]at hv
  obtain⟨ad,rfl,hO,hb,hp⟩:=hv
  obtain⟨vs,q1,q2,q3,q4⟩:=PCs_vals hp
  simp only[Nat.zero_add]at q2
  simp only[rdR,ldo]at hk
  cases ha:i.agg with
  |true=>
   rw[ha]at hk
   have hld := run_loadCells G.P w ad (vs.take i.size) i.size (by simp; omega) (fun k hk=>by
    have hk':k<i.size/\k<vs.length:=by simp at hk;omega
    rw[q2 k hk'.2]
    congr 1
    simp[List.getD,List.getElem?_take,hk'.1])
   refine⟨.agg (vs.take i.size).toArray,_,?_,?_,hk⟩
   ·simp[asAddr,loadVar,run_isAgg ht,ha,run_sizeOf ht,hld]
   ·simp only[cond_true,VR,List.drop_zero]
    exact⟨_,rfl,fun x hx=>q4 x (List.mem_of_mem_take (by simpa using hx)),by simpa using VRs_take i.size q3⟩
  |false=>
   rw[ha]at hk
   have h0:=q2 0 (by omega)
   refine⟨vs.getD 0 undef,_,?_,?_,hk⟩
   ·simp only[asAddr,loadVar,Sem.run_bind,Sem.run_pure,Result.andThen_ok,run_isAgg ht,ha,Bool.false_eq_true,if_false,run_load]
    rw[show ad=ad.add 0 from rfl,h0]
   ·simp only[cond_false];exact VRs_get q3 0
 |ptr id o=>
  dsimp only at hk
  cases hg:hgt H id with
  |none=>rw[hg]at hk;exact hk.elim
  |some cs=>
   rw[hg]at hk
   obtain⟨⟨hl,hs⟩,hk⟩:=hk
   simp only[VR]at hv
   obtain⟨b,hb,rfl⟩:=hv
   obtain⟨b',c,e,f,k1,k2,k3,k4,k5,k6⟩:=hr.obj id cs (hgt_mem hg)
   rw[hb]at k1;cases k1
   have hcell:∀k,o+k<c.size->w.cell? ((⟨b,o,none⟩:Addr).add k)=some (c.toList.getD (o+k) undef):=fun k hk=>by
    rw[add_plain];simp[World.cell?,k2,hk]
   simp only[rdR,ldo]at hk
   cases ha:i.agg with
   |true=>
    rw[ha]at hk
    have hld := run_loadCells G.P w ⟨b, o, none⟩ ((c.toList.drop o).take i.size) i.size (by simp; omega) (fun k hk=>by
     have hk':k<i.size/\k<c.size-o:=by simp at hk;omega
     rw[hcell k (by omega)]
     congr 1
     simp[List.getD,List.getElem?_take,hk'.1])
    refine⟨.agg ((c.toList.drop o).take i.size).toArray,_,?_,?_,hk⟩
    ·simp[asAddr,loadVar,run_isAgg ht,ha,run_sizeOf ht,hld]
    ·simp only[cond_true,VR]
     refine⟨_,rfl,fun x hx=>k4 x (List.mem_of_mem_drop (List.mem_of_mem_take (by simpa using hx))),?_⟩
     have:=VRs_take i.size (VRs_drop o k6)
     rw[List.drop_take,List.take_take,Nat.min_eq_left (by omega)]at this
     simpa using this
   |false=>
    rw[ha]at hk
    refine⟨c.toList.getD o undef,_,?_,?_,hk⟩
    ·simp only[asAddr,loadVar,Sem.run_bind,Sem.run_pure,Result.andThen_ok,run_isAgg ht,ha,Bool.false_eq_true,if_false,run_load]
     have:=hcell 0 (by omega)
     rw[show(⟨b,o,none⟩:Addr).add 0=⟨b,o,none⟩from rfl]at this
     rw[this];rfl
    ·simp only[cond_false]
     have:=VRs_get k6 o
     rw[show(c.toList.take cs.length).getD o undef=c.toList.getD o undef by simp only[List.getD];rw[List.getElem?_take,if_pos (by omega)]]at this
     exact this
 |_=>exact hk.elim
def RF (f:ResultVar->Sem Value) (a:Act):Prop:=(∀t,f (.tmp t)=Pure.pure (a.tmps.getD t undef))/\∀ad t,f (.cell ad t)=(do loadVar t (<-asAddr (a.tmps.getD ad undef)))
theorem rvr_ok {r:ResultVar} {K:AV->Prop} (hs:S X N ρ n F H a w) (hk:rdR K (rvr G F H n r)):
  ∃u x,(∀f,RF f a->(f r).run G.P w=.ok u w)/\VR ρ w (OX X ρ H) x u/\K x:=by
 cases r with
 |tmp t=>exact⟨_,_,fun f hf=>by rw[hf.1];rfl,hs.fr t,hk⟩
 |cell ad t=>
  simp only[rvr]at hk
  cases ht:G.tf t with
  |none=>rw[ht]at hk;exact hk.elim
  |some i=>
   rw[ht]at hk
   obtain⟨u,x,h1,h2,h3⟩:=ldv_ok ht hs.fresh hs.hr (hs.fr ad) hk
   exact⟨u,x,fun f hf=>by rw[hf.2];exact h1,h2,h3⟩
theorem rq_ok {K:List AV->Prop} (hs:S X N ρ n F H a w):∀(rs:List ResultVar) (acc:List AV),rq G F H n K rs acc->
  ∃us xs,(∀f,RF f a->(rs.mapM f).run G.P w=.ok us w)/\VRs ρ w (OX X ρ H) xs us/\K (acc++xs)
 |[],acc,h=>⟨[],[],by simp,by simp only[VRs],by simp only[rq]at h;simpa using h⟩
 |r::rs,acc,h=>by
  simp only[rq]at h
  obtain⟨u,x,h1,h2,h3⟩:=rvr_ok hs h
  obtain⟨us,xs,k1,k2,k3⟩:=rq_ok hs rs _ h3
  refine⟨u::us,x::xs,fun f hf=>?_,by simp only[VRs];exact⟨h2,k2⟩,by simpa using k3⟩
  simp only[List.mapM_cons,Sem.run_bind,h1 f hf,Result.andThen_ok,k1 f hf,Sem.run_pure]
theorem efr_gt:∀(az:List AV) (k t:Nat),gt (efr az k) t=if k<=t then az.getD (t-k) .dead else .dead
 |[],k,t=>by simp[efr,gt]
 |a::az,k,t=>by
  simp only[efr,gt]
  by_cases h:k=t
  ·subst h;simp
  ·have hb:(k==t)=false:=by simpa using h
   rw[hb,cond_false,efr_gt az (k+1) t]
   by_cases h1:k<=t
   ·rw[if_pos (by omega),if_pos h1,show t-k=(t-(k+1))+1 by omega];simp
   ·rw[if_neg (by omega),if_neg h1]
end
mutual
def pur:AV->Bool
 |.osl .. |.ocl .. |.ptr .. |.tp .. |.tsl .. =>false
 |.agg cs|.tup cs|.fn _ cs|.pat cs=>purs cs
 |.sl _ es=>puress es
 |_=>true
def purs:List AV->Bool
 |[]=>true
 |a::az=>pur a&&purs az
def puress:List (List AV)->Bool
 |[]=>true
 |a::az=>purs a&&puress az
end
mutual
theorem pur_vr {ρ ρ':Rho} {w:World} {O:Nat->Prop}:∀(a:AV) (v:Value),pur a=true->VR ρ w O a v->VR ρ' w O a v
 |.int _ _,_,_,hv=>by simpa only[VR]using hv
 |.bool _,_,_,hv=>by simpa only[VR]using hv
 |.str _,_,_,hv=>by simpa only[VR]using hv
 |.raw _,_,_,hv=>by simpa only[VR]using hv
 |.agg cs,_,hp,hv=>by
  simp only[VR,pur]at hv hp⊢
  obtain⟨vs,e,h0,h1⟩:=hv
  exact⟨vs,e,h0,purs_vr cs _ hp h1⟩
 |.tup cs,_,hp,hv=>by
  simp only[VR,pur]at hv hp⊢
  obtain⟨vs,e,h1⟩:=hv
  exact⟨vs,e,purs_vr cs _ hp h1⟩
 |.fn f cs,_,hp,hv=>by
  simp only[VR,pur]at hv hp⊢
  obtain⟨vs,e,h1⟩:=hv
  exact⟨vs,e,purs_vr cs _ hp h1⟩
 |.sl s es,_,hp,hv=>by
  simp only[VR,pur]at hv hp⊢
  obtain⟨A,c,e,hc,h1⟩:=hv
  refine⟨A,c,e,hc,fun hne=>?_⟩
  obtain⟨a,ha,hO,hb,h2⟩:=h1 hne
  exact⟨a,ha,hO,hb,purPE_vr s es a 0 hp h2⟩
 |.pat cs,_,hp,hv=>by
  simp only[VR,pur]at hv hp⊢
  obtain⟨a,e,hO,hb,h2⟩:=hv
  exact⟨a,e,hO,hb,purPC_vr cs a 0 hp h2⟩
 |.osl ..,_,hp,_=>by simp[pur]at hp
 |.ocl ..,_,hp,_=>by simp[pur]at hp
 |.ptr ..,_,hp,_=>by simp[pur]at hp
 |.tp ..,_,hp,_=>by simp[pur]at hp
 |.tsl ..,_,hp,_=>by simp[pur]at hp
 |.nils,_,_,hv=>by simpa only[VR]using hv
 |.nilp,_,_,hv=>by simpa only[VR]using hv
 |.dead,_,_,_=>by simp only[VR]
theorem purs_vr {ρ ρ':Rho} {w:World} {O:Nat->Prop}:∀(az:List AV) (vs:List Value),purs az=true->VRs ρ w O az vs->VRs ρ' w O az vs
 |[],[],_,_=>by simp only[VRs]
 |a::az,v::vs,hp,hv=>by
  simp only[VRs,purs,Bool.and_eq_true]at hv hp⊢
  exact⟨pur_vr a v hp.1 hv.1,purs_vr az vs hp.2 hv.2⟩
 |[],_::_,_,hv=>by simp only[VRs]at hv
 |_::_,[],_,hv=>by simp only[VRs]at hv
theorem purPC_vr {ρ ρ':Rho} {w:World} {O:Nat->Prop}:∀(cs:List AV) (a:Addr) (j:Nat),purs cs=true->PCs ρ w O cs a j->PCs ρ' w O cs a j
 |[],_,_,_,_=>by simp only[PCs]
 |c::cs,a,j,hp,hv=>by
  simp only[PCs,purs,Bool.and_eq_true]at hv hp⊢
  obtain⟨⟨v,h1,h0,h2⟩,h3⟩:=hv
  exact⟨⟨v,h1,h0,pur_vr c v hp.1 h2⟩,purPC_vr cs a (j+1) hp.2 h3⟩
theorem purPE_vr {ρ ρ':Rho} {w:World} {O:Nat->Prop}:∀(s:Nat) (es:List (List AV)) (a:Addr) (i:Nat),puress es=true->PEs ρ w O s es a i->PEs ρ' w O s es a i
 |_,[],_,_,_,_=>by simp only[PEs]
 |s,cs::es,a,i,hp,hv=>by
  simp only[PEs,puress,Bool.and_eq_true]at hv hp⊢
  exact⟨hv.1,purPC_vr cs a _ hp.1 hv.2.1,purPE_vr s es a _ hp.2 hv.2.2⟩
end
def PC (G:Prg) (f:Nat) (args:List AV) (R:AV->Prop):Prop:=
 ∀ρ n X w (vs:Array Value),Fresh ρ n->(∀b,X b->b<w.heap.size)->VRs ρ w X args vs.toList->
  CallsX G.P f vs w fun e w'=>∃v r,e=.returned v/\R r/\VR ρ w' X r v/\Ext (fun _=>False) w w'
theorem OX_nil (X:Nat->Prop) (ρ:Rho):OX X ρ []=X:=by funext b;simp[OX,Own,ids]
theorem PC.use {G:Prg} {f:Nat} {args:List AV} {R:AV->Prop} {H:Hp} {n:Nat} {Q:CPost} (h:PC G f args R) (hq:∀r,R r->Q r H n):TCall G f args H n Q:=by
 intro X ρ w vs hf hr hv
 refine(h ρ n (OX X ρ H) w vs hf (fun b hb=>hr.ox_old hb) hv).mono ?_
 rintro e w' ⟨v,r,rfl,k1,k2,k3⟩
 have hcar:Carry ρ ρ w w' (OX X ρ H) (OX X ρ H):=⟨fun _ _ h=>h,k3.size,fun b hb _=>k3.keep b hb (fun h=>h),k3.shape,fun _ _ h=>h⟩
 refine⟨v,r,ρ,H,n,rfl,hf,hr.carry hcar (fun _ _=>rfl) (fun b hb=>k3.keep b (hr.own_old hb) fun h=>h),k2,⟨fun _ _ h=>h,Nat.le_refl _,k3.mono fun _ _ h=>h.elim,fun b hb=>.inl hb⟩,hq r k1⟩
abbrev PE (G:Prg) (f:Nat) (args:List AV) (r:AV):Prop:=PC G f args (·=r)
theorem PE.use {G:Prg} {f:Nat} {args:List AV} {r:AV} {H:Hp} {n:Nat} {Q:CPost} (h:PE G f args r) (hq:Q r H n):TCall G f args H n Q:=PC.use h fun _ e=>e▸hq
theorem wrap64 {x:Int} (h: -9223372036854775808<=x) (k:x<=9223372036854775807):IntKind.i64.wrap x=x:=by
 unfold IntKind.wrap
 have e1:(2^IntKind.i64.bits:Int)=18446744073709551616:=by decide
 have e2:(2^(IntKind.i64.bits-1):Int)=9223372036854775808:=by decide
 simp only[e1,e2,IntKind.signed,Bool.true_and,Bool.false_and,decide_eq_true_eq,Bool.false_eq_true,if_false]
 split<;>omega
theorem wrap8 {x:Int} (h:0<=x) (k:x<=255):IntKind.u8.wrap x=x:=by
 unfold IntKind.wrap
 have e1:(2^IntKind.u8.bits:Int)=256:=by decide
 have e2:(2^(IntKind.u8.bits-1):Int)=128:=by decide
 simp only[e1,e2,IntKind.signed,Bool.true_and,Bool.false_and,decide_eq_true_eq,Bool.false_eq_true,if_false]
 omega
theorem wrapu64 {x:Int} (h:0<=x) (k:x<=18446744073709551615):IntKind.u64.wrap x=x:=by
 unfold IntKind.wrap
 have e1:(2^IntKind.u64.bits:Int)=18446744073709551616:=by decide
 have e2:(2^(IntKind.u64.bits-1):Int)=9223372036854775808:=by decide
 simp only[e1,e2,IntKind.signed,Bool.true_and,Bool.false_and,decide_eq_true_eq,Bool.false_eq_true,if_false]
 omega
attribute [go_sem] wrap64 wrap8 wrapu64
attribute [go_sem] keepF gt ev cav pt wnt gsl gbl rvr rdR rq mkr RQ efr eo evs evp evo
attribute [go_sem] slcl slnil slc2 slc3 apt bxp apcr capr ldr str bldr blsr ixs ixa slrs slrl slr extr nck lenr minr maxr srct app2 app1 appr bir calr cvr elk bo uo fae iae sle bnd avlen ldo cl okc bld bpl okt sz hgt hset hdel srcc srcn apd zrs fsub
attribute [go_sem] cond_true cond_false beq_self_eq_true List.getElem?_cons_zero List.getElem?_cons_succ List.getElem?_nil List.getD_cons_zero List.getD_cons_succ List.drop_succ_cons List.drop_zero List.drop_nil List.take_succ_cons List.take_zero List.take_nil
attribute [go_sem] List.length_cons List.length_nil List.cons_append List.nil_append List.append_nil List.length_map List.map_cons List.map_nil List.flatten_cons List.flatten_nil List.replicate_succ List.replicate_zero List.all_cons List.all_nil List.isEmpty_nil List.isEmpty_cons Option.isSome_some
attribute [go_sem] Bool.and_true Bool.true_and Bool.and_false Bool.false_and Bool.or_true Bool.true_or Bool.or_false Bool.false_or Bool.not_true Bool.not_false Bool.not_not beq_true beq_false Bool.true_beq Bool.false_beq decide_true decide_false
attribute [go_sem] Int.toNat_zero Int.toNat_one
attribute [go_sem] ne_eq not_false_eq_true not_true_eq_false true_and and_true and_self Int.toNat_natCast Nat.add_zero Nat.zero_add reduceCtorEq if_true if_false Nat.ble_eq
open Go Go.Proofs
def tyl : List (Nat × TI) := [
 (2,⟨1,8,false,[.int .i64 0],.int .i64⟩),
 (3,⟨1,8,false,[.int .i64 0],.int .i64⟩),
 (4,⟨1,1,false,[.bool false],.bool⟩),
 (5,⟨1,1,false,[.int .u8 0],.int .u8⟩),
 (6,⟨1,1,false,[.int .u8 0],.int .u8⟩),
 (7,⟨4,24,true,[.int .i64 0,.int .i64 0,.bool false,.int .u8 0],.struct [(0,2),(1,3),(2,4),(3,6)]⟩),
 (8,⟨4,24,true,[.int .i64 0,.int .i64 0,.bool false,.int .u8 0],.struct [(0,2),(1,3),(2,4),(3,6)]⟩),
 (9,⟨1,16,false,[.str []],.str⟩),
 (10,⟨1,16,false,[.str []],.str⟩),
 (11,⟨1,16,false,[.str []],.str⟩),
 (12,⟨1,8,false,[.int .u64 0],.int .u64⟩),
 (13,⟨2,24,true,[.str [],.int .u64 0],.struct [(0,9),(1,12)]⟩),
 (14,⟨2,24,true,[.str [],.int .u64 0],.struct [(0,9),(1,12)]⟩),
 (15,⟨1,8,false,[.nilp],.ptr 196⟩),
 (16,⟨1,8,false,[.nilp],.ptr 199⟩),
 (17,⟨1,8,false,[.nilp],.ptr 207⟩),
 (18,⟨1,8,true,[.nilp],.struct [(0,17)]⟩),
 (19,⟨1,8,true,[.nilp],.struct [(0,17)]⟩),
 (21,⟨1,4,false,[.int .i32 0],.int .i32⟩),
 (22,⟨1,24,false,[.nils],.slice 97⟩),
 (23,⟨2,32,true,[.int .i64 0,.nils],.struct [(0,3),(1,22)]⟩),
 (24,⟨2,32,true,[.int .i64 0,.nils],.struct [(0,3),(1,22)]⟩),
 (25,⟨1,24,false,[.nils],.slice 9⟩),
 (26,⟨1,24,false,[.nils],.slice 28⟩),
 (27,⟨5,80,true,[.bool false,.int .i64 0,.str [],.nils,.nils],.struct [(0,4),(1,3),(2,9),(3,25),(4,26)]⟩),
 (28,⟨5,80,true,[.bool false,.int .i64 0,.str [],.nils,.nils],.struct [(0,4),(1,3),(2,9),(3,25),(4,26)]⟩),
 (29,⟨5,80,true,[.int .i64 0,.nils,.nils,.int .i64 0,.str []],.struct [(0,3),(1,25),(2,25),(3,3),(4,9)]⟩),
 (30,⟨5,80,true,[.int .i64 0,.nils,.nils,.int .i64 0,.str []],.struct [(0,3),(1,25),(2,25),(3,3),(4,9)]⟩),
 (34,⟨1,24,false,[.nils],.slice 72⟩),
 (35,⟨2,32,true,[.int .i64 0,.nils],.struct [(0,3),(1,34)]⟩),
 (36,⟨2,32,true,[.int .i64 0,.nils],.struct [(0,3),(1,34)]⟩),
 (40,⟨1,24,false,[.nils],.slice 42⟩),
 (41,⟨5,80,true,[.bool false,.int .i64 0,.str [],.nils,.nils],.struct [(0,4),(1,3),(2,9),(3,25),(4,40)]⟩),
 (42,⟨5,80,true,[.bool false,.int .i64 0,.str [],.nils,.nils],.struct [(0,4),(1,3),(2,9),(3,25),(4,40)]⟩),
 (44,⟨5,80,true,[.int .i64 0,.nils,.nils,.int .i64 0,.str []],.struct [(0,3),(1,25),(2,25),(3,3),(4,9)]⟩),
 (53,⟨1,24,false,[.nils],.slice 86⟩),
 (55,⟨1,24,false,[.nils],.slice 91⟩),
 (71,⟨2,32,true,[.int .i64 0,.nils],.struct [(0,3),(1,25)]⟩),
 (72,⟨2,32,true,[.int .i64 0,.nils],.struct [(0,3),(1,25)]⟩),
 (85,⟨2,32,true,[.nils,.bool false],.struct [(0,25),(1,4)]⟩),
 (86,⟨2,32,true,[.nils,.bool false],.struct [(0,25),(1,4)]⟩),
 (91,⟨2,32,true,[.nils,.bool false],.struct [(0,25),(1,4)]⟩),
 (97,⟨2,32,true,[.int .i64 0,.nils],.struct [(0,3),(1,25)]⟩),
 (99,⟨1,24,false,[.nils],.slice 25⟩),
 (121,⟨1,8,false,[.nilp],.ptr 42⟩),
 (146,⟨1,8,false,[.int .u64 0],.int .u64⟩),
 (148,⟨1,24,false,[.nils],.slice 5⟩),
 (161,⟨1,8,false,[.int .i64 0],.int .i64⟩),
 (168,⟨1,4,false,[.int .u32 0],.int .u32⟩),
 (170,⟨1,8,false,[.int .u64 0],.int .u64⟩),
 (180,⟨1,8,false,[.int .u64 0],.int .u64⟩),
 (184,⟨1,8,false,[.nilp],.ptr 3⟩),
 (188,⟨1,8,false,[.nilp],.ptr 180⟩),
 (195,⟨4,40,true,[.nilp,.nilp,.nilp,.str []],.struct [(0,17),(1,17),(2,17),(3,9)]⟩),
 (196,⟨4,40,true,[.nilp,.nilp,.nilp,.str []],.struct [(0,17),(1,17),(2,17),(3,9)]⟩),
 (197,⟨0,0,true,[],.array 0 16⟩),
 (198,⟨0,0,true,[],.struct [(0,197)]⟩),
 (199,⟨0,0,true,[],.struct [(0,197)]⟩),
 (200,⟨1,1,false,[.int .u8 0],.int .u8⟩),
 (201,⟨1,1,false,[.int .u8 0],.int .u8⟩),
 (203,⟨1,8,false,[.nilp],.ptr 5⟩),
 (204,⟨1,4,false,[.int .i32 0],.int .i32⟩),
 (205,⟨1,4,false,[.int .i32 0],.int .i32⟩),
 (206,⟨11,48,true,[.int .u64 0,.int .u64 0,.int .u32 0,.int .u8 0,.int .u8 0,.int .u8 0,.int .u8 0,.dead,.nilp,.int .i32 0,.int .i32 0],.struct [(0,12),(1,12),(2,168),(3,200),(4,5),(5,5),(6,201),(7,202),(8,203),(9,204),(10,205)]⟩),
 (207,⟨11,48,true,[.int .u64 0,.int .u64 0,.int .u32 0,.int .u8 0,.int .u8 0,.int .u8 0,.int .u8 0,.dead,.nilp,.int .i32 0,.int .i32 0],.struct [(0,12),(1,12),(2,168),(3,200),(4,5),(5,5),(6,201),(7,202),(8,203),(9,204),(10,205)]⟩)]
theorem tyl_ok:(tyl.all fun p=>tchk Tryz.prog p.1 p.2)=true:=by kernel_rfl
noncomputable def G:Prg:=⟨Tryz.prog,lk tyl,lk_ok tyl_ok,by kernel_rfl⟩
@[go_sem] theorem t9:G.tf 9=some ⟨1,16,false,[.str []],.str⟩:=rfl
@[go_sem] theorem t25:G.tf 25=some ⟨1,24,false,[.nils],.slice 9⟩:=rfl
@[go_sem] theorem t40:G.tf 40=some ⟨1,24,false,[.nils],.slice 42⟩:=rfl
@[go_sem] theorem t42:G.tf 42=some ⟨5,80,true,[.bool false,.int .i64 0,.str [],.nils,.nils],.struct [(0,4),(1,3),(2,9),(3,25),(4,40)]⟩:=rfl
def rdo:Op->List Operand
 |.move x|.assign x|.box _ x|.load _ x|.nilCheck x|.unOp _ _ x|.convert _ _ x|.fieldAddr _ x _|.field _ x _|.extract x _=>[x]
 |.pick c a b=>[c,a,b]
 |.build _ ps|.buildSlice _ _ ps=>ps.toList.map (·.2)
 |.store _ a v|.binOp _ _ a v _|.indexAddr _ a v|.index _ a v|.makeSlice _ a v=>[a,v]
 |.makeFunc _ _ caps=>caps.toList
 |.slice _ x lo hi m=>x::(lo.toList++(hi.toList++m.toList))
 |.call c=>match c.callee with|.value f=>f::c.args.toList|_=>c.args.toList
 |_=>[]
section
variable {G:Prg} {F F':Fr} {H:Hp} {n:Nat}
theorem evs_congr:∀(xs:List Operand),(∀x,x∈xs->ev F x=ev F' x)->evs F xs=evs F' xs
 |[],_=>rfl
 |x::xs,h=>by simp only[evs];rw[h x (by simp),evs_congr xs fun y hy=>h y (by simp[hy])]
theorem evp_congr:∀(xs:List (Nat×Operand)),(∀x,x∈xs.map (·.2)->ev F x=ev F' x)->evp F xs=evp F' xs
 |[],_=>rfl
 |(i,x)::xs,h=>by simp only[evp];rw[h x (by simp),evp_congr xs fun y hy=>h y (by simp only[List.map_cons,List.mem_cons];exact .inr hy)]
theorem evo_congr:∀(x:Option Operand),(∀y,y∈x.toList->ev F y=ev F' y)->evo F x=evo F' x
 |none,_=>rfl
 |some x,h=>by simp only[evo];rw[h x (by simp)]
theorem eo_congr {op:Op} (h:∀x,x∈rdo op->ev F x=ev F' x):eo G op F H n=eo G op F' H n:=by
 cases op<;>simp only[rdo,eo,List.mem_cons,List.not_mem_nil,or_false,forall_eq_or_imp,forall_eq]at h⊢
 all_goals first
  |rfl
  |rw[h]
  |rw[h.1,h.2]
  |rw[h.1,h.2.1,h.2.2]
  |rw[evp_congr _ h]
  |rw[evs_congr _ h]
  |skip
 case slice t x lo hi m=>
  cases m with
  |some m=>
   dsimp only
   rw[h.1,evo_congr lo fun y hy=>h.2 y (by simp[hy]),evo_congr hi fun y hy=>h.2 y (by simp[hy]),h.2 m (by simp)]
  |none=>
   dsimp only
   rw[h.1,evo_congr lo fun y hy=>h.2 y (by simp[hy]),evo_congr hi fun y hy=>h.2 y (by simp[hy])]
 case call c=>
  obtain⟨cal,args,ats⟩:=c
  cases cal with
  |builtin b=>dsimp only at h⊢;rw[evs_congr _ h]
  |value f=>dsimp only at h⊢;rw[h f (by simp),evs_congr _ fun y hy=>h y (by simp[hy])]
  |invoke _ _=>rfl
end
def isR:Op->Bool
 |.move _|.assign _|.pick .. |.build .. |.load .. |.nilCheck .. |.binOp .. |.unOp .. |.convert .. |.slice .. |.fieldAddr .. |.field .. |.indexAddr .. |.index .. |.extract .. =>true
 |.call c=>match c.callee with|.builtin .len|.builtin .min|.builtin .max=>true|_=>false
 |_=>false
def isM:Op->Bool
 |.alloc _=>true
 |_=>false
theorem isM_R {op:Op} (h:isM op=true):isR op=false:=by cases op<;>simp_all[isM,isR]
theorem isM_alloc {op:Op} (h:isM op=true):∃t,op=.alloc t:=by cases op<;>simp_all[isM]
def rR (r:Res) (H:Hp) (n:Nat) (K:AV->Prop):Prop:=match r with
 |.ok v H' n'=>H'=H/\n'=n/\K v
 |.need p r=>Nd p (rR r H n K)
 |_=>False
theorem rR_mono {K K':AV->Prop} (hk:∀v,K v->K' v) {H:Hp} {n:Nat}:∀{r:Res},rR r H n K->rR r H n K'
 |.ok v H' n',h=>⟨h.1,h.2.1,hk _ h.2.2⟩
 |.need p r,h=>⟨h.1,rR_mono hk h.2⟩
 |.call ..,h=>h.elim
 |.bad,h=>h.elim
theorem rR_run {G:Prg} {K:AV->Prop} {H:Hp} {n:Nat} {dst:Option Nat} {F:Fr}:∀{r:Res},rR r H n K->runR G (fun F' H' n'=>∃v,F'=pt F dst v/\H'=H/\n'=n/\K v) dst F H n r
 |.ok v H' n',h=>⟨v,rfl,h.1,h.2.1,h.2.2⟩
 |.need p r,h=>⟨h.1,rR_run h.2⟩
 |.call ..,h=>h.elim
 |.bad,h=>h.elim
def slt (xs:List Operand):List Nat:=xs.filterMap fun|.tmp t=>some t|_=>none
theorem ev_slt {F F':Fr} {xs:List Operand} (h:∀t,t∈slt xs->gt F t=gt F' t):∀x,x∈xs->ev F x=ev F' x:=by
 intro x hx
 cases x with
 |tmp t=>exact h t (List.mem_filterMap.2 ⟨_,hx,rfl⟩)
 |_=>rfl
def rds (L:List Oper) (o:Oper):List Nat:=slt (rdo o.op)++match o.guard with|some (j,_)=>(gsl L j).toList|none=>[]
theorem wnt_congr {L:List Oper} {F F':Fr} {o:Oper} (h:∀t,t∈rds L o->gt F t=gt F' t):wnt L F o.guard=wnt L F' o.guard:=by
 unfold wnt
 cases hg:o.guard with
 |none=>rfl
 |some p=>
  obtain⟨j,want⟩:=p
  dsimp only
  cases hd:gsl L j with
  |none=>rfl
  |some d=>dsimp only;rw[h d (by simp[rds,hg,hd])]
theorem eo_rds {G:Prg} {L:List Oper} {F F':Fr} {o:Oper} {H:Hp} {n:Nat} (h:∀t,t∈rds L o->gt F t=gt F' t):eo G o.op F H n=eo G o.op F' H n:=
 eo_congr (ev_slt fun t ht=>h t (by simp[rds,ht]))
def prs (o:Oper):List Nat:=o.after.toList.filterMap fun e=>bif Region.binds .any e then some e.on else none
def orm (B:List Nat):List Nat->Nat
 |[]=>0
 |j::js=>(1<<<j)|||(B.getD j 0|||orm B js)
def okB (B:List Nat) (L:List Oper):Bool:=(List.range L.length).all fun i=>match L[i]? with|some o=>(prs o).all (fun j=>Nat.blt j i)&&Nat.beq (B.getD i 0) (orm B (prs o))|none=>true
theorem orm_bit {B:List Nat} {j:Nat}:∀{ps:List Nat},(orm B ps).testBit j=true->∃k,k∈ps/\(j=k\/(B.getD k 0).testBit j=true)
 |[],h=>by simp[orm]at h
 |k::ps,h=>by
  simp only[orm,Nat.testBit_or,Bool.or_eq_true]at h
  rcases h with h|h|h
  ·rw[Nat.shiftLeft_eq,Nat.one_mul,Nat.testBit_two_pow]at h
   exact⟨k,by simp,.inl (by simpa using h:k=j).symm⟩
  ·exact⟨k,by simp,.inr h⟩
  ·obtain⟨k',h1,h2⟩:=orm_bit h
   exact⟨k',by simp[h1],h2⟩
theorem okB_at {B:List Nat} {L:List Oper} (h:okB B L=true) {i:Nat} {o:Oper} (ho:L[i]?=some o):(∀j,j∈prs o->j<i)/\B.getD i 0=orm B (prs o):=by
 unfold okB at h
 rw[List.all_eq_true]at h
 have hi:=(List.getElem?_eq_some_iff.1 ho).1
 have:=h i (by simp[hi])
 rw[ho]at this
 simp only[Bool.and_eq_true,List.all_eq_true]at this
 exact⟨fun j hj=>by have:=this.1 j hj;rwa[Nat.blt_eq]at this,Nat.eq_of_beq_eq_true this.2⟩
theorem ahead {B:List Nat} {L:List Oper} (h:okB B L=true) {lst:Nat->Prop} (hc:∀k o,L[k]?=some o->lst k->∀j,j∈prs o->lst j):
  ∀(i:Nat) (o:Oper),L[i]?=some o->(∀j,j∈prs o->lst j)->∀j,(B.getD i 0).testBit j=true->lst j:=by
 intro i
 induction i using Nat.strongRecOn with
 |_ i ih=>
  intro o ho hp j hj
  obtain⟨h1,h2⟩:=okB_at h ho
  rw[h2]at hj
  obtain⟨k,hk,hjk⟩:=orm_bit hj
  rcases hjk with rfl|hjk
  ·exact hp _ hk
  ·have hki:=h1 k hk
   have hkl:k<L.length:=Nat.lt_trans hki (List.getElem?_eq_some_iff.1 ho).1
   exact ih k hki L[k] (List.getElem?_eq_getElem hkl) (hc k _ (List.getElem?_eq_getElem hkl) (hp k hk)) j hjk
def nbl (o:Oper) (i:Nat) (bl:List Nat):List Nat:=bif isR o.op then bl else bif isM o.op then i::bl else[i]
def okO (L:List Oper) (B:List Nat):List Nat->List Nat->List Nat->Bool
 |[],_,_=>true
 |i::is,seen,bl=>match L[i]? with
  |none=>false
  |some o=>(List.range L.length).all (fun j=> !(B.getD i 0).testBit j||seen.contains j)&&(!seen.contains i&&((isM o.op&&o.guard.isNone|| !isM o.op&&bl.all fun b=>(B.getD i 0).testBit b)&&okO L B is (i::seen) (nbl o i bl)))
def okRd (L:List Oper) (B:List Nat):Bool:=(List.range L.length).all fun i=>match L[i]? with
 |some o=>(rds L o).all fun t=>(List.range L.length).all fun j=>match L[j]? with
  |some o'=>(match o'.dst with|some d=> !Nat.beq d t|none=>true)||(B.getD i 0).testBit j
  |none=>true
 |none=>true
def okDs (L:List Oper):Bool:=(List.range L.length).all fun i=>match L[i]? with
 |some o=>(List.range L.length).all fun j=>match L[j]? with
  |some o'=>Nat.beq i j||(match o.dst,o'.dst with|some d,some d'=> !Nat.beq d d'|_,_=>true)
  |none=>true
 |none=>true
def okD (L:List Oper) (B:List Nat) (ord:List Nat):Bool:=
 okB B L&&(okO L B ord [] []&&(okRd L B&&(okDs L&&((List.range L.length).all fun i=>ord.contains i))))
def st1 (G:Prg) (L:List Oper) (F:Fr) (H:Hp) (n:Nat) (o:Oper):Prop:=Spo (wnt L F o.guard) (rR (eo G o.op F H n) H n fun v=>match o.dst with|some d=>v=gt F d|none=>True) True
def stb (G:Prg) (L:List Oper) (F:Fr) (H:Hp) (n:Nat):List Nat->Prop
 |[]=>True
 |j::js=>(match L[j]? with|some o=>st1 G L F H n o|none=>True)/\stb G L F H n js
theorem stb_at {G:Prg} {L:List Oper} {F:Fr} {H:Hp} {n:Nat}:∀{us:List Nat},stb G L F H n us->∀j o,j∈us->L[j]?=some o->st1 G L F H n o
 |[],_,j,o,hj,_=>by simp at hj
 |k::us,h,j,o,hj,ho=>by
  rcases List.mem_cons.1 hj with rfl|hj
  ·have:=h.1;rw[ho]at this;exact this
  ·exact stb_at h.2 j o hj ho
def runC (G:Prg) (L:List Oper) (B:List Nat):List Nat->List Nat->Fr->Hp->Nat->RK->Prop
 |[],_,F,H,n,K=>K F H n
 |i::is,dn,F,H,n,K=>match L[i]? with
  |none=>False
  |some o=>Spo (wnt L F o.guard)
   (bif isR o.op then rR (eo G o.op F H n) H n (fun v=>runC G L B is (i::dn) (pt F o.dst v) H n K)
    else runR G (fun F' H' n'=>stb G L F' H' n' (dn.filter fun j=> !(B.getD i 0).testBit j)/\runC G L B is dn F' H' n' K) o.dst F H n (eo G o.op F H n))
   (runC G L B is (bif isR o.op then i::dn else dn) (pt F o.dst (.tup [])) H n K)
def P4 (G:Prg) (L:List Oper) (F:Fr) (H:Hp) (n:Nat) (o:Oper):Prop:=
 (wnt L F o.guard=some true/\rR (eo G o.op F H n) H n (fun v=>match o.dst with|some d=>v=gt F d|none=>True))\/(wnt L F o.guard=some false/\∀d,o.dst=some d->gt F d=.tup [])
theorem P4_congr {G:Prg} {L:List Oper} {F F':Fr} {H:Hp} {n:Nat} {o:Oper} (h:∀t,t∈rds L o->gt F t=gt F' t) (hd:∀d,o.dst=some d->gt F d=gt F' d) (k:P4 G L F H n o):P4 G L F' H n o:=by
 unfold P4 at*
 rw[<-wnt_congr h,<-eo_rds h]
 rcases k with ⟨k1,k2⟩|⟨k1,k2⟩
 ·refine .inl ⟨k1,rR_mono (fun v hv=>?_) k2⟩
  cases hx:o.dst with
  |none=>trivial
  |some d=>rw[hx]at hv;dsimp only at hv⊢;rw[<-hd d hx];exact hv
 ·exact .inr ⟨k1,fun d hx=>by rw[<-hd d hx];exact k2 d hx⟩
theorem pt_gt {F:Fr} {dst:Option Nat} {v:AV} {t:Nat} (h:∀d,dst=some d->d≠t):gt (pt F dst v) t=gt F t:=by
 cases dst with
 |none=>rfl
 |some d=>
  have:(d==t)=false:=by simpa using h d rfl
  simp[pt,gt,this]
theorem pt_at {F:Fr} {d:Nat} {v:AV}:gt (pt F (some d) v) d=v:=by simp[pt,gt]
theorem nbq {a b:Nat} (h:a≠b):Nat.beq a b=false:=by
 cases hb:Nat.beq a b
 ·rfl
 ·exact absurd (Nat.eq_of_beq_eq_true hb) h
theorem countP_lt {p q:Nat->Bool} {i:Nat} (hpq:∀j,q j=true->p j=true) (hp:p i=true) (hq:q i=false):∀{l:List Nat},i∈l->l.countP q<l.countP p
 |[],h=>by simp at h
 |j::l,h=>by
  have hle:l.countP q<=l.countP p:=List.countP_mono_left fun x _ hx=>hpq x hx
  rcases List.mem_cons.1 h with rfl|h
  ·rw[List.countP_cons,List.countP_cons];simp only[hp,hq];simp;omega
  ·have:=countP_lt hpq hp hq h
   rw[List.countP_cons,List.countP_cons]
   by_cases hj:q j=true
   ·simp only[hj,hpq j hj];simp;omega
   ·by_cases hp':p j=true<;>simp[hj,hp']<;>omega
def msq (L:List Oper) (q:Nat->Bool) (t:Nat):Bool:=(List.range L.length).all fun j=>match L[j]? with
 |some o=>(match o.dst with|some d=> !Nat.beq d t|none=>true)||q j
 |none=>true
def msk (L:List Oper) (q:Nat->Bool) (F:Fr):Fr:=F.filter fun p=>msq L q p.1
theorem gt_filter {q:Nat->Bool}:∀(F:Fr) (t:Nat),gt (F.filter fun p=>q p.1) t=if q t=true then gt F t else .dead
 |[],t=>by simp[gt]
 |(k,v)::F,t=>by
  simp only[List.filter_cons]
  by_cases hk:k=t
  ·subst hk
   by_cases hq:q k=true
   ·rw[if_pos hq];simp[gt,hq]
   ·rw[if_neg hq,gt_filter F k];simp[hq]
  ·have hb:(k==t)=false:=by simpa using hk
   by_cases hq:q k=true
   ·rw[if_pos hq];simp only[gt,hb,cond_false];exact gt_filter F t
   ·rw[if_neg hq,gt_filter F t];simp only[gt,hb,cond_false]
theorem gt_msk {L:List Oper} {q:Nat->Bool} {F:Fr} {t:Nat} (h:∀j o,L[j]?=some o->o.dst=some t->q j=true):gt (msk L q F) t=gt F t:=by
 rw[show msk L q F=F.filter _ from rfl,gt_filter (q:=msq L q) F t,if_pos]
 unfold msq
 rw[List.all_eq_true]
 intro j _
 cases ho:L[j]? with
 |none=>rfl
 |some o=>
  dsimp only
  cases hd:o.dst with
  |none=>simp
  |some d=>
   by_cases e:d=t
   ·subst e;simp only[h j o ho hd,Bool.or_true]
   ·simp only[nbq e,Bool.not_false,Bool.true_or]
theorem gt_msk' {L:List Oper} {q:Nat->Bool} {F:Fr} {t:Nat}:gt (msk L q F) t=gt F t\/gt (msk L q F) t=.dead:=by
 rw[show msk L q F=F.filter _ from rfl,gt_filter (q:=msq L q) F t]
 split<;>simp
theorem msk_dead {L:List Oper} {q:Nat->Bool} {F:Fr} {t j:Nat} {o:Oper} (ho:L[j]?=some o) (hd:o.dst=some t) (hl:q j=false):gt (msk L q F) t=.dead:=by
 rw[show msk L q F=F.filter _ from rfl,gt_filter (q:=msq L q) F t,if_neg]
 intro h
 unfold msq at h
 rw[List.all_eq_true]at h
 have:=h j (by simp[(List.getElem?_eq_some_iff.1 ho).1])
 rw[ho]at this
 simp[hd,hl]at this
theorem S.re {X:Nat->Prop} {N n:Nat} {ρ:Rho} {F F':Fr} {H:Hp} {a:Act} {w:World} (h:S X N ρ n F H a w) (hf:∀t,gt F' t=.dead\/gt F' t=gt F t):S X N ρ n F' H a w:=by
 refine⟨h.fresh,h.hr,fun t=>?_,h.df,h.sz⟩
 rcases hf t with e|e
 ·rw[e];simp only[VR]
 ·rw[e];exact h.fr t
section
variable {G:Prg} {ops:Array Oper} {ord:List Nat}
structure At (G:Prg) (ops:Array Oper) (B:List Nat) (listed:Array Bool) (seen rest dn bl:List Nat) (F:Fr) (H:Hp) (n:Nat) (K:RK):Prop where
 ok:okO ops.toList B rest seen bl=true
 cov:∀i,i<ops.size->i∈seen\/i∈rest
 dnR:∀j,j∈dn->j∈seen/\∃o,ops.toList[j]?=some o/\isR o.op=true/\(listed.getD j false=false->P4 G ops.toList F H n o)
 sR:∀j o,j∈seen->ops.toList[j]?=some o->(isR o.op=true->j∈dn)/\(isR o.op=false->listed.getD j false=true)
 ls:∀j,listed.getD j false=true->j∈seen\/∃o,ops.toList[j]?=some o/\isM o.op=true
 blS:∀b,b∈bl->b∈seen
 pre:∀j,j∈seen->∀k,(B.getD j 0).testBit k=true->k∈seen
 kk:runC G ops.toList B rest dn F H n K
theorem okRd_at {L:List Oper} {B:List Nat} (h:okRd L B=true) {i j t:Nat} {o o':Oper} (ho:L[i]?=some o) (ho':L[j]?=some o') (ht:t∈rds L o) (hd:o'.dst=some t):(B.getD i 0).testBit j=true:=by
 unfold okRd at h
 rw[List.all_eq_true]at h
 have:=h i (by simp[(List.getElem?_eq_some_iff.1 ho).1])
 rw[ho]at this
 dsimp only at this
 rw[List.all_eq_true]at this
 have:=this t ht
 rw[List.all_eq_true]at this
 have:=this j (by simp[(List.getElem?_eq_some_iff.1 ho').1])
 rw[ho']at this
 simpa[hd]using this
theorem okDs_at {L:List Oper} (h:okDs L=true) {i j d:Nat} {o o':Oper} (ho:L[i]?=some o) (ho':L[j]?=some o') (h1:o.dst=some d) (h2:o'.dst=some d):i=j:=by
 unfold okDs at h
 rw[List.all_eq_true]at h
 have:=h i (by simp[(List.getElem?_eq_some_iff.1 ho).1])
 rw[ho]at this
 dsimp only at this
 rw[List.all_eq_true]at this
 have:=this j (by simp[(List.getElem?_eq_some_iff.1 ho').1])
 rw[ho']at this
 simpa[h1,h2]using this
theorem okO_cons {L:List Oper} {B:List Nat} {i:Nat} {is seen bl:List Nat} (h:okO L B (i::is) seen bl=true):∃o,L[i]?=some o/\(∀j,j<L.length->(B.getD i 0).testBit j=true->j∈seen)/\i∉seen/\(isM o.op=true->o.guard=none)/\(isM o.op=false->∀b,b∈bl->(B.getD i 0).testBit b=true)/\okO L B is (i::seen) (nbl o i bl)=true:=by
 simp only[okO]at h
 cases ho:L[i]? with
 |none=>rw[ho]at h;cases h
 |some o=>
  rw[ho]at h
  simp only[Bool.and_eq_true]at h
  obtain⟨h1,h2,h3,h4⟩:=h
  refine⟨o,rfl,fun j hj hb=>?_,by simpa using h2,fun hm=>?_,fun hm b hb=>?_,h4⟩
  ·rw[List.all_eq_true]at h1
   have:=h1 j (by simpa using hj)
   rw[hb]at this
   simpa using this
  ·rw[hm]at h3;simpa using h3
  ·rw[hm]at h3
   simp only[Bool.false_and,Bool.not_false,Bool.true_and,Bool.false_or,List.all_eq_true]at h3
   exact h3 b hb
end
structure Pend (ρ:Rho) (w:World) (O:Nat->Prop) (v:Nat->AV) (cs:List AV) (b:Nat) (val:Value):Prop where
 obj:∃(c:Array Value) (e:TypeId) (f:Nat×Nat),w.heap[b]?=some (Obj.cells c e f)/\UF 0 c f/\(∀x,x∈c.toList->one x=true)/\cs.length<=c.size/\VRs ρ w O cs (c.toList.take cs.length)
 val:∀(ρ':Rho) (w':World) (O':Nat->Prop) (n:Nat),ρ' n=some b->(∀(c:Array Value) (e:TypeId) (f:Nat×Nat),w.heap[b]?=some (Obj.cells c e f)->∃c',w'.heap[b]?=some (Obj.cells c' e f)/\c'.size=c.size)->VR ρ' w' O' (v n) val
theorem Pend.carry {ρ ρ':Rho} {w w':World} {O O':Nat->Prop} {v:Nat->AV} {cs:List AV} {b:Nat} {val:Value} (h:Pend ρ w O v cs b val) (hc:Carry ρ ρ' w w' O O') (hb:w'.heap[b]?=w.heap[b]?):Pend ρ' w' O' v cs b val:=by
 obtain⟨c,e,f,h1,h2,h3,h4,h5⟩:=h.obj
 refine⟨⟨c,e,f,by rw[hb];exact h1,h2,h3,h4,VRs_carry hc _ _ h5⟩,fun ρ2 w2 O2 n hr hs=>h.val ρ2 w2 O2 n hr fun c e f hx=>hs c e f (by rw[hb];exact hx)⟩
section
variable {G:Prg} {X:Nat->Prop} {ρ:Rho} {w:World} {H:Hp} {n N:Nat} {F:Fr} {a:Act}
theorem Pend.take {v:Nat->AV} {cs:List AV} {b:Nat} {val:Value} (h:Pend ρ w (OX (fun x=>X x\/x=b) ρ H) v cs b val) (hs:S (fun x=>X x\/x=b) N ρ n F H a w) (hX:¬X b):
  S X N (rput ρ n b) (n+4) F ((n,cs)::H) a w/\VR (rput ρ n b) w (OX X (rput ρ n b) ((n,cs)::H)) (v n) val:=by
 obtain⟨c,e,f,h1,h2,h3,h4,h5⟩:=h.obj
 have hlt:∀i,i∈ids H->i≠n:=fun i hi e=>by have:=hs.hr.lt hs.fresh hi;omega
 have hO:OX X (rput ρ n b) ((n,cs)::H)=OX (fun x=>X x\/x=b) ρ H:=by
  funext x
  simp only[OX,Own,ids,List.map_cons,List.mem_cons,eq_iff_iff]
  constructor
  ·rintro(hx|⟨i,rfl|hi,hr⟩)
   ·exact .inl (.inl hx)
   ·simp only[rput,if_true,Option.some.injEq]at hr;exact .inl (.inr hr.symm)
   ·rw[rput_old (hlt i hi)]at hr;exact .inr ⟨i,hi,hr⟩
  ·rintro((hx|rfl)|⟨i,hi,hr⟩)
   ·exact .inl hx
   ·exact .inr ⟨n,.inl rfl,by simp[rput]⟩
   ·exact .inr ⟨i,.inr hi,by rw[rput_old (hlt i hi)];exact hr⟩
 have hcar:Carry ρ (rput ρ n b) w w (OX (fun x=>X x\/x=b) ρ H) (OX X (rput ρ n b) ((n,cs)::H)):=by
  rw[hO]
  refine⟨fun i b' hi=>?_,Nat.le_refl _,fun _ _ _=>rfl,fun b cs e f h=>⟨cs,f,h,rfl⟩,fun _ _ h=>h⟩
  have:i≠n:=by rintro rfl;rw[hs.fresh.no (.inl rfl)]at hi;cases hi
  rw[rput_old this];exact hi
 refine⟨⟨rput_fresh hs.fresh,⟨?_,?_,?_,?_,?_⟩,fun t=>VR_carry hcar _ _ (hs.fr t),hs.df,hs.sz⟩,?_⟩
 ·simp only[ids,List.map_cons,List.nodup_cons]
  exact⟨fun hm=>hlt n hm rfl,hs.hr.nodup⟩
 ·intro i j b' hi hj h6 h7
  simp only[ids,List.map_cons,List.mem_cons]at hi hj
  rcases hi with rfl|hi<;>rcases hj with rfl|hj
  ·rfl
  ·simp only[rput,if_true,Option.some.injEq]at h6
   rw[rput_old (hlt j hj)]at h7
   exact absurd (.inr h6.symm) (hs.hr.notX j b' hj h7)
  ·simp only[rput,if_true,Option.some.injEq]at h7
   rw[rput_old (hlt i hi)]at h6
   exact absurd (.inr h7.symm) (hs.hr.notX i b' hi h6)
  ·rw[rput_old (hlt i hi)]at h6;rw[rput_old (hlt j hj)]at h7
   exact hs.hr.inj i j b' hi hj h6 h7
 ·intro i b' hi h6
  simp only[ids,List.map_cons,List.mem_cons]at hi
  rcases hi with rfl|hi
  ·simp only[rput,if_true,Option.some.injEq]at h6;subst h6;exact hX
  ·rw[rput_old (hlt i hi)]at h6
   exact fun hx=>hs.hr.notX i b' hi h6 (.inl hx)
 ·exact fun b' hb=>hs.hr.xold b' (.inl hb)
 ·intro i ds hm
  rcases List.mem_cons.1 hm with e1|hm
  ·cases e1
   exact⟨b,c,e,f,by simp[rput],h1,⟨h2.1,h2.2.imp (fun h=>h) (fun h=>by omega)⟩,h3,h4,VRs_carry hcar _ _ h5⟩
  ·obtain⟨b',c',e',f',k1,k2,k3,k4,k5,k6⟩:=hs.hr.obj i ds hm
   have hi:i∈ids H:=List.mem_map.2 ⟨_,hm,rfl⟩
   exact⟨b',c',e',f',by rw[rput_old (hlt i hi)];exact k1,k2,k3,k4,k5,VRs_carry hcar _ _ k6⟩
 ·exact h.val _ _ _ n (by simp[rput]) fun c e f hx=>⟨c,hx,rfl⟩
theorem alloc_early {o:Oper} {t:Nat} {i:TI} (hop:o.op=.alloc t) (ht:G.tf t=some i) (hs:S X N ρ n F H a w):
  ∃val w',(execOp a.eval o).run G.P w=.ok (.value val) w'/\S (fun x=>X x\/x=w.heap.size) N ρ n F H a w'/\Nx ρ H w n ρ H w' n/\w'.heap.size=w.heap.size+1/\(∀b,b<w.heap.size->w'.heap[b]?=w.heap[b]?)/\
   Pend ρ w' (OX (fun x=>X x\/x=w.heap.size) ρ H) (fun n=>.ptr n 0) i.zero w.heap.size val:=by
 obtain⟨z,hz,h1,h2,h3,h4,h5⟩:=run_zero (w:=w) ht
 have hcar:Carry ρ ρ w (wnew w (.cells z.cells t)) (OX X ρ H) (OX (fun x=>X x\/x=w.heap.size) ρ H):=by
  refine⟨fun _ _ h=>h,by simp[wnew],fun b hb _=>wnew_old hb,fun b cs e f h=>⟨cs,f,?_,rfl⟩,fun b hb ho=>?_⟩
  ·have hb:b<w.heap.size:=(Array.getElem?_eq_some_iff.1 h).1
   rw[wnew_old hb];exact h
  ·rcases ho with (hx|rfl)|hx
   ·exact .inl hx
   ·omega
   ·exact .inr hx
 have hold:∀b,b<w.heap.size->(wnew w (.cells z.cells t)).heap[b]?=w.heap[b]?:=fun b hb=>wnew_old hb
 have hr1:HR X ρ (wnew w (.cells z.cells t)) H:=hs.hr.carry ⟨hcar.rho,hcar.size,hcar.keep,hcar.shape,fun b _ h=>h⟩ (fun _ _=>rfl) fun b hb=>hold b (hs.hr.own_old hb)
 refine⟨.pointer (some ⟨w.heap.size,0,none⟩),wnew w (.cells z.cells t),?_,⟨hs.fresh,?_,fun u=>VR_carry hcar _ _ (hs.fr u),hs.df,hs.sz⟩,?_,by simp[wnew],hold,?_⟩
 ·obtain⟨dst,op,ty,pos,aft,g⟩:=o
  dsimp only at hop
  subst hop
  simp[execOp,Instr.alloc,hz,newVar,newRow,wnew]
 ·refine⟨hr1.nodup,hr1.inj,fun i b hi hb hx=>?_,fun b hb=>?_,fun i cs hm=>?_⟩
  ·rcases hx with hx|rfl
   ·exact hr1.notX i b hi hb hx
   ·have:=hs.hr.own_old (b:=w.heap.size) ⟨i,hi,hb⟩;omega
  ·rcases hb with hb|rfl
   ·exact hr1.xold b hb
   ·simp[wnew]
  ·obtain⟨b,c,e,f,k1,k2,k3,k4,k5,k6⟩:=hs.hr.obj i cs hm
   have hb:b<w.heap.size:=(Array.getElem?_eq_some_iff.1 k2).1
   exact⟨b,c,e,f,k1,by rw[hold b hb];exact k2,k3,k4,k5,VRs_carry hcar _ _ k6⟩
 ·exact⟨fun _ _ h=>h,Nat.le_refl _,⟨rfl,rfl,rfl,by simp[wnew],fun b hb _=>hold b hb,hcar.shape⟩,fun b hb=>.inl hb⟩
 ·refine⟨⟨z.cells,t,(0,0),by rw[wnew_heap,if_pos rfl],unf0 _,h5,by rw[<-h3];exact Nat.le_refl _,by rw[<-h3,List.take_of_length_le (by simp)];exact h4 _ _ _⟩,fun ρ' w' O' n hn _=>?_⟩
  simp only[VR]
  exact⟨_,hn,rfl⟩
end
theorem rR_ex {H:Hp} {n:Nat} {C:AV->Prop}:∀{r:Res},rR r H n C->∃v,C v/\rR r H n (·=v)
 |.ok v H' n',h=>⟨v,h.2.2,h.1,h.2.1,rfl⟩
 |.need p r,h=>by obtain⟨v,h1,h2⟩:=rR_ex h.2;exact⟨v,h1,h.1,h2⟩
 |.call ..,h=>h.elim
 |.bad,h=>h.elim
theorem runR_re {G:Prg} {C:RK} {dst:Option Nat} {F F0:Fr} {H:Hp} {n:Nat}:∀{r:Res},runR G C dst F H n r->runR G (fun F' H' n'=>∃v,F'=pt F0 dst v/\C (pt F dst v) H' n') dst F0 H n r
 |.ok v H' n',h=>⟨v,rfl,h⟩
 |.need p r,h=>⟨h.1,runR_re h.2⟩
 |.call f args,h=>TCall.mono h fun r H' n' _ hc=>⟨r,rfl,hc⟩
 |.bad,h=>h.elim
theorem okB_lt {B:List Nat} {L:List Oper} (h:okB B L=true) {i:Nat} {o:Oper} (ho:L[i]?=some o) {j:Nat} (hj:(B.getD i 0).testBit j=true):j<i:=
 ahead h (lst:=fun j=>j<i) (fun k o' ho' hk j hj=>Nat.lt_trans ((okB_at h ho').1 j hj) hk) i o ho (fun j hj=>(okB_at h ho).1 j hj) j hj
theorem okO_chain {L:List Oper} {B:List Nat} {i:Nat} {oi:Oper} (hoi:L[i]?=some oi) (hm:isM oi.op=false) {k:Nat}:∀{rest seen bl:List Nat},okO L B rest seen bl=true->i∈rest->k∈bl->
  (B.getD i 0).testBit k=true\/∃b o,b∈rest/\b∉seen/\L[b]?=some o/\isM o.op=false/\(B.getD i 0).testBit b=true
 |[],_,_,_,h,_=>by simp at h
 |h::is,seen,bl,hok,hi,hk=>by
  obtain⟨o,ho,h1,h2,h3,h5,h4⟩:=okO_cons hok
  by_cases hih:i=h
  ·subst hih
   rw[hoi]at ho;cases ho
   exact .inl (h5 hm k hk)
  ·have hi:i∈is:=(List.mem_cons.1 hi).resolve_left hih
   have up:(∃b o,b∈is/\b∉h::seen/\L[b]?=some o/\isM o.op=false/\(B.getD i 0).testBit b=true)->∃b o,b∈h::is/\b∉seen/\L[b]?=some o/\isM o.op=false/\(B.getD i 0).testBit b=true:=by
    rintro⟨b,o',q1,q2,q3⟩
    exact⟨b,o',by simp[q1],fun hs=>q2 (by simp[hs]),q3⟩
   cases hr:isR o.op with
   |true=>
    rw[show nbl o h bl=bl by simp[nbl,hr]]at h4
    exact(okO_chain hoi hm h4 hi hk).imp id up
   |false=>
    cases hmm:isM o.op with
    |true=>
     rw[show nbl o h bl=h::bl by simp[nbl,hr,hmm]]at h4
     exact(okO_chain hoi hm h4 hi (by simp[hk])).imp id up
    |false=>
     rw[show nbl o h bl=[h] by simp[nbl,hr,hmm]]at h4
     rcases okO_chain (k:=h) hoi hm h4 hi (by simp)with q|q
     ·exact .inr ⟨h,o,by simp,h2,ho,hmm,q⟩
     ·exact .inr (up q)
section
variable {G:Prg} {ops:Array Oper} {B:List Nat} {listed:Array Bool} {seen rest dn is bl:List Nat} {F F1:Fr} {H:Hp} {n i:Nat} {K:RK} {o:Oper}
theorem At.put (hB:okB B ops.toList=true) (hR:okRd ops.toList B=true) (hD:okDs ops.toList=true)
  (h:At G ops B listed seen (i::is) dn bl F H n K) (ho:ops.toList[i]?=some o) {v:AV} {H':Hp} {n':Nat} {listed':Array Bool} (hl:∀j,listed.getD j false=true->listed'.getD j false=true) (hl':∀j,listed'.getD j false=true->j=i\/listed.getD j false=true)
  (hi:isR o.op=false->listed'.getD i false=true)
  (hp:isR o.op=true->P4 G ops.toList (pt F o.dst v) H' n' o)
  (hold:∀j oj,j∈dn->ops.toList[j]?=some oj->listed'.getD j false=false->P4 G ops.toList F H n oj->(∀t,t∈rds ops.toList oj->gt F t=gt (pt F o.dst v) t)->(∀d,oj.dst=some d->gt F d=gt (pt F o.dst v) d)->P4 G ops.toList (pt F o.dst v) H' n' oj)
  (hk:runC G ops.toList B is (bif isR o.op then i::dn else dn) (pt F o.dst v) H' n' K):
  At G ops B listed' (i::seen) is (bif isR o.op then i::dn else dn) (nbl o i bl) (pt F o.dst v) H' n' K:=by
 obtain⟨o',ho',h1,h2,h3,h5,h4⟩:=okO_cons h.ok
 rw[ho]at ho';cases ho'
 have hlen:=(List.getElem?_eq_some_iff.1 ho).1
 refine⟨h4,fun j hj=>?_,fun j hj=>?_,fun j oj hj hoj=>?_,fun j hj=>?_,fun b hb=>?_,fun j hj k hk'=>?_,hk⟩
 ·rcases h.cov j hj with x|x
  ·exact .inl (by simp[x])
  ·rcases List.mem_cons.1 x with rfl|x
   ·exact .inl (by simp)
   ·exact .inr x
 ·have key:j∈dn->j∈i::seen/\∃oj,ops.toList[j]?=some oj/\isR oj.op=true/\(listed'.getD j false=false->P4 G ops.toList (pt F o.dst v) H' n' oj):=by
   intro hj
   obtain⟨k1,oj,k2,k3,k4⟩:=h.dnR j hj
   refine⟨by simp[k1],oj,k2,k3,fun hu=>?_⟩
   have hu':listed.getD j false=false:=by
    cases hx:listed.getD j false
    ·rfl
    ·rw[hl j hx]at hu;cases hu
   refine hold j oj hj k2 hu (k4 hu') (fun t ht=>(pt_gt fun d hd e=>?_).symm) (fun d hd=>(pt_gt fun d' hd' e=>?_).symm)
   ·subst e
    exact h2 (h.pre j k1 i (okRd_at hR k2 ho ht hd))
   ·subst e
    have:=okDs_at hD k2 ho hd hd'
    subst this
    exact h2 k1
  cases hr:isR o.op with
  |true=>
   rw[hr]at hj
   rcases List.mem_cons.1 hj with rfl|hj
   ·exact⟨by simp,o,ho,hr,fun _=>hp hr⟩
   ·exact key hj
  |false=>rw[hr]at hj;exact key hj
 ·rcases List.mem_cons.1 hj with rfl|hj
  ·rw[ho]at hoj;cases hoj
   refine⟨fun hr=>by rw[hr];simp,hi⟩
  ·obtain⟨k1,k2⟩:=h.sR j oj hj hoj
   refine⟨fun hr=>?_,fun hr=>hl j (k2 hr)⟩
   cases isR o.op
   ·exact k1 hr
   ·simp only[cond_true];exact List.mem_cons_of_mem _ (k1 hr)
 ·rcases hl' j hj with rfl|x
  ·exact .inl (by simp)
  ·exact(h.ls j x).imp (List.mem_cons_of_mem _) id
 ·simp only[nbl]at hb
  cases hr:isR o.op with
  |true=>rw[hr]at hb;exact List.mem_cons_of_mem _ (h.blS b hb)
  |false=>
   rw[hr]at hb
   cases hmm:isM o.op with
   |true=>
    rw[hmm]at hb
    rcases List.mem_cons.1 hb with rfl|hb
    ·simp
    ·exact List.mem_cons_of_mem _ (h.blS b hb)
   |false=>rw[hmm]at hb;simp only[cond_false,List.mem_singleton]at hb;subst hb;simp
 ·rcases List.mem_cons.1 hj with rfl|hj
  ·exact List.mem_cons_of_mem _ (h1 k (Nat.lt_trans (okB_lt hB ho hk') hlen) hk')
  ·exact List.mem_cons_of_mem _ (h.pre j hj k hk')
end
def hdW (L:List Oper) (listed:Array Bool) (rest:List Nat):Prop:=rest=[]\/∃i is o,rest=i::is/\L[i]?=some o/\isR o.op=false/\(isM o.op=true->listed.getD i false=false)
def qs (listed:Array Bool) (seen:List Nat) (j:Nat):Bool:=listed.getD j false&&seen.contains j
def XP (X:Nat->Prop) (pn:List (Nat×Nat)):Nat->Prop:=fun x=>X x\/x∈pn.map (·.2)
structure Pn (G:Prg) (ops:Array Oper) (X:Nat->Prop) (ρ:Rho) (w:World) (H:Hp) (listed:Array Bool) (seen:List Nat) (pn:List (Nat×Nat)) (lo:Nat) (a:Act):Prop where
 blk:(pn.map (·.2)).Nodup
 key:(pn.map (·.1)).Nodup
 has:∀j o,ops.toList[j]?=some o->isM o.op=true->listed.getD j false=true->j∉seen->∃b,(j,b)∈pn
 ok:∀j b,(j,b)∈pn->j∉seen/\listed.getD j false=true/\¬X b/\lo<=b/\b<w.heap.size/\∃o t ti val,ops.toList[j]?=some o/\o.op=.alloc t/\G.tf t=some ti/\(∀d,o.dst=some d->a.tmps.getD d undef=val)/\Pend ρ w (OX (XP X pn) ρ H) (fun n=>.ptr n 0) ti.zero b val
theorem nod_inj {α β:Type} {f:α->β}:∀{l:List α},(l.map f).Nodup->∀{x y:α},x∈l->y∈l->f x=f y->x=y
 |[],_,_,_,h,_,_=>by simp at h
 |z::l,hn,x,y,hx,hy,e=>by
  simp only[List.map_cons,List.nodup_cons]at hn
  rcases List.mem_cons.1 hx with h1|h1<;>rcases List.mem_cons.1 hy with h2|h2
  ·rw[h1,h2]
  ·exact absurd (List.mem_map.2 ⟨y,h2,by rw[<-e,h1]⟩) hn.1
  ·exact absurd (List.mem_map.2 ⟨x,h1,by rw[e,h2]⟩) hn.1
  ·exact nod_inj hn.2 h1 h2 e
theorem sets {listed:Array Bool} {i:Nat} (hi:i<listed.size):∀j d,(listed.setIfInBounds i true).getD j d=if j=i then true else listed.getD j d:=by
 intro j d
 by_cases e:j=i
 ·subst e;simp[Array.getD_eq_getD_getElem?,hi]
 ·rw[if_neg e];exact getD_set_ne d fun x=>e x.symm
section
variable {G:Prg} {ops:Array Oper} {B:List Nat} {listed:Array Bool} {K:RK} {X:Nat->Prop} {N:Nat} {a:Act} {w:World} {ρ0:Rho} {H0:Hp} {w0:World} {n0:Nat}
theorem settle (hB:okB B ops.toList=true) (hR:okRd ops.toList B=true) (hD:okDs ops.toList=true)
  (hc:∀k o,ops.toList[k]?=some o->listed.getD k false=true->∀j,j∈prs o->listed.getD j false=true):
  ∀(rest seen dn bl:List Nat) (F:Fr) (H:Hp) (n:Nat) (ρ:Rho) (pn:List (Nat×Nat)),At G ops B listed seen rest dn bl F H n K->S (XP X pn) N ρ n (msk ops.toList (qs listed seen) F) H a w->Nx ρ0 H0 w0 n0 ρ H w n->Pn G ops X ρ w H listed seen pn w0.heap.size a->
   ∃seen' rest' dn' bl' F' H' n' ρ' pn',At G ops B listed seen' rest' dn' bl' F' H' n' K/\S (XP X pn') N ρ' n' (msk ops.toList (qs listed seen') F') H' a w/\Nx ρ0 H0 w0 n0 ρ' H' w n'/\Pn G ops X ρ' w H' listed seen' pn' w0.heap.size a/\hdW ops.toList listed rest'
 |[],seen,dn,bl,F,H,n,ρ,pn,hA,hS,hNx,hP=>⟨_,_,_,_,_,_,_,_,_,hA,hS,hNx,hP,.inl rfl⟩
 |i::is,seen,dn,bl,F,H,n,ρ,pn,hA,hS,hNx,hP=>by
  obtain⟨o,ho,h1,h2,h3,h5,h4⟩:=okO_cons hA.ok
  have hnr:∀t,t∈rds ops.toList o->∀d,o.dst=some d->d≠t:=fun t ht d hd e=>by
   subst e
   have:=okRd_at hR ho ho ht hd
   exact h2 (h1 i (List.getElem?_eq_some_iff.1 ho).1 this)
  have hk:=hA.kk
  cases hr:isR o.op with
  |true=>
   have hmo:isM o.op=false:=by
    cases hx:isM o.op
    ·rfl
    ·rw[isM_R hx]at hr;cases hr
   have hul:listed.getD i false=false:=by
    cases hx:listed.getD i false
    ·rfl
    ·rcases hA.ls i hx with x|⟨o',ho',x⟩
     ·exact absurd x h2
     ·rw[ho]at ho';cases ho';rw[hmo]at x;cases x
   have hgo:∀v:AV,P4 G ops.toList (pt F o.dst v) H n o->runC G ops.toList B is (i::dn) (pt F o.dst v) H n K->
     ∃seen' rest' dn' bl' F' H' n' ρ' pn',At G ops B listed seen' rest' dn' bl' F' H' n' K/\S (XP X pn') N ρ' n' (msk ops.toList (qs listed seen') F') H' a w/\Nx ρ0 H0 w0 n0 ρ' H' w n'/\Pn G ops X ρ' w H' listed seen' pn' w0.heap.size a/\hdW ops.toList listed rest':=by
    intro v hp hk
    have hA':=At.put hB hR hD hA ho (v:=v) (H':=H) (n':=n) (listed':=listed) (fun _ x=>x) (fun _ x=>.inr x) (fun x=>by rw[hr]at x;cases x) (fun _=>hp)
     (fun j oj _ _ _ k4 k5 k6=>P4_congr k5 k6 k4) (by rw[hr];exact hk)
    refine settle hB hR hD hc is _ _ _ _ _ _ _ pn hA' (hS.re fun t=>?_) hNx ⟨hP.blk,hP.key,fun j oj k1 k2 k3 k4=>hP.has j oj k1 k2 k3 fun hs=>k4 (by simp[hs]),fun j b hjb=>?_⟩
    ·by_cases hx:∃(j:Nat) (oj:Oper),ops.toList[j]?=some oj/\oj.dst=some t/\qs listed (i::seen) j=false
     ·obtain⟨j,oj,hj,hd,hu⟩:=hx
      exact .inl (msk_dead hj hd hu)
     ·have hq:∀(j:Nat) (oj:Oper),ops.toList[j]?=some oj->oj.dst=some t->qs listed (i::seen) j=true:=fun j oj hj hd=>by
       cases hy:qs listed (i::seen) j
       ·exact absurd ⟨j,oj,hj,hd,hy⟩ hx
       ·rfl
      have ht:∀d,o.dst=some d->d≠t:=fun d hd e=>by
       subst e
       have:=hq i o ho hd
       simp only[qs,hul,Bool.false_and]at this
       cases this
      refine .inr ?_
      rw[gt_msk hq,pt_gt ht]
      refine(gt_msk fun j oj hj hd=>?_).symm
      have:=hq j oj hj hd
      simp only[qs,Bool.and_eq_true,List.contains_iff_mem,List.mem_cons]at this⊢
      refine⟨this.1,this.2.resolve_left fun e=>?_⟩
      subst e;rw[hul]at this;cases this.1
    ·obtain⟨k1,k2,k3⟩:=hP.ok j b hjb
     refine⟨fun hm=>?_,k2,k3⟩
     rcases List.mem_cons.1 hm with rfl|hm
     ·rw[hul]at k2;cases k2
     ·exact k1 hm
   simp only[runC,ho,hr,cond_true]at hk
   cases hw:wnt ops.toList F o.guard with
   |none=>rw[hw]at hk;exact hk.elim
   |some b=>
    rw[hw]at hk
    cases b with
    |true=>
     rw[Spo_some,Spl_true]at hk
     obtain⟨v,k1,k2⟩:=rR_ex hk
     refine hgo v (.inl ⟨?_,?_⟩) k1
     ·rw[wnt_congr (F':=F) (fun t ht=>pt_gt (hnr t ht))];exact hw
     ·rw[eo_rds (F':=F) (fun t ht=>pt_gt (hnr t ht))]
      refine rR_mono (fun u hu=>?_) k2
      subst hu
      cases hd:o.dst with
      |none=>trivial
      |some d=>exact pt_at.symm
    |false=>
     rw[Spo_some,Spl_false]at hk
     refine hgo (.tup []) (.inr ⟨?_,fun d hd=>by rw[hd];exact pt_at⟩) hk
     rw[wnt_congr (F':=F) (fun t ht=>pt_gt (hnr t ht))];exact hw
  |false=>
   by_cases hml:isM o.op=true/\listed.getD i false=true
   ·obtain⟨hmo,hli⟩:=hml
    obtain⟨b,hjb⟩:=hP.has i o ho hmo hli h2
    obtain⟨k1,k2,k3,k4,k4',o',t,ti,val,k5,k6,k7,k8,k9⟩:=hP.ok i b hjb
    rw[ho]at k5;cases k5
    have hbits:∀j,(B.getD i 0).testBit j=true->listed.getD j false=true:=
     ahead hB (lst:=fun j=>listed.getD j false=true) hc i o ho (hc i o ho hli)
    simp only[runC,ho,hr,cond_false,h3 hmo,wnt,Spo_some,Spl_true,k6,eo,k7,runR]at hk
    obtain⟨hst,hkk⟩:=hk
    let pn':=pn.filter fun p=> !Nat.beq p.2 b
    have hmem:∀x,x∈pn'.map (·.2)↔x∈pn.map (·.2)/\x≠b:=by
     intro x
     simp only[pn',List.mem_map,List.mem_filter]
     constructor
     ·rintro⟨p,⟨hp1,hp2⟩,rfl⟩
      refine⟨⟨p,hp1,rfl⟩,fun e=>?_⟩
      rw[e]at hp2;simp at hp2
     ·rintro⟨⟨p,hp1,rfl⟩,hne⟩
      exact⟨p,⟨hp1,by rw[nbq hne];rfl⟩,rfl⟩
    have hX:XP X pn=fun x=>XP X pn' x\/x=b:=by
     funext x
     simp only[XP,eq_iff_iff,hmem]
     constructor
     ·rintro(hx|hx)
      ·exact .inl (.inl hx)
      ·by_cases e:x=b
       ·exact .inr e
       ·exact .inl (.inr ⟨hx,e⟩)
     ·rintro((hx|⟨hx,_⟩)|rfl)
      ·exact .inl hx
      ·exact .inr hx
      ·exact .inr (List.mem_map.2 ⟨_,hjb,rfl⟩)
    have hXb:¬XP X pn' b:=by
     rintro(hx|hx)
     ·exact k3 hx
     ·exact((hmem b).1 hx).2 rfl
    have hS1:=hS
    rw[hX]at hS1
    have k9':=k9
    rw[hX]at k9'
    obtain⟨t1,t2⟩:=k9'.take hS1 hXb
    have hA':=At.put hB hR hD hA ho (v:=.ptr n 0) (H':=(n,ti.zero)::H) (n':=n+4) (listed':=listed) (fun _ x=>x) (fun _ x=>.inr x) (fun _=>hli) (fun x=>by rw[hr]at x;cases x) ?_ (by rw[hr];exact hkk)
    ·have hcar:Carry ρ (rput ρ n b) w w (OX (XP X pn) ρ H) (OX (XP X pn') (rput ρ n b) ((n,ti.zero)::H)):=by
      have hlt:∀j,j∈ids H->j≠n:=fun j hj e=>by have:=hS.hr.lt hS.fresh hj;omega
      refine⟨rput_le hS.fresh,Nat.le_refl _,fun _ _ _=>rfl,fun b cs e f h=>⟨cs,f,h,rfl⟩,fun x _ hx=>?_⟩
      rcases hx with hx|⟨j,hj,hjx⟩
      ·exact .inl (by rw[hX];exact .inl hx)
      ·simp only[ids,List.map_cons,List.mem_cons]at hj
       rcases hj with rfl|hj
       ·simp only[rput,if_true,Option.some.injEq]at hjx;exact .inl (by rw[hX];exact .inr hjx.symm)
       ·rw[rput_old (hlt j hj)]at hjx;exact .inr ⟨j,hj,hjx⟩
     refine settle hB hR hD hc is _ _ _ _ _ _ _ pn' hA' ⟨t1.fresh,t1.hr,fun u=>?_,t1.df,t1.sz⟩ ?_ ⟨?_,?_,fun j oj q1 q2 q3 q4=>?_,fun j b' hjb'=>?_⟩
     ·by_cases hu:o.dst=some u
      ·rcases gt_msk' (L:=ops.toList) (q:=qs listed (i::seen)) (F:=pt F o.dst (.ptr n 0)) (t:=u)with e|e
       ·rw[e,hu,pt_at,k8 u hu];exact t2
       ·rw[e];simp only[VR]
      ·have hne:∀d,o.dst=some d->d≠u:=fun d hd e=>hu (by rw[hd,e])
       by_cases hx:∃(j:Nat) (oj:Oper),ops.toList[j]?=some oj/\oj.dst=some u/\qs listed (i::seen) j=false
       ·obtain⟨j,oj,hj,hd,hq⟩:=hx
        rw[msk_dead hj hd hq];simp only[VR]
       ·have hq:∀(j:Nat) (oj:Oper),ops.toList[j]?=some oj->oj.dst=some u->qs listed (i::seen) j=true:=fun j oj hj hd=>by
         cases hy:qs listed (i::seen) j
         ·exact absurd ⟨j,oj,hj,hd,hy⟩ hx
         ·rfl
        rw[gt_msk hq,pt_gt hne]
        have:=t1.fr u
        rwa[gt_msk fun j oj hj hd=>?_]at this
        have hq:=hq j oj hj hd
        simp only[qs,Bool.and_eq_true,List.contains_iff_mem,List.mem_cons]at hq⊢
        refine⟨hq.1,hq.2.resolve_left fun e=>?_⟩
        subst e;rw[ho]at hj;cases hj;exact hu hd
     ·refine⟨fun j x hj=>rput_le hS.fresh (.inl rfl) j x (hNx.rho j x hj),Nat.le_trans hNx.le (Nat.le_add_right _ 4),hNx.ext,fun x hx=>?_⟩
      obtain⟨j,hj,hjx⟩:=hx
      simp only[ids,List.map_cons,List.mem_cons]at hj
      rcases hj with rfl|hj
      ·simp only[rput,if_true,Option.some.injEq]at hjx;subst hjx;exact .inr k4
      ·have:j≠n:=fun e=>by have:=hS.hr.lt hS.fresh hj;omega
       rw[rput_old this]at hjx
       exact hNx.own x ⟨j,hj,hjx⟩
     ·exact List.Sublist.nodup (List.Sublist.map _ List.filter_sublist) hP.blk
     ·exact List.Sublist.nodup (List.Sublist.map _ List.filter_sublist) hP.key
     ·obtain⟨b',hb'⟩:=hP.has j oj q1 q2 q3 fun hs=>q4 (by simp[hs])
      refine⟨b',List.mem_filter.2 ⟨hb',?_⟩⟩
      dsimp only
      rw[nbq];· rfl
      rintro rfl
      have hji:j≠i:=fun e=>q4 (by simp[e])
      exact hji (congrArg Prod.fst (nod_inj hP.blk hb' hjb rfl))
     ·obtain⟨hb1,hb2⟩:=List.mem_filter.1 hjb'
      obtain⟨q1,q2,q3,q4,q4',oj,tj,tij,vj,q5,q6,q7,q8,q9⟩:=hP.ok j b' hb1
      refine⟨fun hm=>?_,q2,q3,q4,q4',oj,tj,tij,vj,q5,q6,q7,q8,q9.carry hcar rfl⟩
      rcases List.mem_cons.1 hm with rfl|hm
      ·have:=nod_inj hP.key hb1 hjb rfl
       cases this
       simp at hb2
      ·exact q1 hm
    ·intro j oj hj hoj hu hP4 k5' k6'
     have hst1 := stb_at hst j oj (List.mem_filter.2 ⟨hj,by
      cases hx:(B.getD i 0).testBit j
      ·rfl
      ·rw[hbits j hx]at hu;cases hu⟩) hoj
     rcases hP4 with ⟨hw3,_⟩|⟨hw3,hz⟩
     ·rw[wnt_congr k5']at hw3
      unfold st1 at hst1
      rw[hw3,Spo_some,Spl_true]at hst1
      exact .inl ⟨hw3,hst1⟩
     ·rw[wnt_congr k5']at hw3
      exact .inr ⟨hw3,fun d hd=>by rw[<-k6' d hd];exact hz d hd⟩
   ·exact ⟨_, _, _, _, _, _, _, _, _, hA, hS, hNx, hP, .inr ⟨i,is,o,rfl,ho,hr,fun hmo=>by
     cases hx:listed.getD i false
     ·rfl
     ·exact absurd ⟨hmo,hx⟩ hml⟩⟩
end
def okMk (G:Prg) (L:List Oper):Bool:=L.all fun o=>match o.op with|.alloc t=>(G.tf t).isSome|_=>true
theorem okMk_at {G:Prg} {L:List Oper} (h:okMk G L=true) {i:Nat} {o:Oper} (ho:L[i]?=some o) (hm:isM o.op=true):∃t ti,o.op=.alloc t/\G.tf t=some ti:=by
 obtain⟨t,e⟩:=isM_alloc hm
 unfold okMk at h
 rw[List.all_eq_true]at h
 have:=h o (List.mem_of_getElem? ho)
 rw[e]at this
 exact⟨t,_,e,(Option.some_get this).symm⟩
section
variable {G:Prg} {X:Nat->Prop} {N:Nat}
theorem runR_put {ρ:Rho} {n:Nat} {F:Fr} {H:Hp} {a:Act} {w:World} {o:Oper} {K:RK} {next:Act->World->Prop} {Q':Exit->Act->World->Prop} (hs:S X N ρ n F H a w) (hd:∀d,o.dst=some d->d<N)
  (hnext:∀ρ' F' H' n' a' w',S X N ρ' n' F' H' a' w'->Nx ρ H w n ρ' H' w' n'->K F' H' n'->(∃val,a'=a.put o.dst val)->next a' w'):
  ∀r:Res,RS G X ρ n H w ((execOp a.eval o).run G.P w) r->runR G K o.dst F H n r->o.wp G.P a w next Q':=by
 intro r
 induction r with
 |ok v H' n'=>
  rintro⟨val,ρ',w',h1,h2,h3,h4,h5⟩ hk
  have hS:=hs.put hd h2 h3 h4 h5
  unfold Oper.wp
  rcases h1 with h1|⟨h1,rfl⟩
  ·rw[h1];exact hnext _ _ _ _ _ _ hS h5 hk ⟨_,rfl⟩
  ·rw[h1];exact hnext _ _ _ _ _ _ hS h5 hk ⟨_,rfl⟩
 |need p r ih=>intro h1 h2;exact ih (h1 h2.1) h2.2
 |call f args=>
  rintro⟨vs,h1,h2⟩ hk
  have hc:=hk X ρ w vs hs.fresh hs.hr h2
  unfold Oper.wp
  rw[h1]
  unfold CallsX at hc
  split at hc
  ·rename_i f' args' w' he
   obtain⟨rfl,hc⟩:=hc
   rw[he]
   refine hc.mono ?_
   rintro e w' ⟨v,r,ρ',H',n',rfl,k2,k3,k4,k5,k6⟩
   exact hnext _ _ _ _ _ _ (hs.put hd k2 k3 k4 k5) k5 k6 ⟨_,rfl⟩
  ·rename_i v w' he
   rw[he]
   obtain⟨v,r,ρ',H',n',e,k2,k3,k4,k5,k6⟩:=hc
   cases e
   exact hnext _ _ _ _ _ _ (hs.put hd k2 k3 k4 k5) k5 k6 ⟨_,rfl⟩
  ·exact hc.elim
 |bad=>intro _ h;exact h.elim
theorem put_get {a:Act} {o:Option Nat} {val:Value} {d:Nat} (h:∀d',o=some d'->d'≠d):(a.put o val).tmps.getD d undef=a.tmps.getD d undef:=by
 cases o with
 |none=>rfl
 |some d'=>
  simp only[Act.put,Array.getD_eq_getD_getElem?]
  rw[Array.getElem?_setIfInBounds_ne (h d' rfl)]
theorem XP_nil (X:Nat->Prop):XP X []=X:=by funext x;simp[XP]
end
section
variable {G:Prg} {ops:Array Oper} {B:List Nat} {X:Nat->Prop} {N:Nat}
theorem Pn.step (hD:okDs ops.toList=true) {ρ ρ':Rho} {n n':Nat} {w w':World} {H H':Hp} {listed:Array Bool} {seen seen':List Nat} {pn:List (Nat×Nat)} {lo i:Nat} {a:Act} {o:Oper} {val:Value}
  (hP:Pn G ops X ρ w H listed seen pn lo a) (hi:i<listed.size) (hul:listed.getD i false=false) (ho:ops.toList[i]?=some o) (hx:HR (XP X pn) ρ w H) (hN:Nx ρ H w n ρ' H' w' n')
  (h1:∀j,j∈seen->j∈seen') (h2:∀j,j∈seen'->j=i\/j∈seen) (h3:isM o.op=true->i∈seen'):
  Pn G ops X ρ' w' H' (listed.setIfInBounds i true) seen' pn lo (a.put o.dst val):=by
 have hs:=sets (listed:=listed) (i:=i) hi
 have hcar:=hN.carry (X:=XP X pn)
 refine⟨hP.blk,hP.key,fun j oj q1 q2 q3 q4=>?_,fun j b hjb=>?_⟩
 ·have hji:j≠i:=by
   rintro rfl
   rw[ho]at q1;cases q1
   exact q4 (h3 q2)
  rw[hs,if_neg hji]at q3
  exact hP.has j oj q1 q2 q3 fun hx=>q4 (h1 j hx)
 ·obtain⟨k1,k2,k3,k4,k4',oj,t,ti,vl,k5,k6,k7,k8,k9⟩:=hP.ok j b hjb
  have hji:j≠i:=by rintro rfl;rw[hul]at k2;cases k2
  have hXb:XP X pn b:=.inr (List.mem_map.2 ⟨_,hjb,rfl⟩)
  have hkeep:w'.heap[b]?=w.heap[b]?:=hN.ext.keep b k4' fun⟨id,hid,hr⟩=>hx.notX id b hid hr hXb
  refine⟨fun hm=>?_,by rw[hs,if_neg hji];exact k2,k3,k4,Nat.lt_of_lt_of_le k4' hN.ext.size,oj,t,ti,vl,k5,k6,k7,fun d hd=>?_,k9.carry hcar hkeep⟩
  ·rcases h2 j hm with e|hm
   ·exact hji e
   ·exact k1 hm
  ·rw[put_get fun d' hd' e=>hji ?_]
   ·exact k8 d hd
   ·subst e;exact okDs_at hD k5 ho hd hd'
theorem draw_all (hB:okB B ops.toList=true) (hR:okRd ops.toList B=true) (hD:okDs ops.toList=true) (hM:okMk G ops.toList=true) (hN:okOps N ops=true)
  {K:RK} {Q':Exit->Act->World->Prop} {ρ0:Rho} {H0:Hp} {w0:World} {n0:Nat}
  (hQ:∀ρ' F' H' n' a' w',S X N ρ' n' F' H' a' w'->Nx ρ0 H0 w0 n0 ρ' H' w' n'->K F' H' n'->Q' .normal a' w'):
  ∀(fuel:Nat) (listed:Array Bool) (a:Act) (w:World) (ρ:Rho) (n:Nat) (F:Fr) (H:Hp) (seen rest dn bl:List Nat) (pn:List (Nat×Nat)),
   S (XP X pn) N ρ n (msk ops.toList (qs listed seen) F) H a w->Nx ρ0 H0 w0 n0 ρ H w n->At G ops B listed seen rest dn bl F H n K->Pn G ops X ρ w H listed seen pn w0.heap.size a->hdW ops.toList listed rest->
   (∀k o,ops.toList[k]?=some o->listed.getD k false=true->∀j,j∈prs o->listed.getD j false=true)->listed.size=ops.size->
   (List.range ops.size).countP (fun j=> !listed.getD j false)<=fuel->wpAny G.P .any ops Q' fuel listed a w:=by
 have fini:∀(listed:Array Bool) (a:Act) (w:World) (ρ:Rho) (n:Nat) (F:Fr) (H:Hp) (seen rest dn bl:List Nat) (pn:List (Nat×Nat)),
   S (XP X pn) N ρ n (msk ops.toList (qs listed seen) F) H a w->Nx ρ0 H0 w0 n0 ρ H w n->At G ops B listed seen rest dn bl F H n K->Pn G ops X ρ w H listed seen pn w0.heap.size a->hdW ops.toList listed rest->
   (∀j,j<ops.size->listed.getD j false=true)->Q' .normal a w:=by
  intro listed a w ρ n F H seen rest dn bl pn hS hNx hA hP hh hall
  have hrest:rest=[]:=by
   rcases hh with e|⟨i,is,o,e,ho,hr,hm⟩
   ·exact e
   ·subst e
    obtain⟨o',ho',_,h2,_⟩:=okO_cons hA.ok
    have hli:=hall i (by simpa using(List.getElem?_eq_some_iff.1 ho).1)
    rcases hA.ls i hli with x|⟨o2,ho2,x⟩
    ·exact absurd x h2
    ·rw[ho]at ho2;cases ho2
     rw[hm x]at hli;cases hli
  subst hrest
  have hseen:∀j,j<ops.size->j∈seen:=fun j hj=>(hA.cov j hj).resolve_right (by simp)
  have hpn:pn=[]:=by
   rw[List.eq_nil_iff_forall_not_mem]
   rintro⟨j,b⟩ hjb
   obtain⟨k1,_,_,_,_,oj,_,_,_,k5,_⟩:=hP.ok j b hjb
   exact k1 (hseen j (by simpa using(List.getElem?_eq_some_iff.1 k5).1))
  subst hpn
  rw[XP_nil]at hS
  refine hQ _ _ _ _ _ _ (hS.re fun t=>.inr (gt_msk fun j o ho _=>?_).symm) hNx hA.kk
  have hj:j<ops.size:=by simpa using(List.getElem?_eq_some_iff.1 ho).1
  simp[qs,hall j hj,hseen j hj]
 intro fuel
 induction fuel with
 |zero=>
  intro listed a w ρ n F H seen rest dn bl pn hS hNx hA hP hh hc hsz hfu
  have hall:∀j,j<ops.size->listed.getD j false=true:=by
   intro j hj
   cases hx:listed.getD j false
   ·have:0<(List.range ops.size).countP (fun j=> !listed.getD j false):=List.countP_pos_iff.2 ⟨j,by simpa using hj,by simp only[hx,Bool.not_false]⟩
    omega
   ·rfl
  have hno:Region.ready .any ops listed=[]:=by
   rw[List.eq_nil_iff_forall_not_mem]
   intro i hi
   obtain⟨h1,o,ho,_⟩:=mem_ready.1 hi
   have hil:i<ops.size:=(Array.getElem?_eq_some_iff.1 ho).1
   have:=hall i hil
   rw[Array.getD_eq_getD_getElem?,Array.getElem?_eq_getElem (by omega)]at h1 this
   simp only[Option.getD_some]at h1 this
   rw[h1]at this;cases this
  exact⟨hno,fini _ _ _ _ _ _ _ _ _ _ _ _ hS hNx hA hP hh hall⟩
 |succ fuel ih=>
  intro listed a w ρ n F H seen rest dn bl pn hS hNx hA hP hh hc hsz hfu
  refine⟨fun hno=>?_,fun i hi=>?_⟩
  ·have hall:∀j,j<ops.size->listed.getD j false=true:=by
    intro j
    induction j using Nat.strongRecOn with
    |_ j ihj=>
     intro hj
     cases hx:listed.getD j false
     ·exfalso
      have ho:ops[j]?=some ops[j]:=Array.getElem?_eq_getElem hj
      have:j∈Region.ready .any ops listed:=by
       refine mem_ready.2 ⟨?_,_,ho,fun e he hb=>?_⟩
       ·rw[Array.getD_eq_getD_getElem?,Array.getElem?_eq_getElem (by omega)]at hx⊢;exact hx
       ·have hm:e.on∈prs ops[j]:=List.mem_filterMap.2 ⟨e,by simpa using he,by simp[hb]⟩
        have hlt:=(okB_at hB (i:=j) (o:=ops[j]) (by rw[Array.getElem?_toList];exact ho)).1 _ hm
        exact ihj _ hlt (by omega)
      rw[hno]at this;simp at this
     ·rfl
   exact fini _ _ _ _ _ _ _ _ _ _ _ _ hS hNx hA hP hh hall
  ·obtain⟨h1,o,ho,hpre⟩:=mem_ready.1 hi
   have hil:i<ops.size:=(Array.getElem?_eq_some_iff.1 ho).1
   have hoL:ops.toList[i]?=some o:=by simpa using ho
   have hul:listed.getD i false=false:=by
    rw[Array.getD_eq_getD_getElem?,Array.getElem?_eq_getElem (by omega)]at h1⊢;exact h1
   have hprs:∀j,j∈prs o->listed.getD j false=true:=by
    intro j hj
    obtain⟨e,he,hej⟩:=List.mem_filterMap.1 hj
    cases hb:Region.binds .any e with
    |false=>rw[hb]at hej;cases hej
    |true=>rw[hb]at hej;simp only[cond_true,Option.some.injEq]at hej;subst hej;exact hpre e (by simpa using he) hb
   have hbits:∀j,(B.getD i 0).testBit j=true->listed.getD j false=true:=
    ahead hB (lst:=fun j=>listed.getD j false=true) hc i o hoL hprs
   have hdN:∀d,o.dst=some d->d<N:=by
    intro d hd'
    unfold okOps at hN
    rw[List.all_eq_true]at hN
    have:=hN o (List.mem_of_getElem? hoL)
    rw[hd']at this
    simpa using this
   have hsz':(listed.setIfInBounds i true).size=ops.size:=by simp[hsz]
   have hs:=sets (listed:=listed) (i:=i) (by omega)
   have hc':∀k o,ops.toList[k]?=some o->(listed.setIfInBounds i true).getD k false=true->∀j,j∈prs o->(listed.setIfInBounds i true).getD j false=true:=by
    intro k ok hk hkl j hj
    rw[hs]at hkl⊢
    by_cases e:j=i
    ·rw[if_pos e]
    ·rw[if_neg e]
     by_cases e2:k=i
     ·subst e2;rw[hoL]at hk;cases hk;exact hprs j hj
     ·rw[if_neg e2]at hkl;exact hc k ok hk hkl j hj
   have hfu':(List.range ops.size).countP (fun j=> !(listed.setIfInBounds i true).getD j false)<=fuel:=by
    have:=countP_lt (p:=fun j=> !listed.getD j false) (q:=fun j=> !(listed.setIfInBounds i true).getD j false) (i:=i) (l:=List.range ops.size)
     (fun j hj=>by rw[hs]at hj;by_cases e:j=i<;>simp[e]at hj⊢;· simpa[e]using hj)
     (by simp only[hul,Bool.not_false]) (by rw[hs];simp) (by simpa using hil)
    omega
   have hl1:∀j,listed.getD j false=true->(listed.setIfInBounds i true).getD j false=true:=fun j hj=>by rw[hs];split<;>simp[hj]
   have hl2:∀j,(listed.setIfInBounds i true).getD j false=true->j=i\/listed.getD j false=true:=fun j hj=>by
    rw[hs]at hj
    by_cases e:j=i
    ·exact .inl e
    ·rw[if_neg e]at hj;exact .inr hj
   have hcases:i∈seen\/(∃is,rest=i::is)\/(i∉seen/\isM o.op=true/\∀is,rest≠i::is):=by
    by_cases hse:i∈seen
    ·exact .inl hse
    ·refine .inr ?_
     have hir:=(hA.cov i hil).resolve_left hse
     rcases hh with e|⟨h,is,oh,e,hoh,hrh,hmh⟩
     ·rw[e]at hir;simp at hir
     ·by_cases hih:i=h
      ·subst hih;exact .inl ⟨is,e⟩
      ·cases hmo:isM o.op with
       |true=>exact .inr ⟨hse,rfl,fun is' e'=>by rw[e]at e';injection e' with e1 _;exact hih e1.symm⟩
       |false=>
        exfalso
        subst e
        have his:i∈is:=(List.mem_cons.1 hir).resolve_left hih
        obtain⟨o',ho',g1,g2,g3,g5,g4⟩:=okO_cons hA.ok
        rw[hoh]at ho';cases ho'
        have hin:h∈nbl oh h bl:=by
         simp only[nbl,hrh,cond_false]
         cases isM oh.op<;>simp
        have hno:∀b ob,ops.toList[b]?=some ob->listed.getD b false=true->b∉seen->isM ob.op=true:=fun b ob hb hlb hsb=>by
         rcases hA.ls b hlb with x|⟨ob',hb',x⟩
         ·exact absurd x hsb
         ·rw[hb]at hb';cases hb';exact x
        rcases okO_chain hoL hmo g4 his hin with q|⟨b,ob,q1,q2,q3,q4,q5⟩
        ·have hlh:=hbits h q
         have:=hno h oh hoh hlh g2
         rw[hmh this]at hlh;cases hlh
        ·have:=hno b ob q3 (hbits b q5) fun x=>q2 (by simp[x])
         rw[q4]at this;cases this
   unfold wpOp
   rw[ho]
   dsimp only
   rcases hcases with hseen|⟨is,rfl⟩|⟨hnse,hmo,hnh⟩
   ·--a reader that the one order has done
    have hr:isR o.op=true:=by
     cases hx:isR o.op
     ·have:=(hA.sR i o hseen hoL).2 hx
      rw[hul]at this;cases this
     ·rfl
    have hmo:isM o.op=false:=by
     cases hx:isM o.op
     ·rfl
     ·rw[isM_R hx]at hr;cases hr
    have hrd:∀t,t∈rds ops.toList o->gt F t=gt (msk ops.toList (qs listed seen) F) t:=fun t ht=>
     (gt_msk fun j oj hj hd=>by
      have hb:=okRd_at hR hoL hj ht hd
      simp[qs,hbits j hb,hA.pre i hseen j hb]).symm
    obtain⟨_,o',ho',_,hPr⟩:=hA.dnR i ((hA.sR i o hseen hoL).1 hr)
    rw[hoL]at ho';cases ho'
    have hPr:=hPr hul
    have next:∀(v:AV) (val:Value) (w':World) (ρ':Rho),(∀d,o.dst=some d->gt F d=v)->S (XP X pn) N ρ' n (pt (msk ops.toList (qs listed seen) F) o.dst v) H (a.put o.dst val) w'->Nx ρ H w n ρ' H w' n->
      wpAny G.P .any ops Q' fuel (listed.setIfInBounds i true) (a.put o.dst val) w':=by
     intro v val w' ρ' hv hS' hN'
     refine ih _ _ _ ρ' n F H seen rest dn bl pn (hS'.re fun t=>?_) (hNx.trans hN') ?_ (hP.step hD (by omega) hul hoL hS.hr hN' (fun _ h=>h) (fun _ h=>.inr h) (fun x=>by rw[hmo]at x;cases x)) ?_ hc' hsz' hfu'
     ·rcases gt_msk' (L:=ops.toList) (q:=qs (listed.setIfInBounds i true) seen) (F:=F) (t:=t)with e|e
      ·by_cases ht:o.dst=some t
       ·rw[e,ht,pt_at];exact .inr (hv t ht)
       ·rw[pt_gt fun d hd e=>ht (by rw[hd,e])]
        by_cases hx:∃j oj,ops.toList[j]?=some oj/\oj.dst=some t/\qs listed seen j=false
        ·obtain⟨j,oj,hj,hd,hu⟩:=hx
         refine .inl (msk_dead hj hd ?_)
         have hji:j≠i:=by rintro rfl;rw[hoL]at hj;cases hj;exact ht hd
         simp only[qs]at hu⊢
         rw[hs,if_neg hji];exact hu
        ·refine .inr (e.trans (gt_msk fun j oj hj hd=>?_).symm)
         cases hy:qs listed seen j
         ·exact absurd ⟨j,oj,hj,hd,hy⟩ hx
         ·rfl
      ·exact .inl e
     ·refine⟨hA.ok,hA.cov,fun j hj=>?_,fun j oj hj hoj=>⟨(hA.sR j oj hj hoj).1,fun x=>hl1 j ((hA.sR j oj hj hoj).2 x)⟩,fun j hj=>?_,hA.blS,hA.pre,hA.kk⟩
      ·obtain⟨k1,oj,k2,k3,k4⟩:=hA.dnR j hj
       refine⟨k1,oj,k2,k3,fun hu=>k4 ?_⟩
       cases hx:listed.getD j false
       ·rfl
       ·rw[hl1 j hx]at hu;cases hu
      ·rcases hl2 j hj with rfl|x
       ·exact .inl hseen
       ·exact hA.ls j x
     ·rcases hh with e|⟨h,is,oh,e,hoh,hrh,hmh⟩
      ·exact .inl e
      ·refine .inr ⟨h,is,oh,e,hoh,hrh,fun x=>?_⟩
       have hne:h≠i:=by rintro rfl;rw[hoL]at hoh;cases hoh;rw[hmo]at x;cases x
       rw[hs,if_neg hne];exact hmh x
    rcases hPr with ⟨hw,hrr⟩|⟨hw,htup⟩
    ·rw[wnt_congr hrd]at hw
     rw[wnt_ok hS hw,if_pos rfl]
     rw[eo_rds hrd]at hrr
     refine .inl (runR_put (K:=fun F' H' n'=>∃v,F'=pt (msk ops.toList (qs listed seen) F) o.dst v/\H'=H/\n'=n/\(match o.dst with|some d=>v=gt F d|none=>True)) hS hdN ?_ _ (eo_sound o hS) (rR_run hrr))
     rintro ρ' F' H' n' a' w' hS' hN' ⟨v,rfl,rfl,rfl,hv⟩ ⟨val,rfl⟩
     exact next v val w' ρ' (fun d hd=>by rw[hd]at hv;exact hv.symm) hS' hN'
    ·rw[wnt_congr hrd]at hw
     rw[wnt_ok hS hw,if_neg (by simp)]
     exact next (.tup []) _ _ ρ htup (hS.put hdN hS.fresh hS.hr (by simp only[VR];exact⟨#[],rfl,by simp only[VRs]⟩) (Nx.refl ..)) (Nx.refl ..)
   ·--the next that does more
    obtain⟨o',ho',g1,g2,g3,g5,g4⟩:=okO_cons hA.ok
    rw[hoL]at ho';cases ho'
    have hr:isR o.op=false:=by
     rcases hh with e|⟨i',is',o',e,ho',hr',_⟩
     ·cases e
     ·cases e;rw[hoL]at ho';cases ho';exact hr'
    have hrd:∀t,t∈rds ops.toList o->gt F t=gt (msk ops.toList (qs listed seen) F) t:=fun t ht=>
     (gt_msk fun j oj hj hd=>by
      have hb:=okRd_at hR hoL hj ht hd
      simp[qs,hbits j hb,g1 j (List.getElem?_eq_some_iff.1 hj).1 hb]).symm
    have next:∀(v:AV) (val:Value) (w':World) (ρ':Rho) (H':Hp) (n':Nat),S (XP X pn) N ρ' n' (pt (msk ops.toList (qs listed seen) F) o.dst v) H' (a.put o.dst val) w'->Nx ρ H w n ρ' H' w' n'->
      (∀j oj,j∈dn->ops.toList[j]?=some oj->(listed.setIfInBounds i true).getD j false=false->P4 G ops.toList F H n oj->(∀t,t∈rds ops.toList oj->gt F t=gt (pt F o.dst v) t)->(∀d,oj.dst=some d->gt F d=gt (pt F o.dst v) d)->P4 G ops.toList (pt F o.dst v) H' n' oj)->
      runC G ops.toList B is dn (pt F o.dst v) H' n' K->wpAny G.P .any ops Q' fuel (listed.setIfInBounds i true) (a.put o.dst val) w':=by
     intro v val w' ρ' H' n' hS' hN' hold hk
     have hA':=At.put hB hR hD hA hoL (v:=v) (H':=H') (n':=n') (listed':=listed.setIfInBounds i true) hl1 hl2 (fun _=>by rw[hs,if_pos rfl]) (fun x=>by rw[hr]at x;cases x) hold (by rw[hr];exact hk)
     have hP':=hP.step hD (val:=val) (by omega) hul hoL hS.hr hN' (seen':=i::seen) (fun _ h=>by simp[h]) (fun j h=>by simpa using h) (fun _=>by simp)
     have hS3:S (XP X pn) N ρ' n' (msk ops.toList (qs (listed.setIfInBounds i true) (i::seen)) (pt F o.dst v)) H' (a.put o.dst val) w':=by
      refine hS'.re fun t=>?_
      by_cases hx:∃j oj,ops.toList[j]?=some oj/\oj.dst=some t/\qs (listed.setIfInBounds i true) (i::seen) j=false
      ·obtain⟨j,oj,hj,hd,hu⟩:=hx
       exact .inl (msk_dead hj hd hu)
      ·have hx':∀j oj,ops.toList[j]?=some oj->oj.dst=some t->qs (listed.setIfInBounds i true) (i::seen) j=true:=fun j oj hj hd=>by
        cases hy:qs (listed.setIfInBounds i true) (i::seen) j
        ·exact absurd ⟨j,oj,hj,hd,hy⟩ hx
        ·rfl
       refine .inr ?_
       rw[gt_msk hx']
       by_cases ht:o.dst=some t
       ·rw[ht,pt_at,pt_at]
       ·have hne:∀d,o.dst=some d->d≠t:=fun d hd e=>ht (by rw[hd,e])
        rw[pt_gt hne,pt_gt hne]
        refine(gt_msk fun j oj hj hd=>?_).symm
        have hji:j≠i:=by rintro rfl;rw[hoL]at hj;cases hj;exact ht hd
        have:=hx' j oj hj hd
        simp only[qs]at this⊢
        rw[hs,if_neg hji]at this
        simpa[hji]using this
     obtain⟨s',r',d',b',F',H2,n2,ρ2,pn',k1,k2,k3,k4,k5⟩:=settle (ρ0:=ρ0) (H0:=H0) (n0:=n0) hB hR hD hc' _ _ _ _ _ _ _ ρ' pn hA' hS3 (hNx.trans hN') hP'
     exact ih _ _ _ ρ2 n2 F' H2 s' r' d' b' pn' k2 k3 k1 k4 k5 hc' hsz' hfu'
    have hk:=hA.kk
    simp only[runC,hoL,hr,cond_false]at hk
    cases hw:wnt ops.toList F o.guard with
    |none=>rw[hw]at hk;exact hk.elim
    |some b=>
     rw[hw]at hk
     have hw2:=hw
     rw[wnt_congr hrd]at hw2
     cases b with
     |true=>
      rw[Spo_some,Spl_true]at hk
      rw[wnt_ok hS hw2,if_pos rfl]
      rw[eo_rds hrd]at hk
      refine .inl (runR_put hS hdN ?_ _ (eo_sound o hS) (runR_re (F0:=msk ops.toList (qs listed seen) F) hk))
      rintro ρ' F' H' n' a' w' hS' hN' ⟨v,rfl,hst,hkk⟩ ⟨val,rfl⟩
      refine next v val w' ρ' H' n' hS' hN' ?_ hkk
      intro j oj hj hoj hu hP4 k5 k6
      have hu':listed.getD j false=false:=by
       cases hx:listed.getD j false
       ·rfl
       ·rw[hl1 j hx]at hu;cases hu
      have hst1 := stb_at hst j oj (List.mem_filter.2 ⟨hj,by
       cases hx:(B.getD i 0).testBit j
       ·rfl
       ·rw[hbits j hx]at hu';cases hu'⟩) hoj
      rcases hP4 with ⟨hw3,_⟩|⟨hw3,hz⟩
      ·rw[wnt_congr k5]at hw3
       unfold st1 at hst1
       rw[hw3,Spo_some,Spl_true]at hst1
       exact .inl ⟨hw3,hst1⟩
      ·rw[wnt_congr k5]at hw3
       exact .inr ⟨hw3,fun d hd=>by rw[<-k6 d hd];exact hz d hd⟩
     |false=>
      rw[Spo_some,Spl_false]at hk
      rw[wnt_ok hS hw2,if_neg (by simp)]
      exact next (.tup []) _ _ ρ H n (hS.put hdN hS.fresh hS.hr (by simp only[VR];exact⟨#[],rfl,by simp only[VRs]⟩) (Nx.refl ..)) (Nx.refl ..) (fun j oj _ _ _ k4 k5 k6=>P4_congr k5 k6 k4) hk
   ·--made early
    obtain⟨t,ti,hop,hti⟩:=okMk_at hM hoL hmo
    obtain⟨og,hog,g1,g2,g3,g5,g4⟩:∃og,ops.toList[i]?=some og/\True/\True/\(isM og.op=true->og.guard=none)/\True/\True:=by
     have hir:=(hA.cov i hil).resolve_left hnse
     have key:∀{rest seen bl:List Nat},okO ops.toList B rest seen bl=true->i∈rest->o.guard=none:=by
      intro rest
      induction rest with
      |nil=>intro _ _ _ h;simp at h
      |cons h is ihr=>
       intro seen bl hok hi
       obtain⟨o',ho',q1,q2,q3,q5,q4⟩:=okO_cons hok
       rcases List.mem_cons.1 hi with rfl|hi
       ·rw[hoL]at ho';cases ho';exact q3 hmo
       ·exact ihr q4 hi
     exact⟨o,hoL,trivial,trivial,fun _=>key hA.ok hir,trivial,trivial⟩
    rw[hoL]at hog;cases hog
    have hgd:=g3 hmo
    rw[show Region.wanted o (yielded ops a.tmps)=true by simp[Region.wanted,hgd],if_pos rfl]
    obtain⟨val,w',q1,q2,q3,q4,q5,q6⟩:=alloc_early hop hti hS
    have hXe:XP X ((i,w.heap.size)::pn)=fun x=>XP X pn x\/x=w.heap.size:=by
     funext x
     simp only[XP,List.map_cons,List.mem_cons,eq_iff_iff]
     constructor
     ·rintro(hx|hx|hx)
      ·exact .inl (.inl hx)
      ·exact .inr hx
      ·exact .inl (.inr hx)
     ·rintro((hx|hx)|hx)
      ·exact .inl hx
      ·exact .inr (.inr hx)
      ·exact .inr (.inl hx)
    have hikey:i∉pn.map (·.1):=by
     intro hm
     obtain⟨⟨j,b⟩,hjb,rfl⟩:=List.mem_map.1 hm
     have:=(hP.ok j b hjb).2.1
     rw[hul]at this;cases this
    have hbkey:w.heap.size∉pn.map (·.2):=by
     intro hm
     obtain⟨⟨j,b⟩,hjb,e⟩:=List.mem_map.1 hm
     have:=(hP.ok j b hjb).2.2.2.2.1
     dsimp only at e
     omega
    refine .inl ?_
    unfold Oper.wp
    rw[q1]
    have hS2:=q2.put (dst:=o.dst) (v:=.dead) (val:=val) hdN q2.fresh q2.hr (by simp only[VR]) (Nx.refl ..)
    refine ih _ _ _ ρ n F H seen rest dn bl ((i,w.heap.size)::pn) ?_ (hNx.trans q3) ?_ ⟨?_,?_,?_,?_⟩ ?_ hc' hsz' hfu'
    ·rw[hXe]
     refine hS2.re fun t=>?_
     by_cases ht:o.dst=some t
     ·refine .inl (msk_dead hoL ht ?_)
      simp[qs,hnse]
     ·have hne:∀d,o.dst=some d->d≠t:=fun d hd e=>ht (by rw[hd,e])
      rw[pt_gt hne]
      by_cases hx:∃j oj,ops.toList[j]?=some oj/\oj.dst=some t/\qs (listed.setIfInBounds i true) seen j=false
      ·obtain⟨j,oj,hj,hd,hu⟩:=hx
       exact .inl (msk_dead hj hd hu)
      ·have hx':∀j oj,ops.toList[j]?=some oj->oj.dst=some t->qs (listed.setIfInBounds i true) seen j=true:=fun j oj hj hd=>by
        cases hy:qs (listed.setIfInBounds i true) seen j
        ·exact absurd ⟨j,oj,hj,hd,hy⟩ hx
        ·rfl
       refine .inr ?_
       rw[gt_msk hx']
       refine(gt_msk fun j oj hj hd=>?_).symm
       have hji:j≠i:=by rintro rfl;rw[hoL]at hj;cases hj;exact ht hd
       have:=hx' j oj hj hd
       simp only[qs]at this⊢
       rw[hs,if_neg hji]at this
       exact this
    ·refine⟨hA.ok,hA.cov,fun j hj=>?_,fun j oj hj hoj=>⟨(hA.sR j oj hj hoj).1,fun x=>hl1 j ((hA.sR j oj hj hoj).2 x)⟩,fun j hj=>?_,hA.blS,hA.pre,hA.kk⟩
     ·obtain⟨k1,oj,k2,k3,k4⟩:=hA.dnR j hj
      refine⟨k1,oj,k2,k3,fun hu=>k4 ?_⟩
      cases hx:listed.getD j false
      ·rfl
      ·rw[hl1 j hx]at hu;cases hu
     ·rcases hl2 j hj with rfl|x
      ·exact .inr ⟨o,hoL,hmo⟩
      ·exact hA.ls j x
    ·simp only[List.map_cons,List.nodup_cons];exact⟨hbkey,hP.blk⟩
    ·simp only[List.map_cons,List.nodup_cons];exact⟨hikey,hP.key⟩
    ·intro j oj r1 r2 r3 r4
     rcases hl2 j r3 with rfl|x
     ·exact⟨w.heap.size,by simp⟩
     ·obtain⟨b,hb⟩:=hP.has j oj r1 r2 x r4
      exact⟨b,by simp[hb]⟩
    ·intro j b hjb
     rw[hXe]
     rcases List.mem_cons.1 hjb with e|hjb2
     ·cases e
      refine⟨hnse,by rw[hs,if_pos rfl],fun hx=>?_,hNx.ext.size,by omega,o,t,ti,val,hoL,hop,hti,fun d hd=>?_,q6⟩
      ·have:=hS.hr.xold _ (Or.inl hx:XP X pn w.heap.size);omega
      ·have hdl:d<a.tmps.size:=by rw[hS.sz];exact hdN d hd
       rw[hd]
       simp[Act.put,Array.getD,hdl]
     ·obtain⟨k1,k2,k3,k4,k4',oj,tj,tij,vl,k5,k6,k7,k8,k9⟩:=hP.ok j b hjb2
      have hji:j≠i:=by rintro rfl;exact hikey (List.mem_map.2 ⟨(_,b),hjb2,rfl⟩)
      refine⟨k1,by rw[hs,if_neg hji];exact k2,k3,k4,by omega,oj,tj,tij,vl,k5,k6,k7,fun d hd=>?_,k9.carry ?_ (q5 b k4')⟩
      ·rw[put_get fun d' hd' e=>hji ?_]
       ·exact k8 d hd
       ·subst e;exact okDs_at hD k5 hoL hd hd'
      ·refine⟨fun _ _ h=>h,by omega,fun x hx _=>q5 x hx,q3.ext.shape,fun x hx ho=>?_⟩
       rcases ho with (hx'|rfl)|hx'
       ·exact .inl hx'
       ·omega
       ·exact .inr hx'
    ·rcases hh with e|⟨h,is,oh,e,hoh,hrh,hmh⟩
     ·exact .inl e
     ·refine .inr ⟨h,is,oh,e,hoh,hrh,fun x=>?_⟩
      have hne:h≠i:=by rintro rfl;exact hnh is e
      rw[hs,if_neg hne];exact hmh x
end
theorem trd {G:Prg} {ops:Array Oper} {id:Nat} {F:Fr} {H:Hp} {n:Nat} {Q:Post} (B:List Nat) (ord:List Nat) (hc:okD ops.toList B ord=true) (hM:okMk G ops.toList=true)
  (h:runC G ops.toList B ord [] F H n (NK Q)):T G.P (.region id ops true) F H n Q:=by
 simp only[okD,Bool.and_eq_true,List.all_eq_true]at hc
 obtain⟨hB,hO,hR,hD,hall⟩:=hc
 intro X N ρ a w hs hN
 simp only[codeOk]at hN
 refine wp_region_any G.mixed ?_
 have hcar:Carry ρ ρ w {w with drawn:=w.drawn+1} (OX X ρ H) (OX X ρ H):=⟨fun _ _ h=>h,Nat.le_refl _,fun _ _ _=>rfl,fun b cs e f h=>⟨cs,f,h,rfl⟩,fun _ _ h=>h⟩
 have hs1:S X N ρ n F H a {w with drawn:=w.drawn+1}:=⟨hs.fresh,hs.hr.carry hcar (fun _ _=>rfl) (fun _ _=>rfl),fun t=>VR_carry hcar _ _ (hs.fr t),hs.df,hs.sz⟩
 have hfalse:∀j,(Array.replicate ops.size false).getD j false=false:=by
  intro j
  rw[Array.getD_eq_getD_getElem?]
  by_cases hj:j<ops.size<;>simp[hj]
 have hA:At G ops B (Array.replicate ops.size false) [] ord [] [] F H n (NK Q):=by
  refine⟨hO,fun i hi=>.inr ?_,by simp,by simp,fun j hj=>?_,by simp,by simp,h⟩
  ·have:=hall i (by simpa using hi);simpa using this
  ·rw[hfalse]at hj;cases hj
 have hc0:∀k o,ops.toList[k]?=some o->(Array.replicate ops.size false).getD k false=true->∀j,j∈prs o->(Array.replicate ops.size false).getD j false=true:=fun k o _ hk=>by rw[hfalse]at hk;cases hk
 have hn1:Nx ρ H w n ρ H {w with drawn:=w.drawn+1} n:=⟨fun _ _ h=>h,Nat.le_refl _,⟨rfl,rfl,rfl,Nat.le_refl _,fun _ _ _=>rfl,fun b cs e f h=>⟨cs,f,h,rfl⟩⟩,fun b hb=>.inl hb⟩
 obtain⟨s',r',d',l',F',H',n',ρ',pn',k1,k2,k3,k4,k5⟩:=settle (X:=X) (N:=N) (a:=a) (w:={w with drawn:=w.drawn+1}) (ρ0:=ρ) (H0:=H) (w0:=w) (n0:=n) hB hR hD hc0 _ _ _ _ _ _ _ ρ [] hA
  (by rw[XP_nil];exact hs1.re fun t=>(gt_msk').symm) hn1 ⟨by simp,by simp,fun j o _ _ hl=>(by rw[hfalse]at hl;cases hl),by simp⟩
 exact draw_all (Q':=fun e a' w'=>∃ρ' F' H' n',S X N ρ' n' F' H' a' w'/\Nx ρ H w n ρ' H' w' n'/\Q e F' H' n') hB hR hD hM hN (ρ0:=ρ) (H0:=H) (w0:=w) (n0:=n) (fun ρ' F' H' n' a' w' h1 h2 h3=>⟨ρ',F',H',n',h1,h2,h3⟩)
  ops.size _ a _ ρ' n' F' H' s' r' d' l' pn' k2 k3 k1 k4 k5 hc0 (by simp) (Nat.le_trans List.countP_le_length (by simp))
theorem runR_mono {G:Prg} {C C':RK} (hc:∀F H n,C F H n->C' F H n) {dst:Option Nat} {F:Fr} {H:Hp} {n:Nat}:∀{r:Res},runR G C dst F H n r->runR G C' dst F H n r
 |.ok v H' n',h=>hc _ _ _ h
 |.need p r,h=>⟨h.1,runR_mono hc h.2⟩
 |.call f args,h=>TCall.mono h fun r H' n' _ h=>hc _ _ _ h
 |.bad,h=>h.elim
section
variable {G:Prg} {L:List Oper} {us:List Nat} {is:List (Nat×List Nat)} {F:Fr} {H H':Hp} {n n' i:Nat} {K:RK} {o:Oper} {dst:Option Nat} {v:AV} {p:Prop} {r:Res} {b:Bool} {js:List Nat}
end
attribute [go_sem] isR and_true
theorem take_snoc {α:Type} (l:List α) (k:Nat) (d:α) (h:k<l.length):l.take (k+1)=l.take k++[l.getD k d]:=by
 rw[List.take_succ_eq_append_getElem h];simp[List.getD,h]
theorem all_take_snoc {α:Type} (p:α->Bool) (l:List α) (k:Nat) (d:α) (h:k<l.length):(l.take (k+1)).all p=((l.take k).all p&&p (l.getD k d)):=by
 rw[take_snoc l k d h];simp
theorem all_false_at {α:Type} (p:α->Bool) (l:List α) (k:Nat) (d:α) (h:k<l.length) (hp:p (l.getD k d)=false):l.all p=false:=by
 rw[List.all_eq_false]
 refine⟨l.getD k d,?_,by rw[hp];exact Bool.false_ne_true⟩
 simp[List.getD,h]
theorem all_take_full {α:Type} (p:α->Bool) (l:List α) (k:Nat) (h:¬k<l.length) (hp:(l.take k).all p=true):l.all p=true:=by
 rwa[List.take_of_length_le (by omega)]at hp
theorem getD_mem {α:Type} (l:List α) (k:Nat) (d:α) (h:k<l.length):l.getD k d∈l:=by simp[List.getD,h]
theorem map_getD {α β:Type} (f:α->β) (l:List α) (k:Nat) (d:α) (e:β) (h:k<l.length):(l.map f).getD k e=f (l.getD k d):=by
 simp[List.getD,h]
@[go_sem] theorem tn1 (k:Nat):((k:Int)-1).toNat=k-1:=by omega
abbrev Str:=List UInt8
def pth (p:List Str):AV:=.sl 1 (p.map fun s=>[.str s])
@[go_sem] theorem mgs {α:Type} [Inhabited α] (f:α->List AV) (l:List α) (k:Nat) (h:k<l.length):(l.map f).getD k []=f (l.getD k default):=map_getD f l k default [] h
attribute [go_sem] pth
end Go.Proofs.YtbfeplcaapiaoaaGreatT
