/- Texts joined. Conditions: as each theorem names them. -/
import Derived.Shelf.Strings.SlTrimAscii
import Derived.Shelf.Strings.Prefix
import Derived.Shelf.Strings.Search3
import Derived.Shelf.Strings.Count
import Derived.Shelf.Strings.OnBuilder
import Derived.Test.YtkigmebejmmikaaGreatDoorProg
import Derived.Lib.IndexLaws
import Derived.Maps.OwnSet
import Derived.Maps.OwnOps
import Derived.StringKeys
import Derived.Deep.RegionWith
import Derived.Lib.Builder
import Derived.Lib.AppendStr
import Derived.Lib.UnsafeStr
import Derived.Lib.MakeNoZero
import Derived.Laws.Externs
import Derived.Laws.BitsLemmas
import Derived.RegionTactic
import Derived.Laws.AppendOwnNone
import Derived.Deep.MidRow
import Derived.Deep.AppendLies
import Derived.Laws.Append
import Derived.Test.YtkigmebejmmikaaGreatDoorV04
set_option maxRecDepth 100000
set_option maxHeartbeats 32000000
set_option linter.unusedVariables false
set_option linter.unusedSimpArgs false
namespace Go.Proofs.YtkigmebejmmikaaGreatDoor
open Go.RowKit Go.Proofs.Tryz
section
variable {α β:Type}
def Pu(k:α->List UInt8)(x:α):List α->List α
 |[]=>[x]
 |y::l=>if k y<k x then y::Pu k x l else x::y::l
def Gg(k:α->List UInt8)(l:List α):List α:=l.foldl (fun a x=>Pu k x a) []
theorem Qaw(k:α->List UInt8)(l:List α)(x:α):Gg k (l++[x])=Pu k x (Gg k l):=by simp[Gg]
theorem T7(k:α->List UInt8)(x:α):∀l,(Pu k x l).Perm (x::l)
 |[]=>List.Perm.refl _
 |y::l=>by
  unfold Pu;split
  ·exact((T7 k x l).cons y).trans (List.Perm.swap x y l)
  exact List.Perm.refl _
theorem Zr(k:α->List UInt8):∀(l a:List α),(l.foldl (fun a x=>Pu k x a) a).Perm (l++a)
 |[],a=>List.Perm.refl _
 |x::l,a=>by
  refine(Zr k l (Pu k x a)).trans ?_;refine((T7 k x a).append_left l).trans ?_;exact List.perm_middle
theorem Je(k:α->List UInt8)(l:List α):(Gg k l).Perm l:=by
 have:=Zr k l [];rwa [List.append_nil]at this
theorem Qep(k:α->List UInt8)(kb:β->List UInt8)(f:α->β)(h:∀x,kb (f x)=k x)(x:α):∀l,Pu kb (f x) (l.map f)=(Pu k x l).map f
 |[]=>rfl
 |y::l=>by
  unfold Pu;rw[ax];simp only[h];split
  ·rw[Qep k kb f h x l];rfl
  rfl
theorem Zo(k:α->List UInt8)(kb:β->List UInt8)(f:α->β)(h:∀x,kb (f x)=k x)(l:List α):Gg kb (l.map f)=(Gg k l).map f:=by
 have:∀(l a:List α),(l.map f).foldl (fun a x=>Pu kb x a) (a.map f)=(l.foldl (fun a x=>Pu k x a) a).map f:=by
  intro l;induction l with
  |nil=>intro a;rfl
  |cons x l ih=>intro a;rw[ax,List.foldl_cons,List.foldl_cons,Qep k kb f h,ih]
 exact this l []
theorem V0(k:α->List UInt8)(x:α):∀l,l.Pairwise (fun a b=>k a<=k b)->(Pu k x l).Pairwise fun a b=>k a<=k b
 |[],_=>List.pairwise_singleton _ _
 |y::l,h=>by
  rw[List.pairwise_cons]at h;unfold Pu;split
  ·rename_i hlt;refine List.pairwise_cons.2 ⟨fun z hz=>?_,V0 k x l h.2⟩;rcases az.1 ((T7 k x l).mem_iff.1 hz)with rfl|hz
   ·exact List.le_of_lt hlt
   exact h.1 z hz
  rename_i hlt;have hle:k x<=k y:=List.not_lt.1 hlt;refine List.pairwise_cons.2 ⟨fun z hz=>?_,List.pairwise_cons.2 h⟩;rcases az.1 hz with rfl|hz
  ·exact hle
  exact List.le_trans hle (h.1 z hz)
theorem Xc(k:α->List UInt8)(l:List α):(Gg k l).Pairwise fun a b=>k a<=k b:=by
 have:∀(l a:List α),a.Pairwise (fun a b=>k a<=k b)->(l.foldl (fun a x=>Pu k x a) a).Pairwise fun a b=>k a<=k b:=by
  intro l;induction l with
  |nil=>intro a h;exact h
  |cons x l ih=>intro a h;exact ih _ (V0 k x a h)
 exact this l [] List.Pairwise.nil
theorem Qh3(k:α->List UInt8){l m:List α}(hm:m.Perm l)(hs:m.Pairwise fun a b=>k a<=k b)(hd:∀a∈l,∀b∈l,k a=k b->a=b):m=Gg k l:=
 List.Perm.eq_of_pairwise (le:=fun a b=>k a<=k b) (fun a b ha hb h1 h2=>hd a (hm.mem_iff.1 ha) b ((Je k l).mem_iff.1 hb) (List.le_antisymm h1 h2)) hs (Xc k l) (hm.trans (Je k l).symm)
theorem Qb0(k:α->List UInt8)(x:α):∀(l:List α) (n:Nat),n<=l.length->(∀y∈l.take n,k y<k x)->(∀h:n<l.length,¬k l[n]<k x)->Pu k x l=l.take n++x::l.drop n
 |[],n,hn,_,_=>by simp at hn;subst hn;rfl
 |y::l,0,_,_,h=>by
  have:=h aL;simp only[List.getElem_cons_zero]at this;rw[Pu,if_neg this];rfl
 |y::l,n+1,hn,h1,h2=>by
  rw[Pu,if_pos (h1 y aL),Qb0 k x l n (by simpa using hn) (fun z hz=>h1 z gd) (fun h=>by have:=h2 aR;rwa [List.getElem_cons_succ]at this)];rfl
end
def D5(S:List Ty)(k:Kd)(g:Nat):List UInt8:=match B6 S k.name with
 |some t=>(match Bj t.fields g with|some f=>f.name|none=>[])
 |none=>[]
theorem Dp{S:List Ty}{k:Kd}{t:Ty}{f:Fd}(ht:B6 S k.name=some t)(hf:Bj t.fields f.tag=some f):D5 S k f.tag=f.name:=by unfold D5;rw[ht];simp only;rw[hf]
theorem Qdf{st:UInt8}:∀{fs:List Fd},Fds st fs->∀f∈fs,∀g∈fs,f.name=g.name->f=g:=by
 intro fs h f hf g hg e;have hp:=h.2;obtain⟨i,hi,rfl⟩:=List.getElem_of_mem hf;obtain⟨j,hj,rfl⟩:=List.getElem_of_mem hg;rw[List.pairwise_iff_getElem]at hp;rcases Nat.lt_trichotomy i j with h1|h1|h1
 ·exact absurd e (hp i j hi hj h1).1
 ·subst h1;rfl
 exact absurd e.symm (hp j i hj hi h1).1
def Cp(S:List Ty):Nat->Kd->Vl->Bool
 |0,_,_=>false
 |d+1,k,v=>
  if v.what=91 then v.kids.all (Cp S d k.part)
  else if v.what=63 then decide (k.part.signs.head?≠some 63) && v.kids.all (Cp S d k.part)
  else if v.what=85 then v.kids.all (Cp S d (Fq S k v.tag))
  else if v.what=82 then v.kids.all fun y=>Cp S d (Fq S k y.tag) (Mw y)
  else true
def H7:List UInt8:=[110,117,108,108]
def byN(S:List Ty)(k:Kd)(ks:List Vl):List Vl:=Gg (fun y=>D5 S k y.tag) ks
def Dj(S:List Ty):Nat->Kd->Vl->List UInt8
 |0,_,_=>[]
 |d+1,k,v=>
  if v.what=91 then 91::(Am 44 (v.kids.map (Dj S d k.part))++[93])
  else if v.what=63 then(match v.kids with|[]=>H7|x::_=>Dj S d k.part x)
  else if v.what=69 then 34::(D5 S k v.tag++[34])
  else if v.what=85 then 123::(D5 S k v.tag++58::(Dj S d (Fq S k v.tag) (Mw v)++[125]))
  else if v.what=82 then 123::(Am 44 ((byN S k v.kids).map fun y=>D5 S k y.tag++58::Dj S d (Fq S k y.tag) (Mw y))++[125])
  else Ay v
theorem Qhl{S:List Ty}(hS:∀t∈S,Do t){k:Kd}{t:Ty}(ht:B6 S k.name=some t){fs:List (Fd × Vl)}(hf:∀p∈fs,Bj t.fields p.1.tag=some p.1)(hp:fs.Pairwise fun p q=>p.1.tag<q.1.tag):
  ∀a∈fs.map C5,∀b∈fs.map C5,D5 S k a.tag=D5 S k b.tag->a=b:=by
 intro a ha b hb e;obtain⟨p,hp1,rfl⟩:=aw.1 ha;obtain⟨q,hq1,rfl⟩:=aw.1 hb;have e1:D5 S k p.1.tag=p.1.name:=Dp ht (hf p hp1);have e2:D5 S k q.1.tag=q.1.name:=Dp ht (hf q hq1);have e3:D5 S k p.1.tag=D5 S k q.1.tag:=e;rw[e1,e2]at e3;have e4:=Qdf (hS t (Be ht).1).2.2.1 p.1 (Bi (hf p hp1)).2 q.1 (Bi (hf q hq1)).2 e3;obtain⟨i,hi,rfl⟩:=List.getElem_of_mem hp1;obtain⟨j,hj,rfl⟩:=List.getElem_of_mem hq1;rw[List.pairwise_iff_getElem]at hp;have:i=j:=by
  rcases Nat.lt_trichotomy i j with h1|h1|h1
  ·have:=hp i j hi hj h1;rw[e4]at this;omega
  ·exact h1
  have:=hp j i hj hi h1;rw[e4]at this;omega
 subst this;rfl
def vlB(o:Option (List Ty × Kd))(x:List UInt8)(f:List Ty->Kd->Vl->Option (List UInt8)):Option (List UInt8):=match o with
 |some y=>(Kz y.1 y.2 x).bind (f y.1 y.2)
 |none=>none
theorem Tc{S:List Ty}(hS:∀t∈S,Do t){k:Kd}{t:Ty}(ht:B6 S k.name=some t){fs:List (Fd × Vl)}(hf:∀p∈fs,Bj t.fields p.1.tag=some p.1)(hp:fs.Pairwise fun p q=>p.1.tag<q.1.tag):fs.length<=8:=by
 have h8:=(hS t (Be ht).1).2.2.2.1;have:∀(l m:List Fd),l.Nodup->(∀x∈l,x∈m)->l.length<=m.length:=by
  intro l;induction l with
  |nil=>simp
  |cons x l ih=>
   exact kJ
 have h0:=this (fs.map (·.1)) t.fields (by
  rw[List.Nodup,List.pairwise_map];exact hp.imp fun h e=>by rw[e]at h;omega) (fun x hx=>by
  obtain⟨p,hp,rfl⟩:=aw.1 hx;exact(Bi (hf p hp)).2)
 rw[List.length_map]at h0;omega
theorem Qm6(S:List Ty)(k:Kd)(ks:List Vl)(T:Vl->List UInt8):Gg (·.1) ((ks.map fun y=>D5 S k y.tag).zip (ks.map T))=(byN S k ks).map fun y=>(D5 S k y.tag,T y):=by
 rw[List.zip_map',byN];exact Zo (fun y=>D5 S k y.tag) (·.1) (fun y=>(D5 S k y.tag,T y)) (fun _=>rfl) ks
theorem X7{α:Type}(g h:α->List UInt8):∀l:List α,(∀y∈l,(g y).length<=20*(h y).length)->Cq (l.map g)<=20*Cq (l.map h)
 |[],_=>d7
 |y::l,H=>by
  rw[ax,ax,Cu,Cu];have:=H y aL;have:=X7 g h l fun z hz=>H z gd;omega
theorem Qbb{l m:List (List UInt8)}(h:l.Perm m):Cq l=Cq m:=by
 induction h with
 |nil=>rfl
 |cons x _ ih=>rw[Cu,Cu,ih]
 |swap x y l=>rw[Cu,Cu,Cu,Cu];omega
 |trans _ _ h1 h2=>exact h1.trans h2
theorem Q9{S:List Ty}(hS:∀t∈S,Do t){k:Kd}{t:Ty}{f:Fd}(ht:B6 S k.name=some t)(hf:Bj t.fields f.tag=some f):(D5 S k f.tag).length<=3:=by
 rw[Dp ht hf];have hfo:=((hS t (Be ht).1).2.2.1.1 f (Bi hf).2).2.2.1;exact(C7.1 hfo).2.1
theorem Rl{S:List Ty}(hS:∀t∈S,Do t):∀(d:Nat) (k:Kd) (v:Vl),Gb S d k v->(Dj S d k v).length<=20*(Ay v).length:=by
 intro d;induction d with
 |zero=>intro k v h;cases h
 |succ d ih=>
  intro k v h;cases h with
  |n hs hb h=>simp[Dj,Vl.what];omega
  |t hs hb h=>simp[Dj,Vl.what];omega
  |f hs hb=>simp[Dj,Vl.what];omega
  |@lst _ _ r ks hs hl h=>
   have h1:=X7 (Dj S d k.part) Ay ks fun x hx=>ih _ _ (h x hx);rw[E4];have e1:=Bg 44 (ks.map Ay);have e2:=Bg 44 (ks.map (Dj S d k.part));simp[Dj,Vl.what,Vl.kids,Fa];omega
  |non hs=>simp[Dj,Vl.what,Vl.kids,H7,E4,Fa]
  |@som _ _ r x hs h=>
   have h1:=ih _ _ h;rw[E4];simp[Dj,Vl.what,Vl.kids,Fa,Am];omega
  |@enm _ _ t f hs hb ht h9 hf=>
   have:=Q9 hS ht hf;rw[E4];simp[Dj,Vl.what,Vl.tag,Fa];omega
  |@uni _ _ t f x hs hb ht h5 hf h=>
   have:=Q9 hS ht hf;have h1:=ih _ _ h;have e:=Cv ht hf;rw[E4];simp[Dj,Vl.what,Vl.tag,Vl.kids,Fa,Am,Mw,e];omega
  |@rcd _ _ t fs hs hb ht h2 hf h hn hp=>
   rw[E4];have h1:=X7 (fun y=>D5 S k y.tag++58::Dj S d (Fq S k y.tag) (Mw y)) Ay (fs.map C5) fun y hy=>by
    obtain⟨p,hp2,rfl⟩:=aw.1 hy;have:=Q9 hS ht (hf p hp2);have h1:=ih _ _ (h p hp2);have e:=Cv ht (hf p hp2);have e1:(C5 p).tag=p.1.tag:=rfl;have e2:Mw (C5 p)=p.2:=rfl;rw[e1,e2,e,show Ay (C5 p)=_ from E4 _ _ _ _];simp[Fa,Am];omega
   have h3:=Qbb ((Je (fun y:Vl=>D5 S k y.tag) (fs.map C5)).map fun y=>D5 S k y.tag++58::Dj S d (Fq S k y.tag) (Mw y));simp only[Dj,Vl.what,Vl.kids,Fa,byN];simp[Bg];simp only[List.map_map]at h1 h3 ⊢;omega
def Gz(fs:List Fd)(n:List UInt8):Option Fd:=fs.find? fun f=>decide (f.name=n)
def H6(K:Kd->List UInt8->Option (Vl × List UInt8))(fs:List Fd)(s:List UInt8):Option ((Fd × Vl) × List UInt8):=match Gz fs (s.takeWhile Br)with
 |none=>none
 |some f=>match Aj 58 (s.dropWhile Br)with
  |none=>none
  |some q=>match K f.kind q with|some (v,z)=>some ((f,v),z)|none=>none
def J6(K:Kd->List UInt8->Option (Vl × List UInt8))(fs:List Fd):Nat->List (Fd × Vl)->List UInt8->Option (List (Fd × Vl) × List UInt8)
 |0,_,_=>none
 |m+1,ps,s=>match H6 K fs s with
  |none=>none
  |some (p,r)=>if p.1.tag∈ps.map (·.1.tag)then none else match Aj 44 r with
   |some q=>J6 K fs m (ps++[p]) q
   |none=>match Aj 125 r with|some q=>some (ps++[p],q)|none=>none
def Z8(p:Fd × Vl):List (Fd × Vl)->List (Fd × Vl)
 |[]=>[p]
 |q::l=>if p.1.tag<=q.1.tag then p::q::l else q::Z8 p l
def Qae(S:List Ty)(a:List (Fd × Vl))(p:Fd × Vl):List (Fd × Vl):=if Ay p.2=Mh S p.1 then a else Z8 p a
def P3(S:List Ty)(K:Kd->List UInt8->Option (Vl × List UInt8))(t:Ty)(s:List UInt8):Option (Vl × List UInt8):=
 if t.sort=69 then(match Aj 34 s with
  |none=>none
  |some r=>match Gz t.fields (r.takeWhile Br)with
   |none=>none
   |some f=>match Aj 34 (r.dropWhile Br)with|some q=>some (.mk 69 [] f.tag [],q)|none=>none)
 else match Aj 123 s with
  |none=>none
  |some r=>if t.sort=85 then(match H6 K t.fields r with
    |none=>none
    |some (p,q)=>match Aj 125 q with|some z=>some (.mk 85 [] p.1.tag [p.2],z)|none=>none)
   else match Aj 125 r with
    |some q=>some (.mk 82 [] 0 [],q)
    |none=>match J6 K t.fields 1000 [] r with|some (ps,q)=>some (.mk 82 [] 0 ((ps.foldl (Qae S) []).map C5),q)|none=>none
def Ci(S:List Ty):Nat->Kd->List UInt8->Option (Vl × List UInt8)
 |0,_,_=>none
 |d+1,k,s=>match k.signs with
  |c::_=>if c=91 then N3 (Ci S d k.part) 1000 s
   else if k.part.signs.head?=some 63 then none
   else(match Ea H7 s with
    |some q=>some (.mk 63 [] 0 [],q)
    |none=>match Ci S d k.part s with|some (v,q)=>some (.mk 63 [] 0 [v],q)|none=>none)
  |[]=>if k.base=[64]then(match B6 S k.name with
    |none=>none
    |some t=>P3 S (Ci S d) t s)
   else Ap S 1000 1 k s
theorem Gi{fs:List Fd}{n:List UInt8}{f:Fd}(h:Gz fs n=some f):f∈fs/\f.name=n:=by
 exact kE
theorem Zw{st:UInt8}{fs:List Fd}(h:Fds st fs){f:Fd}(hf:f∈fs):Gz fs f.name=some f:=by
 cases hq:Gz fs f.name with
 |none=>
  have:=List.find?_eq_none.1 hq f hf;simp at this
 |some g=>
  obtain⟨h1,h2⟩:=Gi hq;rw[Qdf h g h1 f hf h2]
theorem Tu{st:UInt8}{fs:List Fd}(h:Fds st fs){f:Fd}(hf:f∈fs):Bj fs f.tag=some f:=by
 have hp:=h.2;cases hq:Bj fs f.tag with
 |none=>
  have:=List.find?_eq_none.1 hq f hf;simp at this
 |some g=>
  obtain⟨h1,h2⟩:=Bi hq;obtain⟨i,hi,rfl⟩:=List.getElem_of_mem hf;obtain⟨j,hj,rfl⟩:=List.getElem_of_mem h2;rw[List.pairwise_iff_getElem]at hp;rcases Nat.lt_trichotomy i j with h3|h3|h3
  ·have:=(hp i j hi hj h3).2;omega
  ·subst h3;rfl
  have:=(hp j i hj hi h3).2;omega
theorem Tj{α:Type}{P:List α->Prop}(h0:P [])(h1:∀l x,P l->P (l++[x])):∀l,P l:=by
 intro l;rw[<-l.reverse_reverse];induction l.reverse with
 |nil=>exact h0
 |cons x t ih=>rw[List.reverse_cons];exact h1 _ _ ih
theorem Rw(p:UInt8->Bool)(s:List UInt8):(s.dropWhile p).length<=s.length:=by
 have:=congrArg List.length (List.takeWhile_append_dropWhile (p:=p) (l:=s));rw[ah]at this;omega
def PkB(P:Vl->Prop)(o:Option (Vl × List UInt8))(s:List UInt8)(c:Nat):Prop:=∀v r,o=some (v,r)->P v/\r.length<s.length/\(Ay v).length+4*r.length+c<=4*s.length
theorem Yb{K:Kd->List UInt8->Option (Vl × List UInt8)}{P:Fd->Vl->Prop}{fs:List Fd}(hK:∀f∈fs,∀s,PkB (P f) (K f.kind s) s 0){s r:List UInt8}{p:Fd × Vl}(h:H6 K fs s=some (p,r)):
  p.1∈fs/\P p.1 p.2/\r.length+1<s.length/\(Ay p.2).length+4*r.length+4<=4*s.length:=by
 unfold H6 at h;cases hn:Gz fs (s.takeWhile Br)with
 |none=>rw[hn]at h;cases h
 |some f=>
  rw[hn]at h;simp only at h;cases hb:Aj 58 (s.dropWhile Br)with
  |none=>rw[hb]at h;cases h
  |some q=>
   rw[hb]at h;simp only at h;cases hk:K f.kind q with
   |none=>rw[hk]at h;cases h
   |some y=>
    obtain⟨v,z⟩:=y;rw[hk]at h;simp only[aj,aD]at h;obtain⟨rfl,rfl⟩:=h;obtain⟨h1,h2,h3⟩:=hK f (Gi hn).1 q v z hk;have h4:=Rw Br s;rw[Bl.1 hb,List.length_cons]at h4;exact⟨(Gi hn).1,h1,by omega,by show (Ay v).length+_+4<=_;omega⟩
theorem Mp(p:Fd × Vl):∀l,(Z8 p l).Perm (p::l)
 |[]=>List.Perm.refl _
 |q::l=>by
  unfold Z8;split
  ·exact List.Perm.refl _
  exact((Mp p l).cons q).trans (List.Perm.swap p q l)
theorem Xe(p:Fd × Vl):∀l,l.Pairwise (fun a b=>a.1.tag<b.1.tag)->(∀q∈l,q.1.tag≠p.1.tag)->(Z8 p l).Pairwise fun a b=>a.1.tag<b.1.tag
 |[],_,_=>List.pairwise_singleton _ _
 |q::l,h,hn=>by
  rw[List.pairwise_cons]at h;have hq:=hn q aL;unfold Z8;split
  ·rename_i hle;refine List.pairwise_cons.2 ⟨fun z hz=>?_,List.pairwise_cons.2 h⟩;rcases az.1 hz with rfl|hz
   ·omega
   have:=h.1 z hz;omega
  rename_i hle;refine List.pairwise_cons.2 ⟨fun z hz=>?_,Xe p l h.2 fun z hz=>hn z gd⟩;rcases az.1 ((Mp p l).mem_iff.1 hz)with rfl|hz
  ·omega
  exact h.1 z hz
def Mg(S:List Ty)(ps:List (Fd × Vl)):List (Fd × Vl):=ps.foldl (Qae S) []
theorem N4(S:List Ty)(ps:List (Fd × Vl))(p:Fd × Vl):Mg S (ps++[p])=Qae S (Mg S ps) p:=by simp[Mg]
theorem Pg{S:List Ty}{ps:List (Fd × Vl)}:∀q∈Mg S ps,q∈ps/\Ay q.2≠Mh S q.1:=by
 suffices H:∀(ps a:List (Fd × Vl)),∀q∈ps.foldl (Qae S) a,q∈a\/q∈ps/\Ay q.2≠Mh S q.1 by
  intro q hq;rcases H ps [] q hq with h|h
  ·cases h
  exact h
 intro ps;induction ps with
 |nil=>intro a q hq;exact .inl hq
 |cons p ps ih=>
  intro a q hq;rw[List.foldl_cons]at hq;rcases ih _ q hq with h|h
  ·unfold Qae at h;split at h
   ·exact .inl h
   rename_i hne;rcases az.1 ((Mp p a).mem_iff.1 h)with rfl|h
   ·exact .inr ⟨by simp,hne⟩
   exact .inl h
  exact .inr ⟨by simp[h.1],h.2⟩
theorem Vv{S:List Ty}:∀{ps:List (Fd × Vl)},(ps.map (·.1.tag)).Nodup->(Mg S ps).Pairwise fun a b=>a.1.tag<b.1.tag:=by
 intro ps;refine Tj (P:=fun ps=>(ps.map (·.1.tag)).Nodup->(Mg S ps).Pairwise fun a b=>a.1.tag<b.1.tag) (fun _=>List.Pairwise.nil) (fun ps p ih hn=>?_) ps
 ·
  rw[ay,List.nodup_append]at hn;obtain⟨h1,_,h3⟩:=hn;rw[N4];unfold Qae;split
  ·exact ih h1
  refine Xe p _ (ih h1) fun q hq e=>?_;exact h3 _ (ao (Pg q hq).1) p.1.tag aL e
theorem Qkw(S:List Ty)(ps:List (Fd × Vl)):Cq ((Mg S ps).map fun p=>Ay (C5 p))<=Cq (ps.map fun p=>Ay (C5 p)):=by
 refine Tj (P:=fun ps=>Cq ((Mg S ps).map fun p=>Ay (C5 p))<=Cq (ps.map fun p=>Ay (C5 p))) (Ar _) (fun ps p ih=>?_) ps
 ·
  rw[N4,ay];have e:∀a b:List (List UInt8),Cq (a++b)=Cq a+Cq b:=fun a b=>d7;rw[e];unfold Qae;split
  ·omega
  rw[Qbb ((Mp p _).map _),ax,Cu];simp only[ax,List.map_nil,Cu];omega
theorem Qew{K:Kd->List UInt8->Option (Vl × List UInt8)}{P:Fd->Vl->Prop}{fs:List Fd}(h200:∀f∈fs,f.tag<=200)(hK:∀f∈fs,∀s,PkB (P f) (K f.kind s) s 0):∀(m:Nat) (ps:List (Fd × Vl)) (s:List UInt8) (qs:List (Fd × Vl)) (r:List UInt8),
  J6 K fs m ps s=some (qs,r)->(∀p∈ps,p.1∈fs/\P p.1 p.2)->(ps.map (·.1.tag)).Nodup->(∀p∈qs,p.1∈fs/\P p.1 p.2)/\(qs.map (·.1.tag)).Nodup/\r.length<s.length /\
   Cq (qs.map fun p=>Ay (C5 p))+4*r.length+3<=Cq (ps.map fun p=>Ay (C5 p))+4*s.length:=by
 intro m;induction m with
 |zero=>intro ps s qs r h;cases h
 |succ m ih=>
  intro ps s qs r h hps hnd;unfold J6 at h;cases hf:H6 K fs s with
  |none=>rw[hf]at h;cases h
  |some y=>
   obtain⟨p,z⟩:=y;rw[hf]at h;simp only at h;obtain⟨h1,h2,h3,h4⟩:=Yb hK hf;split at h
   ·cases h
   rename_i hni;have hps':∀q∈ps++[p],q.1∈fs/\P q.1 q.2:=fun q hq=>by
    rcases af.1 hq with hq|hq
    ·exact hps q hq
    rw[ap]at hq;subst hq;exact⟨h1,h2⟩
   have hnd':((ps++[p]).map (·.1.tag)).Nodup:=by
    rw[ay,List.nodup_append];exact⟨hnd,by simp,fun a ha b hb e=>by simp at hb;subst hb e;exact hni ha⟩
   have hd:=C0 2 p.1.tag (by have:=h200 _ h1;have e:10 ^ (2+1)=1000:=rfl;omega);have he:Cq ((ps++[p]).map fun p=>Ay (C5 p))<=Cq (ps.map fun p=>Ay (C5 p))+(Ay p.2).length+5:=by
    have e:∀a b:List (List UInt8),Cq (a++b)=Cq a+Cq b:=fun a b=>d7;rw[ay,e,ax,List.map_nil,Cu,J8];simp[Cq];omega
   cases hb:Aj 44 z with
   |some q=>
    rw[hb]at h;simp only at h;obtain⟨i1,i2,i3,i4⟩:=ih _ _ _ _ h hps' hnd';rw[Bl.1 hb,List.length_cons]at h3 h4;exact⟨i1,i2,by omega,by omega⟩
   |none=>
    rw[hb]at h;simp only at h;cases hb2:Aj 125 z with
    |none=>rw[hb2]at h;cases h
    |some q=>
     rw[hb2]at h;simp only[aj,aD]at h;obtain⟨rfl,rfl⟩:=h;rw[Bl.1 hb2,List.length_cons]at h3 h4;exact⟨hps',hnd',by omega,by omega⟩
theorem Qdo{K:List UInt8->Option (Vl × List UInt8)}{P:Vl->Prop}(hK:∀s,PkB P (K s) s 0):∀(m:Nat) (s:List UInt8) (vs:List Vl) (r:List UInt8),
  Cd K m s=some (vs,r)->(∀x∈vs,P x)/\r.length<s.length/\Cq (vs.map Ay)+4*r.length+3<=4*s.length:=by
 intro m;induction m with
 |zero=>intro s vs r h;cases h
 |succ m ih=>
  intro s vs r h;unfold Cd at h;cases hk:K s with
  |none=>rw[hk]at h;cases h
  |some q=>
   obtain⟨v,z⟩:=q;rw[hk]at h;simp only at h;obtain⟨hp,h2,h3⟩:=hK _ _ _ hk;cases hb:Aj 44 z with
   |some q=>
    rw[hb]at h;simp only at h;cases hi:Cd K m q with
    |none=>rw[hi]at h;cases h
    |some y=>
     obtain⟨us,y⟩:=y;rw[hi]at h;simp only[aj,aD]at h;obtain⟨rfl,rfl⟩:=h;obtain⟨i1,i2,i3⟩:=ih _ _ _ hi;rw[Bl.1 hb,List.length_cons]at h2 h3;exact⟨by simpa using⟨hp,i1⟩,by omega,by rw[ax,Cu];omega⟩
   |none=>
    rw[hb]at h;simp only at h;cases hb2:Aj 93 z with
    |none=>rw[hb2]at h;cases h
    |some q=>
     rw[hb2]at h;simp only[aj,aD]at h;obtain⟨rfl,rfl⟩:=h;rw[Bl.1 hb2,List.length_cons]at h2 h3;exact⟨by simpa using hp,by omega,by simp[Cq];omega⟩
theorem Zn{S:List Ty}(hS:∀t∈S,Do t):∀(d:Nat) (k:Kd),Ch k->∀s,PkB (Gb S d k) (Ci S d k s) s (if k.signs.head?=some 63 then 0 else 1):=by
 intro d;induction d with
 |zero=>intro k hk s v r h;cases h
 |succ d ih=>
  intro k hk s v r h;have ihf:∀{t:Ty},B6 S k.name=some t->t.sort≠69->∀f∈t.fields,∀s,PkB (Gb S d f.kind) (Ci S d f.kind s) s 0:=fun ht h9 f hf s v r h=>by
   obtain⟨h1,h2,h3⟩:=ih f.kind (Py hS ht h9 hf).1 s v r h;exact⟨h1,h2,by omega⟩
  unfold Ci at h;cases hs:k.signs with
  |cons c t=>
   rw[hs]at h;simp only at h;have hkp:=(Kb hk).1;by_cases hc:c=91
   ·subst hc;rw[if_pos rfl]at h;have hK:∀s,PkB (Gb S d k.part) (Ci S d k.part s) s 0:=fun s v r h=>by
     obtain⟨h1,h2,h3⟩:=ih k.part hkp s v r h;exact⟨h1,h2,by omega⟩
    rw[List.head?_cons,if_neg aJ];unfold N3 at h;cases hb:Aj 91 s with
    |none=>rw[hb]at h;cases h
    |some q=>
     rw[hb]at h;simp only at h;have e1:=Bl.1 hb;cases hb2:Aj 93 q with
     |some z=>
      rw[hb2]at h;simp only[aj,aD]at h;obtain⟨rfl,rfl⟩:=h;have e2:=Bl.1 hb2;rw[e1,e2];exact⟨.lst hs aL aL,by simp;omega,by simp[Ay,Di,Fa,Am];omega⟩
     |none=>
      rw[hb2]at h;simp only at h;cases hi:Cd (Ci S d k.part) 1000 q with
      |none=>rw[hi]at h;cases h
      |some y=>
       obtain⟨vs,z⟩:=y;rw[hi]at h;simp only at h;split at h
       ·rename_i h20;simp only[aj,aD]at h;obtain⟨rfl,rfl⟩:=h;obtain⟨i1,i2,i3⟩:=Qdo hK _ _ _ _ hi;rw[e1];refine⟨.lst hs h20 i1,by simp;omega,?_⟩;rw[Gr];simp only[List.length_cons,ah,Bg,List.length_nil];omega
       cases h
   have h63:=(M7 hk hs).resolve_left hc;subst h63;rw[if_neg aJ]at h;rw[List.head?_cons,if_pos rfl];split at h
   ·cases h
   rename_i hp;cases hw:Ea H7 s with
   |some q=>
    rw[hw]at h;simp only[aj,aD]at h;obtain⟨rfl,rfl⟩:=h;rw[E9.1 hw];exact⟨.non hs,by simp[H7];omega,by simp[Ay,Di,Fa,H7];omega⟩
   |none=>
    rw[hw]at h;simp only at h;cases hq:Ci S d k.part s with
    |none=>rw[hq]at h;cases h
    |some y=>
     obtain⟨x,q⟩:=y;rw[hq]at h;simp only[aj,aD]at h;obtain⟨rfl,rfl⟩:=h;obtain⟨h1,h2,h3⟩:=ih k.part hkp s x q hq;rw[if_neg hp]at h3;exact⟨.som hs h1,h2,by simp[Ay,Di,Fa,Am];omega⟩
  |nil=>
   rw[hs]at h;simp only at h;rw[List.head?_nil,if_neg aL];by_cases hb:k.base=[64]
   ·rw[if_pos hb]at h;cases ht:B6 S k.name with
    |none=>rw[ht]at h;cases h
    |some t=>
     rw[ht]at h;simp only at h;have htO:=hS t (Be ht).1;have htF:=htO.2.2.1;unfold P3 at h;by_cases h9:t.sort=69
     ·rw[if_pos h9]at h;cases hb1:Aj 34 s with
      |none=>rw[hb1]at h;cases h
      |some q=>
       rw[hb1]at h;simp only at h;cases hn:Gz t.fields (q.takeWhile Br)with
       |none=>rw[hn]at h;cases h
       |some f=>
        rw[hn]at h;simp only at h;cases hb2:Aj 34 (q.dropWhile Br)with
        |none=>rw[hb2]at h;cases h
        |some z=>
         rw[hb2]at h;simp only[aj,aD]at h;obtain⟨rfl,rfl⟩:=h;have hm:=(Gi hn).1;have h4:=Rw Br q;rw[Bl.1 hb2,List.length_cons]at h4;have hd:=C0 2 f.tag (by have:=(htF.1 f hm).2.1;have e:10 ^ (2+1)=1000:=rfl;omega);rw[Bl.1 hb1];exact⟨.enm hs hb ht h9 (Tu htF hm),by simp;omega,by simp[Ay,Di,Fa];omega⟩
     rw[if_neg h9]at h;cases hb1:Aj 123 s with
     |none=>rw[hb1]at h;cases h
     |some q=>
      rw[hb1]at h;simp only at h;have e1:=Bl.1 hb1;by_cases h5:t.sort=85
      ·rw[if_pos h5]at h;cases hf:H6 (Ci S d) t.fields q with
       |none=>rw[hf]at h;cases h
       |some y=>
        obtain⟨p,z⟩:=y;rw[hf]at h;simp only at h;obtain⟨i1,i2,i3,i4⟩:=Yb (ihf ht h9) hf;cases hb2:Aj 125 z with
        |none=>rw[hb2]at h;cases h
        |some z'=>
         rw[hb2]at h;simp only[aj,aD]at h;obtain⟨rfl,rfl⟩:=h;rw[Bl.1 hb2,List.length_cons]at i3 i4;have hd:=C0 2 p.1.tag (by have:=(htF.1 p.1 i1).2.1;have e:10 ^ (2+1)=1000:=rfl;omega);rw[e1];exact⟨.uni hs hb ht h5 (Tu htF i1) i2,by simp;omega,by rw[Ri,List.length_cons,ah,J8];simp;omega⟩
      rw[if_neg h5]at h;have h2:t.sort=82:=by
       have:=htO.1;unfold Ee at this;rcases this with h|h|h
       ·exact h
       ·exact absurd h h5
       exact absurd h h9
      cases hb2:Aj 125 q with
      |some z=>
       rw[hb2]at h;simp only[aj,aD]at h;obtain⟨rfl,rfl⟩:=h;rw[e1,Bl.1 hb2];exact⟨.rcd (fs:=[]) hs hb ht h2 aL aL aL List.Pairwise.nil,by simp;omega,by simp[Ay,Di,Fa,Am];omega⟩
      |none=>
       rw[hb2]at h;simp only at h;cases hi:J6 (Ci S d) t.fields 1000 [] q with
       |none=>rw[hi]at h;cases h
       |some y=>
        obtain⟨ps,z⟩:=y;rw[hi]at h;simp only[aj,aD]at h;obtain⟨rfl,rfl⟩:=h;obtain⟨i1,i2,i3,i4⟩:=Qew (fun f hf=>(htF.1 f hf).2.1) (ihf ht h9) _ _ _ _ _ hi aL aL;have hal:=Qkw S ps;rw[e1];refine⟨.rcd hs hb ht h2 (fun p hp=>Tu htF (i1 p (Pg p hp).1).1) (fun p hp=>(i1 p (Pg p hp).1).2) (fun p hp=>(Pg p hp).2) (Vv i2),by simp;omega,?_⟩;show (Ay (.mk 82 [] 0 ((Mg S ps).map C5))).length+_+1<=_;rw[No];simp only[List.length_cons,ah,Bg,List.length_nil];simp[Cq]at i4;simp[Cq]at hal ⊢;omega
   rw[if_neg hb]at h;obtain⟨h1,h2⟩:=Gn hS 1000 1 k s v r hk h;have hp:Gb S (d+1) k v:=(Fb S _ _ _ h1 (d+1)).2 (by have:=(Fb S _ _ _ h1 1).1 h1;omega);obtain⟨c,t,e,_⟩:=Y8 h1;rw[h2];refine⟨hp,by rw[e];simp;omega,?_⟩;rw[e];simp;omega
theorem Vt{K:List UInt8->Option (Vl × List UInt8)}{T:Vl->List UInt8}:∀(m:Nat) (vs:List Vl) (r:List UInt8),(∀x∈vs,∀r,Ni r->K (T x++r)=some (x,r))->vs≠[]->vs.length<=m ->
  Cd K m (Am 44 (vs.map T)++93::r)=some (vs,r)
 |0,vs,r,_,h,hl=>fL
 |m+1,[],r,_,h,_=>absurd rfl h
 |m+1,[x],r,hK,_,_=>by
  have e:=hK x aL (93::r) (E5 _ aJ);simp only[ax,List.map_nil,Am];unfold Cd;rw[e];simp only[C9 (show (93:UInt8)≠44 by decide),Az]
 |m+1,x::y::vs,r,hK,_,hl=>by
  have ih:=Vt m (y::vs) r (fun z hz=>hK z cZ) aL dU;have e:=hK x aL (44::(Am 44 ((y::vs).map T)++93::r)) (E5 _ aJ);rw[ax,B0 44 _ aL,List.append_assoc,au];unfold Cd;rw[e];simp only[Az,ih]
theorem Qbd{a r:List UInt8}(ha:∀c∈a,Br c=true){x:UInt8}(hx:Br x=false):(a++x::r).takeWhile Br=a/\(a++x::r).dropWhile Br=x::r:=Ft (List.all_eq_true.2 ha) ⟨x,r,rfl,hx⟩
theorem Si{K:Kd->List UInt8->Option (Vl × List UInt8)}{st:UInt8}{fs:List Fd}(hF:Fds st fs){f:Fd}(hf:f∈fs){v:Vl}{T r:List UInt8}(hK:K f.kind (T++r)=some (v,r)):H6 K fs ((f.name++58::T)++r)=some ((f,v),r):=by
 have hn:=(C7.1 (hF.1 f hf).2.2.1).2.2;have e:(f.name++58::T)++r=f.name++58::(T++r):=aL;obtain⟨e1,e2⟩:=Qbd (r:=T++r) hn (x:=58) aJ;rw[e];unfold H6;rw[e1,e2,Zw hF hf];simp only[Az,hK]
theorem Qdp{K:Kd->List UInt8->Option (Vl × List UInt8)}{st:UInt8}{fs:List Fd}(hF:Fds st fs){T:Fd × Vl->List UInt8}:∀(m:Nat) (ps qs:List (Fd × Vl)) (r:List UInt8),
  (∀p∈qs,p.1∈fs/\∀r,Ni r->K p.1.kind (T p++r)=some (p.2,r))->qs≠[]->qs.length<=m->((ps++qs).map (·.1.tag)).Nodup ->
  J6 K fs m ps (Am 44 (qs.map fun p=>p.1.name++58::T p)++125::r)=some (ps++qs,r):=by
 intro m;induction m with
 |zero=>intro ps qs r _ h hl;cases qs with|nil=>exact absurd rfl h|cons=>simp at hl
 |succ m ih=>
  intro ps qs r hq hne hl hnd;cases qs with
  |nil=>exact absurd rfl hne
  |cons p qs=>
   obtain⟨hp,hK⟩:=hq p aL;have hni:¬p.1.tag∈ps.map (·.1.tag):=by
    rw[ay,List.nodup_append]at hnd;exact fun h=>hnd.2.2 _ h p.1.tag aL rfl
   cases qs with
   |nil=>
    have e:=Si (K:=K) (v:=p.2) (T:=T p) (r:=125::r) hF hp (hK _ (E5 _ aJ));simp only[ax,List.map_nil,Am];unfold J6;rw[e];simp only[if_neg hni,C9 (show (125:UInt8)≠44 by decide),Az]
   |cons q qs=>
    have i:=ih (ps++[p]) (q::qs) r (fun z hz=>hq z cZ) aL dU (by simpa using hnd);have e:=Si (K:=K) (v:=p.2) (T:=T p) (r:=44::(Am 44 ((q::qs).map fun p=>p.1.name++58::T p)++125::r)) hF hp (hK _ (E5 _ aJ));rw[ax,B0 44 _ aL,List.append_assoc,au];unfold J6;rw[e];simp only[if_neg hni,Az,i,List.append_assoc,List.singleton_append]
theorem Qhq{S:List Ty}{ps:List (Fd × Vl)}(h:∀p∈ps,Ay p.2≠Mh S p.1):(Mg S ps).Perm ps:=by
 revert h;refine Tj (P:=fun ps=>(∀p∈ps,Ay p.2≠Mh S p.1)->(Mg S ps).Perm ps) (fun _=>List.Perm.refl _) (fun ps p ih h=>?_) ps;rw[N4];unfold Qae;rw[if_neg (h p aL)];exact(Mp p _).trans (((ih fun q hq=>h q (by simp[hq])).cons p).trans (by simpa using(List.perm_append_comm (l₁:=[p]) (l₂:=ps))))
theorem Qhn{S:List Ty}{fs ps:List (Fd × Vl)}(hp:ps.Perm fs)(hn:∀p∈fs,Ay p.2≠Mh S p.1)(hs:fs.Pairwise fun p q=>p.1.tag<q.1.tag):Mg S ps=fs:=by
 have hnd:(ps.map (·.1.tag)).Nodup:=(hp.map _).nodup_iff.2 fy;refine List.Perm.eq_of_pairwise (le:=fun a b=>a.1.tag<b.1.tag) (fun a b _ _ h1 h2=>by omega) (Vv hnd) hs ((Qhq fun p hq=>hn p (hp.mem_iff.1 hq)).trans hp)
def Kg(S:List Ty)(d:Nat)(p:Fd × Vl):List UInt8:=p.1.name++58::Dj S d p.1.kind p.2
theorem Qdt{S:List Ty}{K:Kd->List UInt8->Option (Vl × List UInt8)}{d:Nat}{t:Ty}(ht:Do t)(h2:t.sort=82){fs qs:List (Fd × Vl)}(hp:qs.Perm fs)(hf:∀p∈fs,p.1∈t.fields/\∀r,Ni r->K p.1.kind (Dj S d p.1.kind p.2++r)=some (p.2,r))
  (hn:∀p∈fs,Ay p.2≠Mh S p.1) (hs:fs.Pairwise fun p q=>p.1.tag<q.1.tag) (h8:fs.length<=1000) (r:List UInt8):
  P3 S K t (123::(Am 44 (qs.map (Kg S d))++125::r))=some (.mk 82 [] 0 (fs.map C5),r):=by
 unfold P3;rw[if_neg cj,Az];simp only;rw[if_neg cj];cases qs with
 |nil=>
  obtain rfl:fs=[]:=List.eq_nil_of_length_eq_zero hp.length_eq.symm;simp[Am,Az]
 |cons q qs=>
  have hne:Aj 125 (Am 44 ((q::qs).map (Kg S d))++125::r)=none:=by
   have h1:=C7.1 (ht.2.2.1.1 q.1 (hf q (hp.mem_iff.1 aL)).1).2.2.1;obtain⟨c,n,e⟩:∃c n,q.1.name=c::n:=by
    cases h:q.1.name with
    |nil=>rw[h]at h1;simp at h1
    |cons c n=>exact⟨c,n,rfl⟩
   have hc:=Km.1 (h1.2.2 c (by rw[e];simp));have ej:∃z,Am 44 ((q::qs).map (Kg S d))++125::r=c::z:=by
    cases qs with
    |nil=>simp[Am,Kg,e]
    |cons a b=>rw[ax,B0 44 _ aL];simp[Kg,e]
   obtain⟨z,ez⟩:=ej;rw[ez];exact C9 (fun e=>by rw[e]at hc;exact absurd hc aJ) _
  have hnd:(((q::qs):List (Fd × Vl)).map (·.1.tag)).Nodup:=(hp.map _).nodup_iff.2 fy;have ht:=Qdp (K:=K) (T:=fun p=>Dj S d p.1.kind p.2) ht.2.2.1 1000 [] (q::qs) r (fun p hq=>hf p (hp.mem_iff.1 hq)) aL (by have:=hp.length_eq;omega) (by simpa using hnd);have ht':J6 K t.fields 1000 [] (Am 44 ((q::qs).map (Kg S d))++125::r)=some (q::qs,r):=ht;rw[hne];simp only;rw[ht'];simp only;have:=Qhn (S:=S) hp hn hs;unfold Mg at this;rw[this]
theorem Qd6{S:List Ty}{d:Nat}{k:Kd}{v:Vl}(h:Gb S d k v)(ho:Cp S d k v=true):∃c t,Dj S d k v=c::t/\c≠93/\(k.signs.head?≠some 63->∀r,Ea H7 (Dj S d k v++r)=none):=by
 revert h ho;induction d generalizing k v with
 |zero=>intro h;cases h
 |succ d ih=>
  intro h ho
  have key:∀{c:UInt8} {t:List UInt8},Dj S (d+1) k v=c::t->c≠93->c≠110->∃c t,Dj S (d+1) k v=c::t/\c≠93/\(k.signs.head?≠some 63->∀r,Ea H7 (Dj S (d+1) k v++r)=none):=fun {c t} e h1 h2=>⟨c,t,e,h1,fun _ r=>by
   rw[e,au];show Ea (110::[117,108,108]) _=none;unfold Ea;rw[C9 h2]⟩
  have h':=h;cases h with
  |@n _ _ m hs hb hm=>
   have hd:=J5 m;obtain⟨c,t,e⟩:∃c t,Bb m=c::t:=by
    cases he:Bb m with
    |nil=>exact absurd he (Rb m)
    |cons c t=>exact⟨c,t,rfl⟩
   rw[e,List.all_cons,av]at hd;have hc:=Dh.1 hd.1;exact key (c:=c) (t:=t) (by simp[Dj,Vl.what,Ay,Di,Fa,e]) (fun e=>by rw[e]at hc;exact absurd hc aJ) (fun e=>by rw[e]at hc;exact absurd hc aJ)
  |@t _ _ s hs hb hx=>exact key (c:=39) (t:=s++[39]) ev aJ aJ
  |@f _ _ b hs hb=>
   cases b
   ·refine⟨110,[111],by simp[Dj,Vl.what,Ay,Di,Fa,Mb],by decide,fun _ r=>?_⟩;simp[Dj,Vl.what,Ay,Di,Fa,Mb,H7,Ea,Aj]
   exact key (c:=121) (t:=[101,115]) (by simp[Dj,Vl.what,Ay,Di,Fa,Eh]) aJ aJ
  |@lst _ _ r ks hs hl hx=>exact key (c:=91) (t:=Am 44 (ks.map (Dj S d k.part))++[93]) cd aJ aJ
  |@non _ _ r hs=>exact⟨110,[117,108,108],by simp[Dj,Vl.what,Vl.kids,H7],by decide,fun h=>absurd (by rw[hs];rfl) h⟩
  |@som _ _ r x hs hx=>
   simp[Cp,Vl.what,Vl.kids]at ho;obtain⟨c,t,e,h1,_⟩:=ih hx ho.2;exact⟨c,t,by simp[Dj,Vl.what,Vl.kids,e],h1,fun h=>absurd (by rw[hs];rfl) h⟩
  |@enm _ _ t f hs hb ht h9 hf=>exact key (c:=34) (t:=D5 S k f.tag++[34]) (by simp[Dj,Vl.what,Vl.tag]) aJ aJ
  |@uni _ _ t f x hs hb ht h5 hf hx=>exact key (c:=123) (t:=D5 S k f.tag++58::(Dj S d (Fq S k f.tag) x++[125])) (by simp[Dj,Vl.what,Vl.tag,Vl.kids,Mw]) aJ aJ
  |@rcd _ _ t fs hs hb ht h2 hf hx hn hp=>exact key (c:=123) (t:=Am 44 ((byN S k (fs.map C5)).map fun y=>D5 S k y.tag++58::Dj S d (Fq S k y.tag) (Mw y))++[125]) cd aJ aJ
theorem Qdi{S:List Ty}{d:Nat}{k:Kd}{t:Ty}(ht:B6 S k.name=some t){fs:List (Fd × Vl)}(hf:∀p∈fs,Bj t.fields p.1.tag=some p.1):
  ∃qs:List (Fd × Vl),qs.Perm fs/\qs.Pairwise (fun a b=>a.1.name<=b.1.name)/\Dj S (d+1) k (.mk 82 [] 0 (fs.map C5))=123::(Am 44 (qs.map (Kg S d))++[125]):=by
 have hm:=Je (fun p:Fd × Vl=>D5 S k p.1.tag) fs;refine⟨Gg (fun p=>D5 S k p.1.tag) fs,hm,?_,?_⟩
 ·refine List.Pairwise.imp_of_mem (fun {a b} ha hb h=>?_) (Xc (fun p:Fd × Vl=>D5 S k p.1.tag) fs);rwa [Dp ht (hf a (hm.mem_iff.1 ha)),Dp ht (hf b (hm.mem_iff.1 hb))]at h
 have e:byN S k (fs.map C5)=(Gg (fun p=>D5 S k p.1.tag) fs).map C5:=Zo (fun p:Fd × Vl=>D5 S k p.1.tag) (fun y:Vl=>D5 S k y.tag) C5 (fun _=>rfl) fs;have e2:(byN S k (fs.map C5)).map (fun y=>D5 S k y.tag++58::Dj S d (Fq S k y.tag) (Mw y))=(Gg (fun p=>D5 S k p.1.tag) fs).map (Kg S d):=by
  rw[e,List.map_map];refine List.map_congr_left fun p hp=>?_;have h1:=hf p (hm.mem_iff.1 hp);show D5 S k p.1.tag++58::Dj S d (Fq S k p.1.tag) p.2=_;rw[Dp ht h1,Cv ht h1];rfl
 simp only[Dj,Vl.what,Vl.kids];simp[e2]
theorem Yh{S:List Ty}(hS:∀t∈S,Do t):∀(d:Nat) (k:Kd) (v:Vl),Gb S d k v->Cp S d k v=true->∀r,Ni r->Ci S d k (Dj S d k v++r)=some (v,r):=by
 intro d;induction d with
 |zero=>intro k v h;cases h
 |succ d ih=>
  intro k v h ho r hr;have leaf:k.signs=[]->k.base≠[64]->Dj S (d+1) k v=Ay v->Md v<=1->Ci S (d+1) k (Dj S (d+1) k v++r)=some (v,r):=fun h1 h2 h3 h4=>by
   unfold Ci;rw[h1,h3];simp only;rw[if_neg h2];exact Ko hS aG 1 k v r ((Fb S _ _ _ h 1).2 h4) hr
  have h':=h;cases h with
  |n hs hb hm=>exact leaf hs bE gX fm
  |t hs hb hx=>exact leaf hs bE gX fm
  |f hs hb=>exact leaf hs bE gX fm
  |@lst _ _ rr ks hs hl hx=>
   have ho':∀x∈ks,Cp S d k.part x=true:=by simpa [Cp,Vl.what,Vl.kids]using ho
   have e:Dj S (d+1) k (.mk 91 [] 0 ks)++r=91::(Am 44 (ks.map (Dj S d k.part))++93::r):=cd;rw[e];unfold Ci;rw[hs];simp only[if_true];unfold N3;rw[Az];simp only;cases ks with
   |nil=>simp[Am,Az]
   |cons x xs=>
    have hne:Aj 93 (Am 44 ((x::xs).map (Dj S d k.part))++93::r)=none:=by
     obtain⟨c,t,ec,hc,_⟩:=Qd6 (hx x aL) (ho' x aL);have ej:∃z,Am 44 ((x::xs).map (Dj S d k.part))++93::r=c::z:=by
      cases xs with
      |nil=>simp[Am,ec]
      |cons a b=>rw[ax,B0 44 _ aL];simp[ec]
     obtain⟨z,ez⟩:=ej;rw[ez];exact C9 hc _
    rw[hne];simp only;rw[Vt (T:=Dj S d k.part) 1000 (x::xs) r (fun y hy r hr=>ih _ _ (hx y hy) (ho' y hy) r hr) aL aG];simp only;rw[if_pos hl]
  |@non _ _ rr hs=>
   simp[Cp,Vl.what,Vl.kids]at ho;unfold Ci;rw[hs];simp only;rw[if_neg aJ,if_neg ho];have:Ea H7 (Dj S (d+1) k (.mk 63 [] 0 [])++r)=some r:=E9.2 cd;rw[this]
  |@som _ _ rr x hs hx=>
   simp[Cp,Vl.what,Vl.kids]at ho;obtain⟨_,_,_,_,hw⟩:=Qd6 hx ho.2;have e:Dj S (d+1) k (.mk 63 [] 0 [x])=Dj S d k.part x:=cd;unfold Ci;rw[hs,e];simp only;rw[if_neg aJ,if_neg ho.1,hw ho.1 r];simp only;rw[ih _ _ hx ho.2 r hr]
  |@enm _ _ t f hs hb ht h9 hf=>
   have htO:=hS t (Be ht).1;have hm:=(Bi hf).2;have hn:=(C7.1 (htO.2.2.1.1 f hm).2.2.1).2.2;have e:Dj S (d+1) k (.mk 69 [] f.tag [])++r=34::(f.name++34::r):=by simp[Dj,Vl.what,Vl.tag,Dp ht hf]
   obtain⟨e1,e2⟩:=Qbd (r:=r) hn (x:=34) aJ;rw[e];unfold Ci;rw[hs];simp only;rw[if_pos hb,ht];simp only;unfold P3;rw[if_pos h9,Az];simp only;rw[e1,e2,Zw htO.2.2.1 hm];simp only[Az]
  |@uni _ _ t f x hs hb ht h5 hf hx=>
   have htO:=hS t (Be ht).1;have hm:=(Bi hf).2;have hk:=Cv ht hf;simp[Cp,Vl.what,Vl.kids,Vl.tag,hk]at ho;have e:Dj S (d+1) k (.mk 85 [] f.tag [x])++r=123::((f.name++58::Dj S d f.kind x)++125::r):=by simp[Dj,Vl.what,Vl.tag,Vl.kids,Mw,Dp ht hf,hk]
   rw[e];unfold Ci;rw[hs];simp only;rw[if_pos hb,ht];simp only;unfold P3;rw[if_neg cY,Az];simp only;rw[if_pos h5,Si htO.2.2.1 hm (ih _ _ hx ho (125::r) (E5 _ aJ))];simp only[Az]
  |@rcd _ _ t fs hs hb ht h2 hf hx hn hp=>
   have htO:=hS t (Be ht).1;have ho':∀p∈fs,Cp S d p.1.kind p.2=true:=fun p hp=>by
    simp[Cp,Vl.what,Vl.kids]at ho;exact kK
   obtain⟨qs,hq,_,e⟩:=Qdi (d:=d) ht hf;have e2:Dj S (d+1) k (.mk 82 [] 0 (fs.map C5))++r=123::(Am 44 (qs.map (Kg S d))++125::r):=by rw[e];simp
   rw[e2];unfold Ci;rw[hs];simp only;rw[if_pos hb,ht];simp only;exact Qdt htO h2 hq (fun p hp=>⟨(Bi (hf p hp)).2,fun r hr=>ih _ _ (hx p hp) (ho' p hp) r hr⟩) hn hp (by have:=Tc hS ht hf hp;omega) r
end Go.Proofs.YtkigmebejmmikaaGreatDoor
namespace Go.Proofs
open Go.Shelf
def Tryz.lays160_ren:Go.Shelf.Ren:=⟨fun|160=>128|232=>159|231=>122|227=>123|234=>160|233=>124|236=>161|235=>125|228=>156|271=>177|151=>158|197=>157|120=>185|152=>176|260=>175|137=>183|119=>184|224=>170|225=>169|217=>168|266=>179|n=>n,fun|9=>9|4=>4|3=>3|5=>5|117=>169|116=>168|0=>0|124=>172|21=>21|105=>194|46=>159|119=>212|139=>215|138=>214|n=>n,fun|3=>1|4=>2|n=>n⟩
theorem Tryz.lays160:Go.Proofs.Lays.n160 Tryz.prog Tryz.lays160_ren:={
 mixed:=by kernel_rfl
 f119:=Tryz.func184.trans (congrArg some (by kernel_rfl))
 f120:=Tryz.func185.trans (congrArg some (by kernel_rfl))
 f137:=Tryz.func183.trans (congrArg some (by kernel_rfl))
 f151:=Tryz.func158.trans (congrArg some (by kernel_rfl))
 f152:=Tryz.func176.trans (congrArg some (by kernel_rfl))
 f160:=Tryz.func128.trans (congrArg some (by kernel_rfl))
 f197:=Tryz.func157.trans (congrArg some (by kernel_rfl))
 f217:=Tryz.func168.trans (congrArg some (by kernel_rfl))
 f224:=Tryz.func170.trans (congrArg some (by kernel_rfl))
 f225:=Tryz.func169.trans (congrArg some (by kernel_rfl))
 f227:=Tryz.func123.trans (congrArg some (by kernel_rfl))
 f228:=Tryz.func156.trans (congrArg some (by kernel_rfl))
 f231:=Tryz.func122.trans (congrArg some (by kernel_rfl))
 f232:=Tryz.func159.trans (congrArg some (by kernel_rfl))
 f233:=Tryz.func124.trans (congrArg some (by kernel_rfl))
 f234:=Tryz.func160.trans (congrArg some (by kernel_rfl))
 f235:=Tryz.func125.trans (congrArg some (by kernel_rfl))
 f236:=Tryz.func161.trans (congrArg some (by kernel_rfl))
 f260:=Tryz.func175.trans (congrArg some (by kernel_rfl))
 f266:=Tryz.func179.trans (congrArg some (by kernel_rfl))
 f271:=Tryz.func177.trans (congrArg some (by kernel_rfl))
 t0:=Tryz.underlying0
 a0:=Tryz.isAgg0
 z0:=Tryz.sizeOf0
 v0:=Tryz.zeroValue0
 t3:=Tryz.underlying3
 a3:=Tryz.isAgg3
 z3:=Tryz.sizeOf3
 v3:=Tryz.zeroValue3
 t4:=Tryz.underlying4
 a4:=Tryz.isAgg4
 z4:=Tryz.sizeOf4
 v4:=Tryz.zeroValue4
 t5:=Tryz.underlying5
 a5:=Tryz.isAgg5
 z5:=Tryz.sizeOf5
 v5:=Tryz.zeroValue5
 t9:=Tryz.underlying9
 a9:=Tryz.isAgg9
 z9:=Tryz.sizeOf9
 v9:=Tryz.zeroValue9
 t21:=Tryz.underlying21
 a21:=Tryz.isAgg21
 z21:=Tryz.sizeOf21
 v21:=Tryz.zeroValue21
 t46:=Tryz.underlying159
 a46:=Tryz.isAgg159
 z46:=Tryz.sizeOf159
 v46:=Tryz.zeroValue159
 t105:=Tryz.underlying194
 a105:=Tryz.isAgg194
 z105:=Tryz.sizeOf194
 v105:=Tryz.zeroValue194
 t116:=Tryz.underlying168
 a116:=Tryz.isAgg168
 z116:=Tryz.sizeOf168
 t117:=Tryz.underlying169
 a117:=Tryz.isAgg169
 z117:=Tryz.sizeOf169
 v117:=Tryz.zeroValue169
 t119:=Tryz.underlying212
 a119:=Tryz.isAgg212
 z119:=Tryz.sizeOf212
 t124:=Tryz.underlying172
 a124:=Tryz.isAgg172
 z124:=Tryz.sizeOf172
 v124:=Tryz.zeroValue172
 t138:=Tryz.underlying214
 a138:=Tryz.isAgg214
 z138:=Tryz.sizeOf214
 v138:=Tryz.zeroValue214
 t139:=Tryz.underlying215
 a139:=Tryz.isAgg215
 z139:=Tryz.sizeOf215
 v139:=Tryz.zeroValue215
 g3:=by kernel_rfl
 g4:=by kernel_rfl}
def Tryz.lays161_ren:Go.Shelf.Ren:=⟨fun|161=>92|231=>122|227=>123|233=>124|235=>125|228=>156|197=>157|151=>158|260=>175|152=>176|137=>183|119=>184|224=>170|225=>169|217=>168|266=>179|n=>n,fun|9=>9|4=>4|3=>3|5=>5|117=>169|116=>168|0=>0|124=>172|105=>194|21=>21|119=>212|46=>159|139=>215|138=>214|n=>n,fun|3=>1|4=>2|n=>n⟩
theorem Tryz.lays161:Go.Proofs.Lays.n161 Tryz.prog Tryz.lays161_ren:={
 mixed:=by kernel_rfl
 f119:=Tryz.func184.trans (congrArg some (by kernel_rfl))
 f137:=Tryz.func183.trans (congrArg some (by kernel_rfl))
 f151:=Tryz.func158.trans (congrArg some (by kernel_rfl))
 f152:=Tryz.func176.trans (congrArg some (by kernel_rfl))
 f161:=Tryz.func92.trans (congrArg some (by kernel_rfl))
 f197:=Tryz.func157.trans (congrArg some (by kernel_rfl))
 f217:=Tryz.func168.trans (congrArg some (by kernel_rfl))
 f224:=Tryz.func170.trans (congrArg some (by kernel_rfl))
 f225:=Tryz.func169.trans (congrArg some (by kernel_rfl))
 f227:=Tryz.func123.trans (congrArg some (by kernel_rfl))
 f228:=Tryz.func156.trans (congrArg some (by kernel_rfl))
 f231:=Tryz.func122.trans (congrArg some (by kernel_rfl))
 f233:=Tryz.func124.trans (congrArg some (by kernel_rfl))
 f235:=Tryz.func125.trans (congrArg some (by kernel_rfl))
 f260:=Tryz.func175.trans (congrArg some (by kernel_rfl))
 f266:=Tryz.func179.trans (congrArg some (by kernel_rfl))
 t0:=Tryz.underlying0
 a0:=Tryz.isAgg0
 z0:=Tryz.sizeOf0
 v0:=Tryz.zeroValue0
 t3:=Tryz.underlying3
 a3:=Tryz.isAgg3
 z3:=Tryz.sizeOf3
 v3:=Tryz.zeroValue3
 t4:=Tryz.underlying4
 a4:=Tryz.isAgg4
 z4:=Tryz.sizeOf4
 v4:=Tryz.zeroValue4
 t5:=Tryz.underlying5
 a5:=Tryz.isAgg5
 z5:=Tryz.sizeOf5
 v5:=Tryz.zeroValue5
 t9:=Tryz.underlying9
 a9:=Tryz.isAgg9
 z9:=Tryz.sizeOf9
 v9:=Tryz.zeroValue9
 t21:=Tryz.underlying21
 a21:=Tryz.isAgg21
 z21:=Tryz.sizeOf21
 v21:=Tryz.zeroValue21
 t46:=Tryz.underlying159
 a46:=Tryz.isAgg159
 z46:=Tryz.sizeOf159
 v46:=Tryz.zeroValue159
 t105:=Tryz.underlying194
 a105:=Tryz.isAgg194
 z105:=Tryz.sizeOf194
 v105:=Tryz.zeroValue194
 t116:=Tryz.underlying168
 a116:=Tryz.isAgg168
 z116:=Tryz.sizeOf168
 t117:=Tryz.underlying169
 a117:=Tryz.isAgg169
 z117:=Tryz.sizeOf169
 v117:=Tryz.zeroValue169
 t119:=Tryz.underlying212
 a119:=Tryz.isAgg212
 z119:=Tryz.sizeOf212
 t124:=Tryz.underlying172
 a124:=Tryz.isAgg172
 z124:=Tryz.sizeOf172
 v124:=Tryz.zeroValue172
 t138:=Tryz.underlying214
 a138:=Tryz.isAgg214
 z138:=Tryz.sizeOf214
 v138:=Tryz.zeroValue214
 t139:=Tryz.underlying215
 a139:=Tryz.isAgg215
 z139:=Tryz.sizeOf215
 v139:=Tryz.zeroValue215
 g3:=by kernel_rfl
 g4:=by kernel_rfl}
def Tryz.lays99_ren:Go.Shelf.Ren:=⟨fun|99=>93|206=>126|n=>n,fun|9=>9|4=>4|3=>3|n=>n,fun|n=>n⟩
theorem Tryz.lays99:Go.Proofs.Lays.n99 Tryz.prog Tryz.lays99_ren:={
 mixed:=by kernel_rfl
 f99:=Tryz.func93.trans (congrArg some (by kernel_rfl))
 f206:=Tryz.func126.trans (congrArg some (by kernel_rfl))
 t3:=Tryz.underlying3
 a3:=Tryz.isAgg3
 z3:=Tryz.sizeOf3
 v3:=Tryz.zeroValue3
 t4:=Tryz.underlying4
 a4:=Tryz.isAgg4
 z4:=Tryz.sizeOf4
 v4:=Tryz.zeroValue4
 t9:=Tryz.underlying9
 a9:=Tryz.isAgg9
 z9:=Tryz.sizeOf9
 v9:=Tryz.zeroValue9}
def Tryz.lays100_ren:Go.Shelf.Ren:=⟨fun|100=>94|207=>127|n=>n,fun|9=>9|4=>4|3=>3|n=>n,fun|n=>n⟩
theorem Tryz.lays100:Go.Proofs.Lays.n100 Tryz.prog Tryz.lays100_ren:={
 mixed:=by kernel_rfl
 f100:=Tryz.func94.trans (congrArg some (by kernel_rfl))
 f207:=Tryz.func127.trans (congrArg some (by kernel_rfl))
 t3:=Tryz.underlying3
 a3:=Tryz.isAgg3
 z3:=Tryz.sizeOf3
 v3:=Tryz.zeroValue3
 t4:=Tryz.underlying4
 a4:=Tryz.isAgg4
 z4:=Tryz.sizeOf4
 v4:=Tryz.zeroValue4
 t9:=Tryz.underlying9
 a9:=Tryz.isAgg9
 z9:=Tryz.sizeOf9
 v9:=Tryz.zeroValue9}
def Tryz.lays143_ren:Go.Shelf.Ren:=⟨fun|143=>153|219=>152|217=>168|225=>169|224=>170|267=>171|266=>179|314=>180|n=>n,fun|9=>9|3=>3|4=>4|5=>5|46=>159|146=>210|51=>189|n=>n,fun|1=>0|n=>n⟩
theorem Tryz.lays143:Go.Proofs.Lays.n143 Tryz.prog Tryz.lays143_ren:={
 mixed:=by kernel_rfl
 f143:=Tryz.func153.trans (congrArg some (by kernel_rfl))
 f217:=Tryz.func168.trans (congrArg some (by kernel_rfl))
 f219:=Tryz.func152.trans (congrArg some (by kernel_rfl))
 f224:=Tryz.func170.trans (congrArg some (by kernel_rfl))
 f225:=Tryz.func169.trans (congrArg some (by kernel_rfl))
 f266:=Tryz.func179.trans (congrArg some (by kernel_rfl))
 f267:=Tryz.func171.trans (congrArg some (by kernel_rfl))
 f314:=Tryz.func180.trans (congrArg some (by kernel_rfl))
 t3:=Tryz.underlying3
 a3:=Tryz.isAgg3
 z3:=Tryz.sizeOf3
 v3:=Tryz.zeroValue3
 t4:=Tryz.underlying4
 a4:=Tryz.isAgg4
 z4:=Tryz.sizeOf4
 v4:=Tryz.zeroValue4
 t5:=Tryz.underlying5
 a5:=Tryz.isAgg5
 z5:=Tryz.sizeOf5
 v5:=Tryz.zeroValue5
 t9:=Tryz.underlying9
 a9:=Tryz.isAgg9
 z9:=Tryz.sizeOf9
 v9:=Tryz.zeroValue9
 t46:=Tryz.underlying159
 a46:=Tryz.isAgg159
 z46:=Tryz.sizeOf159
 v46:=Tryz.zeroValue159
 t51:=Tryz.underlying189
 a51:=Tryz.isAgg189
 z51:=Tryz.sizeOf189
 v51:=Tryz.zeroValue189
 t146:=Tryz.underlying210
 a146:=Tryz.isAgg210
 z146:=Tryz.sizeOf210
 v146:=Tryz.zeroValue210
 g1:=by kernel_rfl}
def Tryz.lays144_ren:Go.Shelf.Ren:=⟨fun|144=>119|143=>153|219=>152|217=>168|225=>169|224=>170|267=>171|266=>179|314=>180|n=>n,fun|9=>9|4=>4|3=>3|5=>5|46=>159|146=>210|51=>189|n=>n,fun|1=>0|n=>n⟩
theorem Tryz.lays144:Go.Proofs.Lays.n144 Tryz.prog Tryz.lays144_ren:={
 mixed:=by kernel_rfl
 f143:=Tryz.func153.trans (congrArg some (by kernel_rfl))
 f144:=Tryz.func119.trans (congrArg some (by kernel_rfl))
 f217:=Tryz.func168.trans (congrArg some (by kernel_rfl))
 f219:=Tryz.func152.trans (congrArg some (by kernel_rfl))
 f224:=Tryz.func170.trans (congrArg some (by kernel_rfl))
 f225:=Tryz.func169.trans (congrArg some (by kernel_rfl))
 f266:=Tryz.func179.trans (congrArg some (by kernel_rfl))
 f267:=Tryz.func171.trans (congrArg some (by kernel_rfl))
 f314:=Tryz.func180.trans (congrArg some (by kernel_rfl))
 t3:=Tryz.underlying3
 a3:=Tryz.isAgg3
 z3:=Tryz.sizeOf3
 v3:=Tryz.zeroValue3
 t4:=Tryz.underlying4
 a4:=Tryz.isAgg4
 z4:=Tryz.sizeOf4
 v4:=Tryz.zeroValue4
 t5:=Tryz.underlying5
 a5:=Tryz.isAgg5
 z5:=Tryz.sizeOf5
 v5:=Tryz.zeroValue5
 t9:=Tryz.underlying9
 a9:=Tryz.isAgg9
 z9:=Tryz.sizeOf9
 v9:=Tryz.zeroValue9
 t46:=Tryz.underlying159
 a46:=Tryz.isAgg159
 z46:=Tryz.sizeOf159
 v46:=Tryz.zeroValue159
 t51:=Tryz.underlying189
 a51:=Tryz.isAgg189
 z51:=Tryz.sizeOf189
 v51:=Tryz.zeroValue189
 t146:=Tryz.underlying210
 a146:=Tryz.isAgg210
 z146:=Tryz.sizeOf210
 v146:=Tryz.zeroValue210
 g1:=by kernel_rfl}
def Tryz.lays138_ren:Go.Shelf.Ren:=⟨fun|138=>173|195=>181|218=>182|143=>153|219=>152|217=>168|225=>169|224=>170|267=>171|266=>179|314=>180|n=>n,fun|9=>9|3=>3|4=>4|5=>5|0=>0|46=>159|146=>210|51=>189|n=>n,fun|1=>0|n=>n⟩
theorem Tryz.lays138:Go.Proofs.Lays.n138 Tryz.prog Tryz.lays138_ren:={
 mixed:=by kernel_rfl
 f138:=Tryz.func173.trans (congrArg some (by kernel_rfl))
 f143:=Tryz.func153.trans (congrArg some (by kernel_rfl))
 f195:=Tryz.func181.trans (congrArg some (by kernel_rfl))
 f217:=Tryz.func168.trans (congrArg some (by kernel_rfl))
 f218:=Tryz.func182.trans (congrArg some (by kernel_rfl))
 f219:=Tryz.func152.trans (congrArg some (by kernel_rfl))
 f224:=Tryz.func170.trans (congrArg some (by kernel_rfl))
 f225:=Tryz.func169.trans (congrArg some (by kernel_rfl))
 f266:=Tryz.func179.trans (congrArg some (by kernel_rfl))
 f267:=Tryz.func171.trans (congrArg some (by kernel_rfl))
 f314:=Tryz.func180.trans (congrArg some (by kernel_rfl))
 t0:=Tryz.underlying0
 a0:=Tryz.isAgg0
 z0:=Tryz.sizeOf0
 v0:=Tryz.zeroValue0
 t3:=Tryz.underlying3
 a3:=Tryz.isAgg3
 z3:=Tryz.sizeOf3
 v3:=Tryz.zeroValue3
 t4:=Tryz.underlying4
 a4:=Tryz.isAgg4
 z4:=Tryz.sizeOf4
 v4:=Tryz.zeroValue4
 t5:=Tryz.underlying5
 a5:=Tryz.isAgg5
 z5:=Tryz.sizeOf5
 v5:=Tryz.zeroValue5
 t9:=Tryz.underlying9
 a9:=Tryz.isAgg9
 z9:=Tryz.sizeOf9
 v9:=Tryz.zeroValue9
 t46:=Tryz.underlying159
 a46:=Tryz.isAgg159
 z46:=Tryz.sizeOf159
 v46:=Tryz.zeroValue159
 t51:=Tryz.underlying189
 a51:=Tryz.isAgg189
 z51:=Tryz.sizeOf189
 v51:=Tryz.zeroValue189
 t146:=Tryz.underlying210
 a146:=Tryz.isAgg210
 z146:=Tryz.sizeOf210
 v146:=Tryz.zeroValue210
 g1:=by kernel_rfl}
def Tryz.lays219_ren:Go.Shelf.Ren:=⟨fun|219=>152|217=>168|225=>169|224=>170|267=>171|266=>179|314=>180|n=>n,fun|9=>9|3=>3|4=>4|5=>5|46=>159|146=>210|51=>189|n=>n,fun|1=>0|n=>n⟩
theorem Tryz.lays219:Go.Proofs.Lays.n219 Tryz.prog Tryz.lays219_ren:={
 mixed:=by kernel_rfl
 f217:=Tryz.func168.trans (congrArg some (by kernel_rfl))
 f219:=Tryz.func152.trans (congrArg some (by kernel_rfl))
 f224:=Tryz.func170.trans (congrArg some (by kernel_rfl))
 f225:=Tryz.func169.trans (congrArg some (by kernel_rfl))
 f266:=Tryz.func179.trans (congrArg some (by kernel_rfl))
 f267:=Tryz.func171.trans (congrArg some (by kernel_rfl))
 f314:=Tryz.func180.trans (congrArg some (by kernel_rfl))
 t3:=Tryz.underlying3
 a3:=Tryz.isAgg3
 z3:=Tryz.sizeOf3
 v3:=Tryz.zeroValue3
 t4:=Tryz.underlying4
 a4:=Tryz.isAgg4
 z4:=Tryz.sizeOf4
 v4:=Tryz.zeroValue4
 t5:=Tryz.underlying5
 a5:=Tryz.isAgg5
 z5:=Tryz.sizeOf5
 v5:=Tryz.zeroValue5
 t9:=Tryz.underlying9
 a9:=Tryz.isAgg9
 z9:=Tryz.sizeOf9
 v9:=Tryz.zeroValue9
 t46:=Tryz.underlying159
 a46:=Tryz.isAgg159
 z46:=Tryz.sizeOf159
 v46:=Tryz.zeroValue159
 t51:=Tryz.underlying189
 a51:=Tryz.isAgg189
 z51:=Tryz.sizeOf189
 v51:=Tryz.zeroValue189
 t146:=Tryz.underlying210
 a146:=Tryz.isAgg210
 z146:=Tryz.sizeOf210
 v146:=Tryz.zeroValue210
 g1:=by kernel_rfl}
def Tryz.lays156_ren:Go.Shelf.Ren:=⟨fun|156=>37|165=>70|166=>71|169=>72|240=>109|241=>110|276=>138|277=>139|n=>n,fun|31=>63|9=>9|3=>3|4=>4|0=>0|20=>20|72=>125|76=>129|70=>123|37=>25|75=>128|127=>156|164=>178|5=>5|80=>51|n=>n,fun|n=>n⟩
theorem Tryz.lays156:Go.Proofs.Lays.n156 Tryz.prog Tryz.lays156_ren:={
 mixed:=by kernel_rfl
 f156:=Tryz.func37.trans (congrArg some (by kernel_rfl))
 f165:=Tryz.func70.trans (congrArg some (by kernel_rfl))
 f166:=Tryz.func71.trans (congrArg some (by kernel_rfl))
 f169:=Tryz.func72.trans (congrArg some (by kernel_rfl))
 f240:=Tryz.func109.trans (congrArg some (by kernel_rfl))
 f241:=Tryz.func110.trans (congrArg some (by kernel_rfl))
 f276:=Tryz.func138.trans (congrArg some (by kernel_rfl))
 f277:=Tryz.func139.trans (congrArg some (by kernel_rfl))
 t0:=Tryz.underlying0
 a0:=Tryz.isAgg0
 z0:=Tryz.sizeOf0
 v0:=Tryz.zeroValue0
 t3:=Tryz.underlying3
 a3:=Tryz.isAgg3
 z3:=Tryz.sizeOf3
 v3:=Tryz.zeroValue3
 t4:=Tryz.underlying4
 a4:=Tryz.isAgg4
 z4:=Tryz.sizeOf4
 v4:=Tryz.zeroValue4
 t9:=Tryz.underlying9
 a9:=Tryz.isAgg9
 z9:=Tryz.sizeOf9
 v9:=Tryz.zeroValue9
 t20:=Tryz.underlying20
 a20:=Tryz.isAgg20
 z20:=Tryz.sizeOf20
 v20:=Tryz.zeroValue20
 t31:=Tryz.underlying63
 a31:=Tryz.isAgg63
 z31:=Tryz.sizeOf63
 v31:=Tryz.zeroValue63
 t37:=Tryz.underlying25
 a37:=Tryz.isAgg25
 z37:=Tryz.sizeOf25
 v37:=Tryz.zeroValue25
 t70:=Tryz.underlying123
 a70:=Tryz.isAgg123
 z70:=Tryz.sizeOf123
 v70:=Tryz.zeroValue123
 t72:=Tryz.underlying125
 a72:=Tryz.isAgg125
 z72:=Tryz.sizeOf125
 v72:=Tryz.zeroValue125
 t75:=Tryz.underlying128
 a75:=Tryz.isAgg128
 z75:=Tryz.sizeOf128
 v75:=Tryz.zeroValue128
 t76:=Tryz.underlying129
 a76:=Tryz.isAgg129
 z76:=Tryz.sizeOf129
 v76:=Tryz.zeroValue129
 t127:=Tryz.underlying156
 a127:=Tryz.isAgg156
 z127:=Tryz.sizeOf156
 v127:=Tryz.zeroValue156
 t164:=Tryz.underlying178
 a164:=Tryz.isAgg178
 z164:=Tryz.sizeOf178
 v164:=Tryz.zeroValue178}
end Go.Proofs
namespace Go.Proofs.YtkigmebejmmikaaGreatDoor
open Go.RowKit Go.Proofs.Tryz
section
attribute [local go_sem] Qo1 Qof Qnv Qlx ByteArray.mk_append_mk
theorem Mk(s cs:List UInt8)(w:World)(hcs:cs.length<4294967281)(ha:∀b∈cs,b.toNat<128):
  Calls prog 92 #[s,cs] w fun e w'=>e=.returned (.string ⟨(s.dropWhile (cs.contains ·)).toArray⟩)/\Below w w w':=
 Any.strings_TrimLeft_laid Tryz.lays161 aM ⟨s.toArray⟩ ⟨cs.toArray⟩ w hcs (fun j b h=>ha b (List.mem_of_getElem? h))
theorem Nh{p:UInt8->Bool}:∀{l:List UInt8},l.dropWhile p=[]↔l.all p=true
 |[]=>aL
 |x::l=>by
  have ih:=Nh (p:=p) (l:=l);by_cases h:p x=true
  ·simp only[List.dropWhile_cons,h,if_true,List.all_cons,Bool.true_and];exact ih
  simp[h]
theorem Qh6{l cs:List UInt8}:Lib.trimS l cs=[]↔l.all (cs.contains ·)=true:=by
 unfold Lib.trimS Lib.trimLeftS Lib.trimRightS;rw[Nh];have hsp:l.reverse.takeWhile (cs.contains ·)++l.reverse.dropWhile (cs.contains ·)=l.reverse:=List.takeWhile_append_dropWhile;have htk:=Kt (p:=fun x=>cs.contains x) l.reverse;constructor
 ·intro h;rw[List.all_eq_true]at h htk ⊢;intro x hx;have hx':x∈l.reverse:=List.mem_reverse.2 hx;rw[<-hsp]at hx';rcases af.1 hx' with hx'|hx'
  ·exact htk x hx'
  exact h x (List.mem_reverse.2 hx')
 intro h;rw[List.all_eq_true]at h ⊢;intro x hx;have hx':=List.mem_reverse.1 hx;exact h x (List.mem_reverse.1 (by rw[<-hsp];exact List.mem_append_right _ hx'))
theorem Qeg(s cs:List UInt8)(w:World)(hs:s.length<=9223372036854775807)(hcs:cs.length<4294967281)(ha:∀b∈cs,b.toNat<128):
  Calls prog 128 #[s,cs] w fun e w'=>(∃r:List UInt8,e=.returned r/\(r=[]↔s.all (cs.contains ·)=true))/\Below w w w':=
 (Any.strings_Trim_laid Tryz.lays160 aM ⟨s.toArray⟩ ⟨cs.toArray⟩ w hs hcs (fun j b h=>ha b (List.mem_of_getElem? h))).mono fun e w' ⟨h1,h2⟩=>⟨⟨_,h1,Qh6⟩,h2⟩
theorem Qci(s p:List UInt8):Lib.hasPrefix s p=p.isPrefixOf s:=by
 unfold Lib.hasPrefix;first|rfl|simp
theorem Rx(s p:List UInt8)(w:World):
  Calls prog 93 #[s,p] w fun e w'=>e=.returned (.bool (p.isPrefixOf s))/\w=w':=
 (Any.strings_HasPrefix Tryz.lays99 ⟨s.toArray⟩ ⟨p.toArray⟩ w).mono fun e w' ⟨h1,h2⟩=>⟨by rw[h1,Qci],h2.symm⟩
theorem Ru(s p:List UInt8)(w:World)(hs:s.length<=9223372036854775807):
  Calls prog 94 #[s,p] w fun e w'=>e=.returned (.bool (Lib.hasSuffix s p))/\w=w':=
 (Any.strings_HasSuffix Tryz.lays100 ⟨s.toArray⟩ ⟨p.toArray⟩ w hs).mono fun e w' ⟨h1,h2⟩=>⟨h1,h2.symm⟩
theorem Me(s:List UInt8)(c:UInt8):(c∉s/\Lib.indexByte s c = -1)\/∃p t,s=p++c::t/\c∉p/\Lib.indexByte s c=(p.length:Int):=by
 induction s with
 |nil=>exact .inl ⟨by simp,rfl⟩
 |cons x s ih=>
  by_cases hx:x=c
  ·exact .inr ⟨[],s,by simp[hx],by simp,by simp[Lib.indexByte,hx]⟩
  have hb:(x == c)=false:=by simpa using hx
  rcases ih with⟨hn,e⟩|⟨p,t,es,hp,e⟩
  ·exact .inl ⟨by simp;exact⟨fun h=>hx h.symm,hn⟩,by simp[Lib.indexByte,hb,e]⟩
  refine .inr ⟨x::p,t,by simp[es],by simp;exact⟨fun h=>hx h.symm,hp⟩,?_⟩;have:¬(p.length:Int) = -1:=aG;simp[Lib.indexByte,hb,e,this]
theorem Qi3(s:List UInt8)(c:UInt8)(w:World):
  Calls prog 153 #[s,.string ⟨#[c]⟩] w fun e w'=>e=.returned (.int .i64 (Lib.indexByte s c))/\w=w':=
 (Any.strings_Index_one Tryz.lays143 ⟨s.toArray⟩ c w).mono fun e w' ⟨h1,h2⟩=>⟨h1,h2.symm⟩
theorem Z5(s:List UInt8)(c:UInt8)(w:World):
  Calls prog 152 #[s,.string ⟨#[c]⟩] w fun e w'=>e=.returned (.int .i64 (Lib.indexByte s c))/\w=w':=
 (Any.stringslite_Index_one Tryz.lays219 ⟨s.toArray⟩ c w).mono fun e w' ⟨h1,h2⟩=>⟨h1,h2.symm⟩
theorem Qjb(s:List UInt8)(c:UInt8)(w:World):
  Calls prog 173 #[s,.string ⟨#[c]⟩] w fun e w'=>e=.returned (.int .i64 ((s.count c:Nat):Int))/\w=w':=
 (Any.strings_Count_one Tryz.lays138 ⟨s.toArray⟩ c w).mono fun e w' ⟨h1,h2⟩=>⟨h1,h2.symm⟩
theorem Ps(s:List UInt8)(c:UInt8)(w:World):
  Calls prog 119 #[s,.string ⟨#[c]⟩] w fun e w'=>e=.returned (.bool (decide (c∈s)))/\w=w':=
 (Any.strings_Contains_one Tryz.lays144 ⟨s.toArray⟩ c w).mono fun e w' ⟨h1,h2⟩=>⟨by
  rw[h1];refine Eu (Da ?_);show decide (0<=Lib.indexByte s c)=_;rw[decide_eq_decide];rcases Me s c with⟨hn,e⟩|⟨p,t,es,hp,e⟩
  ·rw[e];exact⟨fun h=>by omega,fun h=>absurd h hn⟩
  rw[e];exact⟨fun _=>by rw[es];simp,fun _=>by omega⟩,h2.symm⟩
def Qei(r:List UInt8 × List UInt8 × Bool):Value:=.tuple #[r.1,r.2.1,.bool r.2.2]
theorem Qj1(s:List UInt8)(c:UInt8)(w:World)(hs:s.length<=4294967280):
  Calls prog 118 #[s,.string ⟨#[c]⟩] w fun e w'=>e=.returned (Qei (Ds c s))/\∃k,w'=w.drewN k:=by
 rcases Me s c with⟨hn,e⟩|⟨p,t,es,hp,e⟩
 ·have Hc:=Aa (Re hn);have Hi:=Aa (fun W=>Z5 s c W);rw[e]at Hi;clear hn e;go_enter func118,ntmps118;go_wp2_with fail;refine(Hi.o _).mono ?_;rintro e w' ⟨rfl,rfl⟩;go_wp2_with fail;go_ret3
  exact⟨by rw[Hc.o];rfl,0,rfl⟩
 have Hc:=Aa (show Ds c s=(p,t,true)by rw[es];exact Ff hp);have Hi:=Aa (fun W=>Z5 s c W);rw[e]at Hi;have hl:s.length=p.length+1+t.length:=by rw[es];simp;omega
 have h1:s.take p.length=p:=by rw[es];simp
 have h2:s.drop (p.length+1)=t:=by
  rw[es,show p++c::t=(p++[c])++t by simp];exact List.drop_left' aL
 have k1:IntKind.i64.wrap ((p.length:Int)+1)=(p.length:Int)+1:=IntWalk.i64_in _ aG;have k2:((p.length:Int)+1).toNat=p.length+1:=aG;have k3:(0:Int)<=(p.length:Int)+1:=aG;have k4:(p.length:Int)+1<=(s.length:Int):=aG;have k5:(p.length:Int)<=(s.length:Int):=aG;have k6:(0:Int)<=(p.length:Int):=aG;have H1:=Aa h1;have H2:=Aa h2;clear e es hl h1 h2 hp;go_enter func118,ntmps118;go_wp2_with fail;refine(Hi.o _).mono ?_;rintro e w' ⟨rfl,rfl⟩;go_wp2_with fail;go_quiet (fail)
 go_wp2
 go_ret3
 exact⟨by rw[Hc.o];exact Qpd (Qjk H1.o) (Qjk H2.o) rfl,_,rfl⟩
theorem Tf(s:List UInt8)(c:UInt8)(w:World)(hs:s.length<=4294967280):
  Calls prog 89 #[s,.string ⟨#[c]⟩] w fun e w'=>e=.returned (Qei (Ds c s))/\∃k,w'=w.drewN k:=by
 go_enter func89,ntmps89;go_wp2_with fail;refine(Qj1 s c _ hs).mono ?_;rintro e w' ⟨rfl,k,rfl⟩;unfold Qei;go_wp2_with fail;go_ret3
 exact⟨rfl,k,rfl⟩
theorem S1(c:UInt8):∀s:List UInt8,(Ak c s).length=s.count c+1
 |[]=>rfl
 |x::s=>by
  have ih:=S1 c s;simp only[Ak];by_cases h:x=c
  ·rw[if_pos h,h];simp[ih]
  rw[if_neg h];have e:List.count c (x::s)=List.count c s:=List.count_cons_of_ne h;rw[e];cases hs:Ak c s with
  |nil=>rw[hs]at ih;simp at ih
  |cons p ps=>rw[hs]at ih;simp at ih ⊢;exact ih
theorem Qlm(A B:List Value)(k:Nat)(x y:Value)(h:A.length=k):(A++x::B).set k y=A++y::B:=by
 subst h;rw[List.set_append,if_neg aG];simp
theorem Qdh{w:World}{base k n g cap:Nat}{ps:List (List UInt8)}{ys:List Value}(h:w.ownsRow base 9 1 (.slice (g,0) n cap) n (Ah ps++ys))(hk:ps.length=k)(hlt:k<n)(s:List UInt8):
  ∃zs,(w.setCell ⟨g,k,none⟩ s).ownsRow base 9 1 (.slice (g,0) n cap) n (Ah (ps++[s])++zs)/\w.grownBy (w.setCell ⟨g,k,none⟩ s) (some g)/\w.frozen? ⟨g,k,none⟩=false/\∃u,w.cell? ⟨g,k,none⟩=some u:=by
 have hl:(Ah ps).length=k:=by simp[Ah,hk]
 have h1:=h.1;rw[ah,hl]at h1;obtain⟨y,zs,rfl⟩:∃y zs,ys=y::zs:=by
  cases ys with
  |nil=>simp at h1;omega
  |cons y zs=>exact⟨y,zs,rfl⟩
 have hst:=h.stored k s;rw[Qlm _ _ _ _ _ hl]at hst;have hc:=h.cellAt k aG;rw[List.getElem?_append_right aG,hl]at hc;simp at hc;exact⟨zs,by rw[Qd,List.append_assoc];exact hst.1,hst.2,h.frozenAt k,y,hc⟩
theorem Ql0{w:World}{base k n g cap:Nat}{ps:List (List UInt8)}{ys:List Value}(h:w.ownsRow base 9 1 (.slice (g,0) n cap) n (Ah ps++ys))(hk:ps.length=k)(hle:k<=n):
  w.ownsRow base 9 1 (.slice (g,0) k cap) k (Ah ps):=by
 rcases h.2 with⟨e,_⟩|⟨g',cap',cur,e,hb,hh,hnc,hcm,hcs,htk⟩
 ·cases e
 injection e with e1 e2 e3;injection e1 with e1;injection e1 with e1;subst e1;subst e3;refine⟨by simp[Ah,hk],.inr ⟨g,cap,cur,rfl,hb,hh,by omega,hcm,hcs,?_⟩⟩;have hl:(Ah ps).length=k:=by simp[Ah,hk]
 have:(cur.toList.take (n*1)).take (k*1)=(Ah ps++ys).take (k*1):=by rw[htk]
 rw[List.take_take,Nat.min_eq_left aG]at this;rw[this,List.take_append_of_le_length aG,ar aG]
theorem Qch(s:List UInt8)(c:UInt8)(w:World)(hs:s.length<=4000000):
  Calls prog 154 #[s,.string ⟨#[c]⟩,.int .i64 0,.int .i64 (-1)] w fun e w'=>
   ∃v,e=.returned v/\w'.ownsRow w 9 1 v (Ak c s).length (Ah (Ak c s))/\Below w w w':=by
 obtain⟨i0,hi,hz0,hz1,hz2⟩:=info_parts Ej;have hcnt:s.count c<=s.length:=List.count_le_length;have Hn:=Aa (S1 c s);have H0:=@Aa (Ak c s=[]++Ak c s) rfl;go_enter func154,ntmps154;go_wp2_with fail;refine(Qjb s c w).mono ?_;rintro e w' ⟨rfl,rfl⟩;obtain⟨n,hn⟩:∃n,n=s.count c:=⟨_,rfl⟩
 have HN:=Aa hn;rw[<-hn]at hcnt ⊢;clear hn;have hmin:min ((n:Int)+1) ((s.length:Int)+1)=(n:Int)+1:=aG;go_wp2_with (at_make;refine wpList_make_full _ rfl _ _ 63 rfl w 9 i0 aa 1 underlying63 hi hz0 hz1 .i64 .i64 _ _ (n+1) rfl rfl aG aG (by rw[hz2];omega) aU (Ar _) ?_;intro w0 hown0 hgrow0)
 go_loopw [0,10] (fun x i wr=>∃(ps:List (List UInt8)) (r:List UInt8) (k:Nat),i=.int .i64 k/\k<=n/\x=r/\r.length<=s.length/\ps.length=k/\Hid (Ak c s=ps++Ak c r)/\Hid (r.count c+k=n) /\
   Hid (∃ys,wr.ownsRow w 9 1 (.slice (w,0) (n+1) (n+1)) (n+1) (Ah ps++ys))/\Hid (Below w w wr)) (fun _ i _=>n - (intOf i).toNat)
 case atStart=>exact⟨[],s,0,rfl,ag _,rfl,Ar _,rfl,H0.o,by show _=_;have:=HN.o;omega,⟨_,hown0⟩,(Aw _ _).grown hgrow0 (Ar _) aL⟩
 case round=>
  obtain⟨ps,r,k,rfl,hk,rfl,hr,hps,hsp,hct,hown,hb⟩:=hrel;have Hps:=Aa hps;clear hps;by_cases hlt:k<n
  ·have hmem:c∈r:=by
    have:=hct.o;exact List.count_pos_iff.1 aG
   have hix:∃p t,r=p++c::t/\c∉p/\Lib.indexByte r c=(p.length:Int):=by
    rcases Me r c with⟨h,_⟩|h
    ·exact absurd hmem h
    exact h
   obtain⟨p,t,er,hp,e⟩:=hix;have Hi:=Aa (fun W=>Qi3 r c W);rw[e]at Hi;have hl:r.length=p.length+1+t.length:=by rw[er];simp;omega
   have H1:=Aa (show r.take p.length=p by rw[er];simp)
   have H2:=Aa (show r.drop (p.length+1)=t by
    rw[er,show p++c::t=(p++[c])++t by simp];exact List.drop_left' aL)
   have Hsp:=Aa (show Ak c s=(ps++[p])++Ak c t by rw[hsp.o,er,M0 c p t hp];simp)
   have Hct:=Aa (show t.count c+(k+1)=n by
    have h0:=hct.o;have h1:p.count c=0:=List.count_eq_zero.2 hp;rw[er,List.count_append,h1,List.count_cons_self]at h0;omega)
   obtain⟨ys,hown'⟩:=hown.o;obtain⟨zs,n1,n2,n3,u,n4⟩:=Qdh hown' Hps.o (by omega:k<n+1) p;have N1:=Aa (show (wr.setCell ⟨w.heap.size,k,none⟩ (.string ⟨(r.take p.length).toArray⟩)).ownsRow w 9 1 (.slice (w,0) (n+1) (n+1)) (n+1) (Ah (ps++[p])++zs)by rw[H1.o];exact n1);have N2:=@Aa (Below w w (wr.setCell ⟨w.heap.size,k,none⟩ (.string ⟨(r.take p.length).toArray⟩))) (hb.o.setCell (p:=⟨w.heap.size,k,none⟩) (Ar _) _);have k1:(0:Int)<=(p.length:Int):=aG;have k2:(p.length:Int)<=(r.length:Int):=aG;have k3:p.length+1<=r.length:=aG;clear e er hp hmem hown' n1 n2 hl;go_wp2_with fail;refine(Hi.o _).mono ?_;rintro e w' ⟨rfl,rfl⟩;go_wp2_with fail;go_roundw
   case rel=>exact⟨ps++[p],t,k+1,by go_num,by omega,Qjk H2.o,by have:=congrArg List.length H2.o;simp at this;omega,by rw[ah,Hps.o];rfl,Hsp.o,Hct.o,⟨zs,N1.o⟩,N2.o⟩
   case measure=>simp[intOf];omega
  ·obtain rfl:k=n:=aG;have hno:c∉r:=by
    have:=hct.o;exact List.count_eq_zero.1 aG
   have Hsp:=Aa (show Ak c s=ps++[r]by rw[hsp.o,Jj c r hno]);obtain⟨ys,hown'⟩:=hown.o;obtain⟨zs,n1,n2,n3,u,n4⟩:=Qdh hown' Hps.o (by omega:k<k+1) r;have N1:=Aa (Ql0 n1 (by rw[ah,Hps.o];rfl) (Ar _));have N2:=@Aa (Below w w (wr.setCell ⟨w.heap.size,k,none⟩ r)) (hb.o.setCell (p:=⟨w.heap.size,k,none⟩) (Ar _) _);clear hown' n1 n2 hno;go_wp2_with fail;go_ret;refine⟨_,rfl,?_,N2.o⟩;have e1:(Ak c s).length=k+1:=by rw[Hsp.o,ah,Hps.o];rfl
   rw[e1,Hsp.o];exact N1.o
theorem T9(s:List UInt8)(c:UInt8)(w:World)(hs:s.length<=4000000):
  Calls prog 120 #[s,.string ⟨#[c]⟩] w fun e w'=>
   ∃v,e=.returned v/\w'.ownsRow w 9 1 v (Ak c s).length (Ah (Ak c s))/\Below w w w':=by
 go_enter func120,ntmps120;go_wp2_with fail;refine(Qch s c _ hs).mono ?_;rintro e w' ⟨v,rfl,ho,hb⟩;have Ho:=Aa ho;have Hb:=Aa hb;clear ho hb;go_wp2_with fail;go_ret;exact⟨_,rfl,Ho.o,Hb.o⟩
theorem At{c d:UInt8}(h:c≠d):((c.toNat:Int) == (d.toNat:Int))=false:=by
 rw[beq_eq_false_iff_ne];intro e;exact h (UInt8.toNat_inj.1 aG)
theorem Bs{c d:UInt8}(h:c=d):((c.toNat:Int) == (d.toNat:Int))=true:=by rw[h];simp
theorem Qlf(n a b:Int)(w:World):
  Calls prog 116 #[.int .i64 n,.int .i64 a,.int .i64 b] w fun e w'=>e=.returned (.bool (decide (a<=n) && decide (n<=b)))/\w=w':=by
 go_enter func116,ntmps116;by_cases h1:a<=n
 ·have t1:decide (a<=n)=true:=dM;rw[t1];go_wp2
  exact kL
 have t1:decide (a<=n)=false:=dM;rw[t1];go_wp2
 exact kL
theorem Cw(s:List UInt8)(w:World)(hs:s.length<=9223372036854775807):
  Calls prog 80 #[s] w fun e w'=>e=.returned (.bool (Bf s))/\w=w':=by
 go_enter func80,ntmps80;go_wp2
 go_loop [3] (fun i=>∃k:Nat,k<=s.length/\i=.int .i64 k/\Hid (∀c∈s.take k,Br c=true)) (fun i=>s.length - (intOf i).toNat)
 case atStart=>exact⟨0,ag _,rfl,by intro c hc;simp at hc⟩
 case round=>
  obtain⟨k,hk,rfl,hin⟩:=hrel;by_cases hlt:k<s.length
  ·have hc:(s[k]).toNat<256:=(s[k]).toNat_lt;have Hts:=Aa (Bx s k hlt);have Hm:=Aa (ae hlt);by_cases h1:Br s[k]=true
   ·have h2:=Km.1 h1;obtain⟨h3,h4⟩:=h2;have H1:=Aa h1;clear h1;go_wp2
    go_round
    case rel=>
     refine⟨k+1,by omega,by go_num,?_⟩;intro c hc;rw[Hts.o]at hc;rcases af.1 hc with hc|hc
     ·exact hin.o c hc
     ·simp at hc;subst hc;exact H1.o
    case measure=>simp[intOf];omega
   have hno:Bf s=false:=by
    cases hh:Bf s with
    |false=>rfl
    |true=>exact absurd ((C7.1 hh).2.2 _ Hm.o) h1
   have Hno:=Aa hno;have h2:(s[k]).toNat<97\/122<(s[k]).toNat:=by
    rcases aF (s[k]).toNat 97 with h|h
    ·exact .inl h
    rcases aF 122 (s[k]).toNat with h'|h'
    ·exact .inr h'
    exact absurd (Km.2 ⟨h,h'⟩) h1
   clear h1 hno;rcases h2 with h2|h2
   ·go_wp2
    go_ret;exact⟨Eu (Da Hno.o.symm),rfl⟩
   have h3:97<=(s[k]).toNat:=aG;go_wp2
   go_ret;exact⟨Eu (Da Hno.o.symm),rfl⟩
  ·have hfin:(decide ((1:Int)<=(s.length:Int)) && decide ((s.length:Int)<=3))=Bf s:=by
    have hall:s.all Br=true:=List.all_eq_true.2 (fun c hc=>hin.o c (by rw[ar aG];exact hc));unfold Bf;rw[hall,Bool.and_true];congr 1<;>· rw[decide_eq_decide];omega
   have Hfin:=Aa hfin;clear hfin;go_wp2_with fail;refine(Qlf _ _ _ _).mono ?_;rintro e w' ⟨rfl,rfl⟩;go_wp2_with fail;go_ret;exact⟨Eu (Da Hfin.o),rfl⟩
theorem Yx(c:UInt8)(t:List UInt8)(hc:Bo c=true):(C4 (c::t)).isSome=(decide (t.length<12) && (C4 t).isSome):=by
 unfold C4;simp only[List.dropWhile_cons,List.takeWhile_cons,hc,if_true];by_cases h:12<(c::t).length
 ·exact kj
 rw[if_neg h];simp at h;have h2:¬12<t.length:=aG;have:t.length<12:=aG;rw[if_neg h2];simp only[this,decide_true,Bool.true_and];by_cases h3:t.dropWhile Bo=[110]\/t.dropWhile Bo=[116]\/t.dropWhile Bo=[102]
 ·rw[if_pos h3,if_pos h3];rfl
 rw[if_neg h3,if_neg h3];by_cases h4:(t.dropWhile Bo).head?=some 64/\(t.dropWhile Bo).getLast?=some 59/\Bf ((t.dropWhile Bo).drop 1).dropLast=true
 ·rw[if_pos h4,if_pos h4];rfl
 rw[if_neg h4,if_neg h4]
theorem Qk6(t:List UInt8):(C4 (64::t)).isSome=(decide (t.length<12) && decide ((64::t).getLast?=some 59) && Bf t.dropLast):=by
 unfold C4;have h64:Bo 64=false:=aJ;simp only[List.dropWhile_cons,List.takeWhile_cons,h64];by_cases h:12<(64::t).length
 ·exact kj
 rw[if_neg h];simp at h;have:t.length<12:=aG;simp[this];split
 ·rename_i hh;simp[hh]
 rename_i hh;simp only[Option.isSome_none];cases hn:Bf t.dropLast with
 |false=>simp
 |true=>simp[hn]at hh;simp[hh]
theorem Qek(c:UInt8)(t:List UInt8)(h1:Bo c=false)(h2:c≠64):(C4 (c::t)).isSome=(decide (c::t=[110]) || decide (c::t=[116]) || decide (c::t=[102])):=by
 unfold C4;simp only[List.dropWhile_cons,List.takeWhile_cons,h1];by_cases h:12<(c::t).length
 ·rw[if_pos h];simp at h;have e:t≠[]:=by rintro rfl;simp at h
  simp[e]
 rw[if_neg h];by_cases h3:c::t=[110]\/c::t=[116]\/c::t=[102]
 ·simp only[an,if_false];rw[if_pos h3];rcases h3 with h3|h3|h3<;>simp[h3]
 simp only[an,if_false];rw[if_neg h3,if_neg (by simp[h2])];simp only[not_or]at h3;simp[h3]
theorem Pq:∀(n:Nat) (s:List UInt8) (w:World),s.length<=n->s.length<=9223372036854775807 ->
  Calls prog 42 #[s] w fun e w'=>e=.returned (.bool (C4 s).isSome)/\w=w':=by
 intro n;induction n with
 |zero=>
  intro s w hn hs;obtain rfl:s=[]:=List.eq_nil_of_length_eq_zero aG;go_enter func42,ntmps42;go_wp2_with fail;exact kL
 |succ n ih=>
  intro s w hn hs;have Ih:=Aa ih;clear ih;by_cases h12:12<s.length
  ·have Hf:=Aa (show (C4 s).isSome=false by unfold C4;rw[if_pos h12];rfl);go_enter func42,ntmps42;go_wp2_with fail;exact kM
  cases s with
  |nil=>
   go_enter func42,ntmps42;go_wp2_with fail;exact kL
  |cons c t=>
   have hlt:t.length<12:=by simp at h12;omega
   have hn':t.length<=n:=by simp at hn;omega
   have hc:=c.toNat_lt;by_cases h91:c=91
   ·have Hf:=Aa (show (C4 (c::t)).isSome=(C4 t).isSome by rw[Yx c t (by rw[h91];decide)];simp[hlt]);have e1:c.toNat=91:=by rw[h91];rfl
    have t1:((c.toNat:Int) == 91)=true:=by simp[e1]
    clear h91 e1;go_enter func42,ntmps42;go_wp2_with fail;refine(Ih.o t _ hn' aG).mono ?_;rintro e w' ⟨rfl,rfl⟩;go_wp2_with fail;exact kM
   have t1:((c.toNat:Int) == 91)=false:=At h91;by_cases h63:c=63
   ·have Hf:=Aa (show (C4 (c::t)).isSome=(C4 t).isSome by rw[Yx c t (by rw[h63];decide)];simp[hlt]);have e1:c.toNat=63:=by rw[h63];rfl
    have t2:((c.toNat:Int) == 63)=true:=by simp[e1]
    clear h63 h91 e1;go_enter func42,ntmps42;go_wp2_with fail;refine(Ih.o t _ hn' aG).mono ?_;rintro e w' ⟨rfl,rfl⟩;go_wp2_with fail;exact kM
   have t2:((c.toNat:Int) == 63)=false:=At h63;by_cases h64:c=64
   ·have e1:c.toNat=64:=by rw[h64];rfl
    have t3:((c.toNat:Int) == 64)=true:=by simp[e1]
    rcases Fw t with rfl|⟨u,d,rfl⟩
    ·have Hf:=Aa (show (C4 [c]).isSome=false by rw[h64];decide);have t4:((c.toNat:Int) == 59)=false:=by simp[e1]
     clear h64 h63 h91 e1;go_enter func42,ntmps42;go_wp2_with fail;exact kM
    have hk:=Qk6 (u++[d]);have hl:(c::(u++[d])).getLast?=some d:=by
     exact kN
    rw[<-h64,hl,List.dropLast_concat]at hk;have hd:=d.toNat_lt;simp at hlt;have hgd:∀h,(c::(u++[d]))[u.length+1]'h=d:=by
     intro h;simp
    have hsl:(List.take u.length (u++[d]))=u:=aL;by_cases h59:d=59
    ·have e2:d.toNat=59:=by rw[h59];rfl
     have t4:((d.toNat:Int) == 59)=true:=by simp[e2]
     have Hf:=Aa (show (C4 (c::(u++[d]))).isSome=Bf u by rw[hk,h59];simp;omega);clear h64 h63 h91 e1 hk hl h59 e2;go_enter func42,ntmps42;go_wp2_with fail;refine(Cw u _ aG).mono ?_;rintro e w' ⟨rfl,rfl⟩;go_wp2_with fail;exact kM
    have t4:((d.toNat:Int) == 59)=false:=At h59;have Hf:=Aa (show (C4 (c::(u++[d]))).isSome=false by rw[hk];simp[h59]);clear h64 h63 h91 e1 hk hl h59;go_enter func42,ntmps42;go_wp2_with fail;exact kM
   have t3:((c.toNat:Int) == 64)=false:=At h64;have hk:=Qek c t (by simp[Bo,h91,h63]) h64;have Hk:=Aa hk;clear hk h64 h63 h91;cases t with
   |cons x t=>
    have hl2:t.length+1+1<=12:=by simp at hlt;omega
    have Hf:=Aa (show (C4 (c::x::t)).isSome=false by rw[Hk.o];simp);clear Hk;go_enter func42,ntmps42;go_wp2_with fail;all_goals
     go_ret;exact⟨Eu (Da (by rw[Hf.o])),rfl⟩
   |nil=>
    by_cases g1:c=110
    ·subst g1;go_enter func42,ntmps42;go_wp2_with fail;exact kL
    by_cases g2:c=116
    ·subst g2;go_enter func42,ntmps42;go_wp2_with fail;exact kL
    by_cases g3:c=102
    ·subst g3;go_enter func42,ntmps42;go_wp2_with fail;exact kL
    have Hf:=Aa (show (C4 [c]).isSome=false by rw[Hk.o];simp[g1,g2,g3]);go_enter func42,ntmps42;go_wp2_with fail;go_ret;exact⟨Eu (Da (by rw[Hf.o];simp[g1,g2,g3])),rfl⟩
def Sd:Value->Nat
 |.string b=>b.size
 |_=>0
theorem Ms(l:List UInt8):Sd l=l.length:=rfl
theorem Qfi(k:Kd)(w:World)(hk:k.signs.all Bo=true)(hb:∃c t,Cr k=c::t/\Bo c=false)(hs:(Bt k).length<=9223372036854775807):
  Calls prog 44 #[.string ⟨(Bt k).toArray⟩] w fun e w'=>e=.returned (.string ⟨(Cr k).toArray⟩)/\w=w':=by
 obtain⟨d,u,hcu,hd⟩:=hb;have hlen:(Bt k).length=k.signs.length+(u.length+1):=by unfold Bt;rw[hcu];simp
 unfold Bt;rw[hcu];generalize k.signs=g at hk hlen;clear hcu;have hd1:d≠91:=by rintro rfl;revert hd;decide
 have hd2:d≠63:=by rintro rfl;revert hd;decide
 have d1:((d.toNat:Int) == 91)=false:=At hd1;have d2:((d.toNat:Int) == 63)=false:=At hd2;have hdl:=d.toNat_lt;clear hd hd1 hd2;have hs2:g.length+u.length+1<=9223372036854775807:=aG;have Hk:=Aa (List.all_eq_true.1 hk);clear hs hlen hk;go_enter func44,ntmps44;go_wp2_with fail;go_loop [0] (fun x=>∃k:Nat,k<=g.length/\x=.string ⟨(g.drop k++d::u).toArray⟩) (fun x=>Sd x)
 case atStart=>exact⟨0,ag _,rfl⟩
 case round=>
  obtain⟨k,hk,rfl⟩:=hrel;by_cases hlt:k<g.length
  ·have hdr:g.drop k=g[k]::g.drop (k+1):=List.drop_eq_getElem_cons hlt;have hl3:(g.drop (k+1)).length<=g.length:=aL;have hsg:=Hk.o _ (ae hlt);have hc:=(g[k]).toNat_lt;rw[hdr];generalize g[k]=c at hsg hc;have hsg2:c=91\/c=63:=by simpa [Bo]using hsg
   have Hd:=Aa hdr;clear hsg hdr;rcases hsg2 with h91|h63
   ·have t1:((c.toNat:Int) == 91)=true:=Bs h91;clear h91;go_wp2_with fail;go_round
    case rel=>exact⟨k+1,by omega,Qjk (ar aL)⟩
    case measure=>rw[Ms,Ms];simp
   have t1:((c.toNat:Int) == 91)=false:=At (d:=91) (by rw[h63];decide);have t2:((c.toNat:Int) == 63)=true:=Bs h63;clear h63;go_wp2_with fail;go_round
   case rel=>exact⟨k+1,by omega,Qjk (ar aL)⟩
   case measure=>rw[Ms,Ms];simp
  ·rw[List.drop_of_length_le aG,List.nil_append];go_wp2_with fail;exact kL
theorem Qbe(nm:List UInt8)(w:World)(hn:nm.length<=1000):
  Calls prog 43 #[.string ⟨(64::(nm++[59])).toArray⟩] w fun e w'=>e=.returned (.tuple #[nm,.bool true])/\w=w':=by
 have h1:(nm++[59]).take nm.length=nm:=aL;go_enter func43,ntmps43;go_wp2_with fail;go_ret2;exact kH
theorem Qe2(c:UInt8)(t:List UInt8)(w:World)(hc:c≠64)(hn:t.length<=1000):
  Calls prog 43 #[.string ⟨(c::t).toArray⟩] w fun e w'=>e=.returned (.tuple #[aa,.bool false])/\w=w':=by
 have t1:((c.toNat:Int) != 64)=true:=by
  have:=At hc;rw[bne_iff_ne];intro e;have h64:((64:UInt8).toNat:Int)=64:=rfl;rw[beq_eq_false_iff_ne,h64]at this;exact this e
 clear hc;go_enter func43,ntmps43;go_wp2_with fail;go_ret2;exact kH
def Qgi:List UInt8:=[97,98,99,100,101,102,103,104,105,106,107,108,109,110,111,112,113,114,115,116,117,118,119,120,121,122]
def Qgh:List UInt8:=[97,98,99,100,101,102,103,104,105,106,107,108,109,110,111,112,113,114,115,116,117,118,119,120,121,122,48,49,50,51,52,53,54,55,56,57,32]
theorem Rc{p:UInt8->Bool}(h:∀n,n<256->p (UInt8.ofNat n)=true)(c:UInt8):p c=true:=by
 have:=h c.toNat c.toNat_lt;rwa [UInt8.ofNat_toNat]at this
theorem Qc7(c:UInt8):Qgi.contains c=Br c:=by
 have:=Rc (p:=fun c=>Qgi.contains c == Br c) ge c;simpa using this
theorem Qdq(c:UInt8):Qgh.contains c=Co c:=by
 have:=Rc (p:=fun c=>Qgh.contains c == Co c) ge c;simpa using this
theorem Ql6(s:List UInt8):s.all (Qgi.contains ·)=s.all Br:=by congr 1;funext c;exact Qc7 c
theorem Ql9(s:List UInt8):s.all (Qgh.contains ·)=s.all Co:=by congr 1;funext c;exact Qdq c
theorem M4(s:List UInt8)(w:World)(hs:s.length<=9223372036854775807):
  Calls prog 95 #[s] w fun e w'=>e=.returned (.bool (Bf s))/\Below w w w':=by
 by_cases h1:1<=s.length
 ·by_cases h3:s.length<=3
  ·have hT:=fun W=>Qeg s Qgi W hs aJ aJ;simp only[Ql6]at hT;have HT:=Aa hT;have hn:Bf s=s.all Br:=by simp[Bf,h1,h3]
   have Hn:=Aa hn;clear hn hT;go_enter func95,ntmps95;go_wp2_with fail;refine(HT.o _).mono ?_;rintro e w' ⟨⟨r,rfl,hr⟩,hb⟩;cases r with
   |nil=>
    have Hr:=Aa (hr.1 rfl);clear hr;go_wp2_with fail;exact kO
   |cons x r=>
    have Hr:=Aa (show s.all Br=false by
     cases h:s.all Br with
     |false=>rfl
     |true=>exact absurd (hr.2 h) aL)
    clear hr;go_wp2_with fail;exact kO
  have Hn:=Aa (show Bf s=false by simp[Bf,h3]);go_enter func95,ntmps95;go_wp2_with fail;exact kP
 have Hn:=Aa (show Bf s=false by simp[Bf,h1]);go_enter func95,ntmps95;go_wp2_with fail;exact kP
theorem Qfg(s:List UInt8)(w:World)(hs:s.length<=9223372036854775807):
  Calls prog 174 #[s] w fun e w'=>e=.returned (.bool (Du s))/\Below w w w':=by
 by_cases h3:s.length<=12
 ·have hT:=fun W=>Qeg s Qgh W hs aJ aJ;simp only[Ql9]at hT;have HT:=Aa hT;have hn:Du s=s.all Co:=by simp[Du,h3]
  have Hn:=Aa hn;have t0:decide ((s.length:Int)<=12)=true:=aO;clear hn hT;go_enter func174,ntmps174;go_wp2_with fail;refine(HT.o _).mono ?_;rintro e w' ⟨⟨r,rfl,hr⟩,hb⟩;cases r with
  |nil=>
   have Hr:=Aa (hr.1 rfl);clear hr;go_wp2_with fail;exact kO
  |cons x r=>
   have Hr:=Aa (show s.all Co=false by
    cases h:s.all Co with
    |false=>rfl
    |true=>exact absurd (hr.2 h) aL)
   clear hr;go_wp2_with fail;exact kO
 have Hn:=Aa (show Du s=false by simp[Du,h3]);have t0:decide ((s.length:Int)<=12)=false:=aO;go_enter func174,ntmps174;go_wp2_with fail;exact kP
def pnV(s:List UInt8)(m:Nat):Value:=
 match Cz s with
 |none=>.tuple #[.int .i64 0,.bool false]
 |some n=>.tuple #[.int .i64 n,.bool (decide (n<=m))]
theorem Sn{s:List UInt8}{m:Nat}(h:Cz s=none):pnV s m=.tuple #[.int .i64 0,.bool false]:=by unfold pnV;rw[h]
theorem Xr{s:List UInt8}{m n:Nat}(h:Cz s=some n):pnV s m=.tuple #[.int .i64 n,.bool (decide (n<=m))]:=by unfold pnV;rw[h]
theorem Qb7(s:List UInt8)(k:Nat)(hk:k<=6)(h:(s.take k).all Bm=true):H5 (s.take k)<=999999:=by
 exact kQ
theorem Jq(s:List UInt8)(m:Nat)(w:World)(hs:s.length<=9223372036854775807)(hm:m<=999999):
  Calls prog 130 #[s,.int .i64 m] w fun e w'=>e=.returned (pnV s m)/\w=w':=by
 rcases aF s.length 1 with h1|h1
 ·obtain rfl:s=[]:=List.eq_nil_of_length_eq_zero aG;have Hn:=Aa (Sn (m:=m) (show Cz []=none by rfl));go_enter func130,ntmps130;go_wp2_with fail;go_ret2;exact kR
 rcases aF 6 s.length with h6|h6
 ·have Hn:=Aa (Sn (m:=m) (show Cz s=none by unfold Cz;rw[if_neg];rintro⟨_,h,_⟩;omega));go_enter func130,ntmps130;go_wp2_with fail;go_ret2;exact kR
 have hc0:=(s[0]' aG).toNat_lt;have h3:(s[0]' aG=48/\1<s.length)\/((((s[0]' aG).toNat:Int) == 48)=true/\s.length<=1)\/((((s[0]' aG).toNat:Int) == 48)=false):=by
  by_cases h:s[0]' aG=48
  ·rcases aF 1 s.length with h'|h'
   ·exact .inl ⟨h,h'⟩
   exact .inr (.inl ⟨Bs h,h'⟩)
  exact .inr (.inr (At h))
 have hhd:(s.head?≠some 48\/s.length=1)\/(s[0]' aG=48/\1<s.length):=by
  rcases h3 with h|⟨_,h⟩|h
  ·exact .inr h
  ·exact .inl (.inr aG)
  refine .inl (.inl ?_);rw[List.head?_eq_getElem?,List.getElem?_eq_getElem aG];intro e;injection e with e;rw[e]at h;exact absurd h aJ
 have Hhd:=Aa hhd;clear hhd;rcases h3 with⟨hz,hl⟩|⟨t0,hl⟩|t0
 ·have Hn:=Aa (Sn (m:=m) (show Cz s=none by
   unfold Cz;rw[if_neg];rintro⟨_,_,_,h|h⟩
   ·apply h;rw[List.head?_eq_getElem?,List.getElem?_eq_getElem aG,hz]
   omega))
  have t0:(((s[0]' aG).toNat:Int) == 48)=true:=Bs hz;have Hz:=Aa hz;go_enter func130,ntmps130;go_wp2_with fail;go_ret2;exact kR
 all_goals
  have Hall:Hid (s.head?≠some 48\/s.length=1):=by
   rcases Hhd.o with h|⟨e,h⟩
   ·exact h
   exfalso
   first
    |omega
    |(rw[e]at t0;exact absurd t0 aJ)
  clear Hhd;go_enter func130,ntmps130;go_wp2_with fail;go_loop [6,28] (fun x i=>∃k:Nat,i=.int .i64 k/\k<=s.length/\Hid ((s.take k).all Bm=true)/\H5 (s.take k)<=999999/\x=.int .i64 ((H5 (s.take k):Nat):Int)) (fun _ i=>s.length - (intOf i).toNat)
  case atStart=>exact⟨0,rfl,ag _,by simp[Hid],by simp[H5],by simp[H5]⟩
  case round=>
   obtain⟨k,rfl,hk,hdig,hv,rfl⟩:=hrel;by_cases hlt:k<s.length
   ·have hc:=(s[k]).toNat_lt;have Hts:=Aa (Bx s k hlt);by_cases hd:Bm s[k]=true
    ·have hd2:=Dh.1 hd;obtain⟨d1,d2⟩:=hd2;have hdig2:(s.take (k+1)).all Bm=true:=by
      rw[Hts.o,List.all_append,hdig.o];simp[hd]
     have hv2:=Qb7 s (k+1) aG hdig2;have Hdig2:=Aa hdig2;have Hv:=Aa (show H5 (s.take (k+1))=10*H5 (s.take k)+((s[k]).toNat - 48)by rw[Hts.o,Mq]);clear hd hdig2;go_wp2_with fail;go_round
     case rel=>exact⟨k+1,by go_num,by omega,Hdig2.o,hv2,Qne (by rw[Hv.o];omega)⟩
     case measure=>simp[intOf];omega
    have Hn:=Aa (Sn (m:=m) (show Cz s=none by
     unfold Cz;rw[if_neg];rintro⟨_,_,h,_⟩;exact hd (List.all_eq_true.1 h _ (ae hlt))))
    have h2:(s[k]).toNat<48\/(48<=(s[k]).toNat/\57<(s[k]).toNat):=by
     rcases aF (s[k]).toNat 48 with h|h
     ·exact .inl h
     rcases aF 57 (s[k]).toNat with h'|h'
     ·exact .inr ⟨h,h'⟩
     exact absurd (Dh.2 ⟨h,h'⟩) hd
    clear hd;rcases h2 with h2|⟨h2,h4⟩
    ·go_wp2_with fail;go_ret2;exact kR
    go_wp2_with fail;go_ret2;exact kR
   ·have e:s.take k=s:=ar aG
    have Hn:=Aa (Xr (m:=m) (show Cz s=some (H5 (s.take k))by
     have hd:=hdig.o;rw[e]at hd ⊢;unfold Cz;rw[if_pos ⟨by omega,by omega,hd,Hall.o⟩]))
    clear e;generalize H5 (s.take k)=v at hv Hn;by_cases hvm:v<=m
    ·go_wp2_with fail;go_ret2;exact⟨by rw[Hn.o];exact Qmb rfl (Da (by simp[hvm])),rfl⟩
    go_wp2_with fail;go_ret2;exact⟨by rw[Hn.o];exact Qmb rfl (Da aO),rfl⟩
end
theorem Bh.ownK{w:World}{base k:Nat}{e:TypeId}{v:Value}{n:Nat}{xs:List Value}(h:w.ownsRow base e k v n xs)(hle:n*k<=maxLen):∃A c,v=.slice A n c/\Bh w A (n*k) xs:=by
 have h1:=h.1;rcases h.2 with⟨rfl,rfl⟩|⟨g,cap,cur,rfl,hb,hh,hnc,hcm,hcs,htk⟩
 ·exact⟨none,0,rfl,by omega,by omega,fun h=>absurd h aG⟩
 refine⟨some ⟨g,0,none⟩,cap,rfl,by omega,hle,fun hn=>⟨g,0,rfl,(h.lt g rfl).2,fun j u hu=>?_⟩⟩;have:=h.cells (g:=g) rfl j u hu;have e1:(⟨g,0,none⟩:Addr).add j=⟨g,0+j,none⟩:=bi;rwa [e1]at this
section
variable {P:Program}
theorem Qe4(w:World){ops:Array Oper}{rest:List Oper}{o:Oper}{a:Act}{Q:Exit->Act->World->Prop}(hgd:o.guard=none)(s x:Operand)(t:TypeId)
  (ho:o.op=.call {callee:=.builtin .append,args:=#[s,x],argTypes:=#[t,t]})
  (base:Nat) (e:TypeId) (z:Value) (k bytes:Nat) (ht:P.underlying t=some (.slice e)) (hinfo:(P.info? e).map (fun i=>(i.zero,i.size,i.bytes))=some (some z,k,bytes))
  (hzs:z.cells.size=k) (hk:0<k) (W:World) (us:List Value) (hul:us.length=k) (hw:w=W.alloc (.cells us.toArray e)) (hu:∀u∈us,u.oneCell'=true) (v:Value) (n:Nat) (xs:List Value) (hs:a.eval s=v) (hx:a.eval x=.slice (W,0) 1 1)
  (hown:W.ownsRow base e k v n xs)
  (h63:n+1<=maxLen) (hbytes:(n+1)*bytes<=140737488355328) (hbase:base<=W.heap.size)
  (h:∀v' w',w'.ownsRow base e k v' (n+1) (xs++us)->Below base W w'->wpList P ops Q rest (a.put o.dst v') w'):wpList P ops Q (o::rest) a w:=by
 subst hw;obtain⟨i0,hi,hz0,hz1,hz2⟩:=info_parts hinfo;refine wpList_append_own _ hgd s x t ho base e i0 z k bytes ht hi hz0 hz1 hz2 hzs hk v n xs hs (hown.alloc _) ⟨W.heap.size,0,none⟩ 1 1 us hx aG ?_ hu h63 hbytes ?_ ?_
 ·exact jy
 ·exact ki
 intro v' w' h1 h2 _;exact h v' w' h1 (((Aw base W).alloc hbase _).grown h2 aO (fun k hk=>(hown.lt k hk).1))
end
theorem Qnz:(prog.info? 118).map (fun i=>(i.zero,i.size,i.bytes))=some (some sf0,4,56):=aM
theorem Tryz.infoSt:(prog.info? 95).map (fun i=>(i.zero,i.size,i.bytes))=some (some (.agg #[.int .u8 0,aa,.slice none 0 0]),3,48):=aM
section
open Go.Maps (Keyed)
def P5(v:Value):Option (DataW Value × List MemPlace):=some (.held v,[])
def Ed(P:Program)(k:TypeId)(z:Value)(w:World)(b n:Nat)(F:Lit->Value):Prop:=
 ∃D:DataW Value,w.ownsMap P k P5 b n D/\Go.Maps.IsMap D/\∀l,WideAt.IsKeyLit l->D.atKey l (.held z)=.held (F l)
section
variable {P:Program} {k:TypeId} {z:Value} {w w':World} {b n:Nat} {F:Lit->Value}
theorem Ed.made(w:World)(P:Program)(k:TypeId)(z:Value):Ed P k z (w.alloc (.map #[] 0)) w 0 (fun _=>z):=
 ⟨.map [],World.ownsMap_made w P k P5,Go.Maps.isMap_empty,fun l _=>rfl⟩
theorem Ed.lt(h:Ed P k z w b n F):b<w.heap.size:=by
 obtain⟨D,h1,_⟩:=h;exact h1.lt
theorem Ed.kept{row:Option Nat}(h:Ed P k z w b n F)(hg:w.grownBy w' row)(hne:some b≠row):Ed P k z w' b n F:=by
 obtain⟨D,h1,h2⟩:=h;exact⟨D,h1.kept hg hne,h2⟩
theorem Ed.below(h:Ed P k z w b n F)(hb:Below w w w'):Ed P k z w' b n F:=
 h.kept (row:=none) ⟨hb.os,hb.tape,hb.output,hb.size,fun k hk _=>hb.block k hk⟩ aL
theorem Ed.belowAt{B:Nat}(h:Ed P k z w b n F)(hlt:b<B)(hb:Below B w w'):Ed P k z w' b n F:=by
 obtain⟨D,⟨es,clock,h1,h2,h3,h4⟩,h5⟩:=h;exact⟨D,⟨es,clock,(hb.block b hlt).trans h1,h2,h3,h4⟩,h5⟩
theorem Ed.alloc(h:Ed P k z w b n F)(o:Obj):Ed P k z (w.alloc o) b n F:=h.below ((Aw _ _).alloc (Ar _) o)
theorem Ed.drew(h:Ed P k z w b n F):Ed P k z w.drew b n F:=h
theorem Ed.mono(h:Ed P k z w b n F){n':Nat}(hn:n<=n'):Ed P k z w b n' F:=by
 obtain⟨D,h1,h2⟩:=h;exact⟨D,h1.mono hn,h2⟩
theorem Ed.of_eq{G:Lit->Value}(h:Ed P k z w b n F)(e:∀l,WideAt.IsKeyLit l->F l=G l):Ed P k z w b n G:=by
 obtain⟨D,h1,h2,h3⟩:=h;exact⟨D,h1,h2,fun l hl=>by rw[h3 l hl,e l hl]⟩
theorem Ed.lookup{t e:TypeId}(h:Ed P k z w b n F)(K:Keyed P k)(ht:P.underlying t=some (.map k e))(hz:(zeroValue e).run P w=.ok z w){key:Value}{kl:Lit}(hkey:keyOf P k key=some kl):
  (Instr.lookup t (.map (some b)) key false).run P w=.ok (F kl) w:=by
 obtain⟨D,h1,h2,h3⟩:=h;obtain⟨v,ps,hrun,hv⟩:=h1.lookup K ht hz (show P5 z=some (.held z,[])from rfl) hkey;rw[h3 kl (K.key hkey)]at hv;simp only[P5,aj,aD,DataW.held.injEq]at hv;rw[hrun,hv.1]
theorem Ed.store{t e:TypeId}(h:Ed P k z w b n F)(K:Keyed P k)(ht:P.underlying t=some (.map k e))(hn:n<maxLen){key:Value}(val:Value){kl:Lit}(hkey:keyOf P k key=some kl):
  ∃w',(Instr.mapUpdate t (.map (some b)) key val).run P w=.ok () w'/\Ed P k z w' b (n+1) (fun l=>if l.sameKey kl=true then val else F l)/\w.grownBy w' (some b):=by
 obtain⟨D,h1,h2,h3⟩:=h;obtain⟨w',hrun,r1,r2⟩:=h1.update K ht hn hkey (show P5 val=some (.held val,[])from rfl);refine⟨w',hrun,⟨_,r1,h2.put _ _,fun l hl=>?_⟩,r2⟩;by_cases e:l=kl
 ·subst e;rw[Go.Maps.atKey_put_same h2 hl];simp[WideAt.sameKey_self hl]
 rw[Go.Maps.atKey_put_other e,h3 l hl];simp[show l.sameKey kl=false from Go.Maps.sameKey_ne e]
end
end
section
attribute [local go_sem] Qof Qnv Qlx
theorem Xl(s p:List UInt8):(s.take p.length == p)=p.isPrefixOf s:=by
 rw[Bool.eq_iff_iff,beq_iff_eq,List.isPrefixOf_iff_prefix,List.prefix_iff_eq_take];exact eq_comm
theorem Xj(s p:List UInt8)(h:¬p.length<=s.length):p.isPrefixOf s=false:=by
 rw[Bool.eq_false_iff,Ne,List.isPrefixOf_iff_prefix];intro hp;exact h hp.length_le
theorem Yt(s p:List UInt8)(w:World):
  Calls prog 126 #[s,p] w fun e w'=>e=.returned (.bool (p.isPrefixOf s))/\w=w':=by
 by_cases h:p.length<=s.length
 ·have HS:=Aa (Xl s p);go_enter func126,ntmps126;go_wp2
  go_ret;exact⟨by rw[<-HS.o];rfl,rfl⟩
 have HS:=Aa (Xj s p h);go_enter func126,ntmps126;go_wp2
 go_ret;exact⟨by rw[HS.o];rfl,rfl⟩
end
theorem Pe{α:Type}{p q:α->Bool}:∀(l:List α) (_:∀x,q x=true->p x=true) {a:α} (_:a∈l) (_:p a=true) (_:q a=false),(l.filter q).length<(l.filter p).length
 |[],_,_,ha,_,_=>by cases ha
 |x::l,h,a,ha,hp,hq=>by
  have hle:∀l:List α,(l.filter q).length<=(l.filter p).length:=by
   intro l;induction l with
   |nil=>exact Ar _
   |cons y l ih=>
    simp only[List.filter_cons];by_cases h1:q y=true
    ·rw[if_pos h1,if_pos (h y h1)];simpa using ih
    rw[if_neg h1];split
    ·simp;omega
    exact ih
  rcases az.1 ha with rfl|ha
  ·have:=hle l;simp only[List.filter_cons,hp,hq];simp;omega
  have ih:=Pe l h ha hp hq;simp only[List.filter_cons];by_cases h1:q x=true
  ·rw[if_pos h1,if_pos (h x h1)];simpa using ih
  rw[if_neg h1];split
  ·simp;omega
  exact ih
section
variable {P:Program} {ops:Array Oper} {Q:Exit->Act->World->Prop} {md:Region.Mode}
def Ta(ops:Array Oper)(listed:Array Bool):Nat:=((List.range ops.size).filter fun i=>!listed.getD i false).length
theorem Qbn(hac:∀(i:Nat) (o:Oper),ops[i]?=some o->∀e∈o.after,Region.binds md e=true->e.on<i)(I:(Nat->Bool)->Act->World->Prop)
  (hstep:∀(l:Nat->Bool) a w i o,ops[i]?=some o->l i=false->(∀e∈o.after,Region.binds md e=true->l e.on=true)->I l a w->wpOp P ops Q i (I fun j=>if j=i then true else l j) a w)
  (hdone:∀l a w,(∀i,i<ops.size->l i=true)->I l a w->Q .normal a w):
  ∀(fuel:Nat) (listed:Array Bool) a w,listed.size=ops.size->Ta ops listed<=fuel->I (fun j=>listed.getD j false) a w->wpAny P md ops Q fuel listed a w:=by
 have hall:∀listed:Array Bool,listed.size=ops.size->Region.ready md ops listed=[]->∀i,i<ops.size->listed.getD i false=true:=by
  intro listed hsz hr i;induction i using Nat.strongRecOn with
  |ind i ih=>
   intro hi;cases hb:listed.getD i false with
   |true=>rfl
   |false=>
    have:i∈Region.ready md ops listed:=by
     rw[mem_ready]
     refine ⟨by have h2:i<listed.size:=by omega
                simpa [Array.getD,h2]using hb,ops[i],by simp[hi],fun e he hbd=>?_⟩
     have h1:=hac i ops[i] (by simp[hi]) e he hbd;exact ih e.on h1 aG
    rw[hr]at this;cases this
 intro fuel;induction fuel with
 |zero=>
  intro listed a w hsz hst hI;have hall':∀i,i<ops.size->listed.getD i false=true:=by
   intro i hi;have h0:((List.range ops.size).filter fun i=>!listed.getD i false)=[]:=List.eq_nil_of_length_eq_zero (by unfold Ta at hst;omega);have:=List.filter_eq_nil_iff.1 h0 i (List.mem_range.2 hi);simpa using this
  refine⟨?_,hdone _ a w hall' hI⟩;cases hr:Region.ready md ops listed with
  |nil=>rfl
  |cons j js=>
   have hj:j∈Region.ready md ops listed:=by rw[hr];simp
   obtain⟨h1,o,h2,_⟩:=mem_ready.1 hj;have h3:j<ops.size:=(Array.getElem?_eq_some_iff.1 h2).1;have h4:=hall' j h3;have h5:j<listed.size:=aG;simp[Array.getD,h5]at h1 h4;rw[h1]at h4;cases h4
 |succ fuel ih=>
  intro listed a w hsz hst hI;refine⟨fun hr=>hdone _ a w (hall listed hsz hr) hI,fun i hi=>?_⟩;obtain⟨h1,o,h2,h3⟩:=mem_ready.1 hi;have hlt:i<ops.size:=(Array.getElem?_eq_some_iff.1 h2).1;have hlt2:i<listed.size:=aG;have h1':listed.getD i false=false:=by simpa [Array.getD,hlt2]using h1
  have hset:∀j,(listed.setIfInBounds i true).getD j false=if j=i then true else listed.getD j false:=by
   intro j;by_cases hj:j=i
   ·subst hj;simp[Array.getD,hlt2]
   rw[if_neg hj,getD_set_ne _ (Ne.symm hj)]
  refine wpOp_mono (fun a' w' h=>ih (listed.setIfInBounds i true) a' w' (by simpa using hsz) ?_ ?_) (hstep _ a w i o h2 h1' h3 hI)
  ·have:=Pe (p:=fun i=>!listed.getD i false) (q:=fun j=>!(listed.setIfInBounds i true).getD j false) (List.range ops.size) (fun x hx=>by
    simp only[Bool.not_eq_true']at hx ⊢;rw[hset]at hx;by_cases hxi:x=i
    ·rw[if_pos hxi]at hx;cases hx
    rwa [if_neg hxi]at hx) (List.mem_range.2 hlt) (by simp only[h1',Bool.not_false]) (by simp only[hset,if_true,Bool.not_true])
   unfold Ta at hst ⊢;omega
  have e:(fun j=>(listed.setIfInBounds i true).getD j false)=fun j=>if j=i then true else listed.getD j false:=funext hset
  rw[e];exact h
def Av(p:Nat->Oper->Prop)(k:Nat)(os:List Oper):Prop:=∀i o,os[i]?=some o->p (k+i) o
theorem Av.nil{p:Nat->Oper->Prop}{k:Nat}:Av p k []:=fun i o h=>by simp at h
theorem Av.cons{p:Nat->Oper->Prop}{k:Nat}{o:Oper}{os:List Oper}(h:p k o)(hs:Av p (k+1) os):Av p k (o::os):=fun i o' ho=>by
 cases i with
 |zero=>simp at ho;subst ho;exact h
 |succ i=>simp at ho;have:=hs i o' ho;rwa [Nat.add_assoc,Nat.add_comm 1 i]at this
theorem Qaj{id:Nat}(hm:P.follows .mixedOrders=true)(hac:(List.range ops.size).all (fun i=>((ops[i]?).map fun o=>o.after.all fun e=>!Region.binds .any e || decide (e.on<i)).getD true)=true)
  (mk:(Nat->Value)->Act) (u0:Nat->Value) {a:Act} (ha:a=mk u0) {w:World}
  (φ:Nat->Value->World->Prop) (R:(Nat->Bool)->World->Prop) (Rel:World->World->Prop)
  (hput:Av (fun i o=>∀u v,(mk u).put o.dst v=mk (fun j=>if j=i then v else u j)) 0 ops.toList)
  (hst:∀w w',Rel w w'->∀i v,φ i v w->φ i v w')
  (h0:R (fun _=>false) w.drew)
  (hstep:Av (fun i o=>∀(l:Nat->Bool) u w,l i=false->(∀e∈o.after,Region.binds .any e=true->l e.on=true/\φ e.on (u e.on) w)->R l w ->
   ∀K:Act->World->Prop,(∀v w' a',φ i v w'->Rel w w'->R (fun j=>if j=i then true else l j) w'->a'=(mk u).put o.dst v->K a' w') ->
    if Region.wanted o (yielded ops (mk u).tmps)=true then Oper.wp P o (mk u) w K Q else K ((mk u).put o.dst undef) w) 0 ops.toList)
  (hdone:∀(l:Nat->Bool) u w,(∀i,i<ops.size->l i=true)->(∀i,i<ops.size->φ i (u i) w)->R l w->Q .normal (mk u) w):(Code.region id ops true).wp P Q a w:=by
 subst ha;have hst':=fun i v w w' h=>hst w w' h i v;have hac':∀(i:Nat) (o:Oper),ops[i]?=some o->∀e∈o.after,Region.binds .any e=true->e.on<i:=by
  intro i o ho e he hbd;have hlt:i<ops.size:=(Array.getElem?_eq_some_iff.1 ho).1;have h:=List.all_eq_true.1 hac i (List.mem_range.2 hlt);rw[ho]at h;have:=Array.all_eq_true_iff_forall_mem.1 h e he;simpa [hbd]using this
 refine wp_region_any hm ?_
 refine Qbn hac' (fun l a w=>∃u,a=mk u/\(∀i,l i=true->i<ops.size->φ i (u i) w)/\R l w) ?_ ?_ ops.size _ (mk u0) _ aL (by
  unfold Ta;exact ad (List.length_filter_le _ _) aL) ⟨u0,rfl,?_,?_⟩
 ·rintro l a w i o ho hl hpre ⟨u,rfl,hφ,hR⟩;have ho':ops.toList[i]?=some o:=by simpa using ho
  have hp:=hput i o ho';have hs:=hstep i o ho';rw[am]at hp hs;refine wpOp_step ho fun K' hK'=>?_;refine hs l u w hl (fun e he hb=>⟨hpre e he hb,hφ e.on (hpre e he hb) ?_⟩) hR K' (fun v w' a' hv hrel hR' ha'=>hK' _ _ ⟨_,ha'.trans (hp u v),fun j hj hjs=>?_,hR'⟩)
  ·exact jT
  by_cases hji:j=i
  ·subst hji;simpa using hv
  have hj':l j=true:=gF;simpa [hji]using hst' j _ w w' hrel (hφ j hj' hjs)
 ·rintro l a w hl ⟨u,rfl,hφ,hR⟩;exact kS
 ·intro i hi;simp[Array.getD]at hi
 have e:(fun j=>(Array.replicate ops.size false).getD j false)=fun _=>false:=by
  funext j
  simp[Array.getD]
 rw[e];exact h0
def Bw:List Nat->Nat->(Nat->Value)->List Value->List Value
 |[],_,_,t=>t
 |s::S,i,u,t=>Bw S (i+1) u (t.set s (u i))
def B9(a:Act)(S:List Nat)(u:Nat->Value):Act:={tmps:=(Bw S 0 u a.tmps.toList).toArray,defers:=a.defers}
theorem Pw:∀(S:List Nat) (i:Nat) (u:Nat->Value) (t:List Value),(∀k s,S[k]?=some s->u (i+k)=t.getD s undef)->Bw S i u t=t
 |[],_,_,_,_=>rfl
 |s::S,i,u,t,h=>by
  have h0:u i=t.getD s undef:=by simpa using h 0 s rfl
  have e:t.set s (u i)=t:=by
   rw[h0];apply List.ext_getElem?;intro j;by_cases hj:s=j
   ·subst hj;by_cases hl:s<t.length
    ·simp[List.getD,hl]
    simp[hl]
   simp[hj]
  rw[Bw,e];exact Pw S (i+1) u t fun k s' hk=>by
   have:=h (k+1) s' (by simpa using hk);rwa [show i+1+k=i+(k+1)by omega]
theorem Nz:∀(S:List Nat) (i:Nat) (u v:Nat->Value) (t:List Value),(∀j,i<=j->u j=v j)->Bw S i u t=Bw S i v t
 |[],_,_,_,_,_=>rfl
 |s::S,i,u,v,t,h=>by
  rw[Bw,Bw,h i (Ar _)];exact Nz S (i+1) u v _ fun j hj=>h j aG
theorem Tb:∀(S:List Nat) (i:Nat) (u:Nat->Value) (t:List Value) (s:Nat) (v:Value),s∉S->(Bw S i u t).set s v=Bw S i u (t.set s v)
 |[],_,_,_,_,_,_=>rfl
 |s'::S,i,u,t,s,v,h=>by
  have h1:s≠s':=fun e=>h (by simp[e]);rw[Bw,Bw,Tb S (i+1) u _ s v (fun hm=>h (by simp[hm]))];congr 1
  exact(List.set_comm _ _ h1).symm
theorem Qn:∀(S:List Nat) (i:Nat) (u:Nat->Value) (t:List Value) (k s:Nat) (v:Value),S.Nodup->S[k]?=some s->(Bw S i u t).set s v=Bw S i (fun j=>if j=i+k then v else u j) t
 |[],_,_,_,k,s,v,_,h=>by simp at h
 |s'::S,i,u,t,0,s,v,hn,h=>by
  simp at h;subst h;rw[Bw,Bw,Tb S (i+1) u _ s' v (List.nodup_cons.1 hn).1];rw[if_pos aG,List.set_set];exact Nz S (i+1) u _ _ fun j hj=>by rw[if_neg aG]
 |s'::S,i,u,t,k+1,s,v,hn,h=>by
  simp at h;rw[Bw,Bw,Qn S (i+1) u _ k s v (List.nodup_cons.1 hn).2 h,if_neg aG];rw[show i+1+k=i+(k+1)by omega]
theorem Qp:∀(S:List Nat) (i:Nat) (u:Nat->Value) (t:List Value) (k s:Nat) (v:Value),S[k]?=some s->t.length<=s->Bw S i u t=Bw S i (fun j=>if j=i+k then v else u j) t
 |[],_,_,_,k,s,v,h,_=>by simp at h
 |s'::S,i,u,t,0,s,v,h,hl=>by
  simp at h;subst h;rw[Bw,Bw,List.set_eq_of_length_le hl,List.set_eq_of_length_le hl];exact Nz S (i+1) u _ _ fun j hj=>by rw[if_neg aG]
 |s'::S,i,u,t,k+1,s,v,h,hl=>by
  simp at h;rw[Bw,Bw,Qp S (i+1) u _ k s v h eJ,if_neg aG];rw[show i+1+k=i+(k+1)by omega]
def Jr(n:Nat):List Oper->List Nat->Bool
 |[],[]=>true
 |o::os,s::S=>(match o.dst with|some d=>d == s|none=>decide (n<=s)) && !S.contains s && Jr n os S
 |_,_=>false
theorem Pm{n:Nat}:∀{os:List Oper} {S:List Nat},Jr n os S=true->S.Nodup/\∀(i:Nat) (o:Oper),os[i]?=some o->∃s,S[i]?=some s/\(o.dst=some s\/(o.dst=none/\n<=s))
 |[],[],_=>⟨List.nodup_nil,fun i o h=>by simp at h⟩
 |[],_::_,h=>by simp[Jr]at h
 |_::_,[],h=>by simp[Jr]at h
 |o::os,s::S,h=>by
  simp only[Jr,av]at h;obtain⟨⟨h1,h2⟩,h3⟩:=h;obtain⟨hn,hs⟩:=Pm h3;refine⟨List.nodup_cons.2 ⟨by simpa using h2,hn⟩,fun i o' ho=>?_⟩;cases i with
  |zero=>
   simp at ho;subst ho;refine⟨s,rfl,?_⟩;cases hd:o.dst with
   |some d=>rw[hd]at h1;simp at h1;exact .inl (by rw[h1])
   |none=>rw[hd]at h1;simp at h1;exact .inr ⟨rfl,h1⟩
  |succ i=>simpa using hs i o' (by simpa using ho)
theorem Ju{id:Nat}{a:Act}{w:World}(S:List Nat)(hm:P.follows .mixedOrders=true)(hac:(List.range ops.size).all (fun i=>((ops[i]?).map fun o=>o.after.all fun e=>!Region.binds .any e || decide (e.on<i)).getD true)=true)
  (hS:Jr a.tmps.size ops.toList S=true) {mk:(Nat->Value)->Act} (hmk:∀u,B9 a S u=mk u)
  (φ:Nat->Value->World->Prop) (R:(Nat->Bool)->World->Prop) (Rel:World->World->Prop)
  (hst:∀w w',Rel w w'->∀i v,φ i v w->φ i v w')
  (h0:R (fun _=>false) w.drew)
  (hstep:Av (fun i o=>∀(l:Nat->Bool) u w,l i=false->(∀e∈o.after,Region.binds .any e=true->l e.on=true/\φ e.on (u e.on) w)->R l w ->
   ∀K:Act->World->Prop,(∀v w' a',φ i v w'->Rel w w'->R (fun j=>if j=i then true else l j) w'->a'=(mk u).put o.dst v->K a' w') ->
    if Region.wanted o (yielded ops (mk u).tmps)=true then Oper.wp P o (mk u) w K Q else K ((mk u).put o.dst undef) w) 0 ops.toList)
  (hdone:∀(l:Nat->Bool) u w,(∀i,i<ops.size->l i=true)->(∀i,i<ops.size->φ i (u i) w)->R l w->Q .normal (mk u) w):(Code.region id ops true).wp P Q a w:=by
 obtain rfl:B9 a S=mk:=funext hmk;obtain⟨hn,hs⟩:=Pm hS;refine Qaj hm hac (B9 a S) (fun i=>a.tmps.toList.getD (S.getD i 0) undef) ?_ φ R Rel ?_ hst h0 hstep hdone
 ·exact ky
 intro i o ho u v;rw[am];obtain⟨s,hsi,hd|⟨hd,hb⟩⟩:=hs i o ho
 ·exact jC
 have e:=Qp S 0 u a.tmps.toList i s v hsi gi;rw[am]at e;unfold B9 Act.put;rw[hd];simp only[<-e]
end
section
variable {P:Program} {ops:Array Oper} {Q:Exit->Act->World->Prop}
theorem Bq{id:Nat}{a:Act}{w:World}(S:List Nat)(hm:P.follows .mixedOrders=true)(hac:(List.range ops.size).all (fun i=>((ops[i]?).map fun o=>o.after.all fun e=>!Region.binds .any e || decide (e.on<i)).getD true)=true)
  (hS:Jr a.tmps.size ops.toList S=true) {mk:(Nat->Value)->Act} (hmk:∀u,B9 a S u=mk u)
  (φ:Nat->Value->World->Prop) (R:(Nat->Bool)->(Nat->Value)->World->Prop) (Rel:World->World->Prop)
  (hst:∀w w',Rel w w'->∀i v,φ i v w->φ i v w')
  (h0:R (fun _=>false) (fun i=>a.tmps.toList.getD (S.getD i 0) undef) w.drew)
  (hstep:Av (fun i o=>∀(l:Nat->Bool) u w,l i=false->(∀e∈o.after,Region.binds .any e=true->l e.on=true/\φ e.on (u e.on) w)->R l u w ->
   (∀j,l j=false->u j=a.tmps.toList.getD (S.getD j 0) undef)->(∀(j:Nat) (o:Oper),ops[j]?=some o->∀e∈o.after,Region.binds .any e=true->l e.on=false->l j=false) ->
   ∀K:Act->World->Prop,(∀v w' a',φ i v w'->Rel w w'->R (fun j=>if j=i then true else l j) (fun j=>if j=i then v else u j) w'->a'=(mk u).put o.dst v->K a' w') ->
    if Region.wanted o (yielded ops (mk u).tmps)=true then Oper.wp P o (mk u) w K Q else K ((mk u).put o.dst undef) w) 0 ops.toList)
  (hdone:∀(l:Nat->Bool) u w,(∀i,i<ops.size->l i=true)->(∀i,i<ops.size->φ i (u i) w)->R l u w->Q .normal (mk u) w):(Code.region id ops true).wp P Q a w:=by
 obtain rfl:B9 a S=mk:=funext hmk;obtain⟨hn,hs⟩:=Pm hS;have hput:∀(i:Nat) (o:Oper),ops.toList[i]?=some o->∀u v,(B9 a S u).put o.dst v=B9 a S (fun j=>if j=i then v else u j):=by
  intro i o ho u v;obtain⟨s,hsi,hd|⟨hd,hb⟩⟩:=hs i o ho
  ·exact jC
  have e:=Qp S 0 u a.tmps.toList i s v hsi gi;rw[am]at e;unfold B9 Act.put;rw[hd];simp only[<-e]
 have hac':∀(i:Nat) (o:Oper),ops[i]?=some o->∀e∈o.after,Region.binds .any e=true->e.on<i:=by
  intro i o ho e he hbd;have hlt:i<ops.size:=(Array.getElem?_eq_some_iff.1 ho).1;have h:=List.all_eq_true.1 hac i (List.mem_range.2 hlt);rw[ho]at h;have:=Array.all_eq_true_iff_forall_mem.1 h e he;simpa [hbd]using this
 refine wp_region_any hm ?_
 refine Qbn hac' (fun l b w=>∃u,b=B9 a S u/\(∀i,l i=true->i<ops.size->φ i (u i) w)/\R l u w/\(∀j,l j=false->u j=a.tmps.toList.getD (S.getD j 0) undef) /\
   (∀(j:Nat) (o:Oper),ops[j]?=some o->∀e∈o.after,Region.binds .any e=true->l e.on=false->l j=false)) ?_ ?_ ops.size _ a _ aL (by
  unfold Ta;exact ad (List.length_filter_le _ _) aL) ⟨fun i=>a.tmps.toList.getD (S.getD i 0) undef,?_,?_,?_,fun _ _=>rfl,?_⟩
 ·rintro l b w i o ho hl hpre ⟨u,rfl,hφ,hR,hi,hdn⟩;have ho':ops.toList[i]?=some o:=by simpa using ho
  have hp:=hput i o ho';have hs':=hstep i o ho';rw[am]at hs';refine wpOp_step ho fun K' hK'=>?_;refine hs' l u w hl (fun e he hb=>⟨hpre e he hb,hφ e.on (hpre e he hb) ?_⟩) hR hi hdn K' (fun v w' a' hv hrel hR' ha'=>hK' _ _ ⟨_,ha'.trans (hp u v),fun j hj hjs=>?_,hR',fun j hj=>?_,fun j o' hj e he hb hle=>?_⟩)
  ·exact jT
  ·by_cases hji:j=i
   ·subst hji;simpa using hv
   have hj':l j=true:=gF;simpa [hji]using hst w w' hrel j _ (hφ j hj' hjs)
  ·by_cases hji:j=i
   ·subst hji;simp at hj
   have hj':l j=false:=gF;simpa [hji]using hi j hj'
  have hne:e.on≠i:=by rintro rfl;simp at hle
  have hle':l e.on=false:=by simpa [hne]using hle
  have hlj:=hdn j o' hj e he hb hle';have hji:j≠i:=by
   rintro rfl;rw[ho]at hj;injection hj with hj;subst hj;rw[hpre e he hb]at hle';cases hle'
  simpa [hji]using hlj
 ·rintro l b w hl ⟨u,rfl,hφ,hR,_,_⟩;exact kS
 ·exact ky
 ·intro i hi;simp[Array.getD]at hi
 ·have e:(fun j=>(Array.replicate ops.size false).getD j false)=fun _=>false:=by
   funext j
   simp[Array.getD]
  rw[e];exact h0
 intro j o hj e he hb _;simp[Array.getD]
end
theorem Bv{ops:Array Oper}{l:Nat->Bool}(h:∀(j:Nat) (o:Oper),ops[j]?=some o->∀e∈o.after,Region.binds .any e=true->l e.on=false->l j=false)(j i:Nat)(hc:((ops[j]?).map fun o=>o.after.toList.any fun e=>decide (e.on=i) && Region.binds .any e)=some true)(hi:l i=false):l j=false:=by
 cases ho:ops[j]? with
 |none=>rw[ho]at hc;cases hc
 |some o=>
  rw[ho]at hc;have hc:(o.after.toList.any fun e=>decide (e.on=i) && Region.binds .any e)=true:=by injection hc
  obtain⟨e,he,h2⟩:=List.any_eq_true.1 hc;rw[av,decide_eq_true_iff]at h2;obtain⟨rfl,h3⟩:=h2;exact h j o ho e cM h3 hi
theorem rgE{P:Program}{ops:Array Oper}{Q:Exit->Act->World->Prop}{id:Nat}{a:Act}{w:World}(S:List Nat){mk:(Nat->Value)->Act}
  (φ:Nat->Value->World->Prop) (R:(Nat->Bool)->(Nat->Value)->World->Prop)
  (h0:R (fun _=>false) (fun i=>a.tmps.toList.getD (S.getD i 0) undef) w.drew)
  (hstep:Av (fun i o=>∀(l:Nat->Bool) u w,l i=false->(∀e∈o.after,Region.binds .any e=true->l e.on=true/\φ e.on (u e.on) w)->R l u w ->
   (∀j,l j=false->u j=a.tmps.toList.getD (S.getD j 0) undef)->(∀(j:Nat) (o:Oper),ops[j]?=some o->∀e∈o.after,Region.binds .any e=true->l e.on=false->l j=false) ->
   ∀K:Act->World->Prop,(∀v w' a',φ i v w'->True->R (fun j=>if j=i then true else l j) (fun j=>if j=i then v else u j) w'->a'=(mk u).put o.dst v->K a' w') ->
    if Region.wanted o (yielded ops (mk u).tmps)=true then Oper.wp P o (mk u) w K Q else K ((mk u).put o.dst undef) w) 0 ops.toList)
  (hdone:∀(l:Nat->Bool) u w,(∀i,i<ops.size->l i=true)->(∀i,i<ops.size->φ i (u i) w)->R l u w->Q .normal (mk u) w)
  (hc:(P.follows .mixedOrders && (List.range ops.size).all (fun i=>((ops[i]?).map fun o=>o.after.all fun e=>!Region.binds .any e || decide (e.on<i)).getD true) && Jr a.tmps.size ops.toList S)=true:=by kernel_rfl) (hst:∀w w':World,True->∀i v,φ i v w->φ i v w':=by exact fun _ _ _ _ _ h=>h) (hmk:∀u,B9 a S u=mk u:=by intro u;dsimp only[B9,Bw,List.set,am,Nat.reduceAdd]):(Code.region id ops true).wp P Q a w:=
 have h1:=Bool.and_eq_true_iff.1 hc;have h2:=Bool.and_eq_true_iff.1 h1.1;Bq S h2.1 h2.2 h1.2 hmk φ R (fun _ _=>True) hst h0 hstep hdone
theorem Qr{P:Program}{ops:Array Oper}{Q:Exit->Act->World->Prop}{id:Nat}{a:Act}{w:World}(S:List Nat){mk:(Nat->Value)->Act}
  (φ:Nat->Value->World->Prop) (R:(Nat->Bool)->(Nat->Value)->World->Prop)
  (h0:R (fun _=>false) (fun i=>a.tmps.toList.getD (S.getD i 0) undef) w.drew)
  (hstep:Av (fun i o=>∀(l:Nat->Bool) u w,l i=false->(∀e∈o.after,Region.binds .any e=true->l e.on=true/\φ e.on (u e.on) w)->Hid (R l u w)->Hid (∀(j:Nat) (o:Oper),ops[j]?=some o->∀e∈o.after,Region.binds .any e=true->l e.on=false->l j=false) ->
   ∀K:Act->World->Prop,(∀v w' a',φ i v w'->True->R (fun j=>if j=i then true else l j) (fun j=>if j=i then v else u j) w'->a'=(mk u).put o.dst v->K a' w') ->
    if Region.wanted o (yielded ops (mk u).tmps)=true then Oper.wp P o (mk u) w K Q else K ((mk u).put o.dst undef) w) 0 ops.toList)
  (hdone:∀(l:Nat->Bool) u w,(∀i,i<ops.size->l i=true)->(∀i,i<ops.size->φ i (u i) w)->R l u w->Q .normal (mk u) w)
  (hc:(P.follows .mixedOrders && (List.range ops.size).all (fun i=>((ops[i]?).map fun o=>o.after.all fun e=>!Region.binds .any e || decide (e.on<i)).getD true) && Jr a.tmps.size ops.toList S)=true:=by kernel_rfl) (hst:∀w w':World,True->∀i v,φ i v w->φ i v w':=by exact fun _ _ _ _ _ h=>h) (hmk:∀u,B9 a S u=mk u:=by intro u;dsimp only[B9,Bw,List.set,am,Nat.reduceAdd]):(Code.region id ops true).wp P Q a w:=
 have h1:=Bool.and_eq_true_iff.1 hc;have h2:=Bool.and_eq_true_iff.1 h1.1;Bq S h2.1 h2.2 h1.2 hmk φ R (fun _ _=>True) hst h0 (fun i o ho l u w h1 h2 hR _ hd=>hstep i o ho l u w h1 h2 hR hd) hdone
theorem Ke{a b:Bool}(h:a=false->b=false)(l:b=true):a=true:=by
 cases a with
 |true=>rfl
 |false=>rw[h rfl]at l;cases l
theorem Tryz.sizeBuilder:(prog.info? 125).map (·.size)=some 2:=aM
theorem Tryz.liesBuilder:liesAt prog prog.depth 125 (2 / prog.cellsOf 125) 0 125 1=true:=aM
theorem Tryz.cellsByte:prog.cellsOf 5=1:=aM
section
variable {P:Program}
end
theorem Ja(ls:List (List UInt8)):∀y∈Ah ls,y.oneCell'=true:=by
 intro y hy;obtain⟨l,_,rfl⟩:=aw.1 hy;rfl
theorem Jn(a b:List (List UInt8)):Ah (a++b)=Ah a++Ah b:=by simp[Ah]
section
attribute [local go_sem] Qo1 Qof Qnv Qlx ByteArray.mk_append_mk
theorem Q5(n:Nat)(w:World)(hn:n<10):
  Calls prog 62 #[.int .i64 n] w fun e w'=>e=.returned (.string ⟨(Bb n).toArray⟩)/\Below w w w':=by
 have Hfin:=Aa (Fe hn);have hcv:=fun W=>N5 W w 1 (Dq (48+n));rw[Dx aG]at hcv;go_enter func62,ntmps62;go_wp2_with fail;exact kT
theorem Qz:∀(k n:Nat) (w:World),n<=k->n<=1000000000 ->
  Calls prog 62 #[.int .i64 n] w fun e w'=>e=.returned (.string ⟨(Bb n).toArray⟩)/\Below w w w':=by
 intro k;induction k with
 |zero=>intro n w hn h;exact Q5 n w aG
 |succ k ih=>
  intro n w hn h;by_cases h10:n<10
  ·exact Q5 n w h10
  have Hfin:=Aa (Pd h10);have Hs:=Aa (Fe (show n % 10<10 by omega));have Ih:=Aa (fun W=>ih (n / 10) W aG aG);have hl:=C0 8 (n / 10) gG;have e1:((n:Int) / 10)=((n / 10:Nat):Int):=aG;have e2:((n:Int) % 10)=((n % 10:Nat):Int):=aG;have E1:=Aa e1;have E2:=Aa e2;clear ih e1 e2;go_enter func62,ntmps62;go_wp2_with fail;rw[E1.o];refine(Ih.o _).mono ?_;rintro e w1 ⟨rfl,hb1⟩;have Hb1:=Aa hb1;clear hb1;go_wp2_with fail;rw[E2.o];refine(Q5 (n % 10) w1 aG).mono ?_;rintro e w2 ⟨rfl,hb2⟩;have Hb2:=Aa (Hb1.o.trans (hb2.mono Hb1.o.size));rw[Hs.o];clear hb2;go_wp2_with fail;go_ret;exact⟨by rw[Hfin.o];rfl,Hb2.o⟩
def Qnj(b:List UInt8):Prop:=b=[110]\/b=[116]\/b=[102]\/b=[64]
theorem Qim{s:List UInt8}:Cf [110] s=(match Cz s with|some n=>decide (0<n)|none=>false):=rfl
theorem Qho{s:List UInt8}:Cf [116] s=(decide (2<s.length) && decide (s.head?=some 39) && decide (s.getLast?=some 39) && Du (s.drop 1).dropLast):=rfl
theorem Qh2{s:List UInt8}:Cf [102] s=decide (s=[121,101,115]):=rfl
theorem Qfh(s:List UInt8)(w:World)(hs:s.length<=4000000):
  Calls prog 155 #[.string ⟨#[110]⟩,s] w fun e w'=>e=.returned (.bool (Cf [110] s))/\Below w w w':=by
 have Hp:=Aa (fun W=>Jq s 999999 W aG aG);have Hf:=Aa (Qim (s:=s));cases hd:Cz s with
 |none=>
  rw[hd]at Hf;have Hv:=Aa (Sn (m:=999999) hd);clear hd;go_enter func155,ntmps155;go_wp2_with fail;refine(Hp.o _).mono ?_;rintro e w' ⟨rfl,rfl⟩;rw[Hv.o];go_wp2_with fail;go_ret;exact⟨Eu (Da Hf.o.symm),Aw _ _⟩
 |some n=>
  rw[hd]at Hf;have h9:=(Cm.1 hd).1;have Hv:=Aa (Xr (m:=999999) hd);have t1:decide (n<=999999)=true:=by simp;exact h9
  clear hd;rcases aF 0 n with hn|hn;all_goals
   go_enter func155,ntmps155;go_wp2_with fail;refine(Hp.o _).mono ?_;rintro e w' ⟨rfl,rfl⟩;rw[Hv.o,t1];go_wp2_with fail;go_ret;exact⟨Eu (Da (by rw[Hf.o];first|done|(simp;try omega))),Aw _ _⟩
theorem Qge(s:List UInt8)(w:World)(hs:s.length<=4000000):
  Calls prog 155 #[.string ⟨#[102]⟩,s] w fun e w'=>e=.returned (.bool (Cf [102] s))/\Below w w w':=by
 have Hf:=Aa (Qh2 (s:=s));by_cases hy:s=[121,101,115]
 ·subst hy;go_enter func155,ntmps155;go_wp2_with fail;go_ret;exact⟨Eu (Da (by rw[Hf.o];simp)),Aw _ _⟩
 have Hy:=Aa (show decide (s=[121,101,115])=false by simpa using hy);have ty:(s == [121,101,115])=false:=by simpa using hy
 clear hy;go_enter func155,ntmps155;go_wp2_with fail;go_ret;exact⟨Eu (Da (by rw[Hf.o,Hy.o])),Aw _ _⟩
theorem Qec(s:List UInt8)(w:World):
  Calls prog 155 #[.string ⟨#[64]⟩,s] w fun e w'=>e=.returned (.bool (Cf [64] s))/\Below w w w':=by
 go_enter func155,ntmps155;go_wp2_with fail;exact kU
theorem Qfo(s:List UInt8)(w:World)(hs:s.length<=4000000):
  Calls prog 155 #[.string ⟨#[116]⟩,s] w fun e w'=>e=.returned (.bool (Cf [116] s))/\Below w w w':=by
 have hf:=Qho (s:=s);rcases aF 2 s.length with h2|h2
 ·obtain⟨c,u,d,rfl⟩:∃c u d,s=c::(u++[d]):=by
   cases s with
   |nil=>simp at h2
   |cons c t=>
    rcases Fw t with rfl|⟨u,d,rfl⟩
    ·simp at h2
    exact⟨c,u,d,rfl⟩
  have hl:(c::(u++[d])).getLast?=some d:=by
   exact kN
  have hu:((c::(u++[d])).drop 1).dropLast=u:=aL;rw[hl,hu]at hf;have t0:decide (2<(c::(u++[d])).length)=true:=eH;rw[t0]at hf;simp only[List.head?_cons,aj,Bool.true_and]at hf;have Hf:=Aa hf;have hc:=c.toNat_lt;have hd:=d.toNat_lt;have hgd:∀h,(c::(u++[d]))[u.length+1]'h=d:=by intro h;simp
  have hsl:(List.take u.length (u++[d]))=u:=aL;have hul:2<=u.length+1:=by simp at h2;omega
  have hul2:u.length<=4000000:=gW;clear hf hl hu h2 hs t0;by_cases hc39:c=39
  ·have t1:((c.toNat:Int) == 39)=true:=Bs hc39;have Hc:=Aa (show decide (c=39)=true by simpa using hc39);clear hc39;by_cases hd39:d=39
   ·have t2:((d.toNat:Int) == 39)=true:=Bs hd39;have Hd:=Aa (show decide (d=39)=true by simpa using hd39);clear hd39;go_enter func155,ntmps155;go_wp2_with fail;refine(Qfg u _ aG).mono ?_;rintro e w' ⟨rfl,hb⟩;go_wp2_with fail;go_ret;exact⟨Eu (Da (by rw[Hf.o,Hc.o,Hd.o];simp)),hb⟩
   have t2:((d.toNat:Int) == 39)=false:=At hd39;have Hd:=Aa (show decide (d=39)=false by simpa using hd39);clear hd39;go_enter func155,ntmps155;go_wp2_with fail;go_ret;exact⟨Eu (Da (by rw[Hf.o,Hd.o];simp)),Aw _ _⟩
  have t1:((c.toNat:Int) == 39)=false:=At hc39;have Hc:=Aa (show decide (c=39)=false by simpa using hc39);clear hc39;go_enter func155,ntmps155;go_wp2_with fail;go_ret;exact⟨Eu (Da (by rw[Hf.o,Hc.o];simp)),Aw _ _⟩
 have e0:decide (2<s.length)=false:=aO;have Hf:=Aa (show Cf [116] s=false by rw[hf,e0];simp);clear e0;have t0:decide (2<(s.length:Int))=false:=aO;clear hf;go_enter func155,ntmps155;go_wp2_with fail;go_ret;exact⟨Eu (Da Hf.o.symm),Aw _ _⟩
theorem Qbr(b s:List UInt8)(w:World)(hb:Qnj b)(hs:s.length<=4000000):
  Calls prog 155 #[b,s] w fun e w'=>e=.returned (.bool (Cf b s))/\Below w w w':=by
 rcases hb with rfl|rfl|rfl|rfl
 ·exact Qfh s w hs
 ·exact Qfo s w hs
 ·exact Qge s w hs
 exact Qec s w
theorem Au{B:Nat}{w w':World}{b o:Nat}{cs:List Value}(h:w.rangeAt b o cs)(hb:b<B)(hw:Below B w w'):w'.rangeAt b o cs:=fun j v hv=>(hw.cell (p:=⟨b,o+j,none⟩) hb).trans (h j v hv)
theorem Bc{B:Nat}{w w':World}{b o n:Nat}(h:w.there b o n)(hb:b<B)(hw:Below B w w'):w'.there b o n:=fun j hj=>by
 rw[hw.cell (p:=⟨b,o+j,none⟩) hb,hw.frozen (p:=⟨b,o+j,none⟩) hb];exact h j hj
theorem By{w w':World}{b o:Nat}{cs:List Value}{row:Option Nat}(h:w.rangeAt b o cs)(hg:w.grownBy w' row)(hne:some b≠row):w'.rangeAt b o cs:=fun j v hv=>hg.cell (h j v hv) hne
theorem J1{w w':World}{b o n:Nat}{row:Option Nat}(h:w.there b o n)(hg:w.grownBy w' row)(hb:b<w.heap.size)(hne:some b≠row):w'.there b o n:=fun j hj=>by
 rw[hg.cell_far ⟨b,o+j,none⟩ hb hne,hg.frozen_far ⟨b,o+j,none⟩ hb hne];exact h j hj
theorem N8{w:World}{b o n:Nat}(h:w.there b o n)(p m:Nat)(h1:o<=p)(h2:p+m<=o+n):w.there b p m:=fun j hj=>by
 have:=h (p+j - o) aG;rwa [show o+(p+j - o)=p+j by omega]at this
theorem Ca(w:World)(cs:List Value)(t:TypeId):(w.alloc (.cells cs.toArray t)).rangeAt w 0 cs:=fun j v hv=>by
 rw[World.cell?_alloc_new];simpa using hv
theorem Dk(w:World)(cs:List Value)(t:TypeId):(w.alloc (.cells cs.toArray t)).there w 0 cs.length:=fun j hj=>by
 refine⟨?_,by simp⟩;rw[World.cell?_alloc_new];simp;omega
theorem Ao{B:Nat}{a:World}(b:Nat)(hb:B<=b):∀(vs:List Value) (o:Nat) (w:World),Below B a w->Below B a (w.setCells b o vs)
 |[],_,_,h=>h
 |v::r,o,w,h=>Ao b hb r (o+1) _ (h.setCell hb v)
theorem Cy(b:Nat):∀(vs:List Value) (o:Nat) (w:World),(w.setCells b o vs).heap.size=w.heap.size
 |[],_,_=>rfl
 |v::r,o,w=>by rw[World.setCells,Cy b r];simp
theorem Ab{w:World}{b o:Nat}{cs:List Value}(h:w.rangeAt b o cs)(j:Nat){v:Value}(hv:cs[j]?=some v):w.cell? ⟨b,o+j,none⟩=some v:=h j v hv
theorem Qb1{w:World}{b o:Nat}(l1 l2 l3:List Value)(h:w.rangeAt b o (l1++(l2++l3))):w.rangeAt b (o+l1.length) l2:=fun j v hv=>by
 have hj:=(List.getElem?_eq_some_iff.1 hv).1;rw[Nat.add_assoc];exact h _ v (by rw[List.getElem?_append_right aG,Nat.add_sub_cancel_left,List.getElem?_append_left hj];exact hv)
theorem Dr{w:World}{b:Nat}(l1 l2 l3 l2':List Value)(h:w.rangeAt b 0 (l1++(l2++l3)))(hl:l2'.length=l2.length):(w.setCells b l1.length l2').rangeAt b 0 (l1++(l2'++l3)):=fun j v hv=>by
 have hjl:j<l1.length+(l2'.length+l3.length):=by
  have:=(List.getElem?_eq_some_iff.1 hv).1;simpa using this
 have hsome:∀i,i<l2'.length->(w.cell? ⟨b,l1.length+i,none⟩).isSome=true:=fun i hi=>by
  have e:(l1++(l2++l3))[l1.length+i]?=some (l2[i]' aG):=by
   rw[List.getElem?_append_right aG,List.getElem?_append_left aG,Nat.add_sub_cancel_left,List.getElem?_eq_getElem aG]
  have:=h _ _ e;rw[am]at this;rw[this];rfl
 rw[am];rcases aF j l1.length with h1|h1
 ·rw[World.cell?_setCells_out b l2' l1.length w ⟨b,j,none⟩ (fun _ _=>.inl h1)];rw[List.getElem?_append_left h1]at hv;have:=h j v (by rw[List.getElem?_append_left h1];exact hv);rwa [am]at this
 rw[List.getElem?_append_right h1]at hv;rcases aF (j - l1.length) l2'.length with h2|h2
 ·rw[List.getElem?_append_left h2,List.getElem?_eq_getElem h2]at hv;have:=World.cell?_setCells_in b l2' l1.length w hsome (j - l1.length) h2;rw[show l1.length+(j - l1.length)=j by omega]at this;rw[this];exact hv
 rw[World.cell?_setCells_out b l2' l1.length w ⟨b,j,none⟩ (fun _ _=>.inr (by show l1.length+l2'.length<=j;omega))];rw[List.getElem?_append_right h2]at hv;have:=h j v (by rw[List.getElem?_append_right h1,List.getElem?_append_right aG,<-hl];exact hv);rwa [am]at this
section
variable {P:Program}
theorem Ad{ops:Array Oper}{rest:List Oper}{op:Oper}{a:Act}{w:World}{Q:Exit->Act->World->Prop}(hgd:op.guard=none)(ty:TypeId)(x y:Operand)(ho:op.op=.store ty x y)
  (b o:Nat) (cs:List Value) (hx:a.eval x=.pointer (some ⟨b,o,none⟩)) (hy:a.eval y=.agg cs.toArray)
  (ht:w.there b o cs.length) (hi:(P.info? ty).map (·.size)=some cs.length) (h1:∀v∈cs,v.oneCell'=true)
  (h:∀w',Hid (w'=w.setCells b o cs)->wpList P ops Q rest (a.put op.dst undef) w'):wpList P ops Q (op::rest) a w:=
 wpList_store_mid hgd ty x y ho b o cs.toArray hx hy dN eI (all_oneCell_toArray h1) (h _ rfl)
theorem Ax{fn:Func}{p q:Tmp}{ty:TypeId}(h:fn.results=#[.cell p ty,.tmp q])(tmps:Array Value)(w:World)(b:Nat)(cs:List Value)(d:TypeDesc)(x:Value)
  (hp:tmps.getD p undef=b) (hq:tmps.getD q undef=x) (hc:w.rangeAt b 0 cs) (hu:P.underlying ty=some d) (hd:d.isRow=true) (hi:(P.info? ty).map (·.size)=some cs.length):
  (results fn tmps).run P w=.ok (.tuple #[.agg cs.toArray,x]) w:=by
 have hp':tmps[p]?.getD undef=b:=ft;have hq':tmps[q]?.getD undef=x:=by simpa using hq
 simp[results,h,hp',hq',asAddr,run_loadVar_mid w b 0 ty cs d hc hu hd hi]
theorem H9{fn:Func}{r p q:Tmp}{ty:TypeId}(h:fn.results=#[.tmp r,.cell p ty,.tmp q])(tmps:Array Value)(w:World)(b:Nat)(cs:List Value)(d:TypeDesc)(y x:Value)
  (hr:tmps.getD r undef=y) (hp:tmps.getD p undef=b) (hq:tmps.getD q undef=x) (hc:w.rangeAt b 0 cs) (hu:P.underlying ty=some d) (hd:d.isRow=true) (hi:(P.info? ty).map (·.size)=some cs.length):
  (results fn tmps).run P w=.ok (.tuple #[y,.agg cs.toArray,x]) w:=by
 have hp':tmps[p]?.getD undef=b:=ft;have hq':tmps[q]?.getD undef=x:=by simpa using hq
 have hr':tmps[r]?.getD undef=y:=fw;simp[results,h,hp',hq',hr',asAddr,run_loadVar_mid w b 0 ty cs d hc hu hd hi]
end
theorem Qav(n:Nat)(w:World)(hn:n<10):
  Calls prog 88 #[.int .i64 n] w fun e w'=>e=.returned (.string ⟨(Bb n).toArray⟩)/\Below w w w':=by
 have Hfin:=Aa (Fe hn);have hcv:=fun W=>N5 W w 1 (Dq (48+n));rw[Dx aG]at hcv;go_enter func88,ntmps88;go_wp2_with fail;exact kT
theorem Qfd(n:Nat)(h10:¬n<10)(hn:n<=1000000000)(ih:∀W,Calls prog 88 #[.int .i64 ((n / 10:Nat):Int)] W fun e w'=>e=.returned (.string ⟨(Bb (n / 10)).toArray⟩)/\Below W W w')(w:World):
  Calls prog 88 #[.int .i64 n] w fun e w'=>e=.returned (.string ⟨(Bb n).toArray⟩)/\Below w w w':=by
 have Hfin:=Aa (Pd h10);have ih':=Aa ih;have hl:=C0 8 (n / 10) gG;clear ih;have hcv:=fun W g=>N5 W g 1 (Dq (48+n % 10));have h1:IntKind.u8.wrap (IntKind.i64.wrap (48+(n:Int).tmod 10))=((Dq (48+n % 10)).toNat:Int):=by
  rw[Dx aG,Int.tmod_eq_emod_of_nonneg aG,IntWalk.i64_in _ aG,IntWalk.u8_in _ aG];omega
 have h2:IntKind.i64.wrap ((n:Int) / 10)=((n / 10:Nat):Int):=by rw[IntWalk.i64_in _ aG];omega
 go_enter func88,ntmps88;go_wp2_with fail;go_region_with (go_at_call 88;refine(ih'.out _).mono ?_;rintro e w' ⟨rfl,hb⟩;obtain⟨hc,hf,hz⟩:=Ck hb)
 all_goals
  go_wp2
  go_ret;refine⟨by rw[Hfin.o];rfl,?_⟩;have hsz:=hb.size;repeat (first|exact Aw _ _|refine Below.drew ?_|refine Below.alloc ?_ (by simp at hsz ⊢;first|omega|done) _|refine Below.trans ?_ (hb.mono aL))
theorem Jd:∀(k n:Nat) (w:World),n<=k->n<=1000000000 ->
  Calls prog 88 #[.int .i64 n] w fun e w'=>e=.returned (.string ⟨(Bb n).toArray⟩)/\Below w w w':=by
 intro k;induction k with
 |zero=>intro n w hn h;exact Qav n w aG
 |succ k ih=>
  intro n w hn h;by_cases h10:n<10
  ·exact Qav n w h10
  exact Qfd n h10 h (fun W=>ih (n / 10) W aG aG) w
theorem Qam(s:List UInt8)(k:Nat)(hk:k<=6)(h:(s.take k).all Bm=true):H5 (s.take k)<=999999:=by
 exact kQ
def Ei(s:List UInt8)(top:Nat):Bool:=match Cz s with|some m=>decide (m<=top)|none=>false
theorem Pb{s:List UInt8}{top:Nat}(h:Cz s=none):Ei s top=false:=by unfold Ei;rw[h]
theorem N6{s:List UInt8}{top n:Nat}(h:Cz s=some n):Ei s top=decide (n<=top):=by unfold Ei;rw[h]
def Qi4(s:List UInt8)(top:Nat)(w:World)(e:Ending)(w':World):Prop:=
 ∃n:Nat,n<=999999/\e=.returned (.tuple #[.int .i64 n,.bool (Ei s top)])/\(∀m,Cz s=some m->m=n)/\Below w w w'
theorem D7(s:List UInt8)(m:Nat)(w:World)(hs:s.length<=4000000)(hm:m<=999999):
  Calls prog 86 #[s,.int .i64 m] w (Qi4 s m w):=by
 go_enter func86,ntmps86;go_wp2_with fail;go_loop [6,7] (fun x i=>∃k:Nat,i=.int .i64 k/\k<=s.length/\k<=6/\Hid ((s.take k).all Bm=true)/\H5 (s.take k)<=999999/\x=.int .i64 ((H5 (s.take k):Nat):Int)) (fun _ i=>s.length - (intOf i).toNat)
 case atStart=>exact⟨0,rfl,ag _,by omega,by simp[Hid],by simp[H5],by simp[H5]⟩
 case round=>
  obtain⟨k,rfl,hk,hk6,hdig,hv,rfl⟩:=hrel;by_cases hlt:k<s.length
  ·have hc:=(s[k]).toNat_lt;have Hts:=Aa (Bx s k hlt);have Hmem:=Aa (ae hlt);by_cases hd:Bm s[k]=true
   ·have hd2:=Dh.1 hd;obtain⟨d1,d2⟩:=hd2;by_cases h5:k<=5
    ·have hdig2:(s.take (k+1)).all Bm=true:=by
      rw[Hts.o,List.all_append,hdig.o];simp[hd]
     have hv2:=Qam s (k+1) aG hdig2;have Hdig2:=Aa hdig2;have Hv:=Aa (show H5 (s.take (k+1))=10*H5 (s.take k)+((s[k]).toNat - 48)by rw[Hts.o,Mq]);clear hd hdig2;go_wp2_with fail;go_round
     case rel=>exact⟨k+1,by go_num,by omega,by omega,Hdig2.o,hv2,Qne (by rw[Hv.o];omega)⟩
     case measure=>simp[intOf];omega
    have h5':5<k:=aG;have hno:Cz s=none:=by
     unfold Cz;rw[if_neg];rintro⟨_,h,_⟩;omega
    have Hn:=Aa (Pb (top:=m) hno);have Hno:=Aa hno;clear hd hno h5;go_wp2_with fail;go_ret2;exact lj
   have hno:Cz s=none:=by
    unfold Cz;rw[if_neg];rintro⟨_,_,h,_⟩;exact hd (List.all_eq_true.1 h _ Hmem.o)
   have Hn:=Aa (Pb (top:=m) hno);have Hno:=Aa hno;have h2:(s[k]).toNat<48\/(48<=(s[k]).toNat/\57<(s[k]).toNat):=by
    rcases aF (s[k]).toNat 48 with h|h
    ·exact .inl h
    rcases aF 57 (s[k]).toNat with h'|h'
    ·exact .inr ⟨h,h'⟩
    exact absurd (Dh.2 ⟨h,h'⟩) hd
   clear hd hno;rcases h2 with h2|⟨h2,h4⟩
   ·go_wp2_with fail;go_ret2;exact lj
   go_wp2_with fail;go_ret2;exact lj
  ·have e:s.take k=s:=ar aG;rw[e]at hv ⊢;have hcase:(Cz s=some (H5 s)/\s=Bb (H5 s))\/(Cz s=none/\s≠Bb (H5 s)):=by
    by_cases h:s=Bb (H5 s)
    ·exact .inl ⟨Cm.2 ⟨hv,h⟩,h⟩
    refine .inr ⟨?_,h⟩;cases hd:Cz s with
    |none=>rfl
    |some n=>
     obtain⟨_,h2⟩:=Cm.1 hd;exact absurd (by rw[h2,Rg]) h
   clear hdig e;generalize H5 s=v at hv hcase;have hdl:=C0 5 v gM;rcases hcase with⟨h1,h2⟩|⟨h1,h2⟩
   ·have Hn:=Aa (N6 (top:=m) h1);have Hd:=Aa h1;have tq:(s == Bb v)=true:=eH;clear h1 h2;by_cases hvm:v<=m
    ·go_wp2_with fail;refine(Jd v v _ (Ar _) aG).mono ?_;rintro e w1 ⟨rfl,hb⟩;have Hb:=Aa hb;clear hb;go_wp2_with fail;go_ret2;exact⟨v,hv,by rw[Hn.o];exact Qmb rfl (Da (by simp[hvm])),(fun m h=>by rw[Hd.o]at h;injection h with h;exact h.symm),Hb.o⟩
    have hvm':m<v:=aG;go_wp2_with fail;refine(Jd v v _ (Ar _) aG).mono ?_;rintro e w1 ⟨rfl,hb⟩;have Hb:=Aa hb;clear hb;go_wp2_with fail;go_ret2;exact⟨v,hv,by rw[Hn.o];exact Qmb rfl (Da aO),(fun m h=>by rw[Hd.o]at h;injection h with h;exact h.symm),Hb.o⟩
   have Hn:=Aa (Pb (top:=m) h1);have Hd:=Aa h1;have tq:(s == Bb v)=false:=eH;clear h1 h2;go_wp2_with fail;refine(Jd v v _ (Ar _) aG).mono ?_;rintro e w1 ⟨rfl,hb⟩;have Hb:=Aa hb;clear hb;go_wp2_with fail;go_ret2;exact⟨v,hv,by rw[Hn.o];rfl,(fun m h=>by rw[Hd.o]at h;cases h),Hb.o⟩
def G1(s:List UInt8):Bool:=decide (2<=s.length) && decide (s.head?=some 39) && decide (s.getLast?=some 39) && Du (s.drop 1).dropLast
theorem Zp(s:List UInt8)(w:World)(hs:s.length<=4000000):
  Calls prog 87 #[s] w fun e w'=>e=.returned (.bool (G1 s))/\w=w':=by
 have hf:G1 s=(decide (2<=s.length) && decide (s.head?=some 39) && decide (s.getLast?=some 39) && Du (s.drop 1).dropLast):=rfl;rcases aF s.length 2 with h2|h2
 ·have e0:decide (2<=s.length)=false:=aO;have Hf:=Aa (show G1 s=false by rw[hf,e0];simp);have t0:decide ((s.length:Int)<2)=true:=aO;clear hf e0;go_enter func87,ntmps87;go_wp2_with fail;exact kM
 have t0:decide ((s.length:Int)<2)=false:=aO;rcases aF 14 s.length with h14|h14
 ·have Hf:=Aa (show G1 s=false by
   have:Du (s.drop 1).dropLast=false:=by
    unfold Du;have e1:decide ((s.drop 1).dropLast.length<=12)=false:=aO;rw[e1];rfl
   rw[hf,this];simp)
  have t1:decide (14<(s.length:Int))=true:=aO;clear hf;go_enter func87,ntmps87;go_wp2_with fail;exact kM
 obtain⟨c,u,d,rfl⟩:∃c u d,s=c::(u++[d]):=by
  cases s with
  |nil=>simp at h2
  |cons c t=>
   rcases Fw t with rfl|⟨u,d,rfl⟩
   ·simp at h2
   exact⟨c,u,d,rfl⟩
 have hl:(c::(u++[d])).getLast?=some d:=by
  exact kN
 have hu:((c::(u++[d])).drop 1).dropLast=u:=aL;have e2:decide (2<=(c::(u++[d])).length)=true:=aL;rw[hl,hu,e2]at hf;simp only[List.head?_cons,aj,Bool.true_and]at hf;have Hf:=Aa hf;have hc:=c.toNat_lt;have hd:=d.toNat_lt;have hgd:∀h,(c::(u++[d]))[u.length+1]'h=d:=by intro h;simp
 have hul:u.length<=12:=by simp at h14;omega
 have Hfit:=Aa (show Du u=u.all Co by simp[Du,hul]);clear hf hl hu h2 hs h14 t0 e2;by_cases hc39:c=39
 ·have t1:((c.toNat:Int) != 39)=false:=by have:=Bs hc39;simpa using this
  have Hc:=Aa (show decide (c=39)=true by simpa using hc39);clear hc39;by_cases hd39:d=39
  ·have t2:((d.toNat:Int) != 39)=false:=by have:=Bs hd39;simpa using this
   have Hd:=Aa (show decide (d=39)=true by simpa using hd39);clear hd39;go_enter func87,ntmps87;go_wp2_with fail;go_loop [3] (fun i=>∃k:Nat,i=.int .i64 ((k:Int)+1)/\k<=u.length/\Hid ((u.take k).all Co=true)) (fun i=>u.length+1 - (intOf i).toNat)
   case atStart=>exact⟨0,rfl,ag _,by simp[Hid]⟩
   case round=>
    obtain⟨k,rfl,hk,hin⟩:=hrel;by_cases hlt:k<u.length
    ·have hg:∀h,(c::(u++[d]))[k+1]'h=u[k]:=by intro h;simp[List.getElem_append_left hlt]
     have Hts:=Aa (Bx u k hlt);have Hmem:=Aa (ae hlt);have hx:=(u[k]).toNat_lt;generalize u[k]=x at hg Hts Hmem hx;by_cases ht:Co x=true
     ·have Hin:=Aa (show (u.take (k+1)).all Co=true by rw[Hts.o,List.all_append,hin.o];simp[ht]);have h3:x=32\/(x.toNat≠32/\48<=x.toNat/\x.toNat<=57)\/(57<x.toNat/\97<=x.toNat/\x.toNat<=122):=by
       unfold Co at ht;simp only[Bool.or_eq_true]at ht;rcases ht with(h|h)|h
       ·have:=Km.1 h;exact .inr (.inr ⟨by omega,this⟩)
       ·have:=Dh.1 h;exact .inr (.inl ⟨by omega,this⟩)
       exact .inl aR
      clear ht;rcases h3 with h3|⟨h3,h4,h5⟩|⟨h3,h4,h5⟩
      ·have t3:((x.toNat:Int) != 32)=false:=by have:=Bs h3;simpa using this
       clear h3;go_wp2_with fail;go_round
       case rel=>exact⟨k+1,by go_num,by omega,Hin.o⟩
       case measure=>simp[intOf];omega
      ·have t3:((x.toNat:Int) != 32)=true:=fh;go_wp2_with fail;go_round
       case rel=>exact⟨k+1,by go_num,by omega,Hin.o⟩
       case measure=>simp[intOf];omega
      have t3:((x.toNat:Int) != 32)=true:=fh;go_wp2_with fail;go_round
      case rel=>exact⟨k+1,by go_num,by omega,Hin.o⟩
      case measure=>simp[intOf];omega
     have Hno:=Aa (show u.all Co=false by
      cases h:u.all Co with
      |false=>rfl
      |true=>exact absurd (List.all_eq_true.1 h _ Hmem.o) ht)
     have h32:x≠32:=by rintro rfl;exact ht rfl
     have t3:((x.toNat:Int) != 32)=true:=by have:=At h32;simpa using this
     have h3:x.toNat<48\/(57<x.toNat/\x.toNat<97)\/122<x.toNat:=by
      have a:¬Br x=true:=fun h=>ht (by simp[Co,h]);have b:¬Bm x=true:=fun h=>ht (by simp[Co,h]);rw[Km]at a;rw[Dh]at b;omega
     clear ht h32;rcases h3 with h3|⟨h3,h4⟩|h3;all_goals
      go_wp2_with fail;go_ret;exact⟨Eu (Da (by rw[Hf.o,Hc.o,Hd.o,Hfit.o,Hno.o];rfl)),rfl⟩
    ·have Hall:=Aa (show u.all Co=true by
      have:=hin.o;rwa [ar aG]at this)
     have hk2:k=u.length:=aG;subst hk2;go_wp2_with fail;go_ret;exact⟨Eu (Da (by rw[Hf.o,Hc.o,Hd.o,Hfit.o,Hall.o];rfl)),rfl⟩
  have t2:((d.toNat:Int) != 39)=true:=by have:=At hd39;simpa using this
  have Hd:=Aa (show decide (d=39)=false by simpa using hd39);clear hd39;go_enter func87,ntmps87;go_wp2_with fail;go_ret;exact⟨Eu (Da (by rw[Hf.o,Hd.o];simp)),rfl⟩
 have t1:((c.toNat:Int) != 39)=true:=by have:=At hc39;simpa using this
 have Hc:=Aa (show decide (c=39)=false by simpa using hc39);clear hc39;go_enter func87,ntmps87;go_wp2_with fail;go_ret;exact⟨Eu (Da (by rw[Hf.o,Hc.o];simp)),rfl⟩
section
variable {P:Program}
theorem Jh(w:World)(base:Nat)(t ty e:TypeId)(i:TypeInfo)(z:Value)(size bytes:Nat)(ht:P.underlying t=some (.slice e))(hi:P.info? e=some i)(hz:i.zero=some z)
  (hsize:i.size=size) (hby:i.bytes=bytes) (hzs:z.cells.size=size) (hsz:0<size)
  (v:Value) (n:Nat) (xs:List Value) (hown:w.ownsRow base e size v n xs)
  (a:Addr) (m c:Nat) (news:List Value) (hl:news.length=m*size) (hnews:∀j u,news[j]?=some u->w.cell? (a.add j)=some u) (h1:∀u∈news,u.oneCell'=true)
  (hm:0<m) (h63:n+m<=maxLen) (hbytes:(n+m)*bytes<=140737488355328) (hbase:base<=w.heap.size):
  ∃v' w',(Builtin.append_ #[t,t] ty #[v,.slice (some a) m c]).run P w=.ok v' w'/\w'.ownsRow base e size v' (n+m) (xs++news)/\w.grownBy w' v.ownBlock /\
   (v'.ownBlock=v.ownBlock\/∃k,v'.ownBlock=some k/\w.heap.size<=k):=by
 obtain⟨v',w',hr,h2,h3,_⟩:=run_append_own (P:=P) w base t ty e i z size bytes ht hi hz hsize hby hzs hsz v n xs hown a m c news hl hnews h1 h63 hbytes hbase;refine⟨v',w',hr,h2,h3,?_⟩;subst hsize;subst hby;have h63':n+m<=9223372036854775807:=by simp only[maxLen]at h63;omega
 rcases hown.2 with⟨rfl,rfl⟩|⟨g,cap,cur,rfl,hbg,hg,hnc,hcm,hcs,htake⟩
 ·have hq:=run_append_nil (P:=P) w t ty e i z ht hi hz a m c news hl hnews hm aG (by have hb:=hbytes;simp only[am]at hb;omega);exact lD
 by_cases hroom:n+m<=cap
 ·have hfit:n*i.size+news.length<=cur.size:=by rw[hl,hcs,<-Nat.add_mul];exact Nat.mul_le_mul_right _ hroom
  have hq:=run_append_room (P:=P) w t ty e i ht hi g n cap cur hg a m c news hl hnews h1 hroom hfit;rw[hq]at hr;injection hr with e1 _;subst e1;exact .inl rfl
 have holds:∀j u,xs[j]?=some u->w.cell? ((⟨g,0,none⟩:Addr).add j)=some u:=hown.cells (g:=g) rfl;have hq:=run_append_grow (P:=P) w t ty e i z ht hi hz ⟨g,0,none⟩ n cap xs hown.1 holds a m c news hl hnews aG aG (growslice_fits aG hbytes);exact lD
theorem Gq(w:World){ops:Array Oper}{rest:List Oper}{o:Oper}{a:Act}{Q:Exit->Act->World->Prop}(hgd:o.guard=none)(s x:Operand)(t:TypeId)
  (ho:o.op=.call {callee:=.builtin .append,args:=#[s,x],argTypes:=#[t,t]})
  (base:Nat) (e:TypeId) (z:Value) (bytes:Nat) (ht:P.underlying t=some (.slice e)) (hinfo:(P.info? e).map (fun i=>(i.zero,i.size,i.bytes))=some (some z,1,bytes))
  (hzs:z.cells.size=1) (W:World) (u:Value) (hw:w=W.alloc (.cells #[u] e)) (hu:u.oneCell'=true) (v:Value) (n:Nat) (xs:List Value) (hs:a.eval s=v) (hx:a.eval x=.slice (W,0) 1 1)
  (hown:W.ownsRow base e 1 v n xs)
  (h63:n+1<=maxLen) (hbytes:(n+1)*bytes<=140737488355328) (hbase:base<=W.heap.size)
  (h:∀v' w',w'.ownsRow base e 1 v' (n+1) (xs++[u])->W.grownBy w' v.ownBlock->(v'.ownBlock=v.ownBlock\/∃k,v'.ownBlock=some k/\W.heap.size<=k)->wpList P ops Q rest (a.put o.dst v') w'):wpList P ops Q (o::rest) a w:=by
 subst hw;obtain⟨i0,hi,hz0,hz1,hz2⟩:=info_parts hinfo
 obtain⟨v',w',hrun,r1,r2,r3⟩:=Jh (P:=P) (W.alloc (.cells #[u] e)) base t o.type e i0 z 1 bytes ht hi hz0 hz1 hz2 hzs aJ v n xs (hown.alloc _) ⟨W.heap.size,0,none⟩ 1 1 [u] rfl (by
  intro j y hj;match j,hj with
  |0,hj=>simp at hj;subst hj;simp[Addr.add,World.cell?_alloc_new]) (by intro y hy;simp at hy;subst hy;exact hu) aJ h63 hbytes aO
 refine wpList_plain hgd fun K' hK'=>?_;unfold Oper.wp;simp[execOp,ho,resolve,invoke,builtin,hs,hx,hrun,Result.andThen];refine hK' _ _ (h v' w' r1 ?_ ?_)
 ·exact jJ
 rcases r3 with r3|⟨k,r3,r4⟩
 ·exact .inl r3
 exact .inr ⟨k,r3,by simp at r4;omega⟩
end
end
section
variable {P:Program}
theorem Kw(W:World){o:Oper}{a:Act}{K:Act->World->Prop}{Q:Exit->Act->World->Prop}(s x:Operand)(t:TypeId)
  (ho:o.op=.call {callee:=.builtin .append,args:=#[s,x],argTypes:=#[t,t]})
  (base:Nat) (e:TypeId) (z:Value) (k bytes:Nat) (ht:P.underlying t=some (.slice e)) (hinfo:(P.info? e).map (fun i=>(i.zero,i.size,i.bytes))=some (some z,k,bytes))
  (hzs:z.cells.size=k) (hk:0<k) (us:List Value) (hul:us.length=k) (hu:∀u∈us,u.oneCell'=true) (v:Value) (n:Nat) (xs:List Value) (hs:a.eval s=v) (hx:a.eval x=.slice (W,0) 1 1)
  (hown:W.ownsRow base e k v n xs) (h63:n+1<=maxLen) (hbytes:(n+1)*bytes<=140737488355328) (hbase:base<=W.heap.size)
  (h:∀v' w',w'.ownsRow base e k v' (n+1) (xs++us)->W.grownBy w' v.ownBlock->(v'.ownBlock=v.ownBlock\/∃k,v'.ownBlock=some k/\W.heap.size<=k)->K (a.put o.dst v') w'):Oper.wp P o a (W.alloc (.cells us.toArray e)) K Q:=by
 obtain⟨i0,hi,hz0,hz1,hz2⟩:=info_parts hinfo
 obtain⟨v',w',hrun,r1,r2,r3⟩:=Jh (P:=P) (W.alloc (.cells us.toArray e)) base t o.type e i0 z k bytes ht hi hz0 hz1 hz2 hzs hk v n xs (hown.alloc _) ⟨W.heap.size,0,none⟩ 1 1 us aG (by
  intro j y hj;have e1:(⟨W.heap.size,0,none⟩:Addr).add j=⟨W.heap.size,j,none⟩:=bi;rw[e1,World.cell?_alloc_new];simpa using hj) hu aJ h63 hbytes aO
 unfold Oper.wp;simp[execOp,ho,resolve,invoke,builtin,hs,hx,hrun,Result.andThen];refine h v' w' r1 ?_ ?_
 ·exact jJ
 rcases r3 with r3|⟨k,r3,r4⟩
 ·exact .inl r3
 exact .inr ⟨k,r3,by simp at r4;omega⟩
theorem Qb4(W:World){ops:Array Oper}{rest:List Oper}{o:Oper}{a:Act}{Q:Exit->Act->World->Prop}(hgd:o.guard=none)(s x:Operand)(t:TypeId)
  (ho:o.op=.call {callee:=.builtin .append,args:=#[s,x],argTypes:=#[t,t]})
  (base:Nat) (e:TypeId) (z:Value) (k bytes:Nat) (ht:P.underlying t=some (.slice e)) (hinfo:(P.info? e).map (fun i=>(i.zero,i.size,i.bytes))=some (some z,k,bytes))
  (hzs:z.cells.size=k) (hk:0<k) (us:List Value) (hul:us.length=k) (hu:∀u∈us,u.oneCell'=true) (v:Value) (n:Nat) (xs:List Value) (hs:a.eval s=v) (hx:a.eval x=.slice (W,0) 1 1)
  (hown:W.ownsRow base e k v n xs) (h63:n+1<=maxLen) (hbytes:(n+1)*bytes<=140737488355328) (hbase:base<=W.heap.size)
  (h:∀v' w',w'.ownsRow base e k v' (n+1) (xs++us)->W.grownBy w' v.ownBlock->(v'.ownBlock=v.ownBlock\/∃k,v'.ownBlock=some k/\W.heap.size<=k)->wpList P ops Q rest (a.put o.dst v') w'):wpList P ops Q (o::rest) a (W.alloc (.cells us.toArray e)):=
 wpList_plain hgd fun K' hK'=>Kw W s x t ho base e z k bytes ht hinfo hzs hk us hul hu v n xs hs hx hown h63 hbytes hbase fun v' w' h1 h2 h3=>hK' _ _ (h v' w' h1 h2 h3)
end
end Go.Proofs.YtkigmebejmmikaaGreatDoor
