/- Texts joined. Conditions: as each theorem names them. -/
import Derived.Maps.OwnSet
import Derived.Maps.OwnOps
import Derived.StringKeys
import Derived.Shelf.Strings.SlTrimAscii
import Derived.Shelf.Strings.Prefix
import Derived.Shelf.Strings.Search3
import Derived.Shelf.Strings.Count
import Derived.Shelf.Strings.OnBuilder
import Derived.Test.YtpjijpcemejlnaaGreatDoorProg
import Derived.Lib.IndexLaws
import Derived.Deep.RegionWith
import Derived.Deep.MidRow
import Derived.Deep.AppendLies
import Derived.Shelf.SlSortCmp.SmallK
import Derived.Shelf.SlicesE.Clone
import Derived.Shelf.Small.Bits
import Derived.Ground.SlsfProg
import Derived.Lib.Builder
import Derived.Lib.AppendStr
import Derived.Lib.UnsafeStr
import Derived.Lib.MakeNoZero
import Derived.Laws.Externs
import Derived.Laws.BitsLemmas
import Derived.RegionTactic
import Derived.Laws.AppendOwnNone
import Derived.Laws.Append
import Derived.Deep.DeepAppendRoom
import Derived.Deep.DeepAppendWide
import Derived.Test.YtpjijpcemejlnaaGreatDoorM04
set_option maxRecDepth 100000
set_option maxHeartbeats 32000000
set_option linter.unusedVariables false
set_option linter.unusedSimpArgs false
namespace Go.Proofs.YtpjijpcemejlnaaGreatDoor
open Go.RowKit Go.Proofs.Tryz
section
variable {α β:Type}
def No(k:α->List UInt8)(x:α):List α->List α
 |[]=>[x]
 |y::l=>if k y<k x then y::No k x l else x::y::l
def Gd(k:α->List UInt8)(l:List α):List α:=l.foldl (fun a x=>No k x a) []
theorem Yl(k:α->List UInt8)(l:List α)(x:α):Gd k (l++[x])=No k x (Gd k l):=by simp[Gd]
theorem Se(k:α->List UInt8)(x:α):∀l,(No k x l).Perm (x::l)
 |[]=>List.Perm.refl _
 |y::l=>by
  unfold No
  split
  ·exact((Se k x l).cons y).trans (List.Perm.swap x y l)
  exact List.Perm.refl _
theorem Xg(k:α->List UInt8):∀(l a:List α),(l.foldl (fun a x=>No k x a) a).Perm (l++a)
 |[],a=>List.Perm.refl _
 |x::l,a=>by
  refine(Xg k l (No k x a)).trans ?_
  refine((Se k x a).append_left l).trans ?_
  exact List.perm_middle
theorem Gu(k:α->List UInt8)(l:List α):(Gd k l).Perm l:=by
 have:=Xg k l []
 rwa [List.append_nil]at this
theorem Qb6(k:α->List UInt8)(kb:β->List UInt8)(f:α->β)(h:∀x,kb (f x)=k x)(x:α):∀l,No kb (f x) (l.map f)=(No k x l).map f
 |[]=>rfl
 |y::l=>by
  unfold No
  rw[List.map_cons]
  simp only[h]
  split
  ·rw[Qb6 k kb f h x l];rfl
  rfl
theorem Qb1(k:α->List UInt8)(kb:β->List UInt8)(f:α->β)(h:∀x,kb (f x)=k x)(l:List α):Gd kb (l.map f)=(Gd k l).map f:=by
 have:∀(l a:List α),(l.map f).foldl (fun a x=>No kb x a) (a.map f)=(l.foldl (fun a x=>No k x a) a).map f:=by
  intro l
  induction l with
  |nil=>intro a;rfl
  |cons x l ih=>intro a;rw[List.map_cons,List.foldl_cons,List.foldl_cons,Qb6 k kb f h,ih]
 exact this l []
theorem Sk(k:α->List UInt8)(x:α):∀l,l.Pairwise (fun a b=>k a<=k b)->(No k x l).Pairwise fun a b=>k a<=k b
 |[],_=>List.pairwise_singleton _ _
 |y::l,h=>by
  rw[List.pairwise_cons]at h
  unfold No
  split
  ·rename_i hlt
   refine List.pairwise_cons.2 ⟨fun z hz=>?_,Sk k x l h.2⟩
   rcases List.mem_cons.1 ((Se k x l).mem_iff.1 hz)with rfl|hz
   ·exact List.le_of_lt hlt
   exact h.1 z hz
  rename_i hlt
  have hle:k x<=k y:=List.not_lt.1 hlt
  refine List.pairwise_cons.2 ⟨fun z hz=>?_,List.pairwise_cons.2 h⟩
  rcases List.mem_cons.1 hz with rfl|hz
  ·exact hle
  exact List.le_trans hle (h.1 z hz)
theorem Sn(k:α->List UInt8)(l:List α):(Gd k l).Pairwise fun a b=>k a<=k b:=by
 have:∀(l a:List α),a.Pairwise (fun a b=>k a<=k b)->(l.foldl (fun a x=>No k x a) a).Pairwise fun a b=>k a<=k b:=by
  intro l
  induction l with
  |nil=>intro a h;exact h
  |cons x l ih=>intro a h;exact ih _ (Sk k x a h)
 exact this l [] List.Pairwise.nil
theorem Qeu(k:α->List UInt8){l m:List α}(hm:m.Perm l)(hs:m.Pairwise fun a b=>k a<=k b)(hd:∀a∈l,∀b∈l,k a=k b->a=b):m=Gd k l:=
 List.Perm.eq_of_pairwise (le:=fun a b=>k a<=k b) (fun a b ha hb h1 h2=>hd a (hm.mem_iff.1 ha) b ((Gu k l).mem_iff.1 hb) (List.le_antisymm h1 h2)) hs (Sn k l) (hm.trans (Gu k l).symm)
theorem Zl(k:α->List UInt8)(x:α):∀(l:List α) (n:Nat),n<=l.length->(∀y∈l.take n,k y<k x)->(∀h:n<l.length,¬k l[n]<k x)->No k x l=l.take n++x::l.drop n
 |[],n,hn,_,_=>by simp at hn;subst hn;rfl
 |y::l,0,_,_,h=>by
  have:=h (by simp)
  simp only[List.getElem_cons_zero]at this
  rw[No,if_neg this];rfl
 |y::l,n+1,hn,h1,h2=>by
  rw[No,if_pos (h1 y (by simp)),Zl k x l n (by simpa using hn) (fun z hz=>h1 z (by simp[hz])) (fun h=>by have:=h2 (by simpa using h);rwa [List.getElem_cons_succ]at this)]
  rfl
end
def Da(S:List Ty)(k:Kd)(g:Nat):List UInt8:=match Bw S k.name with
 |some t=>(match Bf t.fields g with|some f=>f.name|none=>[])
 |none=>[]
theorem H9{S:List Ty}{k:Kd}{t:Ty}{f:Fd}(ht:Bw S k.name=some t)(hf:Bf t.fields f.tag=some f):Da S k f.tag=f.name:=by unfold Da;rw[ht];simp only;rw[hf]
theorem Qgd{st:UInt8}:∀{fs:List Fd},Fds st fs->∀f∈fs,∀g∈fs,f.name=g.name->f=g:=by
 intro fs h f hf g hg e
 have hp:=h.2
 obtain⟨i,hi,rfl⟩:=List.getElem_of_mem hf
 obtain⟨j,hj,rfl⟩:=List.getElem_of_mem hg
 rw[List.pairwise_iff_getElem]at hp
 rcases Nat.lt_trichotomy i j with h1|h1|h1
 ·exact absurd e (hp i j hi hj h1).1
 ·subst h1;rfl
 exact absurd e.symm (hp j i hj hi h1).1
def byN(S:List Ty)(k:Kd)(ks:List Vl):List Vl:=Gd (fun y=>Da S k y.tag) ks
def Qb2(S:List Ty)(k:Kd)(v:Vl):List UInt8:=Ar 44 ((byN S k v.kids).map fun y=>Da S k y.tag)
theorem Yo{S:List Ty}(hS:∀t∈S,Ek t){k:Kd}{t:Ty}(ht:Bw S k.name=some t){fs:List (Fd × Vl)}(hf:∀p∈fs,Bf t.fields p.1.tag=some p.1)(hp:fs.Pairwise fun p q=>p.1.tag<q.1.tag):
  ∀a∈fs.map Dk,∀b∈fs.map Dk,Da S k a.tag=Da S k b.tag->a=b:=by
 intro a ha b hb e
 obtain⟨p,hp1,rfl⟩:=List.mem_map.1 ha
 obtain⟨q,hq1,rfl⟩:=List.mem_map.1 hb
 have e1:Da S k p.1.tag=p.1.name:=H9 ht (hf p hp1)
 have e2:Da S k q.1.tag=q.1.name:=H9 ht (hf q hq1)
 have e3:Da S k p.1.tag=Da S k q.1.tag:=e
 rw[e1,e2]at e3
 have e4:=Qgd (hS t (Bv ht).1).2.2.1 p.1 (Cd (hf p hp1)).2 q.1 (Cd (hf q hq1)).2 e3
 obtain⟨i,hi,rfl⟩:=List.getElem_of_mem hp1
 obtain⟨j,hj,rfl⟩:=List.getElem_of_mem hq1
 rw[List.pairwise_iff_getElem]at hp
 have:i=j:=by
  rcases Nat.lt_trichotomy i j with h1|h1|h1
  ·have:=hp i j hi hj h1;rw[e4]at this;omega
  ·exact h1
  have:=hp j i hj hi h1;rw[e4]at this;omega
 subst this
 rfl
def Ma(S:List Ty)(k:Kd)(v:Vl):Option (List UInt8):=if v.what=82 then some (Qb2 S k v)else none
def vlB(o:Option (List Ty × Kd))(x:List UInt8)(f:List Ty->Kd->Vl->Option (List UInt8)):Option (List UInt8):=match o with
 |some y=>(J1 y.1 y.2 x).bind (f y.1 y.2)
 |none=>none
theorem Qaf{S:List Ty}(hS:∀t∈S,Ek t){k:Kd}{t:Ty}(ht:Bw S k.name=some t){fs:List (Fd × Vl)}(hf:∀p∈fs,Bf t.fields p.1.tag=some p.1)(hp:fs.Pairwise fun p q=>p.1.tag<q.1.tag):fs.length<=8:=by
 have h8:=(hS t (Bv ht).1).2.2.2.1
 have:∀(l m:List Fd),l.Nodup->(∀x∈l,x∈m)->l.length<=m.length:=by
  intro l
  induction l with
  |nil=>simp
  |cons x l ih=>
   intro m hn hs
   have hx:=hs x (by simp)
   have:=ih (m.erase x) (List.nodup_cons.1 hn).2 (fun y hy=>(List.mem_erase_of_ne (by rintro rfl;exact(List.nodup_cons.1 hn).1 hy)).2 (hs y (by simp[hy])))
   rw[List.length_erase_of_mem hx]at this
   have:=List.length_pos_of_mem hx
   simp only[List.length_cons];omega
 have h0:=this (fs.map (·.1)) t.fields (by
  rw[List.Nodup,List.pairwise_map]
  exact hp.imp fun h e=>by rw[e]at h;omega) (fun x hx=>by
  obtain⟨p,hp,rfl⟩:=List.mem_map.1 hx
  exact(Cd (hf p hp)).2)
 rw[List.length_map]at h0
 omega
theorem Qhy(S:List Ty)(k:Kd)(ks:List Vl)(T:Vl->List UInt8):Gd (·.1) ((ks.map fun y=>Da S k y.tag).zip (ks.map T))=(byN S k ks).map fun y=>(Da S k y.tag,T y):=by
 rw[List.zip_map',byN]
 exact Qb1 (fun y=>Da S k y.tag) (·.1) (fun y=>(Da S k y.tag,T y)) (fun _=>rfl) ks
def Tz(o:Option (List Ty × Kd))(x:List UInt8):Option Vl:=match o with
 |some y=>J1 y.1 y.2 x
 |none=>none
theorem Rx{s d x:List UInt8}{v:Vl}(h:Tz (C0 s d) x=some v):∃S k,C0 s d=some (S,k)/\Nn S/\Cu k/\B9 S k/\Bn k=d/\Gy S 12 k v/\Bh v=x/\x.length<=400:=by
 cases hb:C0 s d with
 |none=>rw[hb]at h;cases h
 |some y=>
  obtain⟨S,k⟩:=y
  rw[hb]at h
  obtain⟨g1,_,_,g4,g5,g6⟩:=M5 hb
  obtain⟨h1,h2,h3⟩:=(Mz g1.1.1 g4).1 h
  exact⟨S,k,rfl,g1,g4,g6,g5,h1,h2,h3⟩
theorem Qc0{S:List Ty}(hS:∀t∈S,Ek t){d:Nat}{k:Kd}{v:Vl}(h:Gy S (d+1) k v)(h82:v.what=82):
  ∃L,Qb2 S k v=Ar 44 L/\L.Pairwise (· < ·)/\(∀p∈L,p≠[]/\44∉p/\p.length<=3)/\L.length<=8:=by
 cases h with
 |n=>exact absurd h82 (by simp[Vl.what])
 |t=>exact absurd h82 (by simp[Vl.what])
 |f=>exact absurd h82 (by simp[Vl.what])
 |lst=>exact absurd h82 (by simp[Vl.what])
 |non=>exact absurd h82 (by simp[Vl.what])
 |som=>exact absurd h82 (by simp[Vl.what])
 |enm=>exact absurd h82 (by simp[Vl.what])
 |uni=>exact absurd h82 (by simp[Vl.what])
 |@rcd _ _ t fs hs hbs ht h2 hf h hn hp=>
  have hperm:=Gu (fun y:Vl=>Da S k y.tag) (fs.map Dk)
  refine⟨(byN S k (fs.map Dk)).map fun y=>Da S k y.tag,rfl,?_,fun p hp=>?_,?_⟩
  ·rw[List.pairwise_map]
   have h1:=Sn (fun y:Vl=>Da S k y.tag) (fs.map Dk)
   have h3:(byN S k (fs.map Dk)).Pairwise fun a b=>Da S k a.tag≠Da S k b.tag:=by
    refine hperm.symm.pairwise ?_ (fun {a b} h e=>h e.symm)
    rw[List.pairwise_map]
    refine List.Pairwise.imp_of_mem (fun {p q} hp1 hq1 h e=>?_) hp
    have:=Yo hS ht hf hp _ (List.mem_map_of_mem hp1) _ (List.mem_map_of_mem hq1) e
    have h2:p.1.tag=q.1.tag:=congrArg Vl.tag this
    omega
   refine(h1.and h3).imp fun {a b} ⟨h4,h5⟩=>?_
   rcases List.le_iff_lt_or_eq.1 h4 with h6|h6
   ·exact h6
   exact absurd h6 h5
  ·obtain⟨y,hy,rfl⟩:=List.mem_map.1 hp
   obtain⟨q,hq,rfl⟩:=List.mem_map.1 (hperm.mem_iff.1 hy)
   have hfo:=((hS t (Bv ht).1).2.2.1.1 q.1 (Cd (hf q hq)).2).2.2.1
   obtain⟨h1,h3,h4⟩:=Dp.1 hfo
   show Da S k q.1.tag≠[]/\_
   show Da S k q.1.tag≠[]/\44∉Da S k q.1.tag/\(Da S k q.1.tag).length<=3
   rw[H9 ht (hf q hq)]
   refine⟨fun e=>by rw[e]at h1;simp at h1,fun h=>?_,h3⟩
   have:=J7.1 (h4 44 h)
   revert this
   decide
  rw[List.length_map,byN,hperm.length_eq,List.length_map]
  exact Qaf hS ht hf hp
theorem Qc4{s d x t:List UInt8}(h:vlB (C0 s d) x Ma=some t):∃L,t=Ar 44 L/\L.Pairwise (· < ·)/\(∀p∈L,p≠[]/\44∉p/\p.length<=3)/\L.length<=8:=by
 cases hb:C0 s d with
 |none=>rw[hb]at h;cases h
 |some y=>
  rw[hb]at h
  cases hv:J1 y.1 y.2 x with
  |none=>simp[vlB,hv]at h
  |some v=>
   have h:Ma y.1 y.2 v=some t:=by simpa [vlB,hv]using h
   unfold Ma at h
   split at h
   ·rename_i h82
    injection h with h
    obtain⟨S,k,e,hok,_,_,_,hvok,_⟩:=Rx (s:=s) (d:=d) (x:=x) (v:=v) (by rw[hb];exact hv)
    rw[hb]at e
    injection e with e
    subst e
    rw[<-h]
    exact Qc0 hok.1.1 hvok h82
   cases h
def Qju(L:List (List UInt8)):Prop:=L.Pairwise (· < ·)/\∀p∈L,p≠[]
theorem Qju.next{ps qs:List (List UInt8)}{p:List UInt8}(h:Qju (ps++p::qs)):ps.getLast?.getD []<p:=by
 cases ps with
 |nil=>
  have:=h.2 p (by simp)
  cases p with
  |nil=>exact absurd rfl this
  |cons c p=>exact List.nil_lt_cons c p
 |cons q ps=>
  have h1:=(List.pairwise_append.1 h.1).2.2
  rw[List.getLast?_eq_some_getLast (by simp)]
  exact h1 _ (List.getLast_mem _) p (by simp)
theorem Bj.ownK{w:World}{base k:Nat}{e:TypeId}{v:Value}{n:Nat}{xs:List Value}(h:w.ownsRow base e k v n xs)(hle:n*k<=maxLen):∃A c,v=.slice A n c/\Bj w A (n*k) xs:=by
 have h1:=h.1;rcases h.2 with⟨rfl,rfl⟩|⟨g,cap,cur,rfl,hb,hh,hnc,hcm,hcs,htk⟩
 ·exact⟨none,0,rfl,by omega,by omega,fun h=>absurd h aH⟩
 refine⟨some ⟨g,0,none⟩,cap,rfl,by omega,hle,fun hn=>⟨g,0,rfl,(h.lt g rfl).2,fun j u hu=>?_⟩⟩;have:=h.cells (g:=g) rfl j u hu;have e1:(⟨g,0,none⟩:Addr).add j=⟨g,0+j,none⟩:=bv;rwa [e1]at this
section
variable {P:Program}
theorem Qbo(w:World){ops:Array Oper}{rest:List Oper}{o:Oper}{a:Act}{Q:Exit->Act->World->Prop}(hgd:o.guard=none)(s x:Operand)(t:TypeId)
  (ho:o.op=.call {callee:=.builtin .append,args:=#[s,x],argTypes:=#[t,t]})
  (base:Nat) (e:TypeId) (z:Value) (k bytes:Nat) (ht:P.underlying t=some (.slice e)) (hinfo:(P.info? e).map (fun i=>(i.zero,i.size,i.bytes))=some (some z,k,bytes))
  (hzs:z.cells.size=k) (hk:0<k) (W:World) (us:List Value) (hul:us.length=k) (hw:w=W.alloc (.cells us.toArray e)) (hu:∀u∈us,u.oneCell'=true) (v:Value) (n:Nat) (xs:List Value) (hs:a.eval s=v) (hx:a.eval x=.slice (W,0) 1 1)
  (hown:W.ownsRow base e k v n xs)
  (h63:n+1<=maxLen) (hbytes:(n+1)*bytes<=140737488355328) (hbase:base<=W.heap.size)
  (h:∀v' w',w'.ownsRow base e k v' (n+1) (xs++us)->Below base W w'->wpList P ops Q rest (a.put o.dst v') w'):wpList P ops Q (o::rest) a w:=by
 subst hw;obtain⟨i0,hi,hz0,hz1,hz2⟩:=info_parts hinfo;refine wpList_append_own _ hgd s x t ho base e i0 z k bytes ht hi hz0 hz1 hz2 hzs hk v n xs hs (hown.alloc _) ⟨W.heap.size,0,none⟩ 1 1 us hx aH ?_ hu h63 hbytes ?_ ?_
 ·exact gZ
 ·exact iy
 intro v' w' h1 h2 _;exact h v' w' h1 (((At base W).alloc hbase _).grown h2 aN (fun k hk=>(hown.lt k hk).1))
end
theorem Qjl:(prog.info? 94).map (fun i=>(i.zero,i.size,i.bytes))=some (some sf0,4,56):=aP
theorem Tryz.infoSt:(prog.info? 90).map (fun i=>(i.zero,i.size,i.bytes))=some (some (.agg #[.int .u8 0,aa,.slice none 0 0]),3,48):=aP
section
open Go.Maps (Keyed)
def Pf(v:Value):Option (DataW Value × List MemPlace):=some (.held v,[])
def Dm(P:Program)(k:TypeId)(z:Value)(w:World)(b n:Nat)(F:Lit->Value):Prop:=
 ∃D:DataW Value,w.ownsMap P k Pf b n D/\Go.Maps.IsMap D/\∀l,WideAt.IsKeyLit l->D.atKey l (.held z)=.held (F l)
section
variable {P:Program} {k:TypeId} {z:Value} {w w':World} {b n:Nat} {F:Lit->Value}
theorem Dm.made(w:World)(P:Program)(k:TypeId)(z:Value):Dm P k z (w.alloc (.map #[] 0)) w 0 (fun _=>z):=
 ⟨.map [],World.ownsMap_made w P k Pf,Go.Maps.isMap_empty,fun l _=>rfl⟩
theorem Dm.lt(h:Dm P k z w b n F):b<w.heap.size:=by
 obtain⟨D,h1,_⟩:=h;exact h1.lt
theorem Dm.kept{row:Option Nat}(h:Dm P k z w b n F)(hg:w.grownBy w' row)(hne:some b≠row):Dm P k z w' b n F:=by
 obtain⟨D,h1,h2⟩:=h;exact⟨D,h1.kept hg hne,h2⟩
theorem Dm.below(h:Dm P k z w b n F)(hb:Below w w w'):Dm P k z w' b n F:=
 h.kept (row:=none) ⟨hb.os,hb.tape,hb.output,hb.size,fun k hk _=>hb.block k hk⟩ aM
theorem Dm.belowAt{B:Nat}(h:Dm P k z w b n F)(hlt:b<B)(hb:Below B w w'):Dm P k z w' b n F:=by
 obtain⟨D,⟨es,clock,h1,h2,h3,h4⟩,h5⟩:=h;exact⟨D,⟨es,clock,(hb.block b hlt).trans h1,h2,h3,h4⟩,h5⟩
theorem Dm.alloc(h:Dm P k z w b n F)(o:Obj):Dm P k z (w.alloc o) b n F:=h.below ((At _ _).alloc (Ao _) o)
theorem Dm.drew(h:Dm P k z w b n F):Dm P k z w.drew b n F:=h
theorem Dm.mono(h:Dm P k z w b n F){n':Nat}(hn:n<=n'):Dm P k z w b n' F:=by
 obtain⟨D,h1,h2⟩:=h;exact⟨D,h1.mono hn,h2⟩
theorem Dm.of_eq{G:Lit->Value}(h:Dm P k z w b n F)(e:∀l,WideAt.IsKeyLit l->F l=G l):Dm P k z w b n G:=by
 obtain⟨D,h1,h2,h3⟩:=h;exact⟨D,h1,h2,fun l hl=>by rw[h3 l hl,e l hl]⟩
theorem Dm.lookup{t e:TypeId}(h:Dm P k z w b n F)(K:Keyed P k)(ht:P.underlying t=some (.map k e))(hz:(zeroValue e).run P w=.ok z w){key:Value}{kl:Lit}(hkey:keyOf P k key=some kl):
  (Instr.lookup t (.map (some b)) key false).run P w=.ok (F kl) w:=by
 obtain⟨D,h1,h2,h3⟩:=h;obtain⟨v,ps,hrun,hv⟩:=h1.lookup K ht hz (show Pf z=some (.held z,[])from rfl) hkey;rw[h3 kl (K.key hkey)]at hv;simp only[Pf,ak,aE,DataW.held.injEq]at hv;rw[hrun,hv.1]
theorem Dm.store{t e:TypeId}(h:Dm P k z w b n F)(K:Keyed P k)(ht:P.underlying t=some (.map k e))(hn:n<maxLen){key:Value}(val:Value){kl:Lit}(hkey:keyOf P k key=some kl):
  ∃w',(Instr.mapUpdate t (.map (some b)) key val).run P w=.ok () w'/\Dm P k z w' b (n+1) (fun l=>if l.sameKey kl=true then val else F l)/\w.grownBy w' (some b):=by
 obtain⟨D,h1,h2,h3⟩:=h;obtain⟨w',hrun,r1,r2⟩:=h1.update K ht hn hkey (show Pf val=some (.held val,[])from rfl);refine⟨w',hrun,⟨_,r1,h2.put _ _,fun l hl=>?_⟩,r2⟩;by_cases e:l=kl
 ·subst e;rw[Go.Maps.atKey_put_same h2 hl];simp[WideAt.sameKey_self hl]
 rw[Go.Maps.atKey_put_other e,h3 l hl];simp[show l.sameKey kl=false from Go.Maps.sameKey_ne e]
end
end
end Go.Proofs.YtpjijpcemejlnaaGreatDoor
namespace Go.Proofs
open Go.Shelf
def Tryz.lays160_ren:Go.Shelf.Ren:=⟨fun|160=>173|232=>198|231=>167|227=>168|234=>199|233=>169|236=>200|235=>170|228=>195|271=>215|151=>197|197=>196|120=>223|152=>214|260=>213|137=>221|119=>222|224=>208|225=>207|217=>206|266=>217|n=>n,fun|9=>9|4=>4|3=>3|5=>5|117=>216|116=>215|0=>0|124=>219|21=>21|105=>238|46=>195|119=>255|139=>258|138=>257|n=>n,fun|3=>1|4=>2|n=>n⟩
theorem Tryz.lays160:Go.Proofs.Lays.n160 Tryz.prog Tryz.lays160_ren:={
 mixed:=by kernel_rfl
 f119:=Tryz.func222.trans (congrArg some (by kernel_rfl))
 f120:=Tryz.func223.trans (congrArg some (by kernel_rfl))
 f137:=Tryz.func221.trans (congrArg some (by kernel_rfl))
 f151:=Tryz.func197.trans (congrArg some (by kernel_rfl))
 f152:=Tryz.func214.trans (congrArg some (by kernel_rfl))
 f160:=Tryz.func173.trans (congrArg some (by kernel_rfl))
 f197:=Tryz.func196.trans (congrArg some (by kernel_rfl))
 f217:=Tryz.func206.trans (congrArg some (by kernel_rfl))
 f224:=Tryz.func208.trans (congrArg some (by kernel_rfl))
 f225:=Tryz.func207.trans (congrArg some (by kernel_rfl))
 f227:=Tryz.func168.trans (congrArg some (by kernel_rfl))
 f228:=Tryz.func195.trans (congrArg some (by kernel_rfl))
 f231:=Tryz.func167.trans (congrArg some (by kernel_rfl))
 f232:=Tryz.func198.trans (congrArg some (by kernel_rfl))
 f233:=Tryz.func169.trans (congrArg some (by kernel_rfl))
 f234:=Tryz.func199.trans (congrArg some (by kernel_rfl))
 f235:=Tryz.func170.trans (congrArg some (by kernel_rfl))
 f236:=Tryz.func200.trans (congrArg some (by kernel_rfl))
 f260:=Tryz.func213.trans (congrArg some (by kernel_rfl))
 f266:=Tryz.func217.trans (congrArg some (by kernel_rfl))
 f271:=Tryz.func215.trans (congrArg some (by kernel_rfl))
 t0:=Tryz.underlying0
 a0:=Tryz.isAgg0
 z0:=Tryz.sizeOf0
 v0:=Tryz.zeroValue0
 t3:=Tryz.underlying3
 a3:=Tryz.isAgg3
 z3:=Tryz.sizeOf3
 v3:=Tryz.zeroValue3
 t4:=Tryz.underlying4
 a4:=Tryz.isAgg4
 z4:=Tryz.sizeOf4
 v4:=Tryz.zeroValue4
 t5:=Tryz.underlying5
 a5:=Tryz.isAgg5
 z5:=Tryz.sizeOf5
 v5:=Tryz.zeroValue5
 t9:=Tryz.underlying9
 a9:=Tryz.isAgg9
 z9:=Tryz.sizeOf9
 v9:=Tryz.zeroValue9
 t21:=Tryz.underlying21
 a21:=Tryz.isAgg21
 z21:=Tryz.sizeOf21
 v21:=Tryz.zeroValue21
 t46:=Tryz.underlying195
 a46:=Tryz.isAgg195
 z46:=Tryz.sizeOf195
 v46:=Tryz.zeroValue195
 t105:=Tryz.underlying238
 a105:=Tryz.isAgg238
 z105:=Tryz.sizeOf238
 v105:=Tryz.zeroValue238
 t116:=Tryz.underlying215
 a116:=Tryz.isAgg215
 z116:=Tryz.sizeOf215
 t117:=Tryz.underlying216
 a117:=Tryz.isAgg216
 z117:=Tryz.sizeOf216
 v117:=Tryz.zeroValue216
 t119:=Tryz.underlying255
 a119:=Tryz.isAgg255
 z119:=Tryz.sizeOf255
 t124:=Tryz.underlying219
 a124:=Tryz.isAgg219
 z124:=Tryz.sizeOf219
 v124:=Tryz.zeroValue219
 t138:=Tryz.underlying257
 a138:=Tryz.isAgg257
 z138:=Tryz.sizeOf257
 v138:=Tryz.zeroValue257
 t139:=Tryz.underlying258
 a139:=Tryz.isAgg258
 z139:=Tryz.sizeOf258
 v139:=Tryz.zeroValue258
 g3:=by kernel_rfl
 g4:=by kernel_rfl}
def Tryz.lays161_ren:Go.Shelf.Ren:=⟨fun|161=>137|231=>167|227=>168|233=>169|235=>170|228=>195|197=>196|151=>197|260=>213|152=>214|137=>221|119=>222|224=>208|225=>207|217=>206|266=>217|n=>n,fun|9=>9|4=>4|3=>3|5=>5|117=>216|116=>215|0=>0|124=>219|105=>238|21=>21|119=>255|46=>195|139=>258|138=>257|n=>n,fun|3=>1|4=>2|n=>n⟩
theorem Tryz.lays161:Go.Proofs.Lays.n161 Tryz.prog Tryz.lays161_ren:={
 mixed:=by kernel_rfl
 f119:=Tryz.func222.trans (congrArg some (by kernel_rfl))
 f137:=Tryz.func221.trans (congrArg some (by kernel_rfl))
 f151:=Tryz.func197.trans (congrArg some (by kernel_rfl))
 f152:=Tryz.func214.trans (congrArg some (by kernel_rfl))
 f161:=Tryz.func137.trans (congrArg some (by kernel_rfl))
 f197:=Tryz.func196.trans (congrArg some (by kernel_rfl))
 f217:=Tryz.func206.trans (congrArg some (by kernel_rfl))
 f224:=Tryz.func208.trans (congrArg some (by kernel_rfl))
 f225:=Tryz.func207.trans (congrArg some (by kernel_rfl))
 f227:=Tryz.func168.trans (congrArg some (by kernel_rfl))
 f228:=Tryz.func195.trans (congrArg some (by kernel_rfl))
 f231:=Tryz.func167.trans (congrArg some (by kernel_rfl))
 f233:=Tryz.func169.trans (congrArg some (by kernel_rfl))
 f235:=Tryz.func170.trans (congrArg some (by kernel_rfl))
 f260:=Tryz.func213.trans (congrArg some (by kernel_rfl))
 f266:=Tryz.func217.trans (congrArg some (by kernel_rfl))
 t0:=Tryz.underlying0
 a0:=Tryz.isAgg0
 z0:=Tryz.sizeOf0
 v0:=Tryz.zeroValue0
 t3:=Tryz.underlying3
 a3:=Tryz.isAgg3
 z3:=Tryz.sizeOf3
 v3:=Tryz.zeroValue3
 t4:=Tryz.underlying4
 a4:=Tryz.isAgg4
 z4:=Tryz.sizeOf4
 v4:=Tryz.zeroValue4
 t5:=Tryz.underlying5
 a5:=Tryz.isAgg5
 z5:=Tryz.sizeOf5
 v5:=Tryz.zeroValue5
 t9:=Tryz.underlying9
 a9:=Tryz.isAgg9
 z9:=Tryz.sizeOf9
 v9:=Tryz.zeroValue9
 t21:=Tryz.underlying21
 a21:=Tryz.isAgg21
 z21:=Tryz.sizeOf21
 v21:=Tryz.zeroValue21
 t46:=Tryz.underlying195
 a46:=Tryz.isAgg195
 z46:=Tryz.sizeOf195
 v46:=Tryz.zeroValue195
 t105:=Tryz.underlying238
 a105:=Tryz.isAgg238
 z105:=Tryz.sizeOf238
 v105:=Tryz.zeroValue238
 t116:=Tryz.underlying215
 a116:=Tryz.isAgg215
 z116:=Tryz.sizeOf215
 t117:=Tryz.underlying216
 a117:=Tryz.isAgg216
 z117:=Tryz.sizeOf216
 v117:=Tryz.zeroValue216
 t119:=Tryz.underlying255
 a119:=Tryz.isAgg255
 z119:=Tryz.sizeOf255
 t124:=Tryz.underlying219
 a124:=Tryz.isAgg219
 z124:=Tryz.sizeOf219
 v124:=Tryz.zeroValue219
 t138:=Tryz.underlying257
 a138:=Tryz.isAgg257
 z138:=Tryz.sizeOf257
 v138:=Tryz.zeroValue257
 t139:=Tryz.underlying258
 a139:=Tryz.isAgg258
 z139:=Tryz.sizeOf258
 v139:=Tryz.zeroValue258
 g3:=by kernel_rfl
 g4:=by kernel_rfl}
def Tryz.lays99_ren:Go.Shelf.Ren:=⟨fun|99=>138|206=>171|n=>n,fun|9=>9|4=>4|3=>3|n=>n,fun|n=>n⟩
theorem Tryz.lays99:Go.Proofs.Lays.n99 Tryz.prog Tryz.lays99_ren:={
 mixed:=by kernel_rfl
 f99:=Tryz.func138.trans (congrArg some (by kernel_rfl))
 f206:=Tryz.func171.trans (congrArg some (by kernel_rfl))
 t3:=Tryz.underlying3
 a3:=Tryz.isAgg3
 z3:=Tryz.sizeOf3
 v3:=Tryz.zeroValue3
 t4:=Tryz.underlying4
 a4:=Tryz.isAgg4
 z4:=Tryz.sizeOf4
 v4:=Tryz.zeroValue4
 t9:=Tryz.underlying9
 a9:=Tryz.isAgg9
 z9:=Tryz.sizeOf9
 v9:=Tryz.zeroValue9}
def Tryz.lays100_ren:Go.Shelf.Ren:=⟨fun|100=>139|207=>172|n=>n,fun|9=>9|4=>4|3=>3|n=>n,fun|n=>n⟩
theorem Tryz.lays100:Go.Proofs.Lays.n100 Tryz.prog Tryz.lays100_ren:={
 mixed:=by kernel_rfl
 f100:=Tryz.func139.trans (congrArg some (by kernel_rfl))
 f207:=Tryz.func172.trans (congrArg some (by kernel_rfl))
 t3:=Tryz.underlying3
 a3:=Tryz.isAgg3
 z3:=Tryz.sizeOf3
 v3:=Tryz.zeroValue3
 t4:=Tryz.underlying4
 a4:=Tryz.isAgg4
 z4:=Tryz.sizeOf4
 v4:=Tryz.zeroValue4
 t9:=Tryz.underlying9
 a9:=Tryz.isAgg9
 z9:=Tryz.sizeOf9
 v9:=Tryz.zeroValue9}
def Tryz.lays143_ren:Go.Shelf.Ren:=⟨fun|143=>192|219=>191|217=>206|225=>207|224=>208|267=>209|266=>217|314=>218|n=>n,fun|9=>9|3=>3|4=>4|5=>5|46=>195|146=>253|51=>231|n=>n,fun|1=>0|n=>n⟩
theorem Tryz.lays143:Go.Proofs.Lays.n143 Tryz.prog Tryz.lays143_ren:={
 mixed:=by kernel_rfl
 f143:=Tryz.func192.trans (congrArg some (by kernel_rfl))
 f217:=Tryz.func206.trans (congrArg some (by kernel_rfl))
 f219:=Tryz.func191.trans (congrArg some (by kernel_rfl))
 f224:=Tryz.func208.trans (congrArg some (by kernel_rfl))
 f225:=Tryz.func207.trans (congrArg some (by kernel_rfl))
 f266:=Tryz.func217.trans (congrArg some (by kernel_rfl))
 f267:=Tryz.func209.trans (congrArg some (by kernel_rfl))
 f314:=Tryz.func218.trans (congrArg some (by kernel_rfl))
 t3:=Tryz.underlying3
 a3:=Tryz.isAgg3
 z3:=Tryz.sizeOf3
 v3:=Tryz.zeroValue3
 t4:=Tryz.underlying4
 a4:=Tryz.isAgg4
 z4:=Tryz.sizeOf4
 v4:=Tryz.zeroValue4
 t5:=Tryz.underlying5
 a5:=Tryz.isAgg5
 z5:=Tryz.sizeOf5
 v5:=Tryz.zeroValue5
 t9:=Tryz.underlying9
 a9:=Tryz.isAgg9
 z9:=Tryz.sizeOf9
 v9:=Tryz.zeroValue9
 t46:=Tryz.underlying195
 a46:=Tryz.isAgg195
 z46:=Tryz.sizeOf195
 v46:=Tryz.zeroValue195
 t51:=Tryz.underlying231
 a51:=Tryz.isAgg231
 z51:=Tryz.sizeOf231
 v51:=Tryz.zeroValue231
 t146:=Tryz.underlying253
 a146:=Tryz.isAgg253
 z146:=Tryz.sizeOf253
 v146:=Tryz.zeroValue253
 g1:=by kernel_rfl}
def Tryz.lays144_ren:Go.Shelf.Ren:=⟨fun|144=>164|143=>192|219=>191|217=>206|225=>207|224=>208|267=>209|266=>217|314=>218|n=>n,fun|9=>9|4=>4|3=>3|5=>5|46=>195|146=>253|51=>231|n=>n,fun|1=>0|n=>n⟩
theorem Tryz.lays144:Go.Proofs.Lays.n144 Tryz.prog Tryz.lays144_ren:={
 mixed:=by kernel_rfl
 f143:=Tryz.func192.trans (congrArg some (by kernel_rfl))
 f144:=Tryz.func164.trans (congrArg some (by kernel_rfl))
 f217:=Tryz.func206.trans (congrArg some (by kernel_rfl))
 f219:=Tryz.func191.trans (congrArg some (by kernel_rfl))
 f224:=Tryz.func208.trans (congrArg some (by kernel_rfl))
 f225:=Tryz.func207.trans (congrArg some (by kernel_rfl))
 f266:=Tryz.func217.trans (congrArg some (by kernel_rfl))
 f267:=Tryz.func209.trans (congrArg some (by kernel_rfl))
 f314:=Tryz.func218.trans (congrArg some (by kernel_rfl))
 t3:=Tryz.underlying3
 a3:=Tryz.isAgg3
 z3:=Tryz.sizeOf3
 v3:=Tryz.zeroValue3
 t4:=Tryz.underlying4
 a4:=Tryz.isAgg4
 z4:=Tryz.sizeOf4
 v4:=Tryz.zeroValue4
 t5:=Tryz.underlying5
 a5:=Tryz.isAgg5
 z5:=Tryz.sizeOf5
 v5:=Tryz.zeroValue5
 t9:=Tryz.underlying9
 a9:=Tryz.isAgg9
 z9:=Tryz.sizeOf9
 v9:=Tryz.zeroValue9
 t46:=Tryz.underlying195
 a46:=Tryz.isAgg195
 z46:=Tryz.sizeOf195
 v46:=Tryz.zeroValue195
 t51:=Tryz.underlying231
 a51:=Tryz.isAgg231
 z51:=Tryz.sizeOf231
 v51:=Tryz.zeroValue231
 t146:=Tryz.underlying253
 a146:=Tryz.isAgg253
 z146:=Tryz.sizeOf253
 v146:=Tryz.zeroValue253
 g1:=by kernel_rfl}
def Tryz.lays138_ren:Go.Shelf.Ren:=⟨fun|138=>211|195=>219|218=>220|143=>192|219=>191|217=>206|225=>207|224=>208|267=>209|266=>217|314=>218|n=>n,fun|9=>9|3=>3|4=>4|5=>5|0=>0|46=>195|146=>253|51=>231|n=>n,fun|1=>0|n=>n⟩
theorem Tryz.lays138:Go.Proofs.Lays.n138 Tryz.prog Tryz.lays138_ren:={
 mixed:=by kernel_rfl
 f138:=Tryz.func211.trans (congrArg some (by kernel_rfl))
 f143:=Tryz.func192.trans (congrArg some (by kernel_rfl))
 f195:=Tryz.func219.trans (congrArg some (by kernel_rfl))
 f217:=Tryz.func206.trans (congrArg some (by kernel_rfl))
 f218:=Tryz.func220.trans (congrArg some (by kernel_rfl))
 f219:=Tryz.func191.trans (congrArg some (by kernel_rfl))
 f224:=Tryz.func208.trans (congrArg some (by kernel_rfl))
 f225:=Tryz.func207.trans (congrArg some (by kernel_rfl))
 f266:=Tryz.func217.trans (congrArg some (by kernel_rfl))
 f267:=Tryz.func209.trans (congrArg some (by kernel_rfl))
 f314:=Tryz.func218.trans (congrArg some (by kernel_rfl))
 t0:=Tryz.underlying0
 a0:=Tryz.isAgg0
 z0:=Tryz.sizeOf0
 v0:=Tryz.zeroValue0
 t3:=Tryz.underlying3
 a3:=Tryz.isAgg3
 z3:=Tryz.sizeOf3
 v3:=Tryz.zeroValue3
 t4:=Tryz.underlying4
 a4:=Tryz.isAgg4
 z4:=Tryz.sizeOf4
 v4:=Tryz.zeroValue4
 t5:=Tryz.underlying5
 a5:=Tryz.isAgg5
 z5:=Tryz.sizeOf5
 v5:=Tryz.zeroValue5
 t9:=Tryz.underlying9
 a9:=Tryz.isAgg9
 z9:=Tryz.sizeOf9
 v9:=Tryz.zeroValue9
 t46:=Tryz.underlying195
 a46:=Tryz.isAgg195
 z46:=Tryz.sizeOf195
 v46:=Tryz.zeroValue195
 t51:=Tryz.underlying231
 a51:=Tryz.isAgg231
 z51:=Tryz.sizeOf231
 v51:=Tryz.zeroValue231
 t146:=Tryz.underlying253
 a146:=Tryz.isAgg253
 z146:=Tryz.sizeOf253
 v146:=Tryz.zeroValue253
 g1:=by kernel_rfl}
def Tryz.lays219_ren:Go.Shelf.Ren:=⟨fun|219=>191|217=>206|225=>207|224=>208|267=>209|266=>217|314=>218|n=>n,fun|9=>9|3=>3|4=>4|5=>5|46=>195|146=>253|51=>231|n=>n,fun|1=>0|n=>n⟩
theorem Tryz.lays219:Go.Proofs.Lays.n219 Tryz.prog Tryz.lays219_ren:={
 mixed:=by kernel_rfl
 f217:=Tryz.func206.trans (congrArg some (by kernel_rfl))
 f219:=Tryz.func191.trans (congrArg some (by kernel_rfl))
 f224:=Tryz.func208.trans (congrArg some (by kernel_rfl))
 f225:=Tryz.func207.trans (congrArg some (by kernel_rfl))
 f266:=Tryz.func217.trans (congrArg some (by kernel_rfl))
 f267:=Tryz.func209.trans (congrArg some (by kernel_rfl))
 f314:=Tryz.func218.trans (congrArg some (by kernel_rfl))
 t3:=Tryz.underlying3
 a3:=Tryz.isAgg3
 z3:=Tryz.sizeOf3
 v3:=Tryz.zeroValue3
 t4:=Tryz.underlying4
 a4:=Tryz.isAgg4
 z4:=Tryz.sizeOf4
 v4:=Tryz.zeroValue4
 t5:=Tryz.underlying5
 a5:=Tryz.isAgg5
 z5:=Tryz.sizeOf5
 v5:=Tryz.zeroValue5
 t9:=Tryz.underlying9
 a9:=Tryz.isAgg9
 z9:=Tryz.sizeOf9
 v9:=Tryz.zeroValue9
 t46:=Tryz.underlying195
 a46:=Tryz.isAgg195
 z46:=Tryz.sizeOf195
 v46:=Tryz.zeroValue195
 t51:=Tryz.underlying231
 a51:=Tryz.isAgg231
 z51:=Tryz.sizeOf231
 v51:=Tryz.zeroValue231
 t146:=Tryz.underlying253
 a146:=Tryz.isAgg253
 z146:=Tryz.sizeOf253
 v146:=Tryz.zeroValue253
 g1:=by kernel_rfl}
def Tryz.lays156_ren:Go.Shelf.Ren:=⟨fun|156=>45|165=>82|166=>83|169=>84|240=>126|241=>127|276=>160|277=>161|n=>n,fun|31=>31|9=>9|3=>3|4=>4|0=>0|20=>20|72=>134|76=>138|70=>132|37=>22|75=>137|127=>180|164=>206|5=>5|80=>50|n=>n,fun|n=>n⟩
theorem Tryz.lays156:Go.Proofs.Lays.n156 Tryz.prog Tryz.lays156_ren:={
 mixed:=by kernel_rfl
 f156:=Tryz.func45.trans (congrArg some (by kernel_rfl))
 f165:=Tryz.func82.trans (congrArg some (by kernel_rfl))
 f166:=Tryz.func83.trans (congrArg some (by kernel_rfl))
 f169:=Tryz.func84.trans (congrArg some (by kernel_rfl))
 f240:=Tryz.func126.trans (congrArg some (by kernel_rfl))
 f241:=Tryz.func127.trans (congrArg some (by kernel_rfl))
 f276:=Tryz.func160.trans (congrArg some (by kernel_rfl))
 f277:=Tryz.func161.trans (congrArg some (by kernel_rfl))
 t0:=Tryz.underlying0
 a0:=Tryz.isAgg0
 z0:=Tryz.sizeOf0
 v0:=Tryz.zeroValue0
 t3:=Tryz.underlying3
 a3:=Tryz.isAgg3
 z3:=Tryz.sizeOf3
 v3:=Tryz.zeroValue3
 t4:=Tryz.underlying4
 a4:=Tryz.isAgg4
 z4:=Tryz.sizeOf4
 v4:=Tryz.zeroValue4
 t9:=Tryz.underlying9
 a9:=Tryz.isAgg9
 z9:=Tryz.sizeOf9
 v9:=Tryz.zeroValue9
 t20:=Tryz.underlying20
 a20:=Tryz.isAgg20
 z20:=Tryz.sizeOf20
 v20:=Tryz.zeroValue20
 t31:=Tryz.underlying31
 a31:=Tryz.isAgg31
 z31:=Tryz.sizeOf31
 v31:=Tryz.zeroValue31
 t37:=Tryz.underlying22
 a37:=Tryz.isAgg22
 z37:=Tryz.sizeOf22
 v37:=Tryz.zeroValue22
 t70:=Tryz.underlying132
 a70:=Tryz.isAgg132
 z70:=Tryz.sizeOf132
 v70:=Tryz.zeroValue132
 t72:=Tryz.underlying134
 a72:=Tryz.isAgg134
 z72:=Tryz.sizeOf134
 v72:=Tryz.zeroValue134
 t75:=Tryz.underlying137
 a75:=Tryz.isAgg137
 z75:=Tryz.sizeOf137
 v75:=Tryz.zeroValue137
 t76:=Tryz.underlying138
 a76:=Tryz.isAgg138
 z76:=Tryz.sizeOf138
 v76:=Tryz.zeroValue138
 t127:=Tryz.underlying180
 a127:=Tryz.isAgg180
 z127:=Tryz.sizeOf180
 v127:=Tryz.zeroValue180
 t164:=Tryz.underlying206
 a164:=Tryz.isAgg206
 z164:=Tryz.sizeOf206
 v164:=Tryz.zeroValue206}
end Go.Proofs
namespace Go.Proofs.YtpjijpcemejlnaaGreatDoor
open Go.RowKit Go.Proofs.Tryz
section
attribute [local go_sem] Qkk Qj0 Qjm Qhu ByteArray.mk_append_mk
theorem Nb(s cs:List UInt8)(w:World)(hcs:cs.length<4294967281)(ha:∀b∈cs,b.toNat<128):
  Calls prog 137 #[s,cs] w fun e w'=>e=.returned (.string ⟨(s.dropWhile (cs.contains ·)).toArray⟩)/\Below w w w':=
 Any.strings_TrimLeft_laid Tryz.lays161 aP ⟨s.toArray⟩ ⟨cs.toArray⟩ w hcs (fun j b h=>ha b (List.mem_of_getElem? h))
theorem Mc{p:UInt8->Bool}:∀{l:List UInt8},l.dropWhile p=[]↔l.all p=true
 |[]=>aM
 |x::l=>by
  have ih:=Mc (p:=p) (l:=l);by_cases h:p x=true
  ·simp only[List.dropWhile_cons,h,if_true,List.all_cons,Bool.true_and];exact ih
  simp[h]
theorem Qe0{l cs:List UInt8}:Lib.trimS l cs=[]↔l.all (cs.contains ·)=true:=by
 unfold Lib.trimS Lib.trimLeftS Lib.trimRightS;rw[Mc];have hsp:l.reverse.takeWhile (cs.contains ·)++l.reverse.dropWhile (cs.contains ·)=l.reverse:=List.takeWhile_append_dropWhile;have htk:=Jo (p:=fun x=>cs.contains x) l.reverse;constructor
 ·intro h;rw[List.all_eq_true]at h htk ⊢;intro x hx;have hx':x∈l.reverse:=List.mem_reverse.2 hx;rw[<-hsp]at hx';rcases ag.1 hx' with hx'|hx'
  ·exact htk x hx'
  exact h x (List.mem_reverse.2 hx')
 intro h;rw[List.all_eq_true]at h ⊢;intro x hx;have hx':=List.mem_reverse.1 hx;exact h x (List.mem_reverse.1 (by rw[<-hsp];exact List.mem_append_right _ hx'))
theorem Qbl(s cs:List UInt8)(w:World)(hs:s.length<=9223372036854775807)(hcs:cs.length<4294967281)(ha:∀b∈cs,b.toNat<128):
  Calls prog 173 #[s,cs] w fun e w'=>(∃r:List UInt8,e=.returned r/\(r=[]↔s.all (cs.contains ·)=true))/\Below w w w':=
 (Any.strings_Trim_laid Tryz.lays160 aP ⟨s.toArray⟩ ⟨cs.toArray⟩ w hs hcs (fun j b h=>ha b (List.mem_of_getElem? h))).mono fun e w' ⟨h1,h2⟩=>⟨⟨_,h1,Qe0⟩,h2⟩
theorem Z7(s p:List UInt8):Lib.hasPrefix s p=p.isPrefixOf s:=by
 unfold Lib.hasPrefix;first|rfl|simp
theorem P1(s p:List UInt8)(w:World):
  Calls prog 138 #[s,p] w fun e w'=>e=.returned (.bool (p.isPrefixOf s))/\w=w':=
 (Any.strings_HasPrefix Tryz.lays99 ⟨s.toArray⟩ ⟨p.toArray⟩ w).mono fun e w' ⟨h1,h2⟩=>⟨by rw[h1,Z7],h2.symm⟩
theorem P7(s p:List UInt8)(w:World)(hs:s.length<=9223372036854775807):
  Calls prog 139 #[s,p] w fun e w'=>e=.returned (.bool (Lib.hasSuffix s p))/\w=w':=
 (Any.strings_HasSuffix Tryz.lays100 ⟨s.toArray⟩ ⟨p.toArray⟩ w hs).mono fun e w' ⟨h1,h2⟩=>⟨h1,h2.symm⟩
theorem J0(s:List UInt8)(c:UInt8):(c∉s/\Lib.indexByte s c = -1)\/∃p t,s=p++c::t/\c∉p/\Lib.indexByte s c=(p.length:Int):=by
 induction s with
 |nil=>exact .inl ⟨by simp,rfl⟩
 |cons x s ih=>
  by_cases hx:x=c
  ·exact .inr ⟨[],s,by simp[hx],by simp,by simp[Lib.indexByte,hx]⟩
  have hb:(x == c)=false:=by simpa using hx
  rcases ih with⟨hn,e⟩|⟨p,t,es,hp,e⟩
  ·exact .inl ⟨by simp;exact⟨fun h=>hx h.symm,hn⟩,by simp[Lib.indexByte,hb,e]⟩
  refine .inr ⟨x::p,t,by simp[es],by simp;exact⟨fun h=>hx h.symm,hp⟩,?_⟩;have:¬(p.length:Int) = -1:=aH;simp[Lib.indexByte,hb,e,this]
theorem Qes(s:List UInt8)(c:UInt8)(w:World):
  Calls prog 192 #[s,.string ⟨#[c]⟩] w fun e w'=>e=.returned (.int .i64 (Lib.indexByte s c))/\w=w':=
 (Any.strings_Index_one Tryz.lays143 ⟨s.toArray⟩ c w).mono fun e w' ⟨h1,h2⟩=>⟨h1,h2.symm⟩
theorem Xh(s:List UInt8)(c:UInt8)(w:World):
  Calls prog 191 #[s,.string ⟨#[c]⟩] w fun e w'=>e=.returned (.int .i64 (Lib.indexByte s c))/\w=w':=
 (Any.stringslite_Index_one Tryz.lays219 ⟨s.toArray⟩ c w).mono fun e w' ⟨h1,h2⟩=>⟨h1,h2.symm⟩
theorem Qek(s:List UInt8)(c:UInt8)(w:World):
  Calls prog 211 #[s,.string ⟨#[c]⟩] w fun e w'=>e=.returned (.int .i64 ((s.count c:Nat):Int))/\w=w':=
 (Any.strings_Count_one Tryz.lays138 ⟨s.toArray⟩ c w).mono fun e w' ⟨h1,h2⟩=>⟨h1,h2.symm⟩
theorem Nj(s:List UInt8)(c:UInt8)(w:World):
  Calls prog 164 #[s,.string ⟨#[c]⟩] w fun e w'=>e=.returned (.bool (decide (c∈s)))/\w=w':=
 (Any.strings_Contains_one Tryz.lays144 ⟨s.toArray⟩ c w).mono fun e w' ⟨h1,h2⟩=>⟨by
  rw[h1];refine D2 (Cn ?_);show decide (0<=Lib.indexByte s c)=_;rw[decide_eq_decide];rcases J0 s c with⟨hn,e⟩|⟨p,t,es,hp,e⟩
  ·rw[e];exact⟨fun h=>by omega,fun h=>absurd h hn⟩
  rw[e];exact⟨fun _=>by rw[es];simp,fun _=>by omega⟩,h2.symm⟩
def Qb8(r:List UInt8 × List UInt8 × Bool):Value:=.tuple #[r.1,r.2.1,.bool r.2.2]
theorem Qgt(s:List UInt8)(c:UInt8)(w:World)(hs:s.length<=4294967280):
  Calls prog 163 #[s,.string ⟨#[c]⟩] w fun e w'=>e=.returned (Qb8 (Cy c s))/\∃k,w'=w.drewN k:=by
 rcases J0 s c with⟨hn,e⟩|⟨p,t,es,hp,e⟩
 ·have Hc:=Aa (Pn hn);have Hi:=Aa (fun W=>Xh s c W);rw[e]at Hi;clear hn e;go_enter func163,ntmps163;go_wp2_with fail;refine(Hi.o _).mono ?_;rintro e w' ⟨rfl,rfl⟩;go_wp2_with fail;go_ret3
  exact⟨by rw[Hc.o];rfl,0,rfl⟩
 have Hc:=Aa (show Cy c s=(p,t,true)by rw[es];exact Ec hp);have Hi:=Aa (fun W=>Xh s c W);rw[e]at Hi;have hl:s.length=p.length+1+t.length:=by rw[es];simp;omega
 have h1:s.take p.length=p:=by rw[es];simp
 have h2:s.drop (p.length+1)=t:=by
  rw[es,show p++c::t=(p++[c])++t by simp];exact List.drop_left' aM
 have k1:IntKind.i64.wrap ((p.length:Int)+1)=(p.length:Int)+1:=IntWalk.i64_in _ aH;have k2:((p.length:Int)+1).toNat=p.length+1:=aH;have k3:(0:Int)<=(p.length:Int)+1:=aH;have k4:(p.length:Int)+1<=(s.length:Int):=aH;have k5:(p.length:Int)<=(s.length:Int):=aH;have k6:(0:Int)<=(p.length:Int):=aH;have H1:=Aa h1;have H2:=Aa h2;clear e es hl h1 h2 hp;go_enter func163,ntmps163;go_wp2_with fail;refine(Hi.o _).mono ?_;rintro e w' ⟨rfl,rfl⟩;go_wp2_with fail;go_quiet (fail)
 go_wp2
 go_ret3
 exact⟨by rw[Hc.o];exact Qkm (Qf8 H1.o) (Qf8 H2.o) rfl,_,rfl⟩
theorem Q9(s:List UInt8)(c:UInt8)(w:World)(hs:s.length<=4294967280):
  Calls prog 134 #[s,.string ⟨#[c]⟩] w fun e w'=>e=.returned (Qb8 (Cy c s))/\∃k,w'=w.drewN k:=by
 go_enter func134,ntmps134;go_wp2_with fail;refine(Qgt s c _ hs).mono ?_;rintro e w' ⟨rfl,k,rfl⟩;unfold Qb8;go_wp2_with fail;go_ret3
 exact⟨rfl,k,rfl⟩
theorem Qq(c:UInt8):∀s:List UInt8,(Ag c s).length=s.count c+1
 |[]=>rfl
 |x::s=>by
  have ih:=Qq c s;simp only[Ag];by_cases h:x=c
  ·rw[if_pos h,h];simp[ih]
  rw[if_neg h];have e:List.count c (x::s)=List.count c s:=List.count_cons_of_ne h;rw[e];cases hs:Ag c s with
  |nil=>rw[hs]at ih;simp at ih
  |cons p ps=>rw[hs]at ih;simp at ih ⊢;exact ih
theorem Qgm(A B:List Value)(k:Nat)(x y:Value)(h:A.length=k):(A++x::B).set k y=A++y::B:=by
 subst h;rw[List.set_append,if_neg aH];simp
theorem Qa2{w:World}{base k n g cap:Nat}{ps:List (List UInt8)}{ys:List Value}(h:w.ownsRow base 9 1 (.slice (g,0) n cap) n (Ah ps++ys))(hk:ps.length=k)(hlt:k<n)(s:List UInt8):
  ∃zs,(w.setCell ⟨g,k,none⟩ s).ownsRow base 9 1 (.slice (g,0) n cap) n (Ah (ps++[s])++zs)/\w.grownBy (w.setCell ⟨g,k,none⟩ s) (some g)/\w.frozen? ⟨g,k,none⟩=false/\∃u,w.cell? ⟨g,k,none⟩=some u:=by
 have hl:(Ah ps).length=k:=by simp[Ah,hk]
 have h1:=h.1;rw[ai,hl]at h1;obtain⟨y,zs,rfl⟩:∃y zs,ys=y::zs:=by
  cases ys with
  |nil=>simp at h1;omega
  |cons y zs=>exact⟨y,zs,rfl⟩
 have hst:=h.stored k s;rw[Qgm _ _ _ _ _ hl]at hst;have hc:=h.cellAt k aH;rw[List.getElem?_append_right aH,hl]at hc;simp at hc;exact⟨zs,by rw[Pi,List.append_assoc];exact hst.1,hst.2,h.frozenAt k,y,hc⟩
theorem Qh3{w:World}{base k n g cap:Nat}{ps:List (List UInt8)}{ys:List Value}(h:w.ownsRow base 9 1 (.slice (g,0) n cap) n (Ah ps++ys))(hk:ps.length=k)(hle:k<=n):
  w.ownsRow base 9 1 (.slice (g,0) k cap) k (Ah ps):=by
 rcases h.2 with⟨e,_⟩|⟨g',cap',cur,e,hb,hh,hnc,hcm,hcs,htk⟩
 ·cases e
 injection e with e1 e2 e3;injection e1 with e1;injection e1 with e1;subst e1;subst e3;refine⟨by simp[Ah,hk],.inr ⟨g,cap,cur,rfl,hb,hh,by omega,hcm,hcs,?_⟩⟩;have hl:(Ah ps).length=k:=by simp[Ah,hk]
 have:(cur.toList.take (n*1)).take (k*1)=(Ah ps++ys).take (k*1):=by rw[htk]
 rw[List.take_take,Nat.min_eq_left aH]at this;rw[this,List.take_append_of_le_length aH,au aH]
theorem Qae(s:List UInt8)(c:UInt8)(w:World)(hs:s.length<=4000000):
  Calls prog 193 #[s,.string ⟨#[c]⟩,.int .i64 0,.int .i64 (-1)] w fun e w'=>
   ∃v,e=.returned v/\w'.ownsRow w 9 1 v (Ag c s).length (Ah (Ag c s))/\Below w w w':=by
 obtain⟨i0,hi,hz0,hz1,hz2⟩:=info_parts Ef;have hcnt:s.count c<=s.length:=List.count_le_length;have Hn:=Aa (Qq c s);have H0:=@Aa (Ag c s=[]++Ag c s) rfl;go_enter func193,ntmps193;go_wp2_with fail;refine(Qek s c w).mono ?_;rintro e w' ⟨rfl,rfl⟩;obtain⟨n,hn⟩:∃n,n=s.count c:=⟨_,rfl⟩
 have HN:=Aa hn;rw[<-hn]at hcnt ⊢;clear hn;have hmin:min ((n:Int)+1) ((s.length:Int)+1)=(n:Int)+1:=aH;go_wp2_with (at_make;refine wpList_make_full _ rfl _ _ 31 rfl w 9 i0 aa 1 underlying31 hi hz0 hz1 .i64 .i64 _ _ (n+1) rfl rfl aH aH (by rw[hz2];omega) bh (Ao _) ?_;intro w0 hown0 hgrow0)
 go_loopw [0,10] (fun x i wr=>∃(ps:List (List UInt8)) (r:List UInt8) (k:Nat),i=.int .i64 k/\k<=n/\x=r/\r.length<=s.length/\ps.length=k/\Hid (Ag c s=ps++Ag c r)/\Hid (r.count c+k=n) /\
   Hid (∃ys,wr.ownsRow w 9 1 (.slice (w,0) (n+1) (n+1)) (n+1) (Ah ps++ys))/\Hid (Below w w wr)) (fun _ i _=>n - (intOf i).toNat)
 case atStart=>exact⟨[],s,0,rfl,ah _,rfl,Ao _,rfl,H0.o,by show _=_;have:=HN.o;omega,⟨_,hown0⟩,(At _ _).grown hgrow0 (Ao _) aM⟩
 case round=>
  obtain⟨ps,r,k,rfl,hk,rfl,hr,hps,hsp,hct,hown,hb⟩:=hrel;have Hps:=Aa hps;clear hps;by_cases hlt:k<n
  ·have hmem:c∈r:=by
    have:=hct.o;exact List.count_pos_iff.1 aH
   have hix:∃p t,r=p++c::t/\c∉p/\Lib.indexByte r c=(p.length:Int):=by
    rcases J0 r c with⟨h,_⟩|h
    ·exact absurd hmem h
    exact h
   obtain⟨p,t,er,hp,e⟩:=hix;have Hi:=Aa (fun W=>Qes r c W);rw[e]at Hi;have hl:r.length=p.length+1+t.length:=by rw[er];simp;omega
   have H1:=Aa (show r.take p.length=p by rw[er];simp)
   have H2:=Aa (show r.drop (p.length+1)=t by
    rw[er,show p++c::t=(p++[c])++t by simp];exact List.drop_left' aM)
   have Hsp:=Aa (show Ag c s=(ps++[p])++Ag c t by rw[hsp.o,er,Ja c p t hp];simp)
   have Hct:=Aa (show t.count c+(k+1)=n by
    have h0:=hct.o;have h1:p.count c=0:=List.count_eq_zero.2 hp;rw[er,List.count_append,h1,List.count_cons_self]at h0;omega)
   obtain⟨ys,hown'⟩:=hown.o;obtain⟨zs,n1,n2,n3,u,n4⟩:=Qa2 hown' Hps.o (by omega:k<n+1) p;have N1:=Aa (show (wr.setCell ⟨w.heap.size,k,none⟩ (.string ⟨(r.take p.length).toArray⟩)).ownsRow w 9 1 (.slice (w,0) (n+1) (n+1)) (n+1) (Ah (ps++[p])++zs)by rw[H1.o];exact n1);have N2:=@Aa (Below w w (wr.setCell ⟨w.heap.size,k,none⟩ (.string ⟨(r.take p.length).toArray⟩))) (hb.o.setCell (p:=⟨w.heap.size,k,none⟩) (Ao _) _);have k1:(0:Int)<=(p.length:Int):=aH;have k2:(p.length:Int)<=(r.length:Int):=aH;have k3:p.length+1<=r.length:=aH;clear e er hp hmem hown' n1 n2 hl;go_wp2_with fail;refine(Hi.o _).mono ?_;rintro e w' ⟨rfl,rfl⟩;go_wp2_with fail;go_roundw
   case rel=>exact⟨ps++[p],t,k+1,by go_num,by omega,Qf8 H2.o,by have:=congrArg List.length H2.o;simp at this;omega,by rw[ai,Hps.o];rfl,Hsp.o,Hct.o,⟨zs,N1.o⟩,N2.o⟩
   case measure=>simp[intOf];omega
  ·obtain rfl:k=n:=aH;have hno:c∉r:=by
    have:=hct.o;exact List.count_eq_zero.1 aH
   have Hsp:=Aa (show Ag c s=ps++[r]by rw[hsp.o,Ez c r hno]);obtain⟨ys,hown'⟩:=hown.o;obtain⟨zs,n1,n2,n3,u,n4⟩:=Qa2 hown' Hps.o (by omega:k<k+1) r;have N1:=Aa (Qh3 n1 (by rw[ai,Hps.o];rfl) (Ao _));have N2:=@Aa (Below w w (wr.setCell ⟨w.heap.size,k,none⟩ r)) (hb.o.setCell (p:=⟨w.heap.size,k,none⟩) (Ao _) _);clear hown' n1 n2 hno;go_wp2_with fail;go_ret;refine⟨_,rfl,?_,N2.o⟩;have e1:(Ag c s).length=k+1:=by rw[Hsp.o,ai,Hps.o];rfl
   rw[e1,Hsp.o];exact N1.o
theorem Rl(s:List UInt8)(c:UInt8)(w:World)(hs:s.length<=4000000):
  Calls prog 165 #[s,.string ⟨#[c]⟩] w fun e w'=>
   ∃v,e=.returned v/\w'.ownsRow w 9 1 v (Ag c s).length (Ah (Ag c s))/\Below w w w':=by
 go_enter func165,ntmps165;go_wp2_with fail;refine(Qae s c _ hs).mono ?_;rintro e w' ⟨v,rfl,ho,hb⟩;have Ho:=Aa ho;have Hb:=Aa hb;clear ho hb;go_wp2_with fail;go_ret;exact⟨_,rfl,Ho.o,Hb.o⟩
theorem Aq{c d:UInt8}(h:c≠d):((c.toNat:Int) == (d.toNat:Int))=false:=by
 rw[beq_eq_false_iff_ne];intro e;exact h (UInt8.toNat_inj.1 aH)
theorem Bq{c d:UInt8}(h:c=d):((c.toNat:Int) == (d.toNat:Int))=true:=by rw[h];simp
theorem Qg1(n a b:Int)(w:World):
  Calls prog 162 #[.int .i64 n,.int .i64 a,.int .i64 b] w fun e w'=>e=.returned (.bool (decide (a<=n) && decide (n<=b)))/\w=w':=by
 go_enter func162,ntmps162;by_cases h1:a<=n
 ·have t1:decide (a<=n)=true:=dS;rw[t1];go_wp2
  exact iK
 have t1:decide (a<=n)=false:=dS;rw[t1];go_wp2
 exact iK
theorem Ch(s:List UInt8)(w:World)(hs:s.length<=9223372036854775807):
  Calls prog 128 #[s] w fun e w'=>e=.returned (.bool (Av s))/\w=w':=by
 go_enter func128,ntmps128;go_wp2
 go_loop [3] (fun i=>∃k:Nat,k<=s.length/\i=.int .i64 k/\Hid (∀c∈s.take k,H7 c=true)) (fun i=>s.length - (intOf i).toNat)
 case atStart=>exact⟨0,ah _,rfl,by intro c hc;simp at hc⟩
 case round=>
  obtain⟨k,hk,rfl,hin⟩:=hrel;by_cases hlt:k<s.length
  ·have hc:(s[k]).toNat<256:=(s[k]).toNat_lt;have Hts:=Aa (Bt s k hlt);have Hm:=Aa (af hlt);by_cases h1:H7 s[k]=true
   ·have h2:=J7.1 h1;obtain⟨h3,h4⟩:=h2;have H1:=Aa h1;clear h1;go_wp2
    go_round
    case rel=>
     refine⟨k+1,by omega,by go_num,?_⟩;intro c hc;rw[Hts.o]at hc;rcases ag.1 hc with hc|hc
     ·exact hin.o c hc
     ·simp at hc;subst hc;exact H1.o
    case measure=>simp[intOf];omega
   have hno:Av s=false:=by
    cases hh:Av s with
    |false=>rfl
    |true=>exact absurd ((Dp.1 hh).2.2 _ Hm.o) h1
   have Hno:=Aa hno;have h2:(s[k]).toNat<97\/122<(s[k]).toNat:=by
    rcases aG (s[k]).toNat 97 with h|h
    ·exact .inl h
    rcases aG 122 (s[k]).toNat with h'|h'
    ·exact .inr h'
    exact absurd (J7.2 ⟨h,h'⟩) h1
   clear h1 hno;rcases h2 with h2|h2
   ·go_wp2
    go_ret;exact⟨D2 (Cn Hno.o.symm),rfl⟩
   have h3:97<=(s[k]).toNat:=aH;go_wp2
   go_ret;exact⟨D2 (Cn Hno.o.symm),rfl⟩
  ·have hfin:(decide ((1:Int)<=(s.length:Int)) && decide ((s.length:Int)<=3))=Av s:=by
    have hall:s.all H7=true:=List.all_eq_true.2 (fun c hc=>hin.o c (by rw[au aH];exact hc));unfold Av;rw[hall,Bool.and_true];congr 1<;>· rw[decide_eq_decide];omega
   have Hfin:=Aa hfin;clear hfin;go_wp2_with fail;refine(Qg1 _ _ _ _).mono ?_;rintro e w' ⟨rfl,rfl⟩;go_wp2_with fail;go_ret;exact⟨D2 (Cn Hfin.o),rfl⟩
theorem Vq(c:UInt8)(t:List UInt8)(hc:Bc c=true):(Ck (c::t)).isSome=(decide (t.length<12) && (Ck t).isSome):=by
 unfold Ck;simp only[List.dropWhile_cons,List.takeWhile_cons,hc,if_true];by_cases h:12<(c::t).length
 ·exact iz
 rw[if_neg h];simp at h;have h2:¬12<t.length:=aH;have:t.length<12:=aH;rw[if_neg h2];simp only[this,decide_true,Bool.true_and];by_cases h3:t.dropWhile Bc=[110]\/t.dropWhile Bc=[116]\/t.dropWhile Bc=[102]
 ·rw[if_pos h3,if_pos h3];rfl
 rw[if_neg h3,if_neg h3];by_cases h4:(t.dropWhile Bc).head?=some 64/\(t.dropWhile Bc).getLast?=some 59/\Av ((t.dropWhile Bc).drop 1).dropLast=true
 ·rw[if_pos h4,if_pos h4];rfl
 rw[if_neg h4,if_neg h4]
theorem Qfy(t:List UInt8):(Ck (64::t)).isSome=(decide (t.length<12) && decide ((64::t).getLast?=some 59) && Av t.dropLast):=by
 unfold Ck;have h64:Bc 64=false:=aL;simp only[List.dropWhile_cons,List.takeWhile_cons,h64];by_cases h:12<(64::t).length
 ·exact iz
 rw[if_neg h];simp at h;have:t.length<12:=aH;simp[this];split
 ·rename_i hh;simp[hh]
 rename_i hh;simp only[Option.isSome_none];cases hn:Av t.dropLast with
 |false=>simp
 |true=>simp[hn]at hh;simp[hh]
theorem Qbg(c:UInt8)(t:List UInt8)(h1:Bc c=false)(h2:c≠64):(Ck (c::t)).isSome=(decide (c::t=[110]) || decide (c::t=[116]) || decide (c::t=[102])):=by
 unfold Ck;simp only[List.dropWhile_cons,List.takeWhile_cons,h1];by_cases h:12<(c::t).length
 ·rw[if_pos h];simp at h;have e:t≠[]:=by rintro rfl;simp at h
  simp[e]
 rw[if_neg h];by_cases h3:c::t=[110]\/c::t=[116]\/c::t=[102]
 ·simp only[ao,if_false];rw[if_pos h3];rcases h3 with h3|h3|h3<;>simp[h3]
 simp only[ao,if_false];rw[if_neg h3,if_neg (by simp[h2])];simp only[not_or]at h3;simp[h3]
theorem Ni:∀(n:Nat) (s:List UInt8) (w:World),s.length<=n->s.length<=9223372036854775807 ->
  Calls prog 85 #[s] w fun e w'=>e=.returned (.bool (Ck s).isSome)/\w=w':=by
 intro n;induction n with
 |zero=>
  intro s w hn hs;obtain rfl:s=[]:=List.eq_nil_of_length_eq_zero aH;go_enter func85,ntmps85;go_wp2_with fail;exact iK
 |succ n ih=>
  intro s w hn hs;have Ih:=Aa ih;clear ih;by_cases h12:12<s.length
  ·have Hf:=Aa (show (Ck s).isSome=false by unfold Ck;rw[if_pos h12];rfl);go_enter func85,ntmps85;go_wp2_with fail;exact iL
  cases s with
  |nil=>
   go_enter func85,ntmps85;go_wp2_with fail;exact iK
  |cons c t=>
   have hlt:t.length<12:=by simp at h12;omega
   have hn':t.length<=n:=by simp at hn;omega
   have hc:=c.toNat_lt;by_cases h91:c=91
   ·have Hf:=Aa (show (Ck (c::t)).isSome=(Ck t).isSome by rw[Vq c t (by rw[h91];decide)];simp[hlt]);have e1:c.toNat=91:=by rw[h91];rfl
    have t1:((c.toNat:Int) == 91)=true:=by simp[e1]
    clear h91 e1;go_enter func85,ntmps85;go_wp2_with fail;refine(Ih.o t _ hn' aH).mono ?_;rintro e w' ⟨rfl,rfl⟩;go_wp2_with fail;exact iL
   have t1:((c.toNat:Int) == 91)=false:=Aq h91;by_cases h63:c=63
   ·have Hf:=Aa (show (Ck (c::t)).isSome=(Ck t).isSome by rw[Vq c t (by rw[h63];decide)];simp[hlt]);have e1:c.toNat=63:=by rw[h63];rfl
    have t2:((c.toNat:Int) == 63)=true:=by simp[e1]
    clear h63 h91 e1;go_enter func85,ntmps85;go_wp2_with fail;refine(Ih.o t _ hn' aH).mono ?_;rintro e w' ⟨rfl,rfl⟩;go_wp2_with fail;exact iL
   have t2:((c.toNat:Int) == 63)=false:=Aq h63;by_cases h64:c=64
   ·have e1:c.toNat=64:=by rw[h64];rfl
    have t3:((c.toNat:Int) == 64)=true:=by simp[e1]
    rcases Em t with rfl|⟨u,d,rfl⟩
    ·have Hf:=Aa (show (Ck [c]).isSome=false by rw[h64];decide);have t4:((c.toNat:Int) == 59)=false:=by simp[e1]
     clear h64 h63 h91 e1;go_enter func85,ntmps85;go_wp2_with fail;exact iL
    have hk:=Qfy (u++[d]);have hl:(c::(u++[d])).getLast?=some d:=by
     exact iM
    rw[<-h64,hl,List.dropLast_concat]at hk;have hd:=d.toNat_lt;simp at hlt;have hgd:∀h,(c::(u++[d]))[u.length+1]'h=d:=by
     intro h;simp
    have hsl:(List.take u.length (u++[d]))=u:=aM;by_cases h59:d=59
    ·have e2:d.toNat=59:=by rw[h59];rfl
     have t4:((d.toNat:Int) == 59)=true:=by simp[e2]
     have Hf:=Aa (show (Ck (c::(u++[d]))).isSome=Av u by rw[hk,h59];simp;omega);clear h64 h63 h91 e1 hk hl h59 e2;go_enter func85,ntmps85;go_wp2_with fail;refine(Ch u _ aH).mono ?_;rintro e w' ⟨rfl,rfl⟩;go_wp2_with fail;exact iL
    have t4:((d.toNat:Int) == 59)=false:=Aq h59;have Hf:=Aa (show (Ck (c::(u++[d]))).isSome=false by rw[hk];simp[h59]);clear h64 h63 h91 e1 hk hl h59;go_enter func85,ntmps85;go_wp2_with fail;exact iL
   have t3:((c.toNat:Int) == 64)=false:=Aq h64;have hk:=Qbg c t (by simp[Bc,h91,h63]) h64;have Hk:=Aa hk;clear hk h64 h63 h91;cases t with
   |cons x t=>
    have hl2:t.length+1+1<=12:=by simp at hlt;omega
    have Hf:=Aa (show (Ck (c::x::t)).isSome=false by rw[Hk.o];simp);clear Hk;go_enter func85,ntmps85;go_wp2_with fail;all_goals
     go_ret;exact⟨D2 (Cn (by rw[Hf.o])),rfl⟩
   |nil=>
    by_cases g1:c=110
    ·subst g1;go_enter func85,ntmps85;go_wp2_with fail;exact iK
    by_cases g2:c=116
    ·subst g2;go_enter func85,ntmps85;go_wp2_with fail;exact iK
    by_cases g3:c=102
    ·subst g3;go_enter func85,ntmps85;go_wp2_with fail;exact iK
    have Hf:=Aa (show (Ck [c]).isSome=false by rw[Hk.o];simp[g1,g2,g3]);go_enter func85,ntmps85;go_wp2_with fail;go_ret;exact⟨D2 (Cn (by rw[Hf.o];simp[g1,g2,g3])),rfl⟩
def Qg:Value->Nat
 |.string b=>b.size
 |_=>0
theorem J6(l:List UInt8):Qg l=l.length:=rfl
theorem Qdi(k:Kd)(w:World)(hk:k.signs.all Bc=true)(hb:∃c t,Cm k=c::t/\Bc c=false)(hs:(Bn k).length<=9223372036854775807):
  Calls prog 87 #[.string ⟨(Bn k).toArray⟩] w fun e w'=>e=.returned (.string ⟨(Cm k).toArray⟩)/\w=w':=by
 obtain⟨d,u,hcu,hd⟩:=hb;have hlen:(Bn k).length=k.signs.length+(u.length+1):=by unfold Bn;rw[hcu];simp
 unfold Bn;rw[hcu];generalize k.signs=g at hk hlen;clear hcu;have hd1:d≠91:=by rintro rfl;revert hd;decide
 have hd2:d≠63:=by rintro rfl;revert hd;decide
 have d1:((d.toNat:Int) == 91)=false:=Aq hd1;have d2:((d.toNat:Int) == 63)=false:=Aq hd2;have hdl:=d.toNat_lt;clear hd hd1 hd2;have hs2:g.length+u.length+1<=9223372036854775807:=aH;have Hk:=Aa (List.all_eq_true.1 hk);clear hs hlen hk;go_enter func87,ntmps87;go_wp2_with fail;go_loop [0] (fun x=>∃k:Nat,k<=g.length/\x=.string ⟨(g.drop k++d::u).toArray⟩) (fun x=>Qg x)
 case atStart=>exact⟨0,ah _,rfl⟩
 case round=>
  obtain⟨k,hk,rfl⟩:=hrel;by_cases hlt:k<g.length
  ·have hdr:g.drop k=g[k]::g.drop (k+1):=List.drop_eq_getElem_cons hlt;have hl3:(g.drop (k+1)).length<=g.length:=aM;have hsg:=Hk.o _ (af hlt);have hc:=(g[k]).toNat_lt;rw[hdr];generalize g[k]=c at hsg hc;have hsg2:c=91\/c=63:=by simpa [Bc]using hsg
   have Hd:=Aa hdr;clear hsg hdr;rcases hsg2 with h91|h63
   ·have t1:((c.toNat:Int) == 91)=true:=Bq h91;clear h91;go_wp2_with fail;go_round
    case rel=>exact⟨k+1,by omega,Qf8 (au aM)⟩
    case measure=>rw[J6,J6];simp
   have t1:((c.toNat:Int) == 91)=false:=Aq (d:=91) (by rw[h63];decide);have t2:((c.toNat:Int) == 63)=true:=Bq h63;clear h63;go_wp2_with fail;go_round
   case rel=>exact⟨k+1,by omega,Qf8 (au aM)⟩
   case measure=>rw[J6,J6];simp
  ·rw[List.drop_of_length_le aH,List.nil_append];go_wp2_with fail;exact iK
theorem Yi(nm:List UInt8)(w:World)(hn:nm.length<=1000):
  Calls prog 86 #[.string ⟨(64::(nm++[59])).toArray⟩] w fun e w'=>e=.returned (.tuple #[nm,.bool true])/\w=w':=by
 have h1:(nm++[59]).take nm.length=nm:=aM;go_enter func86,ntmps86;go_wp2_with fail;go_ret2;exact iJ
theorem Qbf(c:UInt8)(t:List UInt8)(w:World)(hc:c≠64)(hn:t.length<=1000):
  Calls prog 86 #[.string ⟨(c::t).toArray⟩] w fun e w'=>e=.returned (.tuple #[aa,.bool false])/\w=w':=by
 have t1:((c.toNat:Int) != 64)=true:=by
  have:=Aq hc;rw[bne_iff_ne];intro e;have h64:((64:UInt8).toNat:Int)=64:=rfl;rw[beq_eq_false_iff_ne,h64]at this;exact this e
 clear hc;go_enter func86,ntmps86;go_wp2_with fail;go_ret2;exact iJ
def Qi5:List UInt8:=[97,98,99,100,101,102,103,104,105,106,107,108,109,110,111,112,113,114,115,116,117,118,119,120,121,122]
def Qcc:List UInt8:=[97,98,99,100,101,102,103,104,105,106,107,108,109,110,111,112,113,114,115,116,117,118,119,120,121,122,48,49,50,51,52,53,54,55,56,57,32]
theorem Pr{p:UInt8->Bool}(h:∀n,n<256->p (UInt8.ofNat n)=true)(c:UInt8):p c=true:=by
 have:=h c.toNat c.toNat_lt;rwa [UInt8.ofNat_toNat]at this
theorem Qgg(c:UInt8):Qi5.contains c=H7 c:=by
 have:=Pr (p:=fun c=>Qi5.contains c == H7 c) eJ c;simpa using this
theorem Qax(c:UInt8):Qcc.contains c=Cb c:=by
 have:=Pr (p:=fun c=>Qcc.contains c == Cb c) eJ c;simpa using this
theorem Qhx(s:List UInt8):s.all (Qi5.contains ·)=s.all H7:=by congr 1;funext c;exact Qgg c
theorem Qi0(s:List UInt8):s.all (Qcc.contains ·)=s.all Cb:=by congr 1;funext c;exact Qax c
theorem Kf(s:List UInt8)(w:World)(hs:s.length<=9223372036854775807):
  Calls prog 140 #[s] w fun e w'=>e=.returned (.bool (Av s))/\Below w w w':=by
 by_cases h1:1<=s.length
 ·by_cases h3:s.length<=3
  ·have hT:=fun W=>Qbl s Qi5 W hs aL aL;simp only[Qhx]at hT;have HT:=Aa hT;have hn:Av s=s.all H7:=by simp[Av,h1,h3]
   have Hn:=Aa hn;clear hn hT;go_enter func140,ntmps140;go_wp2_with fail;refine(HT.o _).mono ?_;rintro e w' ⟨⟨r,rfl,hr⟩,hb⟩;cases r with
   |nil=>
    have Hr:=Aa (hr.1 rfl);clear hr;go_wp2_with fail;exact iN
   |cons x r=>
    have Hr:=Aa (show s.all H7=false by
     cases h:s.all H7 with
     |false=>rfl
     |true=>exact absurd (hr.2 h) aM)
    clear hr;go_wp2_with fail;exact iN
  have Hn:=Aa (show Av s=false by simp[Av,h3]);go_enter func140,ntmps140;go_wp2_with fail;exact iO
 have Hn:=Aa (show Av s=false by simp[Av,h1]);go_enter func140,ntmps140;go_wp2_with fail;exact iO
theorem Qc9(s:List UInt8)(w:World)(hs:s.length<=9223372036854775807):
  Calls prog 212 #[s] w fun e w'=>e=.returned (.bool (Db s))/\Below w w w':=by
 by_cases h3:s.length<=12
 ·have hT:=fun W=>Qbl s Qcc W hs aL aL;simp only[Qi0]at hT;have HT:=Aa hT;have hn:Db s=s.all Cb:=by simp[Db,h3]
  have Hn:=Aa hn;have t0:decide ((s.length:Int)<=12)=true:=aN;clear hn hT;go_enter func212,ntmps212;go_wp2_with fail;refine(HT.o _).mono ?_;rintro e w' ⟨⟨r,rfl,hr⟩,hb⟩;cases r with
  |nil=>
   have Hr:=Aa (hr.1 rfl);clear hr;go_wp2_with fail;exact iN
  |cons x r=>
   have Hr:=Aa (show s.all Cb=false by
    cases h:s.all Cb with
    |false=>rfl
    |true=>exact absurd (hr.2 h) aM)
   clear hr;go_wp2_with fail;exact iN
 have Hn:=Aa (show Db s=false by simp[Db,h3]);have t0:decide ((s.length:Int)<=12)=false:=aN;go_enter func212,ntmps212;go_wp2_with fail;exact iO
def pnV(s:List UInt8)(m:Nat):Value:=
 match Ci s with
 |none=>.tuple #[.int .i64 0,.bool false]
 |some n=>.tuple #[.int .i64 n,.bool (decide (n<=m))]
theorem Qh{s:List UInt8}{m:Nat}(h:Ci s=none):pnV s m=.tuple #[.int .i64 0,.bool false]:=by unfold pnV;rw[h]
theorem Tg{s:List UInt8}{m n:Nat}(h:Ci s=some n):pnV s m=.tuple #[.int .i64 n,.bool (decide (n<=m))]:=by unfold pnV;rw[h]
theorem Za(s:List UInt8)(k:Nat)(hk:k<=6)(h:(s.take k).all Ba=true):Fr (s.take k)<=999999:=by
 exact iP
theorem Gm(s:List UInt8)(m:Nat)(w:World)(hs:s.length<=9223372036854775807)(hm:m<=999999):
  Calls prog 175 #[s,.int .i64 m] w fun e w'=>e=.returned (pnV s m)/\w=w':=by
 rcases aG s.length 1 with h1|h1
 ·obtain rfl:s=[]:=List.eq_nil_of_length_eq_zero aH;have Hn:=Aa (Qh (m:=m) (show Ci []=none by rfl));go_enter func175,ntmps175;go_wp2_with fail;go_ret2;exact iQ
 rcases aG 6 s.length with h6|h6
 ·have Hn:=Aa (Qh (m:=m) (show Ci s=none by unfold Ci;rw[if_neg];rintro⟨_,h,_⟩;omega));go_enter func175,ntmps175;go_wp2_with fail;go_ret2;exact iQ
 have hc0:=(s[0]' aH).toNat_lt;have h3:(s[0]' aH=48/\1<s.length)\/((((s[0]' aH).toNat:Int) == 48)=true/\s.length<=1)\/((((s[0]' aH).toNat:Int) == 48)=false):=by
  by_cases h:s[0]' aH=48
  ·rcases aG 1 s.length with h'|h'
   ·exact .inl ⟨h,h'⟩
   exact .inr (.inl ⟨Bq h,h'⟩)
  exact .inr (.inr (Aq h))
 have hhd:(s.head?≠some 48\/s.length=1)\/(s[0]' aH=48/\1<s.length):=by
  rcases h3 with h|⟨_,h⟩|h
  ·exact .inr h
  ·exact .inl (.inr aH)
  refine .inl (.inl ?_);rw[List.head?_eq_getElem?,List.getElem?_eq_getElem aH];intro e;injection e with e;rw[e]at h;exact absurd h aL
 have Hhd:=Aa hhd;clear hhd;rcases h3 with⟨hz,hl⟩|⟨t0,hl⟩|t0
 ·have Hn:=Aa (Qh (m:=m) (show Ci s=none by
   unfold Ci;rw[if_neg];rintro⟨_,_,_,h|h⟩
   ·apply h;rw[List.head?_eq_getElem?,List.getElem?_eq_getElem aH,hz]
   omega))
  have t0:(((s[0]' aH).toNat:Int) == 48)=true:=Bq hz;have Hz:=Aa hz;go_enter func175,ntmps175;go_wp2_with fail;go_ret2;exact iQ
 all_goals
  have Hall:Hid (s.head?≠some 48\/s.length=1):=by
   rcases Hhd.o with h|⟨e,h⟩
   ·exact h
   exfalso
   first
    |omega
    |(rw[e]at t0;exact absurd t0 aL)
  clear Hhd;go_enter func175,ntmps175;go_wp2_with fail;go_loop [6,28] (fun x i=>∃k:Nat,i=.int .i64 k/\k<=s.length/\Hid ((s.take k).all Ba=true)/\Fr (s.take k)<=999999/\x=.int .i64 ((Fr (s.take k):Nat):Int)) (fun _ i=>s.length - (intOf i).toNat)
  case atStart=>exact⟨0,rfl,ah _,by simp[Hid],by simp[Fr],by simp[Fr]⟩
  case round=>
   obtain⟨k,rfl,hk,hdig,hv,rfl⟩:=hrel;by_cases hlt:k<s.length
   ·have hc:=(s[k]).toNat_lt;have Hts:=Aa (Bt s k hlt);by_cases hd:Ba s[k]=true
    ·have hd2:=Dc.1 hd;obtain⟨d1,d2⟩:=hd2;have hdig2:(s.take (k+1)).all Ba=true:=by
      rw[Hts.o,List.all_append,hdig.o];simp[hd]
     have hv2:=Za s (k+1) aH hdig2;have Hdig2:=Aa hdig2;have Hv:=Aa (show Fr (s.take (k+1))=10*Fr (s.take k)+((s[k]).toNat - 48)by rw[Hts.o,J8]);clear hd hdig2;go_wp2_with fail;go_round
     case rel=>exact⟨k+1,by go_num,by omega,Hdig2.o,hv2,Qig (by rw[Hv.o];omega)⟩
     case measure=>simp[intOf];omega
    have Hn:=Aa (Qh (m:=m) (show Ci s=none by
     unfold Ci;rw[if_neg];rintro⟨_,_,h,_⟩;exact hd (List.all_eq_true.1 h _ (af hlt))))
    have h2:(s[k]).toNat<48\/(48<=(s[k]).toNat/\57<(s[k]).toNat):=by
     rcases aG (s[k]).toNat 48 with h|h
     ·exact .inl h
     rcases aG 57 (s[k]).toNat with h'|h'
     ·exact .inr ⟨h,h'⟩
     exact absurd (Dc.2 ⟨h,h'⟩) hd
    clear hd;rcases h2 with h2|⟨h2,h4⟩
    ·go_wp2_with fail;go_ret2;exact iQ
    go_wp2_with fail;go_ret2;exact iQ
   ·have e:s.take k=s:=au aH
    have Hn:=Aa (Tg (m:=m) (show Ci s=some (Fr (s.take k))by
     have hd:=hdig.o;rw[e]at hd ⊢;unfold Ci;rw[if_pos ⟨by omega,by omega,hd,Hall.o⟩]))
    clear e;generalize Fr (s.take k)=v at hv Hn;by_cases hvm:v<=m
    ·go_wp2_with fail;go_ret2;exact⟨by rw[Hn.o];exact Qh4 rfl (Cn (by simp[hvm])),rfl⟩
    go_wp2_with fail;go_ret2;exact⟨by rw[Hn.o];exact Qh4 rfl (Cn aN),rfl⟩
end
theorem Mm{α:Type}{p q:α->Bool}:∀(l:List α) (_:∀x,q x=true->p x=true) {a:α} (_:a∈l) (_:p a=true) (_:q a=false),(l.filter q).length<(l.filter p).length
 |[],_,_,ha,_,_=>by cases ha
 |x::l,h,a,ha,hp,hq=>by
  have hle:∀l:List α,(l.filter q).length<=(l.filter p).length:=by
   intro l;induction l with
   |nil=>exact Ao _
   |cons y l ih=>
    simp only[List.filter_cons];by_cases h1:q y=true
    ·rw[if_pos h1,if_pos (h y h1)];simpa using ih
    rw[if_neg h1];split
    ·simp;omega
    exact ih
  rcases aA.1 ha with rfl|ha
  ·have:=hle l;simp only[List.filter_cons,hp,hq];simp;omega
  have ih:=Mm l h ha hp hq;simp only[List.filter_cons];by_cases h1:q x=true
  ·rw[if_pos h1,if_pos (h x h1)];simpa using ih
  rw[if_neg h1];split
  ·simp;omega
  exact ih
section
variable {P:Program} {ops:Array Oper} {Q:Exit->Act->World->Prop} {md:Region.Mode}
def Rc(ops:Array Oper)(listed:Array Bool):Nat:=((List.range ops.size).filter fun i=>!listed.getD i false).length
theorem Yb(hac:∀(i:Nat) (o:Oper),ops[i]?=some o->∀e∈o.after,Region.binds md e=true->e.on<i)(I:(Nat->Bool)->Act->World->Prop)
  (hstep:∀(l:Nat->Bool) a w i o,ops[i]?=some o->l i=false->(∀e∈o.after,Region.binds md e=true->l e.on=true)->I l a w->wpOp P ops Q i (I fun j=>if j=i then true else l j) a w)
  (hdone:∀l a w,(∀i,i<ops.size->l i=true)->I l a w->Q .normal a w):
  ∀(fuel:Nat) (listed:Array Bool) a w,listed.size=ops.size->Rc ops listed<=fuel->I (fun j=>listed.getD j false) a w->wpAny P md ops Q fuel listed a w:=by
 have hall:∀listed:Array Bool,listed.size=ops.size->Region.ready md ops listed=[]->∀i,i<ops.size->listed.getD i false=true:=by
  intro listed hsz hr i;induction i using Nat.strongRecOn with
  |ind i ih=>
   intro hi;cases hb:listed.getD i false with
   |true=>rfl
   |false=>
    have:i∈Region.ready md ops listed:=by
     rw[mem_ready]
     refine ⟨by have h2:i<listed.size:=by omega
                simpa [Array.getD,h2]using hb,ops[i],by simp[hi],fun e he hbd=>?_⟩
     have h1:=hac i ops[i] (by simp[hi]) e he hbd;exact ih e.on h1 aH
    rw[hr]at this;cases this
 intro fuel;induction fuel with
 |zero=>
  intro listed a w hsz hst hI;have hall':∀i,i<ops.size->listed.getD i false=true:=by
   intro i hi;have h0:((List.range ops.size).filter fun i=>!listed.getD i false)=[]:=List.eq_nil_of_length_eq_zero (by unfold Rc at hst;omega);have:=List.filter_eq_nil_iff.1 h0 i (List.mem_range.2 hi);simpa using this
  refine⟨?_,hdone _ a w hall' hI⟩;cases hr:Region.ready md ops listed with
  |nil=>rfl
  |cons j js=>
   have hj:j∈Region.ready md ops listed:=by rw[hr];simp
   obtain⟨h1,o,h2,_⟩:=mem_ready.1 hj;have h3:j<ops.size:=(Array.getElem?_eq_some_iff.1 h2).1;have h4:=hall' j h3;have h5:j<listed.size:=aH;simp[Array.getD,h5]at h1 h4;rw[h1]at h4;cases h4
 |succ fuel ih=>
  intro listed a w hsz hst hI;refine⟨fun hr=>hdone _ a w (hall listed hsz hr) hI,fun i hi=>?_⟩;obtain⟨h1,o,h2,h3⟩:=mem_ready.1 hi;have hlt:i<ops.size:=(Array.getElem?_eq_some_iff.1 h2).1;have hlt2:i<listed.size:=aH;have h1':listed.getD i false=false:=by simpa [Array.getD,hlt2]using h1
  have hset:∀j,(listed.setIfInBounds i true).getD j false=if j=i then true else listed.getD j false:=by
   intro j;by_cases hj:j=i
   ·subst hj;simp[Array.getD,hlt2]
   rw[if_neg hj,getD_set_ne _ (Ne.symm hj)]
  refine wpOp_mono (fun a' w' h=>ih (listed.setIfInBounds i true) a' w' (by simpa using hsz) ?_ ?_) (hstep _ a w i o h2 h1' h3 hI)
  ·have:=Mm (p:=fun i=>!listed.getD i false) (q:=fun j=>!(listed.setIfInBounds i true).getD j false) (List.range ops.size) (fun x hx=>by
    simp only[Bool.not_eq_true']at hx ⊢;rw[hset]at hx;by_cases hxi:x=i
    ·rw[if_pos hxi]at hx;cases hx
    rwa [if_neg hxi]at hx) (List.mem_range.2 hlt) (by simp only[h1',Bool.not_false]) (by simp only[hset,if_true,Bool.not_true])
   unfold Rc at hst ⊢;omega
  have e:(fun j=>(listed.setIfInBounds i true).getD j false)=fun j=>if j=i then true else listed.getD j false:=funext hset
  rw[e];exact h
def An(p:Nat->Oper->Prop)(k:Nat)(os:List Oper):Prop:=∀i o,os[i]?=some o->p (k+i) o
theorem An.nil{p:Nat->Oper->Prop}{k:Nat}:An p k []:=fun i o h=>by simp at h
theorem An.cons{p:Nat->Oper->Prop}{k:Nat}{o:Oper}{os:List Oper}(h:p k o)(hs:An p (k+1) os):An p k (o::os):=fun i o' ho=>by
 cases i with
 |zero=>simp at ho;subst ho;exact h
 |succ i=>simp at ho;have:=hs i o' ho;rwa [Nat.add_assoc,Nat.add_comm 1 i]at this
theorem Xn{id:Nat}(hm:P.follows .mixedOrders=true)(hac:(List.range ops.size).all (fun i=>((ops[i]?).map fun o=>o.after.all fun e=>!Region.binds .any e || decide (e.on<i)).getD true)=true)
  (mk:(Nat->Value)->Act) (u0:Nat->Value) {a:Act} (ha:a=mk u0) {w:World}
  (φ:Nat->Value->World->Prop) (R:(Nat->Bool)->World->Prop) (Rel:World->World->Prop)
  (hput:An (fun i o=>∀u v,(mk u).put o.dst v=mk (fun j=>if j=i then v else u j)) 0 ops.toList)
  (hst:∀w w',Rel w w'->∀i v,φ i v w->φ i v w')
  (h0:R (fun _=>false) w.drew)
  (hstep:An (fun i o=>∀(l:Nat->Bool) u w,l i=false->(∀e∈o.after,Region.binds .any e=true->l e.on=true/\φ e.on (u e.on) w)->R l w ->
   ∀K:Act->World->Prop,(∀v w' a',φ i v w'->Rel w w'->R (fun j=>if j=i then true else l j) w'->a'=(mk u).put o.dst v->K a' w') ->
    if Region.wanted o (yielded ops (mk u).tmps)=true then Oper.wp P o (mk u) w K Q else K ((mk u).put o.dst undef) w) 0 ops.toList)
  (hdone:∀(l:Nat->Bool) u w,(∀i,i<ops.size->l i=true)->(∀i,i<ops.size->φ i (u i) w)->R l w->Q .normal (mk u) w):(Code.region id ops true).wp P Q a w:=by
 subst ha;have hst':=fun i v w w' h=>hst w w' h i v;have hac':∀(i:Nat) (o:Oper),ops[i]?=some o->∀e∈o.after,Region.binds .any e=true->e.on<i:=by
  intro i o ho e he hbd;have hlt:i<ops.size:=(Array.getElem?_eq_some_iff.1 ho).1;have h:=List.all_eq_true.1 hac i (List.mem_range.2 hlt);rw[ho]at h;have:=Array.all_eq_true_iff_forall_mem.1 h e he;simpa [hbd]using this
 refine wp_region_any hm ?_
 refine Yb hac' (fun l a w=>∃u,a=mk u/\(∀i,l i=true->i<ops.size->φ i (u i) w)/\R l w) ?_ ?_ ops.size _ (mk u0) _ aM (by
  unfold Rc;exact ae (List.length_filter_le _ _) aM) ⟨u0,rfl,?_,?_⟩
 ·rintro l a w i o ho hl hpre ⟨u,rfl,hφ,hR⟩;have ho':ops.toList[i]?=some o:=by simpa using ho
  have hp:=hput i o ho';have hs:=hstep i o ho';rw[an]at hp hs;refine wpOp_step ho fun K' hK'=>?_;refine hs l u w hl (fun e he hb=>⟨hpre e he hb,hφ e.on (hpre e he hb) ?_⟩) hR K' (fun v w' a' hv hrel hR' ha'=>hK' _ _ ⟨_,ha'.trans (hp u v),fun j hj hjs=>?_,hR'⟩)
  ·exact il
  by_cases hji:j=i
  ·subst hji;simpa using hv
  have hj':l j=true:=eZ;simpa [hji]using hst' j _ w w' hrel (hφ j hj' hjs)
 ·rintro l a w hl ⟨u,rfl,hφ,hR⟩;exact iR
 ·intro i hi;simp[Array.getD]at hi
 have e:(fun j=>(Array.replicate ops.size false).getD j false)=fun _=>false:=by
  funext j
  simp[Array.getD]
 rw[e];exact h0
def Bk:List Nat->Nat->(Nat->Value)->List Value->List Value
 |[],_,_,t=>t
 |s::S,i,u,t=>Bk S (i+1) u (t.set s (u i))
def Br(a:Act)(S:List Nat)(u:Nat->Value):Act:={tmps:=(Bk S 0 u a.tmps.toList).toArray,defers:=a.defers}
theorem M8:∀(S:List Nat) (i:Nat) (u:Nat->Value) (t:List Value),(∀k s,S[k]?=some s->u (i+k)=t.getD s undef)->Bk S i u t=t
 |[],_,_,_,_=>rfl
 |s::S,i,u,t,h=>by
  have h0:u i=t.getD s undef:=by simpa using h 0 s rfl
  have e:t.set s (u i)=t:=by
   rw[h0];apply List.ext_getElem?;intro j;by_cases hj:s=j
   ·subst hj;by_cases hl:s<t.length
    ·simp[List.getD,hl]
    simp[hl]
   simp[hj]
  rw[Bk,e];exact M8 S (i+1) u t fun k s' hk=>by
   have:=h (k+1) s' (by simpa using hk);rwa [show i+1+k=i+(k+1)by omega]
theorem Mj:∀(S:List Nat) (i:Nat) (u v:Nat->Value) (t:List Value),(∀j,i<=j->u j=v j)->Bk S i u t=Bk S i v t
 |[],_,_,_,_,_=>rfl
 |s::S,i,u,v,t,h=>by
  rw[Bk,Bk,h i (Ao _)];exact Mj S (i+1) u v _ fun j hj=>h j aH
theorem Qv:∀(S:List Nat) (i:Nat) (u:Nat->Value) (t:List Value) (s:Nat) (v:Value),s∉S->(Bk S i u t).set s v=Bk S i u (t.set s v)
 |[],_,_,_,_,_,_=>rfl
 |s'::S,i,u,t,s,v,h=>by
  have h1:s≠s':=fun e=>h (by simp[e]);rw[Bk,Bk,Qv S (i+1) u _ s v (fun hm=>h (by simp[hm]))];congr 1
  exact(List.set_comm _ _ h1).symm
theorem Nt:∀(S:List Nat) (i:Nat) (u:Nat->Value) (t:List Value) (k s:Nat) (v:Value),S.Nodup->S[k]?=some s->(Bk S i u t).set s v=Bk S i (fun j=>if j=i+k then v else u j) t
 |[],_,_,_,k,s,v,_,h=>by simp at h
 |s'::S,i,u,t,0,s,v,hn,h=>by
  simp at h;subst h;rw[Bk,Bk,Qv S (i+1) u _ s' v (List.nodup_cons.1 hn).1];rw[if_pos aH,List.set_set];exact Mj S (i+1) u _ _ fun j hj=>by rw[if_neg aH]
 |s'::S,i,u,t,k+1,s,v,hn,h=>by
  simp at h;rw[Bk,Bk,Nt S (i+1) u _ k s v (List.nodup_cons.1 hn).2 h,if_neg aH];rw[show i+1+k=i+(k+1)by omega]
theorem Nr:∀(S:List Nat) (i:Nat) (u:Nat->Value) (t:List Value) (k s:Nat) (v:Value),S[k]?=some s->t.length<=s->Bk S i u t=Bk S i (fun j=>if j=i+k then v else u j) t
 |[],_,_,_,k,s,v,h,_=>by simp at h
 |s'::S,i,u,t,0,s,v,h,hl=>by
  simp at h;subst h;rw[Bk,Bk,List.set_eq_of_length_le hl,List.set_eq_of_length_le hl];exact Mj S (i+1) u _ _ fun j hj=>by rw[if_neg aH]
 |s'::S,i,u,t,k+1,s,v,h,hl=>by
  simp at h;rw[Bk,Bk,Nr S (i+1) u _ k s v h (by simpa using hl),if_neg aH];rw[show i+1+k=i+(k+1)by omega]
def Gl(n:Nat):List Oper->List Nat->Bool
 |[],[]=>true
 |o::os,s::S=>(match o.dst with|some d=>d == s|none=>decide (n<=s)) && !S.contains s && Gl n os S
 |_,_=>false
theorem Ng{n:Nat}:∀{os:List Oper} {S:List Nat},Gl n os S=true->S.Nodup/\∀(i:Nat) (o:Oper),os[i]?=some o->∃s,S[i]?=some s/\(o.dst=some s\/(o.dst=none/\n<=s))
 |[],[],_=>⟨List.nodup_nil,fun i o h=>by simp at h⟩
 |[],_::_,h=>by simp[Gl]at h
 |_::_,[],h=>by simp[Gl]at h
 |o::os,s::S,h=>by
  simp only[Gl,aw]at h;obtain⟨⟨h1,h2⟩,h3⟩:=h;obtain⟨hn,hs⟩:=Ng h3;refine⟨List.nodup_cons.2 ⟨by simpa using h2,hn⟩,fun i o' ho=>?_⟩;cases i with
  |zero=>
   simp at ho;subst ho;refine⟨s,rfl,?_⟩;cases hd:o.dst with
   |some d=>rw[hd]at h1;simp at h1;exact .inl (by rw[h1])
   |none=>rw[hd]at h1;simp at h1;exact .inr ⟨rfl,h1⟩
  |succ i=>simpa using hs i o' (by simpa using ho)
theorem Gk{id:Nat}{a:Act}{w:World}(S:List Nat)(hm:P.follows .mixedOrders=true)(hac:(List.range ops.size).all (fun i=>((ops[i]?).map fun o=>o.after.all fun e=>!Region.binds .any e || decide (e.on<i)).getD true)=true)
  (hS:Gl a.tmps.size ops.toList S=true) {mk:(Nat->Value)->Act} (hmk:∀u,Br a S u=mk u)
  (φ:Nat->Value->World->Prop) (R:(Nat->Bool)->World->Prop) (Rel:World->World->Prop)
  (hst:∀w w',Rel w w'->∀i v,φ i v w->φ i v w')
  (h0:R (fun _=>false) w.drew)
  (hstep:An (fun i o=>∀(l:Nat->Bool) u w,l i=false->(∀e∈o.after,Region.binds .any e=true->l e.on=true/\φ e.on (u e.on) w)->R l w ->
   ∀K:Act->World->Prop,(∀v w' a',φ i v w'->Rel w w'->R (fun j=>if j=i then true else l j) w'->a'=(mk u).put o.dst v->K a' w') ->
    if Region.wanted o (yielded ops (mk u).tmps)=true then Oper.wp P o (mk u) w K Q else K ((mk u).put o.dst undef) w) 0 ops.toList)
  (hdone:∀(l:Nat->Bool) u w,(∀i,i<ops.size->l i=true)->(∀i,i<ops.size->φ i (u i) w)->R l w->Q .normal (mk u) w):(Code.region id ops true).wp P Q a w:=by
 obtain rfl:Br a S=mk:=funext hmk;obtain⟨hn,hs⟩:=Ng hS;refine Xn hm hac (Br a S) (fun i=>a.tmps.toList.getD (S.getD i 0) undef) ?_ φ R Rel ?_ hst h0 hstep hdone
 ·exact iD
 intro i o ho u v;rw[an];obtain⟨s,hsi,hd|⟨hd,hb⟩⟩:=hs i o ho
 ·exact hM
 have e:=Nr S 0 u a.tmps.toList i s v hsi (by simpa using hb);rw[an]at e;unfold Br Act.put;rw[hd];simp only[<-e]
end
section
variable {P:Program} {ops:Array Oper} {Q:Exit->Act->World->Prop}
theorem Be{id:Nat}{a:Act}{w:World}(S:List Nat)(hm:P.follows .mixedOrders=true)(hac:(List.range ops.size).all (fun i=>((ops[i]?).map fun o=>o.after.all fun e=>!Region.binds .any e || decide (e.on<i)).getD true)=true)
  (hS:Gl a.tmps.size ops.toList S=true) {mk:(Nat->Value)->Act} (hmk:∀u,Br a S u=mk u)
  (φ:Nat->Value->World->Prop) (R:(Nat->Bool)->(Nat->Value)->World->Prop) (Rel:World->World->Prop)
  (hst:∀w w',Rel w w'->∀i v,φ i v w->φ i v w')
  (h0:R (fun _=>false) (fun i=>a.tmps.toList.getD (S.getD i 0) undef) w.drew)
  (hstep:An (fun i o=>∀(l:Nat->Bool) u w,l i=false->(∀e∈o.after,Region.binds .any e=true->l e.on=true/\φ e.on (u e.on) w)->R l u w ->
   (∀j,l j=false->u j=a.tmps.toList.getD (S.getD j 0) undef)->(∀(j:Nat) (o:Oper),ops[j]?=some o->∀e∈o.after,Region.binds .any e=true->l e.on=false->l j=false) ->
   ∀K:Act->World->Prop,(∀v w' a',φ i v w'->Rel w w'->R (fun j=>if j=i then true else l j) (fun j=>if j=i then v else u j) w'->a'=(mk u).put o.dst v->K a' w') ->
    if Region.wanted o (yielded ops (mk u).tmps)=true then Oper.wp P o (mk u) w K Q else K ((mk u).put o.dst undef) w) 0 ops.toList)
  (hdone:∀(l:Nat->Bool) u w,(∀i,i<ops.size->l i=true)->(∀i,i<ops.size->φ i (u i) w)->R l u w->Q .normal (mk u) w):(Code.region id ops true).wp P Q a w:=by
 obtain rfl:Br a S=mk:=funext hmk;obtain⟨hn,hs⟩:=Ng hS;have hput:∀(i:Nat) (o:Oper),ops.toList[i]?=some o->∀u v,(Br a S u).put o.dst v=Br a S (fun j=>if j=i then v else u j):=by
  intro i o ho u v;obtain⟨s,hsi,hd|⟨hd,hb⟩⟩:=hs i o ho
  ·exact hM
  have e:=Nr S 0 u a.tmps.toList i s v hsi (by simpa using hb);rw[an]at e;unfold Br Act.put;rw[hd];simp only[<-e]
 have hac':∀(i:Nat) (o:Oper),ops[i]?=some o->∀e∈o.after,Region.binds .any e=true->e.on<i:=by
  intro i o ho e he hbd;have hlt:i<ops.size:=(Array.getElem?_eq_some_iff.1 ho).1;have h:=List.all_eq_true.1 hac i (List.mem_range.2 hlt);rw[ho]at h;have:=Array.all_eq_true_iff_forall_mem.1 h e he;simpa [hbd]using this
 refine wp_region_any hm ?_
 refine Yb hac' (fun l b w=>∃u,b=Br a S u/\(∀i,l i=true->i<ops.size->φ i (u i) w)/\R l u w/\(∀j,l j=false->u j=a.tmps.toList.getD (S.getD j 0) undef) /\
   (∀(j:Nat) (o:Oper),ops[j]?=some o->∀e∈o.after,Region.binds .any e=true->l e.on=false->l j=false)) ?_ ?_ ops.size _ a _ aM (by
  unfold Rc;exact ae (List.length_filter_le _ _) aM) ⟨fun i=>a.tmps.toList.getD (S.getD i 0) undef,?_,?_,?_,fun _ _=>rfl,?_⟩
 ·rintro l b w i o ho hl hpre ⟨u,rfl,hφ,hR,hi,hdn⟩;have ho':ops.toList[i]?=some o:=by simpa using ho
  have hp:=hput i o ho';have hs':=hstep i o ho';rw[an]at hs';refine wpOp_step ho fun K' hK'=>?_;refine hs' l u w hl (fun e he hb=>⟨hpre e he hb,hφ e.on (hpre e he hb) ?_⟩) hR hi hdn K' (fun v w' a' hv hrel hR' ha'=>hK' _ _ ⟨_,ha'.trans (hp u v),fun j hj hjs=>?_,hR',fun j hj=>?_,fun j o' hj e he hb hle=>?_⟩)
  ·exact il
  ·by_cases hji:j=i
   ·subst hji;simpa using hv
   have hj':l j=true:=eZ;simpa [hji]using hst w w' hrel j _ (hφ j hj' hjs)
  ·by_cases hji:j=i
   ·subst hji;simp at hj
   have hj':l j=false:=eZ;simpa [hji]using hi j hj'
  have hne:e.on≠i:=by rintro rfl;simp at hle
  have hle':l e.on=false:=by simpa [hne]using hle
  have hlj:=hdn j o' hj e he hb hle';have hji:j≠i:=by
   rintro rfl;rw[ho]at hj;injection hj with hj;subst hj;rw[hpre e he hb]at hle';cases hle'
  simpa [hji]using hlj
 ·rintro l b w hl ⟨u,rfl,hφ,hR,_,_⟩;exact iR
 ·exact iD
 ·intro i hi;simp[Array.getD]at hi
 ·have e:(fun j=>(Array.replicate ops.size false).getD j false)=fun _=>false:=by
   funext j
   simp[Array.getD]
  rw[e];exact h0
 intro j o hj e he hb _;simp[Array.getD]
end
theorem Bi{ops:Array Oper}{l:Nat->Bool}(h:∀(j:Nat) (o:Oper),ops[j]?=some o->∀e∈o.after,Region.binds .any e=true->l e.on=false->l j=false)(j i:Nat)(hc:((ops[j]?).map fun o=>o.after.toList.any fun e=>decide (e.on=i) && Region.binds .any e)=some true)(hi:l i=false):l j=false:=by
 cases ho:ops[j]? with
 |none=>rw[ho]at hc;cases hc
 |some o=>
  rw[ho]at hc;have hc:(o.after.toList.any fun e=>decide (e.on=i) && Region.binds .any e)=true:=by injection hc
  obtain⟨e,he,h2⟩:=List.any_eq_true.1 hc;rw[aw,decide_eq_true_iff]at h2;obtain⟨rfl,h3⟩:=h2;exact h j o ho e cP h3 hi
theorem rgE{P:Program}{ops:Array Oper}{Q:Exit->Act->World->Prop}{id:Nat}{a:Act}{w:World}(S:List Nat){mk:(Nat->Value)->Act}
  (φ:Nat->Value->World->Prop) (R:(Nat->Bool)->(Nat->Value)->World->Prop)
  (h0:R (fun _=>false) (fun i=>a.tmps.toList.getD (S.getD i 0) undef) w.drew)
  (hstep:An (fun i o=>∀(l:Nat->Bool) u w,l i=false->(∀e∈o.after,Region.binds .any e=true->l e.on=true/\φ e.on (u e.on) w)->R l u w ->
   (∀j,l j=false->u j=a.tmps.toList.getD (S.getD j 0) undef)->(∀(j:Nat) (o:Oper),ops[j]?=some o->∀e∈o.after,Region.binds .any e=true->l e.on=false->l j=false) ->
   ∀K:Act->World->Prop,(∀v w' a',φ i v w'->True->R (fun j=>if j=i then true else l j) (fun j=>if j=i then v else u j) w'->a'=(mk u).put o.dst v->K a' w') ->
    if Region.wanted o (yielded ops (mk u).tmps)=true then Oper.wp P o (mk u) w K Q else K ((mk u).put o.dst undef) w) 0 ops.toList)
  (hdone:∀(l:Nat->Bool) u w,(∀i,i<ops.size->l i=true)->(∀i,i<ops.size->φ i (u i) w)->R l u w->Q .normal (mk u) w)
  (hc:(P.follows .mixedOrders && (List.range ops.size).all (fun i=>((ops[i]?).map fun o=>o.after.all fun e=>!Region.binds .any e || decide (e.on<i)).getD true) && Gl a.tmps.size ops.toList S)=true:=by kernel_rfl) (hst:∀w w':World,True->∀i v,φ i v w->φ i v w':=by exact fun _ _ _ _ _ h=>h) (hmk:∀u,Br a S u=mk u:=by intro u;dsimp only[Br,Bk,List.set,an,Nat.reduceAdd]):(Code.region id ops true).wp P Q a w:=
 have h1:=Bool.and_eq_true_iff.1 hc;have h2:=Bool.and_eq_true_iff.1 h1.1;Be S h2.1 h2.2 h1.2 hmk φ R (fun _ _=>True) hst h0 hstep hdone
theorem M4{P:Program}{ops:Array Oper}{Q:Exit->Act->World->Prop}{id:Nat}{a:Act}{w:World}(S:List Nat){mk:(Nat->Value)->Act}
  (φ:Nat->Value->World->Prop) (R:(Nat->Bool)->(Nat->Value)->World->Prop)
  (h0:R (fun _=>false) (fun i=>a.tmps.toList.getD (S.getD i 0) undef) w.drew)
  (hstep:An (fun i o=>∀(l:Nat->Bool) u w,l i=false->(∀e∈o.after,Region.binds .any e=true->l e.on=true/\φ e.on (u e.on) w)->Hid (R l u w)->Hid (∀(j:Nat) (o:Oper),ops[j]?=some o->∀e∈o.after,Region.binds .any e=true->l e.on=false->l j=false) ->
   ∀K:Act->World->Prop,(∀v w' a',φ i v w'->True->R (fun j=>if j=i then true else l j) (fun j=>if j=i then v else u j) w'->a'=(mk u).put o.dst v->K a' w') ->
    if Region.wanted o (yielded ops (mk u).tmps)=true then Oper.wp P o (mk u) w K Q else K ((mk u).put o.dst undef) w) 0 ops.toList)
  (hdone:∀(l:Nat->Bool) u w,(∀i,i<ops.size->l i=true)->(∀i,i<ops.size->φ i (u i) w)->R l u w->Q .normal (mk u) w)
  (hc:(P.follows .mixedOrders && (List.range ops.size).all (fun i=>((ops[i]?).map fun o=>o.after.all fun e=>!Region.binds .any e || decide (e.on<i)).getD true) && Gl a.tmps.size ops.toList S)=true:=by kernel_rfl) (hst:∀w w':World,True->∀i v,φ i v w->φ i v w':=by exact fun _ _ _ _ _ h=>h) (hmk:∀u,Br a S u=mk u:=by intro u;dsimp only[Br,Bk,List.set,an,Nat.reduceAdd]):(Code.region id ops true).wp P Q a w:=
 have h1:=Bool.and_eq_true_iff.1 hc;have h2:=Bool.and_eq_true_iff.1 h1.1;Be S h2.1 h2.2 h1.2 hmk φ R (fun _ _=>True) hst h0 (fun i o ho l u w h1 h2 hR _ hd=>hstep i o ho l u w h1 h2 hR hd) hdone
theorem H5{a b:Bool}(h:a=false->b=false)(l:b=true):a=true:=by
 cases a with
 |true=>rfl
 |false=>rw[h rfl]at l;cases l
def Et:List (Value->Prop)->Nat->Value->Prop
 |[],_,_=>True
 |p::_,0,v=>p v
 |_::ps,n+1,v=>Et ps n v
def Qef:List (Value->Prop)->Nat->(Nat->Value)->Prop
 |[],_,_=>True
 |p::ps,i,u=>p (u i)/\Qef ps (i+1) u
theorem Qdq:∀(ps:List (Value->Prop)) (i:Nat) (u:Nat->Value),(∀j,j<ps.length->Et ps j (u (i+j)))->Qef ps i u
 |[],_,_,_=>Ab
 |p::ps,i,u,h=>⟨h 0 (by simp),Qdq ps (i+1) u fun j hj=>by
  have:=h (j+1) (by simp;omega)
  rwa [show i+(j+1)=i+1+j by omega]at this⟩
theorem Qar:∀(ps qs:List (Value->Prop)) (j:Nat) (v:Value),j<ps.length->Et (ps++qs) j v=Et ps j v
 |[],_,_,_,h=>by simp at h
 |p::ps,_,0,_,_=>rfl
 |p::ps,qs,j+1,v,h=>Qar ps qs j v (by simpa using h)
theorem Qb0:∀(ps:List (Value->Prop)) (p:Value->Prop) (v:Value),Et (ps++[p]) ps.length v=p v
 |[],_,_=>rfl
 |_::ps,p,v=>Qb0 ps p v
def Qja(ops:Array Oper)(j i:Nat):Bool:=((ops[j]?).map fun o=>o.after.toList.any fun e=>decide (e.on=i) && Region.binds .any e).getD false
section
variable {P:Program} {ops:Array Oper} {Q:Exit->Act->World->Prop} {a:Act} {mk:(Nat->Value)->Act} {R:(Nat->Bool)->(Nat->Value)->World->Prop} {G:World->Prop}
def El:List Oper->List Nat
 |[]=>[]
 |o::os=>(match o.dst with|some d=>d|none=>100000+os.length)::El os
def St(P:Program)(ops:Array Oper)(Q:Exit->Act->World->Prop)(a:Act)(mk:(Nat->Value)->Act)(R:(Nat->Bool)->(Nat->Value)->World->Prop)(G:World->Prop)(i:Nat)(o:Oper)(ps:List (Value->Prop))(p:Value->Prop):Prop:=
 ∀(l:Nat->Bool) (u:Nat->Value) (W:World),l i=false->(∀e∈o.after,Region.binds .any e=true->l e.on=true/\Et ps e.on (u e.on))->Hid (R l u W)->G W->Hid (∀j,Qja ops j i=true->l j=false/\u j=a.tmps.toList.getD ((El ops.toList).getD j 0) undef) ->
  ∀K:Act->World->Prop,(∀v w' a',p v->R (fun j=>if j=i then true else l j) (fun j=>if j=i then v else u j) w'->a'=(mk u).put o.dst v->K a' w') ->
   if Region.wanted o (yielded ops (mk u).tmps)=true then Oper.wp P o (mk u) W K Q else K ((mk u).put o.dst undef) W
def Sq(P:Program)(ops:Array Oper)(Q:Exit->Act->World->Prop)(a:Act)(mk:(Nat->Value)->Act)(R:(Nat->Bool)->(Nat->Value)->World->Prop)(G:World->Prop):List Oper->Nat->List (Value->Prop)->Prop
 |[],n,ps=>∀l u W,(∀i,i<n->l i=true)->Qef ps 0 u->R l u W->Q .normal (mk u) W
 |o::os,i,ps=>∃p,St P ops Q a mk R G i o ps p/\Sq P ops Q a mk R G os (i+1) (ps++[p])
theorem Sq.all:∀(os:List Oper) (i:Nat) (ps:List (Value->Prop)),ps.length=i->Sq P ops Q a mk R G os i ps ->
  ∃qs:List (Value->Prop),qs.length=os.length/\(∀j o,os[j]?=some o->St P ops Q a mk R G (i+j) o ((ps++qs).take (i+j)) (Et (ps++qs) (i+j)))/\∀l u W,(∀j,j<i+os.length->l j=true)->Qef (ps++qs) 0 u->R l u W->Q .normal (mk u) W
 |[],i,ps,hl,h=>⟨[],rfl,by simp,by simpa [Sq]using h⟩
 |o::os,i,ps,hl,⟨p,h1,h2⟩=>by
  obtain⟨qs,e,h3,h4⟩:=Sq.all os (i+1) (ps++[p]) (by simp[hl]) h2
  refine⟨p::qs,by simp[e],fun j o' ho=>?_,fun l u W hl'=>?_⟩
  ·cases j with
   |zero=>
    simp at ho
    subst ho
    have e1:(ps++p::qs).take (i+0)=ps:=by rw[Nat.add_zero,<-hl];simp
    have e2:Et (ps++p::qs) (i+0)=p:=by
     funext v
     rw[Nat.add_zero,show ps++p::qs=(ps++[p])++qs by simp,Qar _ _ _ _ (by simp;omega),<-hl,Qb0]
    rw[e1,e2]
    exact h1
   |succ j=>
    simp at ho
    have:=h3 j o' ho
    rw[List.append_assoc,List.singleton_append,show i+1+j=i+(j+1)by omega]at this
    exact this
  have:=h4 l u W fun j hj=>hl' j (by simp only[List.length_cons];omega)
  rwa [List.append_assoc,List.singleton_append]at this
theorem Yk:∀(ps:List (Value->Prop)) (i j:Nat) (v:Value),j<i->Et (ps.take i) j v=Et ps j v
 |[],_,_,_,_=>by simp
 |p::ps,0,_,_,h=>absurd h (by omega)
 |p::ps,i+1,0,_,_=>rfl
 |p::ps,i+1,j+1,v,h=>Yk ps i j v (by omega)
theorem rgF{id:Nat}{w:World}(R:(Nat->Bool)->(Nat->Value)->World->Prop)(G:World->Prop)(hG:∀l u W,R l u W->G W)(h0:R (fun _=>false) (fun i=>a.tmps.toList.getD ((El ops.toList).getD i 0) undef) w.drew)(h:Sq P ops Q a mk R G ops.toList 0 [])
  (hc:(P.follows .mixedOrders && (List.range ops.size).all (fun i=>((ops[i]?).map fun o=>o.after.all fun e=>!Region.binds .any e || decide (e.on<i)).getD true) && Gl a.tmps.size ops.toList (El ops.toList))=true:=by kernel_rfl)
  (hmk:∀u,Br a (El ops.toList) u=mk u:=by intro u;dsimp only[Br,El,Bk,List.set,Nat.zero_add,Nat.reduceAdd,List.length_cons,List.length_nil]):(Code.region id ops true).wp P Q a w:=by
 have h1:=Bool.and_eq_true_iff.1 hc
 have h2:=Bool.and_eq_true_iff.1 h1.1
 obtain⟨qs,e,h3,h4⟩:=Sq.all ops.toList 0 [] rfl h
 rw[List.nil_append]at h3 h4
 have hac:=h2.2
 refine Be (El ops.toList) h2.1 hac h1.2 hmk (fun i v _=>Et qs i v) R (fun _ _=>True) (fun _ _ _ _ _ h=>h) h0 ?_ ?_
 ·intro i o ho l u W hl hp hF hun hdep K hK
  simp only[Nat.zero_add]at *
  have hs:=h3 i o ho
  refine hs l u W hl (fun e he hb=>⟨(hp e he hb).1,?_⟩) hF (hG l u W hF) (fun j hj=>?_) K fun v w' a' hv hF' ha=>hK v w' a' hv Ab hF' ha
  ·have ho':ops[i]?=some o:=by simpa using ho
   have hlt:i<ops.size:=(Array.getElem?_eq_some_iff.1 ho').1
   have hh:=List.all_eq_true.1 hac i (List.mem_range.2 hlt)
   rw[ho']at hh
   have h5:=Array.all_eq_true_iff_forall_mem.1 hh e he
   have h6:e.on<i:=by simpa [hb]using h5
   rw[Yk _ _ _ _ h6]
   exact(hp e he hb).2
  unfold Qja at hj
  cases hjo:ops[j]? with
  |none=>rw[hjo]at hj;cases hj
  |some o'=>
   rw[hjo]at hj
   simp only[Option.map_some,Option.getD_some]at hj
   obtain⟨e,he,h5⟩:=List.any_eq_true.1 hj
   rw[Bool.and_eq_true,decide_eq_true_iff]at h5
   obtain⟨rfl,h6⟩:=h5
   have:=hdep j o' hjo e (by simpa using he) h6 hl
   exact⟨this,hun j this⟩
 intro l u W hl hφ hF
 exact h4 l u W (fun j hj=>hl j (by rw[<-Array.length_toList];omega)) (Qdq _ _ _ fun j hj=>by rw[Nat.zero_add];exact hφ j (by rw[<-Array.length_toList];omega)) hF
def Gi(w W:World):Prop:=∀b o k,b<w.heap.size->W.cell? ⟨b,o,k⟩=w.cell? ⟨b,o,k⟩
theorem H8{w W:World}(h:Below w.heap.size w W):Gi w W:=fun b o k hb=>h.cell (p:=⟨b,o,k⟩) hb
theorem rgB{id:Nat}{w:World}(h:Sq P ops Q a mk (fun _ _=>Below w.heap.size w) (Gi w) ops.toList 0 [])
  (hc:(P.follows .mixedOrders && (List.range ops.size).all (fun i=>((ops[i]?).map fun o=>o.after.all fun e=>!Region.binds .any e || decide (e.on<i)).getD true) && Gl a.tmps.size ops.toList (El ops.toList))=true:=by kernel_rfl)
  (hmk:∀u,Br a (El ops.toList) u=mk u:=by intro u;dsimp only[Br,El,Bk,List.set,Nat.zero_add,Nat.reduceAdd,List.length_cons,List.length_nil]):(Code.region id ops true).wp P Q a w:=
 rgF (fun _ _=>Below w.heap.size w) (Gi w) (fun _ _ _ h=>H8 h) (At _ _).drew h hc hmk
theorem rgD{id:Nat}{w:World}(h:Sq P ops Q a mk (fun _ _ W=>∃k,W=w.drewN k) (fun W=>∀p,W.cell? p=w.cell? p) ops.toList 0 [])
  (hc:(P.follows .mixedOrders && (List.range ops.size).all (fun i=>((ops[i]?).map fun o=>o.after.all fun e=>!Region.binds .any e || decide (e.on<i)).getD true) && Gl a.tmps.size ops.toList (El ops.toList))=true:=by kernel_rfl)
  (hmk:∀u,Br a (El ops.toList) u=mk u:=by intro u;dsimp only[Br,El,Bk,List.set,Nat.zero_add,Nat.reduceAdd,List.length_cons,List.length_nil]):(Code.region id ops true).wp P Q a w:=
 rgF (fun _ _ W=>∃k,W=w.drewN k) (fun W=>∀p,W.cell? p=w.cell? p) (fun _ _ W h p=>by obtain⟨k,rfl⟩:=h;rfl) ⟨1,rfl⟩ h hc hmk
section
variable {o:Oper} {os:List Oper} {i:Nat} {ps:List (Value->Prop)} {v:Value}
theorem sq(k:Sq P ops Q a mk R G os (i+1) (ps++[fun x=>x=v]))(h:St P ops Q a mk R G i o ps (fun x=>x=v):=by
  intro l u W hl hp hF hG hi K hK
  first|unfold Gi at hG|skip
  first|(simp[Region.binds,Et]at hp;done)|simp[Region.binds,Et]at hp|clear hp
  go_simp
  exact hK _ _ _ rfl hF.o (by first|rfl|(simp[Act.put,hp];done)|(simp[Act.put,hp];exact rfl))):Sq P ops Q a mk R G (o::os) i ps:=⟨_,h,k⟩
theorem sqI(J:Nat)(k:Sq P ops Q a mk R G os (i+1) (ps++[fun x=>x=v]))(h:∀j,j=J->St P ops Q a mk R G i o ps (fun x=>x=v):=by
  intro j hj l u W hl hp hF hG hi K hK
  have hq:=(hi.o j (by rw[hj];rfl)).2
  rw[hj]at hq
  simp[El]at hq
  first|unfold Gi at hG|skip
  first|(simp[Region.binds,Et]at hp;done)|simp[Region.binds,Et]at hp|clear hp
  go_simp
  exact hK _ _ _ rfl hF.o (by first|rfl|(simp[Act.put,hq];done)|(simp[Act.put,hq];exact rfl)|(simp[Act.put,hp,hq];done)|(simp[Act.put,hp,hq];exact rfl))):Sq P ops Q a mk R G (o::os) i ps:=⟨_,h J rfl,k⟩
theorem sqD{C:World->Prop}{w:World}(X:∀W,(∃k,W=w.drewN k)->C W)(k:Sq P ops Q a mk (fun _ _ W=>∃k,W=w.drewN k) G os (i+1) (ps++[fun x=>x=v]))(h:(∀W,(∃k,W=w.drewN k)->C W)->St P ops Q a mk (fun _ _ W=>∃k,W=w.drewN k) G i o ps (fun x=>x=v):=by
  intro X l u W hl hp hF hG hi K hK
  have HX:=X W hF.o
  first|(simp[Region.binds,Et]at hp;done)|simp[Region.binds,Et]at hp|clear hp
  go_simp
  refine HX.mono ?_
  rintro e w' ⟨rfl,k',rfl⟩
  obtain⟨k,rfl⟩:=hF.o
  exact hK _ _ _ rfl ⟨k+k',by simp[World.drewN,Nat.add_assoc]⟩ (by first|rfl|(simp[Act.put,hp];done)|(simp[Act.put,hp];exact rfl))):Sq P ops Q a mk (fun _ _ W=>∃k,W=w.drewN k) G (o::os) i ps:=⟨_,h X,k⟩
theorem Sb(p:Value->Prop)(h:St P ops Q a mk R G i o ps p)(k:Sq P ops Q a mk R G os (i+1) (ps++[p])):Sq P ops Q a mk R G (o::os) i ps:=⟨_,h,k⟩
theorem dnB{b:Act}{F:World->Prop}(h:∀W,Hid (F W)->Q .normal b W)(e:∀u,Qef ps 0 u->mk u=b:=by
  intro u h
  simp only[Qef,List.nil_append,List.cons_append,Nat.zero_add,Nat.reduceAdd]at h
  simp only[h]
  exact rfl):Sq P ops Q a mk (fun _ _=>F) G [] i ps:=fun l u W hl hu hF=>by rw[e u hu];exact h W hF
end
end
theorem Ax{B:Nat}{w w':World}{b o:Nat}{cs:List Value}(h:w.rangeAt b o cs)(hb:b<B)(hw:Below B w w'):w'.rangeAt b o cs:=fun j v hv=>(hw.cell (p:=⟨b,o+j,none⟩) hb).trans (h j v hv)
theorem Au{B:Nat}{w w':World}{b o n:Nat}(h:w.there b o n)(hb:b<B)(hw:Below B w w'):w'.there b o n:=fun j hj=>by
 rw[hw.cell (p:=⟨b,o+j,none⟩) hb,hw.frozen (p:=⟨b,o+j,none⟩) hb];exact h j hj
theorem Gh{w w':World}{b o:Nat}{cs:List Value}{row:Option Nat}(h:w.rangeAt b o cs)(hg:w.grownBy w' row)(hne:some b≠row):w'.rangeAt b o cs:=fun j v hv=>hg.cell (h j v hv) hne
theorem Gv{w w':World}{b o n:Nat}{row:Option Nat}(h:w.there b o n)(hg:w.grownBy w' row)(hb:b<w.heap.size)(hne:some b≠row):w'.there b o n:=fun j hj=>by
 rw[hg.cell_far ⟨b,o+j,none⟩ hb hne,hg.frozen_far ⟨b,o+j,none⟩ hb hne];exact h j hj
theorem J9{w:World}{b o n:Nat}(h:w.there b o n)(p m:Nat)(h1:o<=p)(h2:p+m<=o+n):w.there b p m:=fun j hj=>by
 have:=h (p+j - o) aH;rwa [show o+(p+j - o)=p+j by omega]at this
theorem Cj(w:World)(cs:List Value)(t:TypeId):(w.alloc (.cells cs.toArray t)).rangeAt w 0 cs:=fun j v hv=>by
 rw[World.cell?_alloc_new];simpa using hv
theorem Ct(w:World)(cs:List Value)(t:TypeId):(w.alloc (.cells cs.toArray t)).there w 0 cs.length:=fun j hj=>by
 refine⟨?_,by simp⟩;rw[World.cell?_alloc_new];simp;omega
theorem Aj{B:Nat}{a:World}(b:Nat)(hb:B<=b):∀(vs:List Value) (o:Nat) (w:World),Below B a w->Below B a (w.setCells b o vs)
 |[],_,_,h=>h
 |v::r,o,w,h=>Aj b hb r (o+1) _ (h.setCell hb v)
theorem C4(b:Nat):∀(vs:List Value) (o:Nat) (w:World),(w.setCells b o vs).heap.size=w.heap.size
 |[],_,_=>rfl
 |v::r,o,w=>by rw[World.setCells,C4 b r];simp
theorem Ac{w:World}{b o:Nat}{cs:List Value}(h:w.rangeAt b o cs)(j:Nat){v:Value}(hv:cs[j]?=some v):w.cell? ⟨b,o+j,none⟩=some v:=h j v hv
theorem Qac{w:World}{b o:Nat}(l1 l2 l3:List Value)(h:w.rangeAt b o (l1++(l2++l3))):w.rangeAt b (o+l1.length) l2:=fun j v hv=>by
 have hj:=(List.getElem?_eq_some_iff.1 hv).1;rw[Nat.add_assoc];exact h _ v (by rw[List.getElem?_append_right aH,Nat.add_sub_cancel_left,List.getElem?_append_left hj];exact hv)
theorem Cx{w:World}{b:Nat}(l1 l2 l3 l2':List Value)(h:w.rangeAt b 0 (l1++(l2++l3)))(hl:l2'.length=l2.length):(w.setCells b l1.length l2').rangeAt b 0 (l1++(l2'++l3)):=fun j v hv=>by
 have hjl:j<l1.length+(l2'.length+l3.length):=by
  have:=(List.getElem?_eq_some_iff.1 hv).1;simpa using this
 have hsome:∀i,i<l2'.length->(w.cell? ⟨b,l1.length+i,none⟩).isSome=true:=fun i hi=>by
  have e:(l1++(l2++l3))[l1.length+i]?=some (l2[i]' aH):=by
   rw[List.getElem?_append_right aH,List.getElem?_append_left aH,Nat.add_sub_cancel_left,List.getElem?_eq_getElem aH]
  have:=h _ _ e;rw[an]at this;rw[this];rfl
 rw[an];rcases aG j l1.length with h1|h1
 ·rw[World.cell?_setCells_out b l2' l1.length w ⟨b,j,none⟩ (fun _ _=>.inl h1)];rw[List.getElem?_append_left h1]at hv;have:=h j v (by rw[List.getElem?_append_left h1];exact hv);rwa [an]at this
 rw[List.getElem?_append_right h1]at hv;rcases aG (j - l1.length) l2'.length with h2|h2
 ·rw[List.getElem?_append_left h2,List.getElem?_eq_getElem h2]at hv;have:=World.cell?_setCells_in b l2' l1.length w hsome (j - l1.length) h2;rw[show l1.length+(j - l1.length)=j by omega]at this;rw[this];exact hv
 rw[World.cell?_setCells_out b l2' l1.length w ⟨b,j,none⟩ (fun _ _=>.inr (by show l1.length+l2'.length<=j;omega))];rw[List.getElem?_append_right h2]at hv;have:=h j v (by rw[List.getElem?_append_right h1,List.getElem?_append_right aH,<-hl];exact hv);rwa [an]at this
section
variable {P:Program}
theorem Ae{ops:Array Oper}{rest:List Oper}{op:Oper}{a:Act}{w:World}{Q:Exit->Act->World->Prop}(hgd:op.guard=none)(ty:TypeId)(x y:Operand)(ho:op.op=.store ty x y)
  (b o:Nat) (cs:List Value) (hx:a.eval x=.pointer (some ⟨b,o,none⟩)) (hy:a.eval y=.agg cs.toArray)
  (ht:w.there b o cs.length) (hi:(P.info? ty).map (·.size)=some cs.length) (h1:∀v∈cs,v.oneCell'=true)
  (h:∀w',Hid (w'=w.setCells b o cs)->wpList P ops Q rest (a.put op.dst undef) w'):wpList P ops Q (op::rest) a w:=
 wpList_store_mid hgd ty x y ho b o cs.toArray hx hy dV (by simpa using hi) (all_oneCell_toArray h1) (h _ rfl)
theorem As{fn:Func}{p q:Tmp}{ty:TypeId}(h:fn.results=#[.cell p ty,.tmp q])(tmps:Array Value)(w:World)(b:Nat)(cs:List Value)(d:TypeDesc)(x:Value)
  (hp:tmps.getD p undef=b) (hq:tmps.getD q undef=x) (hc:w.rangeAt b 0 cs) (hu:P.underlying ty=some d) (hd:d.isRow=true) (hi:(P.info? ty).map (·.size)=some cs.length):
  (results fn tmps).run P w=.ok (.tuple #[.agg cs.toArray,x]) w:=by
 have hp':tmps[p]?.getD undef=b:=eN;have hq':tmps[q]?.getD undef=x:=by simpa using hq
 simp[results,h,hp',hq',asAddr,run_loadVar_mid w b 0 ty cs d hc hu hd hi]
theorem Fm{fn:Func}{r p q:Tmp}{ty:TypeId}(h:fn.results=#[.tmp r,.cell p ty,.tmp q])(tmps:Array Value)(w:World)(b:Nat)(cs:List Value)(d:TypeDesc)(y x:Value)
  (hr:tmps.getD r undef=y) (hp:tmps.getD p undef=b) (hq:tmps.getD q undef=x) (hc:w.rangeAt b 0 cs) (hu:P.underlying ty=some d) (hd:d.isRow=true) (hi:(P.info? ty).map (·.size)=some cs.length):
  (results fn tmps).run P w=.ok (.tuple #[y,.agg cs.toArray,x]) w:=by
 have hp':tmps[p]?.getD undef=b:=eN;have hq':tmps[q]?.getD undef=x:=by simpa using hq
 have hr':tmps[r]?.getD undef=y:=dU;simp[results,h,hp',hq',hr',asAddr,run_loadVar_mid w b 0 ty cs d hc hu hd hi]
end
end Go.Proofs.YtpjijpcemejlnaaGreatDoor
namespace Go.Proofs
open Go.Shelf
def Tryz.lays125_ren:Go.Shelf.Ren:=⟨fun|125=>149|128=>187|129=>188|n=>n,fun|46=>195|3=>3|51=>231|53=>233|4=>4|5=>5|9=>9|n=>n,fun|n=>n⟩
theorem Tryz.lays125:Go.Proofs.Lays.n125 Tryz.prog Tryz.lays125_ren:={
 mixed:=by kernel_rfl
 f125:=Tryz.func149.trans (congrArg some (by kernel_rfl))
 f128:=Tryz.func187.trans (congrArg some (by kernel_rfl))
 f129:=Tryz.func188.trans (congrArg some (by kernel_rfl))
 t3:=Tryz.underlying3
 a3:=Tryz.isAgg3
 z3:=Tryz.sizeOf3
 v3:=Tryz.zeroValue3
 t4:=Tryz.underlying4
 a4:=Tryz.isAgg4
 z4:=Tryz.sizeOf4
 v4:=Tryz.zeroValue4
 t5:=Tryz.underlying5
 a5:=Tryz.isAgg5
 z5:=Tryz.sizeOf5
 v5:=Tryz.zeroValue5
 t9:=Tryz.underlying9
 a9:=Tryz.isAgg9
 z9:=Tryz.sizeOf9
 v9:=Tryz.zeroValue9
 t46:=Tryz.underlying195
 a46:=Tryz.isAgg195
 z46:=Tryz.sizeOf195
 v46:=Tryz.zeroValue195
 t51:=Tryz.underlying231
 a51:=Tryz.isAgg231
 z51:=Tryz.sizeOf231
 v51:=Tryz.zeroValue231
 t53:=Tryz.underlying233
 a53:=Tryz.isAgg233
 z53:=Tryz.sizeOf233
 v53:=Tryz.zeroValue233}
def Tryz.laysE41_ren:Go.Shelf.Ren:=⟨fun|41=>109|n=>n,fun|22=>45|23=>47|4=>4|n=>n,fun|n=>n⟩
theorem Tryz.laysE41:Go.Proofs.SlLaysE0.n41 Tryz.prog Tryz.laysE41_ren:={
 mixed:=by kernel_rfl
 f41:=⟨Tryz.f109.name,by decide,Tryz.func109.trans (congrArg some (by kernel_rfl))⟩
 t4:=Tryz.underlying4
 a4:=Tryz.isAgg4
 z4:=Tryz.sizeOf4
 v4:=Tryz.zeroValue4
 t22:=Tryz.underlying45
 a22:=Tryz.isAgg45
 z22:=Tryz.sizeOf45
 v22:=Tryz.zeroValue45}
def Tryz.laysF6_ren:Go.Shelf.Ren:=⟨fun|6=>110|15=>149|14=>148|28=>187|29=>188|20=>179|21=>180|22=>181|23=>182|24=>183|25=>184|26=>185|27=>186|46=>201|47=>202|48=>203|49=>204|50=>205|57=>216|n=>n,fun|22=>45|24=>47|25=>170|3=>3|39=>195|0=>0|53=>231|55=>233|4=>4|46=>225|45=>224|50=>130|5=>5|9=>9|66=>241|70=>245|76=>250|77=>251|n=>n,fun|n=>n⟩
theorem Tryz.laysF6:Go.Proofs.SlLaysF0.n6 Tryz.prog Tryz.laysF6_ren:={
 mixed:=by kernel_rfl
 f6:=⟨Tryz.f110.name,by decide,Tryz.func110.trans (congrArg some (by kernel_rfl))⟩
 f14:=⟨Tryz.f148.name,by decide,Tryz.func148.trans (congrArg some (by kernel_rfl))⟩
 f15:=Tryz.func149.trans (congrArg some (by kernel_rfl))
 f20:=⟨Tryz.f179.name,by decide,Tryz.func179.trans (congrArg some (by kernel_rfl))⟩
 f21:=⟨Tryz.f180.name,by decide,Tryz.func180.trans (congrArg some (by kernel_rfl))⟩
 f22:=⟨Tryz.f181.name,by decide,Tryz.func181.trans (congrArg some (by kernel_rfl))⟩
 f23:=⟨Tryz.f182.name,by decide,Tryz.func182.trans (congrArg some (by kernel_rfl))⟩
 f24:=⟨Tryz.f183.name,by decide,Tryz.func183.trans (congrArg some (by kernel_rfl))⟩
 f25:=⟨Tryz.f184.name,by decide,Tryz.func184.trans (congrArg some (by kernel_rfl))⟩
 f26:=⟨Tryz.f185.name,by decide,Tryz.func185.trans (congrArg some (by kernel_rfl))⟩
 f27:=⟨Tryz.f186.name,by decide,Tryz.func186.trans (congrArg some (by kernel_rfl))⟩
 f28:=Tryz.func187.trans (congrArg some (by kernel_rfl))
 f29:=Tryz.func188.trans (congrArg some (by kernel_rfl))
 f46:=⟨Tryz.f201.name,by decide,Tryz.func201.trans (congrArg some (by kernel_rfl))⟩
 f47:=Tryz.func202.trans (congrArg some (by kernel_rfl))
 f48:=Tryz.func203.trans (congrArg some (by kernel_rfl))
 f49:=⟨Tryz.f204.name,by decide,Tryz.func204.trans (congrArg some (by kernel_rfl))⟩
 f50:=⟨Tryz.f205.name,by decide,Tryz.func205.trans (congrArg some (by kernel_rfl))⟩
 f57:=⟨Tryz.f216.name,by decide,Tryz.func216.trans (congrArg some (by kernel_rfl))⟩
 t0:=Tryz.underlying0
 a0:=Tryz.isAgg0
 z0:=Tryz.sizeOf0
 v0:=Tryz.zeroValue0
 t3:=Tryz.underlying3
 a3:=Tryz.isAgg3
 z3:=Tryz.sizeOf3
 v3:=Tryz.zeroValue3
 t4:=Tryz.underlying4
 a4:=Tryz.isAgg4
 z4:=Tryz.sizeOf4
 v4:=Tryz.zeroValue4
 t5:=Tryz.underlying5
 a5:=Tryz.isAgg5
 z5:=Tryz.sizeOf5
 v5:=Tryz.zeroValue5
 t9:=Tryz.underlying9
 a9:=Tryz.isAgg9
 z9:=Tryz.sizeOf9
 v9:=Tryz.zeroValue9
 t22:=Tryz.underlying45
 a22:=Tryz.isAgg45
 z22:=Tryz.sizeOf45
 v22:=Tryz.zeroValue45
 t25:=Tryz.underlying170
 a25:=Tryz.isAgg170
 z25:=Tryz.sizeOf170
 v25:=Tryz.zeroValue170
 t39:=Tryz.underlying195
 a39:=Tryz.isAgg195
 z39:=Tryz.sizeOf195
 v39:=Tryz.zeroValue195
 t45:=Tryz.underlying224
 a45:=Tryz.isAgg224
 z45:=Tryz.sizeOf224
 v45:=Tryz.zeroValue224
 t46:=Tryz.underlying225
 a46:=Tryz.isAgg225
 z46:=Tryz.sizeOf225
 v46:=Tryz.zeroValue225
 t50:=Tryz.underlying130
 a50:=Tryz.isAgg130
 z50:=Tryz.sizeOf130
 v50:=Tryz.zeroValue130
 t53:=Tryz.underlying231
 a53:=Tryz.isAgg231
 z53:=Tryz.sizeOf231
 v53:=Tryz.zeroValue231
 t55:=Tryz.underlying233
 a55:=Tryz.isAgg233
 z55:=Tryz.sizeOf233
 v55:=Tryz.zeroValue233
 t66:=Tryz.underlying241
 a66:=Tryz.isAgg241
 z66:=Tryz.sizeOf241
 v66:=Tryz.zeroValue241
 t70:=Tryz.underlying245
 a70:=Tryz.isAgg245
 z70:=Tryz.sizeOf245
 v70:=Tryz.zeroValue245
 t76:=Tryz.underlying250
 a76:=Tryz.isAgg250
 z76:=Tryz.sizeOf250
 v76:=Tryz.zeroValue250
 t77:=Tryz.underlying251
 a77:=Tryz.isAgg251
 z77:=Tryz.sizeOf251
 v77:=Tryz.zeroValue251}
end Go.Proofs
namespace Go.Proofs.YtpjijpcemejlnaaGreatDoor
open Go.RowKit Go.Proofs.Tryz
theorem Tryz.sizeBuilder:(prog.info? 134).map (·.size)=some 2:=aP
theorem Tryz.liesBuilder:liesAt prog prog.depth 134 (2 / prog.cellsOf 134) 0 134 1=true:=aP
theorem Tryz.cellsByte:prog.cellsOf 5=1:=aP
section
variable {P:Program}
end
theorem Fi(ls:List (List UInt8)):∀y∈Ah ls,y.oneCell'=true:=by
 intro y hy;obtain⟨l,_,rfl⟩:=ax.1 hy;rfl
theorem Ml(a b:List (List UInt8)):Ah (a++b)=Ah a++Ah b:=by simp[Ah]
section
attribute [local go_sem] Qkk Qj0 Qjm Qhu ByteArray.mk_append_mk
theorem N9(n:Nat)(w:World)(hn:n<10):
  Calls prog 75 #[.int .i64 n] w fun e w'=>e=.returned (.string ⟨(Aw n).toArray⟩)/\Below w w w':=by
 have Hfin:=Aa (Ee hn);have hcv:=fun W=>Mp W w 1 (Cz (48+n));rw[C7 aH]at hcv;go_enter func75,ntmps75;go_wp2_with fail;exact iS
theorem Pa:∀(k n:Nat) (w:World),n<=k->n<=1000000000 ->
  Calls prog 75 #[.int .i64 n] w fun e w'=>e=.returned (.string ⟨(Aw n).toArray⟩)/\Below w w w':=by
 intro k;induction k with
 |zero=>intro n w hn h;exact N9 n w aH
 |succ k ih=>
  intro n w hn h;by_cases h10:n<10
  ·exact N9 n w h10
  have Hfin:=Aa (Mo h10);have Hs:=Aa (Ee (show n % 10<10 by omega));have Ih:=Aa (fun W=>ih (n / 10) W aH aH);have hl:=Cv 8 (n / 10) f5;have e1:((n:Int) / 10)=((n / 10:Nat):Int):=aH;have e2:((n:Int) % 10)=((n % 10:Nat):Int):=aH;have E1:=Aa e1;have E2:=Aa e2;clear ih e1 e2;go_enter func75,ntmps75;go_wp2_with fail;rw[E1.o];refine(Ih.o _).mono ?_;rintro e w1 ⟨rfl,hb1⟩;have Hb1:=Aa hb1;clear hb1;go_wp2_with fail;rw[E2.o];refine(N9 (n % 10) w1 aH).mono ?_;rintro e w2 ⟨rfl,hb2⟩;have Hb2:=Aa (Hb1.o.trans (hb2.mono Hb1.o.size));rw[Hs.o];clear hb2;go_wp2_with fail;go_ret;exact⟨by rw[Hfin.o];rfl,Hb2.o⟩
def Qi6(b:List UInt8):Prop:=b=[110]\/b=[116]\/b=[102]\/b=[64]
theorem Qe2{s:List UInt8}:Bx [110] s=(match Ci s with|some n=>decide (0<n)|none=>false):=rfl
theorem Qff{s:List UInt8}:Bx [116] s=(decide (2<s.length) && decide (s.head?=some 39) && decide (s.getLast?=some 39) && Db (s.drop 1).dropLast):=rfl
theorem Qfl{s:List UInt8}:Bx [102] s=decide (s=[121,101,115]):=rfl
theorem Qcp(s:List UInt8)(w:World)(hs:s.length<=4000000):
  Calls prog 194 #[.string ⟨#[110]⟩,s] w fun e w'=>e=.returned (.bool (Bx [110] s))/\Below w w w':=by
 have Hp:=Aa (fun W=>Gm s 999999 W aH aH);have Hf:=Aa (Qe2 (s:=s));cases hd:Ci s with
 |none=>
  rw[hd]at Hf;have Hv:=Aa (Qh (m:=999999) hd);clear hd;go_enter func194,ntmps194;go_wp2_with fail;refine(Hp.o _).mono ?_;rintro e w' ⟨rfl,rfl⟩;rw[Hv.o];go_wp2_with fail;go_ret;exact⟨D2 (Cn Hf.o.symm),At _ _⟩
 |some n=>
  rw[hd]at Hf;have h9:=(B0.1 hd).1;have Hv:=Aa (Tg (m:=999999) hd);have t1:decide (n<=999999)=true:=by simp;exact h9
  clear hd;rcases aG 0 n with hn|hn;all_goals
   go_enter func194,ntmps194;go_wp2_with fail;refine(Hp.o _).mono ?_;rintro e w' ⟨rfl,rfl⟩;rw[Hv.o,t1];go_wp2_with fail;go_ret;exact⟨D2 (Cn (by rw[Hf.o];first|done|(simp;try omega))),At _ _⟩
theorem Qdh(s:List UInt8)(w:World)(hs:s.length<=4000000):
  Calls prog 194 #[.string ⟨#[102]⟩,s] w fun e w'=>e=.returned (.bool (Bx [102] s))/\Below w w w':=by
 have Hf:=Aa (Qfl (s:=s));by_cases hy:s=[121,101,115]
 ·subst hy;go_enter func194,ntmps194;go_wp2_with fail;go_ret;exact⟨D2 (Cn (by rw[Hf.o];simp)),At _ _⟩
 have Hy:=Aa (show decide (s=[121,101,115])=false by simpa using hy);have ty:(s == [121,101,115])=false:=by simpa using hy
 clear hy;go_enter func194,ntmps194;go_wp2_with fail;go_ret;exact⟨D2 (Cn (by rw[Hf.o,Hy.o])),At _ _⟩
theorem Qa3(s:List UInt8)(w:World):
  Calls prog 194 #[.string ⟨#[64]⟩,s] w fun e w'=>e=.returned (.bool (Bx [64] s))/\Below w w w':=by
 go_enter func194,ntmps194;go_wp2_with fail;go_ret;exact iT
theorem Qdd(s:List UInt8)(w:World)(hs:s.length<=4000000):
  Calls prog 194 #[.string ⟨#[116]⟩,s] w fun e w'=>e=.returned (.bool (Bx [116] s))/\Below w w w':=by
 have hf:=Qff (s:=s);rcases aG 2 s.length with h2|h2
 ·obtain⟨c,u,d,rfl⟩:∃c u d,s=c::(u++[d]):=by
   cases s with
   |nil=>simp at h2
   |cons c t=>
    rcases Em t with rfl|⟨u,d,rfl⟩
    ·simp at h2
    exact⟨c,u,d,rfl⟩
  have hl:(c::(u++[d])).getLast?=some d:=by
   exact iM
  have hu:((c::(u++[d])).drop 1).dropLast=u:=aM;rw[hl,hu]at hf;have t0:decide (2<(c::(u++[d])).length)=true:=dT;rw[t0]at hf;simp only[List.head?_cons,ak,Bool.true_and]at hf;have Hf:=Aa hf;have hc:=c.toNat_lt;have hd:=d.toNat_lt;have hgd:∀h,(c::(u++[d]))[u.length+1]'h=d:=by intro h;simp
  have hsl:(List.take u.length (u++[d]))=u:=aM;have hul:2<=u.length+1:=by simp at h2;omega
  have hul2:u.length<=4000000:=fi;clear hf hl hu h2 hs t0;by_cases hc39:c=39
  ·have t1:((c.toNat:Int) == 39)=true:=Bq hc39;have Hc:=Aa (show decide (c=39)=true by simpa using hc39);clear hc39;by_cases hd39:d=39
   ·have t2:((d.toNat:Int) == 39)=true:=Bq hd39;have Hd:=Aa (show decide (d=39)=true by simpa using hd39);clear hd39;go_enter func194,ntmps194;go_wp2_with fail;refine(Qc9 u _ aH).mono ?_;rintro e w' ⟨rfl,hb⟩;go_wp2_with fail;go_ret;exact⟨D2 (Cn (by rw[Hf.o,Hc.o,Hd.o];simp)),hb⟩
   have t2:((d.toNat:Int) == 39)=false:=Aq hd39;have Hd:=Aa (show decide (d=39)=false by simpa using hd39);clear hd39;go_enter func194,ntmps194;go_wp2_with fail;go_ret;exact⟨D2 (Cn (by rw[Hf.o,Hd.o];simp)),At _ _⟩
  have t1:((c.toNat:Int) == 39)=false:=Aq hc39;have Hc:=Aa (show decide (c=39)=false by simpa using hc39);clear hc39;go_enter func194,ntmps194;go_wp2_with fail;go_ret;exact⟨D2 (Cn (by rw[Hf.o,Hc.o];simp)),At _ _⟩
 have e0:decide (2<s.length)=false:=aN;have Hf:=Aa (show Bx [116] s=false by rw[hf,e0];simp);clear e0;have t0:decide (2<(s.length:Int))=false:=aN;clear hf;go_enter func194,ntmps194;go_wp2_with fail;go_ret;exact⟨D2 (Cn Hf.o.symm),At _ _⟩
theorem Y6(b s:List UInt8)(w:World)(hb:Qi6 b)(hs:s.length<=4000000):
  Calls prog 194 #[b,s] w fun e w'=>e=.returned (.bool (Bx b s))/\Below w w w':=by
 rcases hb with rfl|rfl|rfl|rfl
 ·exact Qcp s w hs
 ·exact Qdd s w hs
 ·exact Qdh s w hs
 exact Qa3 s w
end
section
attribute [local go_sem] Qj0 Qjm Qhu
theorem Td(s p:List UInt8):(s.take p.length == p)=p.isPrefixOf s:=by
 rw[Bool.eq_iff_iff,beq_iff_eq,List.isPrefixOf_iff_prefix,List.prefix_iff_eq_take];exact eq_comm
theorem S9(s p:List UInt8)(h:¬p.length<=s.length):p.isPrefixOf s=false:=by
 rw[Bool.eq_false_iff,Ne,List.isPrefixOf_iff_prefix];intro hp;exact h hp.length_le
theorem Tt(s p:List UInt8)(w:World):
  Calls prog 171 #[s,p] w fun e w'=>e=.returned (.bool (p.isPrefixOf s))/\w=w':=by
 by_cases h:p.length<=s.length
 ·have HS:=Aa (Td s p);go_enter func171,ntmps171;go_wp2
  go_ret;exact⟨by rw[<-HS.o];rfl,rfl⟩
 have HS:=Aa (S9 s p h);go_enter func171,ntmps171;go_wp2
 go_ret;exact⟨by rw[HS.o];rfl,rfl⟩
section
variable {P:Program}
theorem Ji(w:World)(base:Nat)(t ty e:TypeId)(i:TypeInfo)(z:Value)(size bytes:Nat)(ht:P.underlying t=some (.slice e))(hi:P.info? e=some i)(hz:i.zero=some z)
  (hsize:i.size=size) (hby:i.bytes=bytes) (hzs:z.cells.size=size) (hsz:0<size)
  (v:Value) (n:Nat) (xs:List Value) (hown:w.ownsRow base e size v n xs)
  (a:Addr) (m c:Nat) (news:List Value) (hl:news.length=m*size) (hnews:∀j u,news[j]?=some u->w.cell? (a.add j)=some u) (h1:∀u∈news,u.oneCell'=true)
  (hm:0<m) (h63:n+m<=maxLen) (hbytes:(n+m)*bytes<=140737488355328) (hbase:base<=w.heap.size):
  ∃v' w',(Builtin.append_ #[t,t] ty #[v,.slice (some a) m c]).run P w=.ok v' w'/\w'.ownsRow base e size v' (n+m) (xs++news)/\w.grownBy w' v.ownBlock /\
   (v'.ownBlock=v.ownBlock\/∃k,v'.ownBlock=some k/\w.heap.size<=k):=by
 obtain⟨v',w',hr,h2,h3,_⟩:=run_append_own (P:=P) w base t ty e i z size bytes ht hi hz hsize hby hzs hsz v n xs hown a m c news hl hnews h1 h63 hbytes hbase;refine⟨v',w',hr,h2,h3,?_⟩;subst hsize;subst hby;have h63':n+m<=9223372036854775807:=by simp only[maxLen]at h63;omega
 rcases hown.2 with⟨rfl,rfl⟩|⟨g,cap,cur,rfl,hbg,hg,hnc,hcm,hcs,htake⟩
 ·have hq:=run_append_nil (P:=P) w t ty e i z ht hi hz a m c news hl hnews hm aH (by have hb:=hbytes;simp only[an]at hb;omega);exact iW
 by_cases hroom:n+m<=cap
 ·have hfit:n*i.size+news.length<=cur.size:=by rw[hl,hcs,<-Nat.add_mul];exact Nat.mul_le_mul_right _ hroom
  have hq:=run_append_room (P:=P) w t ty e i ht hi g n cap cur hg a m c news hl hnews h1 hroom hfit;rw[hq]at hr;injection hr with e1 _;subst e1;exact .inl rfl
 have holds:∀j u,xs[j]?=some u->w.cell? ((⟨g,0,none⟩:Addr).add j)=some u:=hown.cells (g:=g) rfl;have hq:=run_append_grow (P:=P) w t ty e i z ht hi hz ⟨g,0,none⟩ n cap xs hown.1 holds a m c news hl hnews aH aH (growslice_fits aH hbytes);exact iW
theorem Ga(w:World){ops:Array Oper}{rest:List Oper}{o:Oper}{a:Act}{Q:Exit->Act->World->Prop}(hgd:o.guard=none)(s x:Operand)(t:TypeId)
  (ho:o.op=.call {callee:=.builtin .append,args:=#[s,x],argTypes:=#[t,t]})
  (base:Nat) (e:TypeId) (z:Value) (bytes:Nat) (ht:P.underlying t=some (.slice e)) (hinfo:(P.info? e).map (fun i=>(i.zero,i.size,i.bytes))=some (some z,1,bytes))
  (hzs:z.cells.size=1) (W:World) (u:Value) (hw:w=W.alloc (.cells #[u] e)) (hu:u.oneCell'=true) (v:Value) (n:Nat) (xs:List Value) (hs:a.eval s=v) (hx:a.eval x=.slice (W,0) 1 1)
  (hown:W.ownsRow base e 1 v n xs)
  (h63:n+1<=maxLen) (hbytes:(n+1)*bytes<=140737488355328) (hbase:base<=W.heap.size)
  (h:∀v' w',w'.ownsRow base e 1 v' (n+1) (xs++[u])->W.grownBy w' v.ownBlock->(v'.ownBlock=v.ownBlock\/∃k,v'.ownBlock=some k/\W.heap.size<=k)->wpList P ops Q rest (a.put o.dst v') w'):wpList P ops Q (o::rest) a w:=by
 subst hw;obtain⟨i0,hi,hz0,hz1,hz2⟩:=info_parts hinfo
 obtain⟨v',w',hrun,r1,r2,r3⟩:=Ji (P:=P) (W.alloc (.cells #[u] e)) base t o.type e i0 z 1 bytes ht hi hz0 hz1 hz2 hzs aL v n xs (hown.alloc _) ⟨W.heap.size,0,none⟩ 1 1 [u] rfl (by
  intro j y hj;match j,hj with
  |0,hj=>simp at hj;subst hj;simp[Addr.add,World.cell?_alloc_new]) (by intro y hy;simp at hy;subst hy;exact hu) aL h63 hbytes aN
 refine wpList_plain hgd fun K' hK'=>?_;unfold Oper.wp;simp[execOp,ho,resolve,invoke,builtin,hs,hx,hrun,Result.andThen];refine hK' _ _ (h v' w' r1 ?_ ?_)
 ·exact i9
 rcases r3 with r3|⟨k,r3,r4⟩
 ·exact .inl r3
 exact .inr ⟨k,r3,by simp at r4;omega⟩
end
end
theorem Pp(w:World)(T:TypeId)(base:Nat)(h:base<=w.heap.size):(w.alloc (.cells #[] T)).ownsRow base T 1 (.slice (some ⟨w.heap.size,0,none⟩) 0 0) 0 []:=
 ⟨rfl,.inr ⟨w.heap.size,0,#[],rfl,h,by have:=heap_alloc_new w (.cells #[] T);simpa using this,Ao _,by decide,rfl,rfl⟩⟩
theorem Yr{w:World}{base n m c:Nat}{A:Option Addr}{e:TypeId}{zs:List Value}(h:w.ownsRow base e 1 (.slice A m c) n zs):n<=c:=by
 rcases h.2 with⟨e,h0⟩|⟨g,cap,cur,e,_,_,hnc,_⟩
 ·omega
 injection e with _ _ e2;subst e2;exact hnc
section
variable {P:Program}
theorem Gj(W:World){o:Oper}{a:Act}{K:Act->World->Prop}{Q:Exit->Act->World->Prop}(s x:Operand)(t:TypeId)
  (ho:o.op=.call {callee:=.builtin .append,args:=#[s,x],argTypes:=#[t,t]})
  (base:Nat) (e:TypeId) (z:Value) (bytes:Nat) (ht:P.underlying t=some (.slice e)) (hinfo:(P.info? e).map (fun i=>(i.zero,i.size,i.bytes))=some (some z,1,bytes))
  (hzs:z.cells.size=1) (g n cap:Nat) (xs:List Value) (hs:a.eval s=.slice (some ⟨g,0,none⟩) n cap) (A:Option Addr) (m c:Nat) (us:List Value) (hx:a.eval x=.slice A m c) (hrow:Bj W A m us) (hu:∀u∈us,u.oneCell'=true)
  (hown:W.ownsRow base e 1 (.slice (some ⟨g,0,none⟩) n cap) n xs) (h63:n+m<=maxLen) (hbytes:(n+m)*bytes<=140737488355328) (hbase:base<=W.heap.size)
  (h:∀g' cap' w',w'.ownsRow base e 1 (.slice (some ⟨g',0,none⟩) (n+m) cap') (n+m) (xs++us)->W.grownBy w' (some g)->(g'=g\/W.heap.size<=g')->K (a.put o.dst (.slice (some ⟨g',0,none⟩) (n+m) cap')) w'):Oper.wp P o a W K Q:=by
 obtain⟨i0,hi,hz0,hz1,hz2⟩:=info_parts hinfo
 have fin:∀v' w',(Builtin.append_ #[t,t] o.type #[.slice (some ⟨g,0,none⟩) n cap,.slice A m c]).run P W=.ok v' w'->w'.ownsRow base e 1 v' (n+m) (xs++us)->W.grownBy w' (some g)->(v'.ownBlock=some g\/∃k,v'.ownBlock=some k/\W.heap.size<=k)->Oper.wp P o a W K Q:=by
  intro v' w' hrun r1 r2 r3
  have hv:∃g' cap',v'=.slice (some ⟨g',0,none⟩) (n+m) cap'/\(g'=g\/W.heap.size<=g'):=by
   rcases r1.2 with⟨rfl,_⟩|⟨g',cap',cur,rfl,_⟩
   ·rcases r3 with r3|⟨k,r3,_⟩<;>cases r3
   refine⟨g',cap',rfl,?_⟩
   rcases r3 with r3|⟨k,r3,r4⟩
   ·injection r3 with r3;exact .inl r3
   injection r3 with r3;subst r3;exact .inr r4
  obtain⟨g',cap',rfl,hg'⟩:=hv
  unfold Oper.wp
  simp[execOp,ho,resolve,invoke,builtin,hs,hx,hrun,Result.andThen]
  exact h g' cap' w' r1 r2 hg'
 by_cases hm:m=0
 ·subst hm
  have e1:us=[]:=List.eq_nil_of_length_eq_zero hrow.1
  subst e1
  cases A with
  |none=>
   rcases hown.2 with⟨h0,_⟩|⟨g',cap',cur,hv,_,_,hnc,_⟩
   ·cases h0
   injection hv with _ _ hv
   subst hv
   have hrun:(Builtin.append_ #[t,t] o.type #[.slice (some ⟨g,0,none⟩) n cap,.slice none 0 c]).run P W=.ok (.slice (some ⟨g,0,none⟩) n cap) W:=by
    simp[Builtin.append_,run_underlying ht,sizeOf,typeInfo,hi,Builtin.lenOf,Builtin.firstCells,hnc,storeCells]
   exact fin _ W hrun (by simpa using hown) (World.grownBy.refl _ _) (.inl rfl)
  |some p=>
   rcases hown.2 with⟨h0,_⟩|⟨g',cap',cur,hv,_,_,hnc,_⟩
   ·cases h0
   injection hv with _ _ hv
   subst hv
   obtain⟨w',hrun,r1,r2⟩:=run_append_own_spare (P:=P) W base t o.type e i0 1 ht hi hz1 g n cap xs hown p 0 c [] rfl (by simp) (by simp) (by omega)
   exact fin _ w' hrun r1 r2 (.inl rfl)
 obtain⟨b,off,rfl,hb,hc⟩:=hrow.2.2 (by omega)
 obtain⟨v',w',hrun,r1,r2,r3⟩:=Ji (P:=P) W base t o.type e i0 z 1 bytes ht hi hz0 hz1 hz2 hzs (by decide) _ n xs hown ⟨b,off,none⟩ m c us (by rw[hrow.1,Nat.mul_one]) (fun j u hj=>by rw[Addr.add_lit];exact hc j u hj) hu (by omega) h63 hbytes hbase
 exact fin v' w' hrun r1 r2 r3
end
end Go.Proofs.YtpjijpcemejlnaaGreatDoor
