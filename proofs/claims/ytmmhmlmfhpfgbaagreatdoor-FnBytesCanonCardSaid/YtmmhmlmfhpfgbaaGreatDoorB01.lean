/- Texts joined. Conditions: as each theorem names them. -/
import Derived.Test.YtmmhmlmfhpfgbaaGreatDoorProg
import Derived.WalkKit
import Derived.WalkSmall
import Derived.WalkSpells
import Derived.WalkLawsBesides
import Derived.Below
import Derived.Lib.Hide
import Derived.Lib.BufferRead
import Derived.Laws.BytesArg
import Derived.Deep.QuietTactic
import Derived.BigQuiet
import Derived.Handy
import Derived.Test.YtmmhmlmfhpfgbaaGreatDoorB00
set_option maxRecDepth 100000
set_option maxHeartbeats 32000000
set_option linter.unusedVariables false
set_option linter.unusedSimpArgs false
namespace Go.Proofs.YtmmhmlmfhpfgbaaGreatDoor
open Go.RowKit Go.Proofs.Tryz
theorem Qra(l:List UInt8)(k:Nat)(h:k<(ByteArray.mk l.toArray).size):(ByteArray.mk l.toArray)[k]=l[k]'h:=rfl
theorem Qpu(l:List UInt8):(ByteArray.mk l.toArray).toList=l:=by
 have:(ByteArray.mk l.toArray).toList=(ByteArray.mk l.toArray).data.toList:=ByteArray.toList_eq _;rw[this]
theorem Qo3(l:List UInt8)(a b:Nat):(ByteArray.mk l.toArray).extract a b=⟨((l.drop a).take (b - a)).toArray⟩:=by
 apply ByteArray.ext;simp[ByteArray.data_extract]
theorem Qmi(l:List UInt8)(a:Nat):(l.drop a).take (l.length - a)=l.drop a:=av aK
theorem Qn1{k:IntKind}{a b:Int}(h:a=b):Ending.returned (.int k a)=.returned (.int k b):=by rw[h]
theorem Cv{α:Type}(l:List α)(k:Nat)(h:k<l.length):l.take (k+1)=l.take k++[l[k]]:=by
 rw[List.take_succ_eq_append_getElem h]
def Cf(l:List UInt8):List Value:=l.map fun c=>.int .u8 (c.toNat:Int)
def Bz(ls:List (List UInt8)):List Value:=ls.map fun l=>.string ⟨l.toArray⟩
theorem H5(l:List UInt8):(Cf l).length=l.length:=by simp[Cf]
theorem Xd(l:List UInt8)(c:UInt8):Cf (l++[c])=Cf l++[.int .u8 (c.toNat:Int)]:=by simp[Cf]
theorem Qn(l:List (List UInt8))(c:List UInt8):Bz (l++[c])=Bz l++[.string ⟨c.toArray⟩]:=by simp[Bz]
def Ca(w:World)(A:Option Addr)(n:Nat)(xs:List Value):Prop:=
 xs.length=n/\n<=maxLen/\(0<n->∃b off,A=some ⟨b,off,none⟩/\b<w.heap.size/\∀j u,xs[j]?=some u->w.cell? ⟨b,off+j,none⟩=some u)
theorem Ca.below{w w':World}{A:Option Addr}{n:Nat}{xs:List Value}(h:Ca w A n xs)(hb:Below w w w'):Ca w' A n xs:=by
 refine⟨h.1,h.2.1,fun hn=>?_⟩;obtain⟨b,off,e,hlt,hc⟩:=h.2.2 hn;exact il
theorem Ca.drew{w:World}{A:Option Addr}{n:Nat}{xs:List Value}(h:Ca w A n xs):Ca w.drew A n xs:=h
theorem Ca.alloc{w:World}{A:Option Addr}{n:Nat}{xs:List Value}(h:Ca w A n xs)(o:Obj):Ca (w.alloc o) A n xs:=h.below ((Below.refl _ _).alloc (Nat.le_refl _) o)
theorem Ca.at_{w:World}{A:Option Addr}{n:Nat}{xs:List Value}(h:Ca w A n xs){k:Nat}(hk:k<n):
  ∃b off,A=some ⟨b,off,none⟩/\b<w.heap.size/\w.cell? ⟨b,off+k,none⟩=some (xs[k]'(by have:=h.1;omega)):=by
 obtain⟨b,off,e,hlt,hc⟩:=h.2.2 aI;exact⟨b,off,e,hlt,hc k _ (List.getElem?_eq_getElem _)⟩
theorem Ca.own{w:World}{base:Nat}{e:TypeId}{v:Value}{n:Nat}{xs:List Value}(h:w.ownsRow base e 1 v n xs):∃A c,v=.slice A n c/\Ca w A n xs:=by
 have h1:=h.1;rcases h.2 with⟨rfl,rfl⟩|⟨g,cap,cur,rfl,hb,hh,hnc,hcm,hcs,htk⟩
 ·exact⟨none,0,rfl,by omega,ag _,fun h=>absurd h aI⟩
 refine⟨some ⟨g,0,none⟩,cap,rfl,by omega,by omega,fun hn=>⟨g,0,rfl,(h.lt g rfl).2,fun j u hu=>?_⟩⟩;have:=h.cells (g:=g) rfl j u hu;have e1:(⟨g,0,none⟩:Addr).add j=⟨g,0+j,none⟩:=bq;rwa [e1]at this
theorem Cr{w w1:World}{base:Nat}{e:TypeId}{size:Nat}{v:Value}{n:Nat}{xs:List Value}(h:w.ownsRow base e size v n xs)(hb:Below w w w1):w1.ownsRow base e size v n xs:=
 h.kept (row:=none) ⟨hb.os,hb.tape,hb.output,hb.size,fun k hk _=>hb.block k hk⟩ (by
  cases v with
  |slice A a b=>cases A with
   |none=>exact .inl rfl
   |some x=>exact .inr eY
  |_=>exact .inl rfl)
section
variable {P:Program}
theorem Kk(w:World){ops:Array Oper}{rest:List Oper}{o:Oper}{a:Act}{Q:Exit->Act->World->Prop}(hgd:o.guard=none)(s x:Operand)(t:TypeId)
  (ho:o.op=.call {callee:=.builtin .append,args:=#[s,x],argTypes:=#[t,t]})
  (base:Nat) (e:TypeId) (z:Value) (bytes:Nat) (ht:P.underlying t=some (.slice e)) (hinfo:(P.info? e).map (fun i=>(i.zero,i.size,i.bytes))=some (some z,1,bytes))
  (hzs:z.cells.size=1) (W:World) (u:Value) (hw:w=W.alloc (.cells #[u] e)) (hu:u.oneCell'=true) (v:Value) (n:Nat) (xs:List Value) (hs:a.eval s=v) (hx:a.eval x=.slice (W,0) 1 1)
  (hown:W.ownsRow base e 1 v n xs)
  (h63:n+1<=maxLen) (hbytes:(n+1)*bytes<=140737488355328) (hbase:base<=W.heap.size)
  (h:∀v' w',w'.ownsRow base e 1 v' (n+1) (xs++[u])->Below base W w'->wpList P ops Q rest (a.put o.dst v') w'):wpList P ops Q (o::rest) a w:=by
 subst hw;obtain⟨i0,hi,hz0,hz1,hz2⟩:=info_parts hinfo;refine wpList_append_own _ hgd s x t ho base e i0 z 1 bytes ht hi hz0 hz1 hz2 hzs aL v n xs hs (hown.alloc _) ⟨W.heap.size,0,none⟩ 1 1 [u] hx rfl ?_ ?_ h63 hbytes ?_ ?_
 ·intro j y hj;match j,hj with
  |0,hj=>simp at hj;subst hj;simp[Addr.add,World.cell?_alloc_new]
 ·intro y hy;simp at hy;subst hy;exact hu
 ·have:(W.alloc (.cells #[u] e)).heap.size=W.heap.size+1:=aK;omega
 intro v' w' h1 h2 _;exact h v' w' h1 (((Below.refl base W).alloc hbase _).grown h2 aO (fun k hk=>(hown.lt k hk).1))
theorem Qek(w:World)(src e dst:TypeId)(hs:P.underlying src=some (.slice e))(he:P.underlying e=some (.int .u8))(hd:P.underlying dst=some .string)
  (base:Nat) (v:Value) (l:List UInt8) (n:Nat) (hn:n=l.length) (hown:w.ownsRow base e 1 v n (Cf l)):(convert src dst v).run P w=.ok l w:=by
 subst hn;rcases hown.2 with⟨rfl,h0⟩|⟨g,cap,cur,rfl,_,hh,hnc,hcm,hcs,htk⟩
 ·obtain rfl:l=[]:=List.eq_nil_of_length_eq_zero h0;exact Lib.run_convert_nil_bytes w src dst e 0 hs he hd
 have hc:=hown.cells (g:=g) rfl
 have h:=run_convert_bytes_arg (P:=P) w src e hs he g 0 l.length cap (l.map fun c=>(c.toNat:Int)) aK (fun i hi=>by
  have:=hc i (.int .u8 (l[i].toNat:Int)) (by simp[Cf,hi]);have e1:(⟨g,0,none⟩:Addr).add i=⟨g,0+i,none⟩:=bq;rw[e1]at this;rw[this];simp[List.getD,hi]) dst hd
 rw[h];have:strOfNums (l.map fun c=>(c.toNat:Int))=⟨l.toArray⟩:=by
  simp[strOfNums,Function.comp_def]
 rw[this]
theorem Qkp(W:World)(src e dst:TypeId)(hs:P.underlying src=some (.slice e))(he:P.underlying e=some (.int .u8))(hd:P.underlying dst=some .string)
  (g c:Nat) (b:UInt8) (hc:W.cell? (g,0)=some (.int .u8 (b.toNat:Int))):(convert src dst (.slice (g,0) 1 c)).run P W=.ok (.string ⟨[b].toArray⟩) W:=by
 have h:=run_convert_bytes_arg (P:=P) W src e hs he g 0 1 c [(b.toNat:Int)] rfl (fun i hi=>by
  obtain rfl:i=0:=aI;simpa using hc) dst hd
 rw[h];simp[strOfNums]
end
theorem Jh(W:World)(g c:Nat)(b:UInt8)(hc:W.cell? (g,0)=some (.int .u8 (b.toNat:Int))):
  (convert 22 9 (.slice (g,0) 1 c)).run prog W=.ok (.string ⟨[b].toArray⟩) W:=
 Qkp W 22 5 9 underlying22 underlying5 underlying9 g c b hc
theorem Ci{W w1:World}(hb:Below W.heap.size W w1):(∀b o,b<W.heap.size->w1.cell? ⟨b,o,none⟩=W.cell? ⟨b,o,none⟩)/\(∀b o,b<W.heap.size->w1.frozen? ⟨b,o,none⟩=W.frozen? ⟨b,o,none⟩)/\(∀b,b<W.heap.size->b<w1.heap.size):=
 ⟨fun b o h=>hb.cell (p:=⟨b,o,none⟩) h,fun b o h=>hb.frozen (p:=⟨b,o,none⟩) h,fun _ h=>ac h hb.size⟩
theorem Tryz.infoU8:(prog.info? 5).map (fun i=>(i.zero,i.size,i.bytes))=some (some (.int .u8 0),1,1):=aN
theorem Yh:(prog.info? 9).map (fun i=>(i.zero,i.size,i.bytes))=some (some (.string ⟨#[]⟩),1,16):=aN
theorem Ae:True:=True.intro
theorem Aa{p:Prop}(h:p):Hid p:=h
theorem Al(n:Nat):n<=n:=Nat.le_refl n
theorem _root_.Go.RowKit.Hid.o{p:Prop}(h:Hid p):p:=h
theorem Aq(n:Nat)(w:World):Below n w w:=Below.refl n w
theorem Er{a a':Value}(h:a=a'):Ending.returned a=.returned a':=by rw[h]
theorem Qmr{a b a' b':Value}(h1:a=a')(h2:b=b'):Ending.returned (.tuple #[a,b])=.returned (.tuple #[a',b']):=by rw[h1,h2]
theorem Qow{a b c a' b' c':Value}(h1:a=a')(h2:b=b')(h3:c=c'):Ending.returned (.tuple #[a,b,c])=.returned (.tuple #[a',b',c']):=by rw[h1,h2,h3]
theorem Qb9{k:IntKind}{x y:Int}(h:x=y):Value.int k x=.int k y:=by rw[h]
theorem Qkm{x y:List UInt8}(h:x=y):Value.string ⟨x.toArray⟩=y:=by rw[h]
theorem Db{x y:Bool}(h:x=y):Value.bool x=.bool y:=by rw[h]
def Bx(n:Nat):UInt8:=UInt8.ofNat n
theorem Bo{n:Nat}(h:n<256):(Bx n).toNat=n:=by unfold Bx;exact UInt8.toNat_ofNat_of_lt' h
def D1(n:Nat):List UInt8:=
 if n<128 then[Bx n]else if n<16384 then[Bx (n % 128+128),Bx (n / 128)]else[Bx (n % 128+128),Bx (n / 128 % 128+128),Bx (n / 16384)]
theorem Qam{n:Nat}(h:n<128):D1 n=[Bx n]:=by unfold D1;rw[if_pos h]
theorem Vx{n:Nat}(h:128<=n)(h2:n<2097152):D1 n=Bx (n % 128+128)::D1 (n / 128):=by
 unfold D1;by_cases h3:n<16384
 ·rw[if_neg aI,if_pos h3,if_pos aI]
 rw[if_neg aI,if_neg h3,if_neg aI,if_pos aI];have:n / 16384=n / 128 / 128:=aI;rw[this]
theorem Yb(n:Nat):1<=(D1 n).length:=by
 unfold D1;split
 ·simp
 split<;>simp
theorem Cz(n:Nat):(D1 n).length<=3:=by
 unfold D1;split
 ·simp
 split<;>simp
def Ag:List UInt8->Option (Nat × List UInt8)
 |[]=>none
 |a::t=>
  if a.toNat<128 then some (a.toNat,t)
  else match t with
   |[]=>none
   |b::u=>
    if b.toNat<128 then(if b.toNat=0 then none else some (a.toNat % 128+b.toNat*128,u))
    else match u with
     |[]=>none
     |c::v=>if c.toNat<128 then(if c.toNat=0\/999999<a.toNat % 128+b.toNat % 128*128+c.toNat*16384 then none else some (a.toNat % 128+b.toNat % 128*128+c.toNat*16384,v))else none
theorem Cq{s:List UInt8}{n:Nat}{r:List UInt8}(h:Ag s=some (n,r)):n<=999999/\r.length<s.length:=by
 rcases s with _|⟨a,_|⟨b,_|⟨c,v⟩⟩⟩
 ·simp[Ag]at h
 ·simp only[Ag]at h;split at h
  ·exact gP
  simp at h
 ·simp only[Ag]at h;split at h
  ·exact gP
  split at h
  ·exact gT
  simp at h
 simp only[Ag]at h;split at h
 ·exact gP
 split at h
 ·exact gT
 split at h
 ·split at h
  ·simp at h
  rename_i hn;simp only[aj,aF]at h;obtain⟨rfl,rfl⟩:=h;exact⟨by omega,by simp;omega⟩
 simp at h
def Jx(c:UInt8):Bool:=decide (97<=c.toNat) && decide (c.toNat<=122)
def Bh(c:UInt8):Bool:=decide (48<=c.toNat) && decide (c.toNat<=57)
def Bf(s:List UInt8):Bool:=decide (1<=s.length) && decide (s.length<=3) && s.all Jx
theorem Dy{c:UInt8}:Bh c=true↔48<=c.toNat/\c.toNat<=57:=by simp[Bh]
theorem No{c:UInt8}:Jx c=true↔97<=c.toNat/\c.toNat<=122:=by simp[Jx]
theorem Fc{s:List UInt8}:Bf s=true↔1<=s.length/\s.length<=3/\∀c∈s,Jx c=true:=by
 simp[Bf,and_assoc]
def Az(n:Nat):List UInt8:=if h:n<10 then[Bx (48+n)]else Az (n / 10)++[Bx (48+n % 10)]
termination_by n
decreasing_by omega
theorem Fa{n:Nat}(h:n<10):Az n=[Bx (48+n)]:=by rw[Az,dif_pos h]
theorem Nx{n:Nat}(h:¬n<10):Az n=Az (n / 10)++[Bx (48+n % 10)]:=by rw[Az,dif_neg h]
def Gt(s:List UInt8):Nat:=s.foldl (fun n c=>10*n+(c.toNat - 48)) 0
theorem Kw(s:List UInt8)(c:UInt8):Gt (s++[c])=10*Gt s+(c.toNat - 48):=by simp[Gt,List.foldl_append]
theorem Qlf:Gt []=0:=rfl
def Cx(s:List UInt8):Option Nat:=
 if 1<=s.length/\s.length<=6/\s.all Bh=true/\(s.head?≠some 48\/s.length=1)then some (Gt s)else none
theorem Fl{α:Type}(s:List α):s=[]\/∃t c,s=t++[c]:=by
 rcases s.eq_nil_or_concat with h|⟨t,c,h⟩
 ·exact .inl h
 exact .inr ⟨t,c,by simpa using h⟩
theorem Yd:∀(k:Nat) (s:List UInt8),s.length=k->s.all Bh=true->Gt s<10 ^ k
 |0,s,h,_=>by
  obtain rfl:=List.eq_nil_of_length_eq_zero h;simp[Gt]
 |k+1,s,h,ha=>by
  rcases Fl s with rfl|⟨t,c,rfl⟩
  ·simp at h
  simp at h;simp only[List.all_append,ax,List.all_cons,List.all_nil,Bool.and_true]at ha;have ih:=Yd k t h ha.1;have hc:=Dy.1 ha.2;rw[Kw,Nat.pow_succ];omega
theorem Qfl:∀(k:Nat) (s:List UInt8),s.length=k->s≠[]->s.all Bh=true->s.head?≠some 48->0<Gt s
 |0,s,h,hn,_,_=>absurd (List.eq_nil_of_length_eq_zero h) hn
 |k+1,s,h,hn,ha,hh=>by
  rcases Fl s with rfl|⟨t,c,rfl⟩
  ·exact absurd rfl hn
  simp at h;simp only[List.all_append,ax,List.all_cons,List.all_nil,Bool.and_true]at ha;have hc:=Dy.1 ha.2;rw[Kw];by_cases ht:t=[]
  ·subst ht;simp at hh;have:c.toNat≠48:=fun e=>hh (UInt8.toNat_inj.1 e);omega
  have hh':t.head?≠some 48:=by
   cases t with
   |nil=>exact absurd rfl ht
   |cons a t=>simpa using hh
  have:=Qfl k t h ht ha.1 hh';omega
theorem Qbm:∀(k:Nat) (s:List UInt8),s.length=k->s≠[]->s.all Bh=true->(s.head?≠some 48\/s.length=1)->Az (Gt s)=s
 |0,s,h,hn,_,_=>absurd (List.eq_nil_of_length_eq_zero h) hn
 |k+1,s,h,hn,ha,hh=>by
  rcases Fl s with rfl|⟨t,c,rfl⟩
  ·exact absurd rfl hn
  simp at h;simp only[List.all_append,ax,List.all_cons,List.all_nil,Bool.and_true]at ha;have hc:=Dy.1 ha.2;have hc2:Bx (48+(c.toNat - 48))=c:=by
   apply UInt8.toNat_inj.1;rw[Bo aI];omega
  rw[Kw];by_cases ht:t=[]
  ·subst ht;rw[Qlf,Fa aI];simp[hc2]
  have hl:0<t.length:=List.length_pos_iff.2 ht;have hh1:t.head?≠some 48:=by
   cases t with
   |nil=>exact absurd rfl ht
   |cons a t=>rcases hh with hh|hh<;>simp at hh ⊢<;>first|exact hh|omega
  have hp:=Qfl t.length t rfl ht ha.1 hh1;have ih:=Qbm k t h ht ha.1 (.inl hh1);rw[Nx aI];have e1:(10*Gt t+(c.toNat - 48)) / 10=Gt t:=aI;have e2:(10*Gt t+(c.toNat - 48)) % 10=c.toNat - 48:=aI;rw[e1,e2,ih,hc2]
theorem Mb:∀(k n:Nat),n<=k->Az n≠[]/\(Az n).all Bh=true/\Gt (Az n)=n/\((Az n).head?≠some 48\/n=0)/\(n<10->(Az n).length=1)/\(10<=n->2<=(Az n).length)
 |0,n,h=>by
  obtain rfl:n=0:=aI;rw[Fa aI];refine⟨by simp,by decide,by decide,.inr rfl,fun _=>rfl,fun h=>by omega⟩
 |k+1,n,h=>by
  by_cases hn:n<10
  ·rw[Fa hn];have e:(Bx (48+n)).toNat=48+n:=Bo aI;refine⟨by simp,by simp[Dy,e];omega,?_,?_,fun _=>rfl,fun h=>by omega⟩
   ·show 10*0+((Bx (48+n)).toNat - 48)=n;omega
   by_cases h0:n=0
   ·exact .inr h0
   refine .inl ?_;intro hh;simp at hh;have:=congrArg UInt8.toNat hh;rw[e]at this;have h48:(48:UInt8).toNat=48:=rfl;omega
  obtain⟨i1,i2,i3,i4,_,_⟩:=Mb k (n / 10) aI;have e:(Bx (48+n % 10)).toNat=48+n % 10:=Bo aI;have hl:0<(Az (n / 10)).length:=List.length_pos_iff.2 i1;rw[Nx hn];refine⟨by simp,?_,?_,?_,fun h=>absurd h hn,fun _=>by simp;omega⟩
  ·simp only[List.all_append,ax,List.all_cons,List.all_nil,Bool.and_true];exact⟨i2,Dy.2 aI⟩
  ·rw[Kw,i3,e];omega
  refine .inl ?_;have e1:(Az (n / 10)++[Bx (48+n % 10)]).head?=(Az (n / 10)).head?:=by
   cases hd:Az (n / 10)with
   |nil=>exact absurd hd i1
   |cons a t=>rfl
  rw[e1];rcases i4 with h|h
  ·exact h
  omega
theorem Q9(n:Nat):Az n≠[]:=(Mb n n (Nat.le_refl _)).1
theorem Np(n:Nat):(Az n).all Bh=true:=(Mb n n (Nat.le_refl _)).2.1
theorem Q7(n:Nat):Gt (Az n)=n:=(Mb n n (Nat.le_refl _)).2.2.1
theorem Qiq(n:Nat):(Az n).head?≠some 48\/(Az n).length=1:=by
 obtain⟨_,_,_,h4,h5,_⟩:=Mb n n (Nat.le_refl _);rcases h4 with h|h
 ·exact .inl h
 exact .inr (h5 aI)
theorem Qkq{m n:Nat}(h:Az m=Az n):m=n:=by rw[<-Q7 m,h,Q7]
theorem C9:∀(k n:Nat),n<10 ^ (k+1)->(Az n).length<=k+1
 |0,n,h=>by rw[Fa aU];simp
 |k+1,n,h=>by
  by_cases hn:n<10
  ·rw[Fa hn];simp
  rw[Nx hn];have:=C9 k (n / 10) (by rw[Nat.pow_succ]at h;omega);simp;omega
theorem Bw{s:List UInt8}{n:Nat}:Cx s=some n↔n<=999999/\s=Az n:=by
 unfold Cx;constructor
 ·intro h;split at h
  ·rename_i hc;obtain⟨h1,h2,h3,h4⟩:=hc;injection h with h;have hn:s≠[]:=List.length_pos_iff.1 aI;have hv:=Yd s.length s rfl h3;have hle:10 ^ s.length<=10 ^ 6:=Nat.pow_le_pow_right aI h2;have e6:10 ^ 6=1000000:=rfl;refine⟨by omega,?_⟩;rw[<-h];exact(Qbm s.length s rfl hn h3 h4).symm
  cases h
 rintro⟨h1,rfl⟩;have hl:=C9 5 n fc;have hp:0<(Az n).length:=List.length_pos_iff.2 (Q9 n);rw[if_pos ⟨by omega,by omega,Np n,Qiq n⟩,Q7]
structure Kd where
 signs:List UInt8
 base:List UInt8
 name:List UInt8
deriving DecidableEq
def Bi(c:UInt8):Bool:=c == 91 || c == 63
def Cj(k:Kd):List UInt8:=if k.base=[64]then 64::(k.name++[59])else k.base
def Be(k:Kd):List UInt8:=k.signs++Cj k
def Kd.nil:Kd:=⟨[],[],[]⟩
def Kd.part(k:Kd):Kd:={k with signs:=k.signs.tail}
def Qcd(k:Kd):Prop:=(k.base=[64]/\Bf k.name=true)\/((k.base=[110]\/k.base=[116]\/k.base=[102])/\k.name=[])
def Cw(k:Kd):Prop:=k.signs.all Bi=true/\Qcd k/\(Be k).length<=12
theorem Qbc{k:Kd}(h:Qcd k):∃c t,Cj k=c::t/\Bi c=false:=by
 unfold Cj;rcases h with⟨h,_⟩|⟨h|h|h,_⟩
 ·rw[if_pos h];exact⟨64,_,rfl,by decide⟩
 ·rw[h,if_neg aL];exact⟨110,[],rfl,by decide⟩
 ·rw[h,if_neg aL];exact⟨116,[],rfl,by decide⟩
 rw[h,if_neg aL];exact⟨102,[],rfl,by decide⟩
theorem Gh{p:UInt8->Bool}:∀{a b:List UInt8},a.all p=true->(∃c t,b=c::t/\p c=false)->(a++b).takeWhile p=a/\(a++b).dropWhile p=b
 |[],b,_,⟨c,t,e,h⟩=>by subst e;simp[h]
 |x::a,b,ha,hb=>by
  simp only[List.all_cons,ax]at ha;have ih:=Gh ha.2 hb;simp[ha.1,ih.1,ih.2]
theorem Kh{p:UInt8->Bool}:∀(a:List UInt8),(a.takeWhile p).all p=true
 |[]=>rfl
 |x::a=>by
  by_cases h:p x=true
  ·simp[h]
  simp[h]
def C5(s:List UInt8):Option Kd:=
 if 12<s.length then none
 else if s.dropWhile Bi=[110]\/s.dropWhile Bi=[116]\/s.dropWhile Bi=[102]then some ⟨s.takeWhile Bi,s.dropWhile Bi,[]⟩
 else if (s.dropWhile Bi).head?=some 64/\(s.dropWhile Bi).getLast?=some 59/\Bf ((s.dropWhile Bi).drop 1).dropLast=true then some ⟨s.takeWhile Bi,[64],((s.dropWhile Bi).drop 1).dropLast⟩
 else none
theorem Qhm{r:List UInt8}(h1:r.head?=some 64)(h2:r.getLast?=some 59):r=64::((r.drop 1).dropLast++[59]):=by
 cases r with
 |nil=>simp at h1
 |cons a t=>
  simp at h1;subst h1;rcases Fl t with rfl|⟨u,c,rfl⟩
  ·simp at h2
  have:c=59:=by
   rw[show (64:UInt8)::(u++[c])=(64::u)++[c]from rfl,List.getLast?_append]at h2;simpa using h2
  subst this;simp
theorem Fm{s:List UInt8}{k:Kd}:C5 s=some k↔Cw k/\Be k=s:=by
 have htd:s.takeWhile Bi++s.dropWhile Bi=s:=List.takeWhile_append_dropWhile;constructor
 ·intro h;unfold C5 at h;split at h
  ·cases h
  rename_i h12;split at h
  ·rename_i hb;injection h with h;subst h;have hcore:Cj ⟨s.takeWhile Bi,s.dropWhile Bi,[]⟩=s.dropWhile Bi:=by
    unfold Cj;rw[if_neg];rcases hb with h|h|h<;>· show ¬s.dropWhile Bi=_;rw[h];decide
   have e:Be ⟨s.takeWhile Bi,s.dropWhile Bi,[]⟩=s:=by unfold Be;rw[hcore];exact htd
   exact⟨⟨Kh s,.inr ⟨hb,rfl⟩,by rw[e];omega⟩,e⟩
  split at h
  ·rename_i hb;injection h with h;subst h;have e1:=Qhm hb.1 hb.2.1;have e:Be ⟨s.takeWhile Bi,[64],((s.dropWhile Bi).drop 1).dropLast⟩=s:=by
    unfold Be Cj;rw[if_pos rfl];show s.takeWhile Bi++64::(((s.dropWhile Bi).drop 1).dropLast++[59])=s;rw[<-e1];exact htd
   exact⟨⟨Kh s,.inl ⟨rfl,hb.2.2⟩,by rw[e];omega⟩,e⟩
  cases h
 rintro⟨⟨h1,h2,h3⟩,rfl⟩;obtain⟨e1,e2⟩:=Gh h1 (Qbc h2);unfold C5;rw[if_neg aI];show (if (k.signs++Cj k).dropWhile Bi=[110]\/_ then _ else _)=_;unfold Be;rw[e1,e2];obtain⟨sg,b,nm⟩:=k;rcases h2 with⟨h,hn⟩|⟨h,hn⟩
 ·simp only at h hn;subst h;unfold Cj;simp only[if_pos];rw[if_neg aK,if_pos]
  ·simp
  refine⟨rfl,?_,by simpa using hn⟩;rw[show (64:UInt8)::(nm++[59])=(64::nm)++[59]from rfl,List.getLast?_append];rfl
 simp only at h hn;subst hn;have hc:Cj ⟨sg,b,[]⟩=b:=by
  unfold Cj;rw[if_neg];rcases h with h|h|h<;>· show ¬b=_;rw[h];decide
 rw[hc,if_pos h]
theorem Jk{k:Kd}(h:Cw k):Cw k.part/\(k.signs≠[]->Be k.part=(Be k).tail/\(Be k.part).length+1=(Be k).length):=by
 obtain⟨h1,h2,h3⟩:=h;obtain⟨sg,b,nm⟩:=k;have hc:∀g,Cj ⟨g,b,nm⟩=Cj ⟨sg,b,nm⟩:=fun g=>rfl;cases sg with
 |nil=>exact⟨⟨h1,h2,h3⟩,fun h=>absurd rfl h⟩
 |cons c t=>
  simp only[List.all_cons,ax]at h1;have e:Be (Kd.part ⟨c::t,b,nm⟩)=(Be ⟨c::t,b,nm⟩).tail:=rfl;have el:(Be (Kd.part ⟨c::t,b,nm⟩)).length+1=(Be ⟨c::t,b,nm⟩).length:=rfl;exact⟨⟨h1.2,h2,by omega⟩,fun _=>⟨e,el⟩⟩
def Aj(c:UInt8):List UInt8->List (List UInt8)
 |[]=>[[]]
 |x::s=>if x=c then[]::Aj c s else match Aj c s with
  |p::ps=>(x::p)::ps
  |[]=>[[x]]
def Ax(c:UInt8):List (List UInt8)->List UInt8
 |[]=>[]
 |[p]=>p
 |p::ps=>p++c::Ax c ps
theorem Ex(c:UInt8)(s:List UInt8):Aj c s≠[]:=by
 cases s with
 |nil=>simp[Aj]
 |cons x s=>
  simp only[Aj];split
  ·simp
  split<;>simp
theorem Dl(c:UInt8)(p:List UInt8){ps:List (List UInt8)}(h:ps≠[]):Ax c (p::ps)=p++c::Ax c ps:=by
 cases ps with
 |nil=>exact absurd rfl h
 |cons q ps=>rfl
theorem P4(c:UInt8):∀s:List UInt8,Ax c (Aj c s)=s
 |[]=>rfl
 |x::s=>by
  have ih:=P4 c s;have hn:=Ex c s;simp only[Aj];split
  ·rename_i h;rw[Dl c _ hn,ih,h];rfl
  cases hs:Aj c s with
  |nil=>exact absurd hs hn
  |cons p ps=>
   rw[hs]at ih;cases ps with
   |nil=>simpa [Ax]using ih
   |cons q ps=>
    rw[Dl c _ aK]at ih ⊢;simp[ih]
theorem Qbs(c:UInt8):∀s:List UInt8,∀p∈Aj c s,c∉p
 |[],p,hp=>by simp[Aj]at hp;simp[hp]
 |x::s,p,hp=>by
  have ih:=Qbs c s;simp only[Aj]at hp;split at hp
  ·rcases aB.1 hp with rfl|hp
   ·simp
   exact ih p hp
  rename_i hx;cases hs:Aj c s with
  |nil=>exact absurd hs (Ex c s)
  |cons q qs=>
   rw[hs]at hp ih;rcases aB.1 hp with rfl|hp
   ·have:=ih q aK;simp;exact⟨fun h=>hx h.symm,this⟩
   exact ih p (by simp[hp])
theorem Gx(c:UInt8):∀p:List UInt8,c∉p->Aj c p=[p]
 |[],_=>rfl
 |x::p,h=>by
  simp at h;simp only[Aj];rw[if_neg (fun e=>h.1 e.symm),Gx c p h.2]
theorem Mn(c:UInt8):∀(p s:List UInt8),c∉p->Aj c (p++c::s)=p::Aj c s
 |[],s,_=>by simp[Aj]
 |x::p,s,h=>by
  simp at h;simp only[aw,Aj];rw[if_neg (fun e=>h.1 e.symm),Mn c p s h.2]
theorem M6(c:UInt8):∀ps:List (List UInt8),ps≠[]->(∀p∈ps,c∉p)->Aj c (Ax c ps)=ps
 |[],h,_=>absurd rfl h
 |[p],_,h=>Gx c p (h p aK)
 |p::q::ps,_,h=>by
  rw[Dl c p aK,Mn c p _ (h p aK),M6 c (q::ps) aK (fun x hx=>h x (by simp[hx]))]
theorem Eh{c:UInt8}{s:List UInt8}{ps:List (List UInt8)}:Aj c s=ps↔ps≠[]/\(∀p∈ps,c∉p)/\Ax c ps=s:=
 ⟨fun h=>by subst h;exact⟨Ex c s,Qbs c s,P4 c s⟩,fun⟨h1,h2,h3⟩=>by rw[<-h3];exact M6 c ps h1 h2⟩
theorem Jc(c:UInt8):∀s:List UInt8,(Aj c s).length<=s.length+1
 |[]=>by simp[Aj]
 |x::s=>by
  have ih:=Jc c s;simp only[Aj];split
  ·simp;exact ih
  cases hs:Aj c s with
  |nil=>exact absurd hs (Ex c s)
  |cons p ps=>rw[hs]at ih;simp at ih ⊢;omega
theorem Ao(c:UInt8):∀s:List UInt8,∀p∈Aj c s,p.length<=s.length
 |[],p,h=>by simp[Aj]at h;simp[h]
 |x::s,p,h=>by
  have ih:=Ao c s;simp only[Aj]at h;split at h
  ·rcases aB.1 h with rfl|h
   ·simp
   exact Nat.le_succ_of_le (ih p h)
  cases hs:Aj c s with
  |nil=>exact absurd hs (Ex c s)
  |cons q qs=>
   rw[hs]at ih h;rcases aB.1 h with rfl|h
   ·have:=ih q aK;simp;exact this
   have:=ih p (by simp[h]);simp;omega
def Dj(c:UInt8)(s:List UInt8):List UInt8 × List UInt8 × Bool:=
 if c∈s then(s.takeWhile (· != c),(s.dropWhile (· != c)).tail,true)else(s,[],false)
theorem Qu{c:UInt8}{s:List UInt8}(h:c∉s):Dj c s=(s,[],false):=if_neg h
theorem Ez{c:UInt8}{p s:List UInt8}(h:c∉p):Dj c (p++c::s)=(p,s,true):=by
 unfold Dj;rw[if_pos aK];have h1:p.all (fun x=>x != c)=true:=by
  rw[List.all_eq_true];intro x hx;simp;rintro rfl;exact h hx
 obtain⟨e1,e2⟩:=Gh (p:=fun x=>x != c) h1 ⟨c,s,rfl,by simp⟩;rw[e1,e2];rfl
theorem Qfk{c:UInt8}:∀{s:List UInt8},c∈s->∃p t,s=p++c::t/\c∉p
 |x::s,h=>by
  by_cases hx:x=c
  ·exact⟨[],s,by simp[hx],by simp⟩
  obtain⟨p,t,e,hp⟩:=Qfk (s:=s) (by rcases aB.1 h with h|h;exact absurd h.symm hx;exact h);exact⟨x::p,t,by simp[e],by simp;exact⟨fun e=>hx e.symm,hp⟩⟩
theorem Fy(c:UInt8)(s:List UInt8):(c∉s/\Dj c s=(s,[],false))\/∃p t,s=p++c::t/\c∉p/\Dj c s=(p,t,true):=by
 by_cases h:c∈s
 ·obtain⟨p,t,e,hp⟩:=Qfk h;exact .inr ⟨p,t,e,hp,by rw[e];exact Ez hp⟩
 exact .inl ⟨h,Qu h⟩
def Cn(c:UInt8):Bool:=Jx c || Bh c || c == 32
def Da(s:List UInt8):Bool:=decide (s.length<=12) && s.all Cn
def Ce(b s:List UInt8):Bool:=
 if b=[110]then(match Cx s with|some n=>decide (0<n)|none=>false)
 else if b=[116]then decide (2<s.length) && decide (s.head?=some 39) && decide (s.getLast?=some 39) && Da (s.drop 1).dropLast
 else if b=[102]then decide (s=[121,101,115])else false
theorem Qg0{r:List UInt8}(h:2<r.length)(h1:r.head?=some 39)(h2:r.getLast?=some 39):r=39::((r.drop 1).dropLast++[39]):=by
 cases r with
 |nil=>simp at h1
 |cons a t=>
  simp at h1;subst h1;rcases Fl t with rfl|⟨u,c,rfl⟩
  ·simp at h
  have:c=39:=by
   rw[show (39:UInt8)::(u++[c])=(39::u)++[c]from rfl,List.getLast?_append]at h2;simpa using h2
  subst this;simp
def H8(c:UInt8):Prop:=c≠10/\c≠44/\c≠58/\c≠61
theorem Qbw{c:UInt8}(h:Bh c=true):H8 c:=by
 rw[Dy]at h;refine⟨?_,?_,?_,?_⟩<;>(rintro rfl;revert h;decide)
theorem Qb2{c:UInt8}(h:Jx c=true):H8 c:=by
 rw[No]at h;refine⟨?_,?_,?_,?_⟩<;>(rintro rfl;revert h;decide)
theorem Qjd{c:UInt8}(h:Cn c=true):H8 c:=by
 unfold Cn at h;simp only[Bool.or_eq_true]at h;rcases h with(h|h)|h
 ·exact Qb2 h
 ·exact Qbw h
 have:c=32:=aU;subst this;exact⟨by decide,by decide,by decide,by decide⟩
theorem Qgs{c:UInt8}(h:Bi c=true):H8 c:=by
 unfold Bi at h;simp only[Bool.or_eq_true,beq_iff_eq]at h;rcases h with rfl|rfl<;>exact⟨by decide,by decide,by decide,by decide⟩
theorem Fj(n:Nat):∀c∈Az n,H8 c:=fun c hc=>Qbw (List.all_eq_true.1 (Np n) c hc)
theorem El{s:List UInt8}(h:Bf s=true):∀c∈s,H8 c:=fun c hc=>Qb2 ((Fc.1 h).2.2 c hc)
theorem J0{k:Kd}(h:Cw k):∀c∈Be k,H8 c:=by
 intro c hc;obtain⟨h1,h2,_⟩:=h;unfold Be Cj at hc;rcases af.1 hc with hc|hc
 ·exact Qgs (List.all_eq_true.1 h1 c hc)
 rcases h2 with⟨h,hn⟩|⟨h,_⟩
 ·rw[if_pos h]at hc;rcases aB.1 hc with rfl|hc
  ·exact⟨by decide,by decide,by decide,by decide⟩
  rcases af.1 hc with hc|hc
  ·exact El hn c hc
  simp at hc;subst hc;exact⟨by decide,by decide,by decide,by decide⟩
 rw[if_neg (by rcases h with h|h|h<;>· rw[h];decide)]at hc;rcases h with h|h|h<;>· rw[h]at hc;simp at hc;subst hc;exact⟨by decide,by decide,by decide,by decide⟩
theorem Mz{b s:List UInt8}(h:Ce b s=true):s≠[]/\∀c∈s,H8 c:=by
 unfold Ce at h;split at h
 ·cases hd:Cx s with
  |none=>rw[hd]at h;cases h
  |some n=>
   obtain⟨_,e⟩:=Bw.1 hd;subst e;exact⟨Q9 n,Fj n⟩
 split at h
 ·simp only[ax,decide_eq_true_eq]at h;obtain⟨⟨⟨h1,h2⟩,h3⟩,h4⟩:=h;have e:=Qg0 h1 h2 h3;refine⟨by intro hh;rw[hh]at h1;simp at h1,fun c hc=>?_⟩;rw[e]at hc;have q:H8 39:=⟨by decide,by decide,by decide,by decide⟩
  rcases aB.1 hc with rfl|hc
  ·exact q
  rcases af.1 hc with hc|hc
  ·unfold Da at h4;simp only[ax]at h4;exact Qjd (List.all_eq_true.1 h4.2 c hc)
  simp at hc;subst hc;exact q
 split at h
 ·simp only[decide_eq_true_eq]at h;subst h;refine⟨by simp,fun c hc=>?_⟩;simp at hc;rcases hc with rfl|rfl|rfl<;>exact⟨by decide,by decide,by decide,by decide⟩
 cases h
theorem Pb{b s:List UInt8}(h:Ce b s=true):b=[110]\/b=[116]\/b=[102]:=by
 unfold Ce at h;split at h
 ·exact .inl (by assumption)
 split at h
 ·exact .inr (.inl (by assumption))
 split at h
 ·exact .inr (.inr (by assumption))
 cases h
structure Fd where
 tag:Nat
 name:List UInt8
 kind:Kd
 given:List UInt8
deriving DecidableEq
def Mp(st:UInt8)(f:Fd):List UInt8:=if st=69 then[]else 58::(Be f.kind++if f.given=[]then[]else 61::f.given)
def Qi(st:UInt8)(f:Fd):List UInt8:=Az f.tag++58::(f.name++Mp st f)
def Su(st:UInt8)(f:Fd):Prop:=
 1<=f.tag/\f.tag<=200/\Bf f.name=true/\(st=69->f.kind=Kd.nil/\f.given=[]) /\
 (st≠69->Cw f.kind/\(f.given≠[]->st=82/\f.kind.signs=[]/\Ce f.kind.base f.given=true))
theorem Et{s:List UInt8}(h:∀c∈s,H8 c):10∉s/\44∉s/\58∉s/\61∉s:=
 ⟨fun hc=>(h _ hc).1 rfl,fun hc=>(h _ hc).2.1 rfl,fun hc=>(h _ hc).2.2.1 rfl,fun hc=>(h _ hc).2.2.2 rfl⟩
def Ks(p:List (List UInt8)):Option (Nat × List UInt8):=
 match p with
 |[a,b]=>(match Cx a with|some n=>if 1<=n/\n<=200/\Bf b=true then some (n,b)else none|none=>none)
 |_=>none
def Ms(p:List (List UInt8)):Option (Nat × List UInt8 × List UInt8):=
 match p with
 |[a,b,c]=>(match Cx a with|some n=>if 1<=n/\n<=200/\Bf b=true then some (n,b,c)else none|none=>none)
 |_=>none
def Ja(st:UInt8)(s:List UInt8):Option Fd:=
 if st=69 then
  match Ks (Aj 58 (Dj 61 s).1)with
  |some (n,b)=>if (Dj 61 s).2.2=true then none else some ⟨n,b,Kd.nil,(Dj 61 s).2.1⟩
  |none=>none
 else
  match Ms (Aj 58 (Dj 61 s).1)with
  |some (n,b,c)=>(match C5 c with
   |some k=>if (Dj 61 s).2.2=true/\¬(st=82/\k.signs=[]/\Ce k.base (Dj 61 s).2.1=true)then none else some ⟨n,b,k,(Dj 61 s).2.1⟩
   |none=>none)
  |none=>none
def Cc(st:UInt8)(s:List UInt8):Option Fd:=
 if st=69 then
  match Ks (Aj 58 s)with
  |some (n,b)=>some ⟨n,b,Kd.nil,[]⟩
  |none=>none
 else
  match Ms (Aj 58 s)with
  |some (n,b,c)=>(match Aj 61 c with
   |[k]=>(match C5 k with|some k=>some ⟨n,b,k,[]⟩|none=>none)
   |[k,v]=>if st=82/\Ce k v=true then some ⟨n,b,⟨[],k,[]⟩,v⟩else none
   |_=>none)
  |none=>none
theorem J6{p:List (List UInt8)}{n:Nat}{b:List UInt8}:Ks p=some (n,b)↔p=[Az n,b]/\1<=n/\n<=200/\Bf b=true:=by
 unfold Ks;constructor
 ·intro h;split at h
  ·rename_i a b';cases hd:Cx a with
   |none=>rw[hd]at h;cases h
   |some m=>
    rw[hd]at h;simp only at h;split at h
    ·rename_i hc;simp at h;obtain⟨rfl,rfl⟩:=h;rw[(Bw.1 hd).2];exact⟨rfl,hc⟩
    cases h
  cases h
 rintro⟨rfl,h⟩;have e:=Bw.2 ⟨(by omega:n<=999999),(rfl:Az n=Az n)⟩;simp only[e,if_pos h]
theorem G7{p:List (List UInt8)}{n:Nat}{b c:List UInt8}:Ms p=some (n,b,c)↔p=[Az n,b,c]/\1<=n/\n<=200/\Bf b=true:=by
 unfold Ms;constructor
 ·intro h;split at h
  ·rename_i a b' c';cases hd:Cx a with
   |none=>rw[hd]at h;cases h
   |some m=>
    rw[hd]at h;simp only at h;split at h
    ·rename_i hc;simp at h;obtain⟨rfl,rfl,rfl⟩:=h;rw[(Bw.1 hd).2];exact⟨rfl,hc⟩
    cases h
  cases h
 rintro⟨rfl,h⟩;have e:=Bw.2 ⟨(by omega:n<=999999),(rfl:Az n=Az n)⟩;simp only[e,if_pos h]
theorem P5{k:List UInt8}(h:k=[110]\/k=[116]\/k=[102]):Cw ⟨[],k,[]⟩/\Be ⟨[],k,[]⟩=k:=by
 rcases h with rfl|rfl|rfl<;>exact⟨⟨rfl,.inr ⟨by simp,rfl⟩,by decide⟩,by decide⟩
theorem Gp{st:UInt8}{s:List UInt8}{f:Fd}:Cc st s=some f↔Su st f/\Qi st f=s:=by
 obtain⟨tg,nm,k,gv⟩:=f;unfold Cc;by_cases hst:st=69
 ·rw[if_pos hst];constructor
  ·intro h;cases hp:Ks (Aj 58 s)with
   |none=>rw[hp]at h;cases h
   |some x=>
    obtain⟨n,b⟩:=x;rw[hp]at h;simp at h;obtain⟨rfl,rfl,rfl,rfl⟩:=h;obtain⟨e,h1,h2,h3⟩:=J6.1 hp;obtain⟨_,_,e2⟩:=Eh.1 e;exact⟨⟨h1,h2,h3,fun _=>⟨rfl,rfl⟩,fun h=>absurd hst h⟩,by rw[<-e2];simp[Qi,Mp,hst,Ax]⟩
  rintro⟨⟨h1,h2,h3,h4,_⟩,rfl⟩;obtain⟨e1,e2⟩:=h4 hst;simp only at h1 h2 h3 e1 e2;subst e1;subst e2
  have hs:Aj 58 (Qi st ⟨tg,nm,Kd.nil,[]⟩)=[Az tg,nm]:=Eh.2 ⟨by simp,by
   intro p hp;simp at hp;rcases hp with rfl|rfl
   ·exact ib
   exact(Et (El h3)).2.2.1,by simp[Qi,Mp,hst,Ax]⟩
  rw[hs,J6.2 ⟨rfl,h1,h2,h3⟩]
 rw[if_neg hst];constructor
 ·intro h;cases hp:Ms (Aj 58 s)with
  |none=>rw[hp]at h;cases h
  |some x=>
   obtain⟨n,b,c⟩:=x;rw[hp]at h;simp only at h;obtain⟨e,h1,h2,h3⟩:=G7.1 hp;obtain⟨_,_,e2⟩:=Eh.1 e;split at h
   ·rename_i k' hk;obtain⟨_,_,e3⟩:=Eh.1 hk;simp[Ax]at e3;subst e3;cases hkl:C5 k' with
    |none=>rw[hkl]at h;cases h
    |some kk=>
     rw[hkl]at h;simp at h;obtain⟨rfl,rfl,rfl,rfl⟩:=h;obtain⟨hk1,hk2⟩:=Fm.1 hkl;exact⟨⟨h1,h2,h3,fun h=>absurd h hst,fun _=>⟨hk1,fun h=>absurd rfl h⟩⟩,by rw[<-e2];simp[Qi,Mp,hst,Ax,hk2]⟩
   ·rename_i k' v hk;split at h
    ·rename_i hc;simp at h;obtain⟨rfl,rfl,rfl,rfl⟩:=h;obtain⟨_,_,e3⟩:=Eh.1 hk;obtain⟨hn,_⟩:=Mz hc.2;obtain⟨o1,o2⟩:=P5 (Pb hc.2);refine⟨⟨h1,h2,h3,fun h=>absurd h hst,fun _=>⟨o1,fun _=>⟨hc.1,rfl,hc.2⟩⟩⟩,?_⟩;rw[<-e2,<-e3];simp[Qi,Mp,hst,Ax,o2,hn]
    cases h
   cases h
 rintro⟨⟨h1,h2,h3,_,h4⟩,rfl⟩;obtain⟨hk,hg⟩:=h4 hst;simp only at h1 h2 h3 hk hg;by_cases hgv:gv=[]
 ·subst hgv
  have hs:Aj 58 (Qi st ⟨tg,nm,k,[]⟩)=[Az tg,nm,Be k]:=Eh.2 ⟨by simp,by
   intro p hp;simp at hp;rcases hp with rfl|rfl|rfl
   ·exact ib
   ·exact(Et (El h3)).2.2.1
   exact(Et (J0 hk)).2.2.1,by simp[Qi,Mp,hst,Ax]⟩
  rw[hs,G7.2 ⟨rfl,h1,h2,h3⟩];simp only;rw[Gx 61 (Be k) (Et (J0 hk)).2.2.2];simp only;rw[Fm.2 ⟨hk,rfl⟩]
 obtain⟨g1,g2,g3⟩:=hg hgv;obtain⟨_,hp⟩:=Mz g3;have hb:=Pb g3;obtain⟨o1,o2⟩:=P5 hb;have ek:k=⟨[],k.base,[]⟩:=by
  obtain⟨sg,b,nm'⟩:=k;simp only at g2 hb;subst g2;obtain⟨_,hbo,_⟩:=hk;rcases hbo with⟨h,_⟩|⟨_,h⟩
  ·exfalso
   simp only at h;rcases hb with hb|hb|hb<;>· rw[h]at hb;revert hb;decide
  simp only at h;rw[h]
 have eB:Be k=k.base:=by rw[ek];exact o2
 have nb:∀c∈Be k,H8 c:=J0 hk
 have hs:Aj 58 (Qi st ⟨tg,nm,k,gv⟩)=[Az tg,nm,Be k++61::gv]:=Eh.2 ⟨by simp,by
  intro p hp';simp at hp';rcases hp' with rfl|rfl|rfl
  ·exact ib
  ·exact(Et (El h3)).2.2.1
  intro hc;rcases af.1 hc with hc|hc
  ·exact(Et nb).2.2.1 hc
  rcases aB.1 hc with hc|hc
  ·revert hc;decide
  exact(Et hp).2.2.1 hc,by simp[Qi,Mp,hst,Ax,hgv]⟩
 rw[hs,G7.2 ⟨rfl,h1,h2,h3⟩];simp only;rw[Mn 61 (Be k) gv (Et nb).2.2.2,Gx 61 gv (Et hp).2.2.2];simp only;rw[eB,if_pos ⟨g1,g3⟩,<-ek]
theorem Xo{st:UInt8}{s:List UInt8}{f:Fd}:Ja st s=some f↔Su st f/\Qi st f=s:=by
 obtain⟨tg,nm,k,gv⟩:=f;constructor
 ·intro h;unfold Ja at h;by_cases hst:st=69
  ·rw[if_pos hst]at h;cases hp:Ks (Aj 58 (Dj 61 s).1)with
   |none=>rw[hp]at h;cases h
   |some x=>
    obtain⟨n,b⟩:=x;rw[hp]at h;simp only at h;obtain⟨e,h1,h2,h3⟩:=J6.1 hp;obtain⟨_,_,e2⟩:=Eh.1 e;rcases Fy 61 s with⟨hn,hc⟩|⟨p,t,_,_,hc⟩
    ·rw[hc]at h e2;simp at h;obtain⟨rfl,rfl,rfl,rfl⟩:=h;exact⟨⟨h1,h2,h3,fun _=>⟨rfl,rfl⟩,fun h=>absurd hst h⟩,by simp only at e2;rw[<-e2];simp[Qi,Mp,hst,Ax]⟩
    rw[hc]at h;simp at h
  rw[if_neg hst]at h;cases hp:Ms (Aj 58 (Dj 61 s).1)with
  |none=>rw[hp]at h;cases h
  |some x=>
   obtain⟨n,b,c⟩:=x;rw[hp]at h;simp only at h;obtain⟨e,h1,h2,h3⟩:=G7.1 hp;obtain⟨_,_,e2⟩:=Eh.1 e;cases hkl:C5 c with
   |none=>rw[hkl]at h;cases h
   |some kk=>
    obtain⟨hk1,hk2⟩:=Fm.1 hkl;rw[hkl]at h;simp only at h;rcases Fy 61 s with⟨hn,hc⟩|⟨p,t,ec,_,hc⟩
    ·rw[hc]at h e2;simp at h;obtain⟨rfl,rfl,rfl,rfl⟩:=h;exact⟨⟨h1,h2,h3,fun h=>absurd h hst,fun _=>⟨hk1,fun h=>absurd rfl h⟩⟩,by simp only at e2;rw[<-e2];simp[Qi,Mp,hst,Ax,hk2]⟩
    rw[hc]at h e2;simp only at h e2;split at h
    ·cases h
    rename_i hcc;have hcc':st=82/\kk.signs=[]/\Ce kk.base t=true:=Decidable.byContradiction fun hh=>hcc ⟨trivial,hh⟩;simp at h;obtain⟨rfl,rfl,rfl,rfl⟩:=h;obtain⟨hn,_⟩:=Mz hcc'.2.2;exact⟨⟨h1,h2,h3,fun h=>absurd h hst,fun _=>⟨hk1,fun _=>hcc'⟩⟩,by rw[ec,<-e2];simp[Qi,Mp,hst,Ax,hk2,hn]⟩
 intro h;have hS:=Gp.2 h;obtain⟨⟨h1,h2,h3,h4,h5⟩,rfl⟩:=h;simp only at h1 h2 h3 h4 h5;unfold Ja;by_cases hst:st=69
 ·obtain⟨e1,e2⟩:=h4 hst;subst e1;subst e2;have hno:61∉Qi st ⟨tg,nm,Kd.nil,[]⟩:=by
   simp[Qi,Mp,hst];exact⟨(Et (Fj tg)).2.2.2,(Et (El h3)).2.2.2⟩
  rw[if_pos hst,Qu hno];simp only
  have hs:Aj 58 (Qi st ⟨tg,nm,Kd.nil,[]⟩)=[Az tg,nm]:=Eh.2 ⟨by simp,by
   intro p hp;simp at hp;rcases hp with rfl|rfl
   ·exact ib
   exact(Et (El h3)).2.2.1,by simp[Qi,Mp,hst,Ax]⟩
  rw[hs,J6.2 ⟨rfl,h1,h2,h3⟩];simp
 obtain⟨hk,hg⟩:=h5 hst;have nb:∀c∈Be k,H8 c:=J0 hk;have hno:61∉Az tg++58::(nm++58::Be k):=by
  simp;exact⟨(Et (Fj tg)).2.2.2,(Et (El h3)).2.2.2,(Et nb).2.2.2⟩
 have hs:Aj 58 (Az tg++58::(nm++58::Be k))=[Az tg,nm,Be k]:=Eh.2 ⟨by simp,by
  intro p hp;simp at hp;rcases hp with rfl|rfl|rfl
  ·exact ib
  ·exact(Et (El h3)).2.2.1
  exact(Et nb).2.2.1,by simp[Ax]⟩
 rw[if_neg hst];by_cases hgv:gv=[]
 ·subst hgv;have e:Qi st ⟨tg,nm,k,[]⟩=Az tg++58::(nm++58::Be k):=by simp[Qi,Mp,hst]
  rw[e,Qu hno];simp only;rw[hs,G7.2 ⟨rfl,h1,h2,h3⟩];simp only;rw[Fm.2 ⟨hk,rfl⟩];simp
 have e:Qi st ⟨tg,nm,k,gv⟩=(Az tg++58::(nm++58::Be k))++61::gv:=by simp[Qi,Mp,hst,hgv]
 rw[e,Ez hno];simp only;rw[hs,G7.2 ⟨rfl,h1,h2,h3⟩];simp only;rw[Fm.2 ⟨hk,rfl⟩];simp only;rw[if_neg (fun hh=>hh.2 (hg hgv))]
theorem Qim(st:UInt8)(s:List UInt8):Ja st s=Cc st s:=by
 cases h:Cc st s with
 |some f=>exact Xo.2 (Gp.1 h)
 |none=>
  cases h2:Ja st s with
  |none=>rfl
  |some f=>rw[Gp.2 (Xo.1 h2)]at h;cases h
theorem Vg{st:UInt8}{f:Fd}(h:Su st f):10∉Qi st f/\44∉Qi st f/\Qi st f≠[]:=by
 obtain⟨h1,h2,h3,h4,h5⟩:=h;have hd:=Q9 f.tag;refine⟨?_,?_,by unfold Qi;simp⟩;all_goals
  unfold Qi Mp;simp only[af,aB,not_or];refine⟨?_,by decide,?_,?_⟩
  ·first|exact(Et (Fj f.tag)).1|exact(Et (Fj f.tag)).2.1
  ·first|exact(Et (El h3)).1|exact(Et (El h3)).2.1
  ·by_cases hst:st=69
   ·rw[if_pos hst];simp
   rw[if_neg hst];obtain⟨hk,hg⟩:=h5 hst;simp only[af,aB,not_or];refine⟨by decide,?_,?_⟩
   ·first|exact(Et (J0 hk)).1|exact(Et (J0 hk)).2.1
   by_cases hgv:f.given=[]
   ·rw[if_pos hgv];simp
   rw[if_neg hgv];have hp:=(Mz (hg hgv).2.2).2;simp only[aB,not_or];refine⟨by decide,?_⟩;first|exact(Et hp).1|exact(Et hp).2.1
theorem Qhj{st:UInt8}{f g:Fd}(hf:Su st f)(hg:Su st g)(h:Qi st f=Qi st g):f=g:=by
 have h1:=Gp.2 ⟨hf,rfl⟩;have h2:=Gp.2 ⟨hg,h.symm⟩;rw[h1]at h2;injection h2
structure Ty where
 sort:UInt8
 name:List UInt8
 fields:List Fd
deriving DecidableEq
def Gr(fs:List Fd)(f:Fd):Bool:=fs.all fun g=>decide (g.name≠f.name) && decide (g.tag<f.tag)
def Fx(st:UInt8):List (List UInt8)->List Fd->Option (List Fd)
 |[],acc=>some acc
 |p::ps,acc=>match Ja st p with
  |none=>none
  |some f=>if acc.length=8\/Gr acc f=false then none else Fx st ps (acc++[f])
def D7(st:UInt8):List (List UInt8)->List Fd->Option (List Fd)
 |[],acc=>some acc
 |p::ps,acc=>match Cc st p with
  |none=>none
  |some f=>if Gr acc f=false then none else D7 st ps (acc++[f])
def Fds(st:UInt8)(fs:List Fd):Prop:=(∀f∈fs,Su st f)/\fs.Pairwise fun g f=>g.name≠f.name/\g.tag<f.tag
theorem Mm{fs:List Fd}{f:Fd}:Gr fs f=true↔∀g∈fs,g.name≠f.name/\g.tag<f.tag:=by simp[Gr]
theorem Qeq{st:UInt8}{fs:List Fd}{f:Fd}:Fds st (fs++[f])↔Fds st fs/\Su st f/\Gr fs f=true:=by
 unfold Fds;rw[Mm,List.pairwise_append];constructor
 ·rintro⟨h1,h2,_,h3⟩;exact⟨⟨fun g hg=>h1 g (by simp[hg]),h2⟩,h1 f aK,fun g hg=>h3 g hg f aK⟩
 rintro⟨⟨h1,h2⟩,h3,h4⟩;refine⟨fun g hg=>?_,h2,by simp,fun g hg f' hf'=>?_⟩
 ·rcases af.1 hg with hg|hg
  ·exact h1 g hg
  simp at hg;subst hg;exact h3
 simp at hf';subst hf';exact h4 g hg
theorem Pj(st:UInt8):∀(ps:List (List UInt8)) (acc r:List Fd),Fds st acc->(D7 st ps acc=some r↔Fds st r/\∃gs,r=acc++gs/\gs.map (Qi st)=ps)
 |[],acc,r,ha=>by
  simp only[D7,aj];constructor
  ·rintro rfl;exact⟨ha,[],by simp,rfl⟩
  rintro⟨_,gs,e,h⟩;have:gs=[]:=aU;subst this;simpa using e.symm
 |p::ps,acc,r,ha=>by
  simp only[D7];cases hf:Cc st p with
  |none=>
   simp only[reduceCtorEq,false_iff];rintro⟨hr,gs,rfl,h⟩;cases gs with
   |nil=>simp at h
   |cons g gs=>
    simp at h;have:=Gp.2 ⟨hr.1 g aK,h.1⟩;rw[this]at hf;cases hf
  |some f=>
   obtain⟨ok,eb⟩:=Gp.1 hf;simp only;by_cases hfit:Gr acc f=false
   ·rw[if_pos hfit];simp only[reduceCtorEq,false_iff];rintro⟨hr,gs,rfl,h⟩;cases gs with
    |nil=>simp at h
    |cons g gs=>
     simp at h;have hg:g=f:=Qhj (hr.1 g aK) ok (h.1.trans eb.symm);subst hg;have h2:Fds st (acc++[g]++gs):=dW;have h3:Fds st (acc++[g]):=⟨fun x hx=>h2.1 x (by simp at hx ⊢;rcases hx with hx|hx<;>simp[hx]),(List.pairwise_append.1 h2.2).1⟩
     rw[(Qeq.1 h3).2.2]at hfit;cases hfit
   rw[if_neg hfit];have hfit':Gr acc f=true:=by simpa using hfit
   rw[Pj st ps (acc++[f]) r (Qeq.2 ⟨ha,ok,hfit'⟩)];constructor
   ·rintro⟨hr,gs,rfl,h⟩;exact⟨hr,f::gs,by simp,by simp[eb,h]⟩
   rintro⟨hr,gs,rfl,h⟩;cases gs with
   |nil=>simp at h
   |cons g gs=>
    simp at h;have hg:g=f:=Qhj (hr.1 g aK) ok (h.1.trans eb.symm);subst hg;exact⟨hr,gs,by simp,h.2⟩
theorem Sc(st:UInt8):∀(ps:List (List UInt8)) (acc:List Fd),acc.length<=8->Fx st ps acc=(match D7 st ps acc with|some r=>if r.length<=8 then some r else none|none=>none)
 |[],acc,h=>by simp[Fx,D7,h]
 |p::ps,acc,h=>by
  simp only[Fx,D7,Qim];cases hf:Cc st p with
  |none=>rfl
  |some f=>
   simp only;by_cases hfit:Gr acc f=false
   ·rw[if_pos (.inr hfit),if_pos hfit]
   rw[if_neg hfit];by_cases h8:acc.length=8
   ·rw[if_pos (.inl h8)];have key:∀(ps:List (List UInt8)) (a r:List Fd),D7 st ps a=some r->a.length<=r.length:=by
     intro ps;induction ps with
     |nil=>intro a r h;simp[D7]at h;rw[h];exact Nat.le_refl _
     |cons q qs ih=>
      intro a r h;simp only[D7]at h;split at h
      ·cases h
      split at h
      ·cases h
      have:=ih _ _ h;simp at this;omega
    cases hr:D7 st ps (acc++[f])with
    |none=>rfl
    |some r=>
     have:=key _ _ _ hr;simp at this;simp only;rw[if_neg aI]
   rw[if_neg (by simp[h8,hfit])];exact Sc st ps (acc++[f]) aO
def Ej(c:UInt8):Prop:=c=82\/c=85\/c=69
instance (c:UInt8):Decidable (Ej c):=by unfold Ej;infer_instance
def Ek(t:Ty):Prop:=Ej t.sort/\Bf t.name=true/\Fds t.sort t.fields/\t.fields.length<=8/\(t.fields=[]->t.sort=82)
def tyB(t:Ty):List UInt8:=t.sort::(t.name++61::Ax 44 (t.fields.map (Qi t.sort)))
def Fe(s:List UInt8):Option Ty:=
 match s with
 |[]=>none
 |c::r=>
  if ¬Ej c\/(Dj 61 r).2.2=false\/Bf (Dj 61 r).1=false then none
  else if (Dj 61 r).2.1=[]then(if c=82 then some ⟨c,(Dj 61 r).1,[]⟩else none)
  else match Fx c (Aj 44 (Dj 61 r).2.1) []with
   |some fs=>some ⟨c,(Dj 61 r).1,fs⟩
   |none=>none
theorem Qlh{c:UInt8}{ps:List (List UInt8)}(h:ps≠[])(h1:∀p∈ps,p≠[]):Ax c ps≠[]:=by
 cases ps with
 |nil=>exact absurd rfl h
 |cons p ps=>
  have:=h1 p aK;cases ps with
  |nil=>exact this
  |cons q ps=>rw[Dl c p aK];simp
theorem Qcu(st:UInt8):Fds st []:=⟨by simp,List.Pairwise.nil⟩
theorem Tg{st:UInt8}{ps:List (List UInt8)}{r:List Fd}:Fx st ps []=some r↔Fds st r/\r.length<=8/\r.map (Qi st)=ps:=by
 rw[Sc st ps [] aK];constructor
 ·intro h;cases hs:D7 st ps []with
  |none=>rw[hs]at h;cases h
  |some x=>
   rw[hs]at h;simp only at h;split at h
   ·rename_i h8;injection h with h;subst h;obtain⟨h1,gs,e,h2⟩:=(Pj st ps [] x (Qcu st)).1 hs;simp at e;subst e;exact⟨h1,h8,h2⟩
   cases h
 rintro⟨h1,h2,h3⟩;rw[(Pj st ps [] r (Qcu st)).2 ⟨h1,r,by simp,h3⟩];simp[h2]
theorem Qjg{c:UInt8}(h:Ej c):c≠61/\c≠10:=by
 rcases h with rfl|rfl|rfl<;>exact⟨by decide,by decide⟩
theorem Ga{s:List UInt8}{t:Ty}:Fe s=some t↔Ek t/\tyB t=s:=by
 obtain⟨st,nm,fs⟩:=t;constructor
 ·intro h;unfold Fe at h;split at h
  ·cases h
  rename_i c r;split at h
  ·cases h
  rename_i hc;have hc1:Ej c:=Decidable.byContradiction fun hh=>hc (.inl hh);have hc2:(Dj 61 r).2.2=true:=by
   cases hb:(Dj 61 r).2.2 with
   |true=>rfl
   |false=>exact absurd (.inr (.inl hb)) hc
  have hc3:Bf (Dj 61 r).1=true:=by
   cases hb:Bf (Dj 61 r).1 with
   |true=>rfl
   |false=>exact absurd (.inr (.inr hb)) hc
  rcases Fy 61 r with⟨_,e⟩|⟨p,u,er,hp,e⟩
  ·rw[e]at hc2;cases hc2
  rw[e]at h hc3;simp only at h hc3;split at h
  ·rename_i hu;subst hu;split at h
   ·rename_i h82;injection h with h;injection h with e1 e2 e3;subst e1;subst e2;subst e3;exact⟨⟨hc1,hc3,Qcu _,by simp,fun _=>h82⟩,by rw[er];simp[tyB,Ax]⟩
   cases h
  rename_i hu;cases hf:Fx c (Aj 44 u) []with
  |none=>rw[hf]at h;cases h
  |some x=>
   rw[hf]at h;injection h with h;injection h with e1 e2 e3;subst e1;subst e2;subst e3;obtain⟨f1,f2,f3⟩:=Tg.1 hf;obtain⟨s1,_,s3⟩:=Eh.1 f3.symm;exact⟨⟨hc1,hc3,f1,f2,fun hh=>by simp only at hh;subst hh;exact absurd rfl s1⟩,by rw[er];simp only[tyB];rw[s3]⟩
 rintro⟨⟨h1,h2,h3,h4,h5⟩,rfl⟩;simp only at h1 h2 h3 h4 h5;have hno:61∉nm:=(Et (El h2)).2.2.2;unfold Fe tyB;simp only;rw[Ez hno];simp only;rw[if_neg (by simp[h1,h2])];by_cases hf:fs=[]
 ·subst hf;rw[h5 rfl];simp[Ax]
 have hn:Ax 44 (fs.map (Qi st))≠[]:=Qlh (by simpa using hf) (by
  intro p hp;obtain⟨f,hf',rfl⟩:=ay.1 hp;exact(Vg (h3.1 f hf')).2.2)
 have hs:Aj 44 (Ax 44 (fs.map (Qi st)))=fs.map (Qi st):=M6 44 _ (by simpa using hf) (by
  intro p hp;obtain⟨f,hf',rfl⟩:=ay.1 hp;exact(Vg (h3.1 f hf')).2.1)
 rw[if_neg hn,hs,Tg.2 ⟨h3,h4,rfl⟩]
theorem Qbb{t:Ty}(h:Ek t):10∉tyB t/\tyB t≠[]:=by
 refine⟨?_,by unfold tyB;simp⟩;obtain⟨h1,h2,h3,_,_⟩:=h;unfold tyB;simp only[af,aB,not_or];refine⟨fun e=>(Qjg h1).2 e.symm,(Et (El h2)).1,by decide,?_⟩;have key:∀ps:List (List UInt8),(∀p∈ps,(10:UInt8)∉p)->(10:UInt8)∉Ax 44 ps:=by
  intro ps;induction ps with
  |nil=>intro _;simp[Ax]
  |cons p ps ih=>
   intro hp;cases ps with
   |nil=>exact hp p aK
   |cons q ps=>
    rw[Dl 44 p aK];simp only[af,aB,not_or];refine⟨hp p aK,by decide,ih (fun x hx=>hp x (by simp[hx]))⟩
 apply key;intro p hp;obtain⟨f,hf',rfl⟩:=ay.1 hp;exact(Vg (h3.1 f hf')).1
theorem Qcq{t u:Ty}(ht:Ek t)(hu:Ek u)(h:tyB t=tyB u):t=u:=by
 have h1:=Ga.2 ⟨ht,rfl⟩;have h2:=Ga.2 ⟨hu,h.symm⟩;rw[h1]at h2;injection h2
def scB(S:List Ty):List UInt8:=S.flatMap fun t=>tyB t++[10]
def Mu(S:List Ty):Prop:=(∀t∈S,Ek t)/\S.length<=8/\S.Pairwise fun t u=>t.name≠u.name
def Gi:Nat->List UInt8->List Ty->Option (List Ty)
 |0,_,_=>none
 |n+1,s,acc=>
  if s=[]then some acc
  else if (Dj 10 s).2.2=false\/acc.length=8 then none
  else match Fe (Dj 10 s).1 with
   |none=>none
   |some t=>if acc.any (fun u=>decide (u.name=t.name))=true then none else Gi n (Dj 10 s).2.1 (acc++[t])
theorem Qb4{S:List Ty}{t:Ty}:Mu (S++[t])↔Mu S/\Ek t/\S.length<8/\S.any (fun u=>decide (u.name=t.name))=false:=by
 unfold Mu;rw[List.pairwise_append];constructor
 ·rintro⟨h1,h2,h3,_,h4⟩;simp at h2;refine⟨⟨fun u hu=>h1 u (by simp[hu]),by omega,h3⟩,h1 t aK,by omega,?_⟩;simp;intro u hu;exact h4 u hu t aK
 rintro⟨⟨h1,h2,h3⟩,h4,h5,h6⟩;simp at h6;refine⟨fun u hu=>?_,by simp;omega,h3,by simp,fun u hu v hv=>?_⟩
 ·rcases af.1 hu with hu|hu
  ·exact h1 u hu
  simp at hu;subst hu;exact h4
 simp at hv;subst hv;exact h6 u hu
theorem Qg(t:Ty)(S:List Ty):scB (t::S)=tyB t++10::scB S:=by simp[scB]
theorem Xc:∀(n:Nat) (s:List UInt8) (acc r:List Ty),s.length<n->Mu acc->(Gi n s acc=some r↔Mu r/\∃U,r=acc++U/\scB U=s)
 |0,s,acc,r,h,_=>absurd h (Nat.not_lt_zero _)
 |n+1,s,acc,r,h,ha=>by
  simp only[Gi];by_cases hs:s=[]
  ·subst hs;rw[if_pos rfl];constructor
   ·intro hh;injection hh with hh;subst hh;exact⟨ha,[],by simp,rfl⟩
   rintro⟨_,U,rfl,e⟩;cases U with
   |nil=>simp
   |cons t U=>rw[Qg]at e;simp at e
  rw[if_neg hs];rcases Fy 10 s with⟨hn,e⟩|⟨p,u,es,hp,e⟩
  ·rw[e,if_pos (.inl rfl)];simp only[reduceCtorEq,false_iff];rintro⟨_,U,rfl,eU⟩;cases U with
   |nil=>exact hs eU.symm
   |cons t U=>rw[Qg]at eU;rw[<-eU]at hn;simp at hn
  rw[e];simp only;by_cases h8:acc.length=8
  ·rw[if_pos (.inr h8)];simp only[reduceCtorEq,false_iff];rintro⟨hr,U,rfl,eU⟩;cases U with
   |nil=>exact hs eU.symm
   |cons t U=>have:=hr.2.1;simp at this;omega
  rw[if_neg (by simp[h8])];have hsplit:∀t U,Ek t->scB (t::U)=s->tyB t=p/\scB U=u:=by
   intro t U ht eU;rw[Qg,es]at eU;have h1:=Ez (s:=scB U) (Qbb ht).1;rw[eU,Ez hp]at h1;injection h1 with e1 e2;injection e2 with e2 _;exact⟨e1.symm,e2.symm⟩
  cases ht:Fe p with
  |none=>
   simp only[reduceCtorEq,false_iff];rintro⟨hr,U,rfl,eU⟩;cases U with
   |nil=>exact hs eU.symm
   |cons t U=>
    have ok:Ek t:=hr.1 t aK;rw[Ga.2 ⟨ok,(hsplit t U ok eU).1⟩]at ht;cases ht
  |some t=>
   obtain⟨ok,eb⟩:=Ga.1 ht;simp only;by_cases hd:acc.any (fun u=>decide (u.name=t.name))=true
   ·rw[if_pos hd];simp only[reduceCtorEq,false_iff];rintro⟨hr,U,rfl,eU⟩;cases U with
    |nil=>exact hs eU.symm
    |cons t' U=>
     have ok':Ek t':=hr.1 t' aK;have ett:t'=t:=Qcq ok' ok ((hsplit t' U ok' eU).1.trans eb.symm);subst ett;simp at hd;obtain⟨v,hv,hvn⟩:=hd;exact(List.pairwise_append.1 hr.2.2).2.2 v hv t' aK hvn
   rw[if_neg hd];have hlen:u.length<n:=by rw[es]at h;simp at h;omega
   rw[Xc n u (acc++[t]) r hlen (Qb4.2 ⟨ha,ok,by have:=ha.2.1;omega,by simpa using hd⟩)];constructor
   ·rintro⟨hr,U,rfl,eU⟩;exact⟨hr,t::U,by simp,by rw[Qg,eb,eU,es]⟩
   rintro⟨hr,U,rfl,eU⟩;cases U with
   |nil=>exact absurd eU.symm hs
   |cons t' U=>
    have ok':Ek t':=hr.1 t' aK;obtain⟨e1,e2⟩:=hsplit t' U ok' eU;have ett:t'=t:=Qcq ok' ok (e1.trans eb.symm);subst ett;exact⟨hr,U,by simp,e2⟩
def Dt(s:List UInt8):Option Ty:=
 match Dj 61 s with
 |(c::nm,u,true)=>
  if ¬Bf nm=true\/¬Ej c then none
  else if u=[]then(if c=82 then some ⟨c,nm,[]⟩else none)
  else match D7 c (Aj 44 u) []with
   |some r=>if r.length<=8 then some ⟨c,nm,r⟩else none
   |none=>none
 |_=>none
theorem Qel(s:List UInt8):Dt s=Fe s:=by
 cases s with
 |nil=>rfl
 |cons c r=>
  unfold Dt Fe;by_cases hc:c=61
  ·subst hc;have e:Dj 61 (61::r)=([],r,true):=Ez (p:=[]) aK;rw[e];simp only;rw[if_pos (.inl aL)]
  rcases Fy 61 r with⟨hn,e⟩|⟨p,u,er,hp,e⟩
  ·have e2:Dj 61 (c::r)=(c::r,[],false):=Qu (by simp;exact⟨fun h=>hc h.symm,hn⟩);rw[e2];simp[e]
  have e2:Dj 61 (c::r)=(c::p,u,true):=by
   rw[er];exact Ez (p:=c::p) (by simp;exact⟨fun h=>hc h.symm,hp⟩)
  rw[e2];simp only[e];by_cases h1:Bf p=true
  ·by_cases h2:Ej c
   ·by_cases hu:u=[]
    ·subst hu;simp[h1,h2]
    have hx:∀(a b:Option Ty),(if ¬Bf p=true\/¬Ej c then a else b)=b:=fun a b=>if_neg (by simp[h1,h2]);have hy:∀(a b:Option Ty),(if ¬Ej c\/true=false\/Bf p=false then a else b)=b:=fun a b=>if_neg (by simp[h1,h2]);have hz:∀(a b:Option Ty),(if u=[]then a else b)=b:=fun a b=>if_neg hu;rw[hx,hy,hz,hz,Sc c _ [] aK];cases D7 c (Aj 44 u) []with
    |none=>rfl
    |some r=>simp only;split<;>rfl
   rw[if_pos (.inr h2),if_pos (.inl h2)]
  rw[if_pos (.inl h1),if_pos (.inr (.inr dU))]
def Fv:List (List UInt8)->Option (List Ty)
 |[]=>some []
 |p::ps=>match Fe p with
  |none=>none
  |some t=>match Fv ps with
   |none=>none
   |some ts=>some (t::ts)
theorem Qe:∀(ps:List (List UInt8)) (ts:List Ty),Fv ps=some ts↔(∀t∈ts,Ek t)/\ts.map tyB=ps
 |[],ts=>by
  simp only[Fv,aj];constructor
  ·rintro rfl;simp
  rintro⟨_,h⟩;simpa using h.symm
 |p::ps,ts=>by
  simp only[Fv];cases ht:Fe p with
  |none=>
   simp only[reduceCtorEq,false_iff];rintro⟨h,e⟩;cases ts with
   |nil=>simp at e
   |cons t ts=>
    simp at e;rw[Ga.2 ⟨h t aK,e.1⟩]at ht;cases ht
  |some t=>
   obtain⟨ok,eb⟩:=Ga.1 ht;simp only;have ih:=Qe ps;constructor
   ·intro h;cases hr:Fv ps with
    |none=>rw[hr]at h;cases h
    |some us=>
     rw[hr]at h;injection h with h;subst h;obtain⟨i1,i2⟩:=(ih us).1 hr;exact⟨by simpa using⟨ok,i1⟩,by simp[eb,i2]⟩
   rintro⟨h,e⟩;cases ts with
   |nil=>simp at e
   |cons u us=>
    simp at e;have:u=t:=Qcq (h u aK) ok (e.1.trans eb.symm);subst this;rw[(ih us).2 ⟨fun x hx=>h x (by simp[hx]),e.2⟩]
def Pc(s:List UInt8):Option (List Ty):=
 if 9<(Aj 10 s).length\/(Aj 10 s).getLast?≠some []then none else Fv (Aj 10 s).dropLast
theorem Qed(S:List Ty):Ax 10 (S.map tyB++[[]])=scB S:=by
 induction S with
 |nil=>rfl
 |cons t S ih=>
  rw[az,aw,Dl 10 _ aK,ih,Qg]
theorem Qfi{s:List UInt8}{S:List Ty}:Pc s=some S↔(∀t∈S,Ek t)/\S.length<=8/\scB S=s:=by
 unfold Pc;constructor
 ·intro h;split at h
  ·cases h
  rename_i hc;have h9:(Aj 10 s).length<=9:=by
   rcases aH 9 (Aj 10 s).length with hh|hh
   ·exact absurd (.inl hh) hc
   exact hh
  have hl:(Aj 10 s).getLast?=some []:=by
   refine Decidable.byContradiction fun hh=>hc (.inr hh)
  obtain⟨t1,t2⟩:=(Qe _ _).1 h;have e:Aj 10 s=S.map tyB++[[]]:=by
   rcases Fl (Aj 10 s)with hh|⟨t,c,hh⟩
   ·exact absurd hh (Ex 10 s)
   rw[hh]at hl t2 ⊢;simp at hl t2;rw[t2,hl]
  have hs:=P4 10 s;rw[e,Qed]at hs;rw[e]at h9;simp at h9;exact⟨t1,h9,hs⟩
 rintro⟨h1,h2,rfl⟩;have e:Aj 10 (scB S)=S.map tyB++[[]]:=by
  rw[<-Qed];refine M6 10 _ aK ?_;intro p hp;rcases af.1 hp with hp|hp
  ·obtain⟨t,ht,rfl⟩:=ay.1 hp;exact(Qbb (h1 t ht)).1
  simp at hp;subst hp;simp
 rw[e,if_neg aO];simp only[List.dropLast_concat];exact(Qe _ _).2 ⟨h1,rfl⟩
def B9(S:List Ty)(n:List UInt8):Option Ty:=S.find? fun t=>decide (t.name=n)
theorem Bj{S:List Ty}{n:List UInt8}{t:Ty}(h:B9 S n=some t):t∈S/\t.name=n:=by
 have h1:=List.mem_of_find?_eq_some h;have h2:=List.find?_some h;exact⟨h1,by simpa using h2⟩
def Bu(S:List Ty)(k:Kd):Prop:=k.base=[64]->(B9 S k.name).isSome=true
instance (S:List Ty) (k:Kd):Decidable (Bu S k):=by unfold Bu;infer_instance
def G1(S:List Ty):Prop:=∀t∈S,t.sort≠69->∀f∈t.fields,Bu S f.kind
instance (S:List Ty):Decidable (G1 S):=by unfold G1;infer_instance
def Gb(S:List Ty)(t:Ty):Option Ty:=
 if t.sort=85 then(match t.fields with
  |f::_=>if f.kind.signs=[]/\f.kind.base=[64]then B9 S f.kind.name else none
  |[]=>none)else none
def By(S:List Ty):Nat->Ty->Bool
 |0,_=>false
 |n+1,t=>match Gb S t with
  |none=>true
  |some u=>By S n u
theorem Qgt{S:List Ty}{t u:Ty}(h:Gb S t=some u):u∈S:=by
 unfold Gb at h;split at h
 ·split at h
  ·split at h
   ·exact(Bj h).1
   cases h
  cases h
 cases h
theorem Me(S:List Ty):∀(n:Nat) (t:Ty),By S n t=true->∀m,n<=m->By S m t=true
 |0,t,h,_,_=>by simp[By]at h
 |n+1,t,h,m,hm=>by
  obtain⟨k,rfl⟩:∃k,m=k+1:=⟨m - 1,by omega⟩
  simp only[By]at h ⊢;cases hn:Gb S t with
  |none=>rfl
  |some u=>
   rw[hn]at h;exact Me S n u h k aI
theorem Kq:∀(l S:List Ty),l.Nodup->(∀x∈l,x∈S)->l.length<=S.length
 |[],S,_,_=>ag _
 |x::l,S,hn,hs=>by
  obtain⟨h1,h2⟩:=List.nodup_cons.1 hn;have hx:=hs x aK
  have ih:=Kq l (S.erase x) h2 (fun y hy=>by
   have hne:y≠x:=by rintro rfl;exact h1 hy
   exact(List.mem_erase_of_ne hne).2 (hs y (by simp[hy])))
  have hl:=List.length_erase_of_mem hx;have hp:0<S.length:=List.length_pos_iff.2 (by rintro rfl;cases hx);simp;omega
theorem Qab(S:List Ty):∀(n:Nat) (t:Ty),t∈S->By S (n+1) t=true->By S n t=false ->
  ∃l:List Ty,l.length=n+1/\(∀u∈l,u∈S)/\l.Nodup/\∀u∈l,By S (n+1) u=true
 |0,t,ht,h1,_=>⟨[t],rfl,by simpa using ht,by simp,by simpa using h1⟩
 |n+1,t,ht,h1,h2=>by
  have hn:∃u,Gb S t=some u:=by
   cases hh:Gb S t with
   |none=>simp[By,hh]at h2
   |some u=>exact⟨u,rfl⟩
  obtain⟨u,hu⟩:=hn;have e1:By S (n+1) u=true:=by simp only[By,hu]at h1;simpa [By]using h1
  have e2:By S n u=false:=by simp only[By,hu]at h2;exact h2
  obtain⟨l,l1,l2,l3,l4⟩:=Qab S n u (Qgt hu) e1 e2;refine⟨t::l,by simp[l1],?_,List.nodup_cons.2 ⟨fun hm=>?_,l3⟩,?_⟩
  ·intro x hx;rcases aB.1 hx with rfl|hx
   ·exact ht
   exact l2 x hx
  ·rw[l4 t hm]at h2;cases h2
  intro x hx;rcases aB.1 hx with rfl|hx
  ·exact h1
  exact Me S _ _ (l4 x hx) _ aI
theorem Xh(S:List Ty)(t:Ty)(ht:t∈S)(n:Nat):By S n t=true->By S S.length t=true:=by
 induction n with
 |zero=>intro h;simp[By]at h
 |succ n ih=>
  intro h;by_cases h2:By S n t=true
  ·exact ih h2
  have h2':By S n t=false:=dV;obtain⟨l,l1,l2,l3,_⟩:=Qab S n t ht h h2';have:=Kq l S l3 l2;exact Me S _ _ h _ aI
theorem Qbx(S:List Ty)(t:Ty)(ht:t∈S)(m n:Nat)(hm:S.length<=m)(hn:S.length<=n):By S m t=By S n t:=by
 cases h1:By S m t with
 |true=>exact(Me S _ _ (Xh S t ht m h1) n hn).symm
 |false=>
  cases h2:By S n t with
  |false=>rfl
  |true=>rw[Me S _ _ (Xh S t ht n h2) m hm]at h1;cases h1
def Kt(S:List Ty):Prop:=Mu S/\G1 S/\∀t∈S,By S 9 t=true
def Ck(s:List UInt8):Option (List Ty):=
 if 400<s.length then none
 else match Gi (s.length+1) s []with
  |none=>none
  |some S=>if G1 S/\(∀t∈S,By S 9 t=true)then some S else none
theorem Qen:Mu []:=⟨by simp,by simp,List.Pairwise.nil⟩
theorem Tv{s:List UInt8}{S:List Ty}:Gi (s.length+1) s []=some S↔Mu S/\scB S=s:=by
 rw[Xc (s.length+1) s [] S aI Qen];constructor
 ·rintro⟨h,U,e,h2⟩;simp at e;subst e;exact⟨h,h2⟩
 rintro⟨h,h2⟩;exact⟨h,S,by simp,h2⟩
theorem Tb{s:List UInt8}{S:List Ty}:Ck s=some S↔Kt S/\s.length<=400/\scB S=s:=by
 unfold Ck;constructor
 ·intro h;split at h
  ·cases h
  rename_i h4;cases hl:Gi (s.length+1) s []with
  |none=>rw[hl]at h;cases h
  |some T=>
   rw[hl]at h;simp only at h;split at h
   ·rename_i hc;injection h with h;subst h;obtain⟨h1,h2⟩:=Tv.1 hl;exact⟨⟨h1,hc.1,hc.2⟩,by omega,h2⟩
   cases h
 rintro⟨⟨h1,h2,h3⟩,h4,h5⟩;rw[if_neg aI,Tv.2 ⟨h1,h5⟩];simp only;rw[if_pos ⟨h2,h3⟩]
theorem P8{s:List UInt8}{S:List Ty}:Ck s=some S↔s.length<=400/\Pc s=some S/\(S.Pairwise fun t u=>t.name≠u.name)/\G1 S/\∀t∈S,By S (S.length+1) t=true:=by
 rw[Tb,Qfi];constructor
 ·rintro⟨⟨⟨h1,h2,h3⟩,h4,h5⟩,h6,h7⟩;exact⟨h6,⟨h1,h2,h7⟩,h3,h4,fun t ht=>by rw[Qbx S t ht _ 9 aI aI];exact h5 t ht⟩
 rintro⟨h6,⟨h1,h2,h7⟩,h3,h4,h5⟩;exact⟨⟨⟨h1,h2,h3⟩,h4,fun t ht=>by rw[<-Qbx S t ht (S.length+1) 9 aI aI];exact h5 t ht⟩,h6,h7⟩
def Ts(S:List Ty)(n:Nat)(k:Kd):Prop:=k.signs=[]->k.base=[64]->∃t,B9 S k.name=some t/\By S n t=true
def Dq(S:List Ty):Nat->Kd->List UInt8
 |0,_=>[]
 |n+1,k=>
  if k.signs.head?=some 91 then[91,93]
  else if k.signs.head?=some 63 then[45]
  else if k.base=[110]then[48]
  else if k.base=[116]then[39,39]
  else if k.base=[102]then[110,111]
  else match B9 S k.name with
   |none=>[]
   |some t=>if t.sort=82 then[123,125]else
    match t.fields with
    |[]=>[]
    |f::_=>if t.sort=69 then 35::Az f.tag else 60::(Az f.tag++61::(Dq S n f.kind++[62]))
theorem Xg{S:List Ty}{n:Nat}{k:Kd}{t:Ty}{f:Fd}{fs:List Fd}(h:Ts S (n+1) k)(h1:k.signs=[])(h2:k.base=[64])(hf:B9 S k.name=some t)(hs:t.sort=85)(hfs:t.fields=f::fs)(hr:Bu S f.kind):Ts S n f.kind:=by
 intro g1 g2;obtain⟨u,hu,he⟩:=h h1 h2;rw[hf]at hu;injection hu with hu;subst hu;have hn:Gb S t=B9 S f.kind.name:=by
  unfold Gb;rw[if_pos hs,hfs];simp only;rw[if_pos ⟨g1,g2⟩]
 have hr':=hr g2;cases hx:B9 S f.kind.name with
 |none=>rw[hx]at hr';cases hr'
 |some v=>
  simp only[By,hn,hx]at he;exact⟨v,rfl,he⟩
def Vt(S:List Ty)(k:Kd):List UInt8:=Dq S 10 k
def Kr(S:List Ty)(f:Fd):List UInt8:=if f.given=[]then Vt S f.kind else f.given
end Go.Proofs.YtmmhmlmfhpfgbaaGreatDoor
