/- Texts joined. Conditions: as each theorem names them. -/
import Derived.Test.YtkigmebejmmikaaGreatDoorProg
import Derived.WalkKit
import Derived.WalkSmall
import Derived.WalkSpells
import Derived.WalkLawsBesides
import Derived.Below
import Derived.Lib.Hide
import Derived.Lib.BufferRead
import Derived.Laws.BytesArg
import Derived.Deep.QuietTactic
import Derived.BigQuiet
import Derived.Handy
import Derived.Test.YtkigmebejmmikaaGreatDoorV00
set_option maxRecDepth 100000
set_option maxHeartbeats 32000000
set_option linter.unusedVariables false
set_option linter.unusedSimpArgs false
namespace Go.Proofs.YtkigmebejmmikaaGreatDoor
open Go.RowKit Go.Proofs.Tryz
theorem Qo1(l:List UInt8)(k:Nat)(h:k<(ByteArray.mk l.toArray).size):(ByteArray.mk l.toArray)[k]=l[k]'h:=rfl
theorem Qof(l:List UInt8):(ByteArray.mk l.toArray).toList=l:=by
 have:(ByteArray.mk l.toArray).toList=(ByteArray.mk l.toArray).data.toList:=ByteArray.toList_eq _;rw[this]
theorem Qnv(l:List UInt8)(a b:Nat):(ByteArray.mk l.toArray).extract a b=⟨((l.drop a).take (b - a)).toArray⟩:=by
 apply ByteArray.ext;simp[ByteArray.data_extract]
theorem Qlx(l:List UInt8)(a:Nat):(l.drop a).take (l.length - a)=l.drop a:=ar aL
theorem Qmw{k:IntKind}{a b:Int}(h:a=b):Ending.returned (.int k a)=.returned (.int k b):=by rw[h]
theorem Bx{α:Type}(l:List α)(k:Nat)(h:k<l.length):l.take (k+1)=l.take k++[l[k]]:=by
 rw[List.take_succ_eq_append_getElem h]
def Fj(l:List UInt8):List Value:=l.map fun c=>.int .u8 (c.toNat:Int)
def Ah(ls:List (List UInt8)):List Value:=ls.map fun l=>.string ⟨l.toArray⟩
theorem Rz(l:List UInt8):(Fj l).length=l.length:=by simp[Fj]
theorem Ks(l:List (List UInt8)):(Ah l).length=l.length:=by simp[Ah]
theorem Qd(l:List (List UInt8))(c:List UInt8):Ah (l++[c])=Ah l++[.string ⟨c.toArray⟩]:=by simp[Ah]
def Bh(w:World)(A:Option Addr)(n:Nat)(xs:List Value):Prop:=
 xs.length=n/\n<=maxLen/\(0<n->∃b off,A=some ⟨b,off,none⟩/\b<w.heap.size/\∀j u,xs[j]?=some u->w.cell? ⟨b,off+j,none⟩=some u)
theorem Bh.below{w w':World}{A:Option Addr}{n:Nat}{xs:List Value}(h:Bh w A n xs)(hb:Below w w w'):Bh w' A n xs:=by
 refine⟨h.1,h.2.1,fun hn=>?_⟩;obtain⟨b,off,e,hlt,hc⟩:=h.2.2 hn;exact⟨b,off,e,ac hlt hb.size,fun j u hu=>(hb.cell (p:=⟨b,off+j,none⟩) hlt).trans (hc j u hu)⟩
theorem Bh.drew{w:World}{A:Option Addr}{n:Nat}{xs:List Value}(h:Bh w A n xs):Bh w.drew A n xs:=h
theorem Bh.alloc{w:World}{A:Option Addr}{n:Nat}{xs:List Value}(h:Bh w A n xs)(o:Obj):Bh (w.alloc o) A n xs:=h.below ((Below.refl _ _).alloc (Nat.le_refl _) o)
theorem Bh.at_{w:World}{A:Option Addr}{n:Nat}{xs:List Value}(h:Bh w A n xs){k:Nat}(hk:k<n):
  ∃b off,A=some ⟨b,off,none⟩/\b<w.heap.size/\w.cell? ⟨b,off+k,none⟩=some (xs[k]'(by have:=h.1;omega)):=by
 obtain⟨b,off,e,hlt,hc⟩:=h.2.2 aG;exact⟨b,off,e,hlt,hc k _ (List.getElem?_eq_getElem _)⟩
theorem Bh.own{w:World}{base:Nat}{e:TypeId}{v:Value}{n:Nat}{xs:List Value}(h:w.ownsRow base e 1 v n xs):∃A c,v=.slice A n c/\Bh w A n xs:=by
 have h1:=h.1;rcases h.2 with⟨rfl,rfl⟩|⟨g,cap,cur,rfl,hb,hh,hnc,hcm,hcs,htk⟩
 ·exact⟨none,0,rfl,by omega,ag _,fun h=>absurd h aG⟩
 refine⟨some ⟨g,0,none⟩,cap,rfl,by omega,by omega,fun hn=>⟨g,0,rfl,(h.lt g rfl).2,fun j u hu=>?_⟩⟩;have:=h.cells (g:=g) rfl j u hu;have e1:(⟨g,0,none⟩:Addr).add j=⟨g,0+j,none⟩:=bi;rwa [e1]at this
theorem Ba{w w1:World}{base:Nat}{e:TypeId}{size:Nat}{v:Value}{n:Nat}{xs:List Value}(h:w.ownsRow base e size v n xs)(hb:Below w w w1):w1.ownsRow base e size v n xs:=
 h.kept (row:=none) ⟨hb.os,hb.tape,hb.output,hb.size,fun k hk _=>hb.block k hk⟩ (by
  cases v with
  |slice A a b=>cases A with
   |none=>exact .inl rfl
   |some x=>exact .inr dV
  |_=>exact .inl rfl)
section
variable {P:Program}
theorem J2(w:World){ops:Array Oper}{rest:List Oper}{o:Oper}{a:Act}{Q:Exit->Act->World->Prop}(hgd:o.guard=none)(s x:Operand)(t:TypeId)
  (ho:o.op=.call {callee:=.builtin .append,args:=#[s,x],argTypes:=#[t,t]})
  (base:Nat) (e:TypeId) (z:Value) (bytes:Nat) (ht:P.underlying t=some (.slice e)) (hinfo:(P.info? e).map (fun i=>(i.zero,i.size,i.bytes))=some (some z,1,bytes))
  (hzs:z.cells.size=1) (W:World) (u:Value) (hw:w=W.alloc (.cells #[u] e)) (hu:u.oneCell'=true) (v:Value) (n:Nat) (xs:List Value) (hs:a.eval s=v) (hx:a.eval x=.slice (W,0) 1 1)
  (hown:W.ownsRow base e 1 v n xs)
  (h63:n+1<=maxLen) (hbytes:(n+1)*bytes<=140737488355328) (hbase:base<=W.heap.size)
  (h:∀v' w',w'.ownsRow base e 1 v' (n+1) (xs++[u])->Below base W w'->wpList P ops Q rest (a.put o.dst v') w'):wpList P ops Q (o::rest) a w:=by
 subst hw;obtain⟨i0,hi,hz0,hz1,hz2⟩:=info_parts hinfo;refine wpList_append_own _ hgd s x t ho base e i0 z 1 bytes ht hi hz0 hz1 hz2 hzs aJ v n xs hs (hown.alloc _) ⟨W.heap.size,0,none⟩ 1 1 [u] hx rfl ?_ ?_ h63 hbytes ?_ ?_
 ·intro j y hj;match j,hj with
  |0,hj=>simp at hj;subst hj;simp[Addr.add,World.cell?_alloc_new]
 ·intro y hy;simp at hy;subst hy;exact hu
 ·have:(W.alloc (.cells #[u] e)).heap.size=W.heap.size+1:=aL;omega
 intro v' w' h1 h2 _;exact h v' w' h1 (((Below.refl base W).alloc hbase _).grown h2 aO (fun k hk=>(hown.lt k hk).1))
theorem Qkd(W:World)(src e dst:TypeId)(hs:P.underlying src=some (.slice e))(he:P.underlying e=some (.int .u8))(hd:P.underlying dst=some .string)
  (g c:Nat) (b:UInt8) (hc:W.cell? (g,0)=some (.int .u8 (b.toNat:Int))):(convert src dst (.slice (g,0) 1 c)).run P W=.ok (.string ⟨[b].toArray⟩) W:=by
 have h:=run_convert_bytes_arg (P:=P) W src e hs he g 0 1 c [(b.toNat:Int)] rfl (fun i hi=>by
  obtain rfl:i=0:=aG;simpa using hc) dst hd
 rw[h];simp[strOfNums]
end
theorem N5(W:World)(g c:Nat)(b:UInt8)(hc:W.cell? (g,0)=some (.int .u8 (b.toNat:Int))):
  (convert 25 9 (.slice (g,0) 1 c)).run prog W=.ok (.string ⟨[b].toArray⟩) W:=
 Qkd W 25 5 9 underlying25 underlying5 underlying9 g c b hc
theorem Ck{W w1:World}(hb:Below W.heap.size W w1):(∀b o,b<W.heap.size->w1.cell? ⟨b,o,none⟩=W.cell? ⟨b,o,none⟩)/\(∀b o,b<W.heap.size->w1.frozen? ⟨b,o,none⟩=W.frozen? ⟨b,o,none⟩)/\(∀b,b<W.heap.size->b<w1.heap.size):=
 ⟨fun b o h=>hb.cell (p:=⟨b,o,none⟩) h,fun b o h=>hb.frozen (p:=⟨b,o,none⟩) h,fun _ h=>ac h hb.size⟩
theorem Ej:(prog.info? 9).map (fun i=>(i.zero,i.size,i.bytes))=some (some (.string ⟨#[]⟩),1,16):=aM
theorem Ac:True:=True.intro
theorem Aa{p:Prop}(h:p):Hid p:=h
theorem Ar(n:Nat):n<=n:=Nat.le_refl n
theorem _root_.Go.RowKit.Hid.o{p:Prop}(h:Hid p):p:=h
theorem Aw(n:Nat)(w:World):Below n w w:=Below.refl n w
theorem Eu{a a':Value}(h:a=a'):Ending.returned a=.returned a':=by rw[h]
theorem Qmb{a b a' b':Value}(h1:a=a')(h2:b=b'):Ending.returned (.tuple #[a,b])=.returned (.tuple #[a',b']):=by rw[h1,h2]
theorem Qpd{a b c a' b' c':Value}(h1:a=a')(h2:b=b')(h3:c=c'):Ending.returned (.tuple #[a,b,c])=.returned (.tuple #[a',b',c']):=by rw[h1,h2,h3]
theorem Qne{k:IntKind}{x y:Int}(h:x=y):Value.int k x=.int k y:=by rw[h]
theorem Qjk{x y:List UInt8}(h:x=y):Value.string ⟨x.toArray⟩=y:=by rw[h]
theorem Da{x y:Bool}(h:x=y):Value.bool x=.bool y:=by rw[h]
def Dq(n:Nat):UInt8:=UInt8.ofNat n
theorem Dx{n:Nat}(h:n<256):(Dq n).toNat=n:=by unfold Dq;exact UInt8.toNat_ofNat_of_lt' h
def Br(c:UInt8):Bool:=decide (97<=c.toNat) && decide (c.toNat<=122)
def Bm(c:UInt8):Bool:=decide (48<=c.toNat) && decide (c.toNat<=57)
def Bf(s:List UInt8):Bool:=decide (1<=s.length) && decide (s.length<=3) && s.all Br
theorem Dh{c:UInt8}:Bm c=true↔48<=c.toNat/\c.toNat<=57:=by simp[Bm]
theorem Km{c:UInt8}:Br c=true↔97<=c.toNat/\c.toNat<=122:=by simp[Br]
theorem C7{s:List UInt8}:Bf s=true↔1<=s.length/\s.length<=3/\∀c∈s,Br c=true:=by
 simp[Bf,and_assoc]
def Bb(n:Nat):List UInt8:=if h:n<10 then[Dq (48+n)]else Bb (n / 10)++[Dq (48+n % 10)]
termination_by n
decreasing_by omega
theorem Fe{n:Nat}(h:n<10):Bb n=[Dq (48+n)]:=by rw[Bb,dif_pos h]
theorem Pd{n:Nat}(h:¬n<10):Bb n=Bb (n / 10)++[Dq (48+n % 10)]:=by rw[Bb,dif_neg h]
def H5(s:List UInt8):Nat:=s.foldl (fun n c=>10*n+(c.toNat - 48)) 0
theorem Mq(s:List UInt8)(c:UInt8):H5 (s++[c])=10*H5 s+(c.toNat - 48):=by simp[H5,List.foldl_append]
theorem Qj5:H5 []=0:=rfl
def Cz(s:List UInt8):Option Nat:=
 if 1<=s.length/\s.length<=6/\s.all Bm=true/\(s.head?≠some 48\/s.length=1)then some (H5 s)else none
theorem Fw{α:Type}(s:List α):s=[]\/∃t c,s=t++[c]:=by
 rcases s.eq_nil_or_concat with h|⟨t,c,h⟩
 ·exact .inl h
 exact .inr ⟨t,c,by simpa using h⟩
theorem Xu:∀(k:Nat) (s:List UInt8),s.length=k->s.all Bm=true->H5 s<10 ^ k
 |0,s,h,_=>by
  obtain rfl:=List.eq_nil_of_length_eq_zero h;simp[H5]
 |k+1,s,h,ha=>by
  rcases Fw s with rfl|⟨t,c,rfl⟩
  ·simp at h
  simp at h;simp only[List.all_append,av,List.all_cons,List.all_nil,Bool.and_true]at ha;have ih:=Xu k t h ha.1;have hc:=Dh.1 ha.2;rw[Mq,Nat.pow_succ];omega
theorem Qdv:∀(k:Nat) (s:List UInt8),s.length=k->s≠[]->s.all Bm=true->s.head?≠some 48->0<H5 s
 |0,s,h,hn,_,_=>absurd (List.eq_nil_of_length_eq_zero h) hn
 |k+1,s,h,hn,ha,hh=>by
  rcases Fw s with rfl|⟨t,c,rfl⟩
  ·exact absurd rfl hn
  simp at h;simp only[List.all_append,av,List.all_cons,List.all_nil,Bool.and_true]at ha;have hc:=Dh.1 ha.2;rw[Mq];by_cases ht:t=[]
  ·subst ht;simp at hh;have:c.toNat≠48:=fun e=>hh (UInt8.toNat_inj.1 e);omega
  have hh':t.head?≠some 48:=by
   cases t with
   |nil=>exact absurd rfl ht
   |cons a t=>simpa using hh
  have:=Qdv k t h ht ha.1 hh';omega
theorem Qa0:∀(k:Nat) (s:List UInt8),s.length=k->s≠[]->s.all Bm=true->(s.head?≠some 48\/s.length=1)->Bb (H5 s)=s
 |0,s,h,hn,_,_=>absurd (List.eq_nil_of_length_eq_zero h) hn
 |k+1,s,h,hn,ha,hh=>by
  rcases Fw s with rfl|⟨t,c,rfl⟩
  ·exact absurd rfl hn
  simp at h;simp only[List.all_append,av,List.all_cons,List.all_nil,Bool.and_true]at ha;have hc:=Dh.1 ha.2;have hc2:Dq (48+(c.toNat - 48))=c:=by
   apply UInt8.toNat_inj.1;rw[Dx aG];omega
  rw[Mq];by_cases ht:t=[]
  ·subst ht;rw[Qj5,Fe aG];simp[hc2]
  have hl:0<t.length:=List.length_pos_iff.2 ht;have hh1:t.head?≠some 48:=by
   cases t with
   |nil=>exact absurd rfl ht
   |cons a t=>rcases hh with hh|hh<;>simp at hh ⊢<;>first|exact hh|omega
  have hp:=Qdv t.length t rfl ht ha.1 hh1;have ih:=Qa0 k t h ht ha.1 (.inl hh1);rw[Pd aG];have e1:(10*H5 t+(c.toNat - 48)) / 10=H5 t:=aG;have e2:(10*H5 t+(c.toNat - 48)) % 10=c.toNat - 48:=aG;rw[e1,e2,ih,hc2]
theorem Mx:∀(k n:Nat),n<=k->Bb n≠[]/\(Bb n).all Bm=true/\H5 (Bb n)=n/\((Bb n).head?≠some 48\/n=0)/\(n<10->(Bb n).length=1)/\(10<=n->2<=(Bb n).length)
 |0,n,h=>by
  obtain rfl:n=0:=aG;rw[Fe aG];refine⟨by simp,by decide,by decide,.inr rfl,fun _=>rfl,fun h=>by omega⟩
 |k+1,n,h=>by
  by_cases hn:n<10
  ·rw[Fe hn];have e:(Dq (48+n)).toNat=48+n:=Dx aG;refine⟨by simp,by simp[Dh,e];omega,?_,?_,fun _=>rfl,fun h=>by omega⟩
   ·show 10*0+((Dq (48+n)).toNat - 48)=n;omega
   by_cases h0:n=0
   ·exact .inr h0
   refine .inl ?_;intro hh;simp at hh;have:=congrArg UInt8.toNat hh;rw[e]at this;have h48:(48:UInt8).toNat=48:=rfl;omega
  obtain⟨i1,i2,i3,i4,_,_⟩:=Mx k (n / 10) aG;have e:(Dq (48+n % 10)).toNat=48+n % 10:=Dx aG;have hl:0<(Bb (n / 10)).length:=List.length_pos_iff.2 i1;rw[Pd hn];refine⟨by simp,?_,?_,?_,fun h=>absurd h hn,fun _=>by simp;omega⟩
  ·simp only[List.all_append,av,List.all_cons,List.all_nil,Bool.and_true];exact⟨i2,Dh.2 aG⟩
  ·rw[Mq,i3,e];omega
  refine .inl ?_;have e1:(Bb (n / 10)++[Dq (48+n % 10)]).head?=(Bb (n / 10)).head?:=by
   cases hd:Bb (n / 10)with
   |nil=>exact absurd hd i1
   |cons a t=>rfl
  rw[e1];rcases i4 with h|h
  ·exact h
  omega
theorem Rb(n:Nat):Bb n≠[]:=(Mx n n (Nat.le_refl _)).1
theorem J5(n:Nat):(Bb n).all Bm=true:=(Mx n n (Nat.le_refl _)).2.1
theorem Rg(n:Nat):H5 (Bb n)=n:=(Mx n n (Nat.le_refl _)).2.2.1
theorem Qh0(n:Nat):(Bb n).head?≠some 48\/(Bb n).length=1:=by
 obtain⟨_,_,_,h4,h5,_⟩:=Mx n n (Nat.le_refl _);rcases h4 with h|h
 ·exact .inl h
 exact .inr (h5 aG)
theorem Qkh{m n:Nat}(h:Bb m=Bb n):m=n:=by rw[<-Rg m,h,Rg]
theorem C0:∀(k n:Nat),n<10 ^ (k+1)->(Bb n).length<=k+1
 |0,n,h=>by rw[Fe aR];simp
 |k+1,n,h=>by
  by_cases hn:n<10
  ·rw[Fe hn];simp
  rw[Pd hn];have:=C0 k (n / 10) (by rw[Nat.pow_succ]at h;omega);simp;omega
theorem Cm{s:List UInt8}{n:Nat}:Cz s=some n↔n<=999999/\s=Bb n:=by
 unfold Cz;constructor
 ·intro h;split at h
  ·rename_i hc;obtain⟨h1,h2,h3,h4⟩:=hc;injection h with h;have hn:s≠[]:=List.length_pos_iff.1 aG;have hv:=Xu s.length s rfl h3;have hle:10 ^ s.length<=10 ^ 6:=Nat.pow_le_pow_right aG h2;have e6:10 ^ 6=1000000:=rfl;refine⟨by omega,?_⟩;rw[<-h];exact(Qa0 s.length s rfl hn h3 h4).symm
  cases h
 rintro⟨h1,rfl⟩;have hl:=C0 5 n gM;have hp:0<(Bb n).length:=List.length_pos_iff.2 (Rb n);rw[if_pos ⟨by omega,by omega,J5 n,Qh0 n⟩,Rg]
structure Kd where
 signs:List UInt8
 base:List UInt8
 name:List UInt8
deriving DecidableEq
def Bo(c:UInt8):Bool:=c == 91 || c == 63
def Cr(k:Kd):List UInt8:=if k.base=[64]then 64::(k.name++[59])else k.base
def Bt(k:Kd):List UInt8:=k.signs++Cr k
def Kd.nil:Kd:=⟨[],[],[]⟩
def Kd.part(k:Kd):Kd:={k with signs:=k.signs.tail}
def Qcu(k:Kd):Prop:=(k.base=[64]/\Bf k.name=true)\/((k.base=[110]\/k.base=[116]\/k.base=[102])/\k.name=[])
def Ch(k:Kd):Prop:=k.signs.all Bo=true/\Qcu k/\(Bt k).length<=12
theorem Qa6{k:Kd}(h:Qcu k):∃c t,Cr k=c::t/\Bo c=false:=by
 unfold Cr;rcases h with⟨h,_⟩|⟨h|h|h,_⟩
 ·rw[if_pos h];exact⟨64,_,rfl,by decide⟩
 ·rw[h,if_neg aJ];exact⟨110,[],rfl,by decide⟩
 ·rw[h,if_neg aJ];exact⟨116,[],rfl,by decide⟩
 rw[h,if_neg aJ];exact⟨102,[],rfl,by decide⟩
theorem Ft{p:UInt8->Bool}:∀{a b:List UInt8},a.all p=true->(∃c t,b=c::t/\p c=false)->(a++b).takeWhile p=a/\(a++b).dropWhile p=b
 |[],b,_,⟨c,t,e,h⟩=>by subst e;simp[h]
 |x::a,b,ha,hb=>by
  simp only[List.all_cons,av]at ha;have ih:=Ft ha.2 hb;simp[ha.1,ih.1,ih.2]
theorem Kt{p:UInt8->Bool}:∀(a:List UInt8),(a.takeWhile p).all p=true
 |[]=>rfl
 |x::a=>by
  by_cases h:p x=true
  ·simp[h]
  simp[h]
def C4(s:List UInt8):Option Kd:=
 if 12<s.length then none
 else if s.dropWhile Bo=[110]\/s.dropWhile Bo=[116]\/s.dropWhile Bo=[102]then some ⟨s.takeWhile Bo,s.dropWhile Bo,[]⟩
 else if (s.dropWhile Bo).head?=some 64/\(s.dropWhile Bo).getLast?=some 59/\Bf ((s.dropWhile Bo).drop 1).dropLast=true then some ⟨s.takeWhile Bo,[64],((s.dropWhile Bo).drop 1).dropLast⟩
 else none
theorem Qhg{r:List UInt8}(h1:r.head?=some 64)(h2:r.getLast?=some 59):r=64::((r.drop 1).dropLast++[59]):=by
 cases r with
 |nil=>simp at h1
 |cons a t=>
  simp at h1;subst h1;rcases Fw t with rfl|⟨u,c,rfl⟩
  ·simp at h2
  have:c=59:=by
   rw[show (64:UInt8)::(u++[c])=(64::u)++[c]from rfl,List.getLast?_append]at h2;simpa using h2
  subst this;simp
theorem Fr{s:List UInt8}{k:Kd}:C4 s=some k↔Ch k/\Bt k=s:=by
 have htd:s.takeWhile Bo++s.dropWhile Bo=s:=List.takeWhile_append_dropWhile;constructor
 ·intro h;unfold C4 at h;split at h
  ·cases h
  rename_i h12;split at h
  ·rename_i hb;injection h with h;subst h;have hcore:Cr ⟨s.takeWhile Bo,s.dropWhile Bo,[]⟩=s.dropWhile Bo:=by
    unfold Cr;rw[if_neg];rcases hb with h|h|h<;>· show ¬s.dropWhile Bo=_;rw[h];decide
   have e:Bt ⟨s.takeWhile Bo,s.dropWhile Bo,[]⟩=s:=by unfold Bt;rw[hcore];exact htd
   exact⟨⟨Kt s,.inr ⟨hb,rfl⟩,by rw[e];omega⟩,e⟩
  split at h
  ·rename_i hb;injection h with h;subst h;have e1:=Qhg hb.1 hb.2.1;have e:Bt ⟨s.takeWhile Bo,[64],((s.dropWhile Bo).drop 1).dropLast⟩=s:=by
    unfold Bt Cr;rw[if_pos rfl];show s.takeWhile Bo++64::(((s.dropWhile Bo).drop 1).dropLast++[59])=s;rw[<-e1];exact htd
   exact⟨⟨Kt s,.inl ⟨rfl,hb.2.2⟩,by rw[e];omega⟩,e⟩
  cases h
 rintro⟨⟨h1,h2,h3⟩,rfl⟩;obtain⟨e1,e2⟩:=Ft h1 (Qa6 h2);unfold C4;rw[if_neg aG];show (if (k.signs++Cr k).dropWhile Bo=[110]\/_ then _ else _)=_;unfold Bt;rw[e1,e2];obtain⟨sg,b,nm⟩:=k;rcases h2 with⟨h,hn⟩|⟨h,hn⟩
 ·simp only at h hn;subst h;unfold Cr;simp only[if_pos];rw[if_neg aL,if_pos]
  ·simp
  refine⟨rfl,?_,by simpa using hn⟩;rw[show (64:UInt8)::(nm++[59])=(64::nm)++[59]from rfl,List.getLast?_append];rfl
 simp only at h hn;subst hn;have hc:Cr ⟨sg,b,[]⟩=b:=by
  unfold Cr;rw[if_neg];rcases h with h|h|h<;>· show ¬b=_;rw[h];decide
 rw[hc,if_pos h]
theorem Kb{k:Kd}(h:Ch k):Ch k.part/\(k.signs≠[]->Bt k.part=(Bt k).tail/\(Bt k.part).length+1=(Bt k).length):=by
 obtain⟨h1,h2,h3⟩:=h;obtain⟨sg,b,nm⟩:=k;have hc:∀g,Cr ⟨g,b,nm⟩=Cr ⟨sg,b,nm⟩:=fun g=>rfl;cases sg with
 |nil=>exact⟨⟨h1,h2,h3⟩,fun h=>absurd rfl h⟩
 |cons c t=>
  simp only[List.all_cons,av]at h1;have e:Bt (Kd.part ⟨c::t,b,nm⟩)=(Bt ⟨c::t,b,nm⟩).tail:=rfl;have el:(Bt (Kd.part ⟨c::t,b,nm⟩)).length+1=(Bt ⟨c::t,b,nm⟩).length:=rfl;exact⟨⟨h1.2,h2,by omega⟩,fun _=>⟨e,el⟩⟩
def Ak(c:UInt8):List UInt8->List (List UInt8)
 |[]=>[[]]
 |x::s=>if x=c then[]::Ak c s else match Ak c s with
  |p::ps=>(x::p)::ps
  |[]=>[[x]]
def Am(c:UInt8):List (List UInt8)->List UInt8
 |[]=>[]
 |[p]=>p
 |p::ps=>p++c::Am c ps
theorem Ex(c:UInt8)(s:List UInt8):Ak c s≠[]:=by
 cases s with
 |nil=>simp[Ak]
 |cons x s=>
  simp only[Ak];split
  ·simp
  split<;>simp
theorem B0(c:UInt8)(p:List UInt8){ps:List (List UInt8)}(h:ps≠[]):Am c (p::ps)=p++c::Am c ps:=by
 cases ps with
 |nil=>exact absurd rfl h
 |cons q ps=>rfl
theorem Qq(c:UInt8):∀s:List UInt8,Am c (Ak c s)=s
 |[]=>rfl
 |x::s=>by
  have ih:=Qq c s;have hn:=Ex c s;simp only[Ak];split
  ·rename_i h;rw[B0 c _ hn,ih,h];rfl
  cases hs:Ak c s with
  |nil=>exact absurd hs hn
  |cons p ps=>
   rw[hs]at ih;cases ps with
   |nil=>simpa [Am]using ih
   |cons q ps=>
    rw[B0 c _ aL]at ih ⊢;simp[ih]
theorem Qaq(c:UInt8):∀s:List UInt8,∀p∈Ak c s,c∉p
 |[],p,hp=>by simp[Ak]at hp;simp[hp]
 |x::s,p,hp=>by
  have ih:=Qaq c s;simp only[Ak]at hp;split at hp
  ·rcases az.1 hp with rfl|hp
   ·simp
   exact ih p hp
  rename_i hx;cases hs:Ak c s with
  |nil=>exact absurd hs (Ex c s)
  |cons q qs=>
   rw[hs]at hp ih;rcases az.1 hp with rfl|hp
   ·have:=ih q aL;simp;exact⟨fun h=>hx h.symm,this⟩
   exact ih p bc
theorem Jj(c:UInt8):∀p:List UInt8,c∉p->Ak c p=[p]
 |[],_=>rfl
 |x::p,h=>by
  simp at h;simp only[Ak];rw[if_neg (fun e=>h.1 e.symm),Jj c p h.2]
theorem M0(c:UInt8):∀(p s:List UInt8),c∉p->Ak c (p++c::s)=p::Ak c s
 |[],s,_=>by simp[Ak]
 |x::p,s,h=>by
  simp at h;simp only[au,Ak];rw[if_neg (fun e=>h.1 e.symm),M0 c p s h.2]
theorem Nn(c:UInt8):∀ps:List (List UInt8),ps≠[]->(∀p∈ps,c∉p)->Ak c (Am c ps)=ps
 |[],h,_=>absurd rfl h
 |[p],_,h=>Jj c p (h p aL)
 |p::q::ps,_,h=>by
  rw[B0 c p aL,M0 c p _ (h p aL),Nn c (q::ps) aL (fun x hx=>h x (by simp[hx]))]
theorem Ep{c:UInt8}{s:List UInt8}{ps:List (List UInt8)}:Ak c s=ps↔ps≠[]/\(∀p∈ps,c∉p)/\Am c ps=s:=
 ⟨fun h=>by subst h;exact⟨Ex c s,Qaq c s,Qq c s⟩,fun⟨h1,h2,h3⟩=>by rw[<-h3];exact Nn c ps h1 h2⟩
theorem Jw(c:UInt8):∀s:List UInt8,(Ak c s).length<=s.length+1
 |[]=>by simp[Ak]
 |x::s=>by
  have ih:=Jw c s;simp only[Ak];split
  ·simp;exact ih
  cases hs:Ak c s with
  |nil=>exact absurd hs (Ex c s)
  |cons p ps=>rw[hs]at ih;simp at ih ⊢;omega
theorem Aq(c:UInt8):∀s:List UInt8,∀p∈Ak c s,p.length<=s.length
 |[],p,h=>by simp[Ak]at h;simp[h]
 |x::s,p,h=>by
  have ih:=Aq c s;simp only[Ak]at h;split at h
  ·rcases az.1 h with rfl|h
   ·simp
   exact Nat.le_succ_of_le (ih p h)
  cases hs:Ak c s with
  |nil=>exact absurd hs (Ex c s)
  |cons q qs=>
   rw[hs]at ih h;rcases az.1 h with rfl|h
   ·have:=ih q aL;simp;exact this
   have:=ih p (by simp[h]);simp;omega
def Ds(c:UInt8)(s:List UInt8):List UInt8 × List UInt8 × Bool:=
 if c∈s then(s.takeWhile (· != c),(s.dropWhile (· != c)).tail,true)else(s,[],false)
theorem Re{c:UInt8}{s:List UInt8}(h:c∉s):Ds c s=(s,[],false):=if_neg h
theorem Ff{c:UInt8}{p s:List UInt8}(h:c∉p):Ds c (p++c::s)=(p,s,true):=by
 unfold Ds;rw[if_pos aL];have h1:p.all (fun x=>x != c)=true:=by
  rw[List.all_eq_true];intro x hx;simp;rintro rfl;exact h hx
 obtain⟨e1,e2⟩:=Ft (p:=fun x=>x != c) h1 ⟨c,s,rfl,by simp⟩;rw[e1,e2];rfl
theorem Qdm{c:UInt8}:∀{s:List UInt8},c∈s->∃p t,s=p++c::t/\c∉p
 |x::s,h=>by
  by_cases hx:x=c
  ·exact⟨[],s,by simp[hx],by simp⟩
  obtain⟨p,t,e,hp⟩:=Qdm (s:=s) (by rcases az.1 h with h|h;exact absurd h.symm hx;exact h);exact⟨x::p,t,by simp[e],by simp;exact⟨fun e=>hx e.symm,hp⟩⟩
theorem Gp(c:UInt8)(s:List UInt8):(c∉s/\Ds c s=(s,[],false))\/∃p t,s=p++c::t/\c∉p/\Ds c s=(p,t,true):=by
 by_cases h:c∈s
 ·obtain⟨p,t,e,hp⟩:=Qdm h;exact .inr ⟨p,t,e,hp,by rw[e];exact Ff hp⟩
 exact .inl ⟨h,Re h⟩
def Co(c:UInt8):Bool:=Br c || Bm c || c == 32
def Du(s:List UInt8):Bool:=decide (s.length<=12) && s.all Co
def Cf(b s:List UInt8):Bool:=
 if b=[110]then(match Cz s with|some n=>decide (0<n)|none=>false)
 else if b=[116]then decide (2<s.length) && decide (s.head?=some 39) && decide (s.getLast?=some 39) && Du (s.drop 1).dropLast
 else if b=[102]then decide (s=[121,101,115])else false
theorem Qgk{r:List UInt8}(h:2<r.length)(h1:r.head?=some 39)(h2:r.getLast?=some 39):r=39::((r.drop 1).dropLast++[39]):=by
 cases r with
 |nil=>simp at h1
 |cons a t=>
  simp at h1;subst h1;rcases Fw t with rfl|⟨u,c,rfl⟩
  ·simp at h
  have:c=39:=by
   rw[show (39:UInt8)::(u++[c])=(39::u)++[c]from rfl,List.getLast?_append]at h2;simpa using h2
  subst this;simp
def Js(c:UInt8):Prop:=c≠10/\c≠44/\c≠58/\c≠61
theorem Qa9{c:UInt8}(h:Bm c=true):Js c:=by
 rw[Dh]at h;refine⟨?_,?_,?_,?_⟩<;>(rintro rfl;revert h;decide)
theorem Qba{c:UInt8}(h:Br c=true):Js c:=by
 rw[Km]at h;refine⟨?_,?_,?_,?_⟩<;>(rintro rfl;revert h;decide)
theorem Qij{c:UInt8}(h:Co c=true):Js c:=by
 unfold Co at h;simp only[Bool.or_eq_true]at h;rcases h with(h|h)|h
 ·exact Qba h
 ·exact Qa9 h
 have:c=32:=aR;subst this;exact⟨by decide,by decide,by decide,by decide⟩
theorem Qfl{c:UInt8}(h:Bo c=true):Js c:=by
 unfold Bo at h;simp only[Bool.or_eq_true,beq_iff_eq]at h;rcases h with rfl|rfl<;>exact⟨by decide,by decide,by decide,by decide⟩
theorem Fu(n:Nat):∀c∈Bb n,Js c:=fun c hc=>Qa9 (List.all_eq_true.1 (J5 n) c hc)
theorem Eo{s:List UInt8}(h:Bf s=true):∀c∈s,Js c:=fun c hc=>Qba ((C7.1 h).2.2 c hc)
theorem Kp{k:Kd}(h:Ch k):∀c∈Bt k,Js c:=by
 intro c hc;obtain⟨h1,h2,_⟩:=h;unfold Bt Cr at hc;rcases af.1 hc with hc|hc
 ·exact Qfl (List.all_eq_true.1 h1 c hc)
 rcases h2 with⟨h,hn⟩|⟨h,_⟩
 ·rw[if_pos h]at hc;rcases az.1 hc with rfl|hc
  ·exact⟨by decide,by decide,by decide,by decide⟩
  rcases af.1 hc with hc|hc
  ·exact Eo hn c hc
  simp at hc;subst hc;exact⟨by decide,by decide,by decide,by decide⟩
 rw[if_neg (by rcases h with h|h|h<;>· rw[h];decide)]at hc;rcases h with h|h|h<;>· rw[h]at hc;simp at hc;subst hc;exact⟨by decide,by decide,by decide,by decide⟩
theorem Ns{b s:List UInt8}(h:Cf b s=true):s≠[]/\∀c∈s,Js c:=by
 unfold Cf at h;split at h
 ·cases hd:Cz s with
  |none=>rw[hd]at h;cases h
  |some n=>
   obtain⟨_,e⟩:=Cm.1 hd;subst e;exact⟨Rb n,Fu n⟩
 split at h
 ·simp only[av,decide_eq_true_eq]at h;obtain⟨⟨⟨h1,h2⟩,h3⟩,h4⟩:=h;have e:=Qgk h1 h2 h3;refine⟨by intro hh;rw[hh]at h1;simp at h1,fun c hc=>?_⟩;rw[e]at hc;have q:Js 39:=⟨by decide,by decide,by decide,by decide⟩
  rcases az.1 hc with rfl|hc
  ·exact q
  rcases af.1 hc with hc|hc
  ·unfold Du at h4;simp only[av]at h4;exact Qij (List.all_eq_true.1 h4.2 c hc)
  simp at hc;subst hc;exact q
 split at h
 ·simp only[decide_eq_true_eq]at h;subst h;refine⟨by simp,fun c hc=>?_⟩;simp at hc;rcases hc with rfl|rfl|rfl<;>exact⟨by decide,by decide,by decide,by decide⟩
 cases h
theorem Pj{b s:List UInt8}(h:Cf b s=true):b=[110]\/b=[116]\/b=[102]:=by
 unfold Cf at h;split at h
 ·exact .inl (by assumption)
 split at h
 ·exact .inr (.inl (by assumption))
 split at h
 ·exact .inr (.inr (by assumption))
 cases h
structure Fd where
 tag:Nat
 name:List UInt8
 kind:Kd
 given:List UInt8
deriving DecidableEq
def Nc(st:UInt8)(f:Fd):List UInt8:=if st=69 then[]else 58::(Bt f.kind++if f.given=[]then[]else 61::f.given)
def P8(st:UInt8)(f:Fd):List UInt8:=Bb f.tag++58::(f.name++Nc st f)
def Xp(st:UInt8)(f:Fd):Prop:=
 1<=f.tag/\f.tag<=200/\Bf f.name=true/\(st=69->f.kind=Kd.nil/\f.given=[]) /\
 (st≠69->Ch f.kind/\(f.given≠[]->st=82/\f.kind.signs=[]/\Cf f.kind.base f.given=true))
theorem Ew{s:List UInt8}(h:∀c∈s,Js c):10∉s/\44∉s/\58∉s/\61∉s:=
 ⟨fun hc=>(h _ hc).1 rfl,fun hc=>(h _ hc).2.1 rfl,fun hc=>(h _ hc).2.2.1 rfl,fun hc=>(h _ hc).2.2.2 rfl⟩
def Ml(p:List (List UInt8)):Option (Nat × List UInt8):=
 match p with
 |[a,b]=>(match Cz a with|some n=>if 1<=n/\n<=200/\Bf b=true then some (n,b)else none|none=>none)
 |_=>none
def Nf(p:List (List UInt8)):Option (Nat × List UInt8 × List UInt8):=
 match p with
 |[a,b,c]=>(match Cz a with|some n=>if 1<=n/\n<=200/\Bf b=true then some (n,b,c)else none|none=>none)
 |_=>none
def Jx(st:UInt8)(s:List UInt8):Option Fd:=
 if st=69 then
  match Ml (Ak 58 (Ds 61 s).1)with
  |some (n,b)=>if (Ds 61 s).2.2=true then none else some ⟨n,b,Kd.nil,(Ds 61 s).2.1⟩
  |none=>none
 else
  match Nf (Ak 58 (Ds 61 s).1)with
  |some (n,b,c)=>(match C4 c with
   |some k=>if (Ds 61 s).2.2=true/\¬(st=82/\k.signs=[]/\Cf k.base (Ds 61 s).2.1=true)then none else some ⟨n,b,k,(Ds 61 s).2.1⟩
   |none=>none)
  |none=>none
def Cc(st:UInt8)(s:List UInt8):Option Fd:=
 if st=69 then
  match Ml (Ak 58 s)with
  |some (n,b)=>some ⟨n,b,Kd.nil,[]⟩
  |none=>none
 else
  match Nf (Ak 58 s)with
  |some (n,b,c)=>(match Ak 61 c with
   |[k]=>(match C4 k with|some k=>some ⟨n,b,k,[]⟩|none=>none)
   |[k,v]=>if st=82/\Cf k v=true then some ⟨n,b,⟨[],k,[]⟩,v⟩else none
   |_=>none)
  |none=>none
theorem Kq{p:List (List UInt8)}{n:Nat}{b:List UInt8}:Ml p=some (n,b)↔p=[Bb n,b]/\1<=n/\n<=200/\Bf b=true:=by
 unfold Ml;constructor
 ·intro h;split at h
  ·rename_i a b';cases hd:Cz a with
   |none=>rw[hd]at h;cases h
   |some m=>
    rw[hd]at h;simp only at h;split at h
    ·rename_i hc;simp at h;obtain⟨rfl,rfl⟩:=h;rw[(Cm.1 hd).2];exact⟨rfl,hc⟩
    cases h
  cases h
 rintro⟨rfl,h⟩;have e:=Cm.2 ⟨(by omega:n<=999999),(rfl:Bb n=Bb n)⟩;simp only[e,if_pos h]
theorem Jc{p:List (List UInt8)}{n:Nat}{b c:List UInt8}:Nf p=some (n,b,c)↔p=[Bb n,b,c]/\1<=n/\n<=200/\Bf b=true:=by
 unfold Nf;constructor
 ·intro h;split at h
  ·rename_i a b' c';cases hd:Cz a with
   |none=>rw[hd]at h;cases h
   |some m=>
    rw[hd]at h;simp only at h;split at h
    ·rename_i hc;simp at h;obtain⟨rfl,rfl,rfl⟩:=h;rw[(Cm.1 hd).2];exact⟨rfl,hc⟩
    cases h
  cases h
 rintro⟨rfl,h⟩;have e:=Cm.2 ⟨(by omega:n<=999999),(rfl:Bb n=Bb n)⟩;simp only[e,if_pos h]
theorem P6{k:List UInt8}(h:k=[110]\/k=[116]\/k=[102]):Ch ⟨[],k,[]⟩/\Bt ⟨[],k,[]⟩=k:=by
 rcases h with rfl|rfl|rfl<;>exact⟨⟨rfl,.inr ⟨by simp,rfl⟩,by decide⟩,by decide⟩
theorem H8{st:UInt8}{s:List UInt8}{f:Fd}:Cc st s=some f↔Xp st f/\P8 st f=s:=by
 obtain⟨tg,nm,k,gv⟩:=f;unfold Cc;by_cases hst:st=69
 ·rw[if_pos hst];constructor
  ·intro h;cases hp:Ml (Ak 58 s)with
   |none=>rw[hp]at h;cases h
   |some x=>
    obtain⟨n,b⟩:=x;rw[hp]at h;simp at h;obtain⟨rfl,rfl,rfl,rfl⟩:=h;obtain⟨e,h1,h2,h3⟩:=Kq.1 hp;obtain⟨_,_,e2⟩:=Ep.1 e;exact⟨⟨h1,h2,h3,fun _=>⟨rfl,rfl⟩,fun h=>absurd hst h⟩,by rw[<-e2];simp[P8,Nc,hst,Am]⟩
  rintro⟨⟨h1,h2,h3,h4,_⟩,rfl⟩;obtain⟨e1,e2⟩:=h4 hst;simp only at h1 h2 h3 e1 e2;subst e1;subst e2
  have hs:Ak 58 (P8 st ⟨tg,nm,Kd.nil,[]⟩)=[Bb tg,nm]:=Ep.2 ⟨by simp,by
   intro p hp;simp at hp;rcases hp with rfl|rfl
   ·exact kq
   exact(Ew (Eo h3)).2.2.1,by simp[P8,Nc,hst,Am]⟩
  rw[hs,Kq.2 ⟨rfl,h1,h2,h3⟩]
 rw[if_neg hst];constructor
 ·intro h;cases hp:Nf (Ak 58 s)with
  |none=>rw[hp]at h;cases h
  |some x=>
   obtain⟨n,b,c⟩:=x;rw[hp]at h;simp only at h;obtain⟨e,h1,h2,h3⟩:=Jc.1 hp;obtain⟨_,_,e2⟩:=Ep.1 e;split at h
   ·rename_i k' hk;obtain⟨_,_,e3⟩:=Ep.1 hk;simp[Am]at e3;subst e3;cases hkl:C4 k' with
    |none=>rw[hkl]at h;cases h
    |some kk=>
     rw[hkl]at h;simp at h;obtain⟨rfl,rfl,rfl,rfl⟩:=h;obtain⟨hk1,hk2⟩:=Fr.1 hkl;exact⟨⟨h1,h2,h3,fun h=>absurd h hst,fun _=>⟨hk1,fun h=>absurd rfl h⟩⟩,by rw[<-e2];simp[P8,Nc,hst,Am,hk2]⟩
   ·rename_i k' v hk;split at h
    ·rename_i hc;simp at h;obtain⟨rfl,rfl,rfl,rfl⟩:=h;obtain⟨_,_,e3⟩:=Ep.1 hk;obtain⟨hn,_⟩:=Ns hc.2;obtain⟨o1,o2⟩:=P6 (Pj hc.2);refine⟨⟨h1,h2,h3,fun h=>absurd h hst,fun _=>⟨o1,fun _=>⟨hc.1,rfl,hc.2⟩⟩⟩,?_⟩;rw[<-e2,<-e3];simp[P8,Nc,hst,Am,o2,hn]
    cases h
   cases h
 rintro⟨⟨h1,h2,h3,_,h4⟩,rfl⟩;obtain⟨hk,hg⟩:=h4 hst;simp only at h1 h2 h3 hk hg;by_cases hgv:gv=[]
 ·subst hgv
  have hs:Ak 58 (P8 st ⟨tg,nm,k,[]⟩)=[Bb tg,nm,Bt k]:=Ep.2 ⟨by simp,by
   intro p hp;simp at hp;rcases hp with rfl|rfl|rfl
   ·exact kq
   ·exact(Ew (Eo h3)).2.2.1
   exact(Ew (Kp hk)).2.2.1,by simp[P8,Nc,hst,Am]⟩
  rw[hs,Jc.2 ⟨rfl,h1,h2,h3⟩];simp only;rw[Jj 61 (Bt k) (Ew (Kp hk)).2.2.2];simp only;rw[Fr.2 ⟨hk,rfl⟩]
 obtain⟨g1,g2,g3⟩:=hg hgv;obtain⟨_,hp⟩:=Ns g3;have hb:=Pj g3;obtain⟨o1,o2⟩:=P6 hb;have ek:k=⟨[],k.base,[]⟩:=by
  obtain⟨sg,b,nm'⟩:=k;simp only at g2 hb;subst g2;obtain⟨_,hbo,_⟩:=hk;rcases hbo with⟨h,_⟩|⟨_,h⟩
  ·exfalso
   simp only at h;rcases hb with hb|hb|hb<;>· rw[h]at hb;revert hb;decide
  simp only at h;rw[h]
 have eB:Bt k=k.base:=by rw[ek];exact o2
 have nb:∀c∈Bt k,Js c:=Kp hk
 have hs:Ak 58 (P8 st ⟨tg,nm,k,gv⟩)=[Bb tg,nm,Bt k++61::gv]:=Ep.2 ⟨by simp,by
  intro p hp';simp at hp';rcases hp' with rfl|rfl|rfl
  ·exact kq
  ·exact(Ew (Eo h3)).2.2.1
  intro hc;rcases af.1 hc with hc|hc
  ·exact(Ew nb).2.2.1 hc
  rcases az.1 hc with hc|hc
  ·revert hc;decide
  exact(Ew hp).2.2.1 hc,by simp[P8,Nc,hst,Am,hgv]⟩
 rw[hs,Jc.2 ⟨rfl,h1,h2,h3⟩];simp only;rw[M0 61 (Bt k) gv (Ew nb).2.2.2,Jj 61 gv (Ew hp).2.2.2];simp only;rw[eB,if_pos ⟨g1,g3⟩,<-ek]
theorem Xa{st:UInt8}{s:List UInt8}{f:Fd}:Jx st s=some f↔Xp st f/\P8 st f=s:=by
 obtain⟨tg,nm,k,gv⟩:=f;constructor
 ·intro h;unfold Jx at h;by_cases hst:st=69
  ·rw[if_pos hst]at h;cases hp:Ml (Ak 58 (Ds 61 s).1)with
   |none=>rw[hp]at h;cases h
   |some x=>
    obtain⟨n,b⟩:=x;rw[hp]at h;simp only at h;obtain⟨e,h1,h2,h3⟩:=Kq.1 hp;obtain⟨_,_,e2⟩:=Ep.1 e;rcases Gp 61 s with⟨hn,hc⟩|⟨p,t,_,_,hc⟩
    ·rw[hc]at h e2;simp at h;obtain⟨rfl,rfl,rfl,rfl⟩:=h;exact⟨⟨h1,h2,h3,fun _=>⟨rfl,rfl⟩,fun h=>absurd hst h⟩,by simp only at e2;rw[<-e2];simp[P8,Nc,hst,Am]⟩
    rw[hc]at h;simp at h
  rw[if_neg hst]at h;cases hp:Nf (Ak 58 (Ds 61 s).1)with
  |none=>rw[hp]at h;cases h
  |some x=>
   obtain⟨n,b,c⟩:=x;rw[hp]at h;simp only at h;obtain⟨e,h1,h2,h3⟩:=Jc.1 hp;obtain⟨_,_,e2⟩:=Ep.1 e;cases hkl:C4 c with
   |none=>rw[hkl]at h;cases h
   |some kk=>
    obtain⟨hk1,hk2⟩:=Fr.1 hkl;rw[hkl]at h;simp only at h;rcases Gp 61 s with⟨hn,hc⟩|⟨p,t,ec,_,hc⟩
    ·rw[hc]at h e2;simp at h;obtain⟨rfl,rfl,rfl,rfl⟩:=h;exact⟨⟨h1,h2,h3,fun h=>absurd h hst,fun _=>⟨hk1,fun h=>absurd rfl h⟩⟩,by simp only at e2;rw[<-e2];simp[P8,Nc,hst,Am,hk2]⟩
    rw[hc]at h e2;simp only at h e2;split at h
    ·cases h
    rename_i hcc;have hcc':st=82/\kk.signs=[]/\Cf kk.base t=true:=Decidable.byContradiction fun hh=>hcc ⟨trivial,hh⟩;simp at h;obtain⟨rfl,rfl,rfl,rfl⟩:=h;obtain⟨hn,_⟩:=Ns hcc'.2.2;exact⟨⟨h1,h2,h3,fun h=>absurd h hst,fun _=>⟨hk1,fun _=>hcc'⟩⟩,by rw[ec,<-e2];simp[P8,Nc,hst,Am,hk2,hn]⟩
 intro h;have hS:=H8.2 h;obtain⟨⟨h1,h2,h3,h4,h5⟩,rfl⟩:=h;simp only at h1 h2 h3 h4 h5;unfold Jx;by_cases hst:st=69
 ·obtain⟨e1,e2⟩:=h4 hst;subst e1;subst e2;have hno:61∉P8 st ⟨tg,nm,Kd.nil,[]⟩:=by
   simp[P8,Nc,hst];exact⟨(Ew (Fu tg)).2.2.2,(Ew (Eo h3)).2.2.2⟩
  rw[if_pos hst,Re hno];simp only
  have hs:Ak 58 (P8 st ⟨tg,nm,Kd.nil,[]⟩)=[Bb tg,nm]:=Ep.2 ⟨by simp,by
   intro p hp;simp at hp;rcases hp with rfl|rfl
   ·exact kq
   exact(Ew (Eo h3)).2.2.1,by simp[P8,Nc,hst,Am]⟩
  rw[hs,Kq.2 ⟨rfl,h1,h2,h3⟩];simp
 obtain⟨hk,hg⟩:=h5 hst;have nb:∀c∈Bt k,Js c:=Kp hk;have hno:61∉Bb tg++58::(nm++58::Bt k):=by
  simp;exact⟨(Ew (Fu tg)).2.2.2,(Ew (Eo h3)).2.2.2,(Ew nb).2.2.2⟩
 have hs:Ak 58 (Bb tg++58::(nm++58::Bt k))=[Bb tg,nm,Bt k]:=Ep.2 ⟨by simp,by
  intro p hp;simp at hp;rcases hp with rfl|rfl|rfl
  ·exact kq
  ·exact(Ew (Eo h3)).2.2.1
  exact(Ew nb).2.2.1,by simp[Am]⟩
 rw[if_neg hst];by_cases hgv:gv=[]
 ·subst hgv;have e:P8 st ⟨tg,nm,k,[]⟩=Bb tg++58::(nm++58::Bt k):=by simp[P8,Nc,hst]
  rw[e,Re hno];simp only;rw[hs,Jc.2 ⟨rfl,h1,h2,h3⟩];simp only;rw[Fr.2 ⟨hk,rfl⟩];simp
 have e:P8 st ⟨tg,nm,k,gv⟩=(Bb tg++58::(nm++58::Bt k))++61::gv:=by simp[P8,Nc,hst,hgv]
 rw[e,Ff hno];simp only;rw[hs,Jc.2 ⟨rfl,h1,h2,h3⟩];simp only;rw[Fr.2 ⟨hk,rfl⟩];simp only;rw[if_neg (fun hh=>hh.2 (hg hgv))]
theorem Qix(st:UInt8)(s:List UInt8):Jx st s=Cc st s:=by
 cases h:Cc st s with
 |some f=>exact Xa.2 (H8.1 h)
 |none=>
  cases h2:Jx st s with
  |none=>rfl
  |some f=>rw[H8.2 (Xa.1 h2)]at h;cases h
theorem Ve{st:UInt8}{f:Fd}(h:Xp st f):10∉P8 st f/\44∉P8 st f/\P8 st f≠[]:=by
 obtain⟨h1,h2,h3,h4,h5⟩:=h;have hd:=Rb f.tag;refine⟨?_,?_,by unfold P8;simp⟩;all_goals
  unfold P8 Nc;simp only[af,az,not_or];refine⟨?_,by decide,?_,?_⟩
  ·first|exact(Ew (Fu f.tag)).1|exact(Ew (Fu f.tag)).2.1
  ·first|exact(Ew (Eo h3)).1|exact(Ew (Eo h3)).2.1
  ·by_cases hst:st=69
   ·rw[if_pos hst];simp
   rw[if_neg hst];obtain⟨hk,hg⟩:=h5 hst;simp only[af,az,not_or];refine⟨by decide,?_,?_⟩
   ·first|exact(Ew (Kp hk)).1|exact(Ew (Kp hk)).2.1
   by_cases hgv:f.given=[]
   ·rw[if_pos hgv];simp
   rw[if_neg hgv];have hp:=(Ns (hg hgv).2.2).2;simp only[az,not_or];refine⟨by decide,?_⟩;first|exact(Ew hp).1|exact(Ew hp).2.1
theorem Qg5{st:UInt8}{f g:Fd}(hf:Xp st f)(hg:Xp st g)(h:P8 st f=P8 st g):f=g:=by
 have h1:=H8.2 ⟨hf,rfl⟩;have h2:=H8.2 ⟨hg,h.symm⟩;rw[h1]at h2;injection h2
structure Ty where
 sort:UInt8
 name:List UInt8
 fields:List Fd
deriving DecidableEq
def H4(fs:List Fd)(f:Fd):Bool:=fs.all fun g=>decide (g.name≠f.name) && decide (g.tag<f.tag)
def Gu(st:UInt8):List (List UInt8)->List Fd->Option (List Fd)
 |[],acc=>some acc
 |p::ps,acc=>match Jx st p with
  |none=>none
  |some f=>if acc.length=8\/H4 acc f=false then none else Gu st ps (acc++[f])
def Ec(st:UInt8):List (List UInt8)->List Fd->Option (List Fd)
 |[],acc=>some acc
 |p::ps,acc=>match Cc st p with
  |none=>none
  |some f=>if H4 acc f=false then none else Ec st ps (acc++[f])
def Fds(st:UInt8)(fs:List Fd):Prop:=(∀f∈fs,Xp st f)/\fs.Pairwise fun g f=>g.name≠f.name/\g.tag<f.tag
theorem M6{fs:List Fd}{f:Fd}:H4 fs f=true↔∀g∈fs,g.name≠f.name/\g.tag<f.tag:=by simp[H4]
theorem Qdn{st:UInt8}{fs:List Fd}{f:Fd}:Fds st (fs++[f])↔Fds st fs/\Xp st f/\H4 fs f=true:=by
 unfold Fds;rw[M6,List.pairwise_append];constructor
 ·rintro⟨h1,h2,_,h3⟩;exact⟨⟨fun g hg=>h1 g (by simp[hg]),h2⟩,h1 f aL,fun g hg=>h3 g hg f aL⟩
 rintro⟨⟨h1,h2⟩,h3,h4⟩;refine⟨fun g hg=>?_,h2,by simp,fun g hg f' hf'=>?_⟩
 ·rcases af.1 hg with hg|hg
  ·exact h1 g hg
  simp at hg;subst hg;exact h3
 simp at hf';subst hf';exact h4 g hg
theorem Pk(st:UInt8):∀(ps:List (List UInt8)) (acc r:List Fd),Fds st acc->(Ec st ps acc=some r↔Fds st r/\∃gs,r=acc++gs/\gs.map (P8 st)=ps)
 |[],acc,r,ha=>by
  simp only[Ec,aj];constructor
  ·rintro rfl;exact⟨ha,[],by simp,rfl⟩
  rintro⟨_,gs,e,h⟩;have:gs=[]:=aR;subst this;simpa using e.symm
 |p::ps,acc,r,ha=>by
  simp only[Ec];cases hf:Cc st p with
  |none=>
   simp only[reduceCtorEq,false_iff];rintro⟨hr,gs,rfl,h⟩;cases gs with
   |nil=>simp at h
   |cons g gs=>
    simp at h;have:=H8.2 ⟨hr.1 g aL,h.1⟩;rw[this]at hf;cases hf
  |some f=>
   obtain⟨ok,eb⟩:=H8.1 hf;simp only;by_cases hfit:H4 acc f=false
   ·rw[if_pos hfit];simp only[reduceCtorEq,false_iff];rintro⟨hr,gs,rfl,h⟩;cases gs with
    |nil=>simp at h
    |cons g gs=>
     simp at h;have hg:g=f:=Qg5 (hr.1 g aL) ok (h.1.trans eb.symm);subst hg;have h2:Fds st (acc++[g]++gs):=fw;have h3:Fds st (acc++[g]):=⟨fun x hx=>h2.1 x (by simp at hx ⊢;rcases hx with hx|hx<;>simp[hx]),(List.pairwise_append.1 h2.2).1⟩
     rw[(Qdn.1 h3).2.2]at hfit;cases hfit
   rw[if_neg hfit];have hfit':H4 acc f=true:=by simpa using hfit
   rw[Pk st ps (acc++[f]) r (Qdn.2 ⟨ha,ok,hfit'⟩)];constructor
   ·rintro⟨hr,gs,rfl,h⟩;exact⟨hr,f::gs,by simp,by simp[eb,h]⟩
   rintro⟨hr,gs,rfl,h⟩;cases gs with
   |nil=>simp at h
   |cons g gs=>
    simp at h;have hg:g=f:=Qg5 (hr.1 g aL) ok (h.1.trans eb.symm);subst hg;exact⟨hr,gs,by simp,h.2⟩
theorem Su(st:UInt8):∀(ps:List (List UInt8)) (acc:List Fd),acc.length<=8->Gu st ps acc=(match Ec st ps acc with|some r=>if r.length<=8 then some r else none|none=>none)
 |[],acc,h=>by simp[Gu,Ec,h]
 |p::ps,acc,h=>by
  simp only[Gu,Ec,Qix];cases hf:Cc st p with
  |none=>rfl
  |some f=>
   simp only;by_cases hfit:H4 acc f=false
   ·rw[if_pos (.inr hfit),if_pos hfit]
   rw[if_neg hfit];by_cases h8:acc.length=8
   ·rw[if_pos (.inl h8)];have key:∀(ps:List (List UInt8)) (a r:List Fd),Ec st ps a=some r->a.length<=r.length:=by
     intro ps;induction ps with
     |nil=>intro a r h;simp[Ec]at h;rw[h];exact Nat.le_refl _
     |cons q qs ih=>
      intro a r h;simp only[Ec]at h;split at h
      ·cases h
      split at h
      ·cases h
      have:=ih _ _ h;simp at this;omega
    cases hr:Ec st ps (acc++[f])with
    |none=>rfl
    |some r=>
     have:=key _ _ _ hr;simp at this;simp only;rw[if_neg aG]
   rw[if_neg (by simp[h8,hfit])];exact Su st ps (acc++[f]) aO
def Ee(c:UInt8):Prop:=c=82\/c=85\/c=69
instance (c:UInt8):Decidable (Ee c):=by unfold Ee;infer_instance
def Do(t:Ty):Prop:=Ee t.sort/\Bf t.name=true/\Fds t.sort t.fields/\t.fields.length<=8/\(t.fields=[]->t.sort=82)
def tyB(t:Ty):List UInt8:=t.sort::(t.name++61::Am 44 (t.fields.map (P8 t.sort)))
def Fh(s:List UInt8):Option Ty:=
 match s with
 |[]=>none
 |c::r=>
  if ¬Ee c\/(Ds 61 r).2.2=false\/Bf (Ds 61 r).1=false then none
  else if (Ds 61 r).2.1=[]then(if c=82 then some ⟨c,(Ds 61 r).1,[]⟩else none)
  else match Gu c (Ak 44 (Ds 61 r).2.1) []with
   |some fs=>some ⟨c,(Ds 61 r).1,fs⟩
   |none=>none
theorem Qla{c:UInt8}{ps:List (List UInt8)}(h:ps≠[])(h1:∀p∈ps,p≠[]):Am c ps≠[]:=by
 cases ps with
 |nil=>exact absurd rfl h
 |cons p ps=>
  have:=h1 p aL;cases ps with
  |nil=>exact this
  |cons q ps=>rw[B0 c p aL];simp
theorem Qcw(st:UInt8):Fds st []:=⟨by simp,List.Pairwise.nil⟩
theorem S4{st:UInt8}{ps:List (List UInt8)}{r:List Fd}:Gu st ps []=some r↔Fds st r/\r.length<=8/\r.map (P8 st)=ps:=by
 rw[Su st ps [] aL];constructor
 ·intro h;cases hs:Ec st ps []with
  |none=>rw[hs]at h;cases h
  |some x=>
   rw[hs]at h;simp only at h;split at h
   ·rename_i h8;injection h with h;subst h;obtain⟨h1,gs,e,h2⟩:=(Pk st ps [] x (Qcw st)).1 hs;simp at e;subst e;exact⟨h1,h8,h2⟩
   cases h
 rintro⟨h1,h2,h3⟩;rw[(Pk st ps [] r (Qcw st)).2 ⟨h1,r,by simp,h3⟩];simp[h2]
theorem Qja{c:UInt8}(h:Ee c):c≠61/\c≠10:=by
 rcases h with rfl|rfl|rfl<;>exact⟨by decide,by decide⟩
theorem Gt{s:List UInt8}{t:Ty}:Fh s=some t↔Do t/\tyB t=s:=by
 obtain⟨st,nm,fs⟩:=t;constructor
 ·intro h;unfold Fh at h;split at h
  ·cases h
  rename_i c r;split at h
  ·cases h
  rename_i hc;have hc1:Ee c:=Decidable.byContradiction fun hh=>hc (.inl hh);have hc2:(Ds 61 r).2.2=true:=by
   cases hb:(Ds 61 r).2.2 with
   |true=>rfl
   |false=>exact absurd (.inr (.inl hb)) hc
  have hc3:Bf (Ds 61 r).1=true:=by
   cases hb:Bf (Ds 61 r).1 with
   |true=>rfl
   |false=>exact absurd (.inr (.inr hb)) hc
  rcases Gp 61 r with⟨_,e⟩|⟨p,u,er,hp,e⟩
  ·rw[e]at hc2;cases hc2
  rw[e]at h hc3;simp only at h hc3;split at h
  ·rename_i hu;subst hu;split at h
   ·rename_i h82;injection h with h;injection h with e1 e2 e3;subst e1;subst e2;subst e3;exact⟨⟨hc1,hc3,Qcw _,by simp,fun _=>h82⟩,by rw[er];simp[tyB,Am]⟩
   cases h
  rename_i hu;cases hf:Gu c (Ak 44 u) []with
  |none=>rw[hf]at h;cases h
  |some x=>
   rw[hf]at h;injection h with h;injection h with e1 e2 e3;subst e1;subst e2;subst e3;obtain⟨f1,f2,f3⟩:=S4.1 hf;obtain⟨s1,_,s3⟩:=Ep.1 f3.symm;exact⟨⟨hc1,hc3,f1,f2,fun hh=>by simp only at hh;subst hh;exact absurd rfl s1⟩,by rw[er];simp only[tyB];rw[s3]⟩
 rintro⟨⟨h1,h2,h3,h4,h5⟩,rfl⟩;simp only at h1 h2 h3 h4 h5;have hno:61∉nm:=(Ew (Eo h2)).2.2.2;unfold Fh tyB;simp only;rw[Ff hno];simp only;rw[if_neg (by simp[h1,h2])];by_cases hf:fs=[]
 ·subst hf;rw[h5 rfl];simp[Am]
 have hn:Am 44 (fs.map (P8 st))≠[]:=Qla gj (by
  intro p hp;obtain⟨f,hf',rfl⟩:=aw.1 hp;exact(Ve (h3.1 f hf')).2.2)
 have hs:Ak 44 (Am 44 (fs.map (P8 st)))=fs.map (P8 st):=Nn 44 _ gj (by
  intro p hp;obtain⟨f,hf',rfl⟩:=aw.1 hp;exact(Ve (h3.1 f hf')).2.1)
 rw[if_neg hn,hs,S4.2 ⟨h3,h4,rfl⟩]
theorem Qar{t:Ty}(h:Do t):10∉tyB t/\tyB t≠[]:=by
 refine⟨?_,by unfold tyB;simp⟩;obtain⟨h1,h2,h3,_,_⟩:=h;unfold tyB;simp only[af,az,not_or];refine⟨fun e=>(Qja h1).2 e.symm,(Ew (Eo h2)).1,by decide,?_⟩;have key:∀ps:List (List UInt8),(∀p∈ps,(10:UInt8)∉p)->(10:UInt8)∉Am 44 ps:=by
  intro ps;induction ps with
  |nil=>intro _;simp[Am]
  |cons p ps ih=>
   intro hp;cases ps with
   |nil=>exact hp p aL
   |cons q ps=>
    rw[B0 44 p aL];simp only[af,az,not_or];refine⟨hp p aL,by decide,ih (fun x hx=>hp x (by simp[hx]))⟩
 apply key;intro p hp;obtain⟨f,hf',rfl⟩:=aw.1 hp;exact(Ve (h3.1 f hf')).1
theorem Qbu{t u:Ty}(ht:Do t)(hu:Do u)(h:tyB t=tyB u):t=u:=by
 have h1:=Gt.2 ⟨ht,rfl⟩;have h2:=Gt.2 ⟨hu,h.symm⟩;rw[h1]at h2;injection h2
def scB(S:List Ty):List UInt8:=S.flatMap fun t=>tyB t++[10]
def Nk(S:List Ty):Prop:=(∀t∈S,Do t)/\S.length<=8/\S.Pairwise fun t u=>t.name≠u.name
def G0:Nat->List UInt8->List Ty->Option (List Ty)
 |0,_,_=>none
 |n+1,s,acc=>
  if s=[]then some acc
  else if (Ds 10 s).2.2=false\/acc.length=8 then none
  else match Fh (Ds 10 s).1 with
   |none=>none
   |some t=>if acc.any (fun u=>decide (u.name=t.name))=true then none else G0 n (Ds 10 s).2.1 (acc++[t])
theorem Qcd{S:List Ty}{t:Ty}:Nk (S++[t])↔Nk S/\Do t/\S.length<8/\S.any (fun u=>decide (u.name=t.name))=false:=by
 unfold Nk;rw[List.pairwise_append];constructor
 ·rintro⟨h1,h2,h3,_,h4⟩;simp at h2;refine⟨⟨fun u hu=>h1 u (by simp[hu]),by omega,h3⟩,h1 t aL,by omega,?_⟩;simp;intro u hu;exact h4 u hu t aL
 rintro⟨⟨h1,h2,h3⟩,h4,h5,h6⟩;simp at h6;refine⟨fun u hu=>?_,by simp;omega,h3,by simp,fun u hu v hv=>?_⟩
 ·rcases af.1 hu with hu|hu
  ·exact h1 u hu
  simp at hu;subst hu;exact h4
 simp at hv;subst hv;exact h6 u hu
theorem Qi(t:Ty)(S:List Ty):scB (t::S)=tyB t++10::scB S:=by simp[scB]
theorem Vu:∀(n:Nat) (s:List UInt8) (acc r:List Ty),s.length<n->Nk acc->(G0 n s acc=some r↔Nk r/\∃U,r=acc++U/\scB U=s)
 |0,s,acc,r,h,_=>absurd h (Nat.not_lt_zero _)
 |n+1,s,acc,r,h,ha=>by
  simp only[G0];by_cases hs:s=[]
  ·subst hs;rw[if_pos rfl];constructor
   ·intro hh;injection hh with hh;subst hh;exact⟨ha,[],by simp,rfl⟩
   rintro⟨_,U,rfl,e⟩;cases U with
   |nil=>simp
   |cons t U=>rw[Qi]at e;simp at e
  rw[if_neg hs];rcases Gp 10 s with⟨hn,e⟩|⟨p,u,es,hp,e⟩
  ·rw[e,if_pos (.inl rfl)];simp only[reduceCtorEq,false_iff];rintro⟨_,U,rfl,eU⟩;cases U with
   |nil=>exact hs eU.symm
   |cons t U=>rw[Qi]at eU;rw[<-eU]at hn;simp at hn
  rw[e];simp only;by_cases h8:acc.length=8
  ·rw[if_pos (.inr h8)];simp only[reduceCtorEq,false_iff];rintro⟨hr,U,rfl,eU⟩;cases U with
   |nil=>exact hs eU.symm
   |cons t U=>have:=hr.2.1;simp at this;omega
  rw[if_neg (by simp[h8])];have hsplit:∀t U,Do t->scB (t::U)=s->tyB t=p/\scB U=u:=by
   intro t U ht eU;rw[Qi,es]at eU;have h1:=Ff (s:=scB U) (Qar ht).1;rw[eU,Ff hp]at h1;injection h1 with e1 e2;injection e2 with e2 _;exact⟨e1.symm,e2.symm⟩
  cases ht:Fh p with
  |none=>
   simp only[reduceCtorEq,false_iff];rintro⟨hr,U,rfl,eU⟩;cases U with
   |nil=>exact hs eU.symm
   |cons t U=>
    have ok:Do t:=hr.1 t aL;rw[Gt.2 ⟨ok,(hsplit t U ok eU).1⟩]at ht;cases ht
  |some t=>
   obtain⟨ok,eb⟩:=Gt.1 ht;simp only;by_cases hd:acc.any (fun u=>decide (u.name=t.name))=true
   ·rw[if_pos hd];simp only[reduceCtorEq,false_iff];rintro⟨hr,U,rfl,eU⟩;cases U with
    |nil=>exact hs eU.symm
    |cons t' U=>
     have ok':Do t':=hr.1 t' aL;have ett:t'=t:=Qbu ok' ok ((hsplit t' U ok' eU).1.trans eb.symm);subst ett;simp at hd;obtain⟨v,hv,hvn⟩:=hd;exact(List.pairwise_append.1 hr.2.2).2.2 v hv t' aL hvn
   rw[if_neg hd];have hlen:u.length<n:=by rw[es]at h;simp at h;omega
   rw[Vu n u (acc++[t]) r hlen (Qcd.2 ⟨ha,ok,by have:=ha.2.1;omega,by simpa using hd⟩)];constructor
   ·rintro⟨hr,U,rfl,eU⟩;exact⟨hr,t::U,by simp,by rw[Qi,eb,eU,es]⟩
   rintro⟨hr,U,rfl,eU⟩;cases U with
   |nil=>exact absurd eU.symm hs
   |cons t' U=>
    have ok':Do t':=hr.1 t' aL;obtain⟨e1,e2⟩:=hsplit t' U ok' eU;have ett:t'=t:=Qbu ok' ok (e1.trans eb.symm);subst ett;exact⟨hr,U,by simp,e2⟩
def Dy(s:List UInt8):Option Ty:=
 match Ds 61 s with
 |(c::nm,u,true)=>
  if ¬Bf nm=true\/¬Ee c then none
  else if u=[]then(if c=82 then some ⟨c,nm,[]⟩else none)
  else match Ec c (Ak 44 u) []with
   |some r=>if r.length<=8 then some ⟨c,nm,r⟩else none
   |none=>none
 |_=>none
theorem Qdu(s:List UInt8):Dy s=Fh s:=by
 cases s with
 |nil=>rfl
 |cons c r=>
  unfold Dy Fh;by_cases hc:c=61
  ·subst hc;have e:Ds 61 (61::r)=([],r,true):=Ff (p:=[]) aL;rw[e];simp only;rw[if_pos (.inl aJ)]
  rcases Gp 61 r with⟨hn,e⟩|⟨p,u,er,hp,e⟩
  ·have e2:Ds 61 (c::r)=(c::r,[],false):=Re (by simp;exact⟨fun h=>hc h.symm,hn⟩);rw[e2];simp[e]
  have e2:Ds 61 (c::r)=(c::p,u,true):=by
   rw[er];exact Ff (p:=c::p) (by simp;exact⟨fun h=>hc h.symm,hp⟩)
  rw[e2];simp only[e];by_cases h1:Bf p=true
  ·by_cases h2:Ee c
   ·by_cases hu:u=[]
    ·subst hu;simp[h1,h2]
    have hx:∀(a b:Option Ty),(if ¬Bf p=true\/¬Ee c then a else b)=b:=fun a b=>if_neg (by simp[h1,h2]);have hy:∀(a b:Option Ty),(if ¬Ee c\/true=false\/Bf p=false then a else b)=b:=fun a b=>if_neg (by simp[h1,h2]);have hz:∀(a b:Option Ty),(if u=[]then a else b)=b:=fun a b=>if_neg hu;rw[hx,hy,hz,hz,Su c _ [] aL];cases Ec c (Ak 44 u) []with
    |none=>rfl
    |some r=>simp only;split<;>rfl
   rw[if_pos (.inr h2),if_pos (.inl h2)]
  rw[if_pos (.inl h1),if_pos (.inr (.inr dM))]
def Gk:List (List UInt8)->Option (List Ty)
 |[]=>some []
 |p::ps=>match Fh p with
  |none=>none
  |some t=>match Gk ps with
   |none=>none
   |some ts=>some (t::ts)
theorem Qb:∀(ps:List (List UInt8)) (ts:List Ty),Gk ps=some ts↔(∀t∈ts,Do t)/\ts.map tyB=ps
 |[],ts=>by
  simp only[Gk,aj];constructor
  ·rintro rfl;simp
  rintro⟨_,h⟩;simpa using h.symm
 |p::ps,ts=>by
  simp only[Gk];cases ht:Fh p with
  |none=>
   simp only[reduceCtorEq,false_iff];rintro⟨h,e⟩;cases ts with
   |nil=>simp at e
   |cons t ts=>
    simp at e;rw[Gt.2 ⟨h t aL,e.1⟩]at ht;cases ht
  |some t=>
   obtain⟨ok,eb⟩:=Gt.1 ht;simp only;have ih:=Qb ps;constructor
   ·intro h;cases hr:Gk ps with
    |none=>rw[hr]at h;cases h
    |some us=>
     rw[hr]at h;injection h with h;subst h;obtain⟨i1,i2⟩:=(ih us).1 hr;exact⟨by simpa using⟨ok,i1⟩,by simp[eb,i2]⟩
   rintro⟨h,e⟩;cases ts with
   |nil=>simp at e
   |cons u us=>
    simp at e;have:u=t:=Qbu (h u aL) ok (e.1.trans eb.symm);subst this;rw[(ih us).2 ⟨fun x hx=>h x (by simp[hx]),e.2⟩]
def Pl(s:List UInt8):Option (List Ty):=
 if 9<(Ak 10 s).length\/(Ak 10 s).getLast?≠some []then none else Gk (Ak 10 s).dropLast
theorem Qd4(S:List Ty):Am 10 (S.map tyB++[[]])=scB S:=by
 induction S with
 |nil=>rfl
 |cons t S ih=>
  rw[ax,au,B0 10 _ aL,ih,Qi]
theorem Qdg{s:List UInt8}{S:List Ty}:Pl s=some S↔(∀t∈S,Do t)/\S.length<=8/\scB S=s:=by
 unfold Pl;constructor
 ·intro h;split at h
  ·cases h
  rename_i hc;have h9:(Ak 10 s).length<=9:=by
   rcases aF 9 (Ak 10 s).length with hh|hh
   ·exact absurd (.inl hh) hc
   exact hh
  have hl:(Ak 10 s).getLast?=some []:=by
   refine Decidable.byContradiction fun hh=>hc (.inr hh)
  obtain⟨t1,t2⟩:=(Qb _ _).1 h;have e:Ak 10 s=S.map tyB++[[]]:=by
   rcases Fw (Ak 10 s)with hh|⟨t,c,hh⟩
   ·exact absurd hh (Ex 10 s)
   rw[hh]at hl t2 ⊢;simp at hl t2;rw[t2,hl]
  have hs:=Qq 10 s;rw[e,Qd4]at hs;rw[e]at h9;simp at h9;exact⟨t1,h9,hs⟩
 rintro⟨h1,h2,rfl⟩;have e:Ak 10 (scB S)=S.map tyB++[[]]:=by
  rw[<-Qd4];refine Nn 10 _ aL ?_;intro p hp;rcases af.1 hp with hp|hp
  ·obtain⟨t,ht,rfl⟩:=aw.1 hp;exact(Qar (h1 t ht)).1
  simp at hp;subst hp;simp
 rw[e,if_neg aO];simp only[List.dropLast_concat];exact(Qb _ _).2 ⟨h1,rfl⟩
def B6(S:List Ty)(n:List UInt8):Option Ty:=S.find? fun t=>decide (t.name=n)
theorem Be{S:List Ty}{n:List UInt8}{t:Ty}(h:B6 S n=some t):t∈S/\t.name=n:=by
 exact kE
def Ce(S:List Ty)(k:Kd):Prop:=k.base=[64]->(B6 S k.name).isSome=true
instance (S:List Ty) (k:Kd):Decidable (Ce S k):=by unfold Ce;infer_instance
def Ji(S:List Ty):Prop:=∀t∈S,t.sort≠69->∀f∈t.fields,Ce S f.kind
instance (S:List Ty):Decidable (Ji S):=by unfold Ji;infer_instance
def Gl(S:List Ty)(t:Ty):Option Ty:=
 if t.sort=85 then(match t.fields with
  |f::_=>if f.kind.signs=[]/\f.kind.base=[64]then B6 S f.kind.name else none
  |[]=>none)else none
def Cb(S:List Ty):Nat->Ty->Bool
 |0,_=>false
 |n+1,t=>match Gl S t with
  |none=>true
  |some u=>Cb S n u
theorem Qe6{S:List Ty}{t u:Ty}(h:Gl S t=some u):u∈S:=by
 unfold Gl at h;split at h
 ·split at h
  ·split at h
   ·exact(Be h).1
   cases h
  cases h
 cases h
theorem Nb(S:List Ty):∀(n:Nat) (t:Ty),Cb S n t=true->∀m,n<=m->Cb S m t=true
 |0,t,h,_,_=>by simp[Cb]at h
 |n+1,t,h,m,hm=>by
  obtain⟨k,rfl⟩:∃k,m=k+1:=⟨m - 1,by omega⟩
  simp only[Cb]at h ⊢;cases hn:Gl S t with
  |none=>rfl
  |some u=>
   rw[hn]at h;exact Nb S n u h k aG
theorem Mj:∀(l S:List Ty),l.Nodup->(∀x∈l,x∈S)->l.length<=S.length
 |[],S,_,_=>ag _
 |x::l,S,hn,hs=>by
  obtain⟨h1,h2⟩:=List.nodup_cons.1 hn;have hx:=hs x aL
  have ih:=Mj l (S.erase x) h2 (fun y hy=>by
   have hne:y≠x:=by rintro rfl;exact h1 hy
   exact(List.mem_erase_of_ne hne).2 (hs y gc))
  have hl:=List.length_erase_of_mem hx;have hp:0<S.length:=List.length_pos_iff.2 (by rintro rfl;cases hx);simp;omega
theorem Zj(S:List Ty):∀(n:Nat) (t:Ty),t∈S->Cb S (n+1) t=true->Cb S n t=false ->
  ∃l:List Ty,l.length=n+1/\(∀u∈l,u∈S)/\l.Nodup/\∀u∈l,Cb S (n+1) u=true
 |0,t,ht,h1,_=>⟨[t],rfl,by simpa using ht,by simp,by simpa using h1⟩
 |n+1,t,ht,h1,h2=>by
  have hn:∃u,Gl S t=some u:=by
   cases hh:Gl S t with
   |none=>simp[Cb,hh]at h2
   |some u=>exact⟨u,rfl⟩
  obtain⟨u,hu⟩:=hn;have e1:Cb S (n+1) u=true:=by simp only[Cb,hu]at h1;simpa [Cb]using h1
  have e2:Cb S n u=false:=by simp only[Cb,hu]at h2;exact h2
  obtain⟨l,l1,l2,l3,l4⟩:=Zj S n u (Qe6 hu) e1 e2;refine⟨t::l,by simp[l1],?_,List.nodup_cons.2 ⟨fun hm=>?_,l3⟩,?_⟩
  ·intro x hx;rcases az.1 hx with rfl|hx
   ·exact ht
   exact l2 x hx
  ·rw[l4 t hm]at h2;cases h2
  intro x hx;rcases az.1 hx with rfl|hx
  ·exact h1
  exact Nb S _ _ (l4 x hx) _ aG
theorem Vy(S:List Ty)(t:Ty)(ht:t∈S)(n:Nat):Cb S n t=true->Cb S S.length t=true:=by
 induction n with
 |zero=>intro h;simp[Cb]at h
 |succ n ih=>
  intro h;by_cases h2:Cb S n t=true
  ·exact ih h2
  have h2':Cb S n t=false:=eH;obtain⟨l,l1,l2,l3,_⟩:=Zj S n t ht h h2';have:=Mj l S l3 l2;exact Nb S _ _ h _ aG
theorem Qa7(S:List Ty)(t:Ty)(ht:t∈S)(m n:Nat)(hm:S.length<=m)(hn:S.length<=n):Cb S m t=Cb S n t:=by
 cases h1:Cb S m t with
 |true=>exact(Nb S _ _ (Vy S t ht m h1) n hn).symm
 |false=>
  cases h2:Cb S n t with
  |false=>rfl
  |true=>rw[Nb S _ _ (Vy S t ht n h2) m hm]at h1;cases h1
def Nv(S:List Ty):Prop:=Nk S/\Ji S/\∀t∈S,Cb S 9 t=true
def Cl(s:List UInt8):Option (List Ty):=
 if 400<s.length then none
 else match G0 (s.length+1) s []with
  |none=>none
  |some S=>if Ji S/\(∀t∈S,Cb S 9 t=true)then some S else none
theorem Qc6:Nk []:=⟨by simp,by simp,List.Pairwise.nil⟩
theorem Vk{s:List UInt8}{S:List Ty}:G0 (s.length+1) s []=some S↔Nk S/\scB S=s:=by
 rw[Vu (s.length+1) s [] S aG Qc6];constructor
 ·rintro⟨h,U,e,h2⟩;simp at e;subst e;exact⟨h,h2⟩
 rintro⟨h,h2⟩;exact⟨h,S,by simp,h2⟩
theorem Te{s:List UInt8}{S:List Ty}:Cl s=some S↔Nv S/\s.length<=400/\scB S=s:=by
 unfold Cl;constructor
 ·intro h;split at h
  ·cases h
  rename_i h4;cases hl:G0 (s.length+1) s []with
  |none=>rw[hl]at h;cases h
  |some T=>
   rw[hl]at h;simp only at h;split at h
   ·rename_i hc;injection h with h;subst h;obtain⟨h1,h2⟩:=Vk.1 hl;exact⟨⟨h1,hc.1,hc.2⟩,by omega,h2⟩
   cases h
 rintro⟨⟨h1,h2,h3⟩,h4,h5⟩;rw[if_neg aG,Vk.2 ⟨h1,h5⟩];simp only;rw[if_pos ⟨h2,h3⟩]
theorem Qf{s:List UInt8}{S:List Ty}:Cl s=some S↔s.length<=400/\Pl s=some S/\(S.Pairwise fun t u=>t.name≠u.name)/\Ji S/\∀t∈S,Cb S (S.length+1) t=true:=by
 rw[Te,Qdg];constructor
 ·rintro⟨⟨⟨h1,h2,h3⟩,h4,h5⟩,h6,h7⟩;exact⟨h6,⟨h1,h2,h7⟩,h3,h4,fun t ht=>by rw[Qa7 S t ht _ 9 aG aG];exact h5 t ht⟩
 rintro⟨h6,⟨h1,h2,h7⟩,h3,h4,h5⟩;exact⟨⟨⟨h1,h2,h3⟩,h4,fun t ht=>by rw[<-Qa7 S t ht (S.length+1) 9 aG aG];exact h5 t ht⟩,h6,h7⟩
def Vd(S:List Ty)(n:Nat)(k:Kd):Prop:=k.signs=[]->k.base=[64]->∃t,B6 S k.name=some t/\Cb S n t=true
def Dv(S:List Ty):Nat->Kd->List UInt8
 |0,_=>[]
 |n+1,k=>
  if k.signs.head?=some 91 then[91,93]
  else if k.signs.head?=some 63 then[45]
  else if k.base=[110]then[48]
  else if k.base=[116]then[39,39]
  else if k.base=[102]then[110,111]
  else match B6 S k.name with
   |none=>[]
   |some t=>if t.sort=82 then[123,125]else
    match t.fields with
    |[]=>[]
    |f::_=>if t.sort=69 then 35::Bb f.tag else 60::(Bb f.tag++61::(Dv S n f.kind++[62]))
theorem V8{S:List Ty}{n:Nat}{k:Kd}{t:Ty}{f:Fd}{fs:List Fd}(h:Vd S (n+1) k)(h1:k.signs=[])(h2:k.base=[64])(hf:B6 S k.name=some t)(hs:t.sort=85)(hfs:t.fields=f::fs)(hr:Ce S f.kind):Vd S n f.kind:=by
 intro g1 g2;obtain⟨u,hu,he⟩:=h h1 h2;rw[hf]at hu;injection hu with hu;subst hu;have hn:Gl S t=B6 S f.kind.name:=by
  unfold Gl;rw[if_pos hs,hfs];simp only;rw[if_pos ⟨g1,g2⟩]
 have hr':=hr g2;cases hx:B6 S f.kind.name with
 |none=>rw[hx]at hr';cases hr'
 |some v=>
  simp only[Cb,hn,hx]at he;exact⟨v,rfl,he⟩
def T2(S:List Ty)(k:Kd):List UInt8:=Dv S 10 k
def Mh(S:List Ty)(f:Fd):List UInt8:=if f.given=[]then T2 S f.kind else f.given
end Go.Proofs.YtkigmebejmmikaaGreatDoor
