/- Texts joined. Conditions: as each theorem names them. -/
import Derived.Test.YtpjijpcemejlnaaGreatDoorProg
import Derived.WalkKit
import Derived.WalkSmall
import Derived.WalkSpells
import Derived.WalkLawsBesides
import Derived.Below
import Derived.Lib.Hide
import Derived.Lib.BufferRead
import Derived.Laws.BytesArg
import Derived.Deep.QuietTactic
import Derived.BigQuiet
import Derived.Handy
import Derived.Test.YtpjijpcemejlnaaGreatDoorN00
set_option maxRecDepth 100000
set_option maxHeartbeats 32000000
set_option linter.unusedVariables false
set_option linter.unusedSimpArgs false
namespace Go.Proofs.YtpjijpcemejlnaaGreatDoor
open Go.RowKit Go.Proofs.Tryz
theorem Qhn(l:List UInt8)(k:Nat)(h:k<(ByteArray.mk l.toArray).size):(ByteArray.mk l.toArray)[k]=l[k]'h:=rfl
theorem Qg5(l:List UInt8):(ByteArray.mk l.toArray).toList=l:=by
 have:(ByteArray.mk l.toArray).toList=(ByteArray.mk l.toArray).data.toList:=ByteArray.toList_eq _;rw[this]
theorem Qgq(l:List UInt8)(a b:Nat):(ByteArray.mk l.toArray).extract a b=⟨((l.drop a).take (b - a)).toArray⟩:=by
 apply ByteArray.ext;simp[ByteArray.data_extract]
theorem Qe7(l:List UInt8)(a:Nat):(l.drop a).take (l.length - a)=l.drop a:=ar aK
theorem Qfu{k:IntKind}{a b:Int}(h:a=b):Ending.returned (.int k a)=.returned (.int k b):=by rw[h]
theorem Bn{α:Type}(l:List α)(k:Nat)(h:k<l.length):l.take (k+1)=l.take k++[l[k]]:=by
 rw[List.take_succ_eq_append_getElem h]
def Af(ls:List (List UInt8)):List Value:=ls.map fun l=>.string ⟨l.toArray⟩
theorem Gy(l:List (List UInt8)):(Af l).length=l.length:=by simp[Af]
theorem Mt(l:List (List UInt8))(c:List UInt8):Af (l++[c])=Af l++[.string ⟨c.toArray⟩]:=by simp[Af]
def Bl(w:World)(A:Option Addr)(n:Nat)(xs:List Value):Prop:=
 xs.length=n/\n<=maxLen/\(0<n->∃b off,A=some ⟨b,off,none⟩/\b<w.heap.size/\∀j u,xs[j]?=some u->w.cell? ⟨b,off+j,none⟩=some u)
theorem Bl.below{w w':World}{A:Option Addr}{n:Nat}{xs:List Value}(h:Bl w A n xs)(hb:Below w w w'):Bl w' A n xs:=by
 refine⟨h.1,h.2.1,fun hn=>?_⟩;obtain⟨b,off,e,hlt,hc⟩:=h.2.2 hn;exact⟨b,off,e,ac hlt hb.size,fun j u hu=>(hb.cell (p:=⟨b,off+j,none⟩) hlt).trans (hc j u hu)⟩
theorem Bl.drew{w:World}{A:Option Addr}{n:Nat}{xs:List Value}(h:Bl w A n xs):Bl w.drew A n xs:=h
theorem Bl.alloc{w:World}{A:Option Addr}{n:Nat}{xs:List Value}(h:Bl w A n xs)(o:Obj):Bl (w.alloc o) A n xs:=h.below ((Below.refl _ _).alloc (Nat.le_refl _) o)
theorem Bl.at_{w:World}{A:Option Addr}{n:Nat}{xs:List Value}(h:Bl w A n xs){k:Nat}(hk:k<n):
  ∃b off,A=some ⟨b,off,none⟩/\b<w.heap.size/\w.cell? ⟨b,off+k,none⟩=some (xs[k]'(by have:=h.1;omega)):=by
 obtain⟨b,off,e,hlt,hc⟩:=h.2.2 aG;exact⟨b,off,e,hlt,hc k _ (List.getElem?_eq_getElem _)⟩
theorem Bl.own{w:World}{base:Nat}{e:TypeId}{v:Value}{n:Nat}{xs:List Value}(h:w.ownsRow base e 1 v n xs):∃A c,v=.slice A n c/\Bl w A n xs:=by
 have h1:=h.1;rcases h.2 with⟨rfl,rfl⟩|⟨g,cap,cur,rfl,hb,hh,hnc,hcm,hcs,htk⟩
 ·exact⟨none,0,rfl,by omega,ag _,fun h=>absurd h aG⟩
 refine⟨some ⟨g,0,none⟩,cap,rfl,by omega,by omega,fun hn=>⟨g,0,rfl,(h.lt g rfl).2,fun j u hu=>?_⟩⟩;have:=h.cells (g:=g) rfl j u hu;have e1:(⟨g,0,none⟩:Addr).add j=⟨g,0+j,none⟩:=bp;rwa [e1]at this
theorem Be{w w1:World}{base:Nat}{e:TypeId}{size:Nat}{v:Value}{n:Nat}{xs:List Value}(h:w.ownsRow base e size v n xs)(hb:Below w w w1):w1.ownsRow base e size v n xs:=
 h.kept (row:=none) ⟨hb.os,hb.tape,hb.output,hb.size,fun k hk _=>hb.block k hk⟩ (by
  cases v with
  |slice A a b=>cases A with
   |none=>exact .inl rfl
   |some x=>exact .inr ef
  |_=>exact .inl rfl)
section
variable {P:Program}
theorem J7(w:World){ops:Array Oper}{rest:List Oper}{o:Oper}{a:Act}{Q:Exit->Act->World->Prop}(hgd:o.guard=none)(s x:Operand)(t:TypeId)
  (ho:o.op=.call {callee:=.builtin .append,args:=#[s,x],argTypes:=#[t,t]})
  (base:Nat) (e:TypeId) (z:Value) (bytes:Nat) (ht:P.underlying t=some (.slice e)) (hinfo:(P.info? e).map (fun i=>(i.zero,i.size,i.bytes))=some (some z,1,bytes))
  (hzs:z.cells.size=1) (W:World) (u:Value) (hw:w=W.alloc (.cells #[u] e)) (hu:u.oneCell'=true) (v:Value) (n:Nat) (xs:List Value) (hs:a.eval s=v) (hx:a.eval x=.slice (W,0) 1 1)
  (hown:W.ownsRow base e 1 v n xs)
  (h63:n+1<=maxLen) (hbytes:(n+1)*bytes<=140737488355328) (hbase:base<=W.heap.size)
  (h:∀v' w',w'.ownsRow base e 1 v' (n+1) (xs++[u])->Below base W w'->wpList P ops Q rest (a.put o.dst v') w'):wpList P ops Q (o::rest) a w:=by
 subst hw;obtain⟨i0,hi,hz0,hz1,hz2⟩:=info_parts hinfo;refine wpList_append_own _ hgd s x t ho base e i0 z 1 bytes ht hi hz0 hz1 hz2 hzs aJ v n xs hs (hown.alloc _) ⟨W.heap.size,0,none⟩ 1 1 [u] hx rfl ?_ ?_ h63 hbytes ?_ ?_
 ·intro j y hj;match j,hj with
  |0,hj=>simp at hj;subst hj;simp[Addr.add,World.cell?_alloc_new]
 ·intro y hy;simp at hy;subst hy;exact hu
 ·have:(W.alloc (.cells #[u] e)).heap.size=W.heap.size+1:=aK;omega
 intro v' w' h1 h2 _;exact h v' w' h1 (((Below.refl base W).alloc hbase _).grown h2 aN (fun k hk=>(hown.lt k hk).1))
theorem Qdp(W:World)(src e dst:TypeId)(hs:P.underlying src=some (.slice e))(he:P.underlying e=some (.int .u8))(hd:P.underlying dst=some .string)
  (g c:Nat) (b:UInt8) (hc:W.cell? (g,0)=some (.int .u8 (b.toNat:Int))):(convert src dst (.slice (g,0) 1 c)).run P W=.ok (.string ⟨[b].toArray⟩) W:=by
 have h:=run_convert_bytes_arg (P:=P) W src e hs he g 0 1 c [(b.toNat:Int)] rfl (fun i hi=>by
  obtain rfl:i=0:=aG;simpa using hc) dst hd
 rw[h];simp[strOfNums]
end
theorem Qd8(W:World)(g c:Nat)(b:UInt8)(hc:W.cell? (g,0)=some (.int .u8 (b.toNat:Int))):
  (convert 22 9 (.slice (g,0) 1 c)).run prog W=.ok (.string ⟨[b].toArray⟩) W:=
 Qdp W 22 5 9 underlying22 underlying5 underlying9 g c b hc
theorem Bs{W w1:World}(hb:Below W.heap.size W w1):(∀b o,b<W.heap.size->w1.cell? ⟨b,o,none⟩=W.cell? ⟨b,o,none⟩)/\(∀b o,b<W.heap.size->w1.frozen? ⟨b,o,none⟩=W.frozen? ⟨b,o,none⟩)/\(∀b,b<W.heap.size->b<w1.heap.size):=
 ⟨fun b o h=>hb.cell (p:=⟨b,o,none⟩) h,fun b o h=>hb.frozen (p:=⟨b,o,none⟩) h,fun _ h=>ac h hb.size⟩
theorem Dt:(prog.info? 9).map (fun i=>(i.zero,i.size,i.bytes))=some (some (.string ⟨#[]⟩),1,16):=aM
theorem Ab:True:=True.intro
theorem Aa{p:Prop}(h:p):Hid p:=h
theorem Ao(n:Nat):n<=n:=Nat.le_refl n
theorem _root_.Go.RowKit.Hid.o{p:Prop}(h:Hid p):p:=h
theorem At(n:Nat)(w:World):Below n w w:=Below.refl n w
theorem Do{a a':Value}(h:a=a'):Ending.returned a=.returned a':=by rw[h]
theorem Qfq{a b a' b':Value}(h1:a=a')(h2:b=b'):Ending.returned (.tuple #[a,b])=.returned (.tuple #[a',b']):=by rw[h1,h2]
theorem Qhj{a b c a' b' c':Value}(h1:a=a')(h2:b=b')(h3:c=c'):Ending.returned (.tuple #[a,b,c])=.returned (.tuple #[a',b',c']):=by rw[h1,h2,h3]
theorem Qhc{k:IntKind}{x y:Int}(h:x=y):Value.int k x=.int k y:=by rw[h]
theorem Qdo{x y:List UInt8}(h:x=y):Value.string ⟨x.toArray⟩=y:=by rw[h]
theorem Cf{x y:Bool}(h:x=y):Value.bool x=.bool y:=by rw[h]
def Fq(n:Nat):UInt8:=UInt8.ofNat n
theorem E5{n:Nat}(h:n<256):(Fq n).toNat=n:=by unfold Fq;exact UInt8.toNat_ofNat_of_lt' h
def Gg(c:UInt8):Bool:=decide (97<=c.toNat) && decide (c.toNat<=122)
def Az(c:UInt8):Bool:=decide (48<=c.toNat) && decide (c.toNat<=57)
def As(s:List UInt8):Bool:=decide (1<=s.length) && decide (s.length<=3) && s.all Gg
theorem Cx{c:UInt8}:Az c=true↔48<=c.toNat/\c.toNat<=57:=by simp[Az]
theorem Kh{c:UInt8}:Gg c=true↔97<=c.toNat/\c.toNat<=122:=by simp[Gg]
theorem Dr{s:List UInt8}:As s=true↔1<=s.length/\s.length<=3/\∀c∈s,Gg c=true:=by
 simp[As,and_assoc]
def Aw(n:Nat):List UInt8:=if h:n<10 then[Fq (48+n)]else Aw (n / 10)++[Fq (48+n % 10)]
termination_by n
decreasing_by omega
theorem Dp{n:Nat}(h:n<10):Aw n=[Fq (48+n)]:=by rw[Aw,dif_pos h]
theorem Kg{n:Nat}(h:¬n<10):Aw n=Aw (n / 10)++[Fq (48+n % 10)]:=by rw[Aw,dif_neg h]
def Et(s:List UInt8):Nat:=s.foldl (fun n c=>10*n+(c.toNat - 48)) 0
theorem Jd(s:List UInt8)(c:UInt8):Et (s++[c])=10*Et s+(c.toNat - 48):=by simp[Et,List.foldl_append]
theorem Qej:Et []=0:=rfl
def Cc(s:List UInt8):Option Nat:=
 if 1<=s.length/\s.length<=6/\s.all Az=true/\(s.head?≠some 48\/s.length=1)then some (Et s)else none
theorem Dz{α:Type}(s:List α):s=[]\/∃t c,s=t++[c]:=by
 rcases s.eq_nil_or_concat with h|⟨t,c,h⟩
 ·exact .inl h
 exact .inr ⟨t,c,by simpa using h⟩
theorem Rg:∀(k:Nat) (s:List UInt8),s.length=k->s.all Az=true->Et s<10 ^ k
 |0,s,h,_=>by
  obtain rfl:=List.eq_nil_of_length_eq_zero h;simp[Et]
 |k+1,s,h,ha=>by
  rcases Dz s with rfl|⟨t,c,rfl⟩
  ·simp at h
  simp at h;simp only[List.all_append,av,List.all_cons,List.all_nil,Bool.and_true]at ha;have ih:=Rg k t h ha.1;have hc:=Cx.1 ha.2;rw[Jd,Nat.pow_succ];omega
theorem Yi:∀(k:Nat) (s:List UInt8),s.length=k->s≠[]->s.all Az=true->s.head?≠some 48->0<Et s
 |0,s,h,hn,_,_=>absurd (List.eq_nil_of_length_eq_zero h) hn
 |k+1,s,h,hn,ha,hh=>by
  rcases Dz s with rfl|⟨t,c,rfl⟩
  ·exact absurd rfl hn
  simp at h;simp only[List.all_append,av,List.all_cons,List.all_nil,Bool.and_true]at ha;have hc:=Cx.1 ha.2;rw[Jd];by_cases ht:t=[]
  ·subst ht;simp at hh;have:c.toNat≠48:=fun e=>hh (UInt8.toNat_inj.1 e);omega
  have hh':t.head?≠some 48:=by
   cases t with
   |nil=>exact absurd rfl ht
   |cons a t=>simpa using hh
  have:=Yi k t h ht ha.1 hh';omega
theorem Ts:∀(k:Nat) (s:List UInt8),s.length=k->s≠[]->s.all Az=true->(s.head?≠some 48\/s.length=1)->Aw (Et s)=s
 |0,s,h,hn,_,_=>absurd (List.eq_nil_of_length_eq_zero h) hn
 |k+1,s,h,hn,ha,hh=>by
  rcases Dz s with rfl|⟨t,c,rfl⟩
  ·exact absurd rfl hn
  simp at h;simp only[List.all_append,av,List.all_cons,List.all_nil,Bool.and_true]at ha;have hc:=Cx.1 ha.2;have hc2:Fq (48+(c.toNat - 48))=c:=by
   apply UInt8.toNat_inj.1;rw[E5 aG];omega
  rw[Jd];by_cases ht:t=[]
  ·subst ht;rw[Qej,Dp aG];simp[hc2]
  have hl:0<t.length:=List.length_pos_iff.2 ht;have hh1:t.head?≠some 48:=by
   cases t with
   |nil=>exact absurd rfl ht
   |cons a t=>rcases hh with hh|hh<;>simp at hh ⊢<;>first|exact hh|omega
  have hp:=Yi t.length t rfl ht ha.1 hh1;have ih:=Ts k t h ht ha.1 (.inl hh1);rw[Kg aG];have e1:(10*Et t+(c.toNat - 48)) / 10=Et t:=aG;have e2:(10*Et t+(c.toNat - 48)) % 10=c.toNat - 48:=aG;rw[e1,e2,ih,hc2]
theorem Jm:∀(k n:Nat),n<=k->Aw n≠[]/\(Aw n).all Az=true/\Et (Aw n)=n/\((Aw n).head?≠some 48\/n=0)/\(n<10->(Aw n).length=1)/\(10<=n->2<=(Aw n).length)
 |0,n,h=>by
  obtain rfl:n=0:=aG;rw[Dp aG];refine⟨by simp,by decide,by decide,.inr rfl,fun _=>rfl,fun h=>by omega⟩
 |k+1,n,h=>by
  by_cases hn:n<10
  ·rw[Dp hn];have e:(Fq (48+n)).toNat=48+n:=E5 aG;refine⟨by simp,by simp[Cx,e];omega,?_,?_,fun _=>rfl,fun h=>by omega⟩
   ·show 10*0+((Fq (48+n)).toNat - 48)=n;omega
   by_cases h0:n=0
   ·exact .inr h0
   refine .inl ?_;intro hh;simp at hh;have:=congrArg UInt8.toNat hh;rw[e]at this;have h48:(48:UInt8).toNat=48:=rfl;omega
  obtain⟨i1,i2,i3,i4,_,_⟩:=Jm k (n / 10) aG;have e:(Fq (48+n % 10)).toNat=48+n % 10:=E5 aG;have hl:0<(Aw (n / 10)).length:=List.length_pos_iff.2 i1;rw[Kg hn];refine⟨by simp,?_,?_,?_,fun h=>absurd h hn,fun _=>by simp;omega⟩
  ·simp only[List.all_append,av,List.all_cons,List.all_nil,Bool.and_true];exact⟨i2,Cx.2 aG⟩
  ·rw[Jd,i3,e];omega
  refine .inl ?_;have e1:(Aw (n / 10)++[Fq (48+n % 10)]).head?=(Aw (n / 10)).head?:=by
   cases hd:Aw (n / 10)with
   |nil=>exact absurd hd i1
   |cons a t=>rfl
  rw[e1];rcases i4 with h|h
  ·exact h
  omega
theorem Pr(n:Nat):Aw n≠[]:=(Jm n n (Nat.le_refl _)).1
theorem Kr(n:Nat):(Aw n).all Az=true:=(Jm n n (Nat.le_refl _)).2.1
theorem Na(n:Nat):Et (Aw n)=n:=(Jm n n (Nat.le_refl _)).2.2.1
theorem Qcl(n:Nat):(Aw n).head?≠some 48\/(Aw n).length=1:=by
 obtain⟨_,_,_,h4,h5,_⟩:=Jm n n (Nat.le_refl _);rcases h4 with h|h
 ·exact .inl h
 exact .inr (h5 aG)
theorem Qdj{m n:Nat}(h:Aw m=Aw n):m=n:=by rw[<-Na m,h,Na]
theorem Dh:∀(k n:Nat),n<10 ^ (k+1)->(Aw n).length<=k+1
 |0,n,h=>by rw[Dp bg];simp
 |k+1,n,h=>by
  by_cases hn:n<10
  ·rw[Dp hn];simp
  rw[Kg hn];have:=Dh k (n / 10) (by rw[Nat.pow_succ]at h;omega);simp;omega
theorem Bt{s:List UInt8}{n:Nat}:Cc s=some n↔n<=999999/\s=Aw n:=by
 unfold Cc;constructor
 ·intro h;split at h
  ·rename_i hc;obtain⟨h1,h2,h3,h4⟩:=hc;injection h with h;have hn:s≠[]:=List.length_pos_iff.1 aG;have hv:=Rg s.length s rfl h3;have hle:10 ^ s.length<=10 ^ 6:=Nat.pow_le_pow_right aG h2;have e6:10 ^ 6=1000000:=rfl;refine⟨by omega,?_⟩;rw[<-h];exact(Ts s.length s rfl hn h3 h4).symm
  cases h
 rintro⟨h1,rfl⟩;have hl:=Dh 5 n eu;have hp:0<(Aw n).length:=List.length_pos_iff.2 (Pr n);rw[if_pos ⟨by omega,by omega,Kr n,Qcl n⟩,Na]
structure Kd where
 signs:List UInt8
 base:List UInt8
 name:List UInt8
deriving DecidableEq
def Bi(c:UInt8):Bool:=c == 91 || c == 63
def Ck(k:Kd):List UInt8:=if k.base=[64]then 64::(k.name++[59])else k.base
def Br(k:Kd):List UInt8:=k.signs++Ck k
def Kd.nil:Kd:=⟨[],[],[]⟩
def Kd.part(k:Kd):Kd:={k with signs:=k.signs.tail}
def V6(k:Kd):Prop:=(k.base=[64]/\As k.name=true)\/((k.base=[110]\/k.base=[116]\/k.base=[102])/\k.name=[])
def C9(k:Kd):Prop:=k.signs.all Bi=true/\V6 k/\(Br k).length<=12
theorem Tz{k:Kd}(h:V6 k):∃c t,Ck k=c::t/\Bi c=false:=by
 unfold Ck;rcases h with⟨h,_⟩|⟨h|h|h,_⟩
 ·rw[if_pos h];exact⟨64,_,rfl,by decide⟩
 ·rw[h,if_neg aJ];exact⟨110,[],rfl,by decide⟩
 ·rw[h,if_neg aJ];exact⟨116,[],rfl,by decide⟩
 rw[h,if_neg aJ];exact⟨102,[],rfl,by decide⟩
theorem El{p:UInt8->Bool}:∀{a b:List UInt8},a.all p=true->(∃c t,b=c::t/\p c=false)->(a++b).takeWhile p=a/\(a++b).dropWhile p=b
 |[],b,_,⟨c,t,e,h⟩=>by subst e;simp[h]
 |x::a,b,ha,hb=>by
  simp only[List.all_cons,av]at ha;have ih:=El ha.2 hb;simp[ha.1,ih.1,ih.2]
theorem Gx{p:UInt8->Bool}:∀(a:List UInt8),(a.takeWhile p).all p=true
 |[]=>rfl
 |x::a=>by
  by_cases h:p x=true
  ·simp[h]
  simp[h]
def Cd(s:List UInt8):Option Kd:=
 if 12<s.length then none
 else if s.dropWhile Bi=[110]\/s.dropWhile Bi=[116]\/s.dropWhile Bi=[102]then some ⟨s.takeWhile Bi,s.dropWhile Bi,[]⟩
 else if (s.dropWhile Bi).head?=some 64/\(s.dropWhile Bi).getLast?=some 59/\As ((s.dropWhile Bi).drop 1).dropLast=true then some ⟨s.takeWhile Bi,[64],((s.dropWhile Bi).drop 1).dropLast⟩
 else none
theorem Qbg{r:List UInt8}(h1:r.head?=some 64)(h2:r.getLast?=some 59):r=64::((r.drop 1).dropLast++[59]):=by
 cases r with
 |nil=>simp at h1
 |cons a t=>
  simp at h1;subst h1;rcases Dz t with rfl|⟨u,c,rfl⟩
  ·simp at h2
  have:c=59:=by
   rw[show (64:UInt8)::(u++[c])=(64::u)++[c]from rfl,List.getLast?_append]at h2;simpa using h2
  subst this;simp
theorem D2{s:List UInt8}{k:Kd}:Cd s=some k↔C9 k/\Br k=s:=by
 have htd:s.takeWhile Bi++s.dropWhile Bi=s:=List.takeWhile_append_dropWhile;constructor
 ·intro h;unfold Cd at h;split at h
  ·cases h
  rename_i h12;split at h
  ·rename_i hb;injection h with h;subst h;have hcore:Ck ⟨s.takeWhile Bi,s.dropWhile Bi,[]⟩=s.dropWhile Bi:=by
    unfold Ck;rw[if_neg];rcases hb with h|h|h<;>· show ¬s.dropWhile Bi=_;rw[h];decide
   have e:Br ⟨s.takeWhile Bi,s.dropWhile Bi,[]⟩=s:=by unfold Br;rw[hcore];exact htd
   exact⟨⟨Gx s,.inr ⟨hb,rfl⟩,by rw[e];omega⟩,e⟩
  split at h
  ·rename_i hb;injection h with h;subst h;have e1:=Qbg hb.1 hb.2.1;have e:Br ⟨s.takeWhile Bi,[64],((s.dropWhile Bi).drop 1).dropLast⟩=s:=by
    unfold Br Ck;rw[if_pos rfl];show s.takeWhile Bi++64::(((s.dropWhile Bi).drop 1).dropLast++[59])=s;rw[<-e1];exact htd
   exact⟨⟨Gx s,.inl ⟨rfl,hb.2.2⟩,by rw[e];omega⟩,e⟩
  cases h
 rintro⟨⟨h1,h2,h3⟩,rfl⟩;obtain⟨e1,e2⟩:=El h1 (Tz h2);unfold Cd;rw[if_neg aG];show (if (k.signs++Ck k).dropWhile Bi=[110]\/_ then _ else _)=_;unfold Br;rw[e1,e2];obtain⟨sg,b,nm⟩:=k;rcases h2 with⟨h,hn⟩|⟨h,hn⟩
 ·simp only at h hn;subst h;unfold Ck;simp only[if_pos];rw[if_neg aK,if_pos]
  ·simp
  refine⟨rfl,?_,by simpa using hn⟩;rw[show (64:UInt8)::(nm++[59])=(64::nm)++[59]from rfl,List.getLast?_append];rfl
 simp only at h hn;subst hn;have hc:Ck ⟨sg,b,[]⟩=b:=by
  unfold Ck;rw[if_neg];rcases h with h|h|h<;>· show ¬b=_;rw[h];decide
 rw[hc,if_pos h]
theorem Pk{k:Kd}(h:C9 k):C9 k.part/\(k.signs≠[]->Br k.part=(Br k).tail/\(Br k.part).length+1=(Br k).length):=by
 obtain⟨h1,h2,h3⟩:=h;obtain⟨sg,b,nm⟩:=k;have hc:∀g,Ck ⟨g,b,nm⟩=Ck ⟨sg,b,nm⟩:=fun g=>rfl;cases sg with
 |nil=>exact⟨⟨h1,h2,h3⟩,fun h=>absurd rfl h⟩
 |cons c t=>
  simp only[List.all_cons,av]at h1;have e:Br (Kd.part ⟨c::t,b,nm⟩)=(Br ⟨c::t,b,nm⟩).tail:=rfl;have el:(Br (Kd.part ⟨c::t,b,nm⟩)).length+1=(Br ⟨c::t,b,nm⟩).length:=rfl;exact⟨⟨h1.2,h2,by omega⟩,fun _=>⟨e,el⟩⟩
def Ae(c:UInt8):List UInt8->List (List UInt8)
 |[]=>[[]]
 |x::s=>if x=c then[]::Ae c s else match Ae c s with
  |p::ps=>(x::p)::ps
  |[]=>[[x]]
def Ap(c:UInt8):List (List UInt8)->List UInt8
 |[]=>[]
 |[p]=>p
 |p::ps=>p++c::Ap c ps
theorem Dn(c:UInt8)(s:List UInt8):Ae c s≠[]:=by
 cases s with
 |nil=>simp[Ae]
 |cons x s=>
  simp only[Ae];split
  ·simp
  split<;>simp
theorem Ce(c:UInt8)(p:List UInt8){ps:List (List UInt8)}(h:ps≠[]):Ap c (p::ps)=p++c::Ap c ps:=by
 cases ps with
 |nil=>exact absurd rfl h
 |cons q ps=>rfl
theorem M3(c:UInt8):∀s:List UInt8,Ap c (Ae c s)=s
 |[]=>rfl
 |x::s=>by
  have ih:=M3 c s;have hn:=Dn c s;simp only[Ae];split
  ·rename_i h;rw[Ce c _ hn,ih,h];rfl
  cases hs:Ae c s with
  |nil=>exact absurd hs hn
  |cons p ps=>
   rw[hs]at ih;cases ps with
   |nil=>simpa [Ap]using ih
   |cons q ps=>
    rw[Ce c _ aK]at ih ⊢;simp[ih]
theorem T2(c:UInt8):∀s:List UInt8,∀p∈Ae c s,c∉p
 |[],p,hp=>by simp[Ae]at hp;simp[hp]
 |x::s,p,hp=>by
  have ih:=T2 c s;simp only[Ae]at hp;split at hp
  ·rcases az.1 hp with rfl|hp
   ·simp
   exact ih p hp
  rename_i hx;cases hs:Ae c s with
  |nil=>exact absurd hs (Dn c s)
  |cons q qs=>
   rw[hs]at hp ih;rcases az.1 hp with rfl|hp
   ·have:=ih q aK;simp;exact⟨fun h=>hx h.symm,this⟩
   exact ih p (by simp[hp])
theorem E9(c:UInt8):∀p:List UInt8,c∉p->Ae c p=[p]
 |[],_=>rfl
 |x::p,h=>by
  simp at h;simp only[Ae];rw[if_neg (fun e=>h.1 e.symm),E9 c p h.2]
theorem Jn(c:UInt8):∀(p s:List UInt8),c∉p->Ae c (p++c::s)=p::Ae c s
 |[],s,_=>by simp[Ae]
 |x::p,s,h=>by
  simp at h;simp only[au,Ae];rw[if_neg (fun e=>h.1 e.symm),Jn c p s h.2]
theorem J0(c:UInt8):∀ps:List (List UInt8),ps≠[]->(∀p∈ps,c∉p)->Ae c (Ap c ps)=ps
 |[],h,_=>absurd rfl h
 |[p],_,h=>E9 c p (h p aK)
 |p::q::ps,_,h=>by
  rw[Ce c p aK,Jn c p _ (h p aK),J0 c (q::ps) aK (fun x hx=>h x (by simp[hx]))]
theorem Df{c:UInt8}{s:List UInt8}{ps:List (List UInt8)}:Ae c s=ps↔ps≠[]/\(∀p∈ps,c∉p)/\Ap c ps=s:=
 ⟨fun h=>by subst h;exact⟨Dn c s,T2 c s,M3 c s⟩,fun⟨h1,h2,h3⟩=>by rw[<-h3];exact J0 c ps h1 h2⟩
theorem Ft(c:UInt8):∀s:List UInt8,(Ae c s).length<=s.length+1
 |[]=>by simp[Ae]
 |x::s=>by
  have ih:=Ft c s;simp only[Ae];split
  ·simp;exact ih
  cases hs:Ae c s with
  |nil=>exact absurd hs (Dn c s)
  |cons p ps=>rw[hs]at ih;simp at ih ⊢;omega
theorem Ai(c:UInt8):∀s:List UInt8,∀p∈Ae c s,p.length<=s.length
 |[],p,h=>by simp[Ae]at h;simp[h]
 |x::s,p,h=>by
  have ih:=Ai c s;simp only[Ae]at h;split at h
  ·rcases az.1 h with rfl|h
   ·simp
   exact Nat.le_succ_of_le (ih p h)
  cases hs:Ae c s with
  |nil=>exact absurd hs (Dn c s)
  |cons q qs=>
   rw[hs]at ih h;rcases az.1 h with rfl|h
   ·have:=ih q aK;simp;exact this
   have:=ih p (by simp[h]);simp;omega
def Co(c:UInt8)(s:List UInt8):List UInt8 × List UInt8 × Bool:=
 if c∈s then(s.takeWhile (· != c),(s.dropWhile (· != c)).tail,true)else(s,[],false)
theorem Nj{c:UInt8}{s:List UInt8}(h:c∉s):Co c s=(s,[],false):=if_neg h
theorem Dq{c:UInt8}{p s:List UInt8}(h:c∉p):Co c (p++c::s)=(p,s,true):=by
 unfold Co;rw[if_pos aK];have h1:p.all (fun x=>x != c)=true:=by
  rw[List.all_eq_true];intro x hx;simp;rintro rfl;exact h hx
 obtain⟨e1,e2⟩:=El (p:=fun x=>x != c) h1 ⟨c,s,rfl,by simp⟩;rw[e1,e2];rfl
theorem Za{c:UInt8}:∀{s:List UInt8},c∈s->∃p t,s=p++c::t/\c∉p
 |x::s,h=>by
  by_cases hx:x=c
  ·exact⟨[],s,by simp[hx],by simp⟩
  obtain⟨p,t,e,hp⟩:=Za (s:=s) (by rcases az.1 h with h|h;exact absurd h.symm hx;exact h);exact⟨x::p,t,by simp[e],by simp;exact⟨fun e=>hx e.symm,hp⟩⟩
theorem Eg(c:UInt8)(s:List UInt8):(c∉s/\Co c s=(s,[],false))\/∃p t,s=p++c::t/\c∉p/\Co c s=(p,t,true):=by
 by_cases h:c∈s
 ·obtain⟨p,t,e,hp⟩:=Za h;exact .inr ⟨p,t,e,hp,by rw[e];exact Dq hp⟩
 exact .inl ⟨h,Nj h⟩
def Bv(c:UInt8):Bool:=Gg c || Az c || c == 32
def C7(s:List UInt8):Bool:=decide (s.length<=12) && s.all Bv
def Bq(b s:List UInt8):Bool:=
 if b=[110]then(match Cc s with|some n=>decide (0<n)|none=>false)
 else if b=[116]then decide (2<s.length) && decide (s.head?=some 39) && decide (s.getLast?=some 39) && C7 (s.drop 1).dropLast
 else if b=[102]then decide (s=[121,101,115])else false
theorem Z6{r:List UInt8}(h:2<r.length)(h1:r.head?=some 39)(h2:r.getLast?=some 39):r=39::((r.drop 1).dropLast++[39]):=by
 cases r with
 |nil=>simp at h1
 |cons a t=>
  simp at h1;subst h1;rcases Dz t with rfl|⟨u,c,rfl⟩
  ·simp at h
  have:c=39:=by
   rw[show (39:UInt8)::(u++[c])=(39::u)++[c]from rfl,List.getLast?_append]at h2;simpa using h2
  subst this;simp
def Fm(c:UInt8):Prop:=c≠10/\c≠44/\c≠58/\c≠61
theorem Vh{c:UInt8}(h:Az c=true):Fm c:=by
 rw[Cx]at h;refine⟨?_,?_,?_,?_⟩<;>(rintro rfl;revert h;decide)
theorem Ve{c:UInt8}(h:Gg c=true):Fm c:=by
 rw[Kh]at h;refine⟨?_,?_,?_,?_⟩<;>(rintro rfl;revert h;decide)
theorem Qcs{c:UInt8}(h:Bv c=true):Fm c:=by
 unfold Bv at h;simp only[Bool.or_eq_true]at h;rcases h with(h|h)|h
 ·exact Ve h
 ·exact Vh h
 have:c=32:=bg;subst this;exact⟨by decide,by decide,by decide,by decide⟩
theorem Qa5{c:UInt8}(h:Bi c=true):Fm c:=by
 unfold Bi at h;simp only[Bool.or_eq_true,beq_iff_eq]at h;rcases h with rfl|rfl<;>exact⟨by decide,by decide,by decide,by decide⟩
theorem D1(n:Nat):∀c∈Aw n,Fm c:=fun c hc=>Vh (List.all_eq_true.1 (Kr n) c hc)
theorem De{s:List UInt8}(h:As s=true):∀c∈s,Fm c:=fun c hc=>Ve ((Dr.1 h).2.2 c hc)
theorem Gi{k:Kd}(h:C9 k):∀c∈Br k,Fm c:=by
 intro c hc;obtain⟨h1,h2,_⟩:=h;unfold Br Ck at hc;rcases af.1 hc with hc|hc
 ·exact Qa5 (List.all_eq_true.1 h1 c hc)
 rcases h2 with⟨h,hn⟩|⟨h,_⟩
 ·rw[if_pos h]at hc;rcases az.1 hc with rfl|hc
  ·exact⟨by decide,by decide,by decide,by decide⟩
  rcases af.1 hc with hc|hc
  ·exact De hn c hc
  simp at hc;subst hc;exact⟨by decide,by decide,by decide,by decide⟩
 rw[if_neg (by rcases h with h|h|h<;>· rw[h];decide)]at hc;rcases h with h|h|h<;>· rw[h]at hc;simp at hc;subst hc;exact⟨by decide,by decide,by decide,by decide⟩
theorem J6{b s:List UInt8}(h:Bq b s=true):s≠[]/\∀c∈s,Fm c:=by
 unfold Bq at h;split at h
 ·cases hd:Cc s with
  |none=>rw[hd]at h;cases h
  |some n=>
   obtain⟨_,e⟩:=Bt.1 hd;subst e;exact⟨Pr n,D1 n⟩
 split at h
 ·simp only[av,decide_eq_true_eq]at h;obtain⟨⟨⟨h1,h2⟩,h3⟩,h4⟩:=h;have e:=Z6 h1 h2 h3;refine⟨by intro hh;rw[hh]at h1;simp at h1,fun c hc=>?_⟩;rw[e]at hc;have q:Fm 39:=⟨by decide,by decide,by decide,by decide⟩
  rcases az.1 hc with rfl|hc
  ·exact q
  rcases af.1 hc with hc|hc
  ·unfold C7 at h4;simp only[av]at h4;exact Qcs (List.all_eq_true.1 h4.2 c hc)
  simp at hc;subst hc;exact q
 split at h
 ·simp only[decide_eq_true_eq]at h;subst h;refine⟨by simp,fun c hc=>?_⟩;simp at hc;rcases hc with rfl|rfl|rfl<;>exact⟨by decide,by decide,by decide,by decide⟩
 cases h
theorem Ma{b s:List UInt8}(h:Bq b s=true):b=[110]\/b=[116]\/b=[102]:=by
 unfold Bq at h;split at h
 ·exact .inl (by assumption)
 split at h
 ·exact .inr (.inl (by assumption))
 split at h
 ·exact .inr (.inr (by assumption))
 cases h
structure Fd where
 tag:Nat
 name:List UInt8
 kind:Kd
 given:List UInt8
deriving DecidableEq
def Jj(st:UInt8)(f:Fd):List UInt8:=if st=69 then[]else 58::(Br f.kind++if f.given=[]then[]else 61::f.given)
def Mq(st:UInt8)(f:Fd):List UInt8:=Aw f.tag++58::(f.name++Jj st f)
def Ra(st:UInt8)(f:Fd):Prop:=
 1<=f.tag/\f.tag<=200/\As f.name=true/\(st=69->f.kind=Kd.nil/\f.given=[]) /\
 (st≠69->C9 f.kind/\(f.given≠[]->st=82/\f.kind.signs=[]/\Bq f.kind.base f.given=true))
theorem Dl{s:List UInt8}(h:∀c∈s,Fm c):10∉s/\44∉s/\58∉s/\61∉s:=
 ⟨fun hc=>(h _ hc).1 rfl,fun hc=>(h _ hc).2.1 rfl,fun hc=>(h _ hc).2.2.1 rfl,fun hc=>(h _ hc).2.2.2 rfl⟩
def H6(p:List (List UInt8)):Option (Nat × List UInt8):=
 match p with
 |[a,b]=>(match Cc a with|some n=>if 1<=n/\n<=200/\As b=true then some (n,b)else none|none=>none)
 |_=>none
def Jx(p:List (List UInt8)):Option (Nat × List UInt8 × List UInt8):=
 match p with
 |[a,b,c]=>(match Cc a with|some n=>if 1<=n/\n<=200/\As b=true then some (n,b,c)else none|none=>none)
 |_=>none
def Fr(st:UInt8)(s:List UInt8):Option Fd:=
 if st=69 then
  match H6 (Ae 58 (Co 61 s).1)with
  |some (n,b)=>if (Co 61 s).2.2=true then none else some ⟨n,b,Kd.nil,(Co 61 s).2.1⟩
  |none=>none
 else
  match Jx (Ae 58 (Co 61 s).1)with
  |some (n,b,c)=>(match Cd c with
   |some k=>if (Co 61 s).2.2=true/\¬(st=82/\k.signs=[]/\Bq k.base (Co 61 s).2.1=true)then none else some ⟨n,b,k,(Co 61 s).2.1⟩
   |none=>none)
  |none=>none
def Bo(st:UInt8)(s:List UInt8):Option Fd:=
 if st=69 then
  match H6 (Ae 58 s)with
  |some (n,b)=>some ⟨n,b,Kd.nil,[]⟩
  |none=>none
 else
  match Jx (Ae 58 s)with
  |some (n,b,c)=>(match Ae 61 c with
   |[k]=>(match Cd k with|some k=>some ⟨n,b,k,[]⟩|none=>none)
   |[k,v]=>if st=82/\Bq k v=true then some ⟨n,b,⟨[],k,[]⟩,v⟩else none
   |_=>none)
  |none=>none
theorem Gv{p:List (List UInt8)}{n:Nat}{b:List UInt8}:H6 p=some (n,b)↔p=[Aw n,b]/\1<=n/\n<=200/\As b=true:=by
 unfold H6;constructor
 ·intro h;split at h
  ·rename_i a b';cases hd:Cc a with
   |none=>rw[hd]at h;cases h
   |some m=>
    rw[hd]at h;simp only at h;split at h
    ·rename_i hc;simp at h;obtain⟨rfl,rfl⟩:=h;rw[(Bt.1 hd).2];exact⟨rfl,hc⟩
    cases h
  cases h
 rintro⟨rfl,h⟩;have e:=Bt.2 ⟨(by omega:n<=999999),(rfl:Aw n=Aw n)⟩;simp only[e,if_pos h]
theorem E8{p:List (List UInt8)}{n:Nat}{b c:List UInt8}:Jx p=some (n,b,c)↔p=[Aw n,b,c]/\1<=n/\n<=200/\As b=true:=by
 unfold Jx;constructor
 ·intro h;split at h
  ·rename_i a b' c';cases hd:Cc a with
   |none=>rw[hd]at h;cases h
   |some m=>
    rw[hd]at h;simp only at h;split at h
    ·rename_i hc;simp at h;obtain⟨rfl,rfl,rfl⟩:=h;rw[(Bt.1 hd).2];exact⟨rfl,hc⟩
    cases h
  cases h
 rintro⟨rfl,h⟩;have e:=Bt.2 ⟨(by omega:n<=999999),(rfl:Aw n=Aw n)⟩;simp only[e,if_pos h]
theorem M6{k:List UInt8}(h:k=[110]\/k=[116]\/k=[102]):C9 ⟨[],k,[]⟩/\Br ⟨[],k,[]⟩=k:=by
 rcases h with rfl|rfl|rfl<;>exact⟨⟨rfl,.inr ⟨by simp,rfl⟩,by decide⟩,by decide⟩
theorem E3{st:UInt8}{s:List UInt8}{f:Fd}:Bo st s=some f↔Ra st f/\Mq st f=s:=by
 obtain⟨tg,nm,k,gv⟩:=f;unfold Bo;by_cases hst:st=69
 ·rw[if_pos hst];constructor
  ·intro h;cases hp:H6 (Ae 58 s)with
   |none=>rw[hp]at h;cases h
   |some x=>
    obtain⟨n,b⟩:=x;rw[hp]at h;simp at h;obtain⟨rfl,rfl,rfl,rfl⟩:=h;obtain⟨e,h1,h2,h3⟩:=Gv.1 hp;obtain⟨_,_,e2⟩:=Df.1 e;exact⟨⟨h1,h2,h3,fun _=>⟨rfl,rfl⟩,fun h=>absurd hst h⟩,by rw[<-e2];simp[Mq,Jj,hst,Ap]⟩
  rintro⟨⟨h1,h2,h3,h4,_⟩,rfl⟩;obtain⟨e1,e2⟩:=h4 hst;simp only at h1 h2 h3 e1 e2;subst e1;subst e2
  have hs:Ae 58 (Mq st ⟨tg,nm,Kd.nil,[]⟩)=[Aw tg,nm]:=Df.2 ⟨by simp,by
   intro p hp;simp at hp;rcases hp with rfl|rfl
   ·exact gC
   exact(Dl (De h3)).2.2.1,by simp[Mq,Jj,hst,Ap]⟩
  rw[hs,Gv.2 ⟨rfl,h1,h2,h3⟩]
 rw[if_neg hst];constructor
 ·intro h;cases hp:Jx (Ae 58 s)with
  |none=>rw[hp]at h;cases h
  |some x=>
   obtain⟨n,b,c⟩:=x;rw[hp]at h;simp only at h;obtain⟨e,h1,h2,h3⟩:=E8.1 hp;obtain⟨_,_,e2⟩:=Df.1 e;split at h
   ·rename_i k' hk;obtain⟨_,_,e3⟩:=Df.1 hk;simp[Ap]at e3;subst e3;cases hkl:Cd k' with
    |none=>rw[hkl]at h;cases h
    |some kk=>
     rw[hkl]at h;simp at h;obtain⟨rfl,rfl,rfl,rfl⟩:=h;obtain⟨hk1,hk2⟩:=D2.1 hkl;exact⟨⟨h1,h2,h3,fun h=>absurd h hst,fun _=>⟨hk1,fun h=>absurd rfl h⟩⟩,by rw[<-e2];simp[Mq,Jj,hst,Ap,hk2]⟩
   ·rename_i k' v hk;split at h
    ·rename_i hc;simp at h;obtain⟨rfl,rfl,rfl,rfl⟩:=h;obtain⟨_,_,e3⟩:=Df.1 hk;obtain⟨hn,_⟩:=J6 hc.2;obtain⟨o1,o2⟩:=M6 (Ma hc.2);refine⟨⟨h1,h2,h3,fun h=>absurd h hst,fun _=>⟨o1,fun _=>⟨hc.1,rfl,hc.2⟩⟩⟩,?_⟩;rw[<-e2,<-e3];simp[Mq,Jj,hst,Ap,o2,hn]
    cases h
   cases h
 rintro⟨⟨h1,h2,h3,_,h4⟩,rfl⟩;obtain⟨hk,hg⟩:=h4 hst;simp only at h1 h2 h3 hk hg;by_cases hgv:gv=[]
 ·subst hgv
  have hs:Ae 58 (Mq st ⟨tg,nm,k,[]⟩)=[Aw tg,nm,Br k]:=Df.2 ⟨by simp,by
   intro p hp;simp at hp;rcases hp with rfl|rfl|rfl
   ·exact gC
   ·exact(Dl (De h3)).2.2.1
   exact(Dl (Gi hk)).2.2.1,by simp[Mq,Jj,hst,Ap]⟩
  rw[hs,E8.2 ⟨rfl,h1,h2,h3⟩];simp only;rw[E9 61 (Br k) (Dl (Gi hk)).2.2.2];simp only;rw[D2.2 ⟨hk,rfl⟩]
 obtain⟨g1,g2,g3⟩:=hg hgv;obtain⟨_,hp⟩:=J6 g3;have hb:=Ma g3;obtain⟨o1,o2⟩:=M6 hb;have ek:k=⟨[],k.base,[]⟩:=by
  obtain⟨sg,b,nm'⟩:=k;simp only at g2 hb;subst g2;obtain⟨_,hbo,_⟩:=hk;rcases hbo with⟨h,_⟩|⟨_,h⟩
  ·exfalso
   simp only at h;rcases hb with hb|hb|hb<;>· rw[h]at hb;revert hb;decide
  simp only at h;rw[h]
 have eB:Br k=k.base:=by rw[ek];exact o2
 have nb:∀c∈Br k,Fm c:=Gi hk
 have hs:Ae 58 (Mq st ⟨tg,nm,k,gv⟩)=[Aw tg,nm,Br k++61::gv]:=Df.2 ⟨by simp,by
  intro p hp';simp at hp';rcases hp' with rfl|rfl|rfl
  ·exact gC
  ·exact(Dl (De h3)).2.2.1
  intro hc;rcases af.1 hc with hc|hc
  ·exact(Dl nb).2.2.1 hc
  rcases az.1 hc with hc|hc
  ·revert hc;decide
  exact(Dl hp).2.2.1 hc,by simp[Mq,Jj,hst,Ap,hgv]⟩
 rw[hs,E8.2 ⟨rfl,h1,h2,h3⟩];simp only;rw[Jn 61 (Br k) gv (Dl nb).2.2.2,E9 61 gv (Dl hp).2.2.2];simp only;rw[eB,if_pos ⟨g1,g3⟩,<-ek]
theorem Qx{st:UInt8}{s:List UInt8}{f:Fd}:Fr st s=some f↔Ra st f/\Mq st f=s:=by
 obtain⟨tg,nm,k,gv⟩:=f;constructor
 ·intro h;unfold Fr at h;by_cases hst:st=69
  ·rw[if_pos hst]at h;cases hp:H6 (Ae 58 (Co 61 s).1)with
   |none=>rw[hp]at h;cases h
   |some x=>
    obtain⟨n,b⟩:=x;rw[hp]at h;simp only at h;obtain⟨e,h1,h2,h3⟩:=Gv.1 hp;obtain⟨_,_,e2⟩:=Df.1 e;rcases Eg 61 s with⟨hn,hc⟩|⟨p,t,_,_,hc⟩
    ·rw[hc]at h e2;simp at h;obtain⟨rfl,rfl,rfl,rfl⟩:=h;exact⟨⟨h1,h2,h3,fun _=>⟨rfl,rfl⟩,fun h=>absurd hst h⟩,by simp only at e2;rw[<-e2];simp[Mq,Jj,hst,Ap]⟩
    rw[hc]at h;simp at h
  rw[if_neg hst]at h;cases hp:Jx (Ae 58 (Co 61 s).1)with
  |none=>rw[hp]at h;cases h
  |some x=>
   obtain⟨n,b,c⟩:=x;rw[hp]at h;simp only at h;obtain⟨e,h1,h2,h3⟩:=E8.1 hp;obtain⟨_,_,e2⟩:=Df.1 e;cases hkl:Cd c with
   |none=>rw[hkl]at h;cases h
   |some kk=>
    obtain⟨hk1,hk2⟩:=D2.1 hkl;rw[hkl]at h;simp only at h;rcases Eg 61 s with⟨hn,hc⟩|⟨p,t,ec,_,hc⟩
    ·rw[hc]at h e2;simp at h;obtain⟨rfl,rfl,rfl,rfl⟩:=h;exact⟨⟨h1,h2,h3,fun h=>absurd h hst,fun _=>⟨hk1,fun h=>absurd rfl h⟩⟩,by simp only at e2;rw[<-e2];simp[Mq,Jj,hst,Ap,hk2]⟩
    rw[hc]at h e2;simp only at h e2;split at h
    ·cases h
    rename_i hcc;have hcc':st=82/\kk.signs=[]/\Bq kk.base t=true:=Decidable.byContradiction fun hh=>hcc ⟨trivial,hh⟩;simp at h;obtain⟨rfl,rfl,rfl,rfl⟩:=h;obtain⟨hn,_⟩:=J6 hcc'.2.2;exact⟨⟨h1,h2,h3,fun h=>absurd h hst,fun _=>⟨hk1,fun _=>hcc'⟩⟩,by rw[ec,<-e2];simp[Mq,Jj,hst,Ap,hk2,hn]⟩
 intro h;have hS:=E3.2 h;obtain⟨⟨h1,h2,h3,h4,h5⟩,rfl⟩:=h;simp only at h1 h2 h3 h4 h5;unfold Fr;by_cases hst:st=69
 ·obtain⟨e1,e2⟩:=h4 hst;subst e1;subst e2;have hno:61∉Mq st ⟨tg,nm,Kd.nil,[]⟩:=by
   simp[Mq,Jj,hst];exact⟨(Dl (D1 tg)).2.2.2,(Dl (De h3)).2.2.2⟩
  rw[if_pos hst,Nj hno];simp only
  have hs:Ae 58 (Mq st ⟨tg,nm,Kd.nil,[]⟩)=[Aw tg,nm]:=Df.2 ⟨by simp,by
   intro p hp;simp at hp;rcases hp with rfl|rfl
   ·exact gC
   exact(Dl (De h3)).2.2.1,by simp[Mq,Jj,hst,Ap]⟩
  rw[hs,Gv.2 ⟨rfl,h1,h2,h3⟩];simp
 obtain⟨hk,hg⟩:=h5 hst;have nb:∀c∈Br k,Fm c:=Gi hk;have hno:61∉Aw tg++58::(nm++58::Br k):=by
  simp;exact⟨(Dl (D1 tg)).2.2.2,(Dl (De h3)).2.2.2,(Dl nb).2.2.2⟩
 have hs:Ae 58 (Aw tg++58::(nm++58::Br k))=[Aw tg,nm,Br k]:=Df.2 ⟨by simp,by
  intro p hp;simp at hp;rcases hp with rfl|rfl|rfl
  ·exact gC
  ·exact(Dl (De h3)).2.2.1
  exact(Dl nb).2.2.1,by simp[Ap]⟩
 rw[if_neg hst];by_cases hgv:gv=[]
 ·subst hgv;have e:Mq st ⟨tg,nm,k,[]⟩=Aw tg++58::(nm++58::Br k):=by simp[Mq,Jj,hst]
  rw[e,Nj hno];simp only;rw[hs,E8.2 ⟨rfl,h1,h2,h3⟩];simp only;rw[D2.2 ⟨hk,rfl⟩];simp
 have e:Mq st ⟨tg,nm,k,gv⟩=(Aw tg++58::(nm++58::Br k))++61::gv:=by simp[Mq,Jj,hst,hgv]
 rw[e,Dq hno];simp only;rw[hs,E8.2 ⟨rfl,h1,h2,h3⟩];simp only;rw[D2.2 ⟨hk,rfl⟩];simp only;rw[if_neg (fun hh=>hh.2 (hg hgv))]
theorem Qb1(st:UInt8)(s:List UInt8):Fr st s=Bo st s:=by
 cases h:Bo st s with
 |some f=>exact Qx.2 (E3.1 h)
 |none=>
  cases h2:Fr st s with
  |none=>rfl
  |some f=>rw[E3.2 (Qx.1 h2)]at h;cases h
theorem Qe{st:UInt8}{f:Fd}(h:Ra st f):10∉Mq st f/\44∉Mq st f/\Mq st f≠[]:=by
 obtain⟨h1,h2,h3,h4,h5⟩:=h;have hd:=Pr f.tag;refine⟨?_,?_,by unfold Mq;simp⟩;all_goals
  unfold Mq Jj;simp only[af,az,not_or];refine⟨?_,by decide,?_,?_⟩
  ·first|exact(Dl (D1 f.tag)).1|exact(Dl (D1 f.tag)).2.1
  ·first|exact(Dl (De h3)).1|exact(Dl (De h3)).2.1
  ·by_cases hst:st=69
   ·rw[if_pos hst];simp
   rw[if_neg hst];obtain⟨hk,hg⟩:=h5 hst;simp only[af,az,not_or];refine⟨by decide,?_,?_⟩
   ·first|exact(Dl (Gi hk)).1|exact(Dl (Gi hk)).2.1
   by_cases hgv:f.given=[]
   ·rw[if_pos hgv];simp
   rw[if_neg hgv];have hp:=(J6 (hg hgv).2.2).2;simp only[az,not_or];refine⟨by decide,?_⟩;first|exact(Dl hp).1|exact(Dl hp).2.1
theorem Qbf{st:UInt8}{f g:Fd}(hf:Ra st f)(hg:Ra st g)(h:Mq st f=Mq st g):f=g:=by
 have h1:=E3.2 ⟨hf,rfl⟩;have h2:=E3.2 ⟨hg,h.symm⟩;rw[h1]at h2;injection h2
structure Ty where
 sort:UInt8
 name:List UInt8
 fields:List Fd
deriving DecidableEq
def E4(fs:List Fd)(f:Fd):Bool:=fs.all fun g=>decide (g.name≠f.name) && decide (g.tag<f.tag)
def Eh(st:UInt8):List (List UInt8)->List Fd->Option (List Fd)
 |[],acc=>some acc
 |p::ps,acc=>match Fr st p with
  |none=>none
  |some f=>if acc.length=8\/E4 acc f=false then none else Eh st ps (acc++[f])
def C0(st:UInt8):List (List UInt8)->List Fd->Option (List Fd)
 |[],acc=>some acc
 |p::ps,acc=>match Bo st p with
  |none=>none
  |some f=>if E4 acc f=false then none else C0 st ps (acc++[f])
def Fds(st:UInt8)(fs:List Fd):Prop:=(∀f∈fs,Ra st f)/\fs.Pairwise fun g f=>g.name≠f.name/\g.tag<f.tag
theorem Jp{fs:List Fd}{f:Fd}:E4 fs f=true↔∀g∈fs,g.name≠f.name/\g.tag<f.tag:=by simp[E4]
theorem Yl{st:UInt8}{fs:List Fd}{f:Fd}:Fds st (fs++[f])↔Fds st fs/\Ra st f/\E4 fs f=true:=by
 unfold Fds;rw[Jp,List.pairwise_append];constructor
 ·rintro⟨h1,h2,_,h3⟩;exact⟨⟨fun g hg=>h1 g (by simp[hg]),h2⟩,h1 f aK,fun g hg=>h3 g hg f aK⟩
 rintro⟨⟨h1,h2⟩,h3,h4⟩;refine⟨fun g hg=>?_,h2,by simp,fun g hg f' hf'=>?_⟩
 ·rcases af.1 hg with hg|hg
  ·exact h1 g hg
  simp at hg;subst hg;exact h3
 simp at hf';subst hf';exact h4 g hg
theorem Mb(st:UInt8):∀(ps:List (List UInt8)) (acc r:List Fd),Fds st acc->(C0 st ps acc=some r↔Fds st r/\∃gs,r=acc++gs/\gs.map (Mq st)=ps)
 |[],acc,r,ha=>by
  simp only[C0,aj];constructor
  ·rintro rfl;exact⟨ha,[],by simp,rfl⟩
  rintro⟨_,gs,e,h⟩;have:gs=[]:=bg;subst this;simpa using e.symm
 |p::ps,acc,r,ha=>by
  simp only[C0];cases hf:Bo st p with
  |none=>
   simp only[reduceCtorEq,false_iff];rintro⟨hr,gs,rfl,h⟩;cases gs with
   |nil=>simp at h
   |cons g gs=>
    simp at h;have:=E3.2 ⟨hr.1 g aK,h.1⟩;rw[this]at hf;cases hf
  |some f=>
   obtain⟨ok,eb⟩:=E3.1 hf;simp only;by_cases hfit:E4 acc f=false
   ·rw[if_pos hfit];simp only[reduceCtorEq,false_iff];rintro⟨hr,gs,rfl,h⟩;cases gs with
    |nil=>simp at h
    |cons g gs=>
     simp at h;have hg:g=f:=Qbf (hr.1 g aK) ok (h.1.trans eb.symm);subst hg;have h2:Fds st (acc++[g]++gs):=dA;have h3:Fds st (acc++[g]):=⟨fun x hx=>h2.1 x (by simp at hx ⊢;rcases hx with hx|hx<;>simp[hx]),(List.pairwise_append.1 h2.2).1⟩
     rw[(Yl.1 h3).2.2]at hfit;cases hfit
   rw[if_neg hfit];have hfit':E4 acc f=true:=by simpa using hfit
   rw[Mb st ps (acc++[f]) r (Yl.2 ⟨ha,ok,hfit'⟩)];constructor
   ·rintro⟨hr,gs,rfl,h⟩;exact⟨hr,f::gs,by simp,by simp[eb,h]⟩
   rintro⟨hr,gs,rfl,h⟩;cases gs with
   |nil=>simp at h
   |cons g gs=>
    simp at h;have hg:g=f:=Qbf (hr.1 g aK) ok (h.1.trans eb.symm);subst hg;exact⟨hr,gs,by simp,h.2⟩
theorem Ny(st:UInt8):∀(ps:List (List UInt8)) (acc:List Fd),acc.length<=8->Eh st ps acc=(match C0 st ps acc with|some r=>if r.length<=8 then some r else none|none=>none)
 |[],acc,h=>by simp[Eh,C0,h]
 |p::ps,acc,h=>by
  simp only[Eh,C0,Qb1];cases hf:Bo st p with
  |none=>rfl
  |some f=>
   simp only;by_cases hfit:E4 acc f=false
   ·rw[if_pos (.inr hfit),if_pos hfit]
   rw[if_neg hfit];by_cases h8:acc.length=8
   ·rw[if_pos (.inl h8)];have key:∀(ps:List (List UInt8)) (a r:List Fd),C0 st ps a=some r->a.length<=r.length:=by
     intro ps;induction ps with
     |nil=>intro a r h;simp[C0]at h;rw[h];exact Nat.le_refl _
     |cons q qs ih=>
      intro a r h;simp only[C0]at h;split at h
      ·cases h
      split at h
      ·cases h
      have:=ih _ _ h;simp at this;omega
    cases hr:C0 st ps (acc++[f])with
    |none=>rfl
    |some r=>
     have:=key _ _ _ hr;simp at this;simp only;rw[if_neg aG]
   rw[if_neg (by simp[h8,hfit])];exact Ny st ps (acc++[f]) aN
def Dd(c:UInt8):Prop:=c=82\/c=85\/c=69
instance (c:UInt8):Decidable (Dd c):=by unfold Dd;infer_instance
def D5(t:Ty):Prop:=Dd t.sort/\As t.name=true/\Fds t.sort t.fields/\t.fields.length<=8/\(t.fields=[]->t.sort=82)
def Va(t:Ty):List UInt8:=t.sort::(t.name++61::Ap 44 (t.fields.map (Mq t.sort)))
def Dv(s:List UInt8):Option Ty:=
 match s with
 |[]=>none
 |c::r=>
  if ¬Dd c\/(Co 61 r).2.2=false\/As (Co 61 r).1=false then none
  else if (Co 61 r).2.1=[]then(if c=82 then some ⟨c,(Co 61 r).1,[]⟩else none)
  else match Eh c (Ae 44 (Co 61 r).2.1) []with
   |some fs=>some ⟨c,(Co 61 r).1,fs⟩
   |none=>none
theorem Qd3{c:UInt8}{ps:List (List UInt8)}(h:ps≠[])(h1:∀p∈ps,p≠[]):Ap c ps≠[]:=by
 cases ps with
 |nil=>exact absurd rfl h
 |cons p ps=>
  have:=h1 p aK;cases ps with
  |nil=>exact this
  |cons q ps=>rw[Ce c p aK];simp
theorem Xm(st:UInt8):Fds st []:=⟨by simp,List.Pairwise.nil⟩
theorem Pg{st:UInt8}{ps:List (List UInt8)}{r:List Fd}:Eh st ps []=some r↔Fds st r/\r.length<=8/\r.map (Mq st)=ps:=by
 rw[Ny st ps [] aK];constructor
 ·intro h;cases hs:C0 st ps []with
  |none=>rw[hs]at h;cases h
  |some x=>
   rw[hs]at h;simp only at h;split at h
   ·rename_i h8;injection h with h;subst h;obtain⟨h1,gs,e,h2⟩:=(Mb st ps [] x (Xm st)).1 hs;simp at e;subst e;exact⟨h1,h8,h2⟩
   cases h
 rintro⟨h1,h2,h3⟩;rw[(Mb st ps [] r (Xm st)).2 ⟨h1,r,by simp,h3⟩];simp[h2]
theorem Qci{c:UInt8}(h:Dd c):c≠61/\c≠10:=by
 rcases h with rfl|rfl|rfl<;>exact⟨by decide,by decide⟩
theorem Ef{s:List UInt8}{t:Ty}:Dv s=some t↔D5 t/\Va t=s:=by
 obtain⟨st,nm,fs⟩:=t;constructor
 ·intro h;unfold Dv at h;split at h
  ·cases h
  rename_i c r;split at h
  ·cases h
  rename_i hc;have hc1:Dd c:=Decidable.byContradiction fun hh=>hc (.inl hh);have hc2:(Co 61 r).2.2=true:=by
   cases hb:(Co 61 r).2.2 with
   |true=>rfl
   |false=>exact absurd (.inr (.inl hb)) hc
  have hc3:As (Co 61 r).1=true:=by
   cases hb:As (Co 61 r).1 with
   |true=>rfl
   |false=>exact absurd (.inr (.inr hb)) hc
  rcases Eg 61 r with⟨_,e⟩|⟨p,u,er,hp,e⟩
  ·rw[e]at hc2;cases hc2
  rw[e]at h hc3;simp only at h hc3;split at h
  ·rename_i hu;subst hu;split at h
   ·rename_i h82;injection h with h;injection h with e1 e2 e3;subst e1;subst e2;subst e3;exact⟨⟨hc1,hc3,Xm _,by simp,fun _=>h82⟩,by rw[er];simp[Va,Ap]⟩
   cases h
  rename_i hu;cases hf:Eh c (Ae 44 u) []with
  |none=>rw[hf]at h;cases h
  |some x=>
   rw[hf]at h;injection h with h;injection h with e1 e2 e3;subst e1;subst e2;subst e3;obtain⟨f1,f2,f3⟩:=Pg.1 hf;obtain⟨s1,_,s3⟩:=Df.1 f3.symm;exact⟨⟨hc1,hc3,f1,f2,fun hh=>by simp only at hh;subst hh;exact absurd rfl s1⟩,by rw[er];simp only[Va];rw[s3]⟩
 rintro⟨⟨h1,h2,h3,h4,h5⟩,rfl⟩;simp only at h1 h2 h3 h4 h5;have hno:61∉nm:=(Dl (De h2)).2.2.2;unfold Dv Va;simp only;rw[Dq hno];simp only;rw[if_neg (by simp[h1,h2])];by_cases hf:fs=[]
 ·subst hf;rw[h5 rfl];simp[Ap]
 have hn:Ap 44 (fs.map (Mq st))≠[]:=Qd3 (by simpa using hf) (by
  intro p hp;obtain⟨f,hf',rfl⟩:=aw.1 hp;exact(Qe (h3.1 f hf')).2.2)
 have hs:Ae 44 (Ap 44 (fs.map (Mq st)))=fs.map (Mq st):=J0 44 _ (by simpa using hf) (by
  intro p hp;obtain⟨f,hf',rfl⟩:=aw.1 hp;exact(Qe (h3.1 f hf')).2.1)
 rw[if_neg hn,hs,Pg.2 ⟨h3,h4,rfl⟩]
theorem T8{t:Ty}(h:D5 t):10∉Va t/\Va t≠[]:=by
 refine⟨?_,by unfold Va;simp⟩;obtain⟨h1,h2,h3,_,_⟩:=h;unfold Va;simp only[af,az,not_or];refine⟨fun e=>(Qci h1).2 e.symm,(Dl (De h2)).1,by decide,?_⟩;have key:∀ps:List (List UInt8),(∀p∈ps,(10:UInt8)∉p)->(10:UInt8)∉Ap 44 ps:=by
  intro ps;induction ps with
  |nil=>intro _;simp[Ap]
  |cons p ps ih=>
   intro hp;cases ps with
   |nil=>exact hp p aK
   |cons q ps=>
    rw[Ce 44 p aK];simp only[af,az,not_or];refine⟨hp p aK,by decide,ih (fun x hx=>hp x (by simp[hx]))⟩
 apply key;intro p hp;obtain⟨f,hf',rfl⟩:=aw.1 hp;exact(Qe (h3.1 f hf')).1
theorem Vm{t u:Ty}(ht:D5 t)(hu:D5 u)(h:Va t=Va u):t=u:=by
 have h1:=Ef.2 ⟨ht,rfl⟩;have h2:=Ef.2 ⟨hu,h.symm⟩;rw[h1]at h2;injection h2
def scB(S:List Ty):List UInt8:=S.flatMap fun t=>Va t++[10]
def J8(S:List Ty):Prop:=(∀t∈S,D5 t)/\S.length<=8/\S.Pairwise fun t u=>t.name≠u.name
def Em:Nat->List UInt8->List Ty->Option (List Ty)
 |0,_,_=>none
 |n+1,s,acc=>
  if s=[]then some acc
  else if (Co 10 s).2.2=false\/acc.length=8 then none
  else match Dv (Co 10 s).1 with
   |none=>none
   |some t=>if acc.any (fun u=>decide (u.name=t.name))=true then none else Em n (Co 10 s).2.1 (acc++[t])
theorem Xi{S:List Ty}{t:Ty}:J8 (S++[t])↔J8 S/\D5 t/\S.length<8/\S.any (fun u=>decide (u.name=t.name))=false:=by
 unfold J8;rw[List.pairwise_append];constructor
 ·rintro⟨h1,h2,h3,_,h4⟩;simp at h2;refine⟨⟨fun u hu=>h1 u (by simp[hu]),by omega,h3⟩,h1 t aK,by omega,?_⟩;simp;intro u hu;exact h4 u hu t aK
 rintro⟨⟨h1,h2,h3⟩,h4,h5,h6⟩;simp at h6;refine⟨fun u hu=>?_,by simp;omega,h3,by simp,fun u hu v hv=>?_⟩
 ·rcases af.1 hu with hu|hu
  ·exact h1 u hu
  simp at hu;subst hu;exact h4
 simp at hv;subst hv;exact h6 u hu
theorem Mz(t:Ty)(S:List Ty):scB (t::S)=Va t++10::scB S:=by simp[scB]
theorem Qo:∀(n:Nat) (s:List UInt8) (acc r:List Ty),s.length<n->J8 acc->(Em n s acc=some r↔J8 r/\∃U,r=acc++U/\scB U=s)
 |0,s,acc,r,h,_=>absurd h (Nat.not_lt_zero _)
 |n+1,s,acc,r,h,ha=>by
  simp only[Em];by_cases hs:s=[]
  ·subst hs;rw[if_pos rfl];constructor
   ·intro hh;injection hh with hh;subst hh;exact⟨ha,[],by simp,rfl⟩
   rintro⟨_,U,rfl,e⟩;cases U with
   |nil=>simp
   |cons t U=>rw[Mz]at e;simp at e
  rw[if_neg hs];rcases Eg 10 s with⟨hn,e⟩|⟨p,u,es,hp,e⟩
  ·rw[e,if_pos (.inl rfl)];simp only[reduceCtorEq,false_iff];rintro⟨_,U,rfl,eU⟩;cases U with
   |nil=>exact hs eU.symm
   |cons t U=>rw[Mz]at eU;rw[<-eU]at hn;simp at hn
  rw[e];simp only;by_cases h8:acc.length=8
  ·rw[if_pos (.inr h8)];simp only[reduceCtorEq,false_iff];rintro⟨hr,U,rfl,eU⟩;cases U with
   |nil=>exact hs eU.symm
   |cons t U=>have:=hr.2.1;simp at this;omega
  rw[if_neg (by simp[h8])];have hsplit:∀t U,D5 t->scB (t::U)=s->Va t=p/\scB U=u:=by
   intro t U ht eU;rw[Mz,es]at eU;have h1:=Dq (s:=scB U) (T8 ht).1;rw[eU,Dq hp]at h1;injection h1 with e1 e2;injection e2 with e2 _;exact⟨e1.symm,e2.symm⟩
  cases ht:Dv p with
  |none=>
   simp only[reduceCtorEq,false_iff];rintro⟨hr,U,rfl,eU⟩;cases U with
   |nil=>exact hs eU.symm
   |cons t U=>
    have ok:D5 t:=hr.1 t aK;rw[Ef.2 ⟨ok,(hsplit t U ok eU).1⟩]at ht;cases ht
  |some t=>
   obtain⟨ok,eb⟩:=Ef.1 ht;simp only;by_cases hd:acc.any (fun u=>decide (u.name=t.name))=true
   ·rw[if_pos hd];simp only[reduceCtorEq,false_iff];rintro⟨hr,U,rfl,eU⟩;cases U with
    |nil=>exact hs eU.symm
    |cons t' U=>
     have ok':D5 t':=hr.1 t' aK;have ett:t'=t:=Vm ok' ok ((hsplit t' U ok' eU).1.trans eb.symm);subst ett;simp at hd;obtain⟨v,hv,hvn⟩:=hd;exact(List.pairwise_append.1 hr.2.2).2.2 v hv t' aK hvn
   rw[if_neg hd];have hlen:u.length<n:=by rw[es]at h;simp at h;omega
   rw[Qo n u (acc++[t]) r hlen (Xi.2 ⟨ha,ok,by have:=ha.2.1;omega,by simpa using hd⟩)];constructor
   ·rintro⟨hr,U,rfl,eU⟩;exact⟨hr,t::U,by simp,by rw[Mz,eb,eU,es]⟩
   rintro⟨hr,U,rfl,eU⟩;cases U with
   |nil=>exact absurd eU.symm hs
   |cons t' U=>
    have ok':D5 t':=hr.1 t' aK;obtain⟨e1,e2⟩:=hsplit t' U ok' eU;have ett:t'=t:=Vm ok' ok (e1.trans eb.symm);subst ett;exact⟨hr,U,by simp,e2⟩
def Cu(s:List UInt8):Option Ty:=
 match Co 61 s with
 |(c::nm,u,true)=>
  if ¬As nm=true\/¬Dd c then none
  else if u=[]then(if c=82 then some ⟨c,nm,[]⟩else none)
  else match C0 c (Ae 44 u) []with
   |some r=>if r.length<=8 then some ⟨c,nm,r⟩else none
   |none=>none
 |_=>none
theorem X9(s:List UInt8):Cu s=Dv s:=by
 cases s with
 |nil=>rfl
 |cons c r=>
  unfold Cu Dv;by_cases hc:c=61
  ·subst hc;have e:Co 61 (61::r)=([],r,true):=Dq (p:=[]) aK;rw[e];simp only;rw[if_pos (.inl aJ)]
  rcases Eg 61 r with⟨hn,e⟩|⟨p,u,er,hp,e⟩
  ·have e2:Co 61 (c::r)=(c::r,[],false):=Nj (by simp;exact⟨fun h=>hc h.symm,hn⟩);rw[e2];simp[e]
  have e2:Co 61 (c::r)=(c::p,u,true):=by
   rw[er];exact Dq (p:=c::p) (by simp;exact⟨fun h=>hc h.symm,hp⟩)
  rw[e2];simp only[e];by_cases h1:As p=true
  ·by_cases h2:Dd c
   ·by_cases hu:u=[]
    ·subst hu;simp[h1,h2]
    have hx:∀(a b:Option Ty),(if ¬As p=true\/¬Dd c then a else b)=b:=fun a b=>if_neg (by simp[h1,h2]);have hy:∀(a b:Option Ty),(if ¬Dd c\/true=false\/As p=false then a else b)=b:=fun a b=>if_neg (by simp[h1,h2]);have hz:∀(a b:Option Ty),(if u=[]then a else b)=b:=fun a b=>if_neg hu;rw[hx,hy,hz,hz,Ny c _ [] aK];cases C0 c (Ae 44 u) []with
    |none=>rfl
    |some r=>simp only;split<;>rfl
   rw[if_pos (.inr h2),if_pos (.inl h2)]
  rw[if_pos (.inl h1),if_pos (.inr (.inr dy))]
def Ee:List (List UInt8)->Option (List Ty)
 |[]=>some []
 |p::ps=>match Dv p with
  |none=>none
  |some t=>match Ee ps with
   |none=>none
   |some ts=>some (t::ts)
theorem Mv:∀(ps:List (List UInt8)) (ts:List Ty),Ee ps=some ts↔(∀t∈ts,D5 t)/\ts.map Va=ps
 |[],ts=>by
  simp only[Ee,aj];constructor
  ·rintro rfl;simp
  rintro⟨_,h⟩;simpa using h.symm
 |p::ps,ts=>by
  simp only[Ee];cases ht:Dv p with
  |none=>
   simp only[reduceCtorEq,false_iff];rintro⟨h,e⟩;cases ts with
   |nil=>simp at e
   |cons t ts=>
    simp at e;rw[Ef.2 ⟨h t aK,e.1⟩]at ht;cases ht
  |some t=>
   obtain⟨ok,eb⟩:=Ef.1 ht;simp only;have ih:=Mv ps;constructor
   ·intro h;cases hr:Ee ps with
    |none=>rw[hr]at h;cases h
    |some us=>
     rw[hr]at h;injection h with h;subst h;obtain⟨i1,i2⟩:=(ih us).1 hr;exact⟨by simpa using⟨ok,i1⟩,by simp[eb,i2]⟩
   rintro⟨h,e⟩;cases ts with
   |nil=>simp at e
   |cons u us=>
    simp at e;have:u=t:=Vm (h u aK) ok (e.1.trans eb.symm);subst this;rw[(ih us).2 ⟨fun x hx=>h x (by simp[hx]),e.2⟩]
def Kz(s:List UInt8):Option (List Ty):=
 if 9<(Ae 10 s).length\/(Ae 10 s).getLast?≠some []then none else Ee (Ae 10 s).dropLast
theorem Yw(S:List Ty):Ap 10 (S.map Va++[[]])=scB S:=by
 induction S with
 |nil=>rfl
 |cons t S ih=>
  rw[ax,au,Ce 10 _ aK,ih,Mz]
theorem Y7{s:List UInt8}{S:List Ty}:Kz s=some S↔(∀t∈S,D5 t)/\S.length<=8/\scB S=s:=by
 unfold Kz;constructor
 ·intro h;split at h
  ·cases h
  rename_i hc;have h9:(Ae 10 s).length<=9:=by
   rcases aF 9 (Ae 10 s).length with hh|hh
   ·exact absurd (.inl hh) hc
   exact hh
  have hl:(Ae 10 s).getLast?=some []:=by
   refine Decidable.byContradiction fun hh=>hc (.inr hh)
  obtain⟨t1,t2⟩:=(Mv _ _).1 h;have e:Ae 10 s=S.map Va++[[]]:=by
   rcases Dz (Ae 10 s)with hh|⟨t,c,hh⟩
   ·exact absurd hh (Dn 10 s)
   rw[hh]at hl t2 ⊢;simp at hl t2;rw[t2,hl]
  have hs:=M3 10 s;rw[e,Yw]at hs;rw[e]at h9;simp at h9;exact⟨t1,h9,hs⟩
 rintro⟨h1,h2,rfl⟩;have e:Ae 10 (scB S)=S.map Va++[[]]:=by
  rw[<-Yw];refine J0 10 _ aK ?_;intro p hp;rcases af.1 hp with hp|hp
  ·obtain⟨t,ht,rfl⟩:=aw.1 hp;exact(T8 (h1 t ht)).1
  simp at hp;subst hp;simp
 rw[e,if_neg aN];simp only[List.dropLast_concat];exact(Mv _ _).2 ⟨h1,rfl⟩
def By(S:List Ty)(n:List UInt8):Option Ty:=S.find? fun t=>decide (t.name=n)
theorem B6{S:List Ty}{n:List UInt8}{t:Ty}(h:By S n=some t):t∈S/\t.name=n:=by
 have h1:=List.mem_of_find?_eq_some h;have h2:=List.find?_some h;exact⟨h1,by simpa using h2⟩
def B0(S:List Ty)(k:Kd):Prop:=k.base=[64]->(By S k.name).isSome=true
instance (S:List Ty) (k:Kd):Decidable (B0 S k):=by unfold B0;infer_instance
def Fa(S:List Ty):Prop:=∀t∈S,t.sort≠69->∀f∈t.fields,B0 S f.kind
instance (S:List Ty):Decidable (Fa S):=by unfold Fa;infer_instance
def Eo(S:List Ty)(t:Ty):Option Ty:=
 if t.sort=85 then(match t.fields with
  |f::_=>if f.kind.signs=[]/\f.kind.base=[64]then By S f.kind.name else none
  |[]=>none)else none
def Bm(S:List Ty):Nat->Ty->Bool
 |0,_=>false
 |n+1,t=>match Eo S t with
  |none=>true
  |some u=>Bm S n u
theorem Zs{S:List Ty}{t u:Ty}(h:Eo S t=some u):u∈S:=by
 unfold Eo at h;split at h
 ·split at h
  ·split at h
   ·exact(B6 h).1
   cases h
  cases h
 cases h
theorem Jg(S:List Ty):∀(n:Nat) (t:Ty),Bm S n t=true->∀m,n<=m->Bm S m t=true
 |0,t,h,_,_=>by simp[Bm]at h
 |n+1,t,h,m,hm=>by
  obtain⟨k,rfl⟩:∃k,m=k+1:=⟨m - 1,by omega⟩
  simp only[Bm]at h ⊢;cases hn:Eo S t with
  |none=>rfl
  |some u=>
   rw[hn]at h;exact Jg S n u h k aG
theorem H5:∀(l S:List Ty),l.Nodup->(∀x∈l,x∈S)->l.length<=S.length
 |[],S,_,_=>ag _
 |x::l,S,hn,hs=>by
  obtain⟨h1,h2⟩:=List.nodup_cons.1 hn;have hx:=hs x aK
  have ih:=H5 l (S.erase x) h2 (fun y hy=>by
   have hne:y≠x:=by rintro rfl;exact h1 hy
   exact(List.mem_erase_of_ne hne).2 (hs y (by simp[hy])))
  have hl:=List.length_erase_of_mem hx;have hp:0<S.length:=List.length_pos_iff.2 (by rintro rfl;cases hx);simp;omega
theorem Sf(S:List Ty):∀(n:Nat) (t:Ty),t∈S->Bm S (n+1) t=true->Bm S n t=false ->
  ∃l:List Ty,l.length=n+1/\(∀u∈l,u∈S)/\l.Nodup/\∀u∈l,Bm S (n+1) u=true
 |0,t,ht,h1,_=>⟨[t],rfl,by simpa using ht,by simp,by simpa using h1⟩
 |n+1,t,ht,h1,h2=>by
  have hn:∃u,Eo S t=some u:=by
   cases hh:Eo S t with
   |none=>simp[Bm,hh]at h2
   |some u=>exact⟨u,rfl⟩
  obtain⟨u,hu⟩:=hn;have e1:Bm S (n+1) u=true:=by simp only[Bm,hu]at h1;simpa [Bm]using h1
  have e2:Bm S n u=false:=by simp only[Bm,hu]at h2;exact h2
  obtain⟨l,l1,l2,l3,l4⟩:=Sf S n u (Zs hu) e1 e2;refine⟨t::l,by simp[l1],?_,List.nodup_cons.2 ⟨fun hm=>?_,l3⟩,?_⟩
  ·intro x hx;rcases az.1 hx with rfl|hx
   ·exact ht
   exact l2 x hx
  ·rw[l4 t hm]at h2;cases h2
  intro x hx;rcases az.1 hx with rfl|hx
  ·exact h1
  exact Jg S _ _ (l4 x hx) _ aG
theorem Qt(S:List Ty)(t:Ty)(ht:t∈S)(n:Nat):Bm S n t=true->Bm S S.length t=true:=by
 induction n with
 |zero=>intro h;simp[Bm]at h
 |succ n ih=>
  intro h;by_cases h2:Bm S n t=true
  ·exact ih h2
  have h2':Bm S n t=false:=dz;obtain⟨l,l1,l2,l3,_⟩:=Sf S n t ht h h2';have:=H5 l S l3 l2;exact Jg S _ _ h _ aG
theorem Tr(S:List Ty)(t:Ty)(ht:t∈S)(m n:Nat)(hm:S.length<=m)(hn:S.length<=n):Bm S m t=Bm S n t:=by
 cases h1:Bm S m t with
 |true=>exact(Jg S _ _ (Qt S t ht m h1) n hn).symm
 |false=>
  cases h2:Bm S n t with
  |false=>rfl
  |true=>rw[Jg S _ _ (Qt S t ht n h2) m hm]at h1;cases h1
def Ps(S:List Ty):Prop:=J8 S/\Fa S/\∀t∈S,Bm S 9 t=true
def Bz(s:List UInt8):Option (List Ty):=
 if 400<s.length then none
 else match Em (s.length+1) s []with
  |none=>none
  |some S=>if Fa S/\(∀t∈S,Bm S 9 t=true)then some S else none
theorem Zi:J8 []:=⟨by simp,by simp,List.Pairwise.nil⟩
theorem Qb{s:List UInt8}{S:List Ty}:Em (s.length+1) s []=some S↔J8 S/\scB S=s:=by
 rw[Qo (s.length+1) s [] S aG Zi];constructor
 ·rintro⟨h,U,e,h2⟩;simp at e;subst e;exact⟨h,h2⟩
 rintro⟨h,h2⟩;exact⟨h,S,by simp,h2⟩
theorem Po{s:List UInt8}{S:List Ty}:Bz s=some S↔Ps S/\s.length<=400/\scB S=s:=by
 unfold Bz;constructor
 ·intro h;split at h
  ·cases h
  rename_i h4;cases hl:Em (s.length+1) s []with
  |none=>rw[hl]at h;cases h
  |some T=>
   rw[hl]at h;simp only at h;split at h
   ·rename_i hc;injection h with h;subst h;obtain⟨h1,h2⟩:=Qb.1 hl;exact⟨⟨h1,hc.1,hc.2⟩,by omega,h2⟩
   cases h
 rintro⟨⟨h1,h2,h3⟩,h4,h5⟩;rw[if_neg aG,Qb.2 ⟨h1,h5⟩];simp only;rw[if_pos ⟨h2,h3⟩]
theorem Mw{s:List UInt8}{S:List Ty}:Bz s=some S↔s.length<=400/\Kz s=some S/\(S.Pairwise fun t u=>t.name≠u.name)/\Fa S/\∀t∈S,Bm S (S.length+1) t=true:=by
 rw[Po,Y7];constructor
 ·rintro⟨⟨⟨h1,h2,h3⟩,h4,h5⟩,h6,h7⟩;exact⟨h6,⟨h1,h2,h7⟩,h3,h4,fun t ht=>by rw[Tr S t ht _ 9 aG aG];exact h5 t ht⟩
 rintro⟨h6,⟨h1,h2,h7⟩,h3,h4,h5⟩;exact⟨⟨⟨h1,h2,h3⟩,h4,fun t ht=>by rw[<-Tr S t ht (S.length+1) 9 aG aG];exact h5 t ht⟩,h6,h7⟩
def S4(S:List Ty)(n:Nat)(k:Kd):Prop:=k.signs=[]->k.base=[64]->∃t,By S k.name=some t/\Bm S n t=true
def Cs(S:List Ty):Nat->Kd->List UInt8
 |0,_=>[]
 |n+1,k=>
  if k.signs.head?=some 91 then[91,93]
  else if k.signs.head?=some 63 then[45]
  else if k.base=[110]then[48]
  else if k.base=[116]then[39,39]
  else if k.base=[102]then[110,111]
  else match By S k.name with
   |none=>[]
   |some t=>if t.sort=82 then[123,125]else
    match t.fields with
    |[]=>[]
    |f::_=>if t.sort=69 then 35::Aw f.tag else 60::(Aw f.tag++61::(Cs S n f.kind++[62]))
theorem Qj{S:List Ty}{n:Nat}{k:Kd}{t:Ty}{f:Fd}{fs:List Fd}(h:S4 S (n+1) k)(h1:k.signs=[])(h2:k.base=[64])(hf:By S k.name=some t)(hs:t.sort=85)(hfs:t.fields=f::fs)(hr:B0 S f.kind):S4 S n f.kind:=by
 intro g1 g2;obtain⟨u,hu,he⟩:=h h1 h2;rw[hf]at hu;injection hu with hu;subst hu;have hn:Eo S t=By S f.kind.name:=by
  unfold Eo;rw[if_pos hs,hfs];simp only;rw[if_pos ⟨g1,g2⟩]
 have hr':=hr g2;cases hx:By S f.kind.name with
 |none=>rw[hx]at hr';cases hr'
 |some v=>
  simp only[Bm,hn,hx]at he;exact⟨v,rfl,he⟩
def Qd(S:List Ty)(k:Kd):List UInt8:=Cs S 10 k
def P1(S:List Ty)(f:Fd):List UInt8:=if f.given=[]then Qd S f.kind else f.given
end Go.Proofs.YtpjijpcemejlnaaGreatDoor
