/- Texts joined. Conditions: as each theorem names them. -/
import Derived.Test.YtpjijpcemejlnaaGreatDoorProg
import Derived.WalkKit
import Derived.WalkSmall
import Derived.WalkSpells
import Derived.WalkLawsBesides
import Derived.Below
import Derived.Lib.Hide
import Derived.Lib.BufferRead
import Derived.Laws.BytesArg
import Derived.Deep.QuietTactic
import Derived.BigQuiet
import Derived.Handy
import Derived.Test.YtpjijpcemejlnaaGreatDoorM00
set_option maxRecDepth 100000
set_option maxHeartbeats 32000000
set_option linter.unusedVariables false
set_option linter.unusedSimpArgs false
namespace Go.Proofs.YtpjijpcemejlnaaGreatDoor
open Go.RowKit Go.Proofs.Tryz
theorem Qkk(l:List UInt8)(k:Nat)(h:k<(ByteArray.mk l.toArray).size):(ByteArray.mk l.toArray)[k]=l[k]'h:=rfl
theorem Qj0(l:List UInt8):(ByteArray.mk l.toArray).toList=l:=by
 have:(ByteArray.mk l.toArray).toList=(ByteArray.mk l.toArray).data.toList:=ByteArray.toList_eq _;rw[this]
theorem Qjm(l:List UInt8)(a b:Nat):(ByteArray.mk l.toArray).extract a b=⟨((l.drop a).take (b - a)).toArray⟩:=by
 apply ByteArray.ext;simp[ByteArray.data_extract]
theorem Qhu(l:List UInt8)(a:Nat):(l.drop a).take (l.length - a)=l.drop a:=au aM
theorem Qij{k:IntKind}{a b:Int}(h:a=b):Ending.returned (.int k a)=.returned (.int k b):=by rw[h]
theorem Bt{α:Type}(l:List α)(k:Nat)(h:k<l.length):l.take (k+1)=l.take k++[l[k]]:=by
 rw[List.take_succ_eq_append_getElem h]
def Ei(l:List UInt8):List Value:=l.map fun c=>.int .u8 (c.toNat:Int)
def Ah(ls:List (List UInt8)):List Value:=ls.map fun l=>.string ⟨l.toArray⟩
theorem Pz(l:List UInt8):(Ei l).length=l.length:=by simp[Ei]
theorem Jp(l:List (List UInt8)):(Ah l).length=l.length:=by simp[Ah]
theorem Pi(l:List (List UInt8))(c:List UInt8):Ah (l++[c])=Ah l++[.string ⟨c.toArray⟩]:=by simp[Ah]
def Bj(w:World)(A:Option Addr)(n:Nat)(xs:List Value):Prop:=
 xs.length=n/\n<=maxLen/\(0<n->∃b off,A=some ⟨b,off,none⟩/\b<w.heap.size/\∀j u,xs[j]?=some u->w.cell? ⟨b,off+j,none⟩=some u)
theorem Bj.below{w w':World}{A:Option Addr}{n:Nat}{xs:List Value}(h:Bj w A n xs)(hb:Below w w w'):Bj w' A n xs:=by
 refine⟨h.1,h.2.1,fun hn=>?_⟩;obtain⟨b,off,e,hlt,hc⟩:=h.2.2 hn;exact⟨b,off,e,ad hlt hb.size,fun j u hu=>(hb.cell (p:=⟨b,off+j,none⟩) hlt).trans (hc j u hu)⟩
theorem Bj.drew{w:World}{A:Option Addr}{n:Nat}{xs:List Value}(h:Bj w A n xs):Bj w.drew A n xs:=h
theorem Bj.alloc{w:World}{A:Option Addr}{n:Nat}{xs:List Value}(h:Bj w A n xs)(o:Obj):Bj (w.alloc o) A n xs:=h.below ((Below.refl _ _).alloc (Nat.le_refl _) o)
theorem Bj.at_{w:World}{A:Option Addr}{n:Nat}{xs:List Value}(h:Bj w A n xs){k:Nat}(hk:k<n):
  ∃b off,A=some ⟨b,off,none⟩/\b<w.heap.size/\w.cell? ⟨b,off+k,none⟩=some (xs[k]'(by have:=h.1;omega)):=by
 obtain⟨b,off,e,hlt,hc⟩:=h.2.2 aH;exact⟨b,off,e,hlt,hc k _ (List.getElem?_eq_getElem _)⟩
theorem Bj.own{w:World}{base:Nat}{e:TypeId}{v:Value}{n:Nat}{xs:List Value}(h:w.ownsRow base e 1 v n xs):∃A c,v=.slice A n c/\Bj w A n xs:=by
 have h1:=h.1;rcases h.2 with⟨rfl,rfl⟩|⟨g,cap,cur,rfl,hb,hh,hnc,hcm,hcs,htk⟩
 ·exact⟨none,0,rfl,by omega,ah _,fun h=>absurd h aH⟩
 refine⟨some ⟨g,0,none⟩,cap,rfl,by omega,by omega,fun hn=>⟨g,0,rfl,(h.lt g rfl).2,fun j u hu=>?_⟩⟩;have:=h.cells (g:=g) rfl j u hu;have e1:(⟨g,0,none⟩:Addr).add j=⟨g,0+j,none⟩:=bv;rwa [e1]at this
theorem Bl{w w1:World}{base:Nat}{e:TypeId}{size:Nat}{v:Value}{n:Nat}{xs:List Value}(h:w.ownsRow base e size v n xs)(hb:Below w w w1):w1.ownsRow base e size v n xs:=
 h.kept (row:=none) ⟨hb.os,hb.tape,hb.output,hb.size,fun k hk _=>hb.block k hk⟩ (by
  cases v with
  |slice A a b=>cases A with
   |none=>exact .inl rfl
   |some x=>exact .inr eW
  |_=>exact .inl rfl)
section
variable {P:Program}
theorem Me(w:World){ops:Array Oper}{rest:List Oper}{o:Oper}{a:Act}{Q:Exit->Act->World->Prop}(hgd:o.guard=none)(s x:Operand)(t:TypeId)
  (ho:o.op=.call {callee:=.builtin .append,args:=#[s,x],argTypes:=#[t,t]})
  (base:Nat) (e:TypeId) (z:Value) (bytes:Nat) (ht:P.underlying t=some (.slice e)) (hinfo:(P.info? e).map (fun i=>(i.zero,i.size,i.bytes))=some (some z,1,bytes))
  (hzs:z.cells.size=1) (W:World) (u:Value) (hw:w=W.alloc (.cells #[u] e)) (hu:u.oneCell'=true) (v:Value) (n:Nat) (xs:List Value) (hs:a.eval s=v) (hx:a.eval x=.slice (W,0) 1 1)
  (hown:W.ownsRow base e 1 v n xs)
  (h63:n+1<=maxLen) (hbytes:(n+1)*bytes<=140737488355328) (hbase:base<=W.heap.size)
  (h:∀v' w',w'.ownsRow base e 1 v' (n+1) (xs++[u])->Below base W w'->wpList P ops Q rest (a.put o.dst v') w'):wpList P ops Q (o::rest) a w:=by
 subst hw;obtain⟨i0,hi,hz0,hz1,hz2⟩:=info_parts hinfo;refine wpList_append_own _ hgd s x t ho base e i0 z 1 bytes ht hi hz0 hz1 hz2 hzs aL v n xs hs (hown.alloc _) ⟨W.heap.size,0,none⟩ 1 1 [u] hx rfl ?_ ?_ h63 hbytes ?_ ?_
 ·intro j y hj;match j,hj with
  |0,hj=>simp at hj;subst hj;simp[Addr.add,World.cell?_alloc_new]
 ·intro y hy;simp at hy;subst hy;exact hu
 ·have:(W.alloc (.cells #[u] e)).heap.size=W.heap.size+1:=aM;omega
 intro v' w' h1 h2 _;exact h v' w' h1 (((Below.refl base W).alloc hbase _).grown h2 aN (fun k hk=>(hown.lt k hk).1))
theorem Qgw(W:World)(src e dst:TypeId)(hs:P.underlying src=some (.slice e))(he:P.underlying e=some (.int .u8))(hd:P.underlying dst=some .string)
  (g c:Nat) (b:UInt8) (hc:W.cell? (g,0)=some (.int .u8 (b.toNat:Int))):(convert src dst (.slice (g,0) 1 c)).run P W=.ok (.string ⟨[b].toArray⟩) W:=by
 have h:=run_convert_bytes_arg (P:=P) W src e hs he g 0 1 c [(b.toNat:Int)] rfl (fun i hi=>by
  obtain rfl:i=0:=aH;simpa using hc) dst hd
 rw[h];simp[strOfNums]
end
theorem Mp(W:World)(g c:Nat)(b:UInt8)(hc:W.cell? (g,0)=some (.int .u8 (b.toNat:Int))):
  (convert 22 9 (.slice (g,0) 1 c)).run prog W=.ok (.string ⟨[b].toArray⟩) W:=
 Qgw W 22 5 9 underlying22 underlying5 underlying9 g c b hc
theorem By{W w1:World}(hb:Below W.heap.size W w1):(∀b o,b<W.heap.size->w1.cell? ⟨b,o,none⟩=W.cell? ⟨b,o,none⟩)/\(∀b o,b<W.heap.size->w1.frozen? ⟨b,o,none⟩=W.frozen? ⟨b,o,none⟩)/\(∀b,b<W.heap.size->b<w1.heap.size):=
 ⟨fun b o h=>hb.cell (p:=⟨b,o,none⟩) h,fun b o h=>hb.frozen (p:=⟨b,o,none⟩) h,fun _ h=>ad h hb.size⟩
theorem Ef:(prog.info? 9).map (fun i=>(i.zero,i.size,i.bytes))=some (some (.string ⟨#[]⟩),1,16):=aP
theorem Ab:True:=True.intro
theorem Aa{p:Prop}(h:p):Hid p:=h
theorem Ao(n:Nat):n<=n:=Nat.le_refl n
theorem _root_.Go.RowKit.Hid.o{p:Prop}(h:Hid p):p:=h
theorem At(n:Nat)(w:World):Below n w w:=Below.refl n w
def Qdv(w:World)(e:Ending)(w':World):Prop:=∃a b s:List UInt8,e=.returned (.tuple #[.string ⟨a.toArray⟩,.string ⟨b.toArray⟩,.string ⟨s.toArray⟩])/\a.length<=100000/\b.length<=100000/\s.length<=100000/\Below w.heap.size w w'
theorem D2{a a':Value}(h:a=a'):Ending.returned a=.returned a':=by rw[h]
theorem Qh4{a b a' b':Value}(h1:a=a')(h2:b=b'):Ending.returned (.tuple #[a,b])=.returned (.tuple #[a',b']):=by rw[h1,h2]
theorem Qkm{a b c a' b' c':Value}(h1:a=a')(h2:b=b')(h3:c=c'):Ending.returned (.tuple #[a,b,c])=.returned (.tuple #[a',b',c']):=by rw[h1,h2,h3]
theorem Qig{k:IntKind}{x y:Int}(h:x=y):Value.int k x=.int k y:=by rw[h]
theorem Qf8{x y:List UInt8}(h:x=y):Value.string ⟨x.toArray⟩=y:=by rw[h]
theorem Cn{x y:Bool}(h:x=y):Value.bool x=.bool y:=by rw[h]
def Cz(n:Nat):UInt8:=UInt8.ofNat n
theorem C7{n:Nat}(h:n<256):(Cz n).toNat=n:=by unfold Cz;exact UInt8.toNat_ofNat_of_lt' h
def H7(c:UInt8):Bool:=decide (97<=c.toNat) && decide (c.toNat<=122)
def Ba(c:UInt8):Bool:=decide (48<=c.toNat) && decide (c.toNat<=57)
def Av(s:List UInt8):Bool:=decide (1<=s.length) && decide (s.length<=3) && s.all H7
theorem Dc{c:UInt8}:Ba c=true↔48<=c.toNat/\c.toNat<=57:=by simp[Ba]
theorem J7{c:UInt8}:H7 c=true↔97<=c.toNat/\c.toNat<=122:=by simp[H7]
theorem Dp{s:List UInt8}:Av s=true↔1<=s.length/\s.length<=3/\∀c∈s,H7 c=true:=by
 simp[Av,and_assoc]
def Aw(n:Nat):List UInt8:=if h:n<10 then[Cz (48+n)]else Aw (n / 10)++[Cz (48+n % 10)]
termination_by n
decreasing_by omega
theorem Ee{n:Nat}(h:n<10):Aw n=[Cz (48+n)]:=by rw[Aw,dif_pos h]
theorem Mo{n:Nat}(h:¬n<10):Aw n=Aw (n / 10)++[Cz (48+n % 10)]:=by rw[Aw,dif_neg h]
def Fr(s:List UInt8):Nat:=s.foldl (fun n c=>10*n+(c.toNat - 48)) 0
theorem J8(s:List UInt8)(c:UInt8):Fr (s++[c])=10*Fr s+(c.toNat - 48):=by simp[Fr,List.foldl_append]
theorem Qf4:Fr []=0:=rfl
def Ci(s:List UInt8):Option Nat:=
 if 1<=s.length/\s.length<=6/\s.all Ba=true/\(s.head?≠some 48\/s.length=1)then some (Fr s)else none
theorem Em{α:Type}(s:List α):s=[]\/∃t c,s=t++[c]:=by
 rcases s.eq_nil_or_concat with h|⟨t,c,h⟩
 ·exact .inl h
 exact .inr ⟨t,c,by simpa using h⟩
theorem Tn:∀(k:Nat) (s:List UInt8),s.length=k->s.all Ba=true->Fr s<10 ^ k
 |0,s,h,_=>by
  obtain rfl:=List.eq_nil_of_length_eq_zero h;simp[Fr]
 |k+1,s,h,ha=>by
  rcases Em s with rfl|⟨t,c,rfl⟩
  ·simp at h
  simp at h;simp only[List.all_append,aw,List.all_cons,List.all_nil,Bool.and_true]at ha;have ih:=Tn k t h ha.1;have hc:=Dc.1 ha.2;rw[J8,Nat.pow_succ];omega
theorem Qai:∀(k:Nat) (s:List UInt8),s.length=k->s≠[]->s.all Ba=true->s.head?≠some 48->0<Fr s
 |0,s,h,hn,_,_=>absurd (List.eq_nil_of_length_eq_zero h) hn
 |k+1,s,h,hn,ha,hh=>by
  rcases Em s with rfl|⟨t,c,rfl⟩
  ·exact absurd rfl hn
  simp at h;simp only[List.all_append,aw,List.all_cons,List.all_nil,Bool.and_true]at ha;have hc:=Dc.1 ha.2;rw[J8];by_cases ht:t=[]
  ·subst ht;simp at hh;have:c.toNat≠48:=fun e=>hh (UInt8.toNat_inj.1 e);omega
  have hh':t.head?≠some 48:=by
   cases t with
   |nil=>exact absurd rfl ht
   |cons a t=>simpa using hh
  have:=Qai k t h ht ha.1 hh';omega
theorem Yh:∀(k:Nat) (s:List UInt8),s.length=k->s≠[]->s.all Ba=true->(s.head?≠some 48\/s.length=1)->Aw (Fr s)=s
 |0,s,h,hn,_,_=>absurd (List.eq_nil_of_length_eq_zero h) hn
 |k+1,s,h,hn,ha,hh=>by
  rcases Em s with rfl|⟨t,c,rfl⟩
  ·exact absurd rfl hn
  simp at h;simp only[List.all_append,aw,List.all_cons,List.all_nil,Bool.and_true]at ha;have hc:=Dc.1 ha.2;have hc2:Cz (48+(c.toNat - 48))=c:=by
   apply UInt8.toNat_inj.1;rw[C7 aH];omega
  rw[J8];by_cases ht:t=[]
  ·subst ht;rw[Qf4,Ee aH];simp[hc2]
  have hl:0<t.length:=List.length_pos_iff.2 ht;have hh1:t.head?≠some 48:=by
   cases t with
   |nil=>exact absurd rfl ht
   |cons a t=>rcases hh with hh|hh<;>simp at hh ⊢<;>first|exact hh|omega
  have hp:=Qai t.length t rfl ht ha.1 hh1;have ih:=Yh k t h ht ha.1 (.inl hh1);rw[Mo aH];have e1:(10*Fr t+(c.toNat - 48)) / 10=Fr t:=aH;have e2:(10*Fr t+(c.toNat - 48)) % 10=c.toNat - 48:=aH;rw[e1,e2,ih,hc2]
theorem Kj:∀(k n:Nat),n<=k->Aw n≠[]/\(Aw n).all Ba=true/\Fr (Aw n)=n/\((Aw n).head?≠some 48\/n=0)/\(n<10->(Aw n).length=1)/\(10<=n->2<=(Aw n).length)
 |0,n,h=>by
  obtain rfl:n=0:=aH;rw[Ee aH];refine⟨by simp,by decide,by decide,.inr rfl,fun _=>rfl,fun h=>by omega⟩
 |k+1,n,h=>by
  by_cases hn:n<10
  ·rw[Ee hn];have e:(Cz (48+n)).toNat=48+n:=C7 aH;refine⟨by simp,by simp[Dc,e];omega,?_,?_,fun _=>rfl,fun h=>by omega⟩
   ·show 10*0+((Cz (48+n)).toNat - 48)=n;omega
   by_cases h0:n=0
   ·exact .inr h0
   refine .inl ?_;intro hh;simp at hh;have:=congrArg UInt8.toNat hh;rw[e]at this;have h48:(48:UInt8).toNat=48:=rfl;omega
  obtain⟨i1,i2,i3,i4,_,_⟩:=Kj k (n / 10) aH;have e:(Cz (48+n % 10)).toNat=48+n % 10:=C7 aH;have hl:0<(Aw (n / 10)).length:=List.length_pos_iff.2 i1;rw[Mo hn];refine⟨by simp,?_,?_,?_,fun h=>absurd h hn,fun _=>by simp;omega⟩
  ·simp only[List.all_append,aw,List.all_cons,List.all_nil,Bool.and_true];exact⟨i2,Dc.2 aH⟩
  ·rw[J8,i3,e];omega
  refine .inl ?_;have e1:(Aw (n / 10)++[Cz (48+n % 10)]).head?=(Aw (n / 10)).head?:=by
   cases hd:Aw (n / 10)with
   |nil=>exact absurd hd i1
   |cons a t=>rfl
  rw[e1];rcases i4 with h|h
  ·exact h
  omega
theorem Qp(n:Nat):Aw n≠[]:=(Kj n n (Nat.le_refl _)).1
theorem Km(n:Nat):(Aw n).all Ba=true:=(Kj n n (Nat.le_refl _)).2.1
theorem Ps(n:Nat):Fr (Aw n)=n:=(Kj n n (Nat.le_refl _)).2.2.1
theorem Qex(n:Nat):(Aw n).head?≠some 48\/(Aw n).length=1:=by
 obtain⟨_,_,_,h4,h5,_⟩:=Kj n n (Nat.le_refl _);rcases h4 with h|h
 ·exact .inl h
 exact .inr (h5 aH)
theorem Qf7{m n:Nat}(h:Aw m=Aw n):m=n:=by rw[<-Ps m,h,Ps]
theorem Cv:∀(k n:Nat),n<10 ^ (k+1)->(Aw n).length<=k+1
 |0,n,h=>by rw[Ee aS];simp
 |k+1,n,h=>by
  by_cases hn:n<10
  ·rw[Ee hn];simp
  rw[Mo hn];have:=Cv k (n / 10) (by rw[Nat.pow_succ]at h;omega);simp;omega
theorem B0{s:List UInt8}{n:Nat}:Ci s=some n↔n<=999999/\s=Aw n:=by
 unfold Ci;constructor
 ·intro h;split at h
  ·rename_i hc;obtain⟨h1,h2,h3,h4⟩:=hc;injection h with h;have hn:s≠[]:=List.length_pos_iff.1 aH;have hv:=Tn s.length s rfl h3;have hle:10 ^ s.length<=10 ^ 6:=Nat.pow_le_pow_right aH h2;have e6:10 ^ 6=1000000:=rfl;refine⟨by omega,?_⟩;rw[<-h];exact(Yh s.length s rfl hn h3 h4).symm
  cases h
 rintro⟨h1,rfl⟩;have hl:=Cv 5 n fa;have hp:0<(Aw n).length:=List.length_pos_iff.2 (Qp n);rw[if_pos ⟨by omega,by omega,Km n,Qex n⟩,Ps]
structure Kd where
 signs:List UInt8
 base:List UInt8
 name:List UInt8
deriving DecidableEq
def Bc(c:UInt8):Bool:=c == 91 || c == 63
def Cm(k:Kd):List UInt8:=if k.base=[64]then 64::(k.name++[59])else k.base
def Bn(k:Kd):List UInt8:=k.signs++Cm k
def Kd.nil:Kd:=⟨[],[],[]⟩
def Kd.part(k:Kd):Kd:={k with signs:=k.signs.tail}
def Zu(k:Kd):Prop:=(k.base=[64]/\Av k.name=true)\/((k.base=[110]\/k.base=[116]\/k.base=[102])/\k.name=[])
def Cu(k:Kd):Prop:=k.signs.all Bc=true/\Zu k/\(Bn k).length<=12
theorem Yv{k:Kd}(h:Zu k):∃c t,Cm k=c::t/\Bc c=false:=by
 unfold Cm;rcases h with⟨h,_⟩|⟨h|h|h,_⟩
 ·rw[if_pos h];exact⟨64,_,rfl,by decide⟩
 ·rw[h,if_neg aL];exact⟨110,[],rfl,by decide⟩
 ·rw[h,if_neg aL];exact⟨116,[],rfl,by decide⟩
 rw[h,if_neg aL];exact⟨102,[],rfl,by decide⟩
theorem Fa{p:UInt8->Bool}:∀{a b:List UInt8},a.all p=true->(∃c t,b=c::t/\p c=false)->(a++b).takeWhile p=a/\(a++b).dropWhile p=b
 |[],b,_,⟨c,t,e,h⟩=>by subst e;simp[h]
 |x::a,b,ha,hb=>by
  simp only[List.all_cons,aw]at ha;have ih:=Fa ha.2 hb;simp[ha.1,ih.1,ih.2]
theorem Jo{p:UInt8->Bool}:∀(a:List UInt8),(a.takeWhile p).all p=true
 |[]=>rfl
 |x::a=>by
  by_cases h:p x=true
  ·simp[h]
  simp[h]
def Ck(s:List UInt8):Option Kd:=
 if 12<s.length then none
 else if s.dropWhile Bc=[110]\/s.dropWhile Bc=[116]\/s.dropWhile Bc=[102]then some ⟨s.takeWhile Bc,s.dropWhile Bc,[]⟩
 else if (s.dropWhile Bc).head?=some 64/\(s.dropWhile Bc).getLast?=some 59/\Av ((s.dropWhile Bc).drop 1).dropLast=true then some ⟨s.takeWhile Bc,[64],((s.dropWhile Bc).drop 1).dropLast⟩
 else none
theorem Qdu{r:List UInt8}(h1:r.head?=some 64)(h2:r.getLast?=some 59):r=64::((r.drop 1).dropLast++[59]):=by
 cases r with
 |nil=>simp at h1
 |cons a t=>
  simp at h1;subst h1;rcases Em t with rfl|⟨u,c,rfl⟩
  ·simp at h2
  have:c=59:=by
   rw[show (64:UInt8)::(u++[c])=(64::u)++[c]from rfl,List.getLast?_append]at h2;simpa using h2
  subst this;simp
theorem En{s:List UInt8}{k:Kd}:Ck s=some k↔Cu k/\Bn k=s:=by
 have htd:s.takeWhile Bc++s.dropWhile Bc=s:=List.takeWhile_append_dropWhile;constructor
 ·intro h;unfold Ck at h;split at h
  ·cases h
  rename_i h12;split at h
  ·rename_i hb;injection h with h;subst h;have hcore:Cm ⟨s.takeWhile Bc,s.dropWhile Bc,[]⟩=s.dropWhile Bc:=by
    unfold Cm;rw[if_neg];rcases hb with h|h|h<;>· show ¬s.dropWhile Bc=_;rw[h];decide
   have e:Bn ⟨s.takeWhile Bc,s.dropWhile Bc,[]⟩=s:=by unfold Bn;rw[hcore];exact htd
   exact⟨⟨Jo s,.inr ⟨hb,rfl⟩,by rw[e];omega⟩,e⟩
  split at h
  ·rename_i hb;injection h with h;subst h;have e1:=Qdu hb.1 hb.2.1;have e:Bn ⟨s.takeWhile Bc,[64],((s.dropWhile Bc).drop 1).dropLast⟩=s:=by
    unfold Bn Cm;rw[if_pos rfl];show s.takeWhile Bc++64::(((s.dropWhile Bc).drop 1).dropLast++[59])=s;rw[<-e1];exact htd
   exact⟨⟨Jo s,.inl ⟨rfl,hb.2.2⟩,by rw[e];omega⟩,e⟩
  cases h
 rintro⟨⟨h1,h2,h3⟩,rfl⟩;obtain⟨e1,e2⟩:=Fa h1 (Yv h2);unfold Ck;rw[if_neg aH];show (if (k.signs++Cm k).dropWhile Bc=[110]\/_ then _ else _)=_;unfold Bn;rw[e1,e2];obtain⟨sg,b,nm⟩:=k;rcases h2 with⟨h,hn⟩|⟨h,hn⟩
 ·simp only at h hn;subst h;unfold Cm;simp only[if_pos];rw[if_neg aM,if_pos]
  ·simp
  refine⟨rfl,?_,by simpa using hn⟩;rw[show (64:UInt8)::(nm++[59])=(64::nm)++[59]from rfl,List.getLast?_append];rfl
 simp only at h hn;subst hn;have hc:Cm ⟨sg,b,[]⟩=b:=by
  unfold Cm;rw[if_neg];rcases h with h|h|h<;>· show ¬b=_;rw[h];decide
 rw[hc,if_pos h]
theorem Pm{k:Kd}(h:Cu k):Cu k.part/\(k.signs≠[]->Bn k.part=(Bn k).tail/\(Bn k.part).length+1=(Bn k).length):=by
 obtain⟨h1,h2,h3⟩:=h;obtain⟨sg,b,nm⟩:=k;have hc:∀g,Cm ⟨g,b,nm⟩=Cm ⟨sg,b,nm⟩:=fun g=>rfl;cases sg with
 |nil=>exact⟨⟨h1,h2,h3⟩,fun h=>absurd rfl h⟩
 |cons c t=>
  simp only[List.all_cons,aw]at h1;have e:Bn (Kd.part ⟨c::t,b,nm⟩)=(Bn ⟨c::t,b,nm⟩).tail:=rfl;have el:(Bn (Kd.part ⟨c::t,b,nm⟩)).length+1=(Bn ⟨c::t,b,nm⟩).length:=rfl;exact⟨⟨h1.2,h2,by omega⟩,fun _=>⟨e,el⟩⟩
def Ag(c:UInt8):List UInt8->List (List UInt8)
 |[]=>[[]]
 |x::s=>if x=c then[]::Ag c s else match Ag c s with
  |p::ps=>(x::p)::ps
  |[]=>[[x]]
def Ar(c:UInt8):List (List UInt8)->List UInt8
 |[]=>[]
 |[p]=>p
 |p::ps=>p++c::Ar c ps
theorem D7(c:UInt8)(s:List UInt8):Ag c s≠[]:=by
 cases s with
 |nil=>simp[Ag]
 |cons x s=>
  simp only[Ag];split
  ·simp
  split<;>simp
theorem Cl(c:UInt8)(p:List UInt8){ps:List (List UInt8)}(h:ps≠[]):Ar c (p::ps)=p++c::Ar c ps:=by
 cases ps with
 |nil=>exact absurd rfl h
 |cons q ps=>rfl
theorem Pd(c:UInt8):∀s:List UInt8,Ar c (Ag c s)=s
 |[]=>rfl
 |x::s=>by
  have ih:=Pd c s;have hn:=D7 c s;simp only[Ag];split
  ·rename_i h;rw[Cl c _ hn,ih,h];rfl
  cases hs:Ag c s with
  |nil=>exact absurd hs hn
  |cons p ps=>
   rw[hs]at ih;cases ps with
   |nil=>simpa [Ar]using ih
   |cons q ps=>
    rw[Cl c _ aM]at ih ⊢;simp[ih]
theorem Xx(c:UInt8):∀s:List UInt8,∀p∈Ag c s,c∉p
 |[],p,hp=>by simp[Ag]at hp;simp[hp]
 |x::s,p,hp=>by
  have ih:=Xx c s;simp only[Ag]at hp;split at hp
  ·rcases aA.1 hp with rfl|hp
   ·simp
   exact ih p hp
  rename_i hx;cases hs:Ag c s with
  |nil=>exact absurd hs (D7 c s)
  |cons q qs=>
   rw[hs]at hp ih;rcases aA.1 hp with rfl|hp
   ·have:=ih q aM;simp;exact⟨fun h=>hx h.symm,this⟩
   exact ih p (by simp[hp])
theorem Ez(c:UInt8):∀p:List UInt8,c∉p->Ag c p=[p]
 |[],_=>rfl
 |x::p,h=>by
  simp at h;simp only[Ag];rw[if_neg (fun e=>h.1 e.symm),Ez c p h.2]
theorem Ja(c:UInt8):∀(p s:List UInt8),c∉p->Ag c (p++c::s)=p::Ag c s
 |[],s,_=>by simp[Ag]
 |x::p,s,h=>by
  simp at h;simp only[av,Ag];rw[if_neg (fun e=>h.1 e.symm),Ja c p s h.2]
theorem Jr(c:UInt8):∀ps:List (List UInt8),ps≠[]->(∀p∈ps,c∉p)->Ag c (Ar c ps)=ps
 |[],h,_=>absurd rfl h
 |[p],_,h=>Ez c p (h p aM)
 |p::q::ps,_,h=>by
  rw[Cl c p aM,Ja c p _ (h p aM),Jr c (q::ps) aM (fun x hx=>h x (by simp[hx]))]
theorem Dr{c:UInt8}{s:List UInt8}{ps:List (List UInt8)}:Ag c s=ps↔ps≠[]/\(∀p∈ps,c∉p)/\Ar c ps=s:=
 ⟨fun h=>by subst h;exact⟨D7 c s,Xx c s,Pd c s⟩,fun⟨h1,h2,h3⟩=>by rw[<-h3];exact Jr c ps h1 h2⟩
theorem Gt(c:UInt8):∀s:List UInt8,(Ag c s).length<=s.length+1
 |[]=>by simp[Ag]
 |x::s=>by
  have ih:=Gt c s;simp only[Ag];split
  ·simp;exact ih
  cases hs:Ag c s with
  |nil=>exact absurd hs (D7 c s)
  |cons p ps=>rw[hs]at ih;simp at ih ⊢;omega
theorem Ak(c:UInt8):∀s:List UInt8,∀p∈Ag c s,p.length<=s.length
 |[],p,h=>by simp[Ag]at h;simp[h]
 |x::s,p,h=>by
  have ih:=Ak c s;simp only[Ag]at h;split at h
  ·rcases aA.1 h with rfl|h
   ·simp
   exact Nat.le_succ_of_le (ih p h)
  cases hs:Ag c s with
  |nil=>exact absurd hs (D7 c s)
  |cons q qs=>
   rw[hs]at ih h;rcases aA.1 h with rfl|h
   ·have:=ih q aM;simp;exact this
   have:=ih p (by simp[h]);simp;omega
def Cy(c:UInt8)(s:List UInt8):List UInt8 × List UInt8 × Bool:=
 if c∈s then(s.takeWhile (· != c),(s.dropWhile (· != c)).tail,true)else(s,[],false)
theorem Pn{c:UInt8}{s:List UInt8}(h:c∉s):Cy c s=(s,[],false):=if_neg h
theorem Ec{c:UInt8}{p s:List UInt8}(h:c∉p):Cy c (p++c::s)=(p,s,true):=by
 unfold Cy;rw[if_pos aM];have h1:p.all (fun x=>x != c)=true:=by
  rw[List.all_eq_true];intro x hx;simp;rintro rfl;exact h hx
 obtain⟨e1,e2⟩:=Fa (p:=fun x=>x != c) h1 ⟨c,s,rfl,by simp⟩;rw[e1,e2];rfl
theorem Qa6{c:UInt8}:∀{s:List UInt8},c∈s->∃p t,s=p++c::t/\c∉p
 |x::s,h=>by
  by_cases hx:x=c
  ·exact⟨[],s,by simp[hx],by simp⟩
  obtain⟨p,t,e,hp⟩:=Qa6 (s:=s) (by rcases aA.1 h with h|h;exact absurd h.symm hx;exact h);exact⟨x::p,t,by simp[e],by simp;exact⟨fun e=>hx e.symm,hp⟩⟩
theorem E7(c:UInt8)(s:List UInt8):(c∉s/\Cy c s=(s,[],false))\/∃p t,s=p++c::t/\c∉p/\Cy c s=(p,t,true):=by
 by_cases h:c∈s
 ·obtain⟨p,t,e,hp⟩:=Qa6 h;exact .inr ⟨p,t,e,hp,by rw[e];exact Ec hp⟩
 exact .inl ⟨h,Pn h⟩
def Cb(c:UInt8):Bool:=H7 c || Ba c || c == 32
def Db(s:List UInt8):Bool:=decide (s.length<=12) && s.all Cb
def Bx(b s:List UInt8):Bool:=
 if b=[110]then(match Ci s with|some n=>decide (0<n)|none=>false)
 else if b=[116]then decide (2<s.length) && decide (s.head?=some 39) && decide (s.getLast?=some 39) && Db (s.drop 1).dropLast
 else if b=[102]then decide (s=[121,101,115])else false
theorem Qcd{r:List UInt8}(h:2<r.length)(h1:r.head?=some 39)(h2:r.getLast?=some 39):r=39::((r.drop 1).dropLast++[39]):=by
 cases r with
 |nil=>simp at h1
 |cons a t=>
  simp at h1;subst h1;rcases Em t with rfl|⟨u,c,rfl⟩
  ·simp at h
  have:c=39:=by
   rw[show (39:UInt8)::(u++[c])=(39::u)++[c]from rfl,List.getLast?_append]at h2;simpa using h2
  subst this;simp
def Gn(c:UInt8):Prop:=c≠10/\c≠44/\c≠58/\c≠61
theorem Xz{c:UInt8}(h:Ba c=true):Gn c:=by
 rw[Dc]at h;refine⟨?_,?_,?_,?_⟩<;>(rintro rfl;revert h;decide)
theorem Yn{c:UInt8}(h:H7 c=true):Gn c:=by
 rw[J7]at h;refine⟨?_,?_,?_,?_⟩<;>(rintro rfl;revert h;decide)
theorem Qea{c:UInt8}(h:Cb c=true):Gn c:=by
 unfold Cb at h;simp only[Bool.or_eq_true]at h;rcases h with(h|h)|h
 ·exact Yn h
 ·exact Xz h
 have:c=32:=aS;subst this;exact⟨by decide,by decide,by decide,by decide⟩
theorem Qcu{c:UInt8}(h:Bc c=true):Gn c:=by
 unfold Bc at h;simp only[Bool.or_eq_true,beq_iff_eq]at h;rcases h with rfl|rfl<;>exact⟨by decide,by decide,by decide,by decide⟩
theorem Ep(n:Nat):∀c∈Aw n,Gn c:=fun c hc=>Xz (List.all_eq_true.1 (Km n) c hc)
theorem Dq{s:List UInt8}(h:Av s=true):∀c∈s,Gn c:=fun c hc=>Yn ((Dp.1 h).2.2 c hc)
theorem Jl{k:Kd}(h:Cu k):∀c∈Bn k,Gn c:=by
 intro c hc;obtain⟨h1,h2,_⟩:=h;unfold Bn Cm at hc;rcases ag.1 hc with hc|hc
 ·exact Qcu (List.all_eq_true.1 h1 c hc)
 rcases h2 with⟨h,hn⟩|⟨h,_⟩
 ·rw[if_pos h]at hc;rcases aA.1 hc with rfl|hc
  ·exact⟨by decide,by decide,by decide,by decide⟩
  rcases ag.1 hc with hc|hc
  ·exact Dq hn c hc
  simp at hc;subst hc;exact⟨by decide,by decide,by decide,by decide⟩
 rw[if_neg (by rcases h with h|h|h<;>· rw[h];decide)]at hc;rcases h with h|h|h<;>· rw[h]at hc;simp at hc;subst hc;exact⟨by decide,by decide,by decide,by decide⟩
theorem Mb{b s:List UInt8}(h:Bx b s=true):s≠[]/\∀c∈s,Gn c:=by
 unfold Bx at h;split at h
 ·cases hd:Ci s with
  |none=>rw[hd]at h;cases h
  |some n=>
   obtain⟨_,e⟩:=B0.1 hd;subst e;exact⟨Qp n,Ep n⟩
 split at h
 ·simp only[aw,decide_eq_true_eq]at h;obtain⟨⟨⟨h1,h2⟩,h3⟩,h4⟩:=h;have e:=Qcd h1 h2 h3;refine⟨by intro hh;rw[hh]at h1;simp at h1,fun c hc=>?_⟩;rw[e]at hc;have q:Gn 39:=⟨by decide,by decide,by decide,by decide⟩
  rcases aA.1 hc with rfl|hc
  ·exact q
  rcases ag.1 hc with hc|hc
  ·unfold Db at h4;simp only[aw]at h4;exact Qea (List.all_eq_true.1 h4.2 c hc)
  simp at hc;subst hc;exact q
 split at h
 ·simp only[decide_eq_true_eq]at h;subst h;refine⟨by simp,fun c hc=>?_⟩;simp at hc;rcases hc with rfl|rfl|rfl<;>exact⟨by decide,by decide,by decide,by decide⟩
 cases h
theorem Nd{b s:List UInt8}(h:Bx b s=true):b=[110]\/b=[116]\/b=[102]:=by
 unfold Bx at h;split at h
 ·exact .inl (by assumption)
 split at h
 ·exact .inr (.inl (by assumption))
 split at h
 ·exact .inr (.inr (by assumption))
 cases h
structure Fd where
 tag:Nat
 name:List UInt8
 kind:Kd
 given:List UInt8
deriving DecidableEq
def Kp(st:UInt8)(f:Fd):List UInt8:=if st=69 then[]else 58::(Bn f.kind++if f.given=[]then[]else 61::f.given)
def Nx(st:UInt8)(f:Fd):List UInt8:=Aw f.tag++58::(f.name++Kp st f)
def Te(st:UInt8)(f:Fd):Prop:=
 1<=f.tag/\f.tag<=200/\Av f.name=true/\(st=69->f.kind=Kd.nil/\f.given=[]) /\
 (st≠69->Cu f.kind/\(f.given≠[]->st=82/\f.kind.signs=[]/\Bx f.kind.base f.given=true))
theorem D5{s:List UInt8}(h:∀c∈s,Gn c):10∉s/\44∉s/\58∉s/\61∉s:=
 ⟨fun hc=>(h _ hc).1 rfl,fun hc=>(h _ hc).2.1 rfl,fun hc=>(h _ hc).2.2.1 rfl,fun hc=>(h _ hc).2.2.2 rfl⟩
def J4(p:List (List UInt8)):Option (Nat × List UInt8):=
 match p with
 |[a,b]=>(match Ci a with|some n=>if 1<=n/\n<=200/\Av b=true then some (n,b)else none|none=>none)
 |_=>none
def Kv(p:List (List UInt8)):Option (Nat × List UInt8 × List UInt8):=
 match p with
 |[a,b,c]=>(match Ci a with|some n=>if 1<=n/\n<=200/\Av b=true then some (n,b,c)else none|none=>none)
 |_=>none
def Gs(st:UInt8)(s:List UInt8):Option Fd:=
 if st=69 then
  match J4 (Ag 58 (Cy 61 s).1)with
  |some (n,b)=>if (Cy 61 s).2.2=true then none else some ⟨n,b,Kd.nil,(Cy 61 s).2.1⟩
  |none=>none
 else
  match Kv (Ag 58 (Cy 61 s).1)with
  |some (n,b,c)=>(match Ck c with
   |some k=>if (Cy 61 s).2.2=true/\¬(st=82/\k.signs=[]/\Bx k.base (Cy 61 s).2.1=true)then none else some ⟨n,b,k,(Cy 61 s).2.1⟩
   |none=>none)
  |none=>none
def Bu(st:UInt8)(s:List UInt8):Option Fd:=
 if st=69 then
  match J4 (Ag 58 s)with
  |some (n,b)=>some ⟨n,b,Kd.nil,[]⟩
  |none=>none
 else
  match Kv (Ag 58 s)with
  |some (n,b,c)=>(match Ag 61 c with
   |[k]=>(match Ck k with|some k=>some ⟨n,b,k,[]⟩|none=>none)
   |[k,v]=>if st=82/\Bx k v=true then some ⟨n,b,⟨[],k,[]⟩,v⟩else none
   |_=>none)
  |none=>none
theorem Jk{p:List (List UInt8)}{n:Nat}{b:List UInt8}:J4 p=some (n,b)↔p=[Aw n,b]/\1<=n/\n<=200/\Av b=true:=by
 unfold J4;constructor
 ·intro h;split at h
  ·rename_i a b';cases hd:Ci a with
   |none=>rw[hd]at h;cases h
   |some m=>
    rw[hd]at h;simp only at h;split at h
    ·rename_i hc;simp at h;obtain⟨rfl,rfl⟩:=h;rw[(B0.1 hd).2];exact⟨rfl,hc⟩
    cases h
  cases h
 rintro⟨rfl,h⟩;have e:=B0.2 ⟨(by omega:n<=999999),(rfl:Aw n=Aw n)⟩;simp only[e,if_pos h]
theorem Fu{p:List (List UInt8)}{n:Nat}{b c:List UInt8}:Kv p=some (n,b,c)↔p=[Aw n,b,c]/\1<=n/\n<=200/\Av b=true:=by
 unfold Kv;constructor
 ·intro h;split at h
  ·rename_i a b' c';cases hd:Ci a with
   |none=>rw[hd]at h;cases h
   |some m=>
    rw[hd]at h;simp only at h;split at h
    ·rename_i hc;simp at h;obtain⟨rfl,rfl,rfl⟩:=h;rw[(B0.1 hd).2];exact⟨rfl,hc⟩
    cases h
  cases h
 rintro⟨rfl,h⟩;have e:=B0.2 ⟨(by omega:n<=999999),(rfl:Aw n=Aw n)⟩;simp only[e,if_pos h]
theorem Pe{k:List UInt8}(h:k=[110]\/k=[116]\/k=[102]):Cu ⟨[],k,[]⟩/\Bn ⟨[],k,[]⟩=k:=by
 rcases h with rfl|rfl|rfl<;>exact⟨⟨rfl,.inr ⟨by simp,rfl⟩,by decide⟩,by decide⟩
theorem Fp{st:UInt8}{s:List UInt8}{f:Fd}:Bu st s=some f↔Te st f/\Nx st f=s:=by
 obtain⟨tg,nm,k,gv⟩:=f;unfold Bu;by_cases hst:st=69
 ·rw[if_pos hst];constructor
  ·intro h;cases hp:J4 (Ag 58 s)with
   |none=>rw[hp]at h;cases h
   |some x=>
    obtain⟨n,b⟩:=x;rw[hp]at h;simp at h;obtain⟨rfl,rfl,rfl,rfl⟩:=h;obtain⟨e,h1,h2,h3⟩:=Jk.1 hp;obtain⟨_,_,e2⟩:=Dr.1 e;exact⟨⟨h1,h2,h3,fun _=>⟨rfl,rfl⟩,fun h=>absurd hst h⟩,by rw[<-e2];simp[Nx,Kp,hst,Ar]⟩
  rintro⟨⟨h1,h2,h3,h4,_⟩,rfl⟩;obtain⟨e1,e2⟩:=h4 hst;simp only at h1 h2 h3 e1 e2;subst e1;subst e2
  have hs:Ag 58 (Nx st ⟨tg,nm,Kd.nil,[]⟩)=[Aw tg,nm]:=Dr.2 ⟨by simp,by
   intro p hp;simp at hp;rcases hp with rfl|rfl
   ·exact iB
   exact(D5 (Dq h3)).2.2.1,by simp[Nx,Kp,hst,Ar]⟩
  rw[hs,Jk.2 ⟨rfl,h1,h2,h3⟩]
 rw[if_neg hst];constructor
 ·intro h;cases hp:Kv (Ag 58 s)with
  |none=>rw[hp]at h;cases h
  |some x=>
   obtain⟨n,b,c⟩:=x;rw[hp]at h;simp only at h;obtain⟨e,h1,h2,h3⟩:=Fu.1 hp;obtain⟨_,_,e2⟩:=Dr.1 e;split at h
   ·rename_i k' hk;obtain⟨_,_,e3⟩:=Dr.1 hk;simp[Ar]at e3;subst e3;cases hkl:Ck k' with
    |none=>rw[hkl]at h;cases h
    |some kk=>
     rw[hkl]at h;simp at h;obtain⟨rfl,rfl,rfl,rfl⟩:=h;obtain⟨hk1,hk2⟩:=En.1 hkl;exact⟨⟨h1,h2,h3,fun h=>absurd h hst,fun _=>⟨hk1,fun h=>absurd rfl h⟩⟩,by rw[<-e2];simp[Nx,Kp,hst,Ar,hk2]⟩
   ·rename_i k' v hk;split at h
    ·rename_i hc;simp at h;obtain⟨rfl,rfl,rfl,rfl⟩:=h;obtain⟨_,_,e3⟩:=Dr.1 hk;obtain⟨hn,_⟩:=Mb hc.2;obtain⟨o1,o2⟩:=Pe (Nd hc.2);refine⟨⟨h1,h2,h3,fun h=>absurd h hst,fun _=>⟨o1,fun _=>⟨hc.1,rfl,hc.2⟩⟩⟩,?_⟩;rw[<-e2,<-e3];simp[Nx,Kp,hst,Ar,o2,hn]
    cases h
   cases h
 rintro⟨⟨h1,h2,h3,_,h4⟩,rfl⟩;obtain⟨hk,hg⟩:=h4 hst;simp only at h1 h2 h3 hk hg;by_cases hgv:gv=[]
 ·subst hgv
  have hs:Ag 58 (Nx st ⟨tg,nm,k,[]⟩)=[Aw tg,nm,Bn k]:=Dr.2 ⟨by simp,by
   intro p hp;simp at hp;rcases hp with rfl|rfl|rfl
   ·exact iB
   ·exact(D5 (Dq h3)).2.2.1
   exact(D5 (Jl hk)).2.2.1,by simp[Nx,Kp,hst,Ar]⟩
  rw[hs,Fu.2 ⟨rfl,h1,h2,h3⟩];simp only;rw[Ez 61 (Bn k) (D5 (Jl hk)).2.2.2];simp only;rw[En.2 ⟨hk,rfl⟩]
 obtain⟨g1,g2,g3⟩:=hg hgv;obtain⟨_,hp⟩:=Mb g3;have hb:=Nd g3;obtain⟨o1,o2⟩:=Pe hb;have ek:k=⟨[],k.base,[]⟩:=by
  obtain⟨sg,b,nm'⟩:=k;simp only at g2 hb;subst g2;obtain⟨_,hbo,_⟩:=hk;rcases hbo with⟨h,_⟩|⟨_,h⟩
  ·exfalso
   simp only at h;rcases hb with hb|hb|hb<;>· rw[h]at hb;revert hb;decide
  simp only at h;rw[h]
 have eB:Bn k=k.base:=by rw[ek];exact o2
 have nb:∀c∈Bn k,Gn c:=Jl hk
 have hs:Ag 58 (Nx st ⟨tg,nm,k,gv⟩)=[Aw tg,nm,Bn k++61::gv]:=Dr.2 ⟨by simp,by
  intro p hp';simp at hp';rcases hp' with rfl|rfl|rfl
  ·exact iB
  ·exact(D5 (Dq h3)).2.2.1
  intro hc;rcases ag.1 hc with hc|hc
  ·exact(D5 nb).2.2.1 hc
  rcases aA.1 hc with hc|hc
  ·revert hc;decide
  exact(D5 hp).2.2.1 hc,by simp[Nx,Kp,hst,Ar,hgv]⟩
 rw[hs,Fu.2 ⟨rfl,h1,h2,h3⟩];simp only;rw[Ja 61 (Bn k) gv (D5 nb).2.2.2,Ez 61 gv (D5 hp).2.2.2];simp only;rw[eB,if_pos ⟨g1,g3⟩,<-ek]
theorem Sr{st:UInt8}{s:List UInt8}{f:Fd}:Gs st s=some f↔Te st f/\Nx st f=s:=by
 obtain⟨tg,nm,k,gv⟩:=f;constructor
 ·intro h;unfold Gs at h;by_cases hst:st=69
  ·rw[if_pos hst]at h;cases hp:J4 (Ag 58 (Cy 61 s).1)with
   |none=>rw[hp]at h;cases h
   |some x=>
    obtain⟨n,b⟩:=x;rw[hp]at h;simp only at h;obtain⟨e,h1,h2,h3⟩:=Jk.1 hp;obtain⟨_,_,e2⟩:=Dr.1 e;rcases E7 61 s with⟨hn,hc⟩|⟨p,t,_,_,hc⟩
    ·rw[hc]at h e2;simp at h;obtain⟨rfl,rfl,rfl,rfl⟩:=h;exact⟨⟨h1,h2,h3,fun _=>⟨rfl,rfl⟩,fun h=>absurd hst h⟩,by simp only at e2;rw[<-e2];simp[Nx,Kp,hst,Ar]⟩
    rw[hc]at h;simp at h
  rw[if_neg hst]at h;cases hp:Kv (Ag 58 (Cy 61 s).1)with
  |none=>rw[hp]at h;cases h
  |some x=>
   obtain⟨n,b,c⟩:=x;rw[hp]at h;simp only at h;obtain⟨e,h1,h2,h3⟩:=Fu.1 hp;obtain⟨_,_,e2⟩:=Dr.1 e;cases hkl:Ck c with
   |none=>rw[hkl]at h;cases h
   |some kk=>
    obtain⟨hk1,hk2⟩:=En.1 hkl;rw[hkl]at h;simp only at h;rcases E7 61 s with⟨hn,hc⟩|⟨p,t,ec,_,hc⟩
    ·rw[hc]at h e2;simp at h;obtain⟨rfl,rfl,rfl,rfl⟩:=h;exact⟨⟨h1,h2,h3,fun h=>absurd h hst,fun _=>⟨hk1,fun h=>absurd rfl h⟩⟩,by simp only at e2;rw[<-e2];simp[Nx,Kp,hst,Ar,hk2]⟩
    rw[hc]at h e2;simp only at h e2;split at h
    ·cases h
    rename_i hcc;have hcc':st=82/\kk.signs=[]/\Bx kk.base t=true:=Decidable.byContradiction fun hh=>hcc ⟨trivial,hh⟩;simp at h;obtain⟨rfl,rfl,rfl,rfl⟩:=h;obtain⟨hn,_⟩:=Mb hcc'.2.2;exact⟨⟨h1,h2,h3,fun h=>absurd h hst,fun _=>⟨hk1,fun _=>hcc'⟩⟩,by rw[ec,<-e2];simp[Nx,Kp,hst,Ar,hk2,hn]⟩
 intro h;have hS:=Fp.2 h;obtain⟨⟨h1,h2,h3,h4,h5⟩,rfl⟩:=h;simp only at h1 h2 h3 h4 h5;unfold Gs;by_cases hst:st=69
 ·obtain⟨e1,e2⟩:=h4 hst;subst e1;subst e2;have hno:61∉Nx st ⟨tg,nm,Kd.nil,[]⟩:=by
   simp[Nx,Kp,hst];exact⟨(D5 (Ep tg)).2.2.2,(D5 (Dq h3)).2.2.2⟩
  rw[if_pos hst,Pn hno];simp only
  have hs:Ag 58 (Nx st ⟨tg,nm,Kd.nil,[]⟩)=[Aw tg,nm]:=Dr.2 ⟨by simp,by
   intro p hp;simp at hp;rcases hp with rfl|rfl
   ·exact iB
   exact(D5 (Dq h3)).2.2.1,by simp[Nx,Kp,hst,Ar]⟩
  rw[hs,Jk.2 ⟨rfl,h1,h2,h3⟩];simp
 obtain⟨hk,hg⟩:=h5 hst;have nb:∀c∈Bn k,Gn c:=Jl hk;have hno:61∉Aw tg++58::(nm++58::Bn k):=by
  simp;exact⟨(D5 (Ep tg)).2.2.2,(D5 (Dq h3)).2.2.2,(D5 nb).2.2.2⟩
 have hs:Ag 58 (Aw tg++58::(nm++58::Bn k))=[Aw tg,nm,Bn k]:=Dr.2 ⟨by simp,by
  intro p hp;simp at hp;rcases hp with rfl|rfl|rfl
  ·exact iB
  ·exact(D5 (Dq h3)).2.2.1
  exact(D5 nb).2.2.1,by simp[Ar]⟩
 rw[if_neg hst];by_cases hgv:gv=[]
 ·subst hgv;have e:Nx st ⟨tg,nm,k,[]⟩=Aw tg++58::(nm++58::Bn k):=by simp[Nx,Kp,hst]
  rw[e,Pn hno];simp only;rw[hs,Fu.2 ⟨rfl,h1,h2,h3⟩];simp only;rw[En.2 ⟨hk,rfl⟩];simp
 have e:Nx st ⟨tg,nm,k,gv⟩=(Aw tg++58::(nm++58::Bn k))++61::gv:=by simp[Nx,Kp,hst,hgv]
 rw[e,Ec hno];simp only;rw[hs,Fu.2 ⟨rfl,h1,h2,h3⟩];simp only;rw[En.2 ⟨hk,rfl⟩];simp only;rw[if_neg (fun hh=>hh.2 (hg hgv))]
theorem Qfg(st:UInt8)(s:List UInt8):Gs st s=Bu st s:=by
 cases h:Bu st s with
 |some f=>exact Sr.2 (Fp.1 h)
 |none=>
  cases h2:Gs st s with
  |none=>rfl
  |some f=>rw[Fp.2 (Sr.1 h2)]at h;cases h
theorem Rh{st:UInt8}{f:Fd}(h:Te st f):10∉Nx st f/\44∉Nx st f/\Nx st f≠[]:=by
 obtain⟨h1,h2,h3,h4,h5⟩:=h;have hd:=Qp f.tag;refine⟨?_,?_,by unfold Nx;simp⟩;all_goals
  unfold Nx Kp;simp only[ag,aA,not_or];refine⟨?_,by decide,?_,?_⟩
  ·first|exact(D5 (Ep f.tag)).1|exact(D5 (Ep f.tag)).2.1
  ·first|exact(D5 (Dq h3)).1|exact(D5 (Dq h3)).2.1
  ·by_cases hst:st=69
   ·rw[if_pos hst];simp
   rw[if_neg hst];obtain⟨hk,hg⟩:=h5 hst;simp only[ag,aA,not_or];refine⟨by decide,?_,?_⟩
   ·first|exact(D5 (Jl hk)).1|exact(D5 (Jl hk)).2.1
   by_cases hgv:f.given=[]
   ·rw[if_pos hgv];simp
   rw[if_neg hgv];have hp:=(Mb (hg hgv).2.2).2;simp only[aA,not_or];refine⟨by decide,?_⟩;first|exact(D5 hp).1|exact(D5 hp).2.1
theorem Qdw{st:UInt8}{f g:Fd}(hf:Te st f)(hg:Te st g)(h:Nx st f=Nx st g):f=g:=by
 have h1:=Fp.2 ⟨hf,rfl⟩;have h2:=Fp.2 ⟨hg,h.symm⟩;rw[h1]at h2;injection h2
structure Ty where
 sort:UInt8
 name:List UInt8
 fields:List Fd
deriving DecidableEq
def Fk(fs:List Fd)(f:Fd):Bool:=fs.all fun g=>decide (g.name≠f.name) && decide (g.tag<f.tag)
def E3(st:UInt8):List (List UInt8)->List Fd->Option (List Fd)
 |[],acc=>some acc
 |p::ps,acc=>match Gs st p with
  |none=>none
  |some f=>if acc.length=8\/Fk acc f=false then none else E3 st ps (acc++[f])
def Dh(st:UInt8):List (List UInt8)->List Fd->Option (List Fd)
 |[],acc=>some acc
 |p::ps,acc=>match Bu st p with
  |none=>none
  |some f=>if Fk acc f=false then none else Dh st ps (acc++[f])
def Fds(st:UInt8)(fs:List Fd):Prop:=(∀f∈fs,Te st f)/\fs.Pairwise fun g f=>g.name≠f.name/\g.tag<f.tag
theorem Kq{fs:List Fd}{f:Fd}:Fk fs f=true↔∀g∈fs,g.name≠f.name/\g.tag<f.tag:=by simp[Fk]
theorem Qam{st:UInt8}{fs:List Fd}{f:Fd}:Fds st (fs++[f])↔Fds st fs/\Te st f/\Fk fs f=true:=by
 unfold Fds;rw[Kq,List.pairwise_append];constructor
 ·rintro⟨h1,h2,_,h3⟩;exact⟨⟨fun g hg=>h1 g (by simp[hg]),h2⟩,h1 f aM,fun g hg=>h3 g hg f aM⟩
 rintro⟨⟨h1,h2⟩,h3,h4⟩;refine⟨fun g hg=>?_,h2,by simp,fun g hg f' hf'=>?_⟩
 ·rcases ag.1 hg with hg|hg
  ·exact h1 g hg
  simp at hg;subst hg;exact h3
 simp at hf';subst hf';exact h4 g hg
theorem Nh(st:UInt8):∀(ps:List (List UInt8)) (acc r:List Fd),Fds st acc->(Dh st ps acc=some r↔Fds st r/\∃gs,r=acc++gs/\gs.map (Nx st)=ps)
 |[],acc,r,ha=>by
  simp only[Dh,ak];constructor
  ·rintro rfl;exact⟨ha,[],by simp,rfl⟩
  rintro⟨_,gs,e,h⟩;have:gs=[]:=aS;subst this;simpa using e.symm
 |p::ps,acc,r,ha=>by
  simp only[Dh];cases hf:Bu st p with
  |none=>
   simp only[reduceCtorEq,false_iff];rintro⟨hr,gs,rfl,h⟩;cases gs with
   |nil=>simp at h
   |cons g gs=>
    simp at h;have:=Fp.2 ⟨hr.1 g aM,h.1⟩;rw[this]at hf;cases hf
  |some f=>
   obtain⟨ok,eb⟩:=Fp.1 hf;simp only;by_cases hfit:Fk acc f=false
   ·rw[if_pos hfit];simp only[reduceCtorEq,false_iff];rintro⟨hr,gs,rfl,h⟩;cases gs with
    |nil=>simp at h
    |cons g gs=>
     simp at h;have hg:g=f:=Qdw (hr.1 g aM) ok (h.1.trans eb.symm);subst hg;have h2:Fds st (acc++[g]++gs):=dU;have h3:Fds st (acc++[g]):=⟨fun x hx=>h2.1 x (by simp at hx ⊢;rcases hx with hx|hx<;>simp[hx]),(List.pairwise_append.1 h2.2).1⟩
     rw[(Qam.1 h3).2.2]at hfit;cases hfit
   rw[if_neg hfit];have hfit':Fk acc f=true:=by simpa using hfit
   rw[Nh st ps (acc++[f]) r (Qam.2 ⟨ha,ok,hfit'⟩)];constructor
   ·rintro⟨hr,gs,rfl,h⟩;exact⟨hr,f::gs,by simp,by simp[eb,h]⟩
   rintro⟨hr,gs,rfl,h⟩;cases gs with
   |nil=>simp at h
   |cons g gs=>
    simp at h;have hg:g=f:=Qdw (hr.1 g aM) ok (h.1.trans eb.symm);subst hg;exact⟨hr,gs,by simp,h.2⟩
theorem Qj(st:UInt8):∀(ps:List (List UInt8)) (acc:List Fd),acc.length<=8->E3 st ps acc=(match Dh st ps acc with|some r=>if r.length<=8 then some r else none|none=>none)
 |[],acc,h=>by simp[E3,Dh,h]
 |p::ps,acc,h=>by
  simp only[E3,Dh,Qfg];cases hf:Bu st p with
  |none=>rfl
  |some f=>
   simp only;by_cases hfit:Fk acc f=false
   ·rw[if_pos (.inr hfit),if_pos hfit]
   rw[if_neg hfit];by_cases h8:acc.length=8
   ·rw[if_pos (.inl h8)];have key:∀(ps:List (List UInt8)) (a r:List Fd),Dh st ps a=some r->a.length<=r.length:=by
     intro ps;induction ps with
     |nil=>intro a r h;simp[Dh]at h;rw[h];exact Nat.le_refl _
     |cons q qs ih=>
      intro a r h;simp only[Dh]at h;split at h
      ·cases h
      split at h
      ·cases h
      have:=ih _ _ h;simp at this;omega
    cases hr:Dh st ps (acc++[f])with
    |none=>rfl
    |some r=>
     have:=key _ _ _ hr;simp at this;simp only;rw[if_neg aH]
   rw[if_neg (by simp[h8,hfit])];exact Qj st ps (acc++[f]) aN
def Ds(c:UInt8):Prop:=c=82\/c=85\/c=69
instance (c:UInt8):Decidable (Ds c):=by unfold Ds;infer_instance
def Ek(t:Ty):Prop:=Ds t.sort/\Av t.name=true/\Fds t.sort t.fields/\t.fields.length<=8/\(t.fields=[]->t.sort=82)
def Yw(t:Ty):List UInt8:=t.sort::(t.name++61::Ar 44 (t.fields.map (Nx t.sort)))
def Eh(s:List UInt8):Option Ty:=
 match s with
 |[]=>none
 |c::r=>
  if ¬Ds c\/(Cy 61 r).2.2=false\/Av (Cy 61 r).1=false then none
  else if (Cy 61 r).2.1=[]then(if c=82 then some ⟨c,(Cy 61 r).1,[]⟩else none)
  else match E3 c (Ag 44 (Cy 61 r).2.1) []with
   |some fs=>some ⟨c,(Cy 61 r).1,fs⟩
   |none=>none
theorem Qgi{c:UInt8}{ps:List (List UInt8)}(h:ps≠[])(h1:∀p∈ps,p≠[]):Ar c ps≠[]:=by
 cases ps with
 |nil=>exact absurd rfl h
 |cons p ps=>
  have:=h1 p aM;cases ps with
  |nil=>exact this
  |cons q ps=>rw[Cl c p aM];simp
theorem Y8(st:UInt8):Fds st []:=⟨by simp,List.Pairwise.nil⟩
theorem Rf{st:UInt8}{ps:List (List UInt8)}{r:List Fd}:E3 st ps []=some r↔Fds st r/\r.length<=8/\r.map (Nx st)=ps:=by
 rw[Qj st ps [] aM];constructor
 ·intro h;cases hs:Dh st ps []with
  |none=>rw[hs]at h;cases h
  |some x=>
   rw[hs]at h;simp only at h;split at h
   ·rename_i h8;injection h with h;subst h;obtain⟨h1,gs,e,h2⟩:=(Nh st ps [] x (Y8 st)).1 hs;simp at e;subst e;exact⟨h1,h8,h2⟩
   cases h
 rintro⟨h1,h2,h3⟩;rw[(Nh st ps [] r (Y8 st)).2 ⟨h1,r,by simp,h3⟩];simp[h2]
theorem Qev{c:UInt8}(h:Ds c):c≠61/\c≠10:=by
 rcases h with rfl|rfl|rfl<;>exact⟨by decide,by decide⟩
theorem E5{s:List UInt8}{t:Ty}:Eh s=some t↔Ek t/\Yw t=s:=by
 obtain⟨st,nm,fs⟩:=t;constructor
 ·intro h;unfold Eh at h;split at h
  ·cases h
  rename_i c r;split at h
  ·cases h
  rename_i hc;have hc1:Ds c:=Decidable.byContradiction fun hh=>hc (.inl hh);have hc2:(Cy 61 r).2.2=true:=by
   cases hb:(Cy 61 r).2.2 with
   |true=>rfl
   |false=>exact absurd (.inr (.inl hb)) hc
  have hc3:Av (Cy 61 r).1=true:=by
   cases hb:Av (Cy 61 r).1 with
   |true=>rfl
   |false=>exact absurd (.inr (.inr hb)) hc
  rcases E7 61 r with⟨_,e⟩|⟨p,u,er,hp,e⟩
  ·rw[e]at hc2;cases hc2
  rw[e]at h hc3;simp only at h hc3;split at h
  ·rename_i hu;subst hu;split at h
   ·rename_i h82;injection h with h;injection h with e1 e2 e3;subst e1;subst e2;subst e3;exact⟨⟨hc1,hc3,Y8 _,by simp,fun _=>h82⟩,by rw[er];simp[Yw,Ar]⟩
   cases h
  rename_i hu;cases hf:E3 c (Ag 44 u) []with
  |none=>rw[hf]at h;cases h
  |some x=>
   rw[hf]at h;injection h with h;injection h with e1 e2 e3;subst e1;subst e2;subst e3;obtain⟨f1,f2,f3⟩:=Rf.1 hf;obtain⟨s1,_,s3⟩:=Dr.1 f3.symm;exact⟨⟨hc1,hc3,f1,f2,fun hh=>by simp only at hh;subst hh;exact absurd rfl s1⟩,by rw[er];simp only[Yw];rw[s3]⟩
 rintro⟨⟨h1,h2,h3,h4,h5⟩,rfl⟩;simp only at h1 h2 h3 h4 h5;have hno:61∉nm:=(D5 (Dq h2)).2.2.2;unfold Eh Yw;simp only;rw[Ec hno];simp only;rw[if_neg (by simp[h1,h2])];by_cases hf:fs=[]
 ·subst hf;rw[h5 rfl];simp[Ar]
 have hn:Ar 44 (fs.map (Nx st))≠[]:=Qgi (by simpa using hf) (by
  intro p hp;obtain⟨f,hf',rfl⟩:=ax.1 hp;exact(Rh (h3.1 f hf')).2.2)
 have hs:Ag 44 (Ar 44 (fs.map (Nx st)))=fs.map (Nx st):=Jr 44 _ (by simpa using hf) (by
  intro p hp;obtain⟨f,hf',rfl⟩:=ax.1 hp;exact(Rh (h3.1 f hf')).2.1)
 rw[if_neg hn,hs,Rf.2 ⟨h3,h4,rfl⟩]
theorem Yd{t:Ty}(h:Ek t):10∉Yw t/\Yw t≠[]:=by
 refine⟨?_,by unfold Yw;simp⟩;obtain⟨h1,h2,h3,_,_⟩:=h;unfold Yw;simp only[ag,aA,not_or];refine⟨fun e=>(Qev h1).2 e.symm,(D5 (Dq h2)).1,by decide,?_⟩;have key:∀ps:List (List UInt8),(∀p∈ps,(10:UInt8)∉p)->(10:UInt8)∉Ar 44 ps:=by
  intro ps;induction ps with
  |nil=>intro _;simp[Ar]
  |cons p ps ih=>
   intro hp;cases ps with
   |nil=>exact hp p aM
   |cons q ps=>
    rw[Cl 44 p aM];simp only[ag,aA,not_or];refine⟨hp p aM,by decide,ih (fun x hx=>hp x (by simp[hx]))⟩
 apply key;intro p hp;obtain⟨f,hf',rfl⟩:=ax.1 hp;exact(Rh (h3.1 f hf')).1
theorem Zo{t u:Ty}(ht:Ek t)(hu:Ek u)(h:Yw t=Yw u):t=u:=by
 have h1:=E5.2 ⟨ht,rfl⟩;have h2:=E5.2 ⟨hu,h.symm⟩;rw[h1]at h2;injection h2
def scB(S:List Ty):List UInt8:=S.flatMap fun t=>Yw t++[10]
def Kw(S:List Ty):Prop:=(∀t∈S,Ek t)/\S.length<=8/\S.Pairwise fun t u=>t.name≠u.name
def Fc:Nat->List UInt8->List Ty->Option (List Ty)
 |0,_,_=>none
 |n+1,s,acc=>
  if s=[]then some acc
  else if (Cy 10 s).2.2=false\/acc.length=8 then none
  else match Eh (Cy 10 s).1 with
   |none=>none
   |some t=>if acc.any (fun u=>decide (u.name=t.name))=true then none else Fc n (Cy 10 s).2.1 (acc++[t])
theorem Qaa{S:List Ty}{t:Ty}:Kw (S++[t])↔Kw S/\Ek t/\S.length<8/\S.any (fun u=>decide (u.name=t.name))=false:=by
 unfold Kw;rw[List.pairwise_append];constructor
 ·rintro⟨h1,h2,h3,_,h4⟩;simp at h2;refine⟨⟨fun u hu=>h1 u (by simp[hu]),by omega,h3⟩,h1 t aM,by omega,?_⟩;simp;intro u hu;exact h4 u hu t aM
 rintro⟨⟨h1,h2,h3⟩,h4,h5,h6⟩;simp at h6;refine⟨fun u hu=>?_,by simp;omega,h3,by simp,fun u hu v hv=>?_⟩
 ·rcases ag.1 hu with hu|hu
  ·exact h1 u hu
  simp at hu;subst hu;exact h4
 simp at hv;subst hv;exact h6 u hu
theorem Pj(t:Ty)(S:List Ty):scB (t::S)=Yw t++10::scB S:=by simp[scB]
theorem Su:∀(n:Nat) (s:List UInt8) (acc r:List Ty),s.length<n->Kw acc->(Fc n s acc=some r↔Kw r/\∃U,r=acc++U/\scB U=s)
 |0,s,acc,r,h,_=>absurd h (Nat.not_lt_zero _)
 |n+1,s,acc,r,h,ha=>by
  simp only[Fc];by_cases hs:s=[]
  ·subst hs;rw[if_pos rfl];constructor
   ·intro hh;injection hh with hh;subst hh;exact⟨ha,[],by simp,rfl⟩
   rintro⟨_,U,rfl,e⟩;cases U with
   |nil=>simp
   |cons t U=>rw[Pj]at e;simp at e
  rw[if_neg hs];rcases E7 10 s with⟨hn,e⟩|⟨p,u,es,hp,e⟩
  ·rw[e,if_pos (.inl rfl)];simp only[reduceCtorEq,false_iff];rintro⟨_,U,rfl,eU⟩;cases U with
   |nil=>exact hs eU.symm
   |cons t U=>rw[Pj]at eU;rw[<-eU]at hn;simp at hn
  rw[e];simp only;by_cases h8:acc.length=8
  ·rw[if_pos (.inr h8)];simp only[reduceCtorEq,false_iff];rintro⟨hr,U,rfl,eU⟩;cases U with
   |nil=>exact hs eU.symm
   |cons t U=>have:=hr.2.1;simp at this;omega
  rw[if_neg (by simp[h8])];have hsplit:∀t U,Ek t->scB (t::U)=s->Yw t=p/\scB U=u:=by
   intro t U ht eU;rw[Pj,es]at eU;have h1:=Ec (s:=scB U) (Yd ht).1;rw[eU,Ec hp]at h1;injection h1 with e1 e2;injection e2 with e2 _;exact⟨e1.symm,e2.symm⟩
  cases ht:Eh p with
  |none=>
   simp only[reduceCtorEq,false_iff];rintro⟨hr,U,rfl,eU⟩;cases U with
   |nil=>exact hs eU.symm
   |cons t U=>
    have ok:Ek t:=hr.1 t aM;rw[E5.2 ⟨ok,(hsplit t U ok eU).1⟩]at ht;cases ht
  |some t=>
   obtain⟨ok,eb⟩:=E5.1 ht;simp only;by_cases hd:acc.any (fun u=>decide (u.name=t.name))=true
   ·rw[if_pos hd];simp only[reduceCtorEq,false_iff];rintro⟨hr,U,rfl,eU⟩;cases U with
    |nil=>exact hs eU.symm
    |cons t' U=>
     have ok':Ek t':=hr.1 t' aM;have ett:t'=t:=Zo ok' ok ((hsplit t' U ok' eU).1.trans eb.symm);subst ett;simp at hd;obtain⟨v,hv,hvn⟩:=hd;exact(List.pairwise_append.1 hr.2.2).2.2 v hv t' aM hvn
   rw[if_neg hd];have hlen:u.length<n:=by rw[es]at h;simp at h;omega
   rw[Su n u (acc++[t]) r hlen (Qaa.2 ⟨ha,ok,by have:=ha.2.1;omega,by simpa using hd⟩)];constructor
   ·rintro⟨hr,U,rfl,eU⟩;exact⟨hr,t::U,by simp,by rw[Pj,eb,eU,es]⟩
   rintro⟨hr,U,rfl,eU⟩;cases U with
   |nil=>exact absurd eU.symm hs
   |cons t' U=>
    have ok':Ek t':=hr.1 t' aM;obtain⟨e1,e2⟩:=hsplit t' U ok' eU;have ett:t'=t:=Zo ok' ok (e1.trans eb.symm);subst ett;exact⟨hr,U,by simp,e2⟩
def C9(s:List UInt8):Option Ty:=
 match Cy 61 s with
 |(c::nm,u,true)=>
  if ¬Av nm=true\/¬Ds c then none
  else if u=[]then(if c=82 then some ⟨c,nm,[]⟩else none)
  else match Dh c (Ag 44 u) []with
   |some r=>if r.length<=8 then some ⟨c,nm,r⟩else none
   |none=>none
 |_=>none
theorem Qas(s:List UInt8):C9 s=Eh s:=by
 cases s with
 |nil=>rfl
 |cons c r=>
  unfold C9 Eh;by_cases hc:c=61
  ·subst hc;have e:Cy 61 (61::r)=([],r,true):=Ec (p:=[]) aM;rw[e];simp only;rw[if_pos (.inl aL)]
  rcases E7 61 r with⟨hn,e⟩|⟨p,u,er,hp,e⟩
  ·have e2:Cy 61 (c::r)=(c::r,[],false):=Pn (by simp;exact⟨fun h=>hc h.symm,hn⟩);rw[e2];simp[e]
  have e2:Cy 61 (c::r)=(c::p,u,true):=by
   rw[er];exact Ec (p:=c::p) (by simp;exact⟨fun h=>hc h.symm,hp⟩)
  rw[e2];simp only[e];by_cases h1:Av p=true
  ·by_cases h2:Ds c
   ·by_cases hu:u=[]
    ·subst hu;simp[h1,h2]
    have hx:∀(a b:Option Ty),(if ¬Av p=true\/¬Ds c then a else b)=b:=fun a b=>if_neg (by simp[h1,h2]);have hy:∀(a b:Option Ty),(if ¬Ds c\/true=false\/Av p=false then a else b)=b:=fun a b=>if_neg (by simp[h1,h2]);have hz:∀(a b:Option Ty),(if u=[]then a else b)=b:=fun a b=>if_neg hu;rw[hx,hy,hz,hz,Qj c _ [] aM];cases Dh c (Ag 44 u) []with
    |none=>rfl
    |some r=>simp only;split<;>rfl
   rw[if_pos (.inr h2),if_pos (.inl h2)]
  rw[if_pos (.inl h1),if_pos (.inr (.inr dS))]
def E4:List (List UInt8)->Option (List Ty)
 |[]=>some []
 |p::ps=>match Eh p with
  |none=>none
  |some t=>match E4 ps with
   |none=>none
   |some ts=>some (t::ts)
theorem Ph:∀(ps:List (List UInt8)) (ts:List Ty),E4 ps=some ts↔(∀t∈ts,Ek t)/\ts.map Yw=ps
 |[],ts=>by
  simp only[E4,ak];constructor
  ·rintro rfl;simp
  rintro⟨_,h⟩;simpa using h.symm
 |p::ps,ts=>by
  simp only[E4];cases ht:Eh p with
  |none=>
   simp only[reduceCtorEq,false_iff];rintro⟨h,e⟩;cases ts with
   |nil=>simp at e
   |cons t ts=>
    simp at e;rw[E5.2 ⟨h t aM,e.1⟩]at ht;cases ht
  |some t=>
   obtain⟨ok,eb⟩:=E5.1 ht;simp only;have ih:=Ph ps;constructor
   ·intro h;cases hr:E4 ps with
    |none=>rw[hr]at h;cases h
    |some us=>
     rw[hr]at h;injection h with h;subst h;obtain⟨i1,i2⟩:=(ih us).1 hr;exact⟨by simpa using⟨ok,i1⟩,by simp[eb,i2]⟩
   rintro⟨h,e⟩;cases ts with
   |nil=>simp at e
   |cons u us=>
    simp at e;have:u=t:=Zo (h u aM) ok (e.1.trans eb.symm);subst this;rw[(ih us).2 ⟨fun x hx=>h x (by simp[hx]),e.2⟩]
def M9(s:List UInt8):Option (List Ty):=
 if 9<(Ag 10 s).length\/(Ag 10 s).getLast?≠some []then none else E4 (Ag 10 s).dropLast
theorem Qbx(S:List Ty):Ar 10 (S.map Yw++[[]])=scB S:=by
 induction S with
 |nil=>rfl
 |cons t S ih=>
  rw[ay,av,Cl 10 _ aM,ih,Pj]
theorem Qbs{s:List UInt8}{S:List Ty}:M9 s=some S↔(∀t∈S,Ek t)/\S.length<=8/\scB S=s:=by
 unfold M9;constructor
 ·intro h;split at h
  ·cases h
  rename_i hc;have h9:(Ag 10 s).length<=9:=by
   rcases aG 9 (Ag 10 s).length with hh|hh
   ·exact absurd (.inl hh) hc
   exact hh
  have hl:(Ag 10 s).getLast?=some []:=by
   refine Decidable.byContradiction fun hh=>hc (.inr hh)
  obtain⟨t1,t2⟩:=(Ph _ _).1 h;have e:Ag 10 s=S.map Yw++[[]]:=by
   rcases Em (Ag 10 s)with hh|⟨t,c,hh⟩
   ·exact absurd hh (D7 10 s)
   rw[hh]at hl t2 ⊢;simp at hl t2;rw[t2,hl]
  have hs:=Pd 10 s;rw[e,Qbx]at hs;rw[e]at h9;simp at h9;exact⟨t1,h9,hs⟩
 rintro⟨h1,h2,rfl⟩;have e:Ag 10 (scB S)=S.map Yw++[[]]:=by
  rw[<-Qbx];refine Jr 10 _ aM ?_;intro p hp;rcases ag.1 hp with hp|hp
  ·obtain⟨t,ht,rfl⟩:=ax.1 hp;exact(Yd (h1 t ht)).1
  simp at hp;subst hp;simp
 rw[e,if_neg aN];simp only[List.dropLast_concat];exact(Ph _ _).2 ⟨h1,rfl⟩
def Bw(S:List Ty)(n:List UInt8):Option Ty:=S.find? fun t=>decide (t.name=n)
theorem Bv{S:List Ty}{n:List UInt8}{t:Ty}(h:Bw S n=some t):t∈S/\t.name=n:=by
 have h1:=List.mem_of_find?_eq_some h;have h2:=List.find?_some h;exact⟨h1,by simpa using h2⟩
def B9(S:List Ty)(k:Kd):Prop:=k.base=[64]->(Bw S k.name).isSome=true
instance (S:List Ty) (k:Kd):Decidable (B9 S k):=by unfold B9;infer_instance
def Fy(S:List Ty):Prop:=∀t∈S,t.sort≠69->∀f∈t.fields,B9 S f.kind
instance (S:List Ty):Decidable (Fy S):=by unfold Fy;infer_instance
def E8(S:List Ty)(t:Ty):Option Ty:=
 if t.sort=85 then(match t.fields with
  |f::_=>if f.kind.signs=[]/\f.kind.base=[64]then Bw S f.kind.name else none
  |[]=>none)else none
def Bs(S:List Ty):Nat->Ty->Bool
 |0,_=>false
 |n+1,t=>match E8 S t with
  |none=>true
  |some u=>Bs S n u
theorem Qcq{S:List Ty}{t u:Ty}(h:E8 S t=some u):u∈S:=by
 unfold E8 at h;split at h
 ·split at h
  ·split at h
   ·exact(Bv h).1
   cases h
  cases h
 cases h
theorem Ke(S:List Ty):∀(n:Nat) (t:Ty),Bs S n t=true->∀m,n<=m->Bs S m t=true
 |0,t,h,_,_=>by simp[Bs]at h
 |n+1,t,h,m,hm=>by
  obtain⟨k,rfl⟩:∃k,m=k+1:=⟨m - 1,by omega⟩
  simp only[Bs]at h ⊢;cases hn:E8 S t with
  |none=>rfl
  |some u=>
   rw[hn]at h;exact Ke S n u h k aH
theorem J3:∀(l S:List Ty),l.Nodup->(∀x∈l,x∈S)->l.length<=S.length
 |[],S,_,_=>ah _
 |x::l,S,hn,hs=>by
  obtain⟨h1,h2⟩:=List.nodup_cons.1 hn;have hx:=hs x aM
  have ih:=J3 l (S.erase x) h2 (fun y hy=>by
   have hne:y≠x:=by rintro rfl;exact h1 hy
   exact(List.mem_erase_of_ne hne).2 (hs y (by simp[hy])))
  have hl:=List.length_erase_of_mem hx;have hp:0<S.length:=List.length_pos_iff.2 (by rintro rfl;cases hx);simp;omega
theorem Vf(S:List Ty):∀(n:Nat) (t:Ty),t∈S->Bs S (n+1) t=true->Bs S n t=false ->
  ∃l:List Ty,l.length=n+1/\(∀u∈l,u∈S)/\l.Nodup/\∀u∈l,Bs S (n+1) u=true
 |0,t,ht,h1,_=>⟨[t],rfl,by simpa using ht,by simp,by simpa using h1⟩
 |n+1,t,ht,h1,h2=>by
  have hn:∃u,E8 S t=some u:=by
   cases hh:E8 S t with
   |none=>simp[Bs,hh]at h2
   |some u=>exact⟨u,rfl⟩
  obtain⟨u,hu⟩:=hn;have e1:Bs S (n+1) u=true:=by simp only[Bs,hu]at h1;simpa [Bs]using h1
  have e2:Bs S n u=false:=by simp only[Bs,hu]at h2;exact h2
  obtain⟨l,l1,l2,l3,l4⟩:=Vf S n u (Qcq hu) e1 e2;refine⟨t::l,by simp[l1],?_,List.nodup_cons.2 ⟨fun hm=>?_,l3⟩,?_⟩
  ·intro x hx;rcases aA.1 hx with rfl|hx
   ·exact ht
   exact l2 x hx
  ·rw[l4 t hm]at h2;cases h2
  intro x hx;rcases aA.1 hx with rfl|hx
  ·exact h1
  exact Ke S _ _ (l4 x hx) _ aH
theorem Sx(S:List Ty)(t:Ty)(ht:t∈S)(n:Nat):Bs S n t=true->Bs S S.length t=true:=by
 induction n with
 |zero=>intro h;simp[Bs]at h
 |succ n ih=>
  intro h;by_cases h2:Bs S n t=true
  ·exact ih h2
  have h2':Bs S n t=false:=dT;obtain⟨l,l1,l2,l3,_⟩:=Vf S n t ht h h2';have:=J3 l S l3 l2;exact Ke S _ _ h _ aH
theorem X9(S:List Ty)(t:Ty)(ht:t∈S)(m n:Nat)(hm:S.length<=m)(hn:S.length<=n):Bs S m t=Bs S n t:=by
 cases h1:Bs S m t with
 |true=>exact(Ke S _ _ (Sx S t ht m h1) n hn).symm
 |false=>
  cases h2:Bs S n t with
  |false=>rfl
  |true=>rw[Ke S _ _ (Sx S t ht n h2) m hm]at h1;cases h1
def Nn(S:List Ty):Prop:=Kw S/\Fy S/\∀t∈S,Bs S 9 t=true
def Bz(s:List UInt8):Option (List Ty):=
 if 400<s.length then none
 else match Fc (s.length+1) s []with
  |none=>none
  |some S=>if Fy S/\(∀t∈S,Bs S 9 t=true)then some S else none
theorem Qaq:Kw []:=⟨by simp,by simp,List.Pairwise.nil⟩
theorem Rw{s:List UInt8}{S:List Ty}:Fc (s.length+1) s []=some S↔Kw S/\scB S=s:=by
 rw[Su (s.length+1) s [] S aH Qaq];constructor
 ·rintro⟨h,U,e,h2⟩;simp at e;subst e;exact⟨h,h2⟩
 rintro⟨h,h2⟩;exact⟨h,S,by simp,h2⟩
theorem Qx{s:List UInt8}{S:List Ty}:Bz s=some S↔Nn S/\s.length<=400/\scB S=s:=by
 unfold Bz;constructor
 ·intro h;split at h
  ·cases h
  rename_i h4;cases hl:Fc (s.length+1) s []with
  |none=>rw[hl]at h;cases h
  |some T=>
   rw[hl]at h;simp only at h;split at h
   ·rename_i hc;injection h with h;subst h;obtain⟨h1,h2⟩:=Rw.1 hl;exact⟨⟨h1,hc.1,hc.2⟩,by omega,h2⟩
   cases h
 rintro⟨⟨h1,h2,h3⟩,h4,h5⟩;rw[if_neg aH,Rw.2 ⟨h1,h5⟩];simp only;rw[if_pos ⟨h2,h3⟩]
theorem Pc{s:List UInt8}{S:List Ty}:Bz s=some S↔s.length<=400/\M9 s=some S/\(S.Pairwise fun t u=>t.name≠u.name)/\Fy S/\∀t∈S,Bs S (S.length+1) t=true:=by
 rw[Qx,Qbs];constructor
 ·rintro⟨⟨⟨h1,h2,h3⟩,h4,h5⟩,h6,h7⟩;exact⟨h6,⟨h1,h2,h7⟩,h3,h4,fun t ht=>by rw[X9 S t ht _ 9 aH aH];exact h5 t ht⟩
 rintro⟨h6,⟨h1,h2,h7⟩,h3,h4,h5⟩;exact⟨⟨⟨h1,h2,h3⟩,h4,fun t ht=>by rw[<-X9 S t ht (S.length+1) 9 aH aH];exact h5 t ht⟩,h6,h7⟩
def Sj(S:List Ty)(n:Nat)(k:Kd):Prop:=k.signs=[]->k.base=[64]->∃t,Bw S k.name=some t/\Bs S n t=true
def C5(S:List Ty):Nat->Kd->List UInt8
 |0,_=>[]
 |n+1,k=>
  if k.signs.head?=some 91 then[91,93]
  else if k.signs.head?=some 63 then[45]
  else if k.base=[110]then[48]
  else if k.base=[116]then[39,39]
  else if k.base=[102]then[110,111]
  else match Bw S k.name with
   |none=>[]
   |some t=>if t.sort=82 then[123,125]else
    match t.fields with
    |[]=>[]
    |f::_=>if t.sort=69 then 35::Aw f.tag else 60::(Aw f.tag++61::(C5 S n f.kind++[62]))
theorem Sy{S:List Ty}{n:Nat}{k:Kd}{t:Ty}{f:Fd}{fs:List Fd}(h:Sj S (n+1) k)(h1:k.signs=[])(h2:k.base=[64])(hf:Bw S k.name=some t)(hs:t.sort=85)(hfs:t.fields=f::fs)(hr:B9 S f.kind):Sj S n f.kind:=by
 intro g1 g2;obtain⟨u,hu,he⟩:=h h1 h2;rw[hf]at hu;injection hu with hu;subst hu;have hn:E8 S t=Bw S f.kind.name:=by
  unfold E8;rw[if_pos hs,hfs];simp only;rw[if_pos ⟨g1,g2⟩]
 have hr':=hr g2;cases hx:Bw S f.kind.name with
 |none=>rw[hx]at hr';cases hr'
 |some v=>
  simp only[Bs,hn,hx]at he;exact⟨v,rfl,he⟩
def Sd(S:List Ty)(k:Kd):List UInt8:=C5 S 10 k
def Nq(S:List Ty)(f:Fd):List UInt8:=if f.given=[]then Sd S f.kind else f.given
end Go.Proofs.YtpjijpcemejlnaaGreatDoor
