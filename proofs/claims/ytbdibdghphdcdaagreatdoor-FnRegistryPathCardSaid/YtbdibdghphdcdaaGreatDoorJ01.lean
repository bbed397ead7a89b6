/- Texts joined. Conditions: as each theorem names them. -/
import Derived.Test.YtbdibdghphdcdaaGreatDoorProg
import Derived.WalkKit
import Derived.WalkSmall
import Derived.WalkSpells
import Derived.WalkLawsBesides
import Derived.Below
import Derived.Lib.Hide
import Derived.Lib.BufferRead
import Derived.Laws.BytesArg
import Derived.Deep.QuietTactic
import Derived.BigQuiet
import Derived.Handy
import Derived.Shelf.Strings.SlTrimAscii
import Derived.Shelf.Strings.Prefix
import Derived.Shelf.Strings.Search3
import Derived.Shelf.Strings.Count
import Derived.Shelf.Strings.OnBuilder
import Derived.Lib.IndexLaws
import Derived.Test.YtbdibdghphdcdaaGreatDoorJ00
set_option maxRecDepth 100000
set_option maxHeartbeats 32000000
set_option linter.unusedVariables false
set_option linter.unusedSimpArgs false
namespace Go.Proofs.YtbdibdghphdcdaaGreatDoor
open Go.RowKit Go.Proofs.Tryz
theorem Qo7(l:List UInt8)(k:Nat)(h:k<(ByteArray.mk l.toArray).size):(ByteArray.mk l.toArray)[k]=l[k]'h:=rfl
theorem Qok(l:List UInt8):(ByteArray.mk l.toArray).toList=l:=by
 have:(ByteArray.mk l.toArray).toList=(ByteArray.mk l.toArray).data.toList:=ByteArray.toList_eq _;rw[this]
theorem Qoa(l:List UInt8)(a b:Nat):(ByteArray.mk l.toArray).extract a b=⟨((l.drop a).take (b - a)).toArray⟩:=by
 apply ByteArray.ext;simp[ByteArray.data_extract]
theorem Ql9(l:List UInt8)(a:Nat):(l.drop a).take (l.length - a)=l.drop a:=au aK
theorem Qm6{k:IntKind}{a b:Int}(h:a=b):Ending.returned (.int k a)=.returned (.int k b):=by rw[h]
theorem Cn{α:Type}(l:List α)(k:Nat)(h:k<l.length):l.take (k+1)=l.take k++[l[k]]:=by
 rw[List.take_succ_eq_append_getElem h]
def Ew(l:List UInt8):List Value:=l.map fun c=>.int .u8 (c.toNat:Int)
def Cb(ls:List (List UInt8)):List Value:=ls.map fun l=>.string ⟨l.toArray⟩
theorem Sr(l:List UInt8):(Ew l).length=l.length:=by simp[Ew]
theorem J0(l:List (List UInt8))(c:List UInt8):Cb (l++[c])=Cb l++[.string ⟨c.toArray⟩]:=by simp[Cb]
def Cd(w:World)(A:Option Addr)(n:Nat)(xs:List Value):Prop:=
 xs.length=n/\n<=maxLen/\(0<n->∃b off,A=some ⟨b,off,none⟩/\b<w.heap.size/\∀j u,xs[j]?=some u->w.cell? ⟨b,off+j,none⟩=some u)
theorem Cd.below{w w':World}{A:Option Addr}{n:Nat}{xs:List Value}(h:Cd w A n xs)(hb:Below w w w'):Cd w' A n xs:=by
 refine⟨h.1,h.2.1,fun hn=>?_⟩;obtain⟨b,off,e,hlt,hc⟩:=h.2.2 hn;exact ke
theorem Cd.drew{w:World}{A:Option Addr}{n:Nat}{xs:List Value}(h:Cd w A n xs):Cd w.drew A n xs:=h
theorem Cd.alloc{w:World}{A:Option Addr}{n:Nat}{xs:List Value}(h:Cd w A n xs)(o:Obj):Cd (w.alloc o) A n xs:=h.below ((Below.refl _ _).alloc (Nat.le_refl _) o)
theorem Cd.at_{w:World}{A:Option Addr}{n:Nat}{xs:List Value}(h:Cd w A n xs){k:Nat}(hk:k<n):
  ∃b off,A=some ⟨b,off,none⟩/\b<w.heap.size/\w.cell? ⟨b,off+k,none⟩=some (xs[k]'(by have:=h.1;omega)):=by
 obtain⟨b,off,e,hlt,hc⟩:=h.2.2 aH;exact⟨b,off,e,hlt,hc k _ (List.getElem?_eq_getElem _)⟩
theorem Cd.own{w:World}{base:Nat}{e:TypeId}{v:Value}{n:Nat}{xs:List Value}(h:w.ownsRow base e 1 v n xs):∃A c,v=.slice A n c/\Cd w A n xs:=by
 have h1:=h.1;rcases h.2 with⟨rfl,rfl⟩|⟨g,cap,cur,rfl,hb,hh,hnc,hcm,hcs,htk⟩
 ·exact⟨none,0,rfl,by omega,ag _,fun h=>absurd h aH⟩
 refine⟨some ⟨g,0,none⟩,cap,rfl,by omega,by omega,fun hn=>⟨g,0,rfl,(h.lt g rfl).2,fun j u hu=>?_⟩⟩;have:=h.cells (g:=g) rfl j u hu;have e1:(⟨g,0,none⟩:Addr).add j=⟨g,0+j,none⟩:=bD;rwa [e1]at this
theorem Db{w w1:World}{base:Nat}{e:TypeId}{size:Nat}{v:Value}{n:Nat}{xs:List Value}(h:w.ownsRow base e size v n xs)(hb:Below w w w1):w1.ownsRow base e size v n xs:=
 h.kept (row:=none) ⟨hb.os,hb.tape,hb.output,hb.size,fun k hk _=>hb.block k hk⟩ (by
  cases v with
  |slice A a b=>cases A with
   |none=>exact .inl rfl
   |some x=>exact .inr gq
  |_=>exact .inl rfl)
section
variable {P:Program}
theorem Ri(w:World){ops:Array Oper}{rest:List Oper}{o:Oper}{a:Act}{Q:Exit->Act->World->Prop}(hgd:o.guard=none)(s x:Operand)(t:TypeId)
  (ho:o.op=.call {callee:=.builtin .append,args:=#[s,x],argTypes:=#[t,t]})
  (base:Nat) (e:TypeId) (z:Value) (bytes:Nat) (ht:P.underlying t=some (.slice e)) (hinfo:(P.info? e).map (fun i=>(i.zero,i.size,i.bytes))=some (some z,1,bytes))
  (hzs:z.cells.size=1) (W:World) (u:Value) (hw:w=W.alloc (.cells #[u] e)) (hu:u.oneCell'=true) (v:Value) (n:Nat) (xs:List Value) (hs:a.eval s=v) (hx:a.eval x=.slice (W,0) 1 1)
  (hown:W.ownsRow base e 1 v n xs)
  (h63:n+1<=maxLen) (hbytes:(n+1)*bytes<=140737488355328) (hbase:base<=W.heap.size)
  (h:∀v' w',w'.ownsRow base e 1 v' (n+1) (xs++[u])->Below base W w'->wpList P ops Q rest (a.put o.dst v') w'):wpList P ops Q (o::rest) a w:=by
 subst hw;obtain⟨i0,hi,hz0,hz1,hz2⟩:=info_parts hinfo;refine wpList_append_own _ hgd s x t ho base e i0 z 1 bytes ht hi hz0 hz1 hz2 hzs aJ v n xs hs (hown.alloc _) ⟨W.heap.size,0,none⟩ 1 1 [u] hx rfl ?_ ?_ h63 hbytes ?_ ?_
 ·intro j y hj;match j,hj with
  |0,hj=>simp at hj;subst hj;simp[Addr.add,World.cell?_alloc_new]
 ·intro y hy;simp at hy;subst hy;exact hu
 ·have:(W.alloc (.cells #[u] e)).heap.size=W.heap.size+1:=aK;omega
 intro v' w' h1 h2 _;exact h v' w' h1 (((Below.refl base W).alloc hbase _).grown h2 aM (fun k hk=>(hown.lt k hk).1))
theorem Qlv(W:World)(src e dst:TypeId)(hs:P.underlying src=some (.slice e))(he:P.underlying e=some (.int .u8))(hd:P.underlying dst=some .string)
  (g c:Nat) (b:UInt8) (hc:W.cell? (g,0)=some (.int .u8 (b.toNat:Int))):(convert src dst (.slice (g,0) 1 c)).run P W=.ok (.string ⟨[b].toArray⟩) W:=by
 have h:=run_convert_bytes_arg (P:=P) W src e hs he g 0 1 c [(b.toNat:Int)] rfl (fun i hi=>by
  obtain rfl:i=0:=aH;simpa using hc) dst hd
 rw[h];simp[strOfNums]
end
theorem Mo(W:World)(g c:Nat)(b:UInt8)(hc:W.cell? (g,0)=some (.int .u8 (b.toNat:Int))):
  (convert 22 9 (.slice (g,0) 1 c)).run prog W=.ok (.string ⟨[b].toArray⟩) W:=
 Qlv W 22 5 9 underlying22 underlying5 underlying9 g c b hc
theorem Cj{W w1:World}(hb:Below W.heap.size W w1):(∀b o,b<W.heap.size->w1.cell? ⟨b,o,none⟩=W.cell? ⟨b,o,none⟩)/\(∀b o,b<W.heap.size->w1.frozen? ⟨b,o,none⟩=W.frozen? ⟨b,o,none⟩)/\(∀b,b<W.heap.size->b<w1.heap.size):=
 ⟨fun b o h=>hb.cell (p:=⟨b,o,none⟩) h,fun b o h=>hb.frozen (p:=⟨b,o,none⟩) h,fun _ h=>ac h hb.size⟩
theorem Qe:(prog.info? 9).map (fun i=>(i.zero,i.size,i.bytes))=some (some (.string ⟨#[]⟩),1,16):=aL
theorem Ac:True:=True.intro
theorem Aa{p:Prop}(h:p):Hid p:=h
theorem An(n:Nat):n<=n:=Nat.le_refl n
theorem _root_.Go.RowKit.Hid.o{p:Prop}(h:Hid p):p:=h
theorem Ap(n:Nat)(w:World):Below n w w:=Below.refl n w
theorem Eu{a a':Value}(h:a=a'):Ending.returned a=.returned a':=by rw[h]
theorem Qmb{a b a' b':Value}(h1:a=a')(h2:b=b'):Ending.returned (.tuple #[a,b])=.returned (.tuple #[a',b']):=by rw[h1,h2]
theorem Qo9{a b c a' b' c':Value}(h1:a=a')(h2:b=b')(h3:c=c'):Ending.returned (.tuple #[a,b,c])=.returned (.tuple #[a',b',c']):=by rw[h1,h2,h3]
theorem Qme{k:IntKind}{x y:Int}(h:x=y):Value.int k x=.int k y:=by rw[h]
theorem Qlf{x y:List UInt8}(h:x=y):Value.string ⟨x.toArray⟩=y:=by rw[h]
theorem Dg{x y:Bool}(h:x=y):Value.bool x=.bool y:=by rw[h]
def Di(n:Nat):UInt8:=UInt8.ofNat n
theorem Dm{n:Nat}(h:n<256):(Di n).toNat=n:=by unfold Di;exact UInt8.toNat_ofNat_of_lt' h
def Ki(c:UInt8):Bool:=decide (97<=c.toNat) && decide (c.toNat<=122)
def Bn(c:UInt8):Bool:=decide (48<=c.toNat) && decide (c.toNat<=57)
def Bh(s:List UInt8):Bool:=decide (1<=s.length) && decide (s.length<=3) && s.all Ki
theorem D3{c:UInt8}:Bn c=true↔48<=c.toNat/\c.toNat<=57:=by simp[Bn]
theorem Ph{c:UInt8}:Ki c=true↔97<=c.toNat/\c.toNat<=122:=by simp[Ki]
theorem Dz{s:List UInt8}:Bh s=true↔1<=s.length/\s.length<=3/\∀c∈s,Ki c=true:=by
 simp[Bh,and_assoc]
def Bb(n:Nat):List UInt8:=if h:n<10 then[Di (48+n)]else Bb (n / 10)++[Di (48+n % 10)]
termination_by n
decreasing_by omega
theorem Ff{n:Nat}(h:n<10):Bb n=[Di (48+n)]:=by rw[Bb,dif_pos h]
theorem Pn{n:Nat}(h:¬n<10):Bb n=Bb (n / 10)++[Di (48+n % 10)]:=by rw[Bb,dif_neg h]
def G6(s:List UInt8):Nat:=s.foldl (fun n c=>10*n+(c.toNat - 48)) 0
theorem M0(s:List UInt8)(c:UInt8):G6 (s++[c])=10*G6 s+(c.toNat - 48):=by simp[G6,List.foldl_append]
theorem Qj6:G6 []=0:=rfl
def Dc(s:List UInt8):Option Nat:=
 if 1<=s.length/\s.length<=6/\s.all Bn=true/\(s.head?≠some 48\/s.length=1)then some (G6 s)else none
theorem Fp{α:Type}(s:List α):s=[]\/∃t c,s=t++[c]:=by
 rcases s.eq_nil_or_concat with h|⟨t,c,h⟩
 ·exact .inl h
 exact .inr ⟨t,c,by simpa using h⟩
theorem Yn:∀(k:Nat) (s:List UInt8),s.length=k->s.all Bn=true->G6 s<10 ^ k
 |0,s,h,_=>by
  obtain rfl:=List.eq_nil_of_length_eq_zero h;simp[G6]
 |k+1,s,h,ha=>by
  rcases Fp s with rfl|⟨t,c,rfl⟩
  ·simp at h
  simp at h;simp only[List.all_append,aw,List.all_cons,List.all_nil,Bool.and_true]at ha;have ih:=Yn k t h ha.1;have hc:=D3.1 ha.2;rw[M0,Nat.pow_succ];omega
theorem Qds:∀(k:Nat) (s:List UInt8),s.length=k->s≠[]->s.all Bn=true->s.head?≠some 48->0<G6 s
 |0,s,h,hn,_,_=>absurd (List.eq_nil_of_length_eq_zero h) hn
 |k+1,s,h,hn,ha,hh=>by
  rcases Fp s with rfl|⟨t,c,rfl⟩
  ·exact absurd rfl hn
  simp at h;simp only[List.all_append,aw,List.all_cons,List.all_nil,Bool.and_true]at ha;have hc:=D3.1 ha.2;rw[M0];by_cases ht:t=[]
  ·subst ht;simp at hh;have:c.toNat≠48:=fun e=>hh (UInt8.toNat_inj.1 e);omega
  have hh':t.head?≠some 48:=by
   cases t with
   |nil=>exact absurd rfl ht
   |cons a t=>simpa using hh
  have:=Qds k t h ht ha.1 hh';omega
theorem Qbh:∀(k:Nat) (s:List UInt8),s.length=k->s≠[]->s.all Bn=true->(s.head?≠some 48\/s.length=1)->Bb (G6 s)=s
 |0,s,h,hn,_,_=>absurd (List.eq_nil_of_length_eq_zero h) hn
 |k+1,s,h,hn,ha,hh=>by
  rcases Fp s with rfl|⟨t,c,rfl⟩
  ·exact absurd rfl hn
  simp at h;simp only[List.all_append,aw,List.all_cons,List.all_nil,Bool.and_true]at ha;have hc:=D3.1 ha.2;have hc2:Di (48+(c.toNat - 48))=c:=by
   apply UInt8.toNat_inj.1;rw[Dm aH];omega
  rw[M0];by_cases ht:t=[]
  ·subst ht;rw[Qj6,Ff aH];simp[hc2]
  have hl:0<t.length:=List.length_pos_iff.2 ht;have hh1:t.head?≠some 48:=by
   cases t with
   |nil=>exact absurd rfl ht
   |cons a t=>rcases hh with hh|hh<;>simp at hh ⊢<;>first|exact hh|omega
  have hp:=Qds t.length t rfl ht ha.1 hh1;have ih:=Qbh k t h ht ha.1 (.inl hh1);rw[Pn aH];have e1:(10*G6 t+(c.toNat - 48)) / 10=G6 t:=aH;have e2:(10*G6 t+(c.toNat - 48)) % 10=c.toNat - 48:=aH;rw[e1,e2,ih,hc2]
theorem Nm:∀(k n:Nat),n<=k->Bb n≠[]/\(Bb n).all Bn=true/\G6 (Bb n)=n/\((Bb n).head?≠some 48\/n=0)/\(n<10->(Bb n).length=1)/\(10<=n->2<=(Bb n).length)
 |0,n,h=>by
  obtain rfl:n=0:=aH;rw[Ff aH];refine⟨by simp,by decide,by decide,.inr rfl,fun _=>rfl,fun h=>by omega⟩
 |k+1,n,h=>by
  by_cases hn:n<10
  ·rw[Ff hn];have e:(Di (48+n)).toNat=48+n:=Dm aH;refine⟨by simp,by simp[D3,e];omega,?_,?_,fun _=>rfl,fun h=>by omega⟩
   ·show 10*0+((Di (48+n)).toNat - 48)=n;omega
   by_cases h0:n=0
   ·exact .inr h0
   refine .inl ?_;intro hh;simp at hh;have:=congrArg UInt8.toNat hh;rw[e]at this;have h48:(48:UInt8).toNat=48:=rfl;omega
  obtain⟨i1,i2,i3,i4,_,_⟩:=Nm k (n / 10) aH;have e:(Di (48+n % 10)).toNat=48+n % 10:=Dm aH;have hl:0<(Bb (n / 10)).length:=List.length_pos_iff.2 i1;rw[Pn hn];refine⟨by simp,?_,?_,?_,fun h=>absurd h hn,fun _=>by simp;omega⟩
  ·simp only[List.all_append,aw,List.all_cons,List.all_nil,Bool.and_true];exact⟨i2,D3.2 aH⟩
  ·rw[M0,i3,e];omega
  refine .inl ?_;have e1:(Bb (n / 10)++[Di (48+n % 10)]).head?=(Bb (n / 10)).head?:=by
   cases hd:Bb (n / 10)with
   |nil=>exact absurd hd i1
   |cons a t=>rfl
  rw[e1];rcases i4 with h|h
  ·exact h
  omega
theorem Vi(n:Nat):Bb n≠[]:=(Nm n n (Nat.le_refl _)).1
theorem Pq(n:Nat):(Bb n).all Bn=true:=(Nm n n (Nat.le_refl _)).2.1
theorem Sa(n:Nat):G6 (Bb n)=n:=(Nm n n (Nat.le_refl _)).2.2.1
theorem Qil(n:Nat):(Bb n).head?≠some 48\/(Bb n).length=1:=by
 obtain⟨_,_,_,h4,h5,_⟩:=Nm n n (Nat.le_refl _);rcases h4 with h|h
 ·exact .inl h
 exact .inr (h5 aH)
theorem Qle{m n:Nat}(h:Bb m=Bb n):m=n:=by rw[<-Sa m,h,Sa]
theorem Dk:∀(k n:Nat),n<10 ^ (k+1)->(Bb n).length<=k+1
 |0,n,h=>by rw[Ff aQ];simp
 |k+1,n,h=>by
  by_cases hn:n<10
  ·rw[Ff hn];simp
  rw[Pn hn];have:=Dk k (n / 10) (by rw[Nat.pow_succ]at h;omega);simp;omega
theorem Co{s:List UInt8}{n:Nat}:Dc s=some n↔n<=999999/\s=Bb n:=by
 unfold Dc;constructor
 ·intro h;split at h
  ·rename_i hc;obtain⟨h1,h2,h3,h4⟩:=hc;injection h with h;have hn:s≠[]:=List.length_pos_iff.1 aH;have hv:=Yn s.length s rfl h3;have hle:10 ^ s.length<=10 ^ 6:=Nat.pow_le_pow_right aH h2;have e6:10 ^ 6=1000000:=rfl;refine⟨by omega,?_⟩;rw[<-h];exact(Qbh s.length s rfl hn h3 h4).symm
  cases h
 rintro⟨h1,rfl⟩;have hl:=Dk 5 n gH;have hp:0<(Bb n).length:=List.length_pos_iff.2 (Vi n);rw[if_pos ⟨by omega,by omega,Pq n,Qil n⟩,Sa]
structure Kd where
 signs:List UInt8
 base:List UInt8
 name:List UInt8
deriving DecidableEq
def Bo(c:UInt8):Bool:=c == 91 || c == 63
def B6(k:Kd):List UInt8:=if k.base=[64]then 64::(k.name++[59])else k.base
def Be(k:Kd):List UInt8:=k.signs++B6 k
def Kd.nil:Kd:=⟨[],[],[]⟩
def Kd.part(k:Kd):Kd:={k with signs:=k.signs.tail}
def Kd.core(k:Kd):Kd:={k with signs:=[]}
def Qc6(k:Kd):Prop:=(k.base=[64]/\Bh k.name=true)\/((k.base=[110]\/k.base=[116]\/k.base=[102])/\k.name=[])
def Cq(k:Kd):Prop:=k.signs.all Bo=true/\Qc6 k/\(Be k).length<=12
theorem Qbk{k:Kd}(h:Qc6 k):∃c t,B6 k=c::t/\Bo c=false:=by
 unfold B6;rcases h with⟨h,_⟩|⟨h|h|h,_⟩
 ·rw[if_pos h];exact⟨64,_,rfl,by decide⟩
 ·rw[h,if_neg aJ];exact⟨110,[],rfl,by decide⟩
 ·rw[h,if_neg aJ];exact⟨116,[],rfl,by decide⟩
 rw[h,if_neg aJ];exact⟨102,[],rfl,by decide⟩
theorem Gq{p:UInt8->Bool}:∀{a b:List UInt8},a.all p=true->(∃c t,b=c::t/\p c=false)->(a++b).takeWhile p=a/\(a++b).dropWhile p=b
 |[],b,_,⟨c,t,e,h⟩=>by subst e;simp[h]
 |x::a,b,ha,hb=>by
  simp only[List.all_cons,aw]at ha;have ih:=Gq ha.2 hb;simp[ha.1,ih.1,ih.2]
theorem Kz{p:UInt8->Bool}:∀(a:List UInt8),(a.takeWhile p).all p=true
 |[]=>rfl
 |x::a=>by
  by_cases h:p x=true
  ·simp[h]
  simp[h]
def Dd(s:List UInt8):Option Kd:=
 if 12<s.length then none
 else if s.dropWhile Bo=[110]\/s.dropWhile Bo=[116]\/s.dropWhile Bo=[102]then some ⟨s.takeWhile Bo,s.dropWhile Bo,[]⟩
 else if (s.dropWhile Bo).head?=some 64/\(s.dropWhile Bo).getLast?=some 59/\Bh ((s.dropWhile Bo).drop 1).dropLast=true then some ⟨s.takeWhile Bo,[64],((s.dropWhile Bo).drop 1).dropLast⟩
 else none
theorem Qhq{r:List UInt8}(h1:r.head?=some 64)(h2:r.getLast?=some 59):r=64::((r.drop 1).dropLast++[59]):=by
 cases r with
 |nil=>simp at h1
 |cons a t=>
  simp at h1;subst h1;rcases Fp t with rfl|⟨u,c,rfl⟩
  ·simp at h2
  have:c=59:=by
   rw[show (64:UInt8)::(u++[c])=(64::u)++[c]from rfl,List.getLast?_append]at h2;simpa using h2
  subst this;simp
theorem Fr{s:List UInt8}{k:Kd}:Dd s=some k↔Cq k/\Be k=s:=by
 have htd:s.takeWhile Bo++s.dropWhile Bo=s:=List.takeWhile_append_dropWhile;constructor
 ·intro h;unfold Dd at h;split at h
  ·cases h
  rename_i h12;split at h
  ·rename_i hb;injection h with h;subst h;have hcore:B6 ⟨s.takeWhile Bo,s.dropWhile Bo,[]⟩=s.dropWhile Bo:=by
    unfold B6;rw[if_neg];rcases hb with h|h|h<;>· show ¬s.dropWhile Bo=_;rw[h];decide
   have e:Be ⟨s.takeWhile Bo,s.dropWhile Bo,[]⟩=s:=by unfold Be;rw[hcore];exact htd
   exact⟨⟨Kz s,.inr ⟨hb,rfl⟩,by rw[e];omega⟩,e⟩
  split at h
  ·rename_i hb;injection h with h;subst h;have e1:=Qhq hb.1 hb.2.1;have e:Be ⟨s.takeWhile Bo,[64],((s.dropWhile Bo).drop 1).dropLast⟩=s:=by
    unfold Be B6;rw[if_pos rfl];show s.takeWhile Bo++64::(((s.dropWhile Bo).drop 1).dropLast++[59])=s;rw[<-e1];exact htd
   exact⟨⟨Kz s,.inl ⟨rfl,hb.2.2⟩,by rw[e];omega⟩,e⟩
  cases h
 rintro⟨⟨h1,h2,h3⟩,rfl⟩;obtain⟨e1,e2⟩:=Gq h1 (Qbk h2);unfold Dd;rw[if_neg aH];show (if (k.signs++B6 k).dropWhile Bo=[110]\/_ then _ else _)=_;unfold Be;rw[e1,e2];obtain⟨sg,b,nm⟩:=k;rcases h2 with⟨h,hn⟩|⟨h,hn⟩
 ·simp only at h hn;subst h;unfold B6;simp only[if_pos];rw[if_neg aK,if_pos]
  ·simp
  refine⟨rfl,?_,by simpa using hn⟩;rw[show (64:UInt8)::(nm++[59])=(64::nm)++[59]from rfl,List.getLast?_append];rfl
 simp only at h hn;subst hn;have hc:B6 ⟨sg,b,[]⟩=b:=by
  unfold B6;rw[if_neg];rcases h with h|h|h<;>· show ¬b=_;rw[h];decide
 rw[hc,if_pos h]
theorem Kc{k:Kd}(h:Cq k):Cq k.part/\(k.signs≠[]->Be k.part=(Be k).tail/\(Be k.part).length+1=(Be k).length):=by
 obtain⟨h1,h2,h3⟩:=h;obtain⟨sg,b,nm⟩:=k;have hc:∀g,B6 ⟨g,b,nm⟩=B6 ⟨sg,b,nm⟩:=fun g=>rfl;cases sg with
 |nil=>exact⟨⟨h1,h2,h3⟩,fun h=>absurd rfl h⟩
 |cons c t=>
  simp only[List.all_cons,aw]at h1;have e:Be (Kd.part ⟨c::t,b,nm⟩)=(Be ⟨c::t,b,nm⟩).tail:=rfl;have el:(Be (Kd.part ⟨c::t,b,nm⟩)).length+1=(Be ⟨c::t,b,nm⟩).length:=rfl;exact⟨⟨h1.2,h2,by omega⟩,fun _=>⟨e,el⟩⟩
def Al(c:UInt8):List UInt8->List (List UInt8)
 |[]=>[[]]
 |x::s=>if x=c then[]::Al c s else match Al c s with
  |p::ps=>(x::p)::ps
  |[]=>[[x]]
def Aw(c:UInt8):List (List UInt8)->List UInt8
 |[]=>[]
 |[p]=>p
 |p::ps=>p++c::Aw c ps
theorem E8(c:UInt8)(s:List UInt8):Al c s≠[]:=by
 cases s with
 |nil=>simp[Al]
 |cons x s=>
  simp only[Al];split
  ·simp
  split<;>simp
theorem De(c:UInt8)(p:List UInt8){ps:List (List UInt8)}(h:ps≠[]):Aw c (p::ps)=p++c::Aw c ps:=by
 cases ps with
 |nil=>exact absurd rfl h
 |cons q ps=>rfl
theorem Qv(c:UInt8):∀s:List UInt8,Aw c (Al c s)=s
 |[]=>rfl
 |x::s=>by
  have ih:=Qv c s;have hn:=E8 c s;simp only[Al];split
  ·rename_i h;rw[De c _ hn,ih,h];rfl
  cases hs:Al c s with
  |nil=>exact absurd hs hn
  |cons p ps=>
   rw[hs]at ih;cases ps with
   |nil=>simpa [Aw]using ih
   |cons q ps=>
    rw[De c _ aK]at ih ⊢;simp[ih]
theorem Qbz(c:UInt8):∀s:List UInt8,∀p∈Al c s,c∉p
 |[],p,hp=>by simp[Al]at hp;simp[hp]
 |x::s,p,hp=>by
  have ih:=Qbz c s;simp only[Al]at hp;split at hp
  ·rcases aA.1 hp with rfl|hp
   ·simp
   exact ih p hp
  rename_i hx;cases hs:Al c s with
  |nil=>exact absurd hs (E8 c s)
  |cons q qs=>
   rw[hs]at hp ih;rcases aA.1 hp with rfl|hp
   ·have:=ih q aK;simp;exact⟨fun h=>hx h.symm,this⟩
   exact ih p dH
theorem Jk(c:UInt8):∀p:List UInt8,c∉p->Al c p=[p]
 |[],_=>rfl
 |x::p,h=>by
  simp at h;simp only[Al];rw[if_neg (fun e=>h.1 e.symm),Jk c p h.2]
theorem Nj(c:UInt8):∀(p s:List UInt8),c∉p->Al c (p++c::s)=p::Al c s
 |[],s,_=>by simp[Al]
 |x::p,s,h=>by
  simp at h;simp only[av,Al];rw[if_neg (fun e=>h.1 e.symm),Nj c p s h.2]
theorem Nw(c:UInt8):∀ps:List (List UInt8),ps≠[]->(∀p∈ps,c∉p)->Al c (Aw c ps)=ps
 |[],h,_=>absurd rfl h
 |[p],_,h=>Jk c p (h p aK)
 |p::q::ps,_,h=>by
  rw[De c p aK,Nj c p _ (h p aK),Nw c (q::ps) aK (fun x hx=>h x gG)]
theorem Em{c:UInt8}{s:List UInt8}{ps:List (List UInt8)}:Al c s=ps↔ps≠[]/\(∀p∈ps,c∉p)/\Aw c ps=s:=
 ⟨fun h=>by subst h;exact⟨E8 c s,Qbz c s,Qv c s⟩,fun⟨h1,h2,h3⟩=>by rw[<-h3];exact Nw c ps h1 h2⟩
theorem Jz(c:UInt8):∀s:List UInt8,(Al c s).length<=s.length+1
 |[]=>by simp[Al]
 |x::s=>by
  have ih:=Jz c s;simp only[Al];split
  ·simp;exact ih
  cases hs:Al c s with
  |nil=>exact absurd hs (E8 c s)
  |cons p ps=>rw[hs]at ih;simp at ih ⊢;omega
theorem As(c:UInt8):∀s:List UInt8,∀p∈Al c s,p.length<=s.length
 |[],p,h=>by simp[Al]at h;simp[h]
 |x::s,p,h=>by
  have ih:=As c s;simp only[Al]at h;split at h
  ·rcases aA.1 h with rfl|h
   ·simp
   exact Nat.le_succ_of_le (ih p h)
  cases hs:Al c s with
  |nil=>exact absurd hs (E8 c s)
  |cons q qs=>
   rw[hs]at ih h;rcases aA.1 h with rfl|h
   ·have:=ih q aK;simp;exact this
   have:=ih p (by simp[h]);simp;omega
def Dp(c:UInt8)(s:List UInt8):List UInt8 × List UInt8 × Bool:=
 if c∈s then(s.takeWhile (· != c),(s.dropWhile (· != c)).tail,true)else(s,[],false)
theorem Rz{c:UInt8}{s:List UInt8}(h:c∉s):Dp c s=(s,[],false):=if_neg h
theorem Fe{c:UInt8}{p s:List UInt8}(h:c∉p):Dp c (p++c::s)=(p,s,true):=by
 unfold Dp;rw[if_pos aK];have h1:p.all (fun x=>x != c)=true:=by
  rw[List.all_eq_true];intro x hx;simp;rintro rfl;exact h hx
 obtain⟨e1,e2⟩:=Gq (p:=fun x=>x != c) h1 ⟨c,s,rfl,by simp⟩;rw[e1,e2];rfl
theorem Qem{c:UInt8}:∀{s:List UInt8},c∈s->∃p t,s=p++c::t/\c∉p
 |x::s,h=>by
  by_cases hx:x=c
  ·exact⟨[],s,by simp[hx],by simp⟩
  obtain⟨p,t,e,hp⟩:=Qem (s:=s) (by rcases aA.1 h with h|h;exact absurd h.symm hx;exact h);exact⟨x::p,t,by simp[e],by simp;exact⟨fun e=>hx e.symm,hp⟩⟩
theorem Gk(c:UInt8)(s:List UInt8):(c∉s/\Dp c s=(s,[],false))\/∃p t,s=p++c::t/\c∉p/\Dp c s=(p,t,true):=by
 by_cases h:c∈s
 ·obtain⟨p,t,e,hp⟩:=Qem h;exact .inr ⟨p,t,e,hp,by rw[e];exact Fe hp⟩
 exact .inl ⟨h,Rz h⟩
def Ct(c:UInt8):Bool:=Ki c || Bn c || c == 32
def Dy(s:List UInt8):Bool:=decide (s.length<=12) && s.all Ct
def Ck(b s:List UInt8):Bool:=
 if b=[110]then(match Dc s with|some n=>decide (0<n)|none=>false)
 else if b=[116]then decide (2<s.length) && decide (s.head?=some 39) && decide (s.getLast?=some 39) && Dy (s.drop 1).dropLast
 else if b=[102]then decide (s=[121,101,115])else false
theorem Qf7{r:List UInt8}(h:2<r.length)(h1:r.head?=some 39)(h2:r.getLast?=some 39):r=39::((r.drop 1).dropLast++[39]):=by
 cases r with
 |nil=>simp at h1
 |cons a t=>
  simp at h1;subst h1;rcases Fp t with rfl|⟨u,c,rfl⟩
  ·simp at h
  have:c=39:=by
   rw[show (39:UInt8)::(u++[c])=(39::u)++[c]from rfl,List.getLast?_append]at h2;simpa using h2
  subst this;simp
def Jr(c:UInt8):Prop:=c≠10/\c≠44/\c≠58/\c≠61
theorem Qb5{c:UInt8}(h:Bn c=true):Jr c:=by
 rw[D3]at h;refine⟨?_,?_,?_,?_⟩<;>(rintro rfl;revert h;decide)
theorem Qbl{c:UInt8}(h:Ki c=true):Jr c:=by
 rw[Ph]at h;refine⟨?_,?_,?_,?_⟩<;>(rintro rfl;revert h;decide)
theorem Qi1{c:UInt8}(h:Ct c=true):Jr c:=by
 unfold Ct at h;simp only[Bool.or_eq_true]at h;rcases h with(h|h)|h
 ·exact Qbl h
 ·exact Qb5 h
 have:c=32:=aQ;subst this;exact⟨by decide,by decide,by decide,by decide⟩
theorem Qgs{c:UInt8}(h:Bo c=true):Jr c:=by
 unfold Bo at h;simp only[Bool.or_eq_true,beq_iff_eq]at h;rcases h with rfl|rfl<;>exact⟨by decide,by decide,by decide,by decide⟩
theorem Fq(n:Nat):∀c∈Bb n,Jr c:=fun c hc=>Qb5 (List.all_eq_true.1 (Pq n) c hc)
theorem Ep{s:List UInt8}(h:Bh s=true):∀c∈s,Jr c:=fun c hc=>Qbl ((Dz.1 h).2.2 c hc)
theorem Ky{k:Kd}(h:Cq k):∀c∈Be k,Jr c:=by
 intro c hc;obtain⟨h1,h2,_⟩:=h;unfold Be B6 at hc;rcases af.1 hc with hc|hc
 ·exact Qgs (List.all_eq_true.1 h1 c hc)
 rcases h2 with⟨h,hn⟩|⟨h,_⟩
 ·rw[if_pos h]at hc;rcases aA.1 hc with rfl|hc
  ·exact⟨by decide,by decide,by decide,by decide⟩
  rcases af.1 hc with hc|hc
  ·exact Ep hn c hc
  simp at hc;subst hc;exact⟨by decide,by decide,by decide,by decide⟩
 rw[if_neg (by rcases h with h|h|h<;>· rw[h];decide)]at hc;rcases h with h|h|h<;>· rw[h]at hc;simp at hc;subst hc;exact⟨by decide,by decide,by decide,by decide⟩
theorem N9{b s:List UInt8}(h:Ck b s=true):s≠[]/\∀c∈s,Jr c:=by
 unfold Ck at h;split at h
 ·cases hd:Dc s with
  |none=>rw[hd]at h;cases h
  |some n=>
   obtain⟨_,e⟩:=Co.1 hd;subst e;exact⟨Vi n,Fq n⟩
 split at h
 ·simp only[aw,decide_eq_true_eq]at h;obtain⟨⟨⟨h1,h2⟩,h3⟩,h4⟩:=h;have e:=Qf7 h1 h2 h3;refine⟨by intro hh;rw[hh]at h1;simp at h1,fun c hc=>?_⟩;rw[e]at hc;have q:Jr 39:=⟨by decide,by decide,by decide,by decide⟩
  rcases aA.1 hc with rfl|hc
  ·exact q
  rcases af.1 hc with hc|hc
  ·unfold Dy at h4;simp only[aw]at h4;exact Qi1 (List.all_eq_true.1 h4.2 c hc)
  simp at hc;subst hc;exact q
 split at h
 ·simp only[decide_eq_true_eq]at h;subst h;refine⟨by simp,fun c hc=>?_⟩;simp at hc;rcases hc with rfl|rfl|rfl<;>exact⟨by decide,by decide,by decide,by decide⟩
 cases h
theorem P9{b s:List UInt8}(h:Ck b s=true):b=[110]\/b=[116]\/b=[102]:=by
 unfold Ck at h;split at h
 ·exact .inl (by assumption)
 split at h
 ·exact .inr (.inl (by assumption))
 split at h
 ·exact .inr (.inr (by assumption))
 cases h
structure Fd where
 tag:Nat
 name:List UInt8
 kind:Kd
 given:List UInt8
deriving DecidableEq
def Kf(st:UInt8)(f:Fd):List UInt8:=if st=69 then[]else 58::(Be f.kind++if f.given=[]then[]else 61::f.given)
def Me(st:UInt8)(f:Fd):List UInt8:=Bb f.tag++58::(f.name++Kf st f)
def Tu(st:UInt8)(f:Fd):Prop:=
 1<=f.tag/\f.tag<=200/\Bh f.name=true/\(st=69->f.kind=Kd.nil/\f.given=[]) /\
 (st≠69->Cq f.kind/\(f.given≠[]->st=82/\f.kind.signs=[]/\Ck f.kind.base f.given=true))
theorem Ez{s:List UInt8}(h:∀c∈s,Jr c):10∉s/\44∉s/\58∉s/\61∉s:=
 ⟨fun hc=>(h _ hc).1 rfl,fun hc=>(h _ hc).2.1 rfl,fun hc=>(h _ hc).2.2.1 rfl,fun hc=>(h _ hc).2.2.2 rfl⟩
def Mv(p:List (List UInt8)):Option (Nat × List UInt8):=
 match p with
 |[a,b]=>(match Dc a with|some n=>if 1<=n/\n<=200/\Bh b=true then some (n,b)else none|none=>none)
 |_=>none
def Ns(p:List (List UInt8)):Option (Nat × List UInt8 × List UInt8):=
 match p with
 |[a,b,c]=>(match Dc a with|some n=>if 1<=n/\n<=200/\Bh b=true then some (n,b,c)else none|none=>none)
 |_=>none
def Jw(st:UInt8)(s:List UInt8):Option Fd:=
 if st=69 then
  match Mv (Al 58 (Dp 61 s).1)with
  |some (n,b)=>if (Dp 61 s).2.2=true then none else some ⟨n,b,Kd.nil,(Dp 61 s).2.1⟩
  |none=>none
 else
  match Ns (Al 58 (Dp 61 s).1)with
  |some (n,b,c)=>(match Dd c with
   |some k=>if (Dp 61 s).2.2=true/\¬(st=82/\k.signs=[]/\Ck k.base (Dp 61 s).2.1=true)then none else some ⟨n,b,k,(Dp 61 s).2.1⟩
   |none=>none)
  |none=>none
def Ch(st:UInt8)(s:List UInt8):Option Fd:=
 if st=69 then
  match Mv (Al 58 s)with
  |some (n,b)=>some ⟨n,b,Kd.nil,[]⟩
  |none=>none
 else
  match Ns (Al 58 s)with
  |some (n,b,c)=>(match Al 61 c with
   |[k]=>(match Dd k with|some k=>some ⟨n,b,k,[]⟩|none=>none)
   |[k,v]=>if st=82/\Ck k v=true then some ⟨n,b,⟨[],k,[]⟩,v⟩else none
   |_=>none)
  |none=>none
theorem Kn{p:List (List UInt8)}{n:Nat}{b:List UInt8}:Mv p=some (n,b)↔p=[Bb n,b]/\1<=n/\n<=200/\Bh b=true:=by
 unfold Mv;constructor
 ·intro h;split at h
  ·rename_i a b';cases hd:Dc a with
   |none=>rw[hd]at h;cases h
   |some m=>
    rw[hd]at h;simp only at h;split at h
    ·rename_i hc;simp at h;obtain⟨rfl,rfl⟩:=h;rw[(Co.1 hd).2];exact⟨rfl,hc⟩
    cases h
  cases h
 rintro⟨rfl,h⟩;have e:=Co.2 ⟨(by omega:n<=999999),(rfl:Bb n=Bb n)⟩;simp only[e,if_pos h]
theorem Ji{p:List (List UInt8)}{n:Nat}{b c:List UInt8}:Ns p=some (n,b,c)↔p=[Bb n,b,c]/\1<=n/\n<=200/\Bh b=true:=by
 unfold Ns;constructor
 ·intro h;split at h
  ·rename_i a b' c';cases hd:Dc a with
   |none=>rw[hd]at h;cases h
   |some m=>
    rw[hd]at h;simp only at h;split at h
    ·rename_i hc;simp at h;obtain⟨rfl,rfl,rfl⟩:=h;rw[(Co.1 hd).2];exact⟨rfl,hc⟩
    cases h
  cases h
 rintro⟨rfl,h⟩;have e:=Co.2 ⟨(by omega:n<=999999),(rfl:Bb n=Bb n)⟩;simp only[e,if_pos h]
theorem Qx{k:List UInt8}(h:k=[110]\/k=[116]\/k=[102]):Cq ⟨[],k,[]⟩/\Be ⟨[],k,[]⟩=k:=by
 rcases h with rfl|rfl|rfl<;>exact⟨⟨rfl,.inr ⟨by simp,rfl⟩,by decide⟩,by decide⟩
theorem G7{st:UInt8}{s:List UInt8}{f:Fd}:Ch st s=some f↔Tu st f/\Me st f=s:=by
 obtain⟨tg,nm,k,gv⟩:=f;unfold Ch;by_cases hst:st=69
 ·rw[if_pos hst];constructor
  ·intro h;cases hp:Mv (Al 58 s)with
   |none=>rw[hp]at h;cases h
   |some x=>
    obtain⟨n,b⟩:=x;rw[hp]at h;simp at h;obtain⟨rfl,rfl,rfl,rfl⟩:=h;obtain⟨e,h1,h2,h3⟩:=Kn.1 hp;obtain⟨_,_,e2⟩:=Em.1 e;exact⟨⟨h1,h2,h3,fun _=>⟨rfl,rfl⟩,fun h=>absurd hst h⟩,by rw[<-e2];simp[Me,Kf,hst,Aw]⟩
  rintro⟨⟨h1,h2,h3,h4,_⟩,rfl⟩;obtain⟨e1,e2⟩:=h4 hst;simp only at h1 h2 h3 e1 e2;subst e1;subst e2
  have hs:Al 58 (Me st ⟨tg,nm,Kd.nil,[]⟩)=[Bb tg,nm]:=Em.2 ⟨by simp,by
   intro p hp;simp at hp;rcases hp with rfl|rfl
   ·exact jV
   exact(Ez (Ep h3)).2.2.1,by simp[Me,Kf,hst,Aw]⟩
  rw[hs,Kn.2 ⟨rfl,h1,h2,h3⟩]
 rw[if_neg hst];constructor
 ·intro h;cases hp:Ns (Al 58 s)with
  |none=>rw[hp]at h;cases h
  |some x=>
   obtain⟨n,b,c⟩:=x;rw[hp]at h;simp only at h;obtain⟨e,h1,h2,h3⟩:=Ji.1 hp;obtain⟨_,_,e2⟩:=Em.1 e;split at h
   ·rename_i k' hk;obtain⟨_,_,e3⟩:=Em.1 hk;simp[Aw]at e3;subst e3;cases hkl:Dd k' with
    |none=>rw[hkl]at h;cases h
    |some kk=>
     rw[hkl]at h;simp at h;obtain⟨rfl,rfl,rfl,rfl⟩:=h;obtain⟨hk1,hk2⟩:=Fr.1 hkl;exact⟨⟨h1,h2,h3,fun h=>absurd h hst,fun _=>⟨hk1,fun h=>absurd rfl h⟩⟩,by rw[<-e2];simp[Me,Kf,hst,Aw,hk2]⟩
   ·rename_i k' v hk;split at h
    ·rename_i hc;simp at h;obtain⟨rfl,rfl,rfl,rfl⟩:=h;obtain⟨_,_,e3⟩:=Em.1 hk;obtain⟨hn,_⟩:=N9 hc.2;obtain⟨o1,o2⟩:=Qx (P9 hc.2);refine⟨⟨h1,h2,h3,fun h=>absurd h hst,fun _=>⟨o1,fun _=>⟨hc.1,rfl,hc.2⟩⟩⟩,?_⟩;rw[<-e2,<-e3];simp[Me,Kf,hst,Aw,o2,hn]
    cases h
   cases h
 rintro⟨⟨h1,h2,h3,_,h4⟩,rfl⟩;obtain⟨hk,hg⟩:=h4 hst;simp only at h1 h2 h3 hk hg;by_cases hgv:gv=[]
 ·subst hgv
  have hs:Al 58 (Me st ⟨tg,nm,k,[]⟩)=[Bb tg,nm,Be k]:=Em.2 ⟨by simp,by
   intro p hp;simp at hp;rcases hp with rfl|rfl|rfl
   ·exact jV
   ·exact(Ez (Ep h3)).2.2.1
   exact(Ez (Ky hk)).2.2.1,by simp[Me,Kf,hst,Aw]⟩
  rw[hs,Ji.2 ⟨rfl,h1,h2,h3⟩];simp only;rw[Jk 61 (Be k) (Ez (Ky hk)).2.2.2];simp only;rw[Fr.2 ⟨hk,rfl⟩]
 obtain⟨g1,g2,g3⟩:=hg hgv;obtain⟨_,hp⟩:=N9 g3;have hb:=P9 g3;obtain⟨o1,o2⟩:=Qx hb;have ek:k=⟨[],k.base,[]⟩:=by
  obtain⟨sg,b,nm'⟩:=k;simp only at g2 hb;subst g2;obtain⟨_,hbo,_⟩:=hk;rcases hbo with⟨h,_⟩|⟨_,h⟩
  ·exfalso
   simp only at h;rcases hb with hb|hb|hb<;>· rw[h]at hb;revert hb;decide
  simp only at h;rw[h]
 have eB:Be k=k.base:=by rw[ek];exact o2
 have nb:∀c∈Be k,Jr c:=Ky hk
 have hs:Al 58 (Me st ⟨tg,nm,k,gv⟩)=[Bb tg,nm,Be k++61::gv]:=Em.2 ⟨by simp,by
  intro p hp';simp at hp';rcases hp' with rfl|rfl|rfl
  ·exact jV
  ·exact(Ez (Ep h3)).2.2.1
  intro hc;rcases af.1 hc with hc|hc
  ·exact(Ez nb).2.2.1 hc
  rcases aA.1 hc with hc|hc
  ·revert hc;decide
  exact(Ez hp).2.2.1 hc,by simp[Me,Kf,hst,Aw,hgv]⟩
 rw[hs,Ji.2 ⟨rfl,h1,h2,h3⟩];simp only;rw[Nj 61 (Be k) gv (Ez nb).2.2.2,Jk 61 gv (Ez hp).2.2.2];simp only;rw[eB,if_pos ⟨g1,g3⟩,<-ek]
theorem Yc{st:UInt8}{s:List UInt8}{f:Fd}:Jw st s=some f↔Tu st f/\Me st f=s:=by
 obtain⟨tg,nm,k,gv⟩:=f;constructor
 ·intro h;unfold Jw at h;by_cases hst:st=69
  ·rw[if_pos hst]at h;cases hp:Mv (Al 58 (Dp 61 s).1)with
   |none=>rw[hp]at h;cases h
   |some x=>
    obtain⟨n,b⟩:=x;rw[hp]at h;simp only at h;obtain⟨e,h1,h2,h3⟩:=Kn.1 hp;obtain⟨_,_,e2⟩:=Em.1 e;rcases Gk 61 s with⟨hn,hc⟩|⟨p,t,_,_,hc⟩
    ·rw[hc]at h e2;simp at h;obtain⟨rfl,rfl,rfl,rfl⟩:=h;exact⟨⟨h1,h2,h3,fun _=>⟨rfl,rfl⟩,fun h=>absurd hst h⟩,by simp only at e2;rw[<-e2];simp[Me,Kf,hst,Aw]⟩
    rw[hc]at h;simp at h
  rw[if_neg hst]at h;cases hp:Ns (Al 58 (Dp 61 s).1)with
  |none=>rw[hp]at h;cases h
  |some x=>
   obtain⟨n,b,c⟩:=x;rw[hp]at h;simp only at h;obtain⟨e,h1,h2,h3⟩:=Ji.1 hp;obtain⟨_,_,e2⟩:=Em.1 e;cases hkl:Dd c with
   |none=>rw[hkl]at h;cases h
   |some kk=>
    obtain⟨hk1,hk2⟩:=Fr.1 hkl;rw[hkl]at h;simp only at h;rcases Gk 61 s with⟨hn,hc⟩|⟨p,t,ec,_,hc⟩
    ·rw[hc]at h e2;simp at h;obtain⟨rfl,rfl,rfl,rfl⟩:=h;exact⟨⟨h1,h2,h3,fun h=>absurd h hst,fun _=>⟨hk1,fun h=>absurd rfl h⟩⟩,by simp only at e2;rw[<-e2];simp[Me,Kf,hst,Aw,hk2]⟩
    rw[hc]at h e2;simp only at h e2;split at h
    ·cases h
    rename_i hcc;have hcc':st=82/\kk.signs=[]/\Ck kk.base t=true:=Decidable.byContradiction fun hh=>hcc ⟨trivial,hh⟩;simp at h;obtain⟨rfl,rfl,rfl,rfl⟩:=h;obtain⟨hn,_⟩:=N9 hcc'.2.2;exact⟨⟨h1,h2,h3,fun h=>absurd h hst,fun _=>⟨hk1,fun _=>hcc'⟩⟩,by rw[ec,<-e2];simp[Me,Kf,hst,Aw,hk2,hn]⟩
 intro h;have hS:=G7.2 h;obtain⟨⟨h1,h2,h3,h4,h5⟩,rfl⟩:=h;simp only at h1 h2 h3 h4 h5;unfold Jw;by_cases hst:st=69
 ·obtain⟨e1,e2⟩:=h4 hst;subst e1;subst e2;have hno:61∉Me st ⟨tg,nm,Kd.nil,[]⟩:=by
   simp[Me,Kf,hst];exact⟨(Ez (Fq tg)).2.2.2,(Ez (Ep h3)).2.2.2⟩
  rw[if_pos hst,Rz hno];simp only
  have hs:Al 58 (Me st ⟨tg,nm,Kd.nil,[]⟩)=[Bb tg,nm]:=Em.2 ⟨by simp,by
   intro p hp;simp at hp;rcases hp with rfl|rfl
   ·exact jV
   exact(Ez (Ep h3)).2.2.1,by simp[Me,Kf,hst,Aw]⟩
  rw[hs,Kn.2 ⟨rfl,h1,h2,h3⟩];simp
 obtain⟨hk,hg⟩:=h5 hst;have nb:∀c∈Be k,Jr c:=Ky hk;have hno:61∉Bb tg++58::(nm++58::Be k):=by
  simp;exact⟨(Ez (Fq tg)).2.2.2,(Ez (Ep h3)).2.2.2,(Ez nb).2.2.2⟩
 have hs:Al 58 (Bb tg++58::(nm++58::Be k))=[Bb tg,nm,Be k]:=Em.2 ⟨by simp,by
  intro p hp;simp at hp;rcases hp with rfl|rfl|rfl
  ·exact jV
  ·exact(Ez (Ep h3)).2.2.1
  exact(Ez nb).2.2.1,by simp[Aw]⟩
 rw[if_neg hst];by_cases hgv:gv=[]
 ·subst hgv;have e:Me st ⟨tg,nm,k,[]⟩=Bb tg++58::(nm++58::Be k):=by simp[Me,Kf,hst]
  rw[e,Rz hno];simp only;rw[hs,Ji.2 ⟨rfl,h1,h2,h3⟩];simp only;rw[Fr.2 ⟨hk,rfl⟩];simp
 have e:Me st ⟨tg,nm,k,gv⟩=(Bb tg++58::(nm++58::Be k))++61::gv:=by simp[Me,Kf,hst,hgv]
 rw[e,Fe hno];simp only;rw[hs,Ji.2 ⟨rfl,h1,h2,h3⟩];simp only;rw[Fr.2 ⟨hk,rfl⟩];simp only;rw[if_neg (fun hh=>hh.2 (hg hgv))]
theorem Qiy(st:UInt8)(s:List UInt8):Jw st s=Ch st s:=by
 cases h:Ch st s with
 |some f=>exact Yc.2 (G7.1 h)
 |none=>
  cases h2:Jw st s with
  |none=>rfl
  |some f=>rw[G7.2 (Yc.1 h2)]at h;cases h
theorem Xo{st:UInt8}{f:Fd}(h:Tu st f):10∉Me st f/\44∉Me st f/\Me st f≠[]:=by
 obtain⟨h1,h2,h3,h4,h5⟩:=h;have hd:=Vi f.tag;refine⟨?_,?_,by unfold Me;simp⟩;all_goals
  unfold Me Kf;simp only[af,aA,not_or];refine⟨?_,by decide,?_,?_⟩
  ·first|exact(Ez (Fq f.tag)).1|exact(Ez (Fq f.tag)).2.1
  ·first|exact(Ez (Ep h3)).1|exact(Ez (Ep h3)).2.1
  ·by_cases hst:st=69
   ·rw[if_pos hst];simp
   rw[if_neg hst];obtain⟨hk,hg⟩:=h5 hst;simp only[af,aA,not_or];refine⟨by decide,?_,?_⟩
   ·first|exact(Ez (Ky hk)).1|exact(Ez (Ky hk)).2.1
   by_cases hgv:f.given=[]
   ·rw[if_pos hgv];simp
   rw[if_neg hgv];have hp:=(N9 (hg hgv).2.2).2;simp only[aA,not_or];refine⟨by decide,?_⟩;first|exact(Ez hp).1|exact(Ez hp).2.1
theorem Qhx{st:UInt8}{f g:Fd}(hf:Tu st f)(hg:Tu st g)(h:Me st f=Me st g):f=g:=by
 have h1:=G7.2 ⟨hf,rfl⟩;have h2:=G7.2 ⟨hg,h.symm⟩;rw[h1]at h2;injection h2
end Go.Proofs.YtbdibdghphdcdaaGreatDoor
namespace Go.Proofs
open Go.Shelf
def Tryz.lays160_ren:Go.Shelf.Ren:=⟨fun|160=>125|232=>136|231=>119|227=>120|234=>137|233=>121|236=>138|235=>122|228=>133|271=>148|151=>135|197=>134|120=>155|152=>147|260=>146|137=>153|119=>154|224=>141|225=>140|217=>139|266=>149|n=>n,fun|9=>9|4=>4|3=>3|5=>5|117=>192|116=>191|0=>0|124=>195|21=>21|105=>199|46=>203|119=>209|139=>212|138=>211|n=>n,fun|3=>1|4=>2|n=>n⟩
theorem Tryz.lays160:Go.Proofs.Lays.n160 Tryz.prog Tryz.lays160_ren:={
 mixed:=by kernel_rfl
 f119:=Tryz.func154.trans (congrArg some (by kernel_rfl))
 f120:=Tryz.func155.trans (congrArg some (by kernel_rfl))
 f137:=Tryz.func153.trans (congrArg some (by kernel_rfl))
 f151:=Tryz.func135.trans (congrArg some (by kernel_rfl))
 f152:=Tryz.func147.trans (congrArg some (by kernel_rfl))
 f160:=Tryz.func125.trans (congrArg some (by kernel_rfl))
 f197:=Tryz.func134.trans (congrArg some (by kernel_rfl))
 f217:=Tryz.func139.trans (congrArg some (by kernel_rfl))
 f224:=Tryz.func141.trans (congrArg some (by kernel_rfl))
 f225:=Tryz.func140.trans (congrArg some (by kernel_rfl))
 f227:=Tryz.func120.trans (congrArg some (by kernel_rfl))
 f228:=Tryz.func133.trans (congrArg some (by kernel_rfl))
 f231:=Tryz.func119.trans (congrArg some (by kernel_rfl))
 f232:=Tryz.func136.trans (congrArg some (by kernel_rfl))
 f233:=Tryz.func121.trans (congrArg some (by kernel_rfl))
 f234:=Tryz.func137.trans (congrArg some (by kernel_rfl))
 f235:=Tryz.func122.trans (congrArg some (by kernel_rfl))
 f236:=Tryz.func138.trans (congrArg some (by kernel_rfl))
 f260:=Tryz.func146.trans (congrArg some (by kernel_rfl))
 f266:=Tryz.func149.trans (congrArg some (by kernel_rfl))
 f271:=Tryz.func148.trans (congrArg some (by kernel_rfl))
 t0:=Tryz.underlying0
 a0:=Tryz.isAgg0
 z0:=Tryz.sizeOf0
 v0:=Tryz.zeroValue0
 t3:=Tryz.underlying3
 a3:=Tryz.isAgg3
 z3:=Tryz.sizeOf3
 v3:=Tryz.zeroValue3
 t4:=Tryz.underlying4
 a4:=Tryz.isAgg4
 z4:=Tryz.sizeOf4
 v4:=Tryz.zeroValue4
 t5:=Tryz.underlying5
 a5:=Tryz.isAgg5
 z5:=Tryz.sizeOf5
 v5:=Tryz.zeroValue5
 t9:=Tryz.underlying9
 a9:=Tryz.isAgg9
 z9:=Tryz.sizeOf9
 v9:=Tryz.zeroValue9
 t21:=Tryz.underlying21
 a21:=Tryz.isAgg21
 z21:=Tryz.sizeOf21
 v21:=Tryz.zeroValue21
 t46:=Tryz.underlying203
 a46:=Tryz.isAgg203
 z46:=Tryz.sizeOf203
 v46:=Tryz.zeroValue203
 t105:=Tryz.underlying199
 a105:=Tryz.isAgg199
 z105:=Tryz.sizeOf199
 v105:=Tryz.zeroValue199
 t116:=Tryz.underlying191
 a116:=Tryz.isAgg191
 z116:=Tryz.sizeOf191
 t117:=Tryz.underlying192
 a117:=Tryz.isAgg192
 z117:=Tryz.sizeOf192
 v117:=Tryz.zeroValue192
 t119:=Tryz.underlying209
 a119:=Tryz.isAgg209
 z119:=Tryz.sizeOf209
 t124:=Tryz.underlying195
 a124:=Tryz.isAgg195
 z124:=Tryz.sizeOf195
 v124:=Tryz.zeroValue195
 t138:=Tryz.underlying211
 a138:=Tryz.isAgg211
 z138:=Tryz.sizeOf211
 v138:=Tryz.zeroValue211
 t139:=Tryz.underlying212
 a139:=Tryz.isAgg212
 z139:=Tryz.sizeOf212
 v139:=Tryz.zeroValue212
 g3:=by kernel_rfl
 g4:=by kernel_rfl}
def Tryz.lays161_ren:Go.Shelf.Ren:=⟨fun|161=>96|231=>119|227=>120|233=>121|235=>122|228=>133|197=>134|151=>135|260=>146|152=>147|137=>153|119=>154|224=>141|225=>140|217=>139|266=>149|n=>n,fun|9=>9|4=>4|3=>3|5=>5|117=>192|116=>191|0=>0|124=>195|105=>199|21=>21|119=>209|46=>203|139=>212|138=>211|n=>n,fun|3=>1|4=>2|n=>n⟩
theorem Tryz.lays161:Go.Proofs.Lays.n161 Tryz.prog Tryz.lays161_ren:={
 mixed:=by kernel_rfl
 f119:=Tryz.func154.trans (congrArg some (by kernel_rfl))
 f137:=Tryz.func153.trans (congrArg some (by kernel_rfl))
 f151:=Tryz.func135.trans (congrArg some (by kernel_rfl))
 f152:=Tryz.func147.trans (congrArg some (by kernel_rfl))
 f161:=Tryz.func96.trans (congrArg some (by kernel_rfl))
 f197:=Tryz.func134.trans (congrArg some (by kernel_rfl))
 f217:=Tryz.func139.trans (congrArg some (by kernel_rfl))
 f224:=Tryz.func141.trans (congrArg some (by kernel_rfl))
 f225:=Tryz.func140.trans (congrArg some (by kernel_rfl))
 f227:=Tryz.func120.trans (congrArg some (by kernel_rfl))
 f228:=Tryz.func133.trans (congrArg some (by kernel_rfl))
 f231:=Tryz.func119.trans (congrArg some (by kernel_rfl))
 f233:=Tryz.func121.trans (congrArg some (by kernel_rfl))
 f235:=Tryz.func122.trans (congrArg some (by kernel_rfl))
 f260:=Tryz.func146.trans (congrArg some (by kernel_rfl))
 f266:=Tryz.func149.trans (congrArg some (by kernel_rfl))
 t0:=Tryz.underlying0
 a0:=Tryz.isAgg0
 z0:=Tryz.sizeOf0
 v0:=Tryz.zeroValue0
 t3:=Tryz.underlying3
 a3:=Tryz.isAgg3
 z3:=Tryz.sizeOf3
 v3:=Tryz.zeroValue3
 t4:=Tryz.underlying4
 a4:=Tryz.isAgg4
 z4:=Tryz.sizeOf4
 v4:=Tryz.zeroValue4
 t5:=Tryz.underlying5
 a5:=Tryz.isAgg5
 z5:=Tryz.sizeOf5
 v5:=Tryz.zeroValue5
 t9:=Tryz.underlying9
 a9:=Tryz.isAgg9
 z9:=Tryz.sizeOf9
 v9:=Tryz.zeroValue9
 t21:=Tryz.underlying21
 a21:=Tryz.isAgg21
 z21:=Tryz.sizeOf21
 v21:=Tryz.zeroValue21
 t46:=Tryz.underlying203
 a46:=Tryz.isAgg203
 z46:=Tryz.sizeOf203
 v46:=Tryz.zeroValue203
 t105:=Tryz.underlying199
 a105:=Tryz.isAgg199
 z105:=Tryz.sizeOf199
 v105:=Tryz.zeroValue199
 t116:=Tryz.underlying191
 a116:=Tryz.isAgg191
 z116:=Tryz.sizeOf191
 t117:=Tryz.underlying192
 a117:=Tryz.isAgg192
 z117:=Tryz.sizeOf192
 v117:=Tryz.zeroValue192
 t119:=Tryz.underlying209
 a119:=Tryz.isAgg209
 z119:=Tryz.sizeOf209
 t124:=Tryz.underlying195
 a124:=Tryz.isAgg195
 z124:=Tryz.sizeOf195
 v124:=Tryz.zeroValue195
 t138:=Tryz.underlying211
 a138:=Tryz.isAgg211
 z138:=Tryz.sizeOf211
 v138:=Tryz.zeroValue211
 t139:=Tryz.underlying212
 a139:=Tryz.isAgg212
 z139:=Tryz.sizeOf212
 v139:=Tryz.zeroValue212
 g3:=by kernel_rfl
 g4:=by kernel_rfl}
def Tryz.lays99_ren:Go.Shelf.Ren:=⟨fun|99=>97|206=>123|n=>n,fun|9=>9|4=>4|3=>3|n=>n,fun|n=>n⟩
theorem Tryz.lays99:Go.Proofs.Lays.n99 Tryz.prog Tryz.lays99_ren:={
 mixed:=by kernel_rfl
 f99:=Tryz.func97.trans (congrArg some (by kernel_rfl))
 f206:=Tryz.func123.trans (congrArg some (by kernel_rfl))
 t3:=Tryz.underlying3
 a3:=Tryz.isAgg3
 z3:=Tryz.sizeOf3
 v3:=Tryz.zeroValue3
 t4:=Tryz.underlying4
 a4:=Tryz.isAgg4
 z4:=Tryz.sizeOf4
 v4:=Tryz.zeroValue4
 t9:=Tryz.underlying9
 a9:=Tryz.isAgg9
 z9:=Tryz.sizeOf9
 v9:=Tryz.zeroValue9}
def Tryz.lays100_ren:Go.Shelf.Ren:=⟨fun|100=>98|207=>124|n=>n,fun|9=>9|4=>4|3=>3|n=>n,fun|n=>n⟩
theorem Tryz.lays100:Go.Proofs.Lays.n100 Tryz.prog Tryz.lays100_ren:={
 mixed:=by kernel_rfl
 f100:=Tryz.func98.trans (congrArg some (by kernel_rfl))
 f207:=Tryz.func124.trans (congrArg some (by kernel_rfl))
 t3:=Tryz.underlying3
 a3:=Tryz.isAgg3
 z3:=Tryz.sizeOf3
 v3:=Tryz.zeroValue3
 t4:=Tryz.underlying4
 a4:=Tryz.isAgg4
 z4:=Tryz.sizeOf4
 v4:=Tryz.zeroValue4
 t9:=Tryz.underlying9
 a9:=Tryz.isAgg9
 z9:=Tryz.sizeOf9
 v9:=Tryz.zeroValue9}
def Tryz.lays143_ren:Go.Shelf.Ren:=⟨fun|143=>130|219=>129|217=>139|225=>140|224=>141|267=>142|266=>149|314=>150|n=>n,fun|9=>9|3=>3|4=>4|5=>5|46=>203|146=>207|51=>206|n=>n,fun|1=>0|n=>n⟩
theorem Tryz.lays143:Go.Proofs.Lays.n143 Tryz.prog Tryz.lays143_ren:={
 mixed:=by kernel_rfl
 f143:=Tryz.func130.trans (congrArg some (by kernel_rfl))
 f217:=Tryz.func139.trans (congrArg some (by kernel_rfl))
 f219:=Tryz.func129.trans (congrArg some (by kernel_rfl))
 f224:=Tryz.func141.trans (congrArg some (by kernel_rfl))
 f225:=Tryz.func140.trans (congrArg some (by kernel_rfl))
 f266:=Tryz.func149.trans (congrArg some (by kernel_rfl))
 f267:=Tryz.func142.trans (congrArg some (by kernel_rfl))
 f314:=Tryz.func150.trans (congrArg some (by kernel_rfl))
 t3:=Tryz.underlying3
 a3:=Tryz.isAgg3
 z3:=Tryz.sizeOf3
 v3:=Tryz.zeroValue3
 t4:=Tryz.underlying4
 a4:=Tryz.isAgg4
 z4:=Tryz.sizeOf4
 v4:=Tryz.zeroValue4
 t5:=Tryz.underlying5
 a5:=Tryz.isAgg5
 z5:=Tryz.sizeOf5
 v5:=Tryz.zeroValue5
 t9:=Tryz.underlying9
 a9:=Tryz.isAgg9
 z9:=Tryz.sizeOf9
 v9:=Tryz.zeroValue9
 t46:=Tryz.underlying203
 a46:=Tryz.isAgg203
 z46:=Tryz.sizeOf203
 v46:=Tryz.zeroValue203
 t51:=Tryz.underlying206
 a51:=Tryz.isAgg206
 z51:=Tryz.sizeOf206
 v51:=Tryz.zeroValue206
 t146:=Tryz.underlying207
 a146:=Tryz.isAgg207
 z146:=Tryz.sizeOf207
 v146:=Tryz.zeroValue207
 g1:=by kernel_rfl}
def Tryz.lays144_ren:Go.Shelf.Ren:=⟨fun|144=>116|143=>130|219=>129|217=>139|225=>140|224=>141|267=>142|266=>149|314=>150|n=>n,fun|9=>9|4=>4|3=>3|5=>5|46=>203|146=>207|51=>206|n=>n,fun|1=>0|n=>n⟩
theorem Tryz.lays144:Go.Proofs.Lays.n144 Tryz.prog Tryz.lays144_ren:={
 mixed:=by kernel_rfl
 f143:=Tryz.func130.trans (congrArg some (by kernel_rfl))
 f144:=Tryz.func116.trans (congrArg some (by kernel_rfl))
 f217:=Tryz.func139.trans (congrArg some (by kernel_rfl))
 f219:=Tryz.func129.trans (congrArg some (by kernel_rfl))
 f224:=Tryz.func141.trans (congrArg some (by kernel_rfl))
 f225:=Tryz.func140.trans (congrArg some (by kernel_rfl))
 f266:=Tryz.func149.trans (congrArg some (by kernel_rfl))
 f267:=Tryz.func142.trans (congrArg some (by kernel_rfl))
 f314:=Tryz.func150.trans (congrArg some (by kernel_rfl))
 t3:=Tryz.underlying3
 a3:=Tryz.isAgg3
 z3:=Tryz.sizeOf3
 v3:=Tryz.zeroValue3
 t4:=Tryz.underlying4
 a4:=Tryz.isAgg4
 z4:=Tryz.sizeOf4
 v4:=Tryz.zeroValue4
 t5:=Tryz.underlying5
 a5:=Tryz.isAgg5
 z5:=Tryz.sizeOf5
 v5:=Tryz.zeroValue5
 t9:=Tryz.underlying9
 a9:=Tryz.isAgg9
 z9:=Tryz.sizeOf9
 v9:=Tryz.zeroValue9
 t46:=Tryz.underlying203
 a46:=Tryz.isAgg203
 z46:=Tryz.sizeOf203
 v46:=Tryz.zeroValue203
 t51:=Tryz.underlying206
 a51:=Tryz.isAgg206
 z51:=Tryz.sizeOf206
 v51:=Tryz.zeroValue206
 t146:=Tryz.underlying207
 a146:=Tryz.isAgg207
 z146:=Tryz.sizeOf207
 v146:=Tryz.zeroValue207
 g1:=by kernel_rfl}
def Tryz.lays138_ren:Go.Shelf.Ren:=⟨fun|138=>144|195=>151|218=>152|143=>130|219=>129|217=>139|225=>140|224=>141|267=>142|266=>149|314=>150|n=>n,fun|9=>9|3=>3|4=>4|5=>5|0=>0|46=>203|146=>207|51=>206|n=>n,fun|1=>0|n=>n⟩
theorem Tryz.lays138:Go.Proofs.Lays.n138 Tryz.prog Tryz.lays138_ren:={
 mixed:=by kernel_rfl
 f138:=Tryz.func144.trans (congrArg some (by kernel_rfl))
 f143:=Tryz.func130.trans (congrArg some (by kernel_rfl))
 f195:=Tryz.func151.trans (congrArg some (by kernel_rfl))
 f217:=Tryz.func139.trans (congrArg some (by kernel_rfl))
 f218:=Tryz.func152.trans (congrArg some (by kernel_rfl))
 f219:=Tryz.func129.trans (congrArg some (by kernel_rfl))
 f224:=Tryz.func141.trans (congrArg some (by kernel_rfl))
 f225:=Tryz.func140.trans (congrArg some (by kernel_rfl))
 f266:=Tryz.func149.trans (congrArg some (by kernel_rfl))
 f267:=Tryz.func142.trans (congrArg some (by kernel_rfl))
 f314:=Tryz.func150.trans (congrArg some (by kernel_rfl))
 t0:=Tryz.underlying0
 a0:=Tryz.isAgg0
 z0:=Tryz.sizeOf0
 v0:=Tryz.zeroValue0
 t3:=Tryz.underlying3
 a3:=Tryz.isAgg3
 z3:=Tryz.sizeOf3
 v3:=Tryz.zeroValue3
 t4:=Tryz.underlying4
 a4:=Tryz.isAgg4
 z4:=Tryz.sizeOf4
 v4:=Tryz.zeroValue4
 t5:=Tryz.underlying5
 a5:=Tryz.isAgg5
 z5:=Tryz.sizeOf5
 v5:=Tryz.zeroValue5
 t9:=Tryz.underlying9
 a9:=Tryz.isAgg9
 z9:=Tryz.sizeOf9
 v9:=Tryz.zeroValue9
 t46:=Tryz.underlying203
 a46:=Tryz.isAgg203
 z46:=Tryz.sizeOf203
 v46:=Tryz.zeroValue203
 t51:=Tryz.underlying206
 a51:=Tryz.isAgg206
 z51:=Tryz.sizeOf206
 v51:=Tryz.zeroValue206
 t146:=Tryz.underlying207
 a146:=Tryz.isAgg207
 z146:=Tryz.sizeOf207
 v146:=Tryz.zeroValue207
 g1:=by kernel_rfl}
def Tryz.lays219_ren:Go.Shelf.Ren:=⟨fun|219=>129|217=>139|225=>140|224=>141|267=>142|266=>149|314=>150|n=>n,fun|9=>9|3=>3|4=>4|5=>5|46=>203|146=>207|51=>206|n=>n,fun|1=>0|n=>n⟩
theorem Tryz.lays219:Go.Proofs.Lays.n219 Tryz.prog Tryz.lays219_ren:={
 mixed:=by kernel_rfl
 f217:=Tryz.func139.trans (congrArg some (by kernel_rfl))
 f219:=Tryz.func129.trans (congrArg some (by kernel_rfl))
 f224:=Tryz.func141.trans (congrArg some (by kernel_rfl))
 f225:=Tryz.func140.trans (congrArg some (by kernel_rfl))
 f266:=Tryz.func149.trans (congrArg some (by kernel_rfl))
 f267:=Tryz.func142.trans (congrArg some (by kernel_rfl))
 f314:=Tryz.func150.trans (congrArg some (by kernel_rfl))
 t3:=Tryz.underlying3
 a3:=Tryz.isAgg3
 z3:=Tryz.sizeOf3
 v3:=Tryz.zeroValue3
 t4:=Tryz.underlying4
 a4:=Tryz.isAgg4
 z4:=Tryz.sizeOf4
 v4:=Tryz.zeroValue4
 t5:=Tryz.underlying5
 a5:=Tryz.isAgg5
 z5:=Tryz.sizeOf5
 v5:=Tryz.zeroValue5
 t9:=Tryz.underlying9
 a9:=Tryz.isAgg9
 z9:=Tryz.sizeOf9
 v9:=Tryz.zeroValue9
 t46:=Tryz.underlying203
 a46:=Tryz.isAgg203
 z46:=Tryz.sizeOf203
 v46:=Tryz.zeroValue203
 t51:=Tryz.underlying206
 a51:=Tryz.isAgg206
 z51:=Tryz.sizeOf206
 v51:=Tryz.zeroValue206
 t146:=Tryz.underlying207
 a146:=Tryz.isAgg207
 z146:=Tryz.sizeOf207
 v146:=Tryz.zeroValue207
 g1:=by kernel_rfl}
def Tryz.lays156_ren:Go.Shelf.Ren:=⟨fun|156=>32|165=>61|166=>62|169=>63|240=>91|241=>92|276=>113|277=>114|n=>n,fun|31=>64|9=>9|3=>3|4=>4|0=>0|20=>20|72=>128|76=>132|70=>126|37=>22|75=>131|127=>159|164=>183|5=>5|80=>47|n=>n,fun|n=>n⟩
theorem Tryz.lays156:Go.Proofs.Lays.n156 Tryz.prog Tryz.lays156_ren:={
 mixed:=by kernel_rfl
 f156:=Tryz.func32.trans (congrArg some (by kernel_rfl))
 f165:=Tryz.func61.trans (congrArg some (by kernel_rfl))
 f166:=Tryz.func62.trans (congrArg some (by kernel_rfl))
 f169:=Tryz.func63.trans (congrArg some (by kernel_rfl))
 f240:=Tryz.func91.trans (congrArg some (by kernel_rfl))
 f241:=Tryz.func92.trans (congrArg some (by kernel_rfl))
 f276:=Tryz.func113.trans (congrArg some (by kernel_rfl))
 f277:=Tryz.func114.trans (congrArg some (by kernel_rfl))
 t0:=Tryz.underlying0
 a0:=Tryz.isAgg0
 z0:=Tryz.sizeOf0
 v0:=Tryz.zeroValue0
 t3:=Tryz.underlying3
 a3:=Tryz.isAgg3
 z3:=Tryz.sizeOf3
 v3:=Tryz.zeroValue3
 t4:=Tryz.underlying4
 a4:=Tryz.isAgg4
 z4:=Tryz.sizeOf4
 v4:=Tryz.zeroValue4
 t9:=Tryz.underlying9
 a9:=Tryz.isAgg9
 z9:=Tryz.sizeOf9
 v9:=Tryz.zeroValue9
 t20:=Tryz.underlying20
 a20:=Tryz.isAgg20
 z20:=Tryz.sizeOf20
 v20:=Tryz.zeroValue20
 t31:=Tryz.underlying64
 a31:=Tryz.isAgg64
 z31:=Tryz.sizeOf64
 v31:=Tryz.zeroValue64
 t37:=Tryz.underlying22
 a37:=Tryz.isAgg22
 z37:=Tryz.sizeOf22
 v37:=Tryz.zeroValue22
 t70:=Tryz.underlying126
 a70:=Tryz.isAgg126
 z70:=Tryz.sizeOf126
 v70:=Tryz.zeroValue126
 t72:=Tryz.underlying128
 a72:=Tryz.isAgg128
 z72:=Tryz.sizeOf128
 v72:=Tryz.zeroValue128
 t75:=Tryz.underlying131
 a75:=Tryz.isAgg131
 z75:=Tryz.sizeOf131
 v75:=Tryz.zeroValue131
 t76:=Tryz.underlying132
 a76:=Tryz.isAgg132
 z76:=Tryz.sizeOf132
 v76:=Tryz.zeroValue132
 t127:=Tryz.underlying159
 a127:=Tryz.isAgg159
 z127:=Tryz.sizeOf159
 v127:=Tryz.zeroValue159
 t164:=Tryz.underlying183
 a164:=Tryz.isAgg183
 z164:=Tryz.sizeOf183
 v164:=Tryz.zeroValue183}
end Go.Proofs
namespace Go.Proofs.YtbdibdghphdcdaaGreatDoor
open Go.RowKit Go.Proofs.Tryz
section
attribute [local go_sem] Qo7 Qok Qoa Ql9 ByteArray.mk_append_mk
theorem Qc(s cs:List UInt8)(w:World)(hcs:cs.length<4294967281)(ha:∀b∈cs,b.toNat<128):
  Calls prog 96 #[s,cs] w fun e w'=>e=.returned (.string ⟨(s.dropWhile (cs.contains ·)).toArray⟩)/\Below w w w':=
 Any.strings_TrimLeft_laid Tryz.lays161 aL ⟨s.toArray⟩ ⟨cs.toArray⟩ w hcs (fun j b h=>ha b (List.mem_of_getElem? h))
theorem Nx{p:UInt8->Bool}:∀{l:List UInt8},l.dropWhile p=[]↔l.all p=true
 |[]=>aK
 |x::l=>by
  have ih:=Nx (p:=p) (l:=l);by_cases h:p x=true
  ·simp only[List.dropWhile_cons,h,if_true,List.all_cons,Bool.true_and];exact ih
  simp[h]
theorem Qi5{l cs:List UInt8}:Lib.trimS l cs=[]↔l.all (cs.contains ·)=true:=by
 unfold Lib.trimS Lib.trimLeftS Lib.trimRightS;rw[Nx];have hsp:l.reverse.takeWhile (cs.contains ·)++l.reverse.dropWhile (cs.contains ·)=l.reverse:=List.takeWhile_append_dropWhile;have htk:=Kz (p:=fun x=>cs.contains x) l.reverse;constructor
 ·intro h;rw[List.all_eq_true]at h htk ⊢;intro x hx;have hx':x∈l.reverse:=List.mem_reverse.2 hx;rw[<-hsp]at hx';rcases af.1 hx' with hx'|hx'
  ·exact htk x hx'
  exact h x (List.mem_reverse.2 hx')
 intro h;rw[List.all_eq_true]at h ⊢;intro x hx;have hx':=List.mem_reverse.1 hx;exact h x (List.mem_reverse.1 (by rw[<-hsp];exact List.mem_append_right _ hx'))
theorem Qff(s cs:List UInt8)(w:World)(hs:s.length<=9223372036854775807)(hcs:cs.length<4294967281)(ha:∀b∈cs,b.toNat<128):
  Calls prog 125 #[s,cs] w fun e w'=>(∃r:List UInt8,e=.returned r/\(r=[]↔s.all (cs.contains ·)=true))/\Below w w w':=
 (Any.strings_Trim_laid Tryz.lays160 aL ⟨s.toArray⟩ ⟨cs.toArray⟩ w hs hcs (fun j b h=>ha b (List.mem_of_getElem? h))).mono fun e w' ⟨h1,h2⟩=>⟨⟨_,h1,Qi5⟩,h2⟩
theorem Qcc(s p:List UInt8):Lib.hasPrefix s p=p.isPrefixOf s:=by
 unfold Lib.hasPrefix;first|rfl|simp
theorem S4(s p:List UInt8)(w:World):
  Calls prog 97 #[s,p] w fun e w'=>e=.returned (.bool (p.isPrefixOf s))/\w=w':=
 (Any.strings_HasPrefix Tryz.lays99 ⟨s.toArray⟩ ⟨p.toArray⟩ w).mono fun e w' ⟨h1,h2⟩=>⟨by rw[h1,Qcc],h2.symm⟩
theorem Ss(s p:List UInt8)(w:World)(hs:s.length<=9223372036854775807):
  Calls prog 98 #[s,p] w fun e w'=>e=.returned (.bool (Lib.hasSuffix s p))/\w=w':=
 (Any.strings_HasSuffix Tryz.lays100 ⟨s.toArray⟩ ⟨p.toArray⟩ w hs).mono fun e w' ⟨h1,h2⟩=>⟨h1,h2.symm⟩
theorem Ml(s:List UInt8)(c:UInt8):(c∉s/\Lib.indexByte s c = -1)\/∃p t,s=p++c::t/\c∉p/\Lib.indexByte s c=(p.length:Int):=by
 induction s with
 |nil=>exact .inl ⟨by simp,rfl⟩
 |cons x s ih=>
  by_cases hx:x=c
  ·exact .inr ⟨[],s,by simp[hx],by simp,by simp[Lib.indexByte,hx]⟩
  have hb:(x == c)=false:=by simpa using hx
  rcases ih with⟨hn,e⟩|⟨p,t,es,hp,e⟩
  ·exact .inl ⟨by simp;exact⟨fun h=>hx h.symm,hn⟩,by simp[Lib.indexByte,hb,e]⟩
  refine .inr ⟨x::p,t,by simp[es],by simp;exact⟨fun h=>hx h.symm,hp⟩,?_⟩;have:¬(p.length:Int) = -1:=aH;simp[Lib.indexByte,hb,e,this]
theorem Qju(s:List UInt8)(c:UInt8)(w:World):
  Calls prog 130 #[s,.string ⟨#[c]⟩] w fun e w'=>e=.returned (.int .i64 (Lib.indexByte s c))/\w=w':=
 (Any.strings_Index_one Tryz.lays143 ⟨s.toArray⟩ c w).mono fun e w' ⟨h1,h2⟩=>⟨h1,h2.symm⟩
theorem Qai(s:List UInt8)(c:UInt8)(w:World):
  Calls prog 129 #[s,.string ⟨#[c]⟩] w fun e w'=>e=.returned (.int .i64 (Lib.indexByte s c))/\w=w':=
 (Any.stringslite_Index_one Tryz.lays219 ⟨s.toArray⟩ c w).mono fun e w' ⟨h1,h2⟩=>⟨h1,h2.symm⟩
theorem Qjc(s:List UInt8)(c:UInt8)(w:World):
  Calls prog 144 #[s,.string ⟨#[c]⟩] w fun e w'=>e=.returned (.int .i64 ((s.count c:Nat):Int))/\w=w':=
 (Any.strings_Count_one Tryz.lays138 ⟨s.toArray⟩ c w).mono fun e w' ⟨h1,h2⟩=>⟨h1,h2.symm⟩
theorem P4(s:List UInt8)(c:UInt8)(w:World):
  Calls prog 116 #[s,.string ⟨#[c]⟩] w fun e w'=>e=.returned (.bool (decide (c∈s)))/\w=w':=
 (Any.strings_Contains_one Tryz.lays144 ⟨s.toArray⟩ c w).mono fun e w' ⟨h1,h2⟩=>⟨by
  rw[h1];refine Eu (Dg ?_);show decide (0<=Lib.indexByte s c)=_;rw[decide_eq_decide];rcases Ml s c with⟨hn,e⟩|⟨p,t,es,hp,e⟩
  ·rw[e];exact⟨fun h=>by omega,fun h=>absurd h hn⟩
  rw[e];exact⟨fun _=>by rw[es];simp,fun _=>by omega⟩,h2.symm⟩
def Qfs(r:List UInt8 × List UInt8 × Bool):Value:=.tuple #[r.1,r.2.1,.bool r.2.2]
theorem Ql1(s:List UInt8)(c:UInt8)(w:World)(hs:s.length<=4294967280):
  Calls prog 115 #[s,.string ⟨#[c]⟩] w fun e w'=>e=.returned (Qfs (Dp c s))/\∃k,w'=w.drewN k:=by
 rcases Ml s c with⟨hn,e⟩|⟨p,t,es,hp,e⟩
 ·have Hc:=Aa (Rz hn);have Hi:=Aa (fun W=>Qai s c W);rw[e]at Hi;clear hn e;go_enter func115,ntmps115;go_wp2_with fail;refine(Hi.o _).mono ?_;rintro e w' ⟨rfl,rfl⟩;go_wp2_with fail;go_ret3
  exact⟨by rw[Hc.o];rfl,0,rfl⟩
 have Hc:=Aa (show Dp c s=(p,t,true)by rw[es];exact Fe hp);have Hi:=Aa (fun W=>Qai s c W);rw[e]at Hi;have hl:s.length=p.length+1+t.length:=by rw[es];simp;omega
 have h1:s.take p.length=p:=by rw[es];simp
 have h2:s.drop (p.length+1)=t:=by
  rw[es,show p++c::t=(p++[c])++t by simp];exact List.drop_left' aK
 have k1:IntKind.i64.wrap ((p.length:Int)+1)=(p.length:Int)+1:=IntWalk.i64_in _ aH;have k2:((p.length:Int)+1).toNat=p.length+1:=aH;have k3:(0:Int)<=(p.length:Int)+1:=aH;have k4:(p.length:Int)+1<=(s.length:Int):=aH;have k5:(p.length:Int)<=(s.length:Int):=aH;have k6:(0:Int)<=(p.length:Int):=aH;have H1:=Aa h1;have H2:=Aa h2;clear e es hl h1 h2 hp;go_enter func115,ntmps115;go_wp2_with fail;refine(Hi.o _).mono ?_;rintro e w' ⟨rfl,rfl⟩;go_wp2_with fail;go_quiet (fail)
 go_wp2
 go_ret3
 exact⟨by rw[Hc.o];exact Qo9 (Qlf H1.o) (Qlf H2.o) rfl,_,rfl⟩
theorem Tw(s:List UInt8)(c:UInt8)(w:World)(hs:s.length<=4294967280):
  Calls prog 93 #[s,.string ⟨#[c]⟩] w fun e w'=>e=.returned (Qfs (Dp c s))/\∃k,w'=w.drewN k:=by
 go_enter func93,ntmps93;go_wp2_with fail;refine(Ql1 s c _ hs).mono ?_;rintro e w' ⟨rfl,k,rfl⟩;unfold Qfs;go_wp2_with fail;go_ret3
 exact⟨rfl,k,rfl⟩
theorem Tx(c:UInt8):∀s:List UInt8,(Al c s).length=s.count c+1
 |[]=>rfl
 |x::s=>by
  have ih:=Tx c s;simp only[Al];by_cases h:x=c
  ·rw[if_pos h,h];simp[ih]
  rw[if_neg h];have e:List.count c (x::s)=List.count c s:=List.count_cons_of_ne h;rw[e];cases hs:Al c s with
  |nil=>rw[hs]at ih;simp at ih
  |cons p ps=>rw[hs]at ih;simp at ih ⊢;exact ih
theorem Qln(A B:List Value)(k:Nat)(x y:Value)(h:A.length=k):(A++x::B).set k y=A++y::B:=by
 subst h;rw[List.set_append,if_neg aH];simp
theorem Qer{w:World}{base k n g cap:Nat}{ps:List (List UInt8)}{ys:List Value}(h:w.ownsRow base 9 1 (.slice (g,0) n cap) n (Cb ps++ys))(hk:ps.length=k)(hlt:k<n)(s:List UInt8):
  ∃zs,(w.setCell ⟨g,k,none⟩ s).ownsRow base 9 1 (.slice (g,0) n cap) n (Cb (ps++[s])++zs)/\w.grownBy (w.setCell ⟨g,k,none⟩ s) (some g)/\w.frozen? ⟨g,k,none⟩=false/\∃u,w.cell? ⟨g,k,none⟩=some u:=by
 have hl:(Cb ps).length=k:=by simp[Cb,hk]
 have h1:=h.1;rw[ah,hl]at h1;obtain⟨y,zs,rfl⟩:∃y zs,ys=y::zs:=by
  cases ys with
  |nil=>simp at h1;omega
  |cons y zs=>exact⟨y,zs,rfl⟩
 have hst:=h.stored k s;rw[Qln _ _ _ _ _ hl]at hst;have hc:=h.cellAt k aH;rw[List.getElem?_append_right aH,hl]at hc;simp at hc;exact⟨zs,by rw[J0,List.append_assoc];exact hst.1,hst.2,h.frozenAt k,y,hc⟩
theorem Qmw{w:World}{base k n g cap:Nat}{ps:List (List UInt8)}{ys:List Value}(h:w.ownsRow base 9 1 (.slice (g,0) n cap) n (Cb ps++ys))(hk:ps.length=k)(hle:k<=n):
  w.ownsRow base 9 1 (.slice (g,0) k cap) k (Cb ps):=by
 rcases h.2 with⟨e,_⟩|⟨g',cap',cur,e,hb,hh,hnc,hcm,hcs,htk⟩
 ·cases e
 injection e with e1 e2 e3;injection e1 with e1;injection e1 with e1;subst e1;subst e3;refine⟨by simp[Cb,hk],.inr ⟨g,cap,cur,rfl,hb,hh,by omega,hcm,hcs,?_⟩⟩;have hl:(Cb ps).length=k:=by simp[Cb,hk]
 have:(cur.toList.take (n*1)).take (k*1)=(Cb ps++ys).take (k*1):=by rw[htk]
 rw[List.take_take,Nat.min_eq_left aH]at this;rw[this,List.take_append_of_le_length aH,au aH]
theorem Qcd(s:List UInt8)(c:UInt8)(w:World)(hs:s.length<=4000000):
  Calls prog 131 #[s,.string ⟨#[c]⟩,.int .i64 0,.int .i64 (-1)] w fun e w'=>
   ∃v,e=.returned v/\w'.ownsRow w 9 1 v (Al c s).length (Cb (Al c s))/\Below w w w':=by
 obtain⟨i0,hi,hz0,hz1,hz2⟩:=info_parts Qe;have hcnt:s.count c<=s.length:=List.count_le_length;have Hn:=Aa (Tx c s);have H0:=@Aa (Al c s=[]++Al c s) rfl;go_enter func131,ntmps131;go_wp2_with fail;refine(Qjc s c w).mono ?_;rintro e w' ⟨rfl,rfl⟩;obtain⟨n,hn⟩:∃n,n=s.count c:=⟨_,rfl⟩
 have HN:=Aa hn;rw[<-hn]at hcnt ⊢;clear hn;have hmin:min ((n:Int)+1) ((s.length:Int)+1)=(n:Int)+1:=aH;go_wp2_with (at_make;refine wpList_make_full _ rfl _ _ 64 rfl w 9 i0 a6 1 underlying64 hi hz0 hz1 .i64 .i64 _ _ (n+1) rfl rfl aH aH (by rw[hz2];omega) aU (An _) ?_;intro w0 hown0 hgrow0)
 go_loopw [0,10] (fun x i wr=>∃(ps:List (List UInt8)) (r:List UInt8) (k:Nat),i=.int .i64 k/\k<=n/\x=r/\r.length<=s.length/\ps.length=k/\Hid (Al c s=ps++Al c r)/\Hid (r.count c+k=n) /\
   Hid (∃ys,wr.ownsRow w 9 1 (.slice (w,0) (n+1) (n+1)) (n+1) (Cb ps++ys))/\Hid (Below w w wr)) (fun _ i _=>n - (intOf i).toNat)
 case atStart=>exact⟨[],s,0,rfl,ag _,rfl,An _,rfl,H0.o,by show _=_;have:=HN.o;omega,⟨_,hown0⟩,(Ap _ _).grown hgrow0 (An _) aK⟩
 case round=>
  obtain⟨ps,r,k,rfl,hk,rfl,hr,hps,hsp,hct,hown,hb⟩:=hrel;have Hps:=Aa hps;clear hps;by_cases hlt:k<n
  ·have hmem:c∈r:=by
    have:=hct.o;exact List.count_pos_iff.1 aH
   have hix:∃p t,r=p++c::t/\c∉p/\Lib.indexByte r c=(p.length:Int):=by
    rcases Ml r c with⟨h,_⟩|h
    ·exact absurd hmem h
    exact h
   obtain⟨p,t,er,hp,e⟩:=hix;have Hi:=Aa (fun W=>Qju r c W);rw[e]at Hi;have hl:r.length=p.length+1+t.length:=by rw[er];simp;omega
   have H1:=Aa (show r.take p.length=p by rw[er];simp)
   have H2:=Aa (show r.drop (p.length+1)=t by
    rw[er,show p++c::t=(p++[c])++t by simp];exact List.drop_left' aK)
   have Hsp:=Aa (show Al c s=(ps++[p])++Al c t by rw[hsp.o,er,Nj c p t hp];simp)
   have Hct:=Aa (show t.count c+(k+1)=n by
    have h0:=hct.o;have h1:p.count c=0:=List.count_eq_zero.2 hp;rw[er,List.count_append,h1,List.count_cons_self]at h0;omega)
   obtain⟨ys,hown'⟩:=hown.o;obtain⟨zs,n1,n2,n3,u,n4⟩:=Qer hown' Hps.o (by omega:k<n+1) p;have N1:=Aa (show (wr.setCell ⟨w.heap.size,k,none⟩ (.string ⟨(r.take p.length).toArray⟩)).ownsRow w 9 1 (.slice (w,0) (n+1) (n+1)) (n+1) (Cb (ps++[p])++zs)by rw[H1.o];exact n1);have N2:=@Aa (Below w w (wr.setCell ⟨w.heap.size,k,none⟩ (.string ⟨(r.take p.length).toArray⟩))) (hb.o.setCell (p:=⟨w.heap.size,k,none⟩) (An _) _);have k1:(0:Int)<=(p.length:Int):=aH;have k2:(p.length:Int)<=(r.length:Int):=aH;have k3:p.length+1<=r.length:=aH;clear e er hp hmem hown' n1 n2 hl;go_wp2_with fail;refine(Hi.o _).mono ?_;rintro e w' ⟨rfl,rfl⟩;go_wp2_with fail;go_roundw
   case rel=>exact⟨ps++[p],t,k+1,by go_num,by omega,Qlf H2.o,by have:=congrArg List.length H2.o;simp at this;omega,by rw[ah,Hps.o];rfl,Hsp.o,Hct.o,⟨zs,N1.o⟩,N2.o⟩
   case measure=>simp[intOf];omega
  ·obtain rfl:k=n:=aH;have hno:c∉r:=by
    have:=hct.o;exact List.count_eq_zero.1 aH
   have Hsp:=Aa (show Al c s=ps++[r]by rw[hsp.o,Jk c r hno]);obtain⟨ys,hown'⟩:=hown.o;obtain⟨zs,n1,n2,n3,u,n4⟩:=Qer hown' Hps.o (by omega:k<k+1) r;have N1:=Aa (Qmw n1 (by rw[ah,Hps.o];rfl) (An _));have N2:=@Aa (Below w w (wr.setCell ⟨w.heap.size,k,none⟩ r)) (hb.o.setCell (p:=⟨w.heap.size,k,none⟩) (An _) _);clear hown' n1 n2 hno;go_wp2_with fail;go_ret;refine⟨_,rfl,?_,N2.o⟩;have e1:(Al c s).length=k+1:=by rw[Hsp.o,ah,Hps.o];rfl
   rw[e1,Hsp.o];exact N1.o
theorem Xb(s:List UInt8)(c:UInt8)(w:World)(hs:s.length<=4000000):
  Calls prog 117 #[s,.string ⟨#[c]⟩] w fun e w'=>
   ∃v,e=.returned v/\w'.ownsRow w 9 1 v (Al c s).length (Cb (Al c s))/\Below w w w':=by
 go_enter func117,ntmps117;go_wp2_with fail;refine(Qcd s c _ hs).mono ?_;rintro e w' ⟨v,rfl,ho,hb⟩;have Ho:=Aa ho;have Hb:=Aa hb;clear ho hb;go_wp2_with fail;go_ret;exact⟨_,rfl,Ho.o,Hb.o⟩
theorem Aq{c d:UInt8}(h:c≠d):((c.toNat:Int) == (d.toNat:Int))=false:=by
 rw[beq_eq_false_iff_ne];intro e;exact h (UInt8.toNat_inj.1 aH)
theorem Bm{c d:UInt8}(h:c=d):((c.toNat:Int) == (d.toNat:Int))=true:=by rw[h];simp
theorem Qd1(n a b:Int)(w:World):
  Calls prog 26 #[.int .i64 n,.int .i64 a,.int .i64 b] w fun e w'=>e=.returned (.bool (decide (a<=n) && decide (n<=b)))/\w=w':=by
 go_enter func26,ntmps26;by_cases h1:a<=n
 ·have t1:decide (a<=n)=true:=fh;rw[t1];go_wp2
  exact kg
 have t1:decide (a<=n)=false:=fh;rw[t1];go_wp2
 exact kg
theorem Da(s:List UInt8)(w:World)(hs:s.length<=9223372036854775807):
  Calls prog 74 #[s] w fun e w'=>e=.returned (.bool (Bh s))/\w=w':=by
 go_enter func74,ntmps74;go_wp2
 go_loop [3] (fun i=>∃k:Nat,k<=s.length/\i=.int .i64 k/\Hid (∀c∈s.take k,Ki c=true)) (fun i=>s.length - (intOf i).toNat)
 case atStart=>exact⟨0,ag _,rfl,by intro c hc;simp at hc⟩
 case round=>
  obtain⟨k,hk,rfl,hin⟩:=hrel;by_cases hlt:k<s.length
  ·have hc:(s[k]).toNat<256:=(s[k]).toNat_lt;have Hts:=Aa (Cn s k hlt);have Hm:=Aa (ae hlt);by_cases h1:Ki s[k]=true
   ·have h2:=Ph.1 h1;obtain⟨h3,h4⟩:=h2;have H1:=Aa h1;clear h1;go_wp2
    go_round
    case rel=>
     refine⟨k+1,by omega,by go_num,?_⟩;intro c hc;rw[Hts.o]at hc;rcases af.1 hc with hc|hc
     ·exact hin.o c hc
     ·simp at hc;subst hc;exact H1.o
    case measure=>simp[intOf];omega
   have hno:Bh s=false:=by
    cases hh:Bh s with
    |false=>rfl
    |true=>exact absurd ((Dz.1 hh).2.2 _ Hm.o) h1
   have Hno:=Aa hno;have h2:(s[k]).toNat<97\/122<(s[k]).toNat:=by
    rcases aG (s[k]).toNat 97 with h|h
    ·exact .inl h
    rcases aG 122 (s[k]).toNat with h'|h'
    ·exact .inr h'
    exact absurd (Ph.2 ⟨h,h'⟩) h1
   clear h1 hno;rcases h2 with h2|h2
   ·go_wp2
    go_ret;exact⟨Eu (Dg Hno.o.symm),rfl⟩
   have h3:97<=(s[k]).toNat:=aH;go_wp2
   go_ret;exact⟨Eu (Dg Hno.o.symm),rfl⟩
  ·have hfin:(decide ((1:Int)<=(s.length:Int)) && decide ((s.length:Int)<=3))=Bh s:=by
    have hall:s.all Ki=true:=List.all_eq_true.2 (fun c hc=>hin.o c (by rw[au aH];exact hc));unfold Bh;rw[hall,Bool.and_true];congr 1<;>· rw[decide_eq_decide];omega
   have Hfin:=Aa hfin;clear hfin;go_wp2_with fail;refine(Qd1 _ _ _ _).mono ?_;rintro e w' ⟨rfl,rfl⟩;go_wp2_with fail;go_ret;exact⟨Eu (Dg Hfin.o),rfl⟩
theorem Y7(c:UInt8)(t:List UInt8)(hc:Bo c=true):(Dd (c::t)).isSome=(decide (t.length<12) && (Dd t).isSome):=by
 unfold Dd;simp only[List.dropWhile_cons,List.takeWhile_cons,hc,if_true];by_cases h:12<(c::t).length
 ·exact jT
 rw[if_neg h];simp at h;have h2:¬12<t.length:=aH;have:t.length<12:=aH;rw[if_neg h2];simp only[this,decide_true,Bool.true_and];by_cases h3:t.dropWhile Bo=[110]\/t.dropWhile Bo=[116]\/t.dropWhile Bo=[102]
 ·rw[if_pos h3,if_pos h3];rfl
 rw[if_neg h3,if_neg h3];by_cases h4:(t.dropWhile Bo).head?=some 64/\(t.dropWhile Bo).getLast?=some 59/\Bh ((t.dropWhile Bo).drop 1).dropLast=true
 ·rw[if_pos h4,if_pos h4];rfl
 rw[if_neg h4,if_neg h4]
theorem Qkl(t:List UInt8):(Dd (64::t)).isSome=(decide (t.length<12) && decide ((64::t).getLast?=some 59) && Bh t.dropLast):=by
 unfold Dd;have h64:Bo 64=false:=aJ;simp only[List.dropWhile_cons,List.takeWhile_cons,h64];by_cases h:12<(64::t).length
 ·exact jT
 rw[if_neg h];simp at h;have:t.length<12:=aH;simp[this];split
 ·rename_i hh;simp[hh]
 rename_i hh;simp only[Option.isSome_none];cases hn:Bh t.dropLast with
 |false=>simp
 |true=>simp[hn]at hh;simp[hh]
theorem Qe2(c:UInt8)(t:List UInt8)(h1:Bo c=false)(h2:c≠64):(Dd (c::t)).isSome=(decide (c::t=[110]) || decide (c::t=[116]) || decide (c::t=[102])):=by
 unfold Dd;simp only[List.dropWhile_cons,List.takeWhile_cons,h1];by_cases h:12<(c::t).length
 ·rw[if_pos h];simp at h;have e:t≠[]:=by rintro rfl;simp at h
  simp[e]
 rw[if_neg h];by_cases h3:c::t=[110]\/c::t=[116]\/c::t=[102]
 ·simp only[ao,if_false];rw[if_pos h3];rcases h3 with h3|h3|h3<;>simp[h3]
 simp only[ao,if_false];rw[if_neg h3,if_neg (by simp[h2])];simp only[not_or]at h3;simp[h3]
theorem Qk:∀(n:Nat) (s:List UInt8) (w:World),s.length<=n->s.length<=9223372036854775807 ->
  Calls prog 42 #[s] w fun e w'=>e=.returned (.bool (Dd s).isSome)/\w=w':=by
 intro n;induction n with
 |zero=>
  intro s w hn hs;obtain rfl:s=[]:=List.eq_nil_of_length_eq_zero aH;go_enter func42,ntmps42;go_wp2_with fail;exact kg
 |succ n ih=>
  intro s w hn hs;have Ih:=Aa ih;clear ih;by_cases h12:12<s.length
  ·have Hf:=Aa (show (Dd s).isSome=false by unfold Dd;rw[if_pos h12];rfl);go_enter func42,ntmps42;go_wp2_with fail;exact kh
  cases s with
  |nil=>
   go_enter func42,ntmps42;go_wp2_with fail;exact kg
  |cons c t=>
   have hlt:t.length<12:=by simp at h12;omega
   have hn':t.length<=n:=by simp at hn;omega
   have hc:=c.toNat_lt;by_cases h91:c=91
   ·have Hf:=Aa (show (Dd (c::t)).isSome=(Dd t).isSome by rw[Y7 c t (by rw[h91];decide)];simp[hlt]);have e1:c.toNat=91:=by rw[h91];rfl
    have t1:((c.toNat:Int) == 91)=true:=by simp[e1]
    clear h91 e1;go_enter func42,ntmps42;go_wp2_with fail;refine(Ih.o t _ hn' aH).mono ?_;rintro e w' ⟨rfl,rfl⟩;go_wp2_with fail;exact kh
   have t1:((c.toNat:Int) == 91)=false:=Aq h91;by_cases h63:c=63
   ·have Hf:=Aa (show (Dd (c::t)).isSome=(Dd t).isSome by rw[Y7 c t (by rw[h63];decide)];simp[hlt]);have e1:c.toNat=63:=by rw[h63];rfl
    have t2:((c.toNat:Int) == 63)=true:=by simp[e1]
    clear h63 h91 e1;go_enter func42,ntmps42;go_wp2_with fail;refine(Ih.o t _ hn' aH).mono ?_;rintro e w' ⟨rfl,rfl⟩;go_wp2_with fail;exact kh
   have t2:((c.toNat:Int) == 63)=false:=Aq h63;by_cases h64:c=64
   ·have e1:c.toNat=64:=by rw[h64];rfl
    have t3:((c.toNat:Int) == 64)=true:=by simp[e1]
    rcases Fp t with rfl|⟨u,d,rfl⟩
    ·have Hf:=Aa (show (Dd [c]).isSome=false by rw[h64];decide);have t4:((c.toNat:Int) == 59)=false:=by simp[e1]
     clear h64 h63 h91 e1;go_enter func42,ntmps42;go_wp2_with fail;exact kh
    have hk:=Qkl (u++[d]);have hl:(c::(u++[d])).getLast?=some d:=by
     exact ki
    rw[<-h64,hl,List.dropLast_concat]at hk;have hd:=d.toNat_lt;simp at hlt;have hgd:∀h,(c::(u++[d]))[u.length+1]'h=d:=by
     intro h;simp
    have hsl:(List.take u.length (u++[d]))=u:=aK;by_cases h59:d=59
    ·have e2:d.toNat=59:=by rw[h59];rfl
     have t4:((d.toNat:Int) == 59)=true:=by simp[e2]
     have Hf:=Aa (show (Dd (c::(u++[d]))).isSome=Bh u by rw[hk,h59];simp;omega);clear h64 h63 h91 e1 hk hl h59 e2;go_enter func42,ntmps42;go_wp2_with fail;refine(Da u _ aH).mono ?_;rintro e w' ⟨rfl,rfl⟩;go_wp2_with fail;exact kh
    have t4:((d.toNat:Int) == 59)=false:=Aq h59;have Hf:=Aa (show (Dd (c::(u++[d]))).isSome=false by rw[hk];simp[h59]);clear h64 h63 h91 e1 hk hl h59;go_enter func42,ntmps42;go_wp2_with fail;exact kh
   have t3:((c.toNat:Int) == 64)=false:=Aq h64;have hk:=Qe2 c t (by simp[Bo,h91,h63]) h64;have Hk:=Aa hk;clear hk h64 h63 h91;cases t with
   |cons x t=>
    have hl2:t.length+1+1<=12:=by simp at hlt;omega
    have Hf:=Aa (show (Dd (c::x::t)).isSome=false by rw[Hk.o];simp);clear Hk;go_enter func42,ntmps42;go_wp2_with fail;all_goals
     go_ret;exact⟨Eu (Dg (by rw[Hf.o])),rfl⟩
   |nil=>
    by_cases g1:c=110
    ·subst g1;go_enter func42,ntmps42;go_wp2_with fail;exact kg
    by_cases g2:c=116
    ·subst g2;go_enter func42,ntmps42;go_wp2_with fail;exact kg
    by_cases g3:c=102
    ·subst g3;go_enter func42,ntmps42;go_wp2_with fail;exact kg
    have Hf:=Aa (show (Dd [c]).isSome=false by rw[Hk.o];simp[g1,g2,g3]);go_enter func42,ntmps42;go_wp2_with fail;go_ret;exact⟨Eu (Dg (by rw[Hf.o];simp[g1,g2,g3])),rfl⟩
def S5:Value->Nat
 |.string b=>b.size
 |_=>0
theorem Mx(l:List UInt8):S5 l=l.length:=rfl
theorem Qfz(k:Kd)(w:World)(hk:k.signs.all Bo=true)(hb:∃c t,B6 k=c::t/\Bo c=false)(hs:(Be k).length<=9223372036854775807):
  Calls prog 44 #[.string ⟨(Be k).toArray⟩] w fun e w'=>e=.returned (.string ⟨(B6 k).toArray⟩)/\w=w':=by
 obtain⟨d,u,hcu,hd⟩:=hb;have hlen:(Be k).length=k.signs.length+(u.length+1):=by unfold Be;rw[hcu];simp
 unfold Be;rw[hcu];generalize k.signs=g at hk hlen;clear hcu;have hd1:d≠91:=by rintro rfl;revert hd;decide
 have hd2:d≠63:=by rintro rfl;revert hd;decide
 have d1:((d.toNat:Int) == 91)=false:=Aq hd1;have d2:((d.toNat:Int) == 63)=false:=Aq hd2;have hdl:=d.toNat_lt;clear hd hd1 hd2;have hs2:g.length+u.length+1<=9223372036854775807:=aH;have Hk:=Aa (List.all_eq_true.1 hk);clear hs hlen hk;go_enter func44,ntmps44;go_wp2_with fail;go_loop [0] (fun x=>∃k:Nat,k<=g.length/\x=.string ⟨(g.drop k++d::u).toArray⟩) (fun x=>S5 x)
 case atStart=>exact⟨0,ag _,rfl⟩
 case round=>
  obtain⟨k,hk,rfl⟩:=hrel;by_cases hlt:k<g.length
  ·have hdr:g.drop k=g[k]::g.drop (k+1):=List.drop_eq_getElem_cons hlt;have hl3:(g.drop (k+1)).length<=g.length:=aK;have hsg:=Hk.o _ (ae hlt);have hc:=(g[k]).toNat_lt;rw[hdr];generalize g[k]=c at hsg hc;have hsg2:c=91\/c=63:=by simpa [Bo]using hsg
   have Hd:=Aa hdr;clear hsg hdr;rcases hsg2 with h91|h63
   ·have t1:((c.toNat:Int) == 91)=true:=Bm h91;clear h91;go_wp2_with fail;go_round
    case rel=>exact⟨k+1,by omega,Qlf (au aK)⟩
    case measure=>rw[Mx,Mx];simp
   have t1:((c.toNat:Int) == 91)=false:=Aq (d:=91) (by rw[h63];decide);have t2:((c.toNat:Int) == 63)=true:=Bm h63;clear h63;go_wp2_with fail;go_round
   case rel=>exact⟨k+1,by omega,Qlf (au aK)⟩
   case measure=>rw[Mx,Mx];simp
  ·rw[List.drop_of_length_le aH,List.nil_append];go_wp2_with fail;exact kg
theorem Qb6(nm:List UInt8)(w:World)(hn:nm.length<=1000):
  Calls prog 43 #[.string ⟨(64::(nm++[59])).toArray⟩] w fun e w'=>e=.returned (.tuple #[nm,.bool true])/\w=w':=by
 have h1:(nm++[59]).take nm.length=nm:=aK;go_enter func43,ntmps43;go_wp2_with fail;go_ret2;exact kj
theorem Qfg(c:UInt8)(t:List UInt8)(w:World)(hc:c≠64)(hn:t.length<=1000):
  Calls prog 43 #[.string ⟨(c::t).toArray⟩] w fun e w'=>e=.returned (.tuple #[a6,.bool false])/\w=w':=by
 have t1:((c.toNat:Int) != 64)=true:=by
  have:=Aq hc;rw[bne_iff_ne];intro e;have h64:((64:UInt8).toNat:Int)=64:=rfl;rw[beq_eq_false_iff_ne,h64]at this;exact this e
 clear hc;go_enter func43,ntmps43;go_wp2_with fail;go_ret2;exact kj
def Qm8:List UInt8:=[97,98,99,100,101,102,103,104,105,106,107,108,109,110,111,112,113,114,115,116,117,118,119,120,121,122]
def Qhf:List UInt8:=[97,98,99,100,101,102,103,104,105,106,107,108,109,110,111,112,113,114,115,116,117,118,119,120,121,122,48,49,50,51,52,53,54,55,56,57,32]
theorem Sg{p:UInt8->Bool}(h:∀n,n<256->p (UInt8.ofNat n)=true)(c:UInt8):p c=true:=by
 have:=h c.toNat c.toNat_lt;rwa [UInt8.ofNat_toNat]at this
theorem Qj8(c:UInt8):Qm8.contains c=Ki c:=by
 have:=Sg (p:=fun c=>Qm8.contains c == Ki c) fV c;simpa using this
theorem Qee(c:UInt8):Qhf.contains c=Ct c:=by
 have:=Sg (p:=fun c=>Qhf.contains c == Ct c) fV c;simpa using this
theorem Qmc(s:List UInt8):s.all (Qm8.contains ·)=s.all Ki:=by congr 1;funext c;exact Qj8 c
theorem Qmz(s:List UInt8):s.all (Qhf.contains ·)=s.all Ct:=by congr 1;funext c;exact Qee c
theorem Nf(s:List UInt8)(w:World)(hs:s.length<=9223372036854775807):
  Calls prog 99 #[s] w fun e w'=>e=.returned (.bool (Bh s))/\Below w w w':=by
 by_cases h1:1<=s.length
 ·by_cases h3:s.length<=3
  ·have hT:=fun W=>Qff s Qm8 W hs aJ aJ;simp only[Qmc]at hT;have HT:=Aa hT;have hn:Bh s=s.all Ki:=by simp[Bh,h1,h3]
   have Hn:=Aa hn;clear hn hT;go_enter func99,ntmps99;go_wp2_with fail;refine(HT.o _).mono ?_;rintro e w' ⟨⟨r,rfl,hr⟩,hb⟩;cases r with
   |nil=>
    have Hr:=Aa (hr.1 rfl);clear hr;go_wp2_with fail;exact km
   |cons x r=>
    have Hr:=Aa (show s.all Ki=false by
     cases h:s.all Ki with
     |false=>rfl
     |true=>exact absurd (hr.2 h) aK)
    clear hr;go_wp2_with fail;exact km
  have Hn:=Aa (show Bh s=false by simp[Bh,h3]);go_enter func99,ntmps99;go_wp2_with fail;exact kq
 have Hn:=Aa (show Bh s=false by simp[Bh,h1]);go_enter func99,ntmps99;go_wp2_with fail;exact kq
theorem Qg2(s:List UInt8)(w:World)(hs:s.length<=9223372036854775807):
  Calls prog 145 #[s] w fun e w'=>e=.returned (.bool (Dy s))/\Below w w w':=by
 by_cases h3:s.length<=12
 ·have hT:=fun W=>Qff s Qhf W hs aJ aJ;simp only[Qmz]at hT;have HT:=Aa hT;have hn:Dy s=s.all Ct:=by simp[Dy,h3]
  have Hn:=Aa hn;have t0:decide ((s.length:Int)<=12)=true:=aM;clear hn hT;go_enter func145,ntmps145;go_wp2_with fail;refine(HT.o _).mono ?_;rintro e w' ⟨⟨r,rfl,hr⟩,hb⟩;cases r with
  |nil=>
   have Hr:=Aa (hr.1 rfl);clear hr;go_wp2_with fail;exact km
  |cons x r=>
   have Hr:=Aa (show s.all Ct=false by
    cases h:s.all Ct with
    |false=>rfl
    |true=>exact absurd (hr.2 h) aK)
   clear hr;go_wp2_with fail;exact km
 have Hn:=Aa (show Dy s=false by simp[Dy,h3]);have t0:decide ((s.length:Int)<=12)=false:=aM;go_enter func145,ntmps145;go_wp2_with fail;exact kq
def pnV(s:List UInt8)(m:Nat):Value:=
 match Dc s with
 |none=>.tuple #[.int .i64 0,.bool false]
 |some n=>.tuple #[.int .i64 n,.bool (decide (n<=m))]
theorem Tp{s:List UInt8}{m:Nat}(h:Dc s=none):pnV s m=.tuple #[.int .i64 0,.bool false]:=by unfold pnV;rw[h]
theorem Yq{s:List UInt8}{m n:Nat}(h:Dc s=some n):pnV s m=.tuple #[.int .i64 n,.bool (decide (n<=m))]:=by unfold pnV;rw[h]
theorem Qcw(s:List UInt8)(k:Nat)(hk:k<=6)(h:(s.take k).all Bn=true):G6 (s.take k)<=999999:=by
 exact kt
theorem Ju(s:List UInt8)(m:Nat)(w:World)(hs:s.length<=9223372036854775807)(hm:m<=999999):
  Calls prog 111 #[s,.int .i64 m] w fun e w'=>e=.returned (pnV s m)/\w=w':=by
 rcases aG s.length 1 with h1|h1
 ·obtain rfl:s=[]:=List.eq_nil_of_length_eq_zero aH;have Hn:=Aa (Tp (m:=m) (show Dc []=none by rfl));go_enter func111,ntmps111;go_wp2_with fail;go_ret2;exact kx
 rcases aG 6 s.length with h6|h6
 ·have Hn:=Aa (Tp (m:=m) (show Dc s=none by unfold Dc;rw[if_neg];rintro⟨_,h,_⟩;omega));go_enter func111,ntmps111;go_wp2_with fail;go_ret2;exact kx
 have hc0:=(s[0]' aH).toNat_lt;have h3:(s[0]' aH=48/\1<s.length)\/((((s[0]' aH).toNat:Int) == 48)=true/\s.length<=1)\/((((s[0]' aH).toNat:Int) == 48)=false):=by
  by_cases h:s[0]' aH=48
  ·rcases aG 1 s.length with h'|h'
   ·exact .inl ⟨h,h'⟩
   exact .inr (.inl ⟨Bm h,h'⟩)
  exact .inr (.inr (Aq h))
 have hhd:(s.head?≠some 48\/s.length=1)\/(s[0]' aH=48/\1<s.length):=by
  rcases h3 with h|⟨_,h⟩|h
  ·exact .inr h
  ·exact .inl (.inr aH)
  refine .inl (.inl ?_);rw[List.head?_eq_getElem?,List.getElem?_eq_getElem aH];intro e;injection e with e;rw[e]at h;exact absurd h aJ
 have Hhd:=Aa hhd;clear hhd;rcases h3 with⟨hz,hl⟩|⟨t0,hl⟩|t0
 ·have Hn:=Aa (Tp (m:=m) (show Dc s=none by
   unfold Dc;rw[if_neg];rintro⟨_,_,_,h|h⟩
   ·apply h;rw[List.head?_eq_getElem?,List.getElem?_eq_getElem aH,hz]
   omega))
  have t0:(((s[0]' aH).toNat:Int) == 48)=true:=Bm hz;have Hz:=Aa hz;go_enter func111,ntmps111;go_wp2_with fail;go_ret2;exact kx
 all_goals
  have Hall:Hid (s.head?≠some 48\/s.length=1):=by
   rcases Hhd.o with h|⟨e,h⟩
   ·exact h
   exfalso
   first
    |omega
    |(rw[e]at t0;exact absurd t0 aJ)
  clear Hhd;go_enter func111,ntmps111;go_wp2_with fail;go_loop [6,28] (fun x i=>∃k:Nat,i=.int .i64 k/\k<=s.length/\Hid ((s.take k).all Bn=true)/\G6 (s.take k)<=999999/\x=.int .i64 ((G6 (s.take k):Nat):Int)) (fun _ i=>s.length - (intOf i).toNat)
  case atStart=>exact⟨0,rfl,ag _,by simp[Hid],by simp[G6],by simp[G6]⟩
  case round=>
   obtain⟨k,rfl,hk,hdig,hv,rfl⟩:=hrel;by_cases hlt:k<s.length
   ·have hc:=(s[k]).toNat_lt;have Hts:=Aa (Cn s k hlt);by_cases hd:Bn s[k]=true
    ·have hd2:=D3.1 hd;obtain⟨d1,d2⟩:=hd2;have hdig2:(s.take (k+1)).all Bn=true:=by
      rw[Hts.o,List.all_append,hdig.o];simp[hd]
     have hv2:=Qcw s (k+1) aH hdig2;have Hdig2:=Aa hdig2;have Hv:=Aa (show G6 (s.take (k+1))=10*G6 (s.take k)+((s[k]).toNat - 48)by rw[Hts.o,M0]);clear hd hdig2;go_wp2_with fail;go_round
     case rel=>exact⟨k+1,by go_num,by omega,Hdig2.o,hv2,Qme (by rw[Hv.o];omega)⟩
     case measure=>simp[intOf];omega
    have Hn:=Aa (Tp (m:=m) (show Dc s=none by
     unfold Dc;rw[if_neg];rintro⟨_,_,h,_⟩;exact hd (List.all_eq_true.1 h _ (ae hlt))))
    have h2:(s[k]).toNat<48\/(48<=(s[k]).toNat/\57<(s[k]).toNat):=by
     rcases aG (s[k]).toNat 48 with h|h
     ·exact .inl h
     rcases aG 57 (s[k]).toNat with h'|h'
     ·exact .inr ⟨h,h'⟩
     exact absurd (D3.2 ⟨h,h'⟩) hd
    clear hd;rcases h2 with h2|⟨h2,h4⟩
    ·go_wp2_with fail;go_ret2;exact kx
    go_wp2_with fail;go_ret2;exact kx
   ·have e:s.take k=s:=au aH
    have Hn:=Aa (Yq (m:=m) (show Dc s=some (G6 (s.take k))by
     have hd:=hdig.o;rw[e]at hd ⊢;unfold Dc;rw[if_pos ⟨by omega,by omega,hd,Hall.o⟩]))
    clear e;generalize G6 (s.take k)=v at hv Hn;by_cases hvm:v<=m
    ·go_wp2_with fail;go_ret2;exact⟨by rw[Hn.o];exact Qmb rfl (Dg (by simp[hvm])),rfl⟩
    go_wp2_with fail;go_ret2;exact⟨by rw[Hn.o];exact Qmb rfl (Dg aM),rfl⟩
structure Ty where
 sort:UInt8
 name:List UInt8
 fields:List Fd
deriving DecidableEq
def H6(fs:List Fd)(f:Fd):Bool:=fs.all fun g=>decide (g.name≠f.name) && decide (g.tag<f.tag)
def Gh(st:UInt8):List (List UInt8)->List Fd->Option (List Fd)
 |[],acc=>some acc
 |p::ps,acc=>match Jw st p with
  |none=>none
  |some f=>if acc.length=8\/H6 acc f=false then none else Gh st ps (acc++[f])
def Ee(st:UInt8):List (List UInt8)->List Fd->Option (List Fd)
 |[],acc=>some acc
 |p::ps,acc=>match Ch st p with
  |none=>none
  |some f=>if H6 acc f=false then none else Ee st ps (acc++[f])
def Fds(st:UInt8)(fs:List Fd):Prop:=(∀f∈fs,Tu st f)/\fs.Pairwise fun g f=>g.name≠f.name/\g.tag<f.tag
theorem Nk{fs:List Fd}{f:Fd}:H6 fs f=true↔∀g∈fs,g.name≠f.name/\g.tag<f.tag:=by simp[H6]
theorem Qew{st:UInt8}{fs:List Fd}{f:Fd}:Fds st (fs++[f])↔Fds st fs/\Tu st f/\H6 fs f=true:=by
 unfold Fds;rw[Nk,List.pairwise_append];constructor
 ·rintro⟨h1,h2,_,h3⟩;exact⟨⟨fun g hg=>h1 g (by simp[hg]),h2⟩,h1 f aK,fun g hg=>h3 g hg f aK⟩
 rintro⟨⟨h1,h2⟩,h3,h4⟩;refine⟨fun g hg=>?_,h2,by simp,fun g hg f' hf'=>?_⟩
 ·rcases af.1 hg with hg|hg
  ·exact h1 g hg
  simp at hg;subst hg;exact h3
 simp at hf';subst hf';exact h4 g hg
theorem Qa(st:UInt8):∀(ps:List (List UInt8)) (acc r:List Fd),Fds st acc->(Ee st ps acc=some r↔Fds st r/\∃gs,r=acc++gs/\gs.map (Me st)=ps)
 |[],acc,r,ha=>by
  simp only[Ee,aj];constructor
  ·rintro rfl;exact⟨ha,[],by simp,rfl⟩
  rintro⟨_,gs,e,h⟩;have:gs=[]:=aQ;subst this;simpa using e.symm
 |p::ps,acc,r,ha=>by
  simp only[Ee];cases hf:Ch st p with
  |none=>
   simp only[reduceCtorEq,false_iff];rintro⟨hr,gs,rfl,h⟩;cases gs with
   |nil=>simp at h
   |cons g gs=>
    simp at h;have:=G7.2 ⟨hr.1 g aK,h.1⟩;rw[this]at hf;cases hf
  |some f=>
   obtain⟨ok,eb⟩:=G7.1 hf;simp only;by_cases hfit:H6 acc f=false
   ·rw[if_pos hfit];simp only[reduceCtorEq,false_iff];rintro⟨hr,gs,rfl,h⟩;cases gs with
    |nil=>simp at h
    |cons g gs=>
     simp at h;have hg:g=f:=Qhx (hr.1 g aK) ok (h.1.trans eb.symm);subst hg;have h2:Fds st (acc++[g]++gs):=dJ;have h3:Fds st (acc++[g]):=⟨fun x hx=>h2.1 x (by simp at hx ⊢;rcases hx with hx|hx<;>simp[hx]),(List.pairwise_append.1 h2.2).1⟩
     rw[(Qew.1 h3).2.2]at hfit;cases hfit
   rw[if_neg hfit];have hfit':H6 acc f=true:=by simpa using hfit
   rw[Qa st ps (acc++[f]) r (Qew.2 ⟨ha,ok,hfit'⟩)];constructor
   ·rintro⟨hr,gs,rfl,h⟩;exact⟨hr,f::gs,by simp,by simp[eb,h]⟩
   rintro⟨hr,gs,rfl,h⟩;cases gs with
   |nil=>simp at h
   |cons g gs=>
    simp at h;have hg:g=f:=Qhx (hr.1 g aK) ok (h.1.trans eb.symm);subst hg;exact⟨hr,gs,by simp,h.2⟩
theorem Tk(st:UInt8):∀(ps:List (List UInt8)) (acc:List Fd),acc.length<=8->Gh st ps acc=(match Ee st ps acc with|some r=>if r.length<=8 then some r else none|none=>none)
 |[],acc,h=>by simp[Gh,Ee,h]
 |p::ps,acc,h=>by
  simp only[Gh,Ee,Qiy];cases hf:Ch st p with
  |none=>rfl
  |some f=>
   simp only;by_cases hfit:H6 acc f=false
   ·rw[if_pos (.inr hfit),if_pos hfit]
   rw[if_neg hfit];by_cases h8:acc.length=8
   ·rw[if_pos (.inl h8)];have key:∀(ps:List (List UInt8)) (a r:List Fd),Ee st ps a=some r->a.length<=r.length:=by
     intro ps;induction ps with
     |nil=>intro a r h;simp[Ee]at h;rw[h];exact Nat.le_refl _
     |cons q qs ih=>
      intro a r h;simp only[Ee]at h;split at h
      ·cases h
      split at h
      ·cases h
      have:=ih _ _ h;simp at this;omega
    cases hr:Ee st ps (acc++[f])with
    |none=>rfl
    |some r=>
     have:=key _ _ _ hr;simp at this;simp only;rw[if_neg aH]
   rw[if_neg (by simp[h8,hfit])];exact Tk st ps (acc++[f]) aM
def Eo(c:UInt8):Prop:=c=82\/c=85\/c=69
instance (c:UInt8):Decidable (Eo c):=by unfold Eo;infer_instance
def Ft(t:Ty):Prop:=Eo t.sort/\Bh t.name=true/\Fds t.sort t.fields/\t.fields.length<=8/\(t.fields=[]->t.sort=82)
def Ye(t:Ty):List UInt8:=t.sort::(t.name++61::Aw 44 (t.fields.map (Me t.sort)))
def Fi(s:List UInt8):Option Ty:=
 match s with
 |[]=>none
 |c::r=>
  if ¬Eo c\/(Dp 61 r).2.2=false\/Bh (Dp 61 r).1=false then none
  else if (Dp 61 r).2.1=[]then(if c=82 then some ⟨c,(Dp 61 r).1,[]⟩else none)
  else match Gh c (Al 44 (Dp 61 r).2.1) []with
   |some fs=>some ⟨c,(Dp 61 r).1,fs⟩
   |none=>none
theorem Qkw{c:UInt8}{ps:List (List UInt8)}(h:ps≠[])(h1:∀p∈ps,p≠[]):Aw c ps≠[]:=by
 cases ps with
 |nil=>exact absurd rfl h
 |cons p ps=>
  have:=h1 p aK;cases ps with
  |nil=>exact this
  |cons q ps=>rw[De c p aK];simp
theorem Qcb(st:UInt8):Fds st []:=⟨by simp,List.Pairwise.nil⟩
theorem Vj{st:UInt8}{ps:List (List UInt8)}{r:List Fd}:Gh st ps []=some r↔Fds st r/\r.length<=8/\r.map (Me st)=ps:=by
 rw[Tk st ps [] aK];constructor
 ·intro h;cases hs:Ee st ps []with
  |none=>rw[hs]at h;cases h
  |some x=>
   rw[hs]at h;simp only at h;split at h
   ·rename_i h8;injection h with h;subst h;obtain⟨h1,gs,e,h2⟩:=(Qa st ps [] x (Qcb st)).1 hs;simp at e;subst e;exact⟨h1,h8,h2⟩
   cases h
 rintro⟨h1,h2,h3⟩;rw[(Qa st ps [] r (Qcb st)).2 ⟨h1,r,by simp,h3⟩];simp[h2]
theorem Qjb{c:UInt8}(h:Eo c):c≠61/\c≠10:=by
 rcases h with rfl|rfl|rfl<;>exact⟨by decide,by decide⟩
theorem Gm{s:List UInt8}{t:Ty}:Fi s=some t↔Ft t/\Ye t=s:=by
 obtain⟨st,nm,fs⟩:=t;constructor
 ·intro h;unfold Fi at h;split at h
  ·cases h
  rename_i c r;split at h
  ·cases h
  rename_i hc;have hc1:Eo c:=Decidable.byContradiction fun hh=>hc (.inl hh);have hc2:(Dp 61 r).2.2=true:=by
   cases hb:(Dp 61 r).2.2 with
   |true=>rfl
   |false=>exact absurd (.inr (.inl hb)) hc
  have hc3:Bh (Dp 61 r).1=true:=by
   cases hb:Bh (Dp 61 r).1 with
   |true=>rfl
   |false=>exact absurd (.inr (.inr hb)) hc
  rcases Gk 61 r with⟨_,e⟩|⟨p,u,er,hp,e⟩
  ·rw[e]at hc2;cases hc2
  rw[e]at h hc3;simp only at h hc3;split at h
  ·rename_i hu;subst hu;split at h
   ·rename_i h82;injection h with h;injection h with e1 e2 e3;subst e1;subst e2;subst e3;exact⟨⟨hc1,hc3,Qcb _,by simp,fun _=>h82⟩,by rw[er];simp[Ye,Aw]⟩
   cases h
  rename_i hu;cases hf:Gh c (Al 44 u) []with
  |none=>rw[hf]at h;cases h
  |some x=>
   rw[hf]at h;injection h with h;injection h with e1 e2 e3;subst e1;subst e2;subst e3;obtain⟨f1,f2,f3⟩:=Vj.1 hf;obtain⟨s1,_,s3⟩:=Em.1 f3.symm;exact⟨⟨hc1,hc3,f1,f2,fun hh=>by simp only at hh;subst hh;exact absurd rfl s1⟩,by rw[er];simp only[Ye];rw[s3]⟩
 rintro⟨⟨h1,h2,h3,h4,h5⟩,rfl⟩;simp only at h1 h2 h3 h4 h5;have hno:61∉nm:=(Ez (Ep h2)).2.2.2;unfold Fi Ye;simp only;rw[Fe hno];simp only;rw[if_neg (by simp[h1,h2])];by_cases hf:fs=[]
 ·subst hf;rw[h5 rfl];simp[Aw]
 have hn:Aw 44 (fs.map (Me st))≠[]:=Qkw (by simpa using hf) (by
  intro p hp;obtain⟨f,hf',rfl⟩:=ax.1 hp;exact(Xo (h3.1 f hf')).2.2)
 have hs:Al 44 (Aw 44 (fs.map (Me st)))=fs.map (Me st):=Nw 44 _ (by simpa using hf) (by
  intro p hp;obtain⟨f,hf',rfl⟩:=ax.1 hp;exact(Xo (h3.1 f hf')).2.1)
 rw[if_neg hn,hs,Vj.2 ⟨h3,h4,rfl⟩]
theorem Qbt{t:Ty}(h:Ft t):10∉Ye t/\Ye t≠[]:=by
 refine⟨?_,by unfold Ye;simp⟩;obtain⟨h1,h2,h3,_,_⟩:=h;unfold Ye;simp only[af,aA,not_or];refine⟨fun e=>(Qjb h1).2 e.symm,(Ez (Ep h2)).1,by decide,?_⟩;have key:∀ps:List (List UInt8),(∀p∈ps,(10:UInt8)∉p)->(10:UInt8)∉Aw 44 ps:=by
  intro ps;induction ps with
  |nil=>intro _;simp[Aw]
  |cons p ps ih=>
   intro hp;cases ps with
   |nil=>exact hp p aK
   |cons q ps=>
    rw[De 44 p aK];simp only[af,aA,not_or];refine⟨hp p aK,by decide,ih (fun x hx=>hp x gG)⟩
 apply key;intro p hp;obtain⟨f,hf',rfl⟩:=ax.1 hp;exact(Xo (h3.1 f hf')).1
theorem Qc1{t u:Ty}(ht:Ft t)(hu:Ft u)(h:Ye t=Ye u):t=u:=by
 have h1:=Gm.2 ⟨ht,rfl⟩;have h2:=Gm.2 ⟨hu,h.symm⟩;rw[h1]at h2;injection h2
def scB(S:List Ty):List UInt8:=S.flatMap fun t=>Ye t++[10]
def Ny(S:List Ty):Prop:=(∀t∈S,Ft t)/\S.length<=8/\S.Pairwise fun t u=>t.name≠u.name
def Gt:Nat->List UInt8->List Ty->Option (List Ty)
 |0,_,_=>none
 |n+1,s,acc=>
  if s=[]then some acc
  else if (Dp 10 s).2.2=false\/acc.length=8 then none
  else match Fi (Dp 10 s).1 with
   |none=>none
   |some t=>if acc.any (fun u=>decide (u.name=t.name))=true then none else Gt n (Dp 10 s).2.1 (acc++[t])
theorem Qci{S:List Ty}{t:Ty}:Ny (S++[t])↔Ny S/\Ft t/\S.length<8/\S.any (fun u=>decide (u.name=t.name))=false:=by
 unfold Ny;rw[List.pairwise_append];constructor
 ·rintro⟨h1,h2,h3,_,h4⟩;simp at h2;refine⟨⟨fun u hu=>h1 u (by simp[hu]),by omega,h3⟩,h1 t aK,by omega,?_⟩;simp;intro u hu;exact h4 u hu t aK
 rintro⟨⟨h1,h2,h3⟩,h4,h5,h6⟩;simp at h6;refine⟨fun u hu=>?_,by simp;omega,h3,by simp,fun u hu v hv=>?_⟩
 ·rcases af.1 hu with hu|hu
  ·exact h1 u hu
  simp at hu;subst hu;exact h4
 simp at hv;subst hv;exact h6 u hu
theorem Qw(t:Ty)(S:List Ty):scB (t::S)=Ye t++10::scB S:=by simp[scB]
theorem Xs:∀(n:Nat) (s:List UInt8) (acc r:List Ty),s.length<n->Ny acc->(Gt n s acc=some r↔Ny r/\∃U,r=acc++U/\scB U=s)
 |0,s,acc,r,h,_=>absurd h (Nat.not_lt_zero _)
 |n+1,s,acc,r,h,ha=>by
  simp only[Gt];by_cases hs:s=[]
  ·subst hs;rw[if_pos rfl];constructor
   ·intro hh;injection hh with hh;subst hh;exact⟨ha,[],by simp,rfl⟩
   rintro⟨_,U,rfl,e⟩;cases U with
   |nil=>simp
   |cons t U=>rw[Qw]at e;simp at e
  rw[if_neg hs];rcases Gk 10 s with⟨hn,e⟩|⟨p,u,es,hp,e⟩
  ·rw[e,if_pos (.inl rfl)];simp only[reduceCtorEq,false_iff];rintro⟨_,U,rfl,eU⟩;cases U with
   |nil=>exact hs eU.symm
   |cons t U=>rw[Qw]at eU;rw[<-eU]at hn;simp at hn
  rw[e];simp only;by_cases h8:acc.length=8
  ·rw[if_pos (.inr h8)];simp only[reduceCtorEq,false_iff];rintro⟨hr,U,rfl,eU⟩;cases U with
   |nil=>exact hs eU.symm
   |cons t U=>have:=hr.2.1;simp at this;omega
  rw[if_neg (by simp[h8])];have hsplit:∀t U,Ft t->scB (t::U)=s->Ye t=p/\scB U=u:=by
   intro t U ht eU;rw[Qw,es]at eU;have h1:=Fe (s:=scB U) (Qbt ht).1;rw[eU,Fe hp]at h1;injection h1 with e1 e2;injection e2 with e2 _;exact⟨e1.symm,e2.symm⟩
  cases ht:Fi p with
  |none=>
   simp only[reduceCtorEq,false_iff];rintro⟨hr,U,rfl,eU⟩;cases U with
   |nil=>exact hs eU.symm
   |cons t U=>
    have ok:Ft t:=hr.1 t aK;rw[Gm.2 ⟨ok,(hsplit t U ok eU).1⟩]at ht;cases ht
  |some t=>
   obtain⟨ok,eb⟩:=Gm.1 ht;simp only;by_cases hd:acc.any (fun u=>decide (u.name=t.name))=true
   ·rw[if_pos hd];simp only[reduceCtorEq,false_iff];rintro⟨hr,U,rfl,eU⟩;cases U with
    |nil=>exact hs eU.symm
    |cons t' U=>
     have ok':Ft t':=hr.1 t' aK;have ett:t'=t:=Qc1 ok' ok ((hsplit t' U ok' eU).1.trans eb.symm);subst ett;simp at hd;obtain⟨v,hv,hvn⟩:=hd;exact(List.pairwise_append.1 hr.2.2).2.2 v hv t' aK hvn
   rw[if_neg hd];have hlen:u.length<n:=by rw[es]at h;simp at h;omega
   rw[Xs n u (acc++[t]) r hlen (Qci.2 ⟨ha,ok,by have:=ha.2.1;omega,by simpa using hd⟩)];constructor
   ·rintro⟨hr,U,rfl,eU⟩;exact⟨hr,t::U,by simp,by rw[Qw,eb,eU,es]⟩
   rintro⟨hr,U,rfl,eU⟩;cases U with
   |nil=>exact absurd eU.symm hs
   |cons t' U=>
    have ok':Ft t':=hr.1 t' aK;obtain⟨e1,e2⟩:=hsplit t' U ok' eU;have ett:t'=t:=Qc1 ok' ok (e1.trans eb.symm);subst ett;exact⟨hr,U,by simp,e2⟩
def Dx(s:List UInt8):Option Ty:=
 match Dp 61 s with
 |(c::nm,u,true)=>
  if ¬Bh nm=true\/¬Eo c then none
  else if u=[]then(if c=82 then some ⟨c,nm,[]⟩else none)
  else match Ee c (Al 44 u) []with
   |some r=>if r.length<=8 then some ⟨c,nm,r⟩else none
   |none=>none
 |_=>none
theorem Qdt(s:List UInt8):Dx s=Fi s:=by
 cases s with
 |nil=>rfl
 |cons c r=>
  unfold Dx Fi;by_cases hc:c=61
  ·subst hc;have e:Dp 61 (61::r)=([],r,true):=Fe (p:=[]) aK;rw[e];simp only;rw[if_pos (.inl aJ)]
  rcases Gk 61 r with⟨hn,e⟩|⟨p,u,er,hp,e⟩
  ·have e2:Dp 61 (c::r)=(c::r,[],false):=Rz (by simp;exact⟨fun h=>hc h.symm,hn⟩);rw[e2];simp[e]
  have e2:Dp 61 (c::r)=(c::p,u,true):=by
   rw[er];exact Fe (p:=c::p) (by simp;exact⟨fun h=>hc h.symm,hp⟩)
  rw[e2];simp only[e];by_cases h1:Bh p=true
  ·by_cases h2:Eo c
   ·by_cases hu:u=[]
    ·subst hu;simp[h1,h2]
    have hx:∀(a b:Option Ty),(if ¬Bh p=true\/¬Eo c then a else b)=b:=fun a b=>if_neg (by simp[h1,h2]);have hy:∀(a b:Option Ty),(if ¬Eo c\/true=false\/Bh p=false then a else b)=b:=fun a b=>if_neg (by simp[h1,h2]);have hz:∀(a b:Option Ty),(if u=[]then a else b)=b:=fun a b=>if_neg hu;rw[hx,hy,hz,hz,Tk c _ [] aK];cases Ee c (Al 44 u) []with
    |none=>rfl
    |some r=>simp only;split<;>rfl
   rw[if_pos (.inr h2),if_pos (.inl h2)]
  rw[if_pos (.inl h1),if_pos (.inr (.inr fh))]
def Gi:List (List UInt8)->Option (List Ty)
 |[]=>some []
 |p::ps=>match Fi p with
  |none=>none
  |some t=>match Gi ps with
   |none=>none
   |some ts=>some (t::ts)
theorem Q6:∀(ps:List (List UInt8)) (ts:List Ty),Gi ps=some ts↔(∀t∈ts,Ft t)/\ts.map Ye=ps
 |[],ts=>by
  simp only[Gi,aj];constructor
  ·rintro rfl;simp
  rintro⟨_,h⟩;simpa using h.symm
 |p::ps,ts=>by
  simp only[Gi];cases ht:Fi p with
  |none=>
   simp only[reduceCtorEq,false_iff];rintro⟨h,e⟩;cases ts with
   |nil=>simp at e
   |cons t ts=>
    simp at e;rw[Gm.2 ⟨h t aK,e.1⟩]at ht;cases ht
  |some t=>
   obtain⟨ok,eb⟩:=Gm.1 ht;simp only;have ih:=Q6 ps;constructor
   ·intro h;cases hr:Gi ps with
    |none=>rw[hr]at h;cases h
    |some us=>
     rw[hr]at h;injection h with h;subst h;obtain⟨i1,i2⟩:=(ih us).1 hr;exact⟨by simpa using⟨ok,i1⟩,by simp[eb,i2]⟩
   rintro⟨h,e⟩;cases ts with
   |nil=>simp at e
   |cons u us=>
    simp at e;have:u=t:=Qc1 (h u aK) ok (e.1.trans eb.symm);subst this;rw[(ih us).2 ⟨fun x hx=>h x gG,e.2⟩]
def Qb(s:List UInt8):Option (List Ty):=
 if 9<(Al 10 s).length\/(Al 10 s).getLast?≠some []then none else Gi (Al 10 s).dropLast
theorem Qfi(S:List Ty):Aw 10 (S.map Ye++[[]])=scB S:=by
 induction S with
 |nil=>rfl
 |cons t S ih=>
  rw[ay,av,De 10 _ aK,ih,Qw]
theorem Qd4{s:List UInt8}{S:List Ty}:Qb s=some S↔(∀t∈S,Ft t)/\S.length<=8/\scB S=s:=by
 unfold Qb;constructor
 ·intro h;split at h
  ·cases h
  rename_i hc;have h9:(Al 10 s).length<=9:=by
   rcases aG 9 (Al 10 s).length with hh|hh
   ·exact absurd (.inl hh) hc
   exact hh
  have hl:(Al 10 s).getLast?=some []:=by
   refine Decidable.byContradiction fun hh=>hc (.inr hh)
  obtain⟨t1,t2⟩:=(Q6 _ _).1 h;have e:Al 10 s=S.map Ye++[[]]:=by
   rcases Fp (Al 10 s)with hh|⟨t,c,hh⟩
   ·exact absurd hh (E8 10 s)
   rw[hh]at hl t2 ⊢;simp at hl t2;rw[t2,hl]
  have hs:=Qv 10 s;rw[e,Qfi]at hs;rw[e]at h9;simp at h9;exact⟨t1,h9,hs⟩
 rintro⟨h1,h2,rfl⟩;have e:Al 10 (scB S)=S.map Ye++[[]]:=by
  rw[<-Qfi];refine Nw 10 _ aK ?_;intro p hp;rcases af.1 hp with hp|hp
  ·obtain⟨t,ht,rfl⟩:=ax.1 hp;exact(Qbt (h1 t ht)).1
  simp at hp;subst hp;simp
 rw[e,if_neg aM];simp only[List.dropLast_concat];exact(Q6 _ _).2 ⟨h1,rfl⟩
def Bt(S:List Ty)(n:List UInt8):Option Ty:=S.find? fun t=>decide (t.name=n)
theorem Cp{S:List Ty}{n:List UInt8}{t:Ty}(h:Bt S n=some t):t∈S/\t.name=n:=by
 have h1:=List.mem_of_find?_eq_some h;have h2:=List.find?_some h;exact⟨h1,by simpa using h2⟩
def Cc(S:List Ty)(k:Kd):Prop:=k.base=[64]->(Bt S k.name).isSome=true
instance (S:List Ty) (k:Kd):Decidable (Cc S k):=by unfold Cc;infer_instance
def Jl(S:List Ty):Prop:=∀t∈S,t.sort≠69->∀f∈t.fields,Cc S f.kind
instance (S:List Ty):Decidable (Jl S):=by unfold Jl;infer_instance
def Gg(S:List Ty)(t:Ty):Option Ty:=
 if t.sort=85 then(match t.fields with
  |f::_=>if f.kind.signs=[]/\f.kind.base=[64]then Bt S f.kind.name else none
  |[]=>none)else none
def Cg(S:List Ty):Nat->Ty->Bool
 |0,_=>false
 |n+1,t=>match Gg S t with
  |none=>true
  |some u=>Cg S n u
theorem Qgb{S:List Ty}{t u:Ty}(h:Gg S t=some u):u∈S:=by
 unfold Gg at h;split at h
 ·split at h
  ·split at h
   ·exact(Cp h).1
   cases h
  cases h
 cases h
theorem M9(S:List Ty):∀(n:Nat) (t:Ty),Cg S n t=true->∀m,n<=m->Cg S m t=true
 |0,t,h,_,_=>by simp[Cg]at h
 |n+1,t,h,m,hm=>by
  obtain⟨k,rfl⟩:∃k,m=k+1:=⟨m - 1,by omega⟩
  simp only[Cg]at h ⊢;cases hn:Gg S t with
  |none=>rfl
  |some u=>
   rw[hn]at h;exact M9 S n u h k aH
theorem Mm:∀(l S:List Ty),l.Nodup->(∀x∈l,x∈S)->l.length<=S.length
 |[],S,_,_=>ag _
 |x::l,S,hn,hs=>by
  obtain⟨h1,h2⟩:=List.nodup_cons.1 hn;have hx:=hs x aK
  have ih:=Mm l (S.erase x) h2 (fun y hy=>by
   have hne:y≠x:=by rintro rfl;exact h1 hy
   exact(List.mem_erase_of_ne hne).2 (hs y fy))
  have hl:=List.length_erase_of_mem hx;have hp:0<S.length:=List.length_pos_iff.2 (by rintro rfl;cases hx);simp;omega
theorem Qan(S:List Ty):∀(n:Nat) (t:Ty),t∈S->Cg S (n+1) t=true->Cg S n t=false ->
  ∃l:List Ty,l.length=n+1/\(∀u∈l,u∈S)/\l.Nodup/\∀u∈l,Cg S (n+1) u=true
 |0,t,ht,h1,_=>⟨[t],rfl,by simpa using ht,by simp,by simpa using h1⟩
 |n+1,t,ht,h1,h2=>by
  have hn:∃u,Gg S t=some u:=by
   cases hh:Gg S t with
   |none=>simp[Cg,hh]at h2
   |some u=>exact⟨u,rfl⟩
  obtain⟨u,hu⟩:=hn;have e1:Cg S (n+1) u=true:=by simp only[Cg,hu]at h1;simpa [Cg]using h1
  have e2:Cg S n u=false:=by simp only[Cg,hu]at h2;exact h2
  obtain⟨l,l1,l2,l3,l4⟩:=Qan S n u (Qgb hu) e1 e2;refine⟨t::l,by simp[l1],?_,List.nodup_cons.2 ⟨fun hm=>?_,l3⟩,?_⟩
  ·intro x hx;rcases aA.1 hx with rfl|hx
   ·exact ht
   exact l2 x hx
  ·rw[l4 t hm]at h2;cases h2
  intro x hx;rcases aA.1 hx with rfl|hx
  ·exact h1
  exact M9 S _ _ (l4 x hx) _ aH
theorem Xu(S:List Ty)(t:Ty)(ht:t∈S)(n:Nat):Cg S n t=true->Cg S S.length t=true:=by
 induction n with
 |zero=>intro h;simp[Cg]at h
 |succ n ih=>
  intro h;by_cases h2:Cg S n t=true
  ·exact ih h2
  have h2':Cg S n t=false:=fi;obtain⟨l,l1,l2,l3,_⟩:=Qan S n t ht h h2';have:=Mm l S l3 l2;exact M9 S _ _ h _ aH
theorem Qbi(S:List Ty)(t:Ty)(ht:t∈S)(m n:Nat)(hm:S.length<=m)(hn:S.length<=n):Cg S m t=Cg S n t:=by
 cases h1:Cg S m t with
 |true=>exact(M9 S _ _ (Xu S t ht m h1) n hn).symm
 |false=>
  cases h2:Cg S n t with
  |false=>rfl
  |true=>rw[M9 S _ _ (Xu S t ht n h2) m hm]at h1;cases h1
def Gy(S:List Ty):Prop:=Ny S/\Jl S/\∀t∈S,Cg S 9 t=true
def Cl(s:List UInt8):Option (List Ty):=
 if 400<s.length then none
 else match Gt (s.length+1) s []with
  |none=>none
  |some S=>if Jl S/\(∀t∈S,Cg S 9 t=true)then some S else none
theorem Qel:Ny []:=⟨by simp,by simp,List.Pairwise.nil⟩
theorem Xk{s:List UInt8}{S:List Ty}:Gt (s.length+1) s []=some S↔Ny S/\scB S=s:=by
 rw[Xs (s.length+1) s [] S aH Qel];constructor
 ·rintro⟨h,U,e,h2⟩;simp at e;subst e;exact⟨h,h2⟩
 rintro⟨h,h2⟩;exact⟨h,S,by simp,h2⟩
theorem Qh{s:List UInt8}{S:List Ty}:Cl s=some S↔Gy S/\s.length<=400/\scB S=s:=by
 unfold Cl;constructor
 ·intro h;split at h
  ·cases h
  rename_i h4;cases hl:Gt (s.length+1) s []with
  |none=>rw[hl]at h;cases h
  |some T=>
   rw[hl]at h;simp only at h;split at h
   ·rename_i hc;injection h with h;subst h;obtain⟨h1,h2⟩:=Xk.1 hl;exact⟨⟨h1,hc.1,hc.2⟩,by omega,h2⟩
   cases h
 rintro⟨⟨h1,h2,h3⟩,h4,h5⟩;rw[if_neg aH,Xk.2 ⟨h1,h5⟩];simp only;rw[if_pos ⟨h2,h3⟩]
theorem Rk{s:List UInt8}{S:List Ty}:Cl s=some S↔s.length<=400/\Qb s=some S/\(S.Pairwise fun t u=>t.name≠u.name)/\Jl S/\∀t∈S,Cg S (S.length+1) t=true:=by
 rw[Qh,Qd4];constructor
 ·rintro⟨⟨⟨h1,h2,h3⟩,h4,h5⟩,h6,h7⟩;exact⟨h6,⟨h1,h2,h7⟩,h3,h4,fun t ht=>by rw[Qbi S t ht _ 9 aH aH];exact h5 t ht⟩
 rintro⟨h6,⟨h1,h2,h7⟩,h3,h4,h5⟩;exact⟨⟨⟨h1,h2,h3⟩,h4,fun t ht=>by rw[<-Qbi S t ht (S.length+1) 9 aH aH];exact h5 t ht⟩,h6,h7⟩
def Xi(S:List Ty)(n:Nat)(k:Kd):Prop:=k.signs=[]->k.base=[64]->∃t,Bt S k.name=some t/\Cg S n t=true
def Dt(S:List Ty):Nat->Kd->List UInt8
 |0,_=>[]
 |n+1,k=>
  if k.signs.head?=some 91 then[91,93]
  else if k.signs.head?=some 63 then[45]
  else if k.base=[110]then[48]
  else if k.base=[116]then[39,39]
  else if k.base=[102]then[110,111]
  else match Bt S k.name with
   |none=>[]
   |some t=>if t.sort=82 then[123,125]else
    match t.fields with
    |[]=>[]
    |f::_=>if t.sort=69 then 35::Bb f.tag else 60::(Bb f.tag++61::(Dt S n f.kind++[62]))
theorem Xq{S:List Ty}{n:Nat}{k:Kd}{t:Ty}{f:Fd}{fs:List Fd}(h:Xi S (n+1) k)(h1:k.signs=[])(h2:k.base=[64])(hf:Bt S k.name=some t)(hs:t.sort=85)(hfs:t.fields=f::fs)(hr:Cc S f.kind):Xi S n f.kind:=by
 intro g1 g2;obtain⟨u,hu,he⟩:=h h1 h2;rw[hf]at hu;injection hu with hu;subst hu;have hn:Gg S t=Bt S f.kind.name:=by
  unfold Gg;rw[if_pos hs,hfs];simp only;rw[if_pos ⟨g1,g2⟩]
 have hr':=hr g2;cases hx:Bt S f.kind.name with
 |none=>rw[hx]at hr';cases hr'
 |some v=>
  simp only[Cg,hn,hx]at he;exact⟨v,rfl,he⟩
def Xg(S:List Ty)(k:Kd):List UInt8:=Dt S 10 k
def J4(S:List Ty)(f:Fd):List UInt8:=if f.given=[]then Xg S f.kind else f.given
end
end Go.Proofs.YtbdibdghphdcdaaGreatDoor
