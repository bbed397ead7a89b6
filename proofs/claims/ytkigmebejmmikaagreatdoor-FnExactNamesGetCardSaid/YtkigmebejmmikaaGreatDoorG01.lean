/- Texts joined. Conditions: as each theorem names them. -/
import Derived.Test.YtkigmebejmmikaaGreatDoorProg
import Derived.WalkKit
import Derived.WalkSmall
import Derived.WalkSpells
import Derived.WalkLawsBesides
import Derived.Below
import Derived.Lib.Hide
import Derived.Lib.BufferRead
import Derived.Laws.BytesArg
import Derived.Deep.QuietTactic
import Derived.BigQuiet
import Derived.Handy
import Derived.Test.YtkigmebejmmikaaGreatDoorG00
set_option maxRecDepth 100000
set_option maxHeartbeats 32000000
set_option linter.unusedVariables false
set_option linter.unusedSimpArgs false
namespace Go.Proofs.YtkigmebejmmikaaGreatDoor
open Go.RowKit Go.Proofs.Tryz
theorem Qjy(l:List UInt8)(k:Nat)(h:k<(ByteArray.mk l.toArray).size):(ByteArray.mk l.toArray)[k]=l[k]'h:=rfl
theorem Qiu(l:List UInt8):(ByteArray.mk l.toArray).toList=l:=by
 have:(ByteArray.mk l.toArray).toList=(ByteArray.mk l.toArray).data.toList:=ByteArray.toList_eq _;rw[this]
theorem Qil(l:List UInt8)(a b:Nat):(ByteArray.mk l.toArray).extract a b=⟨((l.drop a).take (b - a)).toArray⟩:=by
 apply ByteArray.ext;simp[ByteArray.data_extract]
theorem Qgp(l:List UInt8)(a:Nat):(l.drop a).take (l.length - a)=l.drop a:=ap aI
theorem Qhi{k:IntKind}{a b:Int}(h:a=b):Ending.returned (.int k a)=.returned (.int k b):=by rw[h]
theorem Bx{α:Type}(l:List α)(k:Nat)(h:k<l.length):l.take (k+1)=l.take k++[l[k]]:=by
 rw[List.take_succ_eq_append_getElem h]
def Br(ls:List (List UInt8)):List Value:=ls.map fun l=>.string ⟨l.toArray⟩
theorem N9(l:List (List UInt8))(c:List UInt8):Br (l++[c])=Br l++[.string ⟨c.toArray⟩]:=by simp[Br]
def B8(w:World)(A:Option Addr)(n:Nat)(xs:List Value):Prop:=
 xs.length=n/\n<=maxLen/\(0<n->∃b off,A=some ⟨b,off,none⟩/\b<w.heap.size/\∀j u,xs[j]?=some u->w.cell? ⟨b,off+j,none⟩=some u)
theorem B8.below{w w':World}{A:Option Addr}{n:Nat}{xs:List Value}(h:B8 w A n xs)(hb:Below w w w'):B8 w' A n xs:=by
 refine⟨h.1,h.2.1,fun hn=>?_⟩;obtain⟨b,off,e,hlt,hc⟩:=h.2.2 hn;exact⟨b,off,e,ab hlt hb.size,fun j u hu=>(hb.cell (p:=⟨b,off+j,none⟩) hlt).trans (hc j u hu)⟩
theorem B8.drew{w:World}{A:Option Addr}{n:Nat}{xs:List Value}(h:B8 w A n xs):B8 w.drew A n xs:=h
theorem B8.alloc{w:World}{A:Option Addr}{n:Nat}{xs:List Value}(h:B8 w A n xs)(o:Obj):B8 (w.alloc o) A n xs:=h.below ((Below.refl _ _).alloc (Nat.le_refl _) o)
theorem B8.at_{w:World}{A:Option Addr}{n:Nat}{xs:List Value}(h:B8 w A n xs){k:Nat}(hk:k<n):
  ∃b off,A=some ⟨b,off,none⟩/\b<w.heap.size/\w.cell? ⟨b,off+k,none⟩=some (xs[k]'(by have:=h.1;omega)):=by
 obtain⟨b,off,e,hlt,hc⟩:=h.2.2 aE;exact⟨b,off,e,hlt,hc k _ (List.getElem?_eq_getElem _)⟩
theorem B8.own{w:World}{base:Nat}{e:TypeId}{v:Value}{n:Nat}{xs:List Value}(h:w.ownsRow base e 1 v n xs):∃A c,v=.slice A n c/\B8 w A n xs:=by
 have h1:=h.1;rcases h.2 with⟨rfl,rfl⟩|⟨g,cap,cur,rfl,hb,hh,hnc,hcm,hcs,htk⟩
 ·exact⟨none,0,rfl,by omega,af _,fun h=>absurd h aE⟩
 refine⟨some ⟨g,0,none⟩,cap,rfl,by omega,by omega,fun hn=>⟨g,0,rfl,(h.lt g rfl).2,fun j u hu=>?_⟩⟩;have:=h.cells (g:=g) rfl j u hu;have e1:(⟨g,0,none⟩:Addr).add j=⟨g,0+j,none⟩:=bj;rwa [e1]at this
theorem Bm{w w1:World}{base:Nat}{e:TypeId}{size:Nat}{v:Value}{n:Nat}{xs:List Value}(h:w.ownsRow base e size v n xs)(hb:Below w w w1):w1.ownsRow base e size v n xs:=
 h.kept (row:=none) ⟨hb.os,hb.tape,hb.output,hb.size,fun k hk _=>hb.block k hk⟩ (by
  cases v with
  |slice A a b=>cases A with
   |none=>exact .inl rfl
   |some x=>exact .inr db
  |_=>exact .inl rfl)
section
variable {P:Program}
theorem N8(w:World){ops:Array Oper}{rest:List Oper}{o:Oper}{a:Act}{Q:Exit->Act->World->Prop}(hgd:o.guard=none)(s x:Operand)(t:TypeId)
  (ho:o.op=.call {callee:=.builtin .append,args:=#[s,x],argTypes:=#[t,t]})
  (base:Nat) (e:TypeId) (z:Value) (bytes:Nat) (ht:P.underlying t=some (.slice e)) (hinfo:(P.info? e).map (fun i=>(i.zero,i.size,i.bytes))=some (some z,1,bytes))
  (hzs:z.cells.size=1) (W:World) (u:Value) (hw:w=W.alloc (.cells #[u] e)) (hu:u.oneCell'=true) (v:Value) (n:Nat) (xs:List Value) (hs:a.eval s=v) (hx:a.eval x=.slice (W,0) 1 1)
  (hown:W.ownsRow base e 1 v n xs)
  (h63:n+1<=maxLen) (hbytes:(n+1)*bytes<=140737488355328) (hbase:base<=W.heap.size)
  (h:∀v' w',w'.ownsRow base e 1 v' (n+1) (xs++[u])->Below base W w'->wpList P ops Q rest (a.put o.dst v') w'):wpList P ops Q (o::rest) a w:=by
 subst hw;obtain⟨i0,hi,hz0,hz1,hz2⟩:=info_parts hinfo;refine wpList_append_own _ hgd s x t ho base e i0 z 1 bytes ht hi hz0 hz1 hz2 hzs aH v n xs hs (hown.alloc _) ⟨W.heap.size,0,none⟩ 1 1 [u] hx rfl ?_ ?_ h63 hbytes ?_ ?_
 ·intro j y hj;match j,hj with
  |0,hj=>simp at hj;subst hj;simp[Addr.add,World.cell?_alloc_new]
 ·intro y hy;simp at hy;subst hy;exact hu
 ·have:(W.alloc (.cells #[u] e)).heap.size=W.heap.size+1:=aI;omega
 intro v' w' h1 h2 _;exact h v' w' h1 (((Below.refl base W).alloc hbase _).grown h2 aM (fun k hk=>(hown.lt k hk).1))
theorem Qgi(W:World)(src e dst:TypeId)(hs:P.underlying src=some (.slice e))(he:P.underlying e=some (.int .u8))(hd:P.underlying dst=some .string)
  (g c:Nat) (b:UInt8) (hc:W.cell? (g,0)=some (.int .u8 (b.toNat:Int))):(convert src dst (.slice (g,0) 1 c)).run P W=.ok (.string ⟨[b].toArray⟩) W:=by
 have h:=run_convert_bytes_arg (P:=P) W src e hs he g 0 1 c [(b.toNat:Int)] rfl (fun i hi=>by
  obtain rfl:i=0:=aE;simpa using hc) dst hd
 rw[h];simp[strOfNums]
end
theorem Qft(W:World)(g c:Nat)(b:UInt8)(hc:W.cell? (g,0)=some (.int .u8 (b.toNat:Int))):
  (convert 25 9 (.slice (g,0) 1 c)).run prog W=.ok (.string ⟨[b].toArray⟩) W:=
 Qgi W 25 5 9 underlying25 underlying5 underlying9 g c b hc
theorem B4{W w1:World}(hb:Below W.heap.size W w1):(∀b o,b<W.heap.size->w1.cell? ⟨b,o,none⟩=W.cell? ⟨b,o,none⟩)/\(∀b o,b<W.heap.size->w1.frozen? ⟨b,o,none⟩=W.frozen? ⟨b,o,none⟩)/\(∀b,b<W.heap.size->b<w1.heap.size):=
 ⟨fun b o h=>hb.cell (p:=⟨b,o,none⟩) h,fun b o h=>hb.frozen (p:=⟨b,o,none⟩) h,fun _ h=>ab h hb.size⟩
theorem Q7:(prog.info? 9).map (fun i=>(i.zero,i.size,i.bytes))=some (some (.string ⟨#[]⟩),1,16):=aJ
theorem Ad:True:=True.intro
theorem Aa{p:Prop}(h:p):Hid p:=h
theorem As(n:Nat):n<=n:=Nat.le_refl n
theorem _root_.Go.RowKit.Hid.o{p:Prop}(h:Hid p):p:=h
theorem Ay(n:Nat)(w:World):Below n w w:=Below.refl n w
theorem Eh{a a':Value}(h:a=a'):Ending.returned a=.returned a':=by rw[h]
theorem Qhn{a b a' b':Value}(h1:a=a')(h2:b=b'):Ending.returned (.tuple #[a,b])=.returned (.tuple #[a',b']):=by rw[h1,h2]
theorem Qjt{a b c a' b' c':Value}(h1:a=a')(h2:b=b')(h3:c=c'):Ending.returned (.tuple #[a,b,c])=.returned (.tuple #[a',b',c']):=by rw[h1,h2,h3]
theorem Qjc{k:IntKind}{x y:Int}(h:x=y):Value.int k x=.int k y:=by rw[h]
theorem Qgm{x y:List UInt8}(h:x=y):Value.string ⟨x.toArray⟩=y:=by rw[h]
theorem Cr{x y:Bool}(h:x=y):Value.bool x=.bool y:=by rw[h]
def Gp(n:Nat):UInt8:=UInt8.ofNat n
theorem Gf{n:Nat}(h:n<256):(Gp n).toNat=n:=by unfold Gp;exact UInt8.toNat_ofNat_of_lt' h
def Ao(c:UInt8):Bool:=decide (97<=c.toNat) && decide (c.toNat<=122)
def Bg(c:UInt8):Bool:=decide (48<=c.toNat) && decide (c.toNat<=57)
def Bb(s:List UInt8):Bool:=decide (1<=s.length) && decide (s.length<=3) && s.all Ao
theorem Di{c:UInt8}:Bg c=true↔48<=c.toNat/\c.toNat<=57:=by simp[Bg]
theorem Jf{c:UInt8}:Ao c=true↔97<=c.toNat/\c.toNat<=122:=by simp[Ao]
theorem Ep{s:List UInt8}:Bb s=true↔1<=s.length/\s.length<=3/\∀c∈s,Ao c=true:=by
 simp[Bb,and_assoc]
def Az(n:Nat):List UInt8:=if h:n<10 then[Gp (48+n)]else Az (n / 10)++[Gp (48+n % 10)]
termination_by n
decreasing_by omega
theorem Eg{n:Nat}(h:n<10):Az n=[Gp (48+n)]:=by rw[Az,dif_pos h]
theorem M0{n:Nat}(h:¬n<10):Az n=Az (n / 10)++[Gp (48+n % 10)]:=by rw[Az,dif_neg h]
def Fu(s:List UInt8):Nat:=s.foldl (fun n c=>10*n+(c.toNat - 48)) 0
theorem Jx(s:List UInt8)(c:UInt8):Fu (s++[c])=10*Fu s+(c.toNat - 48):=by simp[Fu,List.foldl_append]
theorem Qfa:Fu []=0:=rfl
def Cn(s:List UInt8):Option Nat:=
 if 1<=s.length/\s.length<=6/\s.all Bg=true/\(s.head?≠some 48\/s.length=1)then some (Fu s)else none
theorem Eu{α:Type}(s:List α):s=[]\/∃t c,s=t++[c]:=by
 rcases s.eq_nil_or_concat with h|⟨t,c,h⟩
 ·exact .inl h
 exact .inr ⟨t,c,by simpa using h⟩
theorem S6:∀(k:Nat) (s:List UInt8),s.length=k->s.all Bg=true->Fu s<10 ^ k
 |0,s,h,_=>by
  obtain rfl:=List.eq_nil_of_length_eq_zero h;simp[Fu]
 |k+1,s,h,ha=>by
  rcases Eu s with rfl|⟨t,c,rfl⟩
  ·simp at h
  simp at h;simp only[List.all_append,ar,List.all_cons,List.all_nil,Bool.and_true]at ha;have ih:=S6 k t h ha.1;have hc:=Di.1 ha.2;rw[Jx,Nat.pow_succ];omega
theorem Qad:∀(k:Nat) (s:List UInt8),s.length=k->s≠[]->s.all Bg=true->s.head?≠some 48->0<Fu s
 |0,s,h,hn,_,_=>absurd (List.eq_nil_of_length_eq_zero h) hn
 |k+1,s,h,hn,ha,hh=>by
  rcases Eu s with rfl|⟨t,c,rfl⟩
  ·exact absurd rfl hn
  simp at h;simp only[List.all_append,ar,List.all_cons,List.all_nil,Bool.and_true]at ha;have hc:=Di.1 ha.2;rw[Jx];by_cases ht:t=[]
  ·subst ht;simp at hh;have:c.toNat≠48:=fun e=>hh (UInt8.toNat_inj.1 e);omega
  have hh':t.head?≠some 48:=by
   cases t with
   |nil=>exact absurd rfl ht
   |cons a t=>simpa using hh
  have:=Qad k t h ht ha.1 hh';omega
theorem Xa:∀(k:Nat) (s:List UInt8),s.length=k->s≠[]->s.all Bg=true->(s.head?≠some 48\/s.length=1)->Az (Fu s)=s
 |0,s,h,hn,_,_=>absurd (List.eq_nil_of_length_eq_zero h) hn
 |k+1,s,h,hn,ha,hh=>by
  rcases Eu s with rfl|⟨t,c,rfl⟩
  ·exact absurd rfl hn
  simp at h;simp only[List.all_append,ar,List.all_cons,List.all_nil,Bool.and_true]at ha;have hc:=Di.1 ha.2;have hc2:Gp (48+(c.toNat - 48))=c:=by
   apply UInt8.toNat_inj.1;rw[Gf aE];omega
  rw[Jx];by_cases ht:t=[]
  ·subst ht;rw[Qfa,Eg aE];simp[hc2]
  have hl:0<t.length:=List.length_pos_iff.2 ht;have hh1:t.head?≠some 48:=by
   cases t with
   |nil=>exact absurd rfl ht
   |cons a t=>rcases hh with hh|hh<;>simp at hh ⊢<;>first|exact hh|omega
  have hp:=Qad t.length t rfl ht ha.1 hh1;have ih:=Xa k t h ht ha.1 (.inl hh1);rw[M0 aE];have e1:(10*Fu t+(c.toNat - 48)) / 10=Fu t:=aE;have e2:(10*Fu t+(c.toNat - 48)) % 10=c.toNat - 48:=aE;rw[e1,e2,ih,hc2]
theorem Kk:∀(k n:Nat),n<=k->Az n≠[]/\(Az n).all Bg=true/\Fu (Az n)=n/\((Az n).head?≠some 48\/n=0)/\(n<10->(Az n).length=1)/\(10<=n->2<=(Az n).length)
 |0,n,h=>by
  obtain rfl:n=0:=aE;rw[Eg aE];refine⟨by simp,by decide,by decide,.inr rfl,fun _=>rfl,fun h=>by omega⟩
 |k+1,n,h=>by
  by_cases hn:n<10
  ·rw[Eg hn];have e:(Gp (48+n)).toNat=48+n:=Gf aE;refine⟨by simp,by simp[Di,e];omega,?_,?_,fun _=>rfl,fun h=>by omega⟩
   ·show 10*0+((Gp (48+n)).toNat - 48)=n;omega
   by_cases h0:n=0
   ·exact .inr h0
   refine .inl ?_;intro hh;simp at hh;have:=congrArg UInt8.toNat hh;rw[e]at this;have h48:(48:UInt8).toNat=48:=rfl;omega
  obtain⟨i1,i2,i3,i4,_,_⟩:=Kk k (n / 10) aE;have e:(Gp (48+n % 10)).toNat=48+n % 10:=Gf aE;have hl:0<(Az (n / 10)).length:=List.length_pos_iff.2 i1;rw[M0 hn];refine⟨by simp,?_,?_,?_,fun h=>absurd h hn,fun _=>by simp;omega⟩
  ·simp only[List.all_append,ar,List.all_cons,List.all_nil,Bool.and_true];exact⟨i2,Di.2 aE⟩
  ·rw[Jx,i3,e];omega
  refine .inl ?_;have e1:(Az (n / 10)++[Gp (48+n % 10)]).head?=(Az (n / 10)).head?:=by
   cases hd:Az (n / 10)with
   |nil=>exact absurd hd i1
   |cons a t=>rfl
  rw[e1];rcases i4 with h|h
  ·exact h
  omega
theorem Ph(n:Nat):Az n≠[]:=(Kk n n (Nat.le_refl _)).1
theorem Mq(n:Nat):(Az n).all Bg=true:=(Kk n n (Nat.le_refl _)).2.1
theorem Ps(n:Nat):Fu (Az n)=n:=(Kk n n (Nat.le_refl _)).2.2.1
theorem Qdj(n:Nat):(Az n).head?≠some 48\/(Az n).length=1:=by
 obtain⟨_,_,_,h4,h5,_⟩:=Kk n n (Nat.le_refl _);rcases h4 with h|h
 ·exact .inl h
 exact .inr (h5 aE)
theorem Qf5{m n:Nat}(h:Az m=Az n):m=n:=by rw[<-Ps m,h,Ps]
theorem Df:∀(k n:Nat),n<10 ^ (k+1)->(Az n).length<=k+1
 |0,n,h=>by rw[Eg bg];simp
 |k+1,n,h=>by
  by_cases hn:n<10
  ·rw[Eg hn];simp
  rw[M0 hn];have:=Df k (n / 10) (by rw[Nat.pow_succ]at h;omega);simp;omega
theorem Cb{s:List UInt8}{n:Nat}:Cn s=some n↔n<=999999/\s=Az n:=by
 unfold Cn;constructor
 ·intro h;split at h
  ·rename_i hc;obtain⟨h1,h2,h3,h4⟩:=hc;injection h with h;have hn:s≠[]:=List.length_pos_iff.1 aE;have hv:=S6 s.length s rfl h3;have hle:10 ^ s.length<=10 ^ 6:=Nat.pow_le_pow_right aE h2;have e6:10 ^ 6=1000000:=rfl;refine⟨by omega,?_⟩;rw[<-h];exact(Xa s.length s rfl hn h3 h4).symm
  cases h
 rintro⟨h1,rfl⟩;have hl:=Df 5 n f6;have hp:0<(Az n).length:=List.length_pos_iff.2 (Ph n);rw[if_pos ⟨by omega,by omega,Mq n,Qdj n⟩,Ps]
structure Kd where
 signs:List UInt8
 base:List UInt8
 name:List UInt8
deriving DecidableEq
def Bo(c:UInt8):Bool:=c == 91 || c == 63
def Ca(k:Kd):List UInt8:=if k.base=[64]then 64::(k.name++[59])else k.base
def Bi(k:Kd):List UInt8:=k.signs++Ca k
def Kd.nil:Kd:=⟨[],[],[]⟩
def Kd.part(k:Kd):Kd:={k with signs:=k.signs.tail}
def Xr(k:Kd):Prop:=(k.base=[64]/\Bb k.name=true)\/((k.base=[110]\/k.base=[116]\/k.base=[102])/\k.name=[])
def C0(k:Kd):Prop:=k.signs.all Bo=true/\Xr k/\(Bi k).length<=12
theorem Vw{k:Kd}(h:Xr k):∃c t,Ca k=c::t/\Bo c=false:=by
 unfold Ca;rcases h with⟨h,_⟩|⟨h|h|h,_⟩
 ·rw[if_pos h];exact⟨64,_,rfl,by decide⟩
 ·rw[h,if_neg aH];exact⟨110,[],rfl,by decide⟩
 ·rw[h,if_neg aH];exact⟨116,[],rfl,by decide⟩
 rw[h,if_neg aH];exact⟨102,[],rfl,by decide⟩
theorem Fj{p:UInt8->Bool}:∀{a b:List UInt8},a.all p=true->(∃c t,b=c::t/\p c=false)->(a++b).takeWhile p=a/\(a++b).dropWhile p=b
 |[],b,_,⟨c,t,e,h⟩=>by subst e;simp[h]
 |x::a,b,ha,hb=>by
  simp only[List.all_cons,ar]at ha;have ih:=Fj ha.2 hb;simp[ha.1,ih.1,ih.2]
theorem Jj{p:UInt8->Bool}:∀(a:List UInt8),(a.takeWhile p).all p=true
 |[]=>rfl
 |x::a=>by
  by_cases h:p x=true
  ·simp[h]
  simp[h]
def Co(s:List UInt8):Option Kd:=
 if 12<s.length then none
 else if s.dropWhile Bo=[110]\/s.dropWhile Bo=[116]\/s.dropWhile Bo=[102]then some ⟨s.takeWhile Bo,s.dropWhile Bo,[]⟩
 else if (s.dropWhile Bo).head?=some 64/\(s.dropWhile Bo).getLast?=some 59/\Bb ((s.dropWhile Bo).drop 1).dropLast=true then some ⟨s.takeWhile Bo,[64],((s.dropWhile Bo).drop 1).dropLast⟩
 else none
theorem Qcv{r:List UInt8}(h1:r.head?=some 64)(h2:r.getLast?=some 59):r=64::((r.drop 1).dropLast++[59]):=by
 cases r with
 |nil=>simp at h1
 |cons a t=>
  simp at h1;subst h1;rcases Eu t with rfl|⟨u,c,rfl⟩
  ·simp at h2
  have:c=59:=by
   rw[show (64:UInt8)::(u++[c])=(64::u)++[c]from rfl,List.getLast?_append]at h2;simpa using h2
  subst this;simp
theorem Er{s:List UInt8}{k:Kd}:Co s=some k↔C0 k/\Bi k=s:=by
 have htd:s.takeWhile Bo++s.dropWhile Bo=s:=List.takeWhile_append_dropWhile;constructor
 ·intro h;unfold Co at h;split at h
  ·cases h
  rename_i h12;split at h
  ·rename_i hb;injection h with h;subst h;have hcore:Ca ⟨s.takeWhile Bo,s.dropWhile Bo,[]⟩=s.dropWhile Bo:=by
    unfold Ca;rw[if_neg];rcases hb with h|h|h<;>· show ¬s.dropWhile Bo=_;rw[h];decide
   have e:Bi ⟨s.takeWhile Bo,s.dropWhile Bo,[]⟩=s:=by unfold Bi;rw[hcore];exact htd
   exact⟨⟨Jj s,.inr ⟨hb,rfl⟩,by rw[e];omega⟩,e⟩
  split at h
  ·rename_i hb;injection h with h;subst h;have e1:=Qcv hb.1 hb.2.1;have e:Bi ⟨s.takeWhile Bo,[64],((s.dropWhile Bo).drop 1).dropLast⟩=s:=by
    unfold Bi Ca;rw[if_pos rfl];show s.takeWhile Bo++64::(((s.dropWhile Bo).drop 1).dropLast++[59])=s;rw[<-e1];exact htd
   exact⟨⟨Jj s,.inl ⟨rfl,hb.2.2⟩,by rw[e];omega⟩,e⟩
  cases h
 rintro⟨⟨h1,h2,h3⟩,rfl⟩;obtain⟨e1,e2⟩:=Fj h1 (Vw h2);unfold Co;rw[if_neg aE];show (if (k.signs++Ca k).dropWhile Bo=[110]\/_ then _ else _)=_;unfold Bi;rw[e1,e2];obtain⟨sg,b,nm⟩:=k;rcases h2 with⟨h,hn⟩|⟨h,hn⟩
 ·simp only at h hn;subst h;unfold Ca;simp only[if_pos];rw[if_neg aI,if_pos]
  ·simp
  refine⟨rfl,?_,by simpa using hn⟩;rw[show (64:UInt8)::(nm++[59])=(64::nm)++[59]from rfl,List.getLast?_append];rfl
 simp only at h hn;subst hn;have hc:Ca ⟨sg,b,[]⟩=b:=by
  unfold Ca;rw[if_neg];rcases h with h|h|h<;>· show ¬b=_;rw[h];decide
 rw[hc,if_pos h]
theorem Gh{k:Kd}(h:C0 k):C0 k.part/\(k.signs≠[]->Bi k.part=(Bi k).tail/\(Bi k.part).length+1=(Bi k).length):=by
 obtain⟨h1,h2,h3⟩:=h;obtain⟨sg,b,nm⟩:=k;have hc:∀g,Ca ⟨g,b,nm⟩=Ca ⟨sg,b,nm⟩:=fun g=>rfl;cases sg with
 |nil=>exact⟨⟨h1,h2,h3⟩,fun h=>absurd rfl h⟩
 |cons c t=>
  simp only[List.all_cons,ar]at h1;have e:Bi (Kd.part ⟨c::t,b,nm⟩)=(Bi ⟨c::t,b,nm⟩).tail:=rfl;have el:(Bi (Kd.part ⟨c::t,b,nm⟩)).length+1=(Bi ⟨c::t,b,nm⟩).length:=rfl;exact⟨⟨h1.2,h2,by omega⟩,fun _=>⟨e,el⟩⟩
def Ai(c:UInt8):List UInt8->List (List UInt8)
 |[]=>[[]]
 |x::s=>if x=c then[]::Ai c s else match Ai c s with
  |p::ps=>(x::p)::ps
  |[]=>[[x]]
def An(c:UInt8):List (List UInt8)->List UInt8
 |[]=>[]
 |[p]=>p
 |p::ps=>p++c::An c ps
theorem Ee(c:UInt8)(s:List UInt8):Ai c s≠[]:=by
 cases s with
 |nil=>simp[Ai]
 |cons x s=>
  simp only[Ai];split
  ·simp
  split<;>simp
theorem Cf(c:UInt8)(p:List UInt8){ps:List (List UInt8)}(h:ps≠[]):An c (p::ps)=p++c::An c ps:=by
 cases ps with
 |nil=>exact absurd rfl h
 |cons q ps=>rfl
theorem Nx(c:UInt8):∀s:List UInt8,An c (Ai c s)=s
 |[]=>rfl
 |x::s=>by
  have ih:=Nx c s;have hn:=Ee c s;simp only[Ai];split
  ·rename_i h;rw[Cf c _ hn,ih,h];rfl
  cases hs:Ai c s with
  |nil=>exact absurd hs hn
  |cons p ps=>
   rw[hs]at ih;cases ps with
   |nil=>simpa [An]using ih
   |cons q ps=>
    rw[Cf c _ aI]at ih ⊢;simp[ih]
theorem V9(c:UInt8):∀s:List UInt8,∀p∈Ai c s,c∉p
 |[],p,hp=>by simp[Ai]at hp;simp[hp]
 |x::s,p,hp=>by
  have ih:=V9 c s;simp only[Ai]at hp;split at hp
  ·rcases ax.1 hp with rfl|hp
   ·simp
   exact ih p hp
  rename_i hx;cases hs:Ai c s with
  |nil=>exact absurd hs (Ee c s)
  |cons q qs=>
   rw[hs]at hp ih;rcases ax.1 hp with rfl|hp
   ·have:=ih q aI;simp;exact⟨fun h=>hx h.symm,this⟩
   exact ih p bQ
theorem Gc(c:UInt8):∀p:List UInt8,c∉p->Ai c p=[p]
 |[],_=>rfl
 |x::p,h=>by
  simp at h;simp only[Ai];rw[if_neg (fun e=>h.1 e.symm),Gc c p h.2]
theorem J5(c:UInt8):∀(p s:List UInt8),c∉p->Ai c (p++c::s)=p::Ai c s
 |[],s,_=>by simp[Ai]
 |x::p,s,h=>by
  simp at h;simp only[aq,Ai];rw[if_neg (fun e=>h.1 e.symm),J5 c p s h.2]
theorem Ky(c:UInt8):∀ps:List (List UInt8),ps≠[]->(∀p∈ps,c∉p)->Ai c (An c ps)=ps
 |[],h,_=>absurd rfl h
 |[p],_,h=>Gc c p (h p aI)
 |p::q::ps,_,h=>by
  rw[Cf c p aI,J5 c p _ (h p aI),Ky c (q::ps) aI (fun x hx=>h x (by simp[hx]))]
theorem D7{c:UInt8}{s:List UInt8}{ps:List (List UInt8)}:Ai c s=ps↔ps≠[]/\(∀p∈ps,c∉p)/\An c ps=s:=
 ⟨fun h=>by subst h;exact⟨Ee c s,V9 c s,Nx c s⟩,fun⟨h1,h2,h3⟩=>by rw[<-h3];exact Ky c ps h1 h2⟩
theorem Gn(c:UInt8):∀s:List UInt8,(Ai c s).length<=s.length+1
 |[]=>by simp[Ai]
 |x::s=>by
  have ih:=Gn c s;simp only[Ai];split
  ·simp;exact ih
  cases hs:Ai c s with
  |nil=>exact absurd hs (Ee c s)
  |cons p ps=>rw[hs]at ih;simp at ih ⊢;omega
theorem Al(c:UInt8):∀s:List UInt8,∀p∈Ai c s,p.length<=s.length
 |[],p,h=>by simp[Ai]at h;simp[h]
 |x::s,p,h=>by
  have ih:=Al c s;simp only[Ai]at h;split at h
  ·rcases ax.1 h with rfl|h
   ·simp
   exact Nat.le_succ_of_le (ih p h)
  cases hs:Ai c s with
  |nil=>exact absurd hs (Ee c s)
  |cons q qs=>
   rw[hs]at ih h;rcases ax.1 h with rfl|h
   ·have:=ih q aI;simp;exact this
   have:=ih p (by simp[h]);simp;omega
def Dc(c:UInt8)(s:List UInt8):List UInt8 × List UInt8 × Bool:=
 if c∈s then(s.takeWhile (· != c),(s.dropWhile (· != c)).tail,true)else(s,[],false)
theorem Pp{c:UInt8}{s:List UInt8}(h:c∉s):Dc c s=(s,[],false):=if_neg h
theorem Ef{c:UInt8}{p s:List UInt8}(h:c∉p):Dc c (p++c::s)=(p,s,true):=by
 unfold Dc;rw[if_pos aI];have h1:p.all (fun x=>x != c)=true:=by
  rw[List.all_eq_true];intro x hx;simp;rintro rfl;exact h hx
 obtain⟨e1,e2⟩:=Fj (p:=fun x=>x != c) h1 ⟨c,s,rfl,by simp⟩;rw[e1,e2];rfl
theorem Qaw{c:UInt8}:∀{s:List UInt8},c∈s->∃p t,s=p++c::t/\c∉p
 |x::s,h=>by
  by_cases hx:x=c
  ·exact⟨[],s,by simp[hx],by simp⟩
  obtain⟨p,t,e,hp⟩:=Qaw (s:=s) (by rcases ax.1 h with h|h;exact absurd h.symm hx;exact h);exact⟨x::p,t,by simp[e],by simp;exact⟨fun e=>hx e.symm,hp⟩⟩
theorem E3(c:UInt8)(s:List UInt8):(c∉s/\Dc c s=(s,[],false))\/∃p t,s=p++c::t/\c∉p/\Dc c s=(p,t,true):=by
 by_cases h:c∈s
 ·obtain⟨p,t,e,hp⟩:=Qaw h;exact .inr ⟨p,t,e,hp,by rw[e];exact Ef hp⟩
 exact .inl ⟨h,Pp h⟩
def Cg(c:UInt8):Bool:=Ao c || Bg c || c == 32
def Dq(s:List UInt8):Bool:=decide (s.length<=12) && s.all Cg
def Bw(b s:List UInt8):Bool:=
 if b=[110]then(match Cn s with|some n=>decide (0<n)|none=>false)
 else if b=[116]then decide (2<s.length) && decide (s.head?=some 39) && decide (s.getLast?=some 39) && Dq (s.drop 1).dropLast
 else if b=[102]then decide (s=[121,101,115])else false
theorem Qbp{r:List UInt8}(h:2<r.length)(h1:r.head?=some 39)(h2:r.getLast?=some 39):r=39::((r.drop 1).dropLast++[39]):=by
 cases r with
 |nil=>simp at h1
 |cons a t=>
  simp at h1;subst h1;rcases Eu t with rfl|⟨u,c,rfl⟩
  ·simp at h
  have:c=39:=by
   rw[show (39:UInt8)::(u++[c])=(39::u)++[c]from rfl,List.getLast?_append]at h2;simpa using h2
  subst this;simp
def Gl(c:UInt8):Prop:=c≠10/\c≠44/\c≠58/\c≠61
theorem Xm{c:UInt8}(h:Bg c=true):Gl c:=by
 rw[Di]at h;refine⟨?_,?_,?_,?_⟩<;>(rintro rfl;revert h;decide)
theorem Xj{c:UInt8}(h:Ao c=true):Gl c:=by
 rw[Jf]at h;refine⟨?_,?_,?_,?_⟩<;>(rintro rfl;revert h;decide)
theorem Qc3{c:UInt8}(h:Cg c=true):Gl c:=by
 unfold Cg at h;simp only[Bool.or_eq_true]at h;rcases h with(h|h)|h
 ·exact Xj h
 ·exact Xm h
 have:c=32:=bg;subst this;exact⟨by decide,by decide,by decide,by decide⟩
theorem Qba{c:UInt8}(h:Bo c=true):Gl c:=by
 unfold Bo at h;simp only[Bool.or_eq_true,beq_iff_eq]at h;rcases h with rfl|rfl<;>exact⟨by decide,by decide,by decide,by decide⟩
theorem Es(n:Nat):∀c∈Az n,Gl c:=fun c hc=>Xm (List.all_eq_true.1 (Mq n) c hc)
theorem D5{s:List UInt8}(h:Bb s=true):∀c∈s,Gl c:=fun c hc=>Xj ((Ep.1 h).2.2 c hc)
theorem H8{k:Kd}(h:C0 k):∀c∈Bi k,Gl c:=by
 intro c hc;obtain⟨h1,h2,_⟩:=h;unfold Bi Ca at hc;rcases ae.1 hc with hc|hc
 ·exact Qba (List.all_eq_true.1 h1 c hc)
 rcases h2 with⟨h,hn⟩|⟨h,_⟩
 ·rw[if_pos h]at hc;rcases ax.1 hc with rfl|hc
  ·exact⟨by decide,by decide,by decide,by decide⟩
  rcases ae.1 hc with hc|hc
  ·exact D5 hn c hc
  simp at hc;subst hc;exact⟨by decide,by decide,by decide,by decide⟩
 rw[if_neg (by rcases h with h|h|h<;>· rw[h];decide)]at hc;rcases h with h|h|h<;>· rw[h]at hc;simp at hc;subst hc;exact⟨by decide,by decide,by decide,by decide⟩
theorem Kq{b s:List UInt8}(h:Bw b s=true):s≠[]/\∀c∈s,Gl c:=by
 unfold Bw at h;split at h
 ·cases hd:Cn s with
  |none=>rw[hd]at h;cases h
  |some n=>
   obtain⟨_,e⟩:=Cb.1 hd;subst e;exact⟨Ph n,Es n⟩
 split at h
 ·simp only[ar,decide_eq_true_eq]at h;obtain⟨⟨⟨h1,h2⟩,h3⟩,h4⟩:=h;have e:=Qbp h1 h2 h3;refine⟨by intro hh;rw[hh]at h1;simp at h1,fun c hc=>?_⟩;rw[e]at hc;have q:Gl 39:=⟨by decide,by decide,by decide,by decide⟩
  rcases ax.1 hc with rfl|hc
  ·exact q
  rcases ae.1 hc with hc|hc
  ·unfold Dq at h4;simp only[ar]at h4;exact Qc3 (List.all_eq_true.1 h4.2 c hc)
  simp at hc;subst hc;exact q
 split at h
 ·simp only[decide_eq_true_eq]at h;subst h;refine⟨by simp,fun c hc=>?_⟩;simp at hc;rcases hc with rfl|rfl|rfl<;>exact⟨by decide,by decide,by decide,by decide⟩
 cases h
theorem M6{b s:List UInt8}(h:Bw b s=true):b=[110]\/b=[116]\/b=[102]:=by
 unfold Bw at h;split at h
 ·exact .inl (by assumption)
 split at h
 ·exact .inr (.inl (by assumption))
 split at h
 ·exact .inr (.inr (by assumption))
 cases h
structure Fd where
 tag:Nat
 name:List UInt8
 kind:Kd
 given:List UInt8
deriving DecidableEq
def Kc(st:UInt8)(f:Fd):List UInt8:=if st=69 then[]else 58::(Bi f.kind++if f.given=[]then[]else 61::f.given)
def Nr(st:UInt8)(f:Fd):List UInt8:=Az f.tag++58::(f.name++Kc st f)
def Q5(st:UInt8)(f:Fd):Prop:=
 1<=f.tag/\f.tag<=200/\Bb f.name=true/\(st=69->f.kind=Kd.nil/\f.given=[]) /\
 (st≠69->C0 f.kind/\(f.given≠[]->st=82/\f.kind.signs=[]/\Bw f.kind.base f.given=true))
theorem Ec{s:List UInt8}(h:∀c∈s,Gl c):10∉s/\44∉s/\58∉s/\61∉s:=
 ⟨fun hc=>(h _ hc).1 rfl,fun hc=>(h _ hc).2.1 rfl,fun hc=>(h _ hc).2.2.1 rfl,fun hc=>(h _ hc).2.2.2 rfl⟩
def Jv(p:List (List UInt8)):Option (Nat × List UInt8):=
 match p with
 |[a,b]=>(match Cn a with|some n=>if 1<=n/\n<=200/\Bb b=true then some (n,b)else none|none=>none)
 |_=>none
def Km(p:List (List UInt8)):Option (Nat × List UInt8 × List UInt8):=
 match p with
 |[a,b,c]=>(match Cn a with|some n=>if 1<=n/\n<=200/\Bb b=true then some (n,b,c)else none|none=>none)
 |_=>none
def Gq(st:UInt8)(s:List UInt8):Option Fd:=
 if st=69 then
  match Jv (Ai 58 (Dc 61 s).1)with
  |some (n,b)=>if (Dc 61 s).2.2=true then none else some ⟨n,b,Kd.nil,(Dc 61 s).2.1⟩
  |none=>none
 else
  match Km (Ai 58 (Dc 61 s).1)with
  |some (n,b,c)=>(match Co c with
   |some k=>if (Dc 61 s).2.2=true/\¬(st=82/\k.signs=[]/\Bw k.base (Dc 61 s).2.1=true)then none else some ⟨n,b,k,(Dc 61 s).2.1⟩
   |none=>none)
  |none=>none
def By(st:UInt8)(s:List UInt8):Option Fd:=
 if st=69 then
  match Jv (Ai 58 s)with
  |some (n,b)=>some ⟨n,b,Kd.nil,[]⟩
  |none=>none
 else
  match Km (Ai 58 s)with
  |some (n,b,c)=>(match Ai 61 c with
   |[k]=>(match Co k with|some k=>some ⟨n,b,k,[]⟩|none=>none)
   |[k,v]=>if st=82/\Bw k v=true then some ⟨n,b,⟨[],k,[]⟩,v⟩else none
   |_=>none)
  |none=>none
theorem Je{p:List (List UInt8)}{n:Nat}{b:List UInt8}:Jv p=some (n,b)↔p=[Az n,b]/\1<=n/\n<=200/\Bb b=true:=by
 unfold Jv;constructor
 ·intro h;split at h
  ·rename_i a b';cases hd:Cn a with
   |none=>rw[hd]at h;cases h
   |some m=>
    rw[hd]at h;simp only at h;split at h
    ·rename_i hc;simp at h;obtain⟨rfl,rfl⟩:=h;rw[(Cb.1 hd).2];exact⟨rfl,hc⟩
    cases h
  cases h
 rintro⟨rfl,h⟩;have e:=Cb.2 ⟨(by omega:n<=999999),(rfl:Az n=Az n)⟩;simp only[e,if_pos h]
theorem Gi{p:List (List UInt8)}{n:Nat}{b c:List UInt8}:Km p=some (n,b,c)↔p=[Az n,b,c]/\1<=n/\n<=200/\Bb b=true:=by
 unfold Km;constructor
 ·intro h;split at h
  ·rename_i a b' c';cases hd:Cn a with
   |none=>rw[hd]at h;cases h
   |some m=>
    rw[hd]at h;simp only at h;split at h
    ·rename_i hc;simp at h;obtain⟨rfl,rfl,rfl⟩:=h;rw[(Cb.1 hd).2];exact⟨rfl,hc⟩
    cases h
  cases h
 rintro⟨rfl,h⟩;have e:=Cb.2 ⟨(by omega:n<=999999),(rfl:Az n=Az n)⟩;simp only[e,if_pos h]
theorem Np{k:List UInt8}(h:k=[110]\/k=[116]\/k=[102]):C0 ⟨[],k,[]⟩/\Bi ⟨[],k,[]⟩=k:=by
 rcases h with rfl|rfl|rfl<;>exact⟨⟨rfl,.inr ⟨by simp,rfl⟩,by decide⟩,by decide⟩
theorem Fx{st:UInt8}{s:List UInt8}{f:Fd}:By st s=some f↔Q5 st f/\Nr st f=s:=by
 obtain⟨tg,nm,k,gv⟩:=f;unfold By;by_cases hst:st=69
 ·rw[if_pos hst];constructor
  ·intro h;cases hp:Jv (Ai 58 s)with
   |none=>rw[hp]at h;cases h
   |some x=>
    obtain⟨n,b⟩:=x;rw[hp]at h;simp at h;obtain⟨rfl,rfl,rfl,rfl⟩:=h;obtain⟨e,h1,h2,h3⟩:=Je.1 hp;obtain⟨_,_,e2⟩:=D7.1 e;exact⟨⟨h1,h2,h3,fun _=>⟨rfl,rfl⟩,fun h=>absurd hst h⟩,by rw[<-e2];simp[Nr,Kc,hst,An]⟩
  rintro⟨⟨h1,h2,h3,h4,_⟩,rfl⟩;obtain⟨e1,e2⟩:=h4 hst;simp only at h1 h2 h3 e1 e2;subst e1;subst e2
  have hs:Ai 58 (Nr st ⟨tg,nm,Kd.nil,[]⟩)=[Az tg,nm]:=D7.2 ⟨by simp,by
   intro p hp;simp at hp;rcases hp with rfl|rfl
   ·exact gX
   exact(Ec (D5 h3)).2.2.1,by simp[Nr,Kc,hst,An]⟩
  rw[hs,Je.2 ⟨rfl,h1,h2,h3⟩]
 rw[if_neg hst];constructor
 ·intro h;cases hp:Km (Ai 58 s)with
  |none=>rw[hp]at h;cases h
  |some x=>
   obtain⟨n,b,c⟩:=x;rw[hp]at h;simp only at h;obtain⟨e,h1,h2,h3⟩:=Gi.1 hp;obtain⟨_,_,e2⟩:=D7.1 e;split at h
   ·rename_i k' hk;obtain⟨_,_,e3⟩:=D7.1 hk;simp[An]at e3;subst e3;cases hkl:Co k' with
    |none=>rw[hkl]at h;cases h
    |some kk=>
     rw[hkl]at h;simp at h;obtain⟨rfl,rfl,rfl,rfl⟩:=h;obtain⟨hk1,hk2⟩:=Er.1 hkl;exact⟨⟨h1,h2,h3,fun h=>absurd h hst,fun _=>⟨hk1,fun h=>absurd rfl h⟩⟩,by rw[<-e2];simp[Nr,Kc,hst,An,hk2]⟩
   ·rename_i k' v hk;split at h
    ·rename_i hc;simp at h;obtain⟨rfl,rfl,rfl,rfl⟩:=h;obtain⟨_,_,e3⟩:=D7.1 hk;obtain⟨hn,_⟩:=Kq hc.2;obtain⟨o1,o2⟩:=Np (M6 hc.2);refine⟨⟨h1,h2,h3,fun h=>absurd h hst,fun _=>⟨o1,fun _=>⟨hc.1,rfl,hc.2⟩⟩⟩,?_⟩;rw[<-e2,<-e3];simp[Nr,Kc,hst,An,o2,hn]
    cases h
   cases h
 rintro⟨⟨h1,h2,h3,_,h4⟩,rfl⟩;obtain⟨hk,hg⟩:=h4 hst;simp only at h1 h2 h3 hk hg;by_cases hgv:gv=[]
 ·subst hgv
  have hs:Ai 58 (Nr st ⟨tg,nm,k,[]⟩)=[Az tg,nm,Bi k]:=D7.2 ⟨by simp,by
   intro p hp;simp at hp;rcases hp with rfl|rfl|rfl
   ·exact gX
   ·exact(Ec (D5 h3)).2.2.1
   exact(Ec (H8 hk)).2.2.1,by simp[Nr,Kc,hst,An]⟩
  rw[hs,Gi.2 ⟨rfl,h1,h2,h3⟩];simp only;rw[Gc 61 (Bi k) (Ec (H8 hk)).2.2.2];simp only;rw[Er.2 ⟨hk,rfl⟩]
 obtain⟨g1,g2,g3⟩:=hg hgv;obtain⟨_,hp⟩:=Kq g3;have hb:=M6 g3;obtain⟨o1,o2⟩:=Np hb;have ek:k=⟨[],k.base,[]⟩:=by
  obtain⟨sg,b,nm'⟩:=k;simp only at g2 hb;subst g2;obtain⟨_,hbo,_⟩:=hk;rcases hbo with⟨h,_⟩|⟨_,h⟩
  ·exfalso
   simp only at h;rcases hb with hb|hb|hb<;>· rw[h]at hb;revert hb;decide
  simp only at h;rw[h]
 have eB:Bi k=k.base:=by rw[ek];exact o2
 have nb:∀c∈Bi k,Gl c:=H8 hk
 have hs:Ai 58 (Nr st ⟨tg,nm,k,gv⟩)=[Az tg,nm,Bi k++61::gv]:=D7.2 ⟨by simp,by
  intro p hp';simp at hp';rcases hp' with rfl|rfl|rfl
  ·exact gX
  ·exact(Ec (D5 h3)).2.2.1
  intro hc;rcases ae.1 hc with hc|hc
  ·exact(Ec nb).2.2.1 hc
  rcases ax.1 hc with hc|hc
  ·revert hc;decide
  exact(Ec hp).2.2.1 hc,by simp[Nr,Kc,hst,An,hgv]⟩
 rw[hs,Gi.2 ⟨rfl,h1,h2,h3⟩];simp only;rw[J5 61 (Bi k) gv (Ec nb).2.2.2,Gc 61 gv (Ec hp).2.2.2];simp only;rw[eB,if_pos ⟨g1,g3⟩,<-ek]
theorem R8{st:UInt8}{s:List UInt8}{f:Fd}:Gq st s=some f↔Q5 st f/\Nr st f=s:=by
 obtain⟨tg,nm,k,gv⟩:=f;constructor
 ·intro h;unfold Gq at h;by_cases hst:st=69
  ·rw[if_pos hst]at h;cases hp:Jv (Ai 58 (Dc 61 s).1)with
   |none=>rw[hp]at h;cases h
   |some x=>
    obtain⟨n,b⟩:=x;rw[hp]at h;simp only at h;obtain⟨e,h1,h2,h3⟩:=Je.1 hp;obtain⟨_,_,e2⟩:=D7.1 e;rcases E3 61 s with⟨hn,hc⟩|⟨p,t,_,_,hc⟩
    ·rw[hc]at h e2;simp at h;obtain⟨rfl,rfl,rfl,rfl⟩:=h;exact⟨⟨h1,h2,h3,fun _=>⟨rfl,rfl⟩,fun h=>absurd hst h⟩,by simp only at e2;rw[<-e2];simp[Nr,Kc,hst,An]⟩
    rw[hc]at h;simp at h
  rw[if_neg hst]at h;cases hp:Km (Ai 58 (Dc 61 s).1)with
  |none=>rw[hp]at h;cases h
  |some x=>
   obtain⟨n,b,c⟩:=x;rw[hp]at h;simp only at h;obtain⟨e,h1,h2,h3⟩:=Gi.1 hp;obtain⟨_,_,e2⟩:=D7.1 e;cases hkl:Co c with
   |none=>rw[hkl]at h;cases h
   |some kk=>
    obtain⟨hk1,hk2⟩:=Er.1 hkl;rw[hkl]at h;simp only at h;rcases E3 61 s with⟨hn,hc⟩|⟨p,t,ec,_,hc⟩
    ·rw[hc]at h e2;simp at h;obtain⟨rfl,rfl,rfl,rfl⟩:=h;exact⟨⟨h1,h2,h3,fun h=>absurd h hst,fun _=>⟨hk1,fun h=>absurd rfl h⟩⟩,by simp only at e2;rw[<-e2];simp[Nr,Kc,hst,An,hk2]⟩
    rw[hc]at h e2;simp only at h e2;split at h
    ·cases h
    rename_i hcc;have hcc':st=82/\kk.signs=[]/\Bw kk.base t=true:=Decidable.byContradiction fun hh=>hcc ⟨trivial,hh⟩;simp at h;obtain⟨rfl,rfl,rfl,rfl⟩:=h;obtain⟨hn,_⟩:=Kq hcc'.2.2;exact⟨⟨h1,h2,h3,fun h=>absurd h hst,fun _=>⟨hk1,fun _=>hcc'⟩⟩,by rw[ec,<-e2];simp[Nr,Kc,hst,An,hk2,hn]⟩
 intro h;have hS:=Fx.2 h;obtain⟨⟨h1,h2,h3,h4,h5⟩,rfl⟩:=h;simp only at h1 h2 h3 h4 h5;unfold Gq;by_cases hst:st=69
 ·obtain⟨e1,e2⟩:=h4 hst;subst e1;subst e2;have hno:61∉Nr st ⟨tg,nm,Kd.nil,[]⟩:=by
   simp[Nr,Kc,hst];exact⟨(Ec (Es tg)).2.2.2,(Ec (D5 h3)).2.2.2⟩
  rw[if_pos hst,Pp hno];simp only
  have hs:Ai 58 (Nr st ⟨tg,nm,Kd.nil,[]⟩)=[Az tg,nm]:=D7.2 ⟨by simp,by
   intro p hp;simp at hp;rcases hp with rfl|rfl
   ·exact gX
   exact(Ec (D5 h3)).2.2.1,by simp[Nr,Kc,hst,An]⟩
  rw[hs,Je.2 ⟨rfl,h1,h2,h3⟩];simp
 obtain⟨hk,hg⟩:=h5 hst;have nb:∀c∈Bi k,Gl c:=H8 hk;have hno:61∉Az tg++58::(nm++58::Bi k):=by
  simp;exact⟨(Ec (Es tg)).2.2.2,(Ec (D5 h3)).2.2.2,(Ec nb).2.2.2⟩
 have hs:Ai 58 (Az tg++58::(nm++58::Bi k))=[Az tg,nm,Bi k]:=D7.2 ⟨by simp,by
  intro p hp;simp at hp;rcases hp with rfl|rfl|rfl
  ·exact gX
  ·exact(Ec (D5 h3)).2.2.1
  exact(Ec nb).2.2.1,by simp[An]⟩
 rw[if_neg hst];by_cases hgv:gv=[]
 ·subst hgv;have e:Nr st ⟨tg,nm,k,[]⟩=Az tg++58::(nm++58::Bi k):=by simp[Nr,Kc,hst]
  rw[e,Pp hno];simp only;rw[hs,Gi.2 ⟨rfl,h1,h2,h3⟩];simp only;rw[Er.2 ⟨hk,rfl⟩];simp
 have e:Nr st ⟨tg,nm,k,gv⟩=(Az tg++58::(nm++58::Bi k))++61::gv:=by simp[Nr,Kc,hst,hgv]
 rw[e,Ef hno];simp only;rw[hs,Gi.2 ⟨rfl,h1,h2,h3⟩];simp only;rw[Er.2 ⟨hk,rfl⟩];simp only;rw[if_neg (fun hh=>hh.2 (hg hgv))]
theorem Qee(st:UInt8)(s:List UInt8):Gq st s=By st s:=by
 cases h:By st s with
 |some f=>exact R8.2 (Fx.1 h)
 |none=>
  cases h2:Gq st s with
  |none=>rfl
  |some f=>rw[Fx.2 (R8.1 h2)]at h;cases h
theorem Rq{st:UInt8}{f:Fd}(h:Q5 st f):10∉Nr st f/\44∉Nr st f/\Nr st f≠[]:=by
 obtain⟨h1,h2,h3,h4,h5⟩:=h;have hd:=Ph f.tag;refine⟨?_,?_,by unfold Nr;simp⟩;all_goals
  unfold Nr Kc;simp only[ae,ax,not_or];refine⟨?_,by decide,?_,?_⟩
  ·first|exact(Ec (Es f.tag)).1|exact(Ec (Es f.tag)).2.1
  ·first|exact(Ec (D5 h3)).1|exact(Ec (D5 h3)).2.1
  ·by_cases hst:st=69
   ·rw[if_pos hst];simp
   rw[if_neg hst];obtain⟨hk,hg⟩:=h5 hst;simp only[ae,ax,not_or];refine⟨by decide,?_,?_⟩
   ·first|exact(Ec (H8 hk)).1|exact(Ec (H8 hk)).2.1
   by_cases hgv:f.given=[]
   ·rw[if_pos hgv];simp
   rw[if_neg hgv];have hp:=(Kq (hg hgv).2.2).2;simp only[ax,not_or];refine⟨by decide,?_⟩;first|exact(Ec hp).1|exact(Ec hp).2.1
theorem Qcp{st:UInt8}{f g:Fd}(hf:Q5 st f)(hg:Q5 st g)(h:Nr st f=Nr st g):f=g:=by
 have h1:=Fx.2 ⟨hf,rfl⟩;have h2:=Fx.2 ⟨hg,h.symm⟩;rw[h1]at h2;injection h2
structure Ty where
 sort:UInt8
 name:List UInt8
 fields:List Fd
deriving DecidableEq
def Fy(fs:List Fd)(f:Fd):Bool:=fs.all fun g=>decide (g.name≠f.name) && decide (g.tag<f.tag)
def E5(st:UInt8):List (List UInt8)->List Fd->Option (List Fd)
 |[],acc=>some acc
 |p::ps,acc=>match Gq st p with
  |none=>none
  |some f=>if acc.length=8\/Fy acc f=false then none else E5 st ps (acc++[f])
def Ds(st:UInt8):List (List UInt8)->List Fd->Option (List Fd)
 |[],acc=>some acc
 |p::ps,acc=>match By st p with
  |none=>none
  |some f=>if Fy acc f=false then none else Ds st ps (acc++[f])
def Fds(st:UInt8)(fs:List Fd):Prop:=(∀f∈fs,Q5 st f)/\fs.Pairwise fun g f=>g.name≠f.name/\g.tag<f.tag
theorem Ka{fs:List Fd}{f:Fd}:Fy fs f=true↔∀g∈fs,g.name≠f.name/\g.tag<f.tag:=by simp[Fy]
theorem Zv{st:UInt8}{fs:List Fd}{f:Fd}:Fds st (fs++[f])↔Fds st fs/\Q5 st f/\Fy fs f=true:=by
 unfold Fds;rw[Ka,List.pairwise_append];constructor
 ·rintro⟨h1,h2,_,h3⟩;exact⟨⟨fun g hg=>h1 g (by simp[hg]),h2⟩,h1 f aI,fun g hg=>h3 g hg f aI⟩
 rintro⟨⟨h1,h2⟩,h3,h4⟩;refine⟨fun g hg=>?_,h2,by simp,fun g hg f' hf'=>?_⟩
 ·rcases ae.1 hg with hg|hg
  ·exact h1 g hg
  simp at hg;subst hg;exact h3
 simp at hf';subst hf';exact h4 g hg
theorem M7(st:UInt8):∀(ps:List (List UInt8)) (acc r:List Fd),Fds st acc->(Ds st ps acc=some r↔Fds st r/\∃gs,r=acc++gs/\gs.map (Nr st)=ps)
 |[],acc,r,ha=>by
  simp only[Ds,ai];constructor
  ·rintro rfl;exact⟨ha,[],by simp,rfl⟩
  rintro⟨_,gs,e,h⟩;have:gs=[]:=bg;subst this;simpa using e.symm
 |p::ps,acc,r,ha=>by
  simp only[Ds];cases hf:By st p with
  |none=>
   simp only[reduceCtorEq,false_iff];rintro⟨hr,gs,rfl,h⟩;cases gs with
   |nil=>simp at h
   |cons g gs=>
    simp at h;have:=Fx.2 ⟨hr.1 g aI,h.1⟩;rw[this]at hf;cases hf
  |some f=>
   obtain⟨ok,eb⟩:=Fx.1 hf;simp only;by_cases hfit:Fy acc f=false
   ·rw[if_pos hfit];simp only[reduceCtorEq,false_iff];rintro⟨hr,gs,rfl,h⟩;cases gs with
    |nil=>simp at h
    |cons g gs=>
     simp at h;have hg:g=f:=Qcp (hr.1 g aI) ok (h.1.trans eb.symm);subst hg;have h2:Fds st (acc++[g]++gs):=eH;have h3:Fds st (acc++[g]):=⟨fun x hx=>h2.1 x (by simp at hx ⊢;rcases hx with hx|hx<;>simp[hx]),(List.pairwise_append.1 h2.2).1⟩
     rw[(Zv.1 h3).2.2]at hfit;cases hfit
   rw[if_neg hfit];have hfit':Fy acc f=true:=by simpa using hfit
   rw[M7 st ps (acc++[f]) r (Zv.2 ⟨ha,ok,hfit'⟩)];constructor
   ·rintro⟨hr,gs,rfl,h⟩;exact⟨hr,f::gs,by simp,by simp[eb,h]⟩
   rintro⟨hr,gs,rfl,h⟩;cases gs with
   |nil=>simp at h
   |cons g gs=>
    simp at h;have hg:g=f:=Qcp (hr.1 g aI) ok (h.1.trans eb.symm);subst hg;exact⟨hr,gs,by simp,h.2⟩
theorem Qh(st:UInt8):∀(ps:List (List UInt8)) (acc:List Fd),acc.length<=8->E5 st ps acc=(match Ds st ps acc with|some r=>if r.length<=8 then some r else none|none=>none)
 |[],acc,h=>by simp[E5,Ds,h]
 |p::ps,acc,h=>by
  simp only[E5,Ds,Qee];cases hf:By st p with
  |none=>rfl
  |some f=>
   simp only;by_cases hfit:Fy acc f=false
   ·rw[if_pos (.inr hfit),if_pos hfit]
   rw[if_neg hfit];by_cases h8:acc.length=8
   ·rw[if_pos (.inl h8)];have key:∀(ps:List (List UInt8)) (a r:List Fd),Ds st ps a=some r->a.length<=r.length:=by
     intro ps;induction ps with
     |nil=>intro a r h;simp[Ds]at h;rw[h];exact Nat.le_refl _
     |cons q qs ih=>
      intro a r h;simp only[Ds]at h;split at h
      ·cases h
      split at h
      ·cases h
      have:=ih _ _ h;simp at this;omega
    cases hr:Ds st ps (acc++[f])with
    |none=>rfl
    |some r=>
     have:=key _ _ _ hr;simp at this;simp only;rw[if_neg aE]
   rw[if_neg (by simp[h8,hfit])];exact Qh st ps (acc++[f]) aM
def Dj(c:UInt8):Prop:=c=82\/c=85\/c=69
instance (c:UInt8):Decidable (Dj c):=by unfold Dj;infer_instance
def Ed(t:Ty):Prop:=Dj t.sort/\Bb t.name=true/\Fds t.sort t.fields/\t.fields.length<=8/\(t.fields=[]->t.sort=82)
def Xc(t:Ty):List UInt8:=t.sort::(t.name++61::An 44 (t.fields.map (Nr t.sort)))
def Ej(s:List UInt8):Option Ty:=
 match s with
 |[]=>none
 |c::r=>
  if ¬Dj c\/(Dc 61 r).2.2=false\/Bb (Dc 61 r).1=false then none
  else if (Dc 61 r).2.1=[]then(if c=82 then some ⟨c,(Dc 61 r).1,[]⟩else none)
  else match E5 c (Ai 44 (Dc 61 r).2.1) []with
   |some fs=>some ⟨c,(Dc 61 r).1,fs⟩
   |none=>none
theorem Qfc{c:UInt8}{ps:List (List UInt8)}(h:ps≠[])(h1:∀p∈ps,p≠[]):An c ps≠[]:=by
 cases ps with
 |nil=>exact absurd rfl h
 |cons p ps=>
  have:=h1 p aI;cases ps with
  |nil=>exact this
  |cons q ps=>rw[Cf c p aI];simp
theorem Xs(st:UInt8):Fds st []:=⟨by simp,List.Pairwise.nil⟩
theorem Ra{st:UInt8}{ps:List (List UInt8)}{r:List Fd}:E5 st ps []=some r↔Fds st r/\r.length<=8/\r.map (Nr st)=ps:=by
 rw[Qh st ps [] aI];constructor
 ·intro h;cases hs:Ds st ps []with
  |none=>rw[hs]at h;cases h
  |some x=>
   rw[hs]at h;simp only at h;split at h
   ·rename_i h8;injection h with h;subst h;obtain⟨h1,gs,e,h2⟩:=(M7 st ps [] x (Xs st)).1 hs;simp at e;subst e;exact⟨h1,h8,h2⟩
   cases h
 rintro⟨h1,h2,h3⟩;rw[(M7 st ps [] r (Xs st)).2 ⟨h1,r,by simp,h3⟩];simp[h2]
theorem Qc0{c:UInt8}(h:Dj c):c≠61/\c≠10:=by
 rcases h with rfl|rfl|rfl<;>exact⟨by decide,by decide⟩
theorem Fe{s:List UInt8}{t:Ty}:Ej s=some t↔Ed t/\Xc t=s:=by
 obtain⟨st,nm,fs⟩:=t;constructor
 ·intro h;unfold Ej at h;split at h
  ·cases h
  rename_i c r;split at h
  ·cases h
  rename_i hc;have hc1:Dj c:=Decidable.byContradiction fun hh=>hc (.inl hh);have hc2:(Dc 61 r).2.2=true:=by
   cases hb:(Dc 61 r).2.2 with
   |true=>rfl
   |false=>exact absurd (.inr (.inl hb)) hc
  have hc3:Bb (Dc 61 r).1=true:=by
   cases hb:Bb (Dc 61 r).1 with
   |true=>rfl
   |false=>exact absurd (.inr (.inr hb)) hc
  rcases E3 61 r with⟨_,e⟩|⟨p,u,er,hp,e⟩
  ·rw[e]at hc2;cases hc2
  rw[e]at h hc3;simp only at h hc3;split at h
  ·rename_i hu;subst hu;split at h
   ·rename_i h82;injection h with h;injection h with e1 e2 e3;subst e1;subst e2;subst e3;exact⟨⟨hc1,hc3,Xs _,by simp,fun _=>h82⟩,by rw[er];simp[Xc,An]⟩
   cases h
  rename_i hu;cases hf:E5 c (Ai 44 u) []with
  |none=>rw[hf]at h;cases h
  |some x=>
   rw[hf]at h;injection h with h;injection h with e1 e2 e3;subst e1;subst e2;subst e3;obtain⟨f1,f2,f3⟩:=Ra.1 hf;obtain⟨s1,_,s3⟩:=D7.1 f3.symm;exact⟨⟨hc1,hc3,f1,f2,fun hh=>by simp only at hh;subst hh;exact absurd rfl s1⟩,by rw[er];simp only[Xc];rw[s3]⟩
 rintro⟨⟨h1,h2,h3,h4,h5⟩,rfl⟩;simp only at h1 h2 h3 h4 h5;have hno:61∉nm:=(Ec (D5 h2)).2.2.2;unfold Ej Xc;simp only;rw[Ef hno];simp only;rw[if_neg (by simp[h1,h2])];by_cases hf:fs=[]
 ·subst hf;rw[h5 rfl];simp[An]
 have hn:An 44 (fs.map (Nr st))≠[]:=Qfc (by simpa using hf) (by
  intro p hp;obtain⟨f,hf',rfl⟩:=au.1 hp;exact(Rq (h3.1 f hf')).2.2)
 have hs:Ai 44 (An 44 (fs.map (Nr st)))=fs.map (Nr st):=Ky 44 _ (by simpa using hf) (by
  intro p hp;obtain⟨f,hf',rfl⟩:=au.1 hp;exact(Rq (h3.1 f hf')).2.1)
 rw[if_neg hn,hs,Ra.2 ⟨h3,h4,rfl⟩]
theorem Xd{t:Ty}(h:Ed t):10∉Xc t/\Xc t≠[]:=by
 refine⟨?_,by unfold Xc;simp⟩;obtain⟨h1,h2,h3,_,_⟩:=h;unfold Xc;simp only[ae,ax,not_or];refine⟨fun e=>(Qc0 h1).2 e.symm,(Ec (D5 h2)).1,by decide,?_⟩;have key:∀ps:List (List UInt8),(∀p∈ps,(10:UInt8)∉p)->(10:UInt8)∉An 44 ps:=by
  intro ps;induction ps with
  |nil=>intro _;simp[An]
  |cons p ps ih=>
   intro hp;cases ps with
   |nil=>exact hp p aI
   |cons q ps=>
    rw[Cf 44 p aI];simp only[ae,ax,not_or];refine⟨hp p aI,by decide,ih (fun x hx=>hp x (by simp[hx]))⟩
 apply key;intro p hp;obtain⟨f,hf',rfl⟩:=au.1 hp;exact(Rq (h3.1 f hf')).1
theorem X9{t u:Ty}(ht:Ed t)(hu:Ed u)(h:Xc t=Xc u):t=u:=by
 have h1:=Fe.2 ⟨ht,rfl⟩;have h2:=Fe.2 ⟨hu,h.symm⟩;rw[h1]at h2;injection h2
def scB(S:List Ty):List UInt8:=S.flatMap fun t=>Xc t++[10]
def Ku(S:List Ty):Prop:=(∀t∈S,Ed t)/\S.length<=8/\S.Pairwise fun t u=>t.name≠u.name
def Fl:Nat->List UInt8->List Ty->Option (List Ty)
 |0,_,_=>none
 |n+1,s,acc=>
  if s=[]then some acc
  else if (Dc 10 s).2.2=false\/acc.length=8 then none
  else match Ej (Dc 10 s).1 with
   |none=>none
   |some t=>if acc.any (fun u=>decide (u.name=t.name))=true then none else Fl n (Dc 10 s).2.1 (acc++[t])
theorem Xt{S:List Ty}{t:Ty}:Ku (S++[t])↔Ku S/\Ed t/\S.length<8/\S.any (fun u=>decide (u.name=t.name))=false:=by
 unfold Ku;rw[List.pairwise_append];constructor
 ·rintro⟨h1,h2,h3,_,h4⟩;simp at h2;refine⟨⟨fun u hu=>h1 u (by simp[hu]),by omega,h3⟩,h1 t aI,by omega,?_⟩;simp;intro u hu;exact h4 u hu t aI
 rintro⟨⟨h1,h2,h3⟩,h4,h5,h6⟩;simp at h6;refine⟨fun u hu=>?_,by simp;omega,h3,by simp,fun u hu v hv=>?_⟩
 ·rcases ae.1 hu with hu|hu
  ·exact h1 u hu
  simp at hu;subst hu;exact h4
 simp at hv;subst hv;exact h6 u hu
theorem Pa(t:Ty)(S:List Ty):scB (t::S)=Xc t++10::scB S:=by simp[scB]
theorem Sg:∀(n:Nat) (s:List UInt8) (acc r:List Ty),s.length<n->Ku acc->(Fl n s acc=some r↔Ku r/\∃U,r=acc++U/\scB U=s)
 |0,s,acc,r,h,_=>absurd h (Nat.not_lt_zero _)
 |n+1,s,acc,r,h,ha=>by
  simp only[Fl];by_cases hs:s=[]
  ·subst hs;rw[if_pos rfl];constructor
   ·intro hh;injection hh with hh;subst hh;exact⟨ha,[],by simp,rfl⟩
   rintro⟨_,U,rfl,e⟩;cases U with
   |nil=>simp
   |cons t U=>rw[Pa]at e;simp at e
  rw[if_neg hs];rcases E3 10 s with⟨hn,e⟩|⟨p,u,es,hp,e⟩
  ·rw[e,if_pos (.inl rfl)];simp only[reduceCtorEq,false_iff];rintro⟨_,U,rfl,eU⟩;cases U with
   |nil=>exact hs eU.symm
   |cons t U=>rw[Pa]at eU;rw[<-eU]at hn;simp at hn
  rw[e];simp only;by_cases h8:acc.length=8
  ·rw[if_pos (.inr h8)];simp only[reduceCtorEq,false_iff];rintro⟨hr,U,rfl,eU⟩;cases U with
   |nil=>exact hs eU.symm
   |cons t U=>have:=hr.2.1;simp at this;omega
  rw[if_neg (by simp[h8])];have hsplit:∀t U,Ed t->scB (t::U)=s->Xc t=p/\scB U=u:=by
   intro t U ht eU;rw[Pa,es]at eU;have h1:=Ef (s:=scB U) (Xd ht).1;rw[eU,Ef hp]at h1;injection h1 with e1 e2;injection e2 with e2 _;exact⟨e1.symm,e2.symm⟩
  cases ht:Ej p with
  |none=>
   simp only[reduceCtorEq,false_iff];rintro⟨hr,U,rfl,eU⟩;cases U with
   |nil=>exact hs eU.symm
   |cons t U=>
    have ok:Ed t:=hr.1 t aI;rw[Fe.2 ⟨ok,(hsplit t U ok eU).1⟩]at ht;cases ht
  |some t=>
   obtain⟨ok,eb⟩:=Fe.1 ht;simp only;by_cases hd:acc.any (fun u=>decide (u.name=t.name))=true
   ·rw[if_pos hd];simp only[reduceCtorEq,false_iff];rintro⟨hr,U,rfl,eU⟩;cases U with
    |nil=>exact hs eU.symm
    |cons t' U=>
     have ok':Ed t':=hr.1 t' aI;have ett:t'=t:=X9 ok' ok ((hsplit t' U ok' eU).1.trans eb.symm);subst ett;simp at hd;obtain⟨v,hv,hvn⟩:=hd;exact(List.pairwise_append.1 hr.2.2).2.2 v hv t' aI hvn
   rw[if_neg hd];have hlen:u.length<n:=by rw[es]at h;simp at h;omega
   rw[Sg n u (acc++[t]) r hlen (Xt.2 ⟨ha,ok,by have:=ha.2.1;omega,by simpa using hd⟩)];constructor
   ·rintro⟨hr,U,rfl,eU⟩;exact⟨hr,t::U,by simp,by rw[Pa,eb,eU,es]⟩
   rintro⟨hr,U,rfl,eU⟩;cases U with
   |nil=>exact absurd eU.symm hs
   |cons t' U=>
    have ok':Ed t':=hr.1 t' aI;obtain⟨e1,e2⟩:=hsplit t' U ok' eU;have ett:t'=t:=X9 ok' ok (e1.trans eb.symm);subst ett;exact⟨hr,U,by simp,e2⟩
def Dh(s:List UInt8):Option Ty:=
 match Dc 61 s with
 |(c::nm,u,true)=>
  if ¬Bb nm=true\/¬Dj c then none
  else if u=[]then(if c=82 then some ⟨c,nm,[]⟩else none)
  else match Ds c (Ai 44 u) []with
   |some r=>if r.length<=8 then some ⟨c,nm,r⟩else none
   |none=>none
 |_=>none
theorem Z6(s:List UInt8):Dh s=Ej s:=by
 cases s with
 |nil=>rfl
 |cons c r=>
  unfold Dh Ej;by_cases hc:c=61
  ·subst hc;have e:Dc 61 (61::r)=([],r,true):=Ef (p:=[]) aI;rw[e];simp only;rw[if_pos (.inl aH)]
  rcases E3 61 r with⟨hn,e⟩|⟨p,u,er,hp,e⟩
  ·have e2:Dc 61 (c::r)=(c::r,[],false):=Pp (by simp;exact⟨fun h=>hc h.symm,hn⟩);rw[e2];simp[e]
  have e2:Dc 61 (c::r)=(c::p,u,true):=by
   rw[er];exact Ef (p:=c::p) (by simp;exact⟨fun h=>hc h.symm,hp⟩)
  rw[e2];simp only[e];by_cases h1:Bb p=true
  ·by_cases h2:Dj c
   ·by_cases hu:u=[]
    ·subst hu;simp[h1,h2]
    have hx:∀(a b:Option Ty),(if ¬Bb p=true\/¬Dj c then a else b)=b:=fun a b=>if_neg (by simp[h1,h2]);have hy:∀(a b:Option Ty),(if ¬Dj c\/true=false\/Bb p=false then a else b)=b:=fun a b=>if_neg (by simp[h1,h2]);have hz:∀(a b:Option Ty),(if u=[]then a else b)=b:=fun a b=>if_neg hu;rw[hx,hy,hz,hz,Qh c _ [] aI];cases Ds c (Ai 44 u) []with
    |none=>rfl
    |some r=>simp only;split<;>rfl
   rw[if_pos (.inr h2),if_pos (.inl h2)]
  rw[if_pos (.inl h1),if_pos (.inr (.inr dT))]
def Fa:List (List UInt8)->Option (List Ty)
 |[]=>some []
 |p::ps=>match Ej p with
  |none=>none
  |some t=>match Fa ps with
   |none=>none
   |some ts=>some (t::ts)
theorem Nu:∀(ps:List (List UInt8)) (ts:List Ty),Fa ps=some ts↔(∀t∈ts,Ed t)/\ts.map Xc=ps
 |[],ts=>by
  simp only[Fa,ai];constructor
  ·rintro rfl;simp
  rintro⟨_,h⟩;simpa using h.symm
 |p::ps,ts=>by
  simp only[Fa];cases ht:Ej p with
  |none=>
   simp only[reduceCtorEq,false_iff];rintro⟨h,e⟩;cases ts with
   |nil=>simp at e
   |cons t ts=>
    simp at e;rw[Fe.2 ⟨h t aI,e.1⟩]at ht;cases ht
  |some t=>
   obtain⟨ok,eb⟩:=Fe.1 ht;simp only;have ih:=Nu ps;constructor
   ·intro h;cases hr:Fa ps with
    |none=>rw[hr]at h;cases h
    |some us=>
     rw[hr]at h;injection h with h;subst h;obtain⟨i1,i2⟩:=(ih us).1 hr;exact⟨by simpa using⟨ok,i1⟩,by simp[eb,i2]⟩
   rintro⟨h,e⟩;cases ts with
   |nil=>simp at e
   |cons u us=>
    simp at e;have:u=t:=X9 (h u aI) ok (e.1.trans eb.symm);subst this;rw[(ih us).2 ⟨fun x hx=>h x (by simp[hx]),e.2⟩]
def M5(s:List UInt8):Option (List Ty):=
 if 9<(Ai 10 s).length\/(Ai 10 s).getLast?≠some []then none else Fa (Ai 10 s).dropLast
theorem Qao(S:List Ty):An 10 (S.map Xc++[[]])=scB S:=by
 induction S with
 |nil=>rfl
 |cons t S ih=>
  rw[av,aq,Cf 10 _ aI,ih,Pa]
theorem Zs{s:List UInt8}{S:List Ty}:M5 s=some S↔(∀t∈S,Ed t)/\S.length<=8/\scB S=s:=by
 unfold M5;constructor
 ·intro h;split at h
  ·cases h
  rename_i hc;have h9:(Ai 10 s).length<=9:=by
   rcases aD 9 (Ai 10 s).length with hh|hh
   ·exact absurd (.inl hh) hc
   exact hh
  have hl:(Ai 10 s).getLast?=some []:=by
   refine Decidable.byContradiction fun hh=>hc (.inr hh)
  obtain⟨t1,t2⟩:=(Nu _ _).1 h;have e:Ai 10 s=S.map Xc++[[]]:=by
   rcases Eu (Ai 10 s)with hh|⟨t,c,hh⟩
   ·exact absurd hh (Ee 10 s)
   rw[hh]at hl t2 ⊢;simp at hl t2;rw[t2,hl]
  have hs:=Nx 10 s;rw[e,Qao]at hs;rw[e]at h9;simp at h9;exact⟨t1,h9,hs⟩
 rintro⟨h1,h2,rfl⟩;have e:Ai 10 (scB S)=S.map Xc++[[]]:=by
  rw[<-Qao];refine Ky 10 _ aI ?_;intro p hp;rcases ae.1 hp with hp|hp
  ·obtain⟨t,ht,rfl⟩:=au.1 hp;exact(Xd (h1 t ht)).1
  simp at hp;subst hp;simp
 rw[e,if_neg aM];simp only[List.dropLast_concat];exact(Nu _ _).2 ⟨h1,rfl⟩
def B0(S:List Ty)(n:List UInt8):Option Ty:=S.find? fun t=>decide (t.name=n)
theorem Bq{S:List Ty}{n:List UInt8}{t:Ty}(h:B0 S n=some t):t∈S/\t.name=n:=by
 exact hY
def B9(S:List Ty)(k:Kd):Prop:=k.base=[64]->(B0 S k.name).isSome=true
instance (S:List Ty) (k:Kd):Decidable (B9 S k):=by unfold B9;infer_instance
def Gg(S:List Ty):Prop:=∀t∈S,t.sort≠69->∀f∈t.fields,B9 S f.kind
instance (S:List Ty):Decidable (Gg S):=by unfold Gg;infer_instance
def Fk(S:List Ty)(t:Ty):Option Ty:=
 if t.sort=85 then(match t.fields with
  |f::_=>if f.kind.signs=[]/\f.kind.base=[64]then B0 S f.kind.name else none
  |[]=>none)else none
def Bu(S:List Ty):Nat->Ty->Bool
 |0,_=>false
 |n+1,t=>match Fk S t with
  |none=>true
  |some u=>Bu S n u
theorem Qcb{S:List Ty}{t u:Ty}(h:Fk S t=some u):u∈S:=by
 unfold Fk at h;split at h
 ·split at h
  ·split at h
   ·exact(Bq h).1
   cases h
  cases h
 cases h
theorem J4(S:List Ty):∀(n:Nat) (t:Ty),Bu S n t=true->∀m,n<=m->Bu S m t=true
 |0,t,h,_,_=>by simp[Bu]at h
 |n+1,t,h,m,hm=>by
  obtain⟨k,rfl⟩:∃k,m=k+1:=⟨m - 1,by omega⟩
  simp only[Bu]at h ⊢;cases hn:Fk S t with
  |none=>rfl
  |some u=>
   rw[hn]at h;exact J4 S n u h k aE
theorem Jt:∀(l S:List Ty),l.Nodup->(∀x∈l,x∈S)->l.length<=S.length
 |[],S,_,_=>af _
 |x::l,S,hn,hs=>by
  obtain⟨h1,h2⟩:=List.nodup_cons.1 hn;have hx:=hs x aI
  have ih:=Jt l (S.erase x) h2 (fun y hy=>by
   have hne:y≠x:=by rintro rfl;exact h1 hy
   exact(List.mem_erase_of_ne hne).2 (hs y f5))
  have hl:=List.length_erase_of_mem hx;have hp:0<S.length:=List.length_pos_iff.2 (by rintro rfl;cases hx);simp;omega
theorem T5(S:List Ty):∀(n:Nat) (t:Ty),t∈S->Bu S (n+1) t=true->Bu S n t=false ->
  ∃l:List Ty,l.length=n+1/\(∀u∈l,u∈S)/\l.Nodup/\∀u∈l,Bu S (n+1) u=true
 |0,t,ht,h1,_=>⟨[t],rfl,by simpa using ht,by simp,by simpa using h1⟩
 |n+1,t,ht,h1,h2=>by
  have hn:∃u,Fk S t=some u:=by
   cases hh:Fk S t with
   |none=>simp[Bu,hh]at h2
   |some u=>exact⟨u,rfl⟩
  obtain⟨u,hu⟩:=hn;have e1:Bu S (n+1) u=true:=by simp only[Bu,hu]at h1;simpa [Bu]using h1
  have e2:Bu S n u=false:=by simp only[Bu,hu]at h2;exact h2
  obtain⟨l,l1,l2,l3,l4⟩:=T5 S n u (Qcb hu) e1 e2;refine⟨t::l,by simp[l1],?_,List.nodup_cons.2 ⟨fun hm=>?_,l3⟩,?_⟩
  ·intro x hx;rcases ax.1 hx with rfl|hx
   ·exact ht
   exact l2 x hx
  ·rw[l4 t hm]at h2;cases h2
  intro x hx;rcases ax.1 hx with rfl|hx
  ·exact h1
  exact J4 S _ _ (l4 x hx) _ aE
theorem Sn(S:List Ty)(t:Ty)(ht:t∈S)(n:Nat):Bu S n t=true->Bu S S.length t=true:=by
 induction n with
 |zero=>intro h;simp[Bu]at h
 |succ n ih=>
  intro h;by_cases h2:Bu S n t=true
  ·exact ih h2
  have h2':Bu S n t=false:=dU;obtain⟨l,l1,l2,l3,_⟩:=T5 S n t ht h h2';have:=Jt l S l3 l2;exact J4 S _ _ h _ aE
theorem Xg(S:List Ty)(t:Ty)(ht:t∈S)(m n:Nat)(hm:S.length<=m)(hn:S.length<=n):Bu S m t=Bu S n t:=by
 cases h1:Bu S m t with
 |true=>exact(J4 S _ _ (Sn S t ht m h1) n hn).symm
 |false=>
  cases h2:Bu S n t with
  |false=>rfl
  |true=>rw[J4 S _ _ (Sn S t ht n h2) m hm]at h1;cases h1
def No(S:List Ty):Prop:=Ku S/\Gg S/\∀t∈S,Bu S 9 t=true
def Ci(s:List UInt8):Option (List Ty):=
 if 400<s.length then none
 else match Fl (s.length+1) s []with
  |none=>none
  |some S=>if Gg S/\(∀t∈S,Bu S 9 t=true)then some S else none
theorem Qa4:Ku []:=⟨by simp,by simp,List.Pairwise.nil⟩
theorem Ru{s:List UInt8}{S:List Ty}:Fl (s.length+1) s []=some S↔Ku S/\scB S=s:=by
 rw[Sg (s.length+1) s [] S aE Qa4];constructor
 ·rintro⟨h,U,e,h2⟩;simp at e;subst e;exact⟨h,h2⟩
 rintro⟨h,h2⟩;exact⟨h,S,by simp,h2⟩
theorem Qt{s:List UInt8}{S:List Ty}:Ci s=some S↔No S/\s.length<=400/\scB S=s:=by
 unfold Ci;constructor
 ·intro h;split at h
  ·cases h
  rename_i h4;cases hl:Fl (s.length+1) s []with
  |none=>rw[hl]at h;cases h
  |some T=>
   rw[hl]at h;simp only at h;split at h
   ·rename_i hc;injection h with h;subst h;obtain⟨h1,h2⟩:=Ru.1 hl;exact⟨⟨h1,hc.1,hc.2⟩,by omega,h2⟩
   cases h
 rintro⟨⟨h1,h2,h3⟩,h4,h5⟩;rw[if_neg aE,Ru.2 ⟨h1,h5⟩];simp only;rw[if_pos ⟨h2,h3⟩]
theorem Nv{s:List UInt8}{S:List Ty}:Ci s=some S↔s.length<=400/\M5 s=some S/\(S.Pairwise fun t u=>t.name≠u.name)/\Gg S/\∀t∈S,Bu S (S.length+1) t=true:=by
 rw[Qt,Zs];constructor
 ·rintro⟨⟨⟨h1,h2,h3⟩,h4,h5⟩,h6,h7⟩;exact⟨h6,⟨h1,h2,h7⟩,h3,h4,fun t ht=>by rw[Xg S t ht _ 9 aE aE];exact h5 t ht⟩
 rintro⟨h6,⟨h1,h2,h7⟩,h3,h4,h5⟩;exact⟨⟨⟨h1,h2,h3⟩,h4,fun t ht=>by rw[<-Xg S t ht (S.length+1) 9 aE aE];exact h5 t ht⟩,h6,h7⟩
def Tp(S:List Ty)(n:Nat)(k:Kd):Prop:=k.signs=[]->k.base=[64]->∃t,B0 S k.name=some t/\Bu S n t=true
def C4(S:List Ty):Nat->Kd->List UInt8
 |0,_=>[]
 |n+1,k=>
  if k.signs.head?=some 91 then[91,93]
  else if k.signs.head?=some 63 then[45]
  else if k.base=[110]then[48]
  else if k.base=[116]then[39,39]
  else if k.base=[102]then[110,111]
  else match B0 S k.name with
   |none=>[]
   |some t=>if t.sort=82 then[123,125]else
    match t.fields with
    |[]=>[]
    |f::_=>if t.sort=69 then 35::Az f.tag else 60::(Az f.tag++61::(C4 S n f.kind++[62]))
theorem Sc{S:List Ty}{n:Nat}{k:Kd}{t:Ty}{f:Fd}{fs:List Fd}(h:Tp S (n+1) k)(h1:k.signs=[])(h2:k.base=[64])(hf:B0 S k.name=some t)(hs:t.sort=85)(hfs:t.fields=f::fs)(hr:B9 S f.kind):Tp S n f.kind:=by
 intro g1 g2;obtain⟨u,hu,he⟩:=h h1 h2;rw[hf]at hu;injection hu with hu;subst hu;have hn:Fk S t=B0 S f.kind.name:=by
  unfold Fk;rw[if_pos hs,hfs];simp only;rw[if_pos ⟨g1,g2⟩]
 have hr':=hr g2;cases hx:B0 S f.kind.name with
 |none=>rw[hx]at hr';cases hr'
 |some v=>
  simp only[Bu,hn,hx]at he;exact⟨v,rfl,he⟩
def Ri(S:List Ty)(k:Kd):List UInt8:=C4 S 10 k
def Kn(S:List Ty)(f:Fd):List UInt8:=if f.given=[]then Ri S f.kind else f.given
end Go.Proofs.YtkigmebejmmikaaGreatDoor
