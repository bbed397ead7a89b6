/- Texts joined. Conditions: as each theorem names them. -/
import Derived.Test.YtkigmebejmmikaaGreatDoorProg
import Derived.WalkKit
import Derived.WalkSmall
import Derived.WalkSpells
import Derived.WalkLawsBesides
import Derived.Below
import Derived.Lib.Hide
import Derived.Lib.BufferRead
import Derived.Laws.BytesArg
import Derived.Deep.QuietTactic
import Derived.BigQuiet
import Derived.Handy
set_option maxRecDepth 100000
set_option maxHeartbeats 32000000
set_option linter.unusedVariables false
set_option linter.unusedSimpArgs false
namespace Go.Proofs.YtkigmebejmmikaaGreatDoor
open Go.RowKit Go.Proofs.Tryz
theorem Qja(l:List UInt8)(k:Nat)(h:k<(ByteArray.mk l.toArray).size):(ByteArray.mk l.toArray)[k]=l[k]'h:=rfl
theorem Qit(l:List UInt8):(ByteArray.mk l.toArray).toList=l:=by
 have:(ByteArray.mk l.toArray).toList=(ByteArray.mk l.toArray).data.toList:=ByteArray.toList_eq _
 rw[this]
theorem Qib(l:List UInt8)(a b:Nat):(ByteArray.mk l.toArray).extract a b=⟨((l.drop a).take (b - a)).toArray⟩:=by
 apply ByteArray.ext
 simp[ByteArray.data_extract]
theorem Qgw(l:List UInt8)(a:Nat):(l.drop a).take (l.length - a)=l.drop a:=List.take_of_length_le (by simp)
theorem Qhc{k:IntKind}{a b:Int}(h:a=b):Ending.returned (.int k a)=.returned (.int k b):=by rw[h]
theorem Bn{α:Type}(l:List α)(k:Nat)(h:k<l.length):l.take (k+1)=l.take k++[l[k]]:=by
 rw[List.take_succ_eq_append_getElem h]
def Ae(ls:List (List UInt8)):List Value:=ls.map fun l=>.string ⟨l.toArray⟩
theorem Je(l:List (List UInt8)):(Ae l).length=l.length:=by simp[Ae]
theorem Ni(l:List (List UInt8))(c:List UInt8):Ae (l++[c])=Ae l++[.string ⟨c.toArray⟩]:=by simp[Ae]
def Bh(w:World)(A:Option Addr)(n:Nat)(xs:List Value):Prop:=
 xs.length=n/\n<=maxLen/\(0<n->∃b off,A=some ⟨b,off,none⟩/\b<w.heap.size/\∀j u,xs[j]?=some u->w.cell? ⟨b,off+j,none⟩=some u)
theorem Bh.below{w w':World}{A:Option Addr}{n:Nat}{xs:List Value}(h:Bh w A n xs)(hb:Below w.heap.size w w'):Bh w' A n xs:=by
 refine⟨h.1,h.2.1,fun hn=>?_⟩
 obtain⟨b,off,e,hlt,hc⟩:=h.2.2 hn
 exact⟨b,off,e,Nat.lt_of_lt_of_le hlt hb.size,fun j u hu=>(hb.cell (p:=⟨b,off+j,none⟩) hlt).trans (hc j u hu)⟩
theorem Bh.drew{w:World}{A:Option Addr}{n:Nat}{xs:List Value}(h:Bh w A n xs):Bh w.drew A n xs:=h
theorem Bh.alloc{w:World}{A:Option Addr}{n:Nat}{xs:List Value}(h:Bh w A n xs)(o:Obj):Bh (w.alloc o) A n xs:=h.below ((Below.refl _ _).alloc (Nat.le_refl _) o)
theorem Bh.at_{w:World}{A:Option Addr}{n:Nat}{xs:List Value}(h:Bh w A n xs){k:Nat}(hk:k<n):
  ∃b off,A=some ⟨b,off,none⟩/\b<w.heap.size/\w.cell? ⟨b,off+k,none⟩=some (xs[k]'(by have:=h.1;omega)):=by
 obtain⟨b,off,e,hlt,hc⟩:=h.2.2 (by omega)
 exact⟨b,off,e,hlt,hc k _ (List.getElem?_eq_getElem _)⟩
theorem Bh.own{w:World}{base:Nat}{e:TypeId}{v:Value}{n:Nat}{xs:List Value}(h:w.ownsRow base e 1 v n xs):∃A c,v=.slice A n c/\Bh w A n xs:=by
 have h1:=h.1
 rcases h.2 with⟨rfl,rfl⟩|⟨g,cap,cur,rfl,hb,hh,hnc,hcm,hcs,htk⟩
 ·exact⟨none,0,rfl,by omega,Nat.zero_le _,fun h=>absurd h (by omega)⟩
 refine⟨some ⟨g,0,none⟩,cap,rfl,by omega,by omega,fun hn=>⟨g,0,rfl,(h.lt g rfl).2,fun j u hu=>?_⟩⟩
 have:=h.cells (g:=g) rfl j u hu
 have e1:(⟨g,0,none⟩:Addr).add j=⟨g,0+j,none⟩:=by unfold Addr.add;split<;>simp_all
 rwa [e1]at this
theorem Bf{w w1:World}{base:Nat}{e:TypeId}{size:Nat}{v:Value}{n:Nat}{xs:List Value}(h:w.ownsRow base e size v n xs)(hb:Below w.heap.size w w1):w1.ownsRow base e size v n xs:=
 h.kept (row:=none) ⟨hb.os,hb.tape,hb.output,hb.size,fun k hk _=>hb.block k hk⟩ (by
  cases v with
  |slice A a b=>cases A with
   |none=>exact .inl rfl
   |some x=>exact .inr (by simp[Value.ownBlock])
  |_=>exact .inl rfl)
section
variable {P:Program}
theorem Gt(w:World){ops:Array Oper}{rest:List Oper}{o:Oper}{a:Act}{Q:Exit->Act->World->Prop}(hgd:o.guard=none)(s x:Operand)(t:TypeId)
  (ho:o.op=.call {callee:=.builtin .append,args:=#[s,x],argTypes:=#[t,t]})
  (base:Nat) (e:TypeId) (z:Value) (bytes:Nat) (ht:P.underlying t=some (.slice e)) (hinfo:(P.info? e).map (fun i=>(i.zero,i.size,i.bytes))=some (some z,1,bytes))
  (hzs:z.cells.size=1) (W:World) (u:Value) (hw:w=W.alloc (.cells #[u] e)) (hu:u.oneCell'=true) (v:Value) (n:Nat) (xs:List Value) (hs:a.eval s=v) (hx:a.eval x=.slice (some ⟨W.heap.size,0,none⟩) 1 1)
  (hown:W.ownsRow base e 1 v n xs)
  (h63:n+1<=maxLen) (hbytes:(n+1)*bytes<=140737488355328) (hbase:base<=W.heap.size)
  (h:∀v' w',w'.ownsRow base e 1 v' (n+1) (xs++[u])->Below base W w'->wpList P ops Q rest (a.put o.dst v') w'):wpList P ops Q (o::rest) a w:=by
 subst hw
 obtain⟨i0,hi,hz0,hz1,hz2⟩:=info_parts hinfo
 refine wpList_append_own _ hgd s x t ho base e i0 z 1 bytes ht hi hz0 hz1 hz2 hzs (by decide) v n xs hs (hown.alloc _) ⟨W.heap.size,0,none⟩ 1 1 [u] hx rfl ?_ ?_ h63 hbytes ?_ ?_
 ·intro j y hj
  match j,hj with
  |0,hj=>simp at hj;subst hj;simp[Addr.add,World.cell?_alloc_new]
 ·intro y hy;simp at hy;subst hy;exact hu
 ·have:(W.alloc (.cells #[u] e)).heap.size=W.heap.size+1:=by simp
  omega
 intro v' w' h1 h2 _
 exact h v' w' h1 (((Below.refl base W).alloc hbase _).grown h2 (by simp;omega) (fun k hk=>(hown.lt k hk).1))
theorem Qe7(W:World)(src e dst:TypeId)(hs:P.underlying src=some (.slice e))(he:P.underlying e=some (.int .u8))(hd:P.underlying dst=some .string)
  (g c:Nat) (b:UInt8) (hc:W.cell? ⟨g,0,none⟩=some (.int .u8 (b.toNat:Int))):(convert src dst (.slice (some ⟨g,0,none⟩) 1 c)).run P W=.ok (.string ⟨[b].toArray⟩) W:=by
 have h:=run_convert_bytes_arg (P:=P) W src e hs he g 0 1 c [(b.toNat:Int)] rfl (fun i hi=>by
  obtain rfl:i=0:=by omega
  simpa using hc) dst hd
 rw[h];simp[strOfNums]
end
theorem Qgf(W:World)(g c:Nat)(b:UInt8)(hc:W.cell? ⟨g,0,none⟩=some (.int .u8 (b.toNat:Int))):
  (convert 25 9 (.slice (some ⟨g,0,none⟩) 1 c)).run prog W=.ok (.string ⟨[b].toArray⟩) W:=
 Qe7 W 25 5 9 underlying25 underlying5 underlying9 g c b hc
theorem Bw{W w1:World}(hb:Below W.heap.size W w1):(∀b o,b<W.heap.size->w1.cell? ⟨b,o,none⟩=W.cell? ⟨b,o,none⟩)/\(∀b o,b<W.heap.size->w1.frozen? ⟨b,o,none⟩=W.frozen? ⟨b,o,none⟩)/\(∀b,b<W.heap.size->b<w1.heap.size):=
 ⟨fun b o h=>hb.cell (p:=⟨b,o,none⟩) h,fun b o h=>hb.frozen (p:=⟨b,o,none⟩) h,fun _ h=>Nat.lt_of_lt_of_le h hb.size⟩
theorem Dl:(prog.info? 9).map (fun i=>(i.zero,i.size,i.bytes))=some (some (.string ⟨#[]⟩),1,16):=by kernel_rfl
theorem Ab:True:=True.intro
theorem Aa{p:Prop}(h:p):Hid p:=h
theorem Ap(n:Nat):n<=n:=Nat.le_refl n
theorem _root_.Go.RowKit.Hid.o{p:Prop}(h:Hid p):p:=h
theorem As(n:Nat)(w:World):Below n w w:=Below.refl n w
theorem D4{a a':Value}(h:a=a'):Ending.returned a=.returned a':=by rw[h]
theorem Qhn{a b a' b':Value}(h1:a=a')(h2:b=b'):Ending.returned (.tuple #[a,b])=.returned (.tuple #[a',b']):=by rw[h1,h2]
theorem Qjf{a b c a' b' c':Value}(h1:a=a')(h2:b=b')(h3:c=c'):Ending.returned (.tuple #[a,b,c])=.returned (.tuple #[a',b',c']):=by rw[h1,h2,h3]
theorem Qiy{k:IntKind}{x y:Int}(h:x=y):Value.int k x=.int k y:=by rw[h]
theorem Qgj{x y:List UInt8}(h:x=y):Value.string ⟨x.toArray⟩=.string ⟨y.toArray⟩:=by rw[h]
theorem Ci{x y:Bool}(h:x=y):Value.bool x=.bool y:=by rw[h]
def Gj(n:Nat):UInt8:=UInt8.ofNat n
theorem Fo{n:Nat}(h:n<256):(Gj n).toNat=n:=by unfold Gj;exact UInt8.toNat_ofNat_of_lt' h
def G7(c:UInt8):Bool:=decide (97<=c.toNat) && decide (c.toNat<=122)
def Ba(c:UInt8):Bool:=decide (48<=c.toNat) && decide (c.toNat<=57)
def Au(s:List UInt8):Bool:=decide (1<=s.length) && decide (s.length<=3) && s.all G7
theorem Da{c:UInt8}:Ba c=true↔48<=c.toNat/\c.toNat<=57:=by simp[Ba]
theorem Ml{c:UInt8}:G7 c=true↔97<=c.toNat/\c.toNat<=122:=by simp[G7]
theorem C9{s:List UInt8}:Au s=true↔1<=s.length/\s.length<=3/\∀c∈s,G7 c=true:=by
 simp[Au,and_assoc]
def Aw(n:Nat):List UInt8:=if h:n<10 then[Gj (48+n)]else Aw (n / 10)++[Gj (48+n % 10)]
termination_by n
decreasing_by omega
theorem D1{n:Nat}(h:n<10):Aw n=[Gj (48+n)]:=by rw[Aw,dif_pos h]
theorem Mf{n:Nat}(h:¬n<10):Aw n=Aw (n / 10)++[Gj (48+n % 10)]:=by rw[Aw,dif_neg h]
def Fk(s:List UInt8):Nat:=s.foldl (fun n c=>10*n+(c.toNat - 48)) 0
theorem Ju(s:List UInt8)(c:UInt8):Fk (s++[c])=10*Fk s+(c.toNat - 48):=by simp[Fk,List.foldl_append]
theorem Qfj:Fk []=0:=rfl
def Cf(s:List UInt8):Option Nat:=
 if 1<=s.length/\s.length<=6/\s.all Ba=true/\(s.head?≠some 48\/s.length=1)then some (Fk s)else none
theorem Eh{α:Type}(s:List α):s=[]\/∃t c,s=t++[c]:=by
 rcases s.eq_nil_or_concat with h|⟨t,c,h⟩
 ·exact .inl h
 exact .inr ⟨t,c,by simpa using h⟩
theorem So:∀(k:Nat) (s:List UInt8),s.length=k->s.all Ba=true->Fk s<10 ^ k
 |0,s,h,_=>by
  obtain rfl:=List.eq_nil_of_length_eq_zero h
  simp[Fk]
 |k+1,s,h,ha=>by
  rcases Eh s with rfl|⟨t,c,rfl⟩
  ·simp at h
  simp at h
  simp only[List.all_append,Bool.and_eq_true,List.all_cons,List.all_nil,Bool.and_true]at ha
  have ih:=So k t h ha.1
  have hc:=Da.1 ha.2
  rw[Ju,Nat.pow_succ]
  omega
theorem Zd:∀(k:Nat) (s:List UInt8),s.length=k->s≠[]->s.all Ba=true->s.head?≠some 48->0<Fk s
 |0,s,h,hn,_,_=>absurd (List.eq_nil_of_length_eq_zero h) hn
 |k+1,s,h,hn,ha,hh=>by
  rcases Eh s with rfl|⟨t,c,rfl⟩
  ·exact absurd rfl hn
  simp at h
  simp only[List.all_append,Bool.and_eq_true,List.all_cons,List.all_nil,Bool.and_true]at ha
  have hc:=Da.1 ha.2
  rw[Ju]
  by_cases ht:t=[]
  ·subst ht
   simp at hh
   have:c.toNat≠48:=fun e=>hh (UInt8.toNat_inj.1 e)
   omega
  have hh':t.head?≠some 48:=by
   cases t with
   |nil=>exact absurd rfl ht
   |cons a t=>simpa using hh
  have:=Zd k t h ht ha.1 hh'
  omega
theorem Vo:∀(k:Nat) (s:List UInt8),s.length=k->s≠[]->s.all Ba=true->(s.head?≠some 48\/s.length=1)->Aw (Fk s)=s
 |0,s,h,hn,_,_=>absurd (List.eq_nil_of_length_eq_zero h) hn
 |k+1,s,h,hn,ha,hh=>by
  rcases Eh s with rfl|⟨t,c,rfl⟩
  ·exact absurd rfl hn
  simp at h
  simp only[List.all_append,Bool.and_eq_true,List.all_cons,List.all_nil,Bool.and_true]at ha
  have hc:=Da.1 ha.2
  have hc2:Gj (48+(c.toNat - 48))=c:=by
   apply UInt8.toNat_inj.1
   rw[Fo (by omega)];omega
  rw[Ju]
  by_cases ht:t=[]
  ·subst ht
   rw[Qfj,D1 (by omega)]
   simp[hc2]
  have hl:0<t.length:=List.length_pos_iff.2 ht
  have hh1:t.head?≠some 48:=by
   cases t with
   |nil=>exact absurd rfl ht
   |cons a t=>rcases hh with hh|hh<;>simp at hh ⊢<;>first|exact hh|omega
  have hp:=Zd t.length t rfl ht ha.1 hh1
  have ih:=Vo k t h ht ha.1 (.inl hh1)
  rw[Mf (by omega)]
  have e1:(10*Fk t+(c.toNat - 48)) / 10=Fk t:=by omega
  have e2:(10*Fk t+(c.toNat - 48)) % 10=c.toNat - 48:=by omega
  rw[e1,e2,ih,hc2]
theorem Ke:∀(k n:Nat),n<=k->Aw n≠[]/\(Aw n).all Ba=true/\Fk (Aw n)=n/\((Aw n).head?≠some 48\/n=0)/\(n<10->(Aw n).length=1)/\(10<=n->2<=(Aw n).length)
 |0,n,h=>by
  obtain rfl:n=0:=by omega
  rw[D1 (by omega)]
  refine⟨by simp,by decide,by decide,.inr rfl,fun _=>rfl,fun h=>by omega⟩
 |k+1,n,h=>by
  by_cases hn:n<10
  ·rw[D1 hn]
   have e:(Gj (48+n)).toNat=48+n:=Fo (by omega)
   refine⟨by simp,by simp[Da,e];omega,?_,?_,fun _=>rfl,fun h=>by omega⟩
   ·show 10*0+((Gj (48+n)).toNat - 48)=n
    omega
   by_cases h0:n=0
   ·exact .inr h0
   refine .inl ?_
   intro hh
   simp at hh
   have:=congrArg UInt8.toNat hh
   rw[e]at this
   have h48:(48:UInt8).toNat=48:=rfl
   omega
  obtain⟨i1,i2,i3,i4,_,_⟩:=Ke k (n / 10) (by omega)
  have e:(Gj (48+n % 10)).toNat=48+n % 10:=Fo (by omega)
  have hl:0<(Aw (n / 10)).length:=List.length_pos_iff.2 i1
  rw[Mf hn]
  refine⟨by simp,?_,?_,?_,fun h=>absurd h hn,fun _=>by simp;omega⟩
  ·simp only[List.all_append,Bool.and_eq_true,List.all_cons,List.all_nil,Bool.and_true]
   exact⟨i2,Da.2 (by omega)⟩
  ·rw[Ju,i3,e];omega
  refine .inl ?_
  have e1:(Aw (n / 10)++[Gj (48+n % 10)]).head?=(Aw (n / 10)).head?:=by
   cases hd:Aw (n / 10)with
   |nil=>exact absurd hd i1
   |cons a t=>rfl
  rw[e1]
  rcases i4 with h|h
  ·exact h
  omega
theorem P8(n:Nat):Aw n≠[]:=(Ke n n (Nat.le_refl _)).1
theorem Nt(n:Nat):(Aw n).all Ba=true:=(Ke n n (Nat.le_refl _)).2.1
theorem Ny(n:Nat):Fk (Aw n)=n:=(Ke n n (Nat.le_refl _)).2.2.1
theorem Qef(n:Nat):(Aw n).head?≠some 48\/(Aw n).length=1:=by
 obtain⟨_,_,_,h4,h5,_⟩:=Ke n n (Nat.le_refl _)
 rcases h4 with h|h
 ·exact .inl h
 exact .inr (h5 (by omega))
theorem Qga{m n:Nat}(h:Aw m=Aw n):m=n:=by rw[<-Ny m,h,Ny]
theorem Ds:∀(k n:Nat),n<10 ^ (k+1)->(Aw n).length<=k+1
 |0,n,h=>by rw[D1 (by simpa using h)];simp
 |k+1,n,h=>by
  by_cases hn:n<10
  ·rw[D1 hn];simp
  rw[Mf hn]
  have:=Ds k (n / 10) (by rw[Nat.pow_succ]at h;omega)
  simp;omega
theorem Bx{s:List UInt8}{n:Nat}:Cf s=some n↔n<=999999/\s=Aw n:=by
 unfold Cf
 constructor
 ·intro h
  split at h
  ·rename_i hc
   obtain⟨h1,h2,h3,h4⟩:=hc
   injection h with h
   have hn:s≠[]:=List.length_pos_iff.1 (by omega)
   have hv:=So s.length s rfl h3
   have hle:10 ^ s.length<=10 ^ 6:=Nat.pow_le_pow_right (by omega) h2
   have e6:10 ^ 6=1000000:=rfl
   refine⟨by omega,?_⟩
   rw[<-h]
   exact(Vo s.length s rfl hn h3 h4).symm
  cases h
 rintro⟨h1,rfl⟩
 have hl:=Ds 5 n (by have e6:10 ^ (5+1)=1000000:=rfl;omega)
 have hp:0<(Aw n).length:=List.length_pos_iff.2 (P8 n)
 rw[if_pos ⟨by omega,by omega,Nt n,Qef n⟩,Ny]
structure Kd where
 signs:List UInt8
 base:List UInt8
 name:List UInt8
deriving DecidableEq
def Bo(c:UInt8):Bool:=c == 91 || c == 63
def Ce(k:Kd):List UInt8:=if k.base=[64]then 64::(k.name++[59])else k.base
def Bq(k:Kd):List UInt8:=k.signs++Ce k
def Kd.nil:Kd:=⟨[],[],[]⟩
def Kd.part(k:Kd):Kd:={k with signs:=k.signs.tail}
def Yz(k:Kd):Prop:=(k.base=[64]/\Au k.name=true)\/((k.base=[110]\/k.base=[116]\/k.base=[102])/\k.name=[])
def Co(k:Kd):Prop:=k.signs.all Bo=true/\Yz k/\(Bq k).length<=12
theorem Vq{k:Kd}(h:Yz k):∃c t,Ce k=c::t/\Bo c=false:=by
 unfold Ce
 rcases h with⟨h,_⟩|⟨h|h|h,_⟩
 ·rw[if_pos h];exact⟨64,_,rfl,by decide⟩
 ·rw[h,if_neg (by decide)];exact⟨110,[],rfl,by decide⟩
 ·rw[h,if_neg (by decide)];exact⟨116,[],rfl,by decide⟩
 rw[h,if_neg (by decide)];exact⟨102,[],rfl,by decide⟩
theorem Ey{p:UInt8->Bool}:∀{a b:List UInt8},a.all p=true->(∃c t,b=c::t/\p c=false)->(a++b).takeWhile p=a/\(a++b).dropWhile p=b
 |[],b,_,⟨c,t,e,h⟩=>by subst e;simp[h]
 |x::a,b,ha,hb=>by
  simp only[List.all_cons,Bool.and_eq_true]at ha
  have ih:=Ey ha.2 hb
  simp[ha.1,ih.1,ih.2]
theorem Jd{p:UInt8->Bool}:∀(a:List UInt8),(a.takeWhile p).all p=true
 |[]=>rfl
 |x::a=>by
  by_cases h:p x=true
  ·simp[h]
  simp[h]
def Cg(s:List UInt8):Option Kd:=
 if 12<s.length then none
 else if s.dropWhile Bo=[110]\/s.dropWhile Bo=[116]\/s.dropWhile Bo=[102]then some ⟨s.takeWhile Bo,s.dropWhile Bo,[]⟩
 else if (s.dropWhile Bo).head?=some 64/\(s.dropWhile Bo).getLast?=some 59/\Au ((s.dropWhile Bo).drop 1).dropLast=true then some ⟨s.takeWhile Bo,[64],((s.dropWhile Bo).drop 1).dropLast⟩
 else none
theorem Qcp{r:List UInt8}(h1:r.head?=some 64)(h2:r.getLast?=some 59):r=64::((r.drop 1).dropLast++[59]):=by
 cases r with
 |nil=>simp at h1
 |cons a t=>
  simp at h1
  subst h1
  rcases Eh t with rfl|⟨u,c,rfl⟩
  ·simp at h2
  have:c=59:=by
   rw[show (64:UInt8)::(u++[c])=(64::u)++[c]from rfl,List.getLast?_append]at h2
   simpa using h2
  subst this
  simp
theorem Ee{s:List UInt8}{k:Kd}:Cg s=some k↔Co k/\Bq k=s:=by
 have htd:s.takeWhile Bo++s.dropWhile Bo=s:=List.takeWhile_append_dropWhile
 constructor
 ·intro h
  unfold Cg at h
  split at h
  ·cases h
  rename_i h12
  split at h
  ·rename_i hb
   injection h with h
   subst h
   have hcore:Ce ⟨s.takeWhile Bo,s.dropWhile Bo,[]⟩=s.dropWhile Bo:=by
    unfold Ce
    rw[if_neg]
    rcases hb with h|h|h<;>· show ¬s.dropWhile Bo=_;rw[h];decide
   have e:Bq ⟨s.takeWhile Bo,s.dropWhile Bo,[]⟩=s:=by unfold Bq;rw[hcore];exact htd
   exact⟨⟨Jd s,.inr ⟨hb,rfl⟩,by rw[e];omega⟩,e⟩
  split at h
  ·rename_i hb
   injection h with h
   subst h
   have e1:=Qcp hb.1 hb.2.1
   have e:Bq ⟨s.takeWhile Bo,[64],((s.dropWhile Bo).drop 1).dropLast⟩=s:=by
    unfold Bq Ce
    rw[if_pos rfl]
    show s.takeWhile Bo++64::(((s.dropWhile Bo).drop 1).dropLast++[59])=s
    rw[<-e1];exact htd
   exact⟨⟨Jd s,.inl ⟨rfl,hb.2.2⟩,by rw[e];omega⟩,e⟩
  cases h
 rintro⟨⟨h1,h2,h3⟩,rfl⟩
 obtain⟨e1,e2⟩:=Ey h1 (Vq h2)
 unfold Cg
 rw[if_neg (by omega)]
 show (if (k.signs++Ce k).dropWhile Bo=[110]\/_ then _ else _)=_
 unfold Bq
 rw[e1,e2]
 obtain⟨sg,b,nm⟩:=k
 rcases h2 with⟨h,hn⟩|⟨h,hn⟩
 ·simp only at h hn
  subst h
  unfold Ce
  simp only[if_pos]
  rw[if_neg (by simp),if_pos]
  ·simp
  refine⟨rfl,?_,by simpa using hn⟩
  rw[show (64:UInt8)::(nm++[59])=(64::nm)++[59]from rfl,List.getLast?_append];rfl
 simp only at h hn
 subst hn
 have hc:Ce ⟨sg,b,[]⟩=b:=by
  unfold Ce
  rw[if_neg]
  rcases h with h|h|h<;>· show ¬b=_;rw[h];decide
 rw[hc,if_pos h]
theorem Ks{k:Kd}(h:Co k):Co k.part/\(k.signs≠[]->Bq k.part=(Bq k).tail/\(Bq k.part).length+1=(Bq k).length):=by
 obtain⟨h1,h2,h3⟩:=h
 obtain⟨sg,b,nm⟩:=k
 have hc:∀g,Ce ⟨g,b,nm⟩=Ce ⟨sg,b,nm⟩:=fun g=>rfl
 cases sg with
 |nil=>exact⟨⟨h1,h2,h3⟩,fun h=>absurd rfl h⟩
 |cons c t=>
  simp only[List.all_cons,Bool.and_eq_true]at h1
  have e:Bq (Kd.part ⟨c::t,b,nm⟩)=(Bq ⟨c::t,b,nm⟩).tail:=rfl
  have el:(Bq (Kd.part ⟨c::t,b,nm⟩)).length+1=(Bq ⟨c::t,b,nm⟩).length:=rfl
  exact⟨⟨h1.2,h2,by omega⟩,fun _=>⟨e,el⟩⟩
def Af(c:UInt8):List UInt8->List (List UInt8)
 |[]=>[[]]
 |x::s=>if x=c then[]::Af c s else match Af c s with
  |p::ps=>(x::p)::ps
  |[]=>[[x]]
def Ak(c:UInt8):List (List UInt8)->List UInt8
 |[]=>[]
 |[p]=>p
 |p::ps=>p++c::Ak c ps
theorem Dy(c:UInt8)(s:List UInt8):Af c s≠[]:=by
 cases s with
 |nil=>simp[Af]
 |cons x s=>
  simp only[Af]
  split
  ·simp
  split<;>simp
theorem Ch(c:UInt8)(p:List UInt8){ps:List (List UInt8)}(h:ps≠[]):Ak c (p::ps)=p++c::Ak c ps:=by
 cases ps with
 |nil=>exact absurd rfl h
 |cons q ps=>rfl
theorem M9(c:UInt8):∀s:List UInt8,Ak c (Af c s)=s
 |[]=>rfl
 |x::s=>by
  have ih:=M9 c s
  have hn:=Dy c s
  simp only[Af]
  split
  ·rename_i h
   rw[Ch c _ hn,ih,h];rfl
  cases hs:Af c s with
  |nil=>exact absurd hs hn
  |cons p ps=>
   rw[hs]at ih
   cases ps with
   |nil=>simpa [Ak]using ih
   |cons q ps=>
    rw[Ch c _ (by simp)]at ih ⊢
    simp[ih]
theorem Vv(c:UInt8):∀s:List UInt8,∀p∈Af c s,c∉p
 |[],p,hp=>by simp[Af]at hp;simp[hp]
 |x::s,p,hp=>by
  have ih:=Vv c s
  simp only[Af]at hp
  split at hp
  ·rcases List.mem_cons.1 hp with rfl|hp
   ·simp
   exact ih p hp
  rename_i hx
  cases hs:Af c s with
  |nil=>exact absurd hs (Dy c s)
  |cons q qs=>
   rw[hs]at hp ih
   rcases List.mem_cons.1 hp with rfl|hp
   ·have:=ih q (by simp)
    simp;exact⟨fun h=>hx h.symm,this⟩
   exact ih p (by simp[hp])
theorem Ft(c:UInt8):∀p:List UInt8,c∉p->Af c p=[p]
 |[],_=>rfl
 |x::p,h=>by
  simp at h
  simp only[Af]
  rw[if_neg (fun e=>h.1 e.symm),Ft c p h.2]
theorem J9(c:UInt8):∀(p s:List UInt8),c∉p->Af c (p++c::s)=p::Af c s
 |[],s,_=>by simp[Af]
 |x::p,s,h=>by
  simp at h
  simp only[List.cons_append,Af]
  rw[if_neg (fun e=>h.1 e.symm),J9 c p s h.2]
theorem Kp(c:UInt8):∀ps:List (List UInt8),ps≠[]->(∀p∈ps,c∉p)->Af c (Ak c ps)=ps
 |[],h,_=>absurd rfl h
 |[p],_,h=>Ft c p (h p (by simp))
 |p::q::ps,_,h=>by
  rw[Ch c p (by simp),J9 c p _ (h p (by simp)),Kp c (q::ps) (by simp) (fun x hx=>h x (by simp[hx]))]
theorem Dm{c:UInt8}{s:List UInt8}{ps:List (List UInt8)}:Af c s=ps↔ps≠[]/\(∀p∈ps,c∉p)/\Ak c ps=s:=
 ⟨fun h=>by subst h;exact⟨Dy c s,Vv c s,M9 c s⟩,fun⟨h1,h2,h3⟩=>by rw[<-h3];exact Kp c ps h1 h2⟩
theorem Gm(c:UInt8):∀s:List UInt8,(Af c s).length<=s.length+1
 |[]=>by simp[Af]
 |x::s=>by
  have ih:=Gm c s
  simp only[Af]
  split
  ·simp;exact ih
  cases hs:Af c s with
  |nil=>exact absurd hs (Dy c s)
  |cons p ps=>rw[hs]at ih;simp at ih ⊢;omega
theorem Aj(c:UInt8):∀s:List UInt8,∀p∈Af c s,p.length<=s.length
 |[],p,h=>by simp[Af]at h;simp[h]
 |x::s,p,h=>by
  have ih:=Aj c s
  simp only[Af]at h
  split at h
  ·rcases List.mem_cons.1 h with rfl|h
   ·simp
   exact Nat.le_succ_of_le (ih p h)
  cases hs:Af c s with
  |nil=>exact absurd hs (Dy c s)
  |cons q qs=>
   rw[hs]at ih h
   rcases List.mem_cons.1 h with rfl|h
   ·have:=ih q (by simp);simp;exact this
   have:=ih p (by simp[h]);simp;omega
def Cs(c:UInt8)(s:List UInt8):List UInt8 × List UInt8 × Bool:=
 if c∈s then(s.takeWhile (· != c),(s.dropWhile (· != c)).tail,true)else(s,[],false)
theorem N6{c:UInt8}{s:List UInt8}(h:c∉s):Cs c s=(s,[],false):=if_neg h
theorem D2{c:UInt8}{p s:List UInt8}(h:c∉p):Cs c (p++c::s)=(p,s,true):=by
 unfold Cs
 rw[if_pos (by simp)]
 have h1:p.all (fun x=>x != c)=true:=by
  rw[List.all_eq_true];intro x hx
  simp;rintro rfl;exact h hx
 obtain⟨e1,e2⟩:=Ey (p:=fun x=>x != c) h1 ⟨c,s,rfl,by simp⟩
 rw[e1,e2];rfl
theorem Qar{c:UInt8}:∀{s:List UInt8},c∈s->∃p t,s=p++c::t/\c∉p
 |x::s,h=>by
  by_cases hx:x=c
  ·exact⟨[],s,by simp[hx],by simp⟩
  obtain⟨p,t,e,hp⟩:=Qar (s:=s) (by rcases List.mem_cons.1 h with h|h;exact absurd h.symm hx;exact h)
  exact⟨x::p,t,by simp[e],by simp;exact⟨fun e=>hx e.symm,hp⟩⟩
theorem Eo(c:UInt8)(s:List UInt8):(c∉s/\Cs c s=(s,[],false))\/∃p t,s=p++c::t/\c∉p/\Cs c s=(p,t,true):=by
 by_cases h:c∈s
 ·obtain⟨p,t,e,hp⟩:=Qar h
  exact .inr ⟨p,t,e,hp,by rw[e];exact D2 hp⟩
 exact .inl ⟨h,N6 h⟩
def B0(c:UInt8):Bool:=G7 c || Ba c || c == 32
def Dh(s:List UInt8):Bool:=decide (s.length<=12) && s.all B0
def Bv(b s:List UInt8):Bool:=
 if b=[110]then(match Cf s with|some n=>decide (0<n)|none=>false)
 else if b=[116]then decide (2<s.length) && decide (s.head?=some 39) && decide (s.getLast?=some 39) && Dh (s.drop 1).dropLast
 else if b=[102]then decide (s=[121,101,115])else false
theorem Qbk{r:List UInt8}(h:2<r.length)(h1:r.head?=some 39)(h2:r.getLast?=some 39):r=39::((r.drop 1).dropLast++[39]):=by
 cases r with
 |nil=>simp at h1
 |cons a t=>
  simp at h1
  subst h1
  rcases Eh t with rfl|⟨u,c,rfl⟩
  ·simp at h
  have:c=39:=by
   rw[show (39:UInt8)::(u++[c])=(39::u)++[c]from rfl,List.getLast?_append]at h2
   simpa using h2
  subst this
  simp
def Gd(c:UInt8):Prop:=c≠10/\c≠44/\c≠58/\c≠61
theorem V8{c:UInt8}(h:Ba c=true):Gd c:=by
 rw[Da]at h
 refine⟨?_,?_,?_,?_⟩<;>(rintro rfl;revert h;decide)
theorem Xn{c:UInt8}(h:G7 c=true):Gd c:=by
 rw[Ml]at h
 refine⟨?_,?_,?_,?_⟩<;>(rintro rfl;revert h;decide)
theorem Qd9{c:UInt8}(h:B0 c=true):Gd c:=by
 unfold B0 at h
 simp only[Bool.or_eq_true]at h
 rcases h with(h|h)|h
 ·exact Xn h
 ·exact V8 h
 have:c=32:=by simpa using h
 subst this;exact⟨by decide,by decide,by decide,by decide⟩
theorem Qa2{c:UInt8}(h:Bo c=true):Gd c:=by
 unfold Bo at h
 simp only[Bool.or_eq_true,beq_iff_eq]at h
 rcases h with rfl|rfl<;>exact⟨by decide,by decide,by decide,by decide⟩
theorem Eg(n:Nat):∀c∈Aw n,Gd c:=fun c hc=>V8 (List.all_eq_true.1 (Nt n) c hc)
theorem Dq{s:List UInt8}(h:Au s=true):∀c∈s,Gd c:=fun c hc=>Xn ((C9.1 h).2.2 c hc)
theorem G8{k:Kd}(h:Co k):∀c∈Bq k,Gd c:=by
 intro c hc
 obtain⟨h1,h2,_⟩:=h
 unfold Bq Ce at hc
 rcases List.mem_append.1 hc with hc|hc
 ·exact Qa2 (List.all_eq_true.1 h1 c hc)
 rcases h2 with⟨h,hn⟩|⟨h,_⟩
 ·rw[if_pos h]at hc
  rcases List.mem_cons.1 hc with rfl|hc
  ·exact⟨by decide,by decide,by decide,by decide⟩
  rcases List.mem_append.1 hc with hc|hc
  ·exact Dq hn c hc
  simp at hc;subst hc;exact⟨by decide,by decide,by decide,by decide⟩
 rw[if_neg (by rcases h with h|h|h<;>· rw[h];decide)]at hc
 rcases h with h|h|h<;>· rw[h]at hc;simp at hc;subst hc;exact⟨by decide,by decide,by decide,by decide⟩
theorem Kt{b s:List UInt8}(h:Bv b s=true):s≠[]/\∀c∈s,Gd c:=by
 unfold Bv at h
 split at h
 ·cases hd:Cf s with
  |none=>rw[hd]at h;cases h
  |some n=>
   obtain⟨_,e⟩:=Bx.1 hd
   subst e
   exact⟨P8 n,Eg n⟩
 split at h
 ·simp only[Bool.and_eq_true,decide_eq_true_eq]at h
  obtain⟨⟨⟨h1,h2⟩,h3⟩,h4⟩:=h
  have e:=Qbk h1 h2 h3
  refine⟨by intro hh;rw[hh]at h1;simp at h1,fun c hc=>?_⟩
  rw[e]at hc
  have q:Gd 39:=⟨by decide,by decide,by decide,by decide⟩
  rcases List.mem_cons.1 hc with rfl|hc
  ·exact q
  rcases List.mem_append.1 hc with hc|hc
  ·unfold Dh at h4
   simp only[Bool.and_eq_true]at h4
   exact Qd9 (List.all_eq_true.1 h4.2 c hc)
  simp at hc;subst hc;exact q
 split at h
 ·simp only[decide_eq_true_eq]at h
  subst h
  refine⟨by simp,fun c hc=>?_⟩
  simp at hc
  rcases hc with rfl|rfl|rfl<;>exact⟨by decide,by decide,by decide,by decide⟩
 cases h
theorem Mw{b s:List UInt8}(h:Bv b s=true):b=[110]\/b=[116]\/b=[102]:=by
 unfold Bv at h
 split at h
 ·exact .inl (by assumption)
 split at h
 ·exact .inr (.inl (by assumption))
 split at h
 ·exact .inr (.inr (by assumption))
 cases h
structure Fd where
 tag:Nat
 name:List UInt8
 kind:Kd
 given:List UInt8
deriving DecidableEq
def Ka(st:UInt8)(f:Fd):List UInt8:=if st=69 then[]else 58::(Bq f.kind++if f.given=[]then[]else 61::f.given)
def Nf(st:UInt8)(f:Fd):List UInt8:=Aw f.tag++58::(f.name++Ka st f)
def Se(st:UInt8)(f:Fd):Prop:=
 1<=f.tag/\f.tag<=200/\Au f.name=true/\(st=69->f.kind=Kd.nil/\f.given=[]) /\
 (st≠69->Co f.kind/\(f.given≠[]->st=82/\f.kind.signs=[]/\Bv f.kind.base f.given=true))
theorem Dv{s:List UInt8}(h:∀c∈s,Gd c):10∉s/\44∉s/\58∉s/\61∉s:=
 ⟨fun hc=>(h _ hc).1 rfl,fun hc=>(h _ hc).2.1 rfl,fun hc=>(h _ hc).2.2.1 rfl,fun hc=>(h _ hc).2.2.2 rfl⟩
def Js(p:List (List UInt8)):Option (Nat × List UInt8):=
 match p with
 |[a,b]=>(match Cf a with|some n=>if 1<=n/\n<=200/\Au b=true then some (n,b)else none|none=>none)
 |_=>none
def Kg(p:List (List UInt8)):Option (Nat × List UInt8 × List UInt8):=
 match p with
 |[a,b,c]=>(match Cf a with|some n=>if 1<=n/\n<=200/\Au b=true then some (n,b,c)else none|none=>none)
 |_=>none
def Gk(st:UInt8)(s:List UInt8):Option Fd:=
 if st=69 then
  match Js (Af 58 (Cs 61 s).1)with
  |some (n,b)=>if (Cs 61 s).2.2=true then none else some ⟨n,b,Kd.nil,(Cs 61 s).2.1⟩
  |none=>none
 else
  match Kg (Af 58 (Cs 61 s).1)with
  |some (n,b,c)=>(match Cg c with
   |some k=>if (Cs 61 s).2.2=true/\¬(st=82/\k.signs=[]/\Bv k.base (Cs 61 s).2.1=true)then none else some ⟨n,b,k,(Cs 61 s).2.1⟩
   |none=>none)
  |none=>none
def Bu(st:UInt8)(s:List UInt8):Option Fd:=
 if st=69 then
  match Js (Af 58 s)with
  |some (n,b)=>some ⟨n,b,Kd.nil,[]⟩
  |none=>none
 else
  match Kg (Af 58 s)with
  |some (n,b,c)=>(match Af 61 c with
   |[k]=>(match Cg k with|some k=>some ⟨n,b,k,[]⟩|none=>none)
   |[k,v]=>if st=82/\Bv k v=true then some ⟨n,b,⟨[],k,[]⟩,v⟩else none
   |_=>none)
  |none=>none
theorem H9{p:List (List UInt8)}{n:Nat}{b:List UInt8}:Js p=some (n,b)↔p=[Aw n,b]/\1<=n/\n<=200/\Au b=true:=by
 unfold Js
 constructor
 ·intro h
  split at h
  ·rename_i a b'
   cases hd:Cf a with
   |none=>rw[hd]at h;cases h
   |some m=>
    rw[hd]at h
    simp only at h
    split at h
    ·rename_i hc
     simp at h
     obtain⟨rfl,rfl⟩:=h
     rw[(Bx.1 hd).2]
     exact⟨rfl,hc⟩
    cases h
  cases h
 rintro⟨rfl,h⟩
 have e:=Bx.2 ⟨(by omega:n<=999999),(rfl:Aw n=Aw n)⟩
 simp only[e,if_pos h]
theorem Fu{p:List (List UInt8)}{n:Nat}{b c:List UInt8}:Kg p=some (n,b,c)↔p=[Aw n,b,c]/\1<=n/\n<=200/\Au b=true:=by
 unfold Kg
 constructor
 ·intro h
  split at h
  ·rename_i a b' c'
   cases hd:Cf a with
   |none=>rw[hd]at h;cases h
   |some m=>
    rw[hd]at h
    simp only at h
    split at h
    ·rename_i hc
     simp at h
     obtain⟨rfl,rfl,rfl⟩:=h
     rw[(Bx.1 hd).2]
     exact⟨rfl,hc⟩
    cases h
  cases h
 rintro⟨rfl,h⟩
 have e:=Bx.2 ⟨(by omega:n<=999999),(rfl:Aw n=Aw n)⟩
 simp only[e,if_pos h]
theorem Nv{k:List UInt8}(h:k=[110]\/k=[116]\/k=[102]):Co ⟨[],k,[]⟩/\Bq ⟨[],k,[]⟩=k:=by
 rcases h with rfl|rfl|rfl<;>exact⟨⟨rfl,.inr ⟨by simp,rfl⟩,by decide⟩,by decide⟩
theorem Fe{st:UInt8}{s:List UInt8}{f:Fd}:Bu st s=some f↔Se st f/\Nf st f=s:=by
 obtain⟨tg,nm,k,gv⟩:=f
 unfold Bu
 by_cases hst:st=69
 ·rw[if_pos hst]
  constructor
  ·intro h
   cases hp:Js (Af 58 s)with
   |none=>rw[hp]at h;cases h
   |some x=>
    obtain⟨n,b⟩:=x
    rw[hp]at h
    simp at h
    obtain⟨rfl,rfl,rfl,rfl⟩:=h
    obtain⟨e,h1,h2,h3⟩:=H9.1 hp
    obtain⟨_,_,e2⟩:=Dm.1 e
    exact⟨⟨h1,h2,h3,fun _=>⟨rfl,rfl⟩,fun h=>absurd hst h⟩,by rw[<-e2];simp[Nf,Ka,hst,Ak]⟩
  rintro⟨⟨h1,h2,h3,h4,_⟩,rfl⟩
  obtain⟨e1,e2⟩:=h4 hst
  simp only at h1 h2 h3 e1 e2
  subst e1;subst e2
  have hs:Af 58 (Nf st ⟨tg,nm,Kd.nil,[]⟩)=[Aw tg,nm]:=Dm.2 ⟨by simp,by
   intro p hp
   simp at hp
   rcases hp with rfl|rfl
   ·exact(Dv (Eg tg)).2.2.1
   exact(Dv (Dq h3)).2.2.1,by simp[Nf,Ka,hst,Ak]⟩
  rw[hs,H9.2 ⟨rfl,h1,h2,h3⟩]
 rw[if_neg hst]
 constructor
 ·intro h
  cases hp:Kg (Af 58 s)with
  |none=>rw[hp]at h;cases h
  |some x=>
   obtain⟨n,b,c⟩:=x
   rw[hp]at h
   simp only at h
   obtain⟨e,h1,h2,h3⟩:=Fu.1 hp
   obtain⟨_,_,e2⟩:=Dm.1 e
   split at h
   ·rename_i k' hk
    obtain⟨_,_,e3⟩:=Dm.1 hk
    simp[Ak]at e3
    subst e3
    cases hkl:Cg k' with
    |none=>rw[hkl]at h;cases h
    |some kk=>
     rw[hkl]at h
     simp at h
     obtain⟨rfl,rfl,rfl,rfl⟩:=h
     obtain⟨hk1,hk2⟩:=Ee.1 hkl
     exact⟨⟨h1,h2,h3,fun h=>absurd h hst,fun _=>⟨hk1,fun h=>absurd rfl h⟩⟩,by rw[<-e2];simp[Nf,Ka,hst,Ak,hk2]⟩
   ·rename_i k' v hk
    split at h
    ·rename_i hc
     simp at h
     obtain⟨rfl,rfl,rfl,rfl⟩:=h
     obtain⟨_,_,e3⟩:=Dm.1 hk
     obtain⟨hn,_⟩:=Kt hc.2
     obtain⟨o1,o2⟩:=Nv (Mw hc.2)
     refine⟨⟨h1,h2,h3,fun h=>absurd h hst,fun _=>⟨o1,fun _=>⟨hc.1,rfl,hc.2⟩⟩⟩,?_⟩
     rw[<-e2,<-e3]
     simp[Nf,Ka,hst,Ak,o2,hn]
    cases h
   cases h
 rintro⟨⟨h1,h2,h3,_,h4⟩,rfl⟩
 obtain⟨hk,hg⟩:=h4 hst
 simp only at h1 h2 h3 hk hg
 by_cases hgv:gv=[]
 ·subst hgv
  have hs:Af 58 (Nf st ⟨tg,nm,k,[]⟩)=[Aw tg,nm,Bq k]:=Dm.2 ⟨by simp,by
   intro p hp
   simp at hp
   rcases hp with rfl|rfl|rfl
   ·exact(Dv (Eg tg)).2.2.1
   ·exact(Dv (Dq h3)).2.2.1
   exact(Dv (G8 hk)).2.2.1,by simp[Nf,Ka,hst,Ak]⟩
  rw[hs,Fu.2 ⟨rfl,h1,h2,h3⟩]
  simp only
  rw[Ft 61 (Bq k) (Dv (G8 hk)).2.2.2]
  simp only
  rw[Ee.2 ⟨hk,rfl⟩]
 obtain⟨g1,g2,g3⟩:=hg hgv
 obtain⟨_,hp⟩:=Kt g3
 have hb:=Mw g3
 obtain⟨o1,o2⟩:=Nv hb
 have ek:k=⟨[],k.base,[]⟩:=by
  obtain⟨sg,b,nm'⟩:=k
  simp only at g2 hb
  subst g2
  obtain⟨_,hbo,_⟩:=hk
  rcases hbo with⟨h,_⟩|⟨_,h⟩
  ·exfalso
   simp only at h
   rcases hb with hb|hb|hb<;>· rw[h]at hb;revert hb;decide
  simp only at h;rw[h]
 have eB:Bq k=k.base:=by rw[ek];exact o2
 have nb:∀c∈Bq k,Gd c:=G8 hk
 have hs:Af 58 (Nf st ⟨tg,nm,k,gv⟩)=[Aw tg,nm,Bq k++61::gv]:=Dm.2 ⟨by simp,by
  intro p hp'
  simp at hp'
  rcases hp' with rfl|rfl|rfl
  ·exact(Dv (Eg tg)).2.2.1
  ·exact(Dv (Dq h3)).2.2.1
  intro hc
  rcases List.mem_append.1 hc with hc|hc
  ·exact(Dv nb).2.2.1 hc
  rcases List.mem_cons.1 hc with hc|hc
  ·revert hc;decide
  exact(Dv hp).2.2.1 hc,by simp[Nf,Ka,hst,Ak,hgv]⟩
 rw[hs,Fu.2 ⟨rfl,h1,h2,h3⟩]
 simp only
 rw[J9 61 (Bq k) gv (Dv nb).2.2.2,Ft 61 gv (Dv hp).2.2.2]
 simp only
 rw[eB,if_pos ⟨g1,g3⟩,<-ek]
theorem Rk{st:UInt8}{s:List UInt8}{f:Fd}:Gk st s=some f↔Se st f/\Nf st f=s:=by
 obtain⟨tg,nm,k,gv⟩:=f
 constructor
 ·intro h
  unfold Gk at h
  by_cases hst:st=69
  ·rw[if_pos hst]at h
   cases hp:Js (Af 58 (Cs 61 s).1)with
   |none=>rw[hp]at h;cases h
   |some x=>
    obtain⟨n,b⟩:=x
    rw[hp]at h
    simp only at h
    obtain⟨e,h1,h2,h3⟩:=H9.1 hp
    obtain⟨_,_,e2⟩:=Dm.1 e
    rcases Eo 61 s with⟨hn,hc⟩|⟨p,t,_,_,hc⟩
    ·rw[hc]at h e2
     simp at h
     obtain⟨rfl,rfl,rfl,rfl⟩:=h
     exact⟨⟨h1,h2,h3,fun _=>⟨rfl,rfl⟩,fun h=>absurd hst h⟩,by simp only at e2;rw[<-e2];simp[Nf,Ka,hst,Ak]⟩
    rw[hc]at h
    simp at h
  rw[if_neg hst]at h
  cases hp:Kg (Af 58 (Cs 61 s).1)with
  |none=>rw[hp]at h;cases h
  |some x=>
   obtain⟨n,b,c⟩:=x
   rw[hp]at h
   simp only at h
   obtain⟨e,h1,h2,h3⟩:=Fu.1 hp
   obtain⟨_,_,e2⟩:=Dm.1 e
   cases hkl:Cg c with
   |none=>rw[hkl]at h;cases h
   |some kk=>
    obtain⟨hk1,hk2⟩:=Ee.1 hkl
    rw[hkl]at h
    simp only at h
    rcases Eo 61 s with⟨hn,hc⟩|⟨p,t,ec,_,hc⟩
    ·rw[hc]at h e2
     simp at h
     obtain⟨rfl,rfl,rfl,rfl⟩:=h
     exact⟨⟨h1,h2,h3,fun h=>absurd h hst,fun _=>⟨hk1,fun h=>absurd rfl h⟩⟩,by simp only at e2;rw[<-e2];simp[Nf,Ka,hst,Ak,hk2]⟩
    rw[hc]at h e2
    simp only at h e2
    split at h
    ·cases h
    rename_i hcc
    have hcc':st=82/\kk.signs=[]/\Bv kk.base t=true:=Decidable.byContradiction fun hh=>hcc ⟨trivial,hh⟩
    simp at h
    obtain⟨rfl,rfl,rfl,rfl⟩:=h
    obtain⟨hn,_⟩:=Kt hcc'.2.2
    exact⟨⟨h1,h2,h3,fun h=>absurd h hst,fun _=>⟨hk1,fun _=>hcc'⟩⟩,by rw[ec,<-e2];simp[Nf,Ka,hst,Ak,hk2,hn]⟩
 intro h
 have hS:=Fe.2 h
 obtain⟨⟨h1,h2,h3,h4,h5⟩,rfl⟩:=h
 simp only at h1 h2 h3 h4 h5
 unfold Gk
 by_cases hst:st=69
 ·obtain⟨e1,e2⟩:=h4 hst
  subst e1;subst e2
  have hno:61∉Nf st ⟨tg,nm,Kd.nil,[]⟩:=by
   simp[Nf,Ka,hst]
   exact⟨(Dv (Eg tg)).2.2.2,(Dv (Dq h3)).2.2.2⟩
  rw[if_pos hst,N6 hno]
  simp only
  have hs:Af 58 (Nf st ⟨tg,nm,Kd.nil,[]⟩)=[Aw tg,nm]:=Dm.2 ⟨by simp,by
   intro p hp
   simp at hp
   rcases hp with rfl|rfl
   ·exact(Dv (Eg tg)).2.2.1
   exact(Dv (Dq h3)).2.2.1,by simp[Nf,Ka,hst,Ak]⟩
  rw[hs,H9.2 ⟨rfl,h1,h2,h3⟩]
  simp
 obtain⟨hk,hg⟩:=h5 hst
 have nb:∀c∈Bq k,Gd c:=G8 hk
 have hno:61∉Aw tg++58::(nm++58::Bq k):=by
  simp
  exact⟨(Dv (Eg tg)).2.2.2,(Dv (Dq h3)).2.2.2,(Dv nb).2.2.2⟩
 have hs:Af 58 (Aw tg++58::(nm++58::Bq k))=[Aw tg,nm,Bq k]:=Dm.2 ⟨by simp,by
  intro p hp
  simp at hp
  rcases hp with rfl|rfl|rfl
  ·exact(Dv (Eg tg)).2.2.1
  ·exact(Dv (Dq h3)).2.2.1
  exact(Dv nb).2.2.1,by simp[Ak]⟩
 rw[if_neg hst]
 by_cases hgv:gv=[]
 ·subst hgv
  have e:Nf st ⟨tg,nm,k,[]⟩=Aw tg++58::(nm++58::Bq k):=by simp[Nf,Ka,hst]
  rw[e,N6 hno]
  simp only
  rw[hs,Fu.2 ⟨rfl,h1,h2,h3⟩]
  simp only
  rw[Ee.2 ⟨hk,rfl⟩]
  simp
 have e:Nf st ⟨tg,nm,k,gv⟩=(Aw tg++58::(nm++58::Bq k))++61::gv:=by simp[Nf,Ka,hst,hgv]
 rw[e,D2 hno]
 simp only
 rw[hs,Fu.2 ⟨rfl,h1,h2,h3⟩]
 simp only
 rw[Ee.2 ⟨hk,rfl⟩]
 simp only
 rw[if_neg (fun hh=>hh.2 (hg hgv))]
theorem Qep(st:UInt8)(s:List UInt8):Gk st s=Bu st s:=by
 cases h:Bu st s with
 |some f=>exact Rk.2 (Fe.1 h)
 |none=>
  cases h2:Gk st s with
  |none=>rfl
  |some f=>rw[Fe.2 (Rk.1 h2)]at h;cases h
theorem Rg{st:UInt8}{f:Fd}(h:Se st f):10∉Nf st f/\44∉Nf st f/\Nf st f≠[]:=by
 obtain⟨h1,h2,h3,h4,h5⟩:=h
 have hd:=P8 f.tag
 refine⟨?_,?_,by unfold Nf;simp⟩
 all_goals
  unfold Nf Ka
  simp only[List.mem_append,List.mem_cons,not_or]
  refine⟨?_,by decide,?_,?_⟩
  ·first|exact(Dv (Eg f.tag)).1|exact(Dv (Eg f.tag)).2.1
  ·first|exact(Dv (Dq h3)).1|exact(Dv (Dq h3)).2.1
  ·by_cases hst:st=69
   ·rw[if_pos hst];simp
   rw[if_neg hst]
   obtain⟨hk,hg⟩:=h5 hst
   simp only[List.mem_append,List.mem_cons,not_or]
   refine⟨by decide,?_,?_⟩
   ·first|exact(Dv (G8 hk)).1|exact(Dv (G8 hk)).2.1
   by_cases hgv:f.given=[]
   ·rw[if_pos hgv];simp
   rw[if_neg hgv]
   have hp:=(Kt (hg hgv).2.2).2
   simp only[List.mem_cons,not_or]
   refine⟨by decide,?_⟩
   first|exact(Dv hp).1|exact(Dv hp).2.1
theorem Qcu{st:UInt8}{f g:Fd}(hf:Se st f)(hg:Se st g)(h:Nf st f=Nf st g):f=g:=by
 have h1:=Fe.2 ⟨hf,rfl⟩
 have h2:=Fe.2 ⟨hg,h.symm⟩
 rw[h1]at h2
 injection h2
structure Ty where
 sort:UInt8
 name:List UInt8
 fields:List Fd
deriving DecidableEq
def E9(fs:List Fd)(f:Fd):Bool:=fs.all fun g=>decide (g.name≠f.name) && decide (g.tag<f.tag)
def Es(st:UInt8):List (List UInt8)->List Fd->Option (List Fd)
 |[],acc=>some acc
 |p::ps,acc=>match Gk st p with
  |none=>none
  |some f=>if acc.length=8\/E9 acc f=false then none else Es st ps (acc++[f])
def De(st:UInt8):List (List UInt8)->List Fd->Option (List Fd)
 |[],acc=>some acc
 |p::ps,acc=>match Bu st p with
  |none=>none
  |some f=>if E9 acc f=false then none else De st ps (acc++[f])
def Fds(st:UInt8)(fs:List Fd):Prop:=(∀f∈fs,Se st f)/\fs.Pairwise fun g f=>g.name≠f.name/\g.tag<f.tag
theorem Kc{fs:List Fd}{f:Fd}:E9 fs f=true↔∀g∈fs,g.name≠f.name/\g.tag<f.tag:=by simp[E9]
theorem Zp{st:UInt8}{fs:List Fd}{f:Fd}:Fds st (fs++[f])↔Fds st fs/\Se st f/\E9 fs f=true:=by
 unfold Fds
 rw[Kc,List.pairwise_append]
 constructor
 ·rintro⟨h1,h2,_,h3⟩
  exact⟨⟨fun g hg=>h1 g (by simp[hg]),h2⟩,h1 f (by simp),fun g hg=>h3 g hg f (by simp)⟩
 rintro⟨⟨h1,h2⟩,h3,h4⟩
 refine⟨fun g hg=>?_,h2,by simp,fun g hg f' hf'=>?_⟩
 ·rcases List.mem_append.1 hg with hg|hg
  ·exact h1 g hg
  simp at hg;subst hg;exact h3
 simp at hf';subst hf';exact h4 g hg
theorem Mv(st:UInt8):∀(ps:List (List UInt8)) (acc r:List Fd),Fds st acc->(De st ps acc=some r↔Fds st r/\∃gs,r=acc++gs/\gs.map (Nf st)=ps)
 |[],acc,r,ha=>by
  simp only[De,Option.some.injEq]
  constructor
  ·rintro rfl;exact⟨ha,[],by simp,rfl⟩
  rintro⟨_,gs,e,h⟩
  have:gs=[]:=by simpa using h
  subst this;simpa using e.symm
 |p::ps,acc,r,ha=>by
  simp only[De]
  cases hf:Bu st p with
  |none=>
   simp only[reduceCtorEq,false_iff]
   rintro⟨hr,gs,rfl,h⟩
   cases gs with
   |nil=>simp at h
   |cons g gs=>
    simp at h
    have:=Fe.2 ⟨hr.1 g (by simp),h.1⟩
    rw[this]at hf;cases hf
  |some f=>
   obtain⟨ok,eb⟩:=Fe.1 hf
   simp only
   by_cases hfit:E9 acc f=false
   ·rw[if_pos hfit]
    simp only[reduceCtorEq,false_iff]
    rintro⟨hr,gs,rfl,h⟩
    cases gs with
    |nil=>simp at h
    |cons g gs=>
     simp at h
     have hg:g=f:=Qcu (hr.1 g (by simp)) ok (h.1.trans eb.symm)
     subst hg
     have h2:Fds st (acc++[g]++gs):=by simpa using hr
     have h3:Fds st (acc++[g]):=⟨fun x hx=>h2.1 x (by simp at hx ⊢;rcases hx with hx|hx<;>simp[hx]),(List.pairwise_append.1 h2.2).1⟩
     rw[(Zp.1 h3).2.2]at hfit;cases hfit
   rw[if_neg hfit]
   have hfit':E9 acc f=true:=by simpa using hfit
   rw[Mv st ps (acc++[f]) r (Zp.2 ⟨ha,ok,hfit'⟩)]
   constructor
   ·rintro⟨hr,gs,rfl,h⟩
    exact⟨hr,f::gs,by simp,by simp[eb,h]⟩
   rintro⟨hr,gs,rfl,h⟩
   cases gs with
   |nil=>simp at h
   |cons g gs=>
    simp at h
    have hg:g=f:=Qcu (hr.1 g (by simp)) ok (h.1.trans eb.symm)
    subst hg
    exact⟨hr,gs,by simp,h.2⟩
theorem Pu(st:UInt8):∀(ps:List (List UInt8)) (acc:List Fd),acc.length<=8->Es st ps acc=(match De st ps acc with|some r=>if r.length<=8 then some r else none|none=>none)
 |[],acc,h=>by simp[Es,De,h]
 |p::ps,acc,h=>by
  simp only[Es,De,Qep]
  cases hf:Bu st p with
  |none=>rfl
  |some f=>
   simp only
   by_cases hfit:E9 acc f=false
   ·rw[if_pos (.inr hfit),if_pos hfit]
   rw[if_neg hfit]
   by_cases h8:acc.length=8
   ·rw[if_pos (.inl h8)]
    have key:∀(ps:List (List UInt8)) (a r:List Fd),De st ps a=some r->a.length<=r.length:=by
     intro ps
     induction ps with
     |nil=>intro a r h;simp[De]at h;rw[h];exact Nat.le_refl _
     |cons q qs ih=>
      intro a r h
      simp only[De]at h
      split at h
      ·cases h
      split at h
      ·cases h
      have:=ih _ _ h
      simp at this;omega
    cases hr:De st ps (acc++[f])with
    |none=>rfl
    |some r=>
     have:=key _ _ _ hr
     simp at this
     simp only
     rw[if_neg (by omega)]
   rw[if_neg (by simp[h8,hfit])]
   exact Pu st ps (acc++[f]) (by simp;omega)
def Dp(c:UInt8):Prop:=c=82\/c=85\/c=69
instance (c:UInt8):Decidable (Dp c):=by unfold Dp;infer_instance
def Dc(t:Ty):Prop:=Dp t.sort/\Au t.name=true/\Fds t.sort t.fields/\t.fields.length<=8/\(t.fields=[]->t.sort=82)
def Xm(t:Ty):List UInt8:=t.sort::(t.name++61::Ak 44 (t.fields.map (Nf t.sort)))
def D7(s:List UInt8):Option Ty:=
 match s with
 |[]=>none
 |c::r=>
  if ¬Dp c\/(Cs 61 r).2.2=false\/Au (Cs 61 r).1=false then none
  else if (Cs 61 r).2.1=[]then(if c=82 then some ⟨c,(Cs 61 r).1,[]⟩else none)
  else match Es c (Af 44 (Cs 61 r).2.1) []with
   |some fs=>some ⟨c,(Cs 61 r).1,fs⟩
   |none=>none
theorem Qe4{c:UInt8}{ps:List (List UInt8)}(h:ps≠[])(h1:∀p∈ps,p≠[]):Ak c ps≠[]:=by
 cases ps with
 |nil=>exact absurd rfl h
 |cons p ps=>
  have:=h1 p (by simp)
  cases ps with
  |nil=>exact this
  |cons q ps=>rw[Ch c p (by simp)];simp
theorem Yl(st:UInt8):Fds st []:=⟨by simp,List.Pairwise.nil⟩
theorem Qi{st:UInt8}{ps:List (List UInt8)}{r:List Fd}:Es st ps []=some r↔Fds st r/\r.length<=8/\r.map (Nf st)=ps:=by
 rw[Pu st ps [] (by simp)]
 constructor
 ·intro h
  cases hs:De st ps []with
  |none=>rw[hs]at h;cases h
  |some x=>
   rw[hs]at h
   simp only at h
   split at h
   ·rename_i h8
    injection h with h
    subst h
    obtain⟨h1,gs,e,h2⟩:=(Mv st ps [] x (Yl st)).1 hs
    simp at e;subst e
    exact⟨h1,h8,h2⟩
   cases h
 rintro⟨h1,h2,h3⟩
 rw[(Mv st ps [] r (Yl st)).2 ⟨h1,r,by simp,h3⟩]
 simp[h2]
theorem Qej{c:UInt8}(h:Dp c):c≠61/\c≠10:=by
 rcases h with rfl|rfl|rfl<;>exact⟨by decide,by decide⟩
theorem Et{s:List UInt8}{t:Ty}:D7 s=some t↔Dc t/\Xm t=s:=by
 obtain⟨st,nm,fs⟩:=t
 constructor
 ·intro h
  unfold D7 at h
  split at h
  ·cases h
  rename_i c r
  split at h
  ·cases h
  rename_i hc
  have hc1:Dp c:=Decidable.byContradiction fun hh=>hc (.inl hh)
  have hc2:(Cs 61 r).2.2=true:=by
   cases hb:(Cs 61 r).2.2 with
   |true=>rfl
   |false=>exact absurd (.inr (.inl hb)) hc
  have hc3:Au (Cs 61 r).1=true:=by
   cases hb:Au (Cs 61 r).1 with
   |true=>rfl
   |false=>exact absurd (.inr (.inr hb)) hc
  rcases Eo 61 r with⟨_,e⟩|⟨p,u,er,hp,e⟩
  ·rw[e]at hc2;cases hc2
  rw[e]at h hc3
  simp only at h hc3
  split at h
  ·rename_i hu
   subst hu
   split at h
   ·rename_i h82
    injection h with h
    injection h with e1 e2 e3
    subst e1;subst e2;subst e3
    exact⟨⟨hc1,hc3,Yl _,by simp,fun _=>h82⟩,by rw[er];simp[Xm,Ak]⟩
   cases h
  rename_i hu
  cases hf:Es c (Af 44 u) []with
  |none=>rw[hf]at h;cases h
  |some x=>
   rw[hf]at h
   injection h with h
   injection h with e1 e2 e3
   subst e1;subst e2;subst e3
   obtain⟨f1,f2,f3⟩:=Qi.1 hf
   obtain⟨s1,_,s3⟩:=Dm.1 f3.symm
   exact⟨⟨hc1,hc3,f1,f2,fun hh=>by simp only at hh;subst hh;exact absurd rfl s1⟩,by rw[er];simp only[Xm];rw[s3]⟩
 rintro⟨⟨h1,h2,h3,h4,h5⟩,rfl⟩
 simp only at h1 h2 h3 h4 h5
 have hno:61∉nm:=(Dv (Dq h2)).2.2.2
 unfold D7 Xm
 simp only
 rw[D2 hno]
 simp only
 rw[if_neg (by simp[h1,h2])]
 by_cases hf:fs=[]
 ·subst hf
  rw[h5 rfl]
  simp[Ak]
 have hn:Ak 44 (fs.map (Nf st))≠[]:=Qe4 (by simpa using hf) (by
  intro p hp
  obtain⟨f,hf',rfl⟩:=List.mem_map.1 hp
  exact(Rg (h3.1 f hf')).2.2)
 have hs:Af 44 (Ak 44 (fs.map (Nf st)))=fs.map (Nf st):=Kp 44 _ (by simpa using hf) (by
  intro p hp
  obtain⟨f,hf',rfl⟩:=List.mem_map.1 hp
  exact(Rg (h3.1 f hf')).2.1)
 rw[if_neg hn,hs,Qi.2 ⟨h3,h4,rfl⟩]
theorem Vw{t:Ty}(h:Dc t):10∉Xm t/\Xm t≠[]:=by
 refine⟨?_,by unfold Xm;simp⟩
 obtain⟨h1,h2,h3,_,_⟩:=h
 unfold Xm
 simp only[List.mem_append,List.mem_cons,not_or]
 refine⟨fun e=>(Qej h1).2 e.symm,(Dv (Dq h2)).1,by decide,?_⟩
 have key:∀ps:List (List UInt8),(∀p∈ps,(10:UInt8)∉p)->(10:UInt8)∉Ak 44 ps:=by
  intro ps
  induction ps with
  |nil=>intro _;simp[Ak]
  |cons p ps ih=>
   intro hp
   cases ps with
   |nil=>exact hp p (by simp)
   |cons q ps=>
    rw[Ch 44 p (by simp)]
    simp only[List.mem_append,List.mem_cons,not_or]
    refine⟨hp p (by simp),by decide,ih (fun x hx=>hp x (by simp[hx]))⟩
 apply key
 intro p hp
 obtain⟨f,hf',rfl⟩:=List.mem_map.1 hp
 exact(Rg (h3.1 f hf')).1
theorem Ym{t u:Ty}(ht:Dc t)(hu:Dc u)(h:Xm t=Xm u):t=u:=by
 have h1:=Et.2 ⟨ht,rfl⟩
 have h2:=Et.2 ⟨hu,h.symm⟩
 rw[h1]at h2
 injection h2
def scB(S:List Ty):List UInt8:=S.flatMap fun t=>Xm t++[10]
def Kq(S:List Ty):Prop:=(∀t∈S,Dc t)/\S.length<=8/\S.Pairwise fun t u=>t.name≠u.name
def Ez:Nat->List UInt8->List Ty->Option (List Ty)
 |0,_,_=>none
 |n+1,s,acc=>
  if s=[]then some acc
  else if (Cs 10 s).2.2=false\/acc.length=8 then none
  else match D7 (Cs 10 s).1 with
   |none=>none
   |some t=>if acc.any (fun u=>decide (u.name=t.name))=true then none else Ez n (Cs 10 s).2.1 (acc++[t])
theorem Yh{S:List Ty}{t:Ty}:Kq (S++[t])↔Kq S/\Dc t/\S.length<8/\S.any (fun u=>decide (u.name=t.name))=false:=by
 unfold Kq
 rw[List.pairwise_append]
 constructor
 ·rintro⟨h1,h2,h3,_,h4⟩
  simp at h2
  refine⟨⟨fun u hu=>h1 u (by simp[hu]),by omega,h3⟩,h1 t (by simp),by omega,?_⟩
  simp;intro u hu;exact h4 u hu t (by simp)
 rintro⟨⟨h1,h2,h3⟩,h4,h5,h6⟩
 simp at h6
 refine⟨fun u hu=>?_,by simp;omega,h3,by simp,fun u hu v hv=>?_⟩
 ·rcases List.mem_append.1 hu with hu|hu
  ·exact h1 u hu
  simp at hu;subst hu;exact h4
 simp at hv;subst hv;exact h6 u hu
theorem M7(t:Ty)(S:List Ty):scB (t::S)=Xm t++10::scB S:=by simp[scB]
theorem Rs:∀(n:Nat) (s:List UInt8) (acc r:List Ty),s.length<n->Kq acc->(Ez n s acc=some r↔Kq r/\∃U,r=acc++U/\scB U=s)
 |0,s,acc,r,h,_=>absurd h (Nat.not_lt_zero _)
 |n+1,s,acc,r,h,ha=>by
  simp only[Ez]
  by_cases hs:s=[]
  ·subst hs
   rw[if_pos rfl]
   constructor
   ·intro hh;injection hh with hh;subst hh;exact⟨ha,[],by simp,rfl⟩
   rintro⟨_,U,rfl,e⟩
   cases U with
   |nil=>simp
   |cons t U=>rw[M7]at e;simp at e
  rw[if_neg hs]
  rcases Eo 10 s with⟨hn,e⟩|⟨p,u,es,hp,e⟩
  ·rw[e,if_pos (.inl rfl)]
   simp only[reduceCtorEq,false_iff]
   rintro⟨_,U,rfl,eU⟩
   cases U with
   |nil=>exact hs eU.symm
   |cons t U=>rw[M7]at eU;rw[<-eU]at hn;simp at hn
  rw[e]
  simp only
  by_cases h8:acc.length=8
  ·rw[if_pos (.inr h8)]
   simp only[reduceCtorEq,false_iff]
   rintro⟨hr,U,rfl,eU⟩
   cases U with
   |nil=>exact hs eU.symm
   |cons t U=>have:=hr.2.1;simp at this;omega
  rw[if_neg (by simp[h8])]
  have hsplit:∀t U,Dc t->scB (t::U)=s->Xm t=p/\scB U=u:=by
   intro t U ht eU
   rw[M7,es]at eU
   have h1:=D2 (s:=scB U) (Vw ht).1
   rw[eU,D2 hp]at h1
   injection h1 with e1 e2
   injection e2 with e2 _
   exact⟨e1.symm,e2.symm⟩
  cases ht:D7 p with
  |none=>
   simp only[reduceCtorEq,false_iff]
   rintro⟨hr,U,rfl,eU⟩
   cases U with
   |nil=>exact hs eU.symm
   |cons t U=>
    have ok:Dc t:=hr.1 t (by simp)
    rw[Et.2 ⟨ok,(hsplit t U ok eU).1⟩]at ht
    cases ht
  |some t=>
   obtain⟨ok,eb⟩:=Et.1 ht
   simp only
   by_cases hd:acc.any (fun u=>decide (u.name=t.name))=true
   ·rw[if_pos hd]
    simp only[reduceCtorEq,false_iff]
    rintro⟨hr,U,rfl,eU⟩
    cases U with
    |nil=>exact hs eU.symm
    |cons t' U=>
     have ok':Dc t':=hr.1 t' (by simp)
     have ett:t'=t:=Ym ok' ok ((hsplit t' U ok' eU).1.trans eb.symm)
     subst ett
     simp at hd
     obtain⟨v,hv,hvn⟩:=hd
     exact(List.pairwise_append.1 hr.2.2).2.2 v hv t' (by simp) hvn
   rw[if_neg hd]
   have hlen:u.length<n:=by rw[es]at h;simp at h;omega
   rw[Rs n u (acc++[t]) r hlen (Yh.2 ⟨ha,ok,by have:=ha.2.1;omega,by simpa using hd⟩)]
   constructor
   ·rintro⟨hr,U,rfl,eU⟩
    exact⟨hr,t::U,by simp,by rw[M7,eb,eU,es]⟩
   rintro⟨hr,U,rfl,eU⟩
   cases U with
   |nil=>exact absurd eU.symm hs
   |cons t' U=>
    have ok':Dc t':=hr.1 t' (by simp)
    obtain⟨e1,e2⟩:=hsplit t' U ok' eU
    have ett:t'=t:=Ym ok' ok (e1.trans eb.symm)
    subst ett
    exact⟨hr,U,by simp,e2⟩
def Cz(s:List UInt8):Option Ty:=
 match Cs 61 s with
 |(c::nm,u,true)=>
  if ¬Au nm=true\/¬Dp c then none
  else if u=[]then(if c=82 then some ⟨c,nm,[]⟩else none)
  else match De c (Af 44 u) []with
   |some r=>if r.length<=8 then some ⟨c,nm,r⟩else none
   |none=>none
 |_=>none
theorem Zr(s:List UInt8):Cz s=D7 s:=by
 cases s with
 |nil=>rfl
 |cons c r=>
  unfold Cz D7
  by_cases hc:c=61
  ·subst hc
   have e:Cs 61 (61::r)=([],r,true):=D2 (p:=[]) (by simp)
   rw[e]
   simp only
   rw[if_pos (.inl (by decide))]
  rcases Eo 61 r with⟨hn,e⟩|⟨p,u,er,hp,e⟩
  ·have e2:Cs 61 (c::r)=(c::r,[],false):=N6 (by simp;exact⟨fun h=>hc h.symm,hn⟩)
   rw[e2]
   simp[e]
  have e2:Cs 61 (c::r)=(c::p,u,true):=by
   rw[er];exact D2 (p:=c::p) (by simp;exact⟨fun h=>hc h.symm,hp⟩)
  rw[e2]
  simp only[e]
  by_cases h1:Au p=true
  ·by_cases h2:Dp c
   ·by_cases hu:u=[]
    ·subst hu
     simp[h1,h2]
    have hx:∀(a b:Option Ty),(if ¬Au p=true\/¬Dp c then a else b)=b:=fun a b=>if_neg (by simp[h1,h2])
    have hy:∀(a b:Option Ty),(if ¬Dp c\/true=false\/Au p=false then a else b)=b:=fun a b=>if_neg (by simp[h1,h2])
    have hz:∀(a b:Option Ty),(if u=[]then a else b)=b:=fun a b=>if_neg hu
    rw[hx,hy,hz,hz,Pu c _ [] (by simp)]
    cases De c (Af 44 u) []with
    |none=>rfl
    |some r=>simp only;split<;>rfl
   rw[if_pos (.inr h2),if_pos (.inl h2)]
  rw[if_pos (.inl h1),if_pos (.inr (.inr (by simpa using h1)))]
def Ev:List (List UInt8)->Option (List Ty)
 |[]=>some []
 |p::ps=>match D7 p with
  |none=>none
  |some t=>match Ev ps with
   |none=>none
   |some ts=>some (t::ts)
theorem Nc:∀(ps:List (List UInt8)) (ts:List Ty),Ev ps=some ts↔(∀t∈ts,Dc t)/\ts.map Xm=ps
 |[],ts=>by
  simp only[Ev,Option.some.injEq]
  constructor
  ·rintro rfl;simp
  rintro⟨_,h⟩;simpa using h.symm
 |p::ps,ts=>by
  simp only[Ev]
  cases ht:D7 p with
  |none=>
   simp only[reduceCtorEq,false_iff]
   rintro⟨h,e⟩
   cases ts with
   |nil=>simp at e
   |cons t ts=>
    simp at e
    rw[Et.2 ⟨h t (by simp),e.1⟩]at ht;cases ht
  |some t=>
   obtain⟨ok,eb⟩:=Et.1 ht
   simp only
   have ih:=Nc ps
   constructor
   ·intro h
    cases hr:Ev ps with
    |none=>rw[hr]at h;cases h
    |some us=>
     rw[hr]at h
     injection h with h
     subst h
     obtain⟨i1,i2⟩:=(ih us).1 hr
     exact⟨by simpa using⟨ok,i1⟩,by simp[eb,i2]⟩
   rintro⟨h,e⟩
   cases ts with
   |nil=>simp at e
   |cons u us=>
    simp at e
    have:u=t:=Ym (h u (by simp)) ok (e.1.trans eb.symm)
    subst this
    rw[(ih us).2 ⟨fun x hx=>h x (by simp[hx]),e.2⟩]
def Mo(s:List UInt8):Option (List Ty):=
 if 9<(Af 10 s).length\/(Af 10 s).getLast?≠some []then none else Ev (Af 10 s).dropLast
theorem Qaa(S:List Ty):Ak 10 (S.map Xm++[[]])=scB S:=by
 induction S with
 |nil=>rfl
 |cons t S ih=>
  rw[List.map_cons,List.cons_append,Ch 10 _ (by simp),ih,M7]
theorem Qap{s:List UInt8}{S:List Ty}:Mo s=some S↔(∀t∈S,Dc t)/\S.length<=8/\scB S=s:=by
 unfold Mo
 constructor
 ·intro h
  split at h
  ·cases h
  rename_i hc
  have h9:(Af 10 s).length<=9:=by
   rcases Nat.lt_or_ge 9 (Af 10 s).length with hh|hh
   ·exact absurd (.inl hh) hc
   exact hh
  have hl:(Af 10 s).getLast?=some []:=by
   refine Decidable.byContradiction fun hh=>hc (.inr hh)
  obtain⟨t1,t2⟩:=(Nc _ _).1 h
  have e:Af 10 s=S.map Xm++[[]]:=by
   rcases Eh (Af 10 s)with hh|⟨t,c,hh⟩
   ·exact absurd hh (Dy 10 s)
   rw[hh]at hl t2 ⊢
   simp at hl t2
   rw[t2,hl]
  have hs:=M9 10 s
  rw[e,Qaa]at hs
  rw[e]at h9
  simp at h9
  exact⟨t1,h9,hs⟩
 rintro⟨h1,h2,rfl⟩
 have e:Af 10 (scB S)=S.map Xm++[[]]:=by
  rw[<-Qaa]
  refine Kp 10 _ (by simp) ?_
  intro p hp
  rcases List.mem_append.1 hp with hp|hp
  ·obtain⟨t,ht,rfl⟩:=List.mem_map.1 hp
   exact(Vw (h1 t ht)).1
  simp at hp;subst hp;simp
 rw[e,if_neg (by simp;omega)]
 simp only[List.dropLast_concat]
 exact(Nc _ _).2 ⟨h1,rfl⟩
def By(S:List Ty)(n:List UInt8):Option Ty:=S.find? fun t=>decide (t.name=n)
theorem Bs{S:List Ty}{n:List UInt8}{t:Ty}(h:By S n=some t):t∈S/\t.name=n:=by
 have h1:=List.mem_of_find?_eq_some h
 have h2:=List.find?_some h
 exact⟨h1,by simpa using h2⟩
def Cb(S:List Ty)(k:Kd):Prop:=k.base=[64]->(By S k.name).isSome=true
instance (S:List Ty) (k:Kd):Decidable (Cb S k):=by unfold Cb;infer_instance
def Fq(S:List Ty):Prop:=∀t∈S,t.sort≠69->∀f∈t.fields,Cb S f.kind
instance (S:List Ty):Decidable (Fq S):=by unfold Fq;infer_instance
def E0(S:List Ty)(t:Ty):Option Ty:=
 if t.sort=85 then(match t.fields with
  |f::_=>if f.kind.signs=[]/\f.kind.base=[64]then By S f.kind.name else none
  |[]=>none)else none
def Bt(S:List Ty):Nat->Ty->Bool
 |0,_=>false
 |n+1,t=>match E0 S t with
  |none=>true
  |some u=>Bt S n u
theorem Qb3{S:List Ty}{t u:Ty}(h:E0 S t=some u):u∈S:=by
 unfold E0 at h
 split at h
 ·split at h
  ·split at h
   ·exact(Bs h).1
   cases h
  cases h
 cases h
theorem J0(S:List Ty):∀(n:Nat) (t:Ty),Bt S n t=true->∀m,n<=m->Bt S m t=true
 |0,t,h,_,_=>by simp[Bt]at h
 |n+1,t,h,m,hm=>by
  obtain⟨k,rfl⟩:∃k,m=k+1:=⟨m - 1,by omega⟩
  simp only[Bt]at h ⊢
  cases hn:E0 S t with
  |none=>rfl
  |some u=>
   rw[hn]at h
   exact J0 S n u h k (by omega)
theorem Jn:∀(l S:List Ty),l.Nodup->(∀x∈l,x∈S)->l.length<=S.length
 |[],S,_,_=>Nat.zero_le _
 |x::l,S,hn,hs=>by
  obtain⟨h1,h2⟩:=List.nodup_cons.1 hn
  have hx:=hs x (by simp)
  have ih:=Jn l (S.erase x) h2 (fun y hy=>by
   have hne:y≠x:=by rintro rfl;exact h1 hy
   exact(List.mem_erase_of_ne hne).2 (hs y (by simp[hy])))
  have hl:=List.length_erase_of_mem hx
  have hp:0<S.length:=List.length_pos_iff.2 (by rintro rfl;cases hx)
  simp;omega
theorem Tv(S:List Ty):∀(n:Nat) (t:Ty),t∈S->Bt S (n+1) t=true->Bt S n t=false ->
  ∃l:List Ty,l.length=n+1/\(∀u∈l,u∈S)/\l.Nodup/\∀u∈l,Bt S (n+1) u=true
 |0,t,ht,h1,_=>⟨[t],rfl,by simpa using ht,by simp,by simpa using h1⟩
 |n+1,t,ht,h1,h2=>by
  have hn:∃u,E0 S t=some u:=by
   cases hh:E0 S t with
   |none=>simp[Bt,hh]at h2
   |some u=>exact⟨u,rfl⟩
  obtain⟨u,hu⟩:=hn
  have e1:Bt S (n+1) u=true:=by simp only[Bt,hu]at h1;simpa [Bt]using h1
  have e2:Bt S n u=false:=by simp only[Bt,hu]at h2;exact h2
  obtain⟨l,l1,l2,l3,l4⟩:=Tv S n u (Qb3 hu) e1 e2
  refine⟨t::l,by simp[l1],?_,List.nodup_cons.2 ⟨fun hm=>?_,l3⟩,?_⟩
  ·intro x hx
   rcases List.mem_cons.1 hx with rfl|hx
   ·exact ht
   exact l2 x hx
  ·rw[l4 t hm]at h2;cases h2
  intro x hx
  rcases List.mem_cons.1 hx with rfl|hx
  ·exact h1
  exact J0 S _ _ (l4 x hx) _ (by omega)
theorem Rl(S:List Ty)(t:Ty)(ht:t∈S)(n:Nat):Bt S n t=true->Bt S S.length t=true:=by
 induction n with
 |zero=>intro h;simp[Bt]at h
 |succ n ih=>
  intro h
  by_cases h2:Bt S n t=true
  ·exact ih h2
  have h2':Bt S n t=false:=by simpa using h2
  obtain⟨l,l1,l2,l3,_⟩:=Tv S n t ht h h2'
  have:=Jn l S l3 l2
  exact J0 S _ _ h _ (by omega)
theorem Vr(S:List Ty)(t:Ty)(ht:t∈S)(m n:Nat)(hm:S.length<=m)(hn:S.length<=n):Bt S m t=Bt S n t:=by
 cases h1:Bt S m t with
 |true=>exact(J0 S _ _ (Rl S t ht m h1) n hn).symm
 |false=>
  cases h2:Bt S n t with
  |false=>rfl
  |true=>rw[J0 S _ _ (Rl S t ht n h2) m hm]at h1;cases h1
def P5(S:List Ty):Prop:=Kq S/\Fq S/\∀t∈S,Bt S 9 t=true
def Ca(s:List UInt8):Option (List Ty):=
 if 400<s.length then none
 else match Ez (s.length+1) s []with
  |none=>none
  |some S=>if Fq S/\(∀t∈S,Bt S 9 t=true)then some S else none
theorem Qac:Kq []:=⟨by simp,by simp,List.Pairwise.nil⟩
theorem Qx{s:List UInt8}{S:List Ty}:Ez (s.length+1) s []=some S↔Kq S/\scB S=s:=by
 rw[Rs (s.length+1) s [] S (by omega) Qac]
 constructor
 ·rintro⟨h,U,e,h2⟩
  simp at e;subst e;exact⟨h,h2⟩
 rintro⟨h,h2⟩;exact⟨h,S,by simp,h2⟩
theorem Qe{s:List UInt8}{S:List Ty}:Ca s=some S↔P5 S/\s.length<=400/\scB S=s:=by
 unfold Ca
 constructor
 ·intro h
  split at h
  ·cases h
  rename_i h4
  cases hl:Ez (s.length+1) s []with
  |none=>rw[hl]at h;cases h
  |some T=>
   rw[hl]at h
   simp only at h
   split at h
   ·rename_i hc
    injection h with h
    subst h
    obtain⟨h1,h2⟩:=Qx.1 hl
    exact⟨⟨h1,hc.1,hc.2⟩,by omega,h2⟩
   cases h
 rintro⟨⟨h1,h2,h3⟩,h4,h5⟩
 rw[if_neg (by omega),Qx.2 ⟨h1,h5⟩]
 simp only
 rw[if_pos ⟨h2,h3⟩]
theorem Nq{s:List UInt8}{S:List Ty}:Ca s=some S↔s.length<=400/\Mo s=some S/\(S.Pairwise fun t u=>t.name≠u.name)/\Fq S/\∀t∈S,Bt S (S.length+1) t=true:=by
 rw[Qe,Qap]
 constructor
 ·rintro⟨⟨⟨h1,h2,h3⟩,h4,h5⟩,h6,h7⟩
  exact⟨h6,⟨h1,h2,h7⟩,h3,h4,fun t ht=>by rw[Vr S t ht _ 9 (by omega) (by omega)];exact h5 t ht⟩
 rintro⟨h6,⟨h1,h2,h7⟩,h3,h4,h5⟩
 exact⟨⟨⟨h1,h2,h3⟩,h4,fun t ht=>by rw[<-Vr S t ht (S.length+1) 9 (by omega) (by omega)];exact h5 t ht⟩,h6,h7⟩
def Tw(S:List Ty)(n:Nat)(k:Kd):Prop:=k.signs=[]->k.base=[64]->∃t,By S k.name=some t/\Bt S n t=true
def Cx(S:List Ty):Nat->Kd->List UInt8
 |0,_=>[]
 |n+1,k=>
  if k.signs.head?=some 91 then[91,93]
  else if k.signs.head?=some 63 then[45]
  else if k.base=[110]then[48]
  else if k.base=[116]then[39,39]
  else if k.base=[102]then[110,111]
  else match By S k.name with
   |none=>[]
   |some t=>if t.sort=82 then[123,125]else
    match t.fields with
    |[]=>[]
    |f::_=>if t.sort=69 then 35::Aw f.tag else 60::(Aw f.tag++61::(Cx S n f.kind++[62]))
theorem Rw{S:List Ty}{n:Nat}{k:Kd}{t:Ty}{f:Fd}{fs:List Fd}(h:Tw S (n+1) k)(h1:k.signs=[])(h2:k.base=[64])(hf:By S k.name=some t)(hs:t.sort=85)(hfs:t.fields=f::fs)(hr:Cb S f.kind):Tw S n f.kind:=by
 intro g1 g2
 obtain⟨u,hu,he⟩:=h h1 h2
 rw[hf]at hu
 injection hu with hu
 subst hu
 have hn:E0 S t=By S f.kind.name:=by
  unfold E0
  rw[if_pos hs,hfs]
  simp only
  rw[if_pos ⟨g1,g2⟩]
 have hr':=hr g2
 cases hx:By S f.kind.name with
 |none=>rw[hx]at hr';cases hr'
 |some v=>
  simp only[Bt,hn,hx]at he
  exact⟨v,rfl,he⟩
def Qy(S:List Ty)(k:Kd):List UInt8:=Cx S 10 k
def Re(S:List Ty)(f:Fd):List UInt8:=if f.given=[]then Qy S f.kind else f.given
end Go.Proofs.YtkigmebejmmikaaGreatDoor
