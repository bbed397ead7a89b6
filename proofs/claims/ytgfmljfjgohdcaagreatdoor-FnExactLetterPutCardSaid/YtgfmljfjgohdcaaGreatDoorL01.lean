/- Texts joined. Conditions: as each theorem names them. -/
import Derived.Test.YtgfmljfjgohdcaaGreatDoorProg
import Derived.WalkKit
import Derived.WalkSmall
import Derived.WalkSpells
import Derived.WalkLawsBesides
import Derived.Below
import Derived.Lib.Hide
import Derived.Lib.BufferRead
import Derived.Laws.BytesArg
import Derived.Deep.QuietTactic
import Derived.BigQuiet
import Derived.Handy
import Derived.Test.YtgfmljfjgohdcaaGreatDoorL00
set_option maxRecDepth 100000
set_option maxHeartbeats 32000000
set_option linter.unusedVariables false
set_option linter.unusedSimpArgs false
namespace Go.Proofs.YtgfmljfjgohdcaaGreatDoor
open Go.RowKit Go.Proofs.Tryz
theorem Qls(l:List UInt8)(k:Nat)(h:k<(ByteArray.mk l.toArray).size):(ByteArray.mk l.toArray)[k]=l[k]'h:=rfl
theorem Qkr(l:List UInt8):(ByteArray.mk l.toArray).toList=l:=by
 have:(ByteArray.mk l.toArray).toList=(ByteArray.mk l.toArray).data.toList:=ByteArray.toList_eq _;rw[this]
theorem Qj4(l:List UInt8)(a b:Nat):(ByteArray.mk l.toArray).extract a b=⟨((l.drop a).take (b - a)).toArray⟩:=by
 apply ByteArray.ext;simp[ByteArray.data_extract]
theorem Qig(l:List UInt8)(a:Nat):(l.drop a).take (l.length - a)=l.drop a:=aq aH
theorem Qiz{k:IntKind}{a b:Int}(h:a=b):Ending.returned (.int k a)=.returned (.int k b):=by rw[h]
theorem By{α:Type}(l:List α)(k:Nat)(h:k<l.length):l.take (k+1)=l.take k++[l[k]]:=by
 rw[List.take_succ_eq_append_getElem h]
def Ea(l:List UInt8):List Value:=l.map fun c=>.int .u8 (c.toNat:Int)
def Bz(ls:List (List UInt8)):List Value:=ls.map fun l=>.string ⟨l.toArray⟩
theorem Mf(l:List UInt8):(Ea l).length=l.length:=by simp[Ea]
theorem Sk(l:List UInt8)(c:UInt8):Ea (l++[c])=Ea l++[.int .u8 (c.toNat:Int)]:=by simp[Ea]
theorem Nw(l:List (List UInt8))(c:List UInt8):Bz (l++[c])=Bz l++[.string ⟨c.toArray⟩]:=by simp[Bz]
def Cd(w:World)(A:Option Addr)(n:Nat)(xs:List Value):Prop:=
 xs.length=n/\n<=maxLen/\(0<n->∃b off,A=some ⟨b,off,none⟩/\b<w.heap.size/\∀j u,xs[j]?=some u->w.cell? ⟨b,off+j,none⟩=some u)
theorem Cd.below{w w':World}{A:Option Addr}{n:Nat}{xs:List Value}(h:Cd w A n xs)(hb:Below w w w'):Cd w' A n xs:=by
 refine⟨h.1,h.2.1,fun hn=>?_⟩;obtain⟨b,off,e,hlt,hc⟩:=h.2.2 hn;exact gX
theorem Cd.drew{w:World}{A:Option Addr}{n:Nat}{xs:List Value}(h:Cd w A n xs):Cd w.drew A n xs:=h
theorem Cd.alloc{w:World}{A:Option Addr}{n:Nat}{xs:List Value}(h:Cd w A n xs)(o:Obj):Cd (w.alloc o) A n xs:=h.below ((Below.refl _ _).alloc (Nat.le_refl _) o)
theorem Cd.at_{w:World}{A:Option Addr}{n:Nat}{xs:List Value}(h:Cd w A n xs){k:Nat}(hk:k<n):
  ∃b off,A=some ⟨b,off,none⟩/\b<w.heap.size/\w.cell? ⟨b,off+k,none⟩=some (xs[k]'(by have:=h.1;omega)):=by
 obtain⟨b,off,e,hlt,hc⟩:=h.2.2 aF;exact⟨b,off,e,hlt,hc k _ (List.getElem?_eq_getElem _)⟩
theorem Cd.own{w:World}{base:Nat}{e:TypeId}{v:Value}{n:Nat}{xs:List Value}(h:w.ownsRow base e 1 v n xs):∃A c,v=.slice A n c/\Cd w A n xs:=by
 have h1:=h.1;rcases h.2 with⟨rfl,rfl⟩|⟨g,cap,cur,rfl,hb,hh,hnc,hcm,hcs,htk⟩
 ·exact⟨none,0,rfl,by omega,ae _,fun h=>absurd h aF⟩
 refine⟨some ⟨g,0,none⟩,cap,rfl,by omega,by omega,fun hn=>⟨g,0,rfl,(h.lt g rfl).2,fun j u hu=>?_⟩⟩;have:=h.cells (g:=g) rfl j u hu;have e1:(⟨g,0,none⟩:Addr).add j=⟨g,0+j,none⟩:=bn;rwa [e1]at this
theorem Co{w w1:World}{base:Nat}{e:TypeId}{size:Nat}{v:Value}{n:Nat}{xs:List Value}(h:w.ownsRow base e size v n xs)(hb:Below w w w1):w1.ownsRow base e size v n xs:=
 h.kept (row:=none) ⟨hb.os,hb.tape,hb.output,hb.size,fun k hk _=>hb.block k hk⟩ (by
  cases v with
  |slice A a b=>cases A with
   |none=>exact .inl rfl
   |some x=>exact .inr eN
  |_=>exact .inl rfl)
section
variable {P:Program}
theorem Jl(w:World){ops:Array Oper}{rest:List Oper}{o:Oper}{a:Act}{Q:Exit->Act->World->Prop}(hgd:o.guard=none)(s x:Operand)(t:TypeId)
  (ho:o.op=.call {callee:=.builtin .append,args:=#[s,x],argTypes:=#[t,t]})
  (base:Nat) (e:TypeId) (z:Value) (bytes:Nat) (ht:P.underlying t=some (.slice e)) (hinfo:(P.info? e).map (fun i=>(i.zero,i.size,i.bytes))=some (some z,1,bytes))
  (hzs:z.cells.size=1) (W:World) (u:Value) (hw:w=W.alloc (.cells #[u] e)) (hu:u.oneCell'=true) (v:Value) (n:Nat) (xs:List Value) (hs:a.eval s=v) (hx:a.eval x=.slice (W,0) 1 1)
  (hown:W.ownsRow base e 1 v n xs)
  (h63:n+1<=maxLen) (hbytes:(n+1)*bytes<=140737488355328) (hbase:base<=W.heap.size)
  (h:∀v' w',w'.ownsRow base e 1 v' (n+1) (xs++[u])->Below base W w'->wpList P ops Q rest (a.put o.dst v') w'):wpList P ops Q (o::rest) a w:=by
 subst hw;obtain⟨i0,hi,hz0,hz1,hz2⟩:=info_parts hinfo;refine wpList_append_own _ hgd s x t ho base e i0 z 1 bytes ht hi hz0 hz1 hz2 hzs aI v n xs hs (hown.alloc _) ⟨W.heap.size,0,none⟩ 1 1 [u] hx rfl ?_ ?_ h63 hbytes ?_ ?_
 ·intro j y hj;match j,hj with
  |0,hj=>simp at hj;subst hj;simp[Addr.add,World.cell?_alloc_new]
 ·intro y hy;simp at hy;subst hy;exact hu
 ·have:(W.alloc (.cells #[u] e)).heap.size=W.heap.size+1:=aH;omega
 intro v' w' h1 h2 _;exact h v' w' h1 (((Below.refl base W).alloc hbase _).grown h2 aL (fun k hk=>(hown.lt k hk).1))
theorem Qbs(w:World)(src e dst:TypeId)(hs:P.underlying src=some (.slice e))(he:P.underlying e=some (.int .u8))(hd:P.underlying dst=some .string)
  (base:Nat) (v:Value) (l:List UInt8) (n:Nat) (hn:n=l.length) (hown:w.ownsRow base e 1 v n (Ea l)):(convert src dst v).run P w=.ok l w:=by
 subst hn;rcases hown.2 with⟨rfl,h0⟩|⟨g,cap,cur,rfl,_,hh,hnc,hcm,hcs,htk⟩
 ·obtain rfl:l=[]:=List.eq_nil_of_length_eq_zero h0;exact Lib.run_convert_nil_bytes w src dst e 0 hs he hd
 have hc:=hown.cells (g:=g) rfl
 have h:=run_convert_bytes_arg (P:=P) w src e hs he g 0 l.length cap (l.map fun c=>(c.toNat:Int)) aH (fun i hi=>by
  have:=hc i (.int .u8 (l[i].toNat:Int)) (by simp[Ea,hi]);have e1:(⟨g,0,none⟩:Addr).add i=⟨g,0+i,none⟩:=bn;rw[e1]at this;rw[this];simp[List.getD,hi]) dst hd
 rw[h];have:strOfNums (l.map fun c=>(c.toNat:Int))=⟨l.toArray⟩:=by
  simp[strOfNums,Function.comp_def]
 rw[this]
theorem Qgn(W:World)(src e dst:TypeId)(hs:P.underlying src=some (.slice e))(he:P.underlying e=some (.int .u8))(hd:P.underlying dst=some .string)
  (g c:Nat) (b:UInt8) (hc:W.cell? (g,0)=some (.int .u8 (b.toNat:Int))):(convert src dst (.slice (g,0) 1 c)).run P W=.ok (.string ⟨[b].toArray⟩) W:=by
 have h:=run_convert_bytes_arg (P:=P) W src e hs he g 0 1 c [(b.toNat:Int)] rfl (fun i hi=>by
  obtain rfl:i=0:=aF;simpa using hc) dst hd
 rw[h];simp[strOfNums]
end
theorem Py(W:World)(g c:Nat)(b:UInt8)(hc:W.cell? (g,0)=some (.int .u8 (b.toNat:Int))):
  (convert 22 9 (.slice (g,0) 1 c)).run prog W=.ok (.string ⟨[b].toArray⟩) W:=
 Qgn W 22 5 9 underlying22 underlying5 underlying9 g c b hc
theorem Bx{W w1:World}(hb:Below W.heap.size W w1):(∀b o,b<W.heap.size->w1.cell? ⟨b,o,none⟩=W.cell? ⟨b,o,none⟩)/\(∀b o,b<W.heap.size->w1.frozen? ⟨b,o,none⟩=W.frozen? ⟨b,o,none⟩)/\(∀b,b<W.heap.size->b<w1.heap.size):=
 ⟨fun b o h=>hb.cell (p:=⟨b,o,none⟩) h,fun b o h=>hb.frozen (p:=⟨b,o,none⟩) h,fun _ h=>a8 h hb.size⟩
theorem Tryz.infoU8:(prog.info? 5).map (fun i=>(i.zero,i.size,i.bytes))=some (some (.int .u8 0),1,1):=aJ
theorem Ta:(prog.info? 9).map (fun i=>(i.zero,i.size,i.bytes))=some (some (.string ⟨#[]⟩),1,16):=aJ
theorem Ac:True:=True.intro
theorem Aa{p:Prop}(h:p):Hid p:=h
theorem Am(n:Nat):n<=n:=Nat.le_refl n
theorem _root_.Go.RowKit.Hid.o{p:Prop}(h:Hid p):p:=h
theorem Ar(n:Nat)(w:World):Below n w w:=Below.refl n w
theorem Ec{a a':Value}(h:a=a'):Ending.returned a=.returned a':=by rw[h]
theorem Qiq{a b a' b':Value}(h1:a=a')(h2:b=b'):Ending.returned (.tuple #[a,b])=.returned (.tuple #[a',b']):=by rw[h1,h2]
theorem Qln{a b c a' b' c':Value}(h1:a=a')(h2:b=b')(h3:c=c'):Ending.returned (.tuple #[a,b,c])=.returned (.tuple #[a',b',c']):=by rw[h1,h2,h3]
theorem Qk5{k:IntKind}{x y:Int}(h:x=y):Value.int k x=.int k y:=by rw[h]
theorem Qg4{x y:List UInt8}(h:x=y):Value.string ⟨x.toArray⟩=y:=by rw[h]
theorem Cn{x y:Bool}(h:x=y):Value.bool x=.bool y:=by rw[h]
def Cw(n:Nat):UInt8:=UInt8.ofNat n
theorem Dm{n:Nat}(h:n<256):(Cw n).toNat=n:=by unfold Cw;exact UInt8.toNat_ofNat_of_lt' h
def Dg(n:Nat):List UInt8:=
 if n<128 then[Cw n]else if n<16384 then[Cw (n % 128+128),Cw (n / 128)]else[Cw (n % 128+128),Cw (n / 128 % 128+128),Cw (n / 16384)]
theorem Tn{n:Nat}(h:n<128):Dg n=[Cw n]:=by unfold Dg;rw[if_pos h]
theorem Rj{n:Nat}(h:128<=n)(h2:n<2097152):Dg n=Cw (n % 128+128)::Dg (n / 128):=by
 unfold Dg;by_cases h3:n<16384
 ·rw[if_neg aF,if_pos h3,if_pos aF]
 rw[if_neg aF,if_neg h3,if_neg aF,if_pos aF];have:n / 16384=n / 128 / 128:=aF;rw[this]
theorem S1(n:Nat):1<=(Dg n).length:=by
 unfold Dg;split
 ·simp
 split<;>simp
theorem Cb(n:Nat):(Dg n).length<=3:=by
 unfold Dg;split
 ·simp
 split<;>simp
def Gx(c:UInt8):Bool:=decide (97<=c.toNat) && decide (c.toNat<=122)
def Az(c:UInt8):Bool:=decide (48<=c.toNat) && decide (c.toNat<=57)
def At(s:List UInt8):Bool:=decide (1<=s.length) && decide (s.length<=3) && s.all Gx
theorem Dd{c:UInt8}:Az c=true↔48<=c.toNat/\c.toNat<=57:=by simp[Az]
theorem Mm{c:UInt8}:Gx c=true↔97<=c.toNat/\c.toNat<=122:=by simp[Gx]
theorem Dj{s:List UInt8}:At s=true↔1<=s.length/\s.length<=3/\∀c∈s,Gx c=true:=by
 simp[At,and_assoc]
def Au(n:Nat):List UInt8:=if h:n<10 then[Cw (48+n)]else Au (n / 10)++[Cw (48+n % 10)]
termination_by n
decreasing_by omega
theorem Ed{n:Nat}(h:n<10):Au n=[Cw (48+n)]:=by rw[Au,dif_pos h]
theorem Mw{n:Nat}(h:¬n<10):Au n=Au (n / 10)++[Cw (48+n % 10)]:=by rw[Au,dif_neg h]
def Fm(s:List UInt8):Nat:=s.foldl (fun n c=>10*n+(c.toNat - 48)) 0
theorem J3(s:List UInt8)(c:UInt8):Fm (s++[c])=10*Fm s+(c.toNat - 48):=by simp[Fm,List.foldl_append]
theorem Qgx:Fm []=0:=rfl
def Cg(s:List UInt8):Option Nat:=
 if 1<=s.length/\s.length<=6/\s.all Az=true/\(s.head?≠some 48\/s.length=1)then some (Fm s)else none
theorem Ej{α:Type}(s:List α):s=[]\/∃t c,s=t++[c]:=by
 rcases s.eq_nil_or_concat with h|⟨t,c,h⟩
 ·exact .inl h
 exact .inr ⟨t,c,by simpa using h⟩
theorem Tc:∀(k:Nat) (s:List UInt8),s.length=k->s.all Az=true->Fm s<10 ^ k
 |0,s,h,_=>by
  obtain rfl:=List.eq_nil_of_length_eq_zero h;simp[Fm]
 |k+1,s,h,ha=>by
  rcases Ej s with rfl|⟨t,c,rfl⟩
  ·simp at h
  simp at h;simp only[List.all_append,au,List.all_cons,List.all_nil,Bool.and_true]at ha;have ih:=Tc k t h ha.1;have hc:=Dd.1 ha.2;rw[J3,Nat.pow_succ];omega
theorem Qb1:∀(k:Nat) (s:List UInt8),s.length=k->s≠[]->s.all Az=true->s.head?≠some 48->0<Fm s
 |0,s,h,hn,_,_=>absurd (List.eq_nil_of_length_eq_zero h) hn
 |k+1,s,h,hn,ha,hh=>by
  rcases Ej s with rfl|⟨t,c,rfl⟩
  ·exact absurd rfl hn
  simp at h;simp only[List.all_append,au,List.all_cons,List.all_nil,Bool.and_true]at ha;have hc:=Dd.1 ha.2;rw[J3];by_cases ht:t=[]
  ·subst ht;simp at hh;have:c.toNat≠48:=fun e=>hh (UInt8.toNat_inj.1 e);omega
  have hh':t.head?≠some 48:=by
   cases t with
   |nil=>exact absurd rfl ht
   |cons a t=>simpa using hh
  have:=Qb1 k t h ht ha.1 hh';omega
theorem Yt:∀(k:Nat) (s:List UInt8),s.length=k->s≠[]->s.all Az=true->(s.head?≠some 48\/s.length=1)->Au (Fm s)=s
 |0,s,h,hn,_,_=>absurd (List.eq_nil_of_length_eq_zero h) hn
 |k+1,s,h,hn,ha,hh=>by
  rcases Ej s with rfl|⟨t,c,rfl⟩
  ·exact absurd rfl hn
  simp at h;simp only[List.all_append,au,List.all_cons,List.all_nil,Bool.and_true]at ha;have hc:=Dd.1 ha.2;have hc2:Cw (48+(c.toNat - 48))=c:=by
   apply UInt8.toNat_inj.1;rw[Dm aF];omega
  rw[J3];by_cases ht:t=[]
  ·subst ht;rw[Qgx,Ed aF];simp[hc2]
  have hl:0<t.length:=List.length_pos_iff.2 ht;have hh1:t.head?≠some 48:=by
   cases t with
   |nil=>exact absurd rfl ht
   |cons a t=>rcases hh with hh|hh<;>simp at hh ⊢<;>first|exact hh|omega
  have hp:=Qb1 t.length t rfl ht ha.1 hh1;have ih:=Yt k t h ht ha.1 (.inl hh1);rw[Mw aF];have e1:(10*Fm t+(c.toNat - 48)) / 10=Fm t:=aF;have e2:(10*Fm t+(c.toNat - 48)) % 10=c.toNat - 48:=aF;rw[e1,e2,ih,hc2]
theorem Kc:∀(k n:Nat),n<=k->Au n≠[]/\(Au n).all Az=true/\Fm (Au n)=n/\((Au n).head?≠some 48\/n=0)/\(n<10->(Au n).length=1)/\(10<=n->2<=(Au n).length)
 |0,n,h=>by
  obtain rfl:n=0:=aF;rw[Ed aF];refine⟨by simp,by decide,by decide,.inr rfl,fun _=>rfl,fun h=>by omega⟩
 |k+1,n,h=>by
  by_cases hn:n<10
  ·rw[Ed hn];have e:(Cw (48+n)).toNat=48+n:=Dm aF;refine⟨by simp,by simp[Dd,e];omega,?_,?_,fun _=>rfl,fun h=>by omega⟩
   ·show 10*0+((Cw (48+n)).toNat - 48)=n;omega
   by_cases h0:n=0
   ·exact .inr h0
   refine .inl ?_;intro hh;simp at hh;have:=congrArg UInt8.toNat hh;rw[e]at this;have h48:(48:UInt8).toNat=48:=rfl;omega
  obtain⟨i1,i2,i3,i4,_,_⟩:=Kc k (n / 10) aF;have e:(Cw (48+n % 10)).toNat=48+n % 10:=Dm aF;have hl:0<(Au (n / 10)).length:=List.length_pos_iff.2 i1;rw[Mw hn];refine⟨by simp,?_,?_,?_,fun h=>absurd h hn,fun _=>by simp;omega⟩
  ·simp only[List.all_append,au,List.all_cons,List.all_nil,Bool.and_true];exact⟨i2,Dd.2 aF⟩
  ·rw[J3,i3,e];omega
  refine .inl ?_;have e1:(Au (n / 10)++[Cw (48+n % 10)]).head?=(Au (n / 10)).head?:=by
   cases hd:Au (n / 10)with
   |nil=>exact absurd hd i1
   |cons a t=>rfl
  rw[e1];rcases i4 with h|h
  ·exact h
  omega
theorem Pn(n:Nat):Au n≠[]:=(Kc n n (Nat.le_refl _)).1
theorem Np(n:Nat):(Au n).all Az=true:=(Kc n n (Nat.le_refl _)).2.1
theorem Po(n:Nat):Fm (Au n)=n:=(Kc n n (Nat.le_refl _)).2.2.1
theorem Qfz(n:Nat):(Au n).head?≠some 48\/(Au n).length=1:=by
 obtain⟨_,_,_,h4,h5,_⟩:=Kc n n (Nat.le_refl _);rcases h4 with h|h
 ·exact .inl h
 exact .inr (h5 aF)
theorem Qgq{m n:Nat}(h:Au m=Au n):m=n:=by rw[<-Po m,h,Po]
theorem Di:∀(k n:Nat),n<10 ^ (k+1)->(Au n).length<=k+1
 |0,n,h=>by rw[Ed aV];simp
 |k+1,n,h=>by
  by_cases hn:n<10
  ·rw[Ed hn];simp
  rw[Mw hn];have:=Di k (n / 10) (by rw[Nat.pow_succ]at h;omega);simp;omega
theorem Br{s:List UInt8}{n:Nat}:Cg s=some n↔n<=999999/\s=Au n:=by
 unfold Cg;constructor
 ·intro h;split at h
  ·rename_i hc;obtain⟨h1,h2,h3,h4⟩:=hc;injection h with h;have hn:s≠[]:=List.length_pos_iff.1 aF;have hv:=Tc s.length s rfl h3;have hle:10 ^ s.length<=10 ^ 6:=Nat.pow_le_pow_right aF h2;have e6:10 ^ 6=1000000:=rfl;refine⟨by omega,?_⟩;rw[<-h];exact(Yt s.length s rfl hn h3 h4).symm
  cases h
 rintro⟨h1,rfl⟩;have hl:=Di 5 n eW;have hp:0<(Au n).length:=List.length_pos_iff.2 (Pn n);rw[if_pos ⟨by omega,by omega,Np n,Qfz n⟩,Po]
structure Kd where
 signs:List UInt8
 base:List UInt8
 name:List UInt8
deriving DecidableEq
def Bm(c:UInt8):Bool:=c == 91 || c == 63
def Bk(k:Kd):List UInt8:=if k.base=[64]then 64::(k.name++[59])else k.base
def Be(k:Kd):List UInt8:=k.signs++Bk k
def Kd.nil:Kd:=⟨[],[],[]⟩
def Kd.part(k:Kd):Kd:={k with signs:=k.signs.tail}
def Kd.core(k:Kd):Kd:={k with signs:=[]}
def Zn(k:Kd):Prop:=(k.base=[64]/\At k.name=true)\/((k.base=[110]\/k.base=[116]\/k.base=[102])/\k.name=[])
def Cs(k:Kd):Prop:=k.signs.all Bm=true/\Zn k/\(Be k).length<=12
theorem Ys{k:Kd}(h:Zn k):∃c t,Bk k=c::t/\Bm c=false:=by
 unfold Bk;rcases h with⟨h,_⟩|⟨h|h|h,_⟩
 ·rw[if_pos h];exact⟨64,_,rfl,by decide⟩
 ·rw[h,if_neg aI];exact⟨110,[],rfl,by decide⟩
 ·rw[h,if_neg aI];exact⟨116,[],rfl,by decide⟩
 rw[h,if_neg aI];exact⟨102,[],rfl,by decide⟩
theorem E0{p:UInt8->Bool}:∀{a b:List UInt8},a.all p=true->(∃c t,b=c::t/\p c=false)->(a++b).takeWhile p=a/\(a++b).dropWhile p=b
 |[],b,_,⟨c,t,e,h⟩=>by subst e;simp[h]
 |x::a,b,ha,hb=>by
  simp only[List.all_cons,au]at ha;have ih:=E0 ha.2 hb;simp[ha.1,ih.1,ih.2]
theorem Jk{p:UInt8->Bool}:∀(a:List UInt8),(a.takeWhile p).all p=true
 |[]=>rfl
 |x::a=>by
  by_cases h:p x=true
  ·simp[h]
  simp[h]
def Cm(s:List UInt8):Option Kd:=
 if 12<s.length then none
 else if s.dropWhile Bm=[110]\/s.dropWhile Bm=[116]\/s.dropWhile Bm=[102]then some ⟨s.takeWhile Bm,s.dropWhile Bm,[]⟩
 else if (s.dropWhile Bm).head?=some 64/\(s.dropWhile Bm).getLast?=some 59/\At ((s.dropWhile Bm).drop 1).dropLast=true then some ⟨s.takeWhile Bm,[64],((s.dropWhile Bm).drop 1).dropLast⟩
 else none
theorem Qd4{r:List UInt8}(h1:r.head?=some 64)(h2:r.getLast?=some 59):r=64::((r.drop 1).dropLast++[59]):=by
 cases r with
 |nil=>simp at h1
 |cons a t=>
  simp at h1;subst h1;rcases Ej t with rfl|⟨u,c,rfl⟩
  ·simp at h2
  have:c=59:=by
   rw[show (64:UInt8)::(u++[c])=(64::u)++[c]from rfl,List.getLast?_append]at h2;simpa using h2
  subst this;simp
theorem Ek{s:List UInt8}{k:Kd}:Cm s=some k↔Cs k/\Be k=s:=by
 have htd:s.takeWhile Bm++s.dropWhile Bm=s:=List.takeWhile_append_dropWhile;constructor
 ·intro h;unfold Cm at h;split at h
  ·cases h
  rename_i h12;split at h
  ·rename_i hb;injection h with h;subst h;have hcore:Bk ⟨s.takeWhile Bm,s.dropWhile Bm,[]⟩=s.dropWhile Bm:=by
    unfold Bk;rw[if_neg];rcases hb with h|h|h<;>· show ¬s.dropWhile Bm=_;rw[h];decide
   have e:Be ⟨s.takeWhile Bm,s.dropWhile Bm,[]⟩=s:=by unfold Be;rw[hcore];exact htd
   exact⟨⟨Jk s,.inr ⟨hb,rfl⟩,by rw[e];omega⟩,e⟩
  split at h
  ·rename_i hb;injection h with h;subst h;have e1:=Qd4 hb.1 hb.2.1;have e:Be ⟨s.takeWhile Bm,[64],((s.dropWhile Bm).drop 1).dropLast⟩=s:=by
    unfold Be Bk;rw[if_pos rfl];show s.takeWhile Bm++64::(((s.dropWhile Bm).drop 1).dropLast++[59])=s;rw[<-e1];exact htd
   exact⟨⟨Jk s,.inl ⟨rfl,hb.2.2⟩,by rw[e];omega⟩,e⟩
  cases h
 rintro⟨⟨h1,h2,h3⟩,rfl⟩;obtain⟨e1,e2⟩:=E0 h1 (Ys h2);unfold Cm;rw[if_neg aF];show (if (k.signs++Bk k).dropWhile Bm=[110]\/_ then _ else _)=_;unfold Be;rw[e1,e2];obtain⟨sg,b,nm⟩:=k;rcases h2 with⟨h,hn⟩|⟨h,hn⟩
 ·simp only at h hn;subst h;unfold Bk;simp only[if_pos];rw[if_neg aH,if_pos]
  ·simp
  refine⟨rfl,?_,by simpa using hn⟩;rw[show (64:UInt8)::(nm++[59])=(64::nm)++[59]from rfl,List.getLast?_append];rfl
 simp only at h hn;subst hn;have hc:Bk ⟨sg,b,[]⟩=b:=by
  unfold Bk;rw[if_neg];rcases h with h|h|h<;>· show ¬b=_;rw[h];decide
 rw[hc,if_pos h]
theorem M8{k:Kd}(h:Cs k):Cs k.part/\(k.signs≠[]->Be k.part=(Be k).tail/\(Be k.part).length+1=(Be k).length):=by
 obtain⟨h1,h2,h3⟩:=h;obtain⟨sg,b,nm⟩:=k;have hc:∀g,Bk ⟨g,b,nm⟩=Bk ⟨sg,b,nm⟩:=fun g=>rfl;cases sg with
 |nil=>exact⟨⟨h1,h2,h3⟩,fun h=>absurd rfl h⟩
 |cons c t=>
  simp only[List.all_cons,au]at h1;have e:Be (Kd.part ⟨c::t,b,nm⟩)=(Be ⟨c::t,b,nm⟩).tail:=rfl;have el:(Be (Kd.part ⟨c::t,b,nm⟩)).length+1=(Be ⟨c::t,b,nm⟩).length:=rfl;exact⟨⟨h1.2,h2,by omega⟩,fun _=>⟨e,el⟩⟩
def Ai(c:UInt8):List UInt8->List (List UInt8)
 |[]=>[[]]
 |x::s=>if x=c then[]::Ai c s else match Ai c s with
  |p::ps=>(x::p)::ps
  |[]=>[[x]]
def As(c:UInt8):List (List UInt8)->List UInt8
 |[]=>[]
 |[p]=>p
 |p::ps=>p++c::As c ps
theorem D8(c:UInt8)(s:List UInt8):Ai c s≠[]:=by
 cases s with
 |nil=>simp[Ai]
 |cons x s=>
  simp only[Ai];split
  ·simp
  split<;>simp
theorem Cx(c:UInt8)(p:List UInt8){ps:List (List UInt8)}(h:ps≠[]):As c (p::ps)=p++c::As c ps:=by
 cases ps with
 |nil=>exact absurd rfl h
 |cons q ps=>rfl
theorem Ny(c:UInt8):∀s:List UInt8,As c (Ai c s)=s
 |[]=>rfl
 |x::s=>by
  have ih:=Ny c s;have hn:=D8 c s;simp only[Ai];split
  ·rename_i h;rw[Cx c _ hn,ih,h];rfl
  cases hs:Ai c s with
  |nil=>exact absurd hs hn
  |cons p ps=>
   rw[hs]at ih;cases ps with
   |nil=>simpa [As]using ih
   |cons q ps=>
    rw[Cx c _ aH]at ih ⊢;simp[ih]
theorem Yu(c:UInt8):∀s:List UInt8,∀p∈Ai c s,c∉p
 |[],p,hp=>by simp[Ai]at hp;simp[hp]
 |x::s,p,hp=>by
  have ih:=Yu c s;simp only[Ai]at hp;split at hp
  ·rcases ay.1 hp with rfl|hp
   ·simp
   exact ih p hp
  rename_i hx;cases hs:Ai c s with
  |nil=>exact absurd hs (D8 c s)
  |cons q qs=>
   rw[hs]at hp ih;rcases ay.1 hp with rfl|hp
   ·have:=ih q aH;simp;exact⟨fun h=>hx h.symm,this⟩
   exact ih p dG
theorem Ft(c:UInt8):∀p:List UInt8,c∉p->Ai c p=[p]
 |[],_=>rfl
 |x::p,h=>by
  simp at h;simp only[Ai];rw[if_neg (fun e=>h.1 e.symm),Ft c p h.2]
theorem Km(c:UInt8):∀(p s:List UInt8),c∉p->Ai c (p++c::s)=p::Ai c s
 |[],s,_=>by simp[Ai]
 |x::p,s,h=>by
  simp at h;simp only[ar,Ai];rw[if_neg (fun e=>h.1 e.symm),Km c p s h.2]
theorem Kw(c:UInt8):∀ps:List (List UInt8),ps≠[]->(∀p∈ps,c∉p)->Ai c (As c ps)=ps
 |[],h,_=>absurd rfl h
 |[p],_,h=>Ft c p (h p aH)
 |p::q::ps,_,h=>by
  rw[Cx c p aH,Km c p _ (h p aH),Kw c (q::ps) aH (fun x hx=>h x (by simp[hx]))]
theorem Du{c:UInt8}{s:List UInt8}{ps:List (List UInt8)}:Ai c s=ps↔ps≠[]/\(∀p∈ps,c∉p)/\As c ps=s:=
 ⟨fun h=>by subst h;exact⟨D8 c s,Yu c s,Ny c s⟩,fun⟨h1,h2,h3⟩=>by rw[<-h3];exact Kw c ps h1 h2⟩
theorem Gi(c:UInt8):∀s:List UInt8,(Ai c s).length<=s.length+1
 |[]=>by simp[Ai]
 |x::s=>by
  have ih:=Gi c s;simp only[Ai];split
  ·simp;exact ih
  cases hs:Ai c s with
  |nil=>exact absurd hs (D8 c s)
  |cons p ps=>rw[hs]at ih;simp at ih ⊢;omega
theorem Ak(c:UInt8):∀s:List UInt8,∀p∈Ai c s,p.length<=s.length
 |[],p,h=>by simp[Ai]at h;simp[h]
 |x::s,p,h=>by
  have ih:=Ak c s;simp only[Ai]at h;split at h
  ·rcases ay.1 h with rfl|h
   ·simp
   exact Nat.le_succ_of_le (ih p h)
  cases hs:Ai c s with
  |nil=>exact absurd hs (D8 c s)
  |cons q qs=>
   rw[hs]at ih h;rcases ay.1 h with rfl|h
   ·have:=ih q aH;simp;exact this
   have:=ih p (by simp[h]);simp;omega
def Cy(c:UInt8)(s:List UInt8):List UInt8 × List UInt8 × Bool:=
 if c∈s then(s.takeWhile (· != c),(s.dropWhile (· != c)).tail,true)else(s,[],false)
theorem Pf{c:UInt8}{s:List UInt8}(h:c∉s):Cy c s=(s,[],false):=if_neg h
theorem Eb{c:UInt8}{p s:List UInt8}(h:c∉p):Cy c (p++c::s)=(p,s,true):=by
 unfold Cy;rw[if_pos aH];have h1:p.all (fun x=>x != c)=true:=by
  rw[List.all_eq_true];intro x hx;simp;rintro rfl;exact h hx
 obtain⟨e1,e2⟩:=E0 (p:=fun x=>x != c) h1 ⟨c,s,rfl,by simp⟩;rw[e1,e2];rfl
theorem Qbd{c:UInt8}:∀{s:List UInt8},c∈s->∃p t,s=p++c::t/\c∉p
 |x::s,h=>by
  by_cases hx:x=c
  ·exact⟨[],s,by simp[hx],by simp⟩
  obtain⟨p,t,e,hp⟩:=Qbd (s:=s) (by rcases ay.1 h with h|h;exact absurd h.symm hx;exact h);exact⟨x::p,t,by simp[e],by simp;exact⟨fun e=>hx e.symm,hp⟩⟩
theorem Eu(c:UInt8)(s:List UInt8):(c∉s/\Cy c s=(s,[],false))\/∃p t,s=p++c::t/\c∉p/\Cy c s=(p,t,true):=by
 by_cases h:c∈s
 ·obtain⟨p,t,e,hp⟩:=Qbd h;exact .inr ⟨p,t,e,hp,by rw[e];exact Eb hp⟩
 exact .inl ⟨h,Pf h⟩
def B0(c:UInt8):Bool:=Gx c || Az c || c == 32
def Dk(s:List UInt8):Bool:=decide (s.length<=12) && s.all B0
def Bv(b s:List UInt8):Bool:=
 if b=[110]then(match Cg s with|some n=>decide (0<n)|none=>false)
 else if b=[116]then decide (2<s.length) && decide (s.head?=some 39) && decide (s.getLast?=some 39) && Dk (s.drop 1).dropLast
 else if b=[102]then decide (s=[121,101,115])else false
theorem Qcm{r:List UInt8}(h:2<r.length)(h1:r.head?=some 39)(h2:r.getLast?=some 39):r=39::((r.drop 1).dropLast++[39]):=by
 cases r with
 |nil=>simp at h1
 |cons a t=>
  simp at h1;subst h1;rcases Ej t with rfl|⟨u,c,rfl⟩
  ·simp at h
  have:c=39:=by
   rw[show (39:UInt8)::(u++[c])=(39::u)++[c]from rfl,List.getLast?_append]at h2;simpa using h2
  subst this;simp
def Ge(c:UInt8):Prop:=c≠10/\c≠44/\c≠58/\c≠61
theorem Yd{c:UInt8}(h:Az c=true):Ge c:=by
 rw[Dd]at h;refine⟨?_,?_,?_,?_⟩<;>(rintro rfl;revert h;decide)
theorem Ya{c:UInt8}(h:Gx c=true):Ge c:=by
 rw[Mm]at h;refine⟨?_,?_,?_,?_⟩<;>(rintro rfl;revert h;decide)
theorem Qfj{c:UInt8}(h:B0 c=true):Ge c:=by
 unfold B0 at h;simp only[Bool.or_eq_true]at h;rcases h with(h|h)|h
 ·exact Ya h
 ·exact Yd h
 have:c=32:=aV;subst this;exact⟨by decide,by decide,by decide,by decide⟩
theorem Qcs{c:UInt8}(h:Bm c=true):Ge c:=by
 unfold Bm at h;simp only[Bool.or_eq_true,beq_iff_eq]at h;rcases h with rfl|rfl<;>exact⟨by decide,by decide,by decide,by decide⟩
theorem El(n:Nat):∀c∈Au n,Ge c:=fun c hc=>Yd (List.all_eq_true.1 (Np n) c hc)
theorem Ds{s:List UInt8}(h:At s=true):∀c∈s,Ge c:=fun c hc=>Ya ((Dj.1 h).2.2 c hc)
theorem Je{k:Kd}(h:Cs k):∀c∈Be k,Ge c:=by
 intro c hc;obtain⟨h1,h2,_⟩:=h;unfold Be Bk at hc;rcases ad.1 hc with hc|hc
 ·exact Qcs (List.all_eq_true.1 h1 c hc)
 rcases h2 with⟨h,hn⟩|⟨h,_⟩
 ·rw[if_pos h]at hc;rcases ay.1 hc with rfl|hc
  ·exact⟨by decide,by decide,by decide,by decide⟩
  rcases ad.1 hc with hc|hc
  ·exact Ds hn c hc
  simp at hc;subst hc;exact⟨by decide,by decide,by decide,by decide⟩
 rw[if_neg (by rcases h with h|h|h<;>· rw[h];decide)]at hc;rcases h with h|h|h<;>· rw[h]at hc;simp at hc;subst hc;exact⟨by decide,by decide,by decide,by decide⟩
theorem Ma{b s:List UInt8}(h:Bv b s=true):s≠[]/\∀c∈s,Ge c:=by
 unfold Bv at h;split at h
 ·cases hd:Cg s with
  |none=>rw[hd]at h;cases h
  |some n=>
   obtain⟨_,e⟩:=Br.1 hd;subst e;exact⟨Pn n,El n⟩
 split at h
 ·simp only[au,decide_eq_true_eq]at h;obtain⟨⟨⟨h1,h2⟩,h3⟩,h4⟩:=h;have e:=Qcm h1 h2 h3;refine⟨by intro hh;rw[hh]at h1;simp at h1,fun c hc=>?_⟩;rw[e]at hc;have q:Ge 39:=⟨by decide,by decide,by decide,by decide⟩
  rcases ay.1 hc with rfl|hc
  ·exact q
  rcases ad.1 hc with hc|hc
  ·unfold Dk at h4;simp only[au]at h4;exact Qfj (List.all_eq_true.1 h4.2 c hc)
  simp at hc;subst hc;exact q
 split at h
 ·simp only[decide_eq_true_eq]at h;subst h;refine⟨by simp,fun c hc=>?_⟩;simp at hc;rcases hc with rfl|rfl|rfl<;>exact⟨by decide,by decide,by decide,by decide⟩
 cases h
theorem M3{b s:List UInt8}(h:Bv b s=true):b=[110]\/b=[116]\/b=[102]:=by
 unfold Bv at h;split at h
 ·exact .inl (by assumption)
 split at h
 ·exact .inr (.inl (by assumption))
 split at h
 ·exact .inr (.inr (by assumption))
 cases h
structure Fd where
 tag:Nat
 name:List UInt8
 kind:Kd
 given:List UInt8
deriving DecidableEq
def Kn(st:UInt8)(f:Fd):List UInt8:=if st=69 then[]else 58::(Be f.kind++if f.given=[]then[]else 61::f.given)
def N9(st:UInt8)(f:Fd):List UInt8:=Au f.tag++58::(f.name++Kn st f)
def S9(st:UInt8)(f:Fd):Prop:=
 1<=f.tag/\f.tag<=200/\At f.name=true/\(st=69->f.kind=Kd.nil/\f.given=[]) /\
 (st≠69->Cs f.kind/\(f.given≠[]->st=82/\f.kind.signs=[]/\Bv f.kind.base f.given=true))
theorem D4{s:List UInt8}(h:∀c∈s,Ge c):10∉s/\44∉s/\58∉s/\61∉s:=
 ⟨fun hc=>(h _ hc).1 rfl,fun hc=>(h _ hc).2.1 rfl,fun hc=>(h _ hc).2.2.1 rfl,fun hc=>(h _ hc).2.2.2 rfl⟩
def Jw(p:List (List UInt8)):Option (Nat × List UInt8):=
 match p with
 |[a,b]=>(match Cg a with|some n=>if 1<=n/\n<=200/\At b=true then some (n,b)else none|none=>none)
 |_=>none
def Kr(p:List (List UInt8)):Option (Nat × List UInt8 × List UInt8):=
 match p with
 |[a,b,c]=>(match Cg a with|some n=>if 1<=n/\n<=200/\At b=true then some (n,b,c)else none|none=>none)
 |_=>none
def Gh(st:UInt8)(s:List UInt8):Option Fd:=
 if st=69 then
  match Jw (Ai 58 (Cy 61 s).1)with
  |some (n,b)=>if (Cy 61 s).2.2=true then none else some ⟨n,b,Kd.nil,(Cy 61 s).2.1⟩
  |none=>none
 else
  match Kr (Ai 58 (Cy 61 s).1)with
  |some (n,b,c)=>(match Cm c with
   |some k=>if (Cy 61 s).2.2=true/\¬(st=82/\k.signs=[]/\Bv k.base (Cy 61 s).2.1=true)then none else some ⟨n,b,k,(Cy 61 s).2.1⟩
   |none=>none)
  |none=>none
def Bt(st:UInt8)(s:List UInt8):Option Fd:=
 if st=69 then
  match Jw (Ai 58 s)with
  |some (n,b)=>some ⟨n,b,Kd.nil,[]⟩
  |none=>none
 else
  match Kr (Ai 58 s)with
  |some (n,b,c)=>(match Ai 61 c with
   |[k]=>(match Cm k with|some k=>some ⟨n,b,k,[]⟩|none=>none)
   |[k,v]=>if st=82/\Bv k v=true then some ⟨n,b,⟨[],k,[]⟩,v⟩else none
   |_=>none)
  |none=>none
theorem H4{p:List (List UInt8)}{n:Nat}{b:List UInt8}:Jw p=some (n,b)↔p=[Au n,b]/\1<=n/\n<=200/\At b=true:=by
 unfold Jw;constructor
 ·intro h;split at h
  ·rename_i a b';cases hd:Cg a with
   |none=>rw[hd]at h;cases h
   |some m=>
    rw[hd]at h;simp only at h;split at h
    ·rename_i hc;simp at h;obtain⟨rfl,rfl⟩:=h;rw[(Br.1 hd).2];exact⟨rfl,hc⟩
    cases h
  cases h
 rintro⟨rfl,h⟩;have e:=Br.2 ⟨(by omega:n<=999999),(rfl:Au n=Au n)⟩;simp only[e,if_pos h]
theorem Fr{p:List (List UInt8)}{n:Nat}{b c:List UInt8}:Kr p=some (n,b,c)↔p=[Au n,b,c]/\1<=n/\n<=200/\At b=true:=by
 unfold Kr;constructor
 ·intro h;split at h
  ·rename_i a b' c';cases hd:Cg a with
   |none=>rw[hd]at h;cases h
   |some m=>
    rw[hd]at h;simp only at h;split at h
    ·rename_i hc;simp at h;obtain⟨rfl,rfl,rfl⟩:=h;rw[(Br.1 hd).2];exact⟨rfl,hc⟩
    cases h
  cases h
 rintro⟨rfl,h⟩;have e:=Br.2 ⟨(by omega:n<=999999),(rfl:Au n=Au n)⟩;simp only[e,if_pos h]
theorem Nr{k:List UInt8}(h:k=[110]\/k=[116]\/k=[102]):Cs ⟨[],k,[]⟩/\Be ⟨[],k,[]⟩=k:=by
 rcases h with rfl|rfl|rfl<;>exact⟨⟨rfl,.inr ⟨by simp,rfl⟩,by decide⟩,by decide⟩
theorem Fh{st:UInt8}{s:List UInt8}{f:Fd}:Bt st s=some f↔S9 st f/\N9 st f=s:=by
 obtain⟨tg,nm,k,gv⟩:=f;unfold Bt;by_cases hst:st=69
 ·rw[if_pos hst];constructor
  ·intro h;cases hp:Jw (Ai 58 s)with
   |none=>rw[hp]at h;cases h
   |some x=>
    obtain⟨n,b⟩:=x;rw[hp]at h;simp at h;obtain⟨rfl,rfl,rfl,rfl⟩:=h;obtain⟨e,h1,h2,h3⟩:=H4.1 hp;obtain⟨_,_,e2⟩:=Du.1 e;exact⟨⟨h1,h2,h3,fun _=>⟨rfl,rfl⟩,fun h=>absurd hst h⟩,by rw[<-e2];simp[N9,Kn,hst,As]⟩
  rintro⟨⟨h1,h2,h3,h4,_⟩,rfl⟩;obtain⟨e1,e2⟩:=h4 hst;simp only at h1 h2 h3 e1 e2;subst e1;subst e2
  have hs:Ai 58 (N9 st ⟨tg,nm,Kd.nil,[]⟩)=[Au tg,nm]:=Du.2 ⟨by simp,by
   intro p hp;simp at hp;rcases hp with rfl|rfl
   ·exact gS
   exact(D4 (Ds h3)).2.2.1,by simp[N9,Kn,hst,As]⟩
  rw[hs,H4.2 ⟨rfl,h1,h2,h3⟩]
 rw[if_neg hst];constructor
 ·intro h;cases hp:Kr (Ai 58 s)with
  |none=>rw[hp]at h;cases h
  |some x=>
   obtain⟨n,b,c⟩:=x;rw[hp]at h;simp only at h;obtain⟨e,h1,h2,h3⟩:=Fr.1 hp;obtain⟨_,_,e2⟩:=Du.1 e;split at h
   ·rename_i k' hk;obtain⟨_,_,e3⟩:=Du.1 hk;simp[As]at e3;subst e3;cases hkl:Cm k' with
    |none=>rw[hkl]at h;cases h
    |some kk=>
     rw[hkl]at h;simp at h;obtain⟨rfl,rfl,rfl,rfl⟩:=h;obtain⟨hk1,hk2⟩:=Ek.1 hkl;exact⟨⟨h1,h2,h3,fun h=>absurd h hst,fun _=>⟨hk1,fun h=>absurd rfl h⟩⟩,by rw[<-e2];simp[N9,Kn,hst,As,hk2]⟩
   ·rename_i k' v hk;split at h
    ·rename_i hc;simp at h;obtain⟨rfl,rfl,rfl,rfl⟩:=h;obtain⟨_,_,e3⟩:=Du.1 hk;obtain⟨hn,_⟩:=Ma hc.2;obtain⟨o1,o2⟩:=Nr (M3 hc.2);refine⟨⟨h1,h2,h3,fun h=>absurd h hst,fun _=>⟨o1,fun _=>⟨hc.1,rfl,hc.2⟩⟩⟩,?_⟩;rw[<-e2,<-e3];simp[N9,Kn,hst,As,o2,hn]
    cases h
   cases h
 rintro⟨⟨h1,h2,h3,_,h4⟩,rfl⟩;obtain⟨hk,hg⟩:=h4 hst;simp only at h1 h2 h3 hk hg;by_cases hgv:gv=[]
 ·subst hgv
  have hs:Ai 58 (N9 st ⟨tg,nm,k,[]⟩)=[Au tg,nm,Be k]:=Du.2 ⟨by simp,by
   intro p hp;simp at hp;rcases hp with rfl|rfl|rfl
   ·exact gS
   ·exact(D4 (Ds h3)).2.2.1
   exact(D4 (Je hk)).2.2.1,by simp[N9,Kn,hst,As]⟩
  rw[hs,Fr.2 ⟨rfl,h1,h2,h3⟩];simp only;rw[Ft 61 (Be k) (D4 (Je hk)).2.2.2];simp only;rw[Ek.2 ⟨hk,rfl⟩]
 obtain⟨g1,g2,g3⟩:=hg hgv;obtain⟨_,hp⟩:=Ma g3;have hb:=M3 g3;obtain⟨o1,o2⟩:=Nr hb;have ek:k=⟨[],k.base,[]⟩:=by
  obtain⟨sg,b,nm'⟩:=k;simp only at g2 hb;subst g2;obtain⟨_,hbo,_⟩:=hk;rcases hbo with⟨h,_⟩|⟨_,h⟩
  ·exfalso
   simp only at h;rcases hb with hb|hb|hb<;>· rw[h]at hb;revert hb;decide
  simp only at h;rw[h]
 have eB:Be k=k.base:=by rw[ek];exact o2
 have nb:∀c∈Be k,Ge c:=Je hk
 have hs:Ai 58 (N9 st ⟨tg,nm,k,gv⟩)=[Au tg,nm,Be k++61::gv]:=Du.2 ⟨by simp,by
  intro p hp';simp at hp';rcases hp' with rfl|rfl|rfl
  ·exact gS
  ·exact(D4 (Ds h3)).2.2.1
  intro hc;rcases ad.1 hc with hc|hc
  ·exact(D4 nb).2.2.1 hc
  rcases ay.1 hc with hc|hc
  ·revert hc;decide
  exact(D4 hp).2.2.1 hc,by simp[N9,Kn,hst,As,hgv]⟩
 rw[hs,Fr.2 ⟨rfl,h1,h2,h3⟩];simp only;rw[Km 61 (Be k) gv (D4 nb).2.2.2,Ft 61 gv (D4 hp).2.2.2];simp only;rw[eB,if_pos ⟨g1,g3⟩,<-ek]
theorem Ss{st:UInt8}{s:List UInt8}{f:Fd}:Gh st s=some f↔S9 st f/\N9 st f=s:=by
 obtain⟨tg,nm,k,gv⟩:=f;constructor
 ·intro h;unfold Gh at h;by_cases hst:st=69
  ·rw[if_pos hst]at h;cases hp:Jw (Ai 58 (Cy 61 s).1)with
   |none=>rw[hp]at h;cases h
   |some x=>
    obtain⟨n,b⟩:=x;rw[hp]at h;simp only at h;obtain⟨e,h1,h2,h3⟩:=H4.1 hp;obtain⟨_,_,e2⟩:=Du.1 e;rcases Eu 61 s with⟨hn,hc⟩|⟨p,t,_,_,hc⟩
    ·rw[hc]at h e2;simp at h;obtain⟨rfl,rfl,rfl,rfl⟩:=h;exact⟨⟨h1,h2,h3,fun _=>⟨rfl,rfl⟩,fun h=>absurd hst h⟩,by simp only at e2;rw[<-e2];simp[N9,Kn,hst,As]⟩
    rw[hc]at h;simp at h
  rw[if_neg hst]at h;cases hp:Kr (Ai 58 (Cy 61 s).1)with
  |none=>rw[hp]at h;cases h
  |some x=>
   obtain⟨n,b,c⟩:=x;rw[hp]at h;simp only at h;obtain⟨e,h1,h2,h3⟩:=Fr.1 hp;obtain⟨_,_,e2⟩:=Du.1 e;cases hkl:Cm c with
   |none=>rw[hkl]at h;cases h
   |some kk=>
    obtain⟨hk1,hk2⟩:=Ek.1 hkl;rw[hkl]at h;simp only at h;rcases Eu 61 s with⟨hn,hc⟩|⟨p,t,ec,_,hc⟩
    ·rw[hc]at h e2;simp at h;obtain⟨rfl,rfl,rfl,rfl⟩:=h;exact⟨⟨h1,h2,h3,fun h=>absurd h hst,fun _=>⟨hk1,fun h=>absurd rfl h⟩⟩,by simp only at e2;rw[<-e2];simp[N9,Kn,hst,As,hk2]⟩
    rw[hc]at h e2;simp only at h e2;split at h
    ·cases h
    rename_i hcc;have hcc':st=82/\kk.signs=[]/\Bv kk.base t=true:=Decidable.byContradiction fun hh=>hcc ⟨trivial,hh⟩;simp at h;obtain⟨rfl,rfl,rfl,rfl⟩:=h;obtain⟨hn,_⟩:=Ma hcc'.2.2;exact⟨⟨h1,h2,h3,fun h=>absurd h hst,fun _=>⟨hk1,fun _=>hcc'⟩⟩,by rw[ec,<-e2];simp[N9,Kn,hst,As,hk2,hn]⟩
 intro h;have hS:=Fh.2 h;obtain⟨⟨h1,h2,h3,h4,h5⟩,rfl⟩:=h;simp only at h1 h2 h3 h4 h5;unfold Gh;by_cases hst:st=69
 ·obtain⟨e1,e2⟩:=h4 hst;subst e1;subst e2;have hno:61∉N9 st ⟨tg,nm,Kd.nil,[]⟩:=by
   simp[N9,Kn,hst];exact⟨(D4 (El tg)).2.2.2,(D4 (Ds h3)).2.2.2⟩
  rw[if_pos hst,Pf hno];simp only
  have hs:Ai 58 (N9 st ⟨tg,nm,Kd.nil,[]⟩)=[Au tg,nm]:=Du.2 ⟨by simp,by
   intro p hp;simp at hp;rcases hp with rfl|rfl
   ·exact gS
   exact(D4 (Ds h3)).2.2.1,by simp[N9,Kn,hst,As]⟩
  rw[hs,H4.2 ⟨rfl,h1,h2,h3⟩];simp
 obtain⟨hk,hg⟩:=h5 hst;have nb:∀c∈Be k,Ge c:=Je hk;have hno:61∉Au tg++58::(nm++58::Be k):=by
  simp;exact⟨(D4 (El tg)).2.2.2,(D4 (Ds h3)).2.2.2,(D4 nb).2.2.2⟩
 have hs:Ai 58 (Au tg++58::(nm++58::Be k))=[Au tg,nm,Be k]:=Du.2 ⟨by simp,by
  intro p hp;simp at hp;rcases hp with rfl|rfl|rfl
  ·exact gS
  ·exact(D4 (Ds h3)).2.2.1
  exact(D4 nb).2.2.1,by simp[As]⟩
 rw[if_neg hst];by_cases hgv:gv=[]
 ·subst hgv;have e:N9 st ⟨tg,nm,k,[]⟩=Au tg++58::(nm++58::Be k):=by simp[N9,Kn,hst]
  rw[e,Pf hno];simp only;rw[hs,Fr.2 ⟨rfl,h1,h2,h3⟩];simp only;rw[Ek.2 ⟨hk,rfl⟩];simp
 have e:N9 st ⟨tg,nm,k,gv⟩=(Au tg++58::(nm++58::Be k))++61::gv:=by simp[N9,Kn,hst,hgv]
 rw[e,Eb hno];simp only;rw[hs,Fr.2 ⟨rfl,h1,h2,h3⟩];simp only;rw[Ek.2 ⟨hk,rfl⟩];simp only;rw[if_neg (fun hh=>hh.2 (hg hgv))]
theorem Qfe(st:UInt8)(s:List UInt8):Gh st s=Bt st s:=by
 cases h:Bt st s with
 |some f=>exact Ss.2 (Fh.1 h)
 |none=>
  cases h2:Gh st s with
  |none=>rfl
  |some f=>rw[Fh.2 (Ss.1 h2)]at h;cases h
theorem Rq{st:UInt8}{f:Fd}(h:S9 st f):10∉N9 st f/\44∉N9 st f/\N9 st f≠[]:=by
 obtain⟨h1,h2,h3,h4,h5⟩:=h;have hd:=Pn f.tag;refine⟨?_,?_,by unfold N9;simp⟩;all_goals
  unfold N9 Kn;simp only[ad,ay,not_or];refine⟨?_,by decide,?_,?_⟩
  ·first|exact(D4 (El f.tag)).1|exact(D4 (El f.tag)).2.1
  ·first|exact(D4 (Ds h3)).1|exact(D4 (Ds h3)).2.1
  ·by_cases hst:st=69
   ·rw[if_pos hst];simp
   rw[if_neg hst];obtain⟨hk,hg⟩:=h5 hst;simp only[ad,ay,not_or];refine⟨by decide,?_,?_⟩
   ·first|exact(D4 (Je hk)).1|exact(D4 (Je hk)).2.1
   by_cases hgv:f.given=[]
   ·rw[if_pos hgv];simp
   rw[if_neg hgv];have hp:=(Ma (hg hgv).2.2).2;simp only[ay,not_or];refine⟨by decide,?_⟩;first|exact(D4 hp).1|exact(D4 hp).2.1
theorem Qd1{st:UInt8}{f g:Fd}(hf:S9 st f)(hg:S9 st g)(h:N9 st f=N9 st g):f=g:=by
 have h1:=Fh.2 ⟨hf,rfl⟩;have h2:=Fh.2 ⟨hg,h.symm⟩;rw[h1]at h2;injection h2
structure Ty where
 sort:UInt8
 name:List UInt8
 fields:List Fd
deriving DecidableEq
def Fg(fs:List Fd)(f:Fd):Bool:=fs.all fun g=>decide (g.name≠f.name) && decide (g.tag<f.tag)
def Ew(st:UInt8):List (List UInt8)->List Fd->Option (List Fd)
 |[],acc=>some acc
 |p::ps,acc=>match Gh st p with
  |none=>none
  |some f=>if acc.length=8\/Fg acc f=false then none else Ew st ps (acc++[f])
def Dh(st:UInt8):List (List UInt8)->List Fd->Option (List Fd)
 |[],acc=>some acc
 |p::ps,acc=>match Bt st p with
  |none=>none
  |some f=>if Fg acc f=false then none else Dh st ps (acc++[f])
def Fds(st:UInt8)(fs:List Fd):Prop:=(∀f∈fs,S9 st f)/\fs.Pairwise fun g f=>g.name≠f.name/\g.tag<f.tag
theorem J8{fs:List Fd}{f:Fd}:Fg fs f=true↔∀g∈fs,g.name≠f.name/\g.tag<f.tag:=by simp[Fg]
theorem Qax{st:UInt8}{fs:List Fd}{f:Fd}:Fds st (fs++[f])↔Fds st fs/\S9 st f/\Fg fs f=true:=by
 unfold Fds;rw[J8,List.pairwise_append];constructor
 ·rintro⟨h1,h2,_,h3⟩;exact⟨⟨fun g hg=>h1 g (by simp[hg]),h2⟩,h1 f aH,fun g hg=>h3 g hg f aH⟩
 rintro⟨⟨h1,h2⟩,h3,h4⟩;refine⟨fun g hg=>?_,h2,by simp,fun g hg f' hf'=>?_⟩
 ·rcases ad.1 hg with hg|hg
  ·exact h1 g hg
  simp at hg;subst hg;exact h3
 simp at hf';subst hf';exact h4 g hg
theorem M7(st:UInt8):∀(ps:List (List UInt8)) (acc r:List Fd),Fds st acc->(Dh st ps acc=some r↔Fds st r/\∃gs,r=acc++gs/\gs.map (N9 st)=ps)
 |[],acc,r,ha=>by
  simp only[Dh,ah];constructor
  ·rintro rfl;exact⟨ha,[],by simp,rfl⟩
  rintro⟨_,gs,e,h⟩;have:gs=[]:=aV;subst this;simpa using e.symm
 |p::ps,acc,r,ha=>by
  simp only[Dh];cases hf:Bt st p with
  |none=>
   simp only[reduceCtorEq,false_iff];rintro⟨hr,gs,rfl,h⟩;cases gs with
   |nil=>simp at h
   |cons g gs=>
    simp at h;have:=Fh.2 ⟨hr.1 g aH,h.1⟩;rw[this]at hf;cases hf
  |some f=>
   obtain⟨ok,eb⟩:=Fh.1 hf;simp only;by_cases hfit:Fg acc f=false
   ·rw[if_pos hfit];simp only[reduceCtorEq,false_iff];rintro⟨hr,gs,rfl,h⟩;cases gs with
    |nil=>simp at h
    |cons g gs=>
     simp at h;have hg:g=f:=Qd1 (hr.1 g aH) ok (h.1.trans eb.symm);subst hg;have h2:Fds st (acc++[g]++gs):=dp;have h3:Fds st (acc++[g]):=⟨fun x hx=>h2.1 x (by simp at hx ⊢;rcases hx with hx|hx<;>simp[hx]),(List.pairwise_append.1 h2.2).1⟩
     rw[(Qax.1 h3).2.2]at hfit;cases hfit
   rw[if_neg hfit];have hfit':Fg acc f=true:=by simpa using hfit
   rw[M7 st ps (acc++[f]) r (Qax.2 ⟨ha,ok,hfit'⟩)];constructor
   ·rintro⟨hr,gs,rfl,h⟩;exact⟨hr,f::gs,by simp,by simp[eb,h]⟩
   rintro⟨hr,gs,rfl,h⟩;cases gs with
   |nil=>simp at h
   |cons g gs=>
    simp at h;have hg:g=f:=Qd1 (hr.1 g aH) ok (h.1.trans eb.symm);subst hg;exact⟨hr,gs,by simp,h.2⟩
theorem Qc(st:UInt8):∀(ps:List (List UInt8)) (acc:List Fd),acc.length<=8->Ew st ps acc=(match Dh st ps acc with|some r=>if r.length<=8 then some r else none|none=>none)
 |[],acc,h=>by simp[Ew,Dh,h]
 |p::ps,acc,h=>by
  simp only[Ew,Dh,Qfe];cases hf:Bt st p with
  |none=>rfl
  |some f=>
   simp only;by_cases hfit:Fg acc f=false
   ·rw[if_pos (.inr hfit),if_pos hfit]
   rw[if_neg hfit];by_cases h8:acc.length=8
   ·rw[if_pos (.inl h8)];have key:∀(ps:List (List UInt8)) (a r:List Fd),Dh st ps a=some r->a.length<=r.length:=by
     intro ps;induction ps with
     |nil=>intro a r h;simp[Dh]at h;rw[h];exact Nat.le_refl _
     |cons q qs ih=>
      intro a r h;simp only[Dh]at h;split at h
      ·cases h
      split at h
      ·cases h
      have:=ih _ _ h;simp at this;omega
    cases hr:Dh st ps (acc++[f])with
    |none=>rfl
    |some r=>
     have:=key _ _ _ hr;simp at this;simp only;rw[if_neg aF]
   rw[if_neg (by simp[h8,hfit])];exact Qc st ps (acc++[f]) aL
def Dt(c:UInt8):Prop:=c=82\/c=85\/c=69
instance (c:UInt8):Decidable (Dt c):=by unfold Dt;infer_instance
def En(t:Ty):Prop:=Dt t.sort/\At t.name=true/\Fds t.sort t.fields/\t.fields.length<=8/\(t.fields=[]->t.sort=82)
def Ym(t:Ty):List UInt8:=t.sort::(t.name++61::As 44 (t.fields.map (N9 t.sort)))
def Eg(s:List UInt8):Option Ty:=
 match s with
 |[]=>none
 |c::r=>
  if ¬Dt c\/(Cy 61 r).2.2=false\/At (Cy 61 r).1=false then none
  else if (Cy 61 r).2.1=[]then(if c=82 then some ⟨c,(Cy 61 r).1,[]⟩else none)
  else match Ew c (Ai 44 (Cy 61 r).2.1) []with
   |some fs=>some ⟨c,(Cy 61 r).1,fs⟩
   |none=>none
theorem Qgz{c:UInt8}{ps:List (List UInt8)}(h:ps≠[])(h1:∀p∈ps,p≠[]):As c ps≠[]:=by
 cases ps with
 |nil=>exact absurd rfl h
 |cons p ps=>
  have:=h1 p aH;cases ps with
  |nil=>exact this
  |cons q ps=>rw[Cx c p aH];simp
theorem Qag(st:UInt8):Fds st []:=⟨by simp,List.Pairwise.nil⟩
theorem Qy{st:UInt8}{ps:List (List UInt8)}{r:List Fd}:Ew st ps []=some r↔Fds st r/\r.length<=8/\r.map (N9 st)=ps:=by
 rw[Qc st ps [] aH];constructor
 ·intro h;cases hs:Dh st ps []with
  |none=>rw[hs]at h;cases h
  |some x=>
   rw[hs]at h;simp only at h;split at h
   ·rename_i h8;injection h with h;subst h;obtain⟨h1,gs,e,h2⟩:=(M7 st ps [] x (Qag st)).1 hs;simp at e;subst e;exact⟨h1,h8,h2⟩
   cases h
 rintro⟨h1,h2,h3⟩;rw[(M7 st ps [] r (Qag st)).2 ⟨h1,r,by simp,h3⟩];simp[h2]
theorem Qe1{c:UInt8}(h:Dt c):c≠61/\c≠10:=by
 rcases h with rfl|rfl|rfl<;>exact⟨by decide,by decide⟩
theorem Ex{s:List UInt8}{t:Ty}:Eg s=some t↔En t/\Ym t=s:=by
 obtain⟨st,nm,fs⟩:=t;constructor
 ·intro h;unfold Eg at h;split at h
  ·cases h
  rename_i c r;split at h
  ·cases h
  rename_i hc;have hc1:Dt c:=Decidable.byContradiction fun hh=>hc (.inl hh);have hc2:(Cy 61 r).2.2=true:=by
   cases hb:(Cy 61 r).2.2 with
   |true=>rfl
   |false=>exact absurd (.inr (.inl hb)) hc
  have hc3:At (Cy 61 r).1=true:=by
   cases hb:At (Cy 61 r).1 with
   |true=>rfl
   |false=>exact absurd (.inr (.inr hb)) hc
  rcases Eu 61 r with⟨_,e⟩|⟨p,u,er,hp,e⟩
  ·rw[e]at hc2;cases hc2
  rw[e]at h hc3;simp only at h hc3;split at h
  ·rename_i hu;subst hu;split at h
   ·rename_i h82;injection h with h;injection h with e1 e2 e3;subst e1;subst e2;subst e3;exact⟨⟨hc1,hc3,Qag _,by simp,fun _=>h82⟩,by rw[er];simp[Ym,As]⟩
   cases h
  rename_i hu;cases hf:Ew c (Ai 44 u) []with
  |none=>rw[hf]at h;cases h
  |some x=>
   rw[hf]at h;injection h with h;injection h with e1 e2 e3;subst e1;subst e2;subst e3;obtain⟨f1,f2,f3⟩:=Qy.1 hf;obtain⟨s1,_,s3⟩:=Du.1 f3.symm;exact⟨⟨hc1,hc3,f1,f2,fun hh=>by simp only at hh;subst hh;exact absurd rfl s1⟩,by rw[er];simp only[Ym];rw[s3]⟩
 rintro⟨⟨h1,h2,h3,h4,h5⟩,rfl⟩;simp only at h1 h2 h3 h4 h5;have hno:61∉nm:=(D4 (Ds h2)).2.2.2;unfold Eg Ym;simp only;rw[Eb hno];simp only;rw[if_neg (by simp[h1,h2])];by_cases hf:fs=[]
 ·subst hf;rw[h5 rfl];simp[As]
 have hn:As 44 (fs.map (N9 st))≠[]:=Qgz (by simpa using hf) (by
  intro p hp;obtain⟨f,hf',rfl⟩:=av.1 hp;exact(Rq (h3.1 f hf')).2.2)
 have hs:Ai 44 (As 44 (fs.map (N9 st)))=fs.map (N9 st):=Kw 44 _ (by simpa using hf) (by
  intro p hp;obtain⟨f,hf',rfl⟩:=av.1 hp;exact(Rq (h3.1 f hf')).2.1)
 rw[if_neg hn,hs,Qy.2 ⟨h3,h4,rfl⟩]
theorem Yl{t:Ty}(h:En t):10∉Ym t/\Ym t≠[]:=by
 refine⟨?_,by unfold Ym;simp⟩;obtain⟨h1,h2,h3,_,_⟩:=h;unfold Ym;simp only[ad,ay,not_or];refine⟨fun e=>(Qe1 h1).2 e.symm,(D4 (Ds h2)).1,by decide,?_⟩;have key:∀ps:List (List UInt8),(∀p∈ps,(10:UInt8)∉p)->(10:UInt8)∉As 44 ps:=by
  intro ps;induction ps with
  |nil=>intro _;simp[As]
  |cons p ps ih=>
   intro hp;cases ps with
   |nil=>exact hp p aH
   |cons q ps=>
    rw[Cx 44 p aH];simp only[ad,ay,not_or];refine⟨hp p aH,by decide,ih (fun x hx=>hp x (by simp[hx]))⟩
 apply key;intro p hp;obtain⟨f,hf',rfl⟩:=av.1 hp;exact(Rq (h3.1 f hf')).1
theorem Zv{t u:Ty}(ht:En t)(hu:En u)(h:Ym t=Ym u):t=u:=by
 have h1:=Ex.2 ⟨ht,rfl⟩;have h2:=Ex.2 ⟨hu,h.symm⟩;rw[h1]at h2;injection h2
def scB(S:List Ty):List UInt8:=S.flatMap fun t=>Ym t++[10]
def K0(S:List Ty):Prop:=(∀t∈S,En t)/\S.length<=8/\S.Pairwise fun t u=>t.name≠u.name
def E8:Nat->List UInt8->List Ty->Option (List Ty)
 |0,_,_=>none
 |n+1,s,acc=>
  if s=[]then some acc
  else if (Cy 10 s).2.2=false\/acc.length=8 then none
  else match Eg (Cy 10 s).1 with
   |none=>none
   |some t=>if acc.any (fun u=>decide (u.name=t.name))=true then none else E8 n (Cy 10 s).2.1 (acc++[t])
theorem Z5{S:List Ty}{t:Ty}:K0 (S++[t])↔K0 S/\En t/\S.length<8/\S.any (fun u=>decide (u.name=t.name))=false:=by
 unfold K0;rw[List.pairwise_append];constructor
 ·rintro⟨h1,h2,h3,_,h4⟩;simp at h2;refine⟨⟨fun u hu=>h1 u (by simp[hu]),by omega,h3⟩,h1 t aH,by omega,?_⟩;simp;intro u hu;exact h4 u hu t aH
 rintro⟨⟨h1,h2,h3⟩,h4,h5,h6⟩;simp at h6;refine⟨fun u hu=>?_,by simp;omega,h3,by simp,fun u hu v hv=>?_⟩
 ·rcases ad.1 hu with hu|hu
  ·exact h1 u hu
  simp at hu;subst hu;exact h4
 simp at hv;subst hv;exact h6 u hu
theorem N5(t:Ty)(S:List Ty):scB (t::S)=Ym t++10::scB S:=by simp[scB]
theorem Su:∀(n:Nat) (s:List UInt8) (acc r:List Ty),s.length<n->K0 acc->(E8 n s acc=some r↔K0 r/\∃U,r=acc++U/\scB U=s)
 |0,s,acc,r,h,_=>absurd h (Nat.not_lt_zero _)
 |n+1,s,acc,r,h,ha=>by
  simp only[E8];by_cases hs:s=[]
  ·subst hs;rw[if_pos rfl];constructor
   ·intro hh;injection hh with hh;subst hh;exact⟨ha,[],by simp,rfl⟩
   rintro⟨_,U,rfl,e⟩;cases U with
   |nil=>simp
   |cons t U=>rw[N5]at e;simp at e
  rw[if_neg hs];rcases Eu 10 s with⟨hn,e⟩|⟨p,u,es,hp,e⟩
  ·rw[e,if_pos (.inl rfl)];simp only[reduceCtorEq,false_iff];rintro⟨_,U,rfl,eU⟩;cases U with
   |nil=>exact hs eU.symm
   |cons t U=>rw[N5]at eU;rw[<-eU]at hn;simp at hn
  rw[e];simp only;by_cases h8:acc.length=8
  ·rw[if_pos (.inr h8)];simp only[reduceCtorEq,false_iff];rintro⟨hr,U,rfl,eU⟩;cases U with
   |nil=>exact hs eU.symm
   |cons t U=>have:=hr.2.1;simp at this;omega
  rw[if_neg (by simp[h8])];have hsplit:∀t U,En t->scB (t::U)=s->Ym t=p/\scB U=u:=by
   intro t U ht eU;rw[N5,es]at eU;have h1:=Eb (s:=scB U) (Yl ht).1;rw[eU,Eb hp]at h1;injection h1 with e1 e2;injection e2 with e2 _;exact⟨e1.symm,e2.symm⟩
  cases ht:Eg p with
  |none=>
   simp only[reduceCtorEq,false_iff];rintro⟨hr,U,rfl,eU⟩;cases U with
   |nil=>exact hs eU.symm
   |cons t U=>
    have ok:En t:=hr.1 t aH;rw[Ex.2 ⟨ok,(hsplit t U ok eU).1⟩]at ht;cases ht
  |some t=>
   obtain⟨ok,eb⟩:=Ex.1 ht;simp only;by_cases hd:acc.any (fun u=>decide (u.name=t.name))=true
   ·rw[if_pos hd];simp only[reduceCtorEq,false_iff];rintro⟨hr,U,rfl,eU⟩;cases U with
    |nil=>exact hs eU.symm
    |cons t' U=>
     have ok':En t':=hr.1 t' aH;have ett:t'=t:=Zv ok' ok ((hsplit t' U ok' eU).1.trans eb.symm);subst ett;simp at hd;obtain⟨v,hv,hvn⟩:=hd;exact(List.pairwise_append.1 hr.2.2).2.2 v hv t' aH hvn
   rw[if_neg hd];have hlen:u.length<n:=by rw[es]at h;simp at h;omega
   rw[Su n u (acc++[t]) r hlen (Z5.2 ⟨ha,ok,by have:=ha.2.1;omega,by simpa using hd⟩)];constructor
   ·rintro⟨hr,U,rfl,eU⟩;exact⟨hr,t::U,by simp,by rw[N5,eb,eU,es]⟩
   rintro⟨hr,U,rfl,eU⟩;cases U with
   |nil=>exact absurd eU.symm hs
   |cons t' U=>
    have ok':En t':=hr.1 t' aH;obtain⟨e1,e2⟩:=hsplit t' U ok' eU;have ett:t'=t:=Zv ok' ok (e1.trans eb.symm);subst ett;exact⟨hr,U,by simp,e2⟩
def C7(s:List UInt8):Option Ty:=
 match Cy 61 s with
 |(c::nm,u,true)=>
  if ¬At nm=true\/¬Dt c then none
  else if u=[]then(if c=82 then some ⟨c,nm,[]⟩else none)
  else match Dh c (Ai 44 u) []with
   |some r=>if r.length<=8 then some ⟨c,nm,r⟩else none
   |none=>none
 |_=>none
theorem Qbc(s:List UInt8):C7 s=Eg s:=by
 cases s with
 |nil=>rfl
 |cons c r=>
  unfold C7 Eg;by_cases hc:c=61
  ·subst hc;have e:Cy 61 (61::r)=([],r,true):=Eb (p:=[]) aH;rw[e];simp only;rw[if_pos (.inl aI)]
  rcases Eu 61 r with⟨hn,e⟩|⟨p,u,er,hp,e⟩
  ·have e2:Cy 61 (c::r)=(c::r,[],false):=Pf (by simp;exact⟨fun h=>hc h.symm,hn⟩);rw[e2];simp[e]
  have e2:Cy 61 (c::r)=(c::p,u,true):=by
   rw[er];exact Eb (p:=c::p) (by simp;exact⟨fun h=>hc h.symm,hp⟩)
  rw[e2];simp only[e];by_cases h1:At p=true
  ·by_cases h2:Dt c
   ·by_cases hu:u=[]
    ·subst hu;simp[h1,h2]
    have hx:∀(a b:Option Ty),(if ¬At p=true\/¬Dt c then a else b)=b:=fun a b=>if_neg (by simp[h1,h2]);have hy:∀(a b:Option Ty),(if ¬Dt c\/true=false\/At p=false then a else b)=b:=fun a b=>if_neg (by simp[h1,h2]);have hz:∀(a b:Option Ty),(if u=[]then a else b)=b:=fun a b=>if_neg hu;rw[hx,hy,hz,hz,Qc c _ [] aH];cases Dh c (Ai 44 u) []with
    |none=>rfl
    |some r=>simp only;split<;>rfl
   rw[if_pos (.inr h2),if_pos (.inl h2)]
  rw[if_pos (.inl h1),if_pos (.inr (.inr dQ))]
def Ey:List (List UInt8)->Option (List Ty)
 |[]=>some []
 |p::ps=>match Eg p with
  |none=>none
  |some t=>match Ey ps with
   |none=>none
   |some ts=>some (t::ts)
theorem Nx:∀(ps:List (List UInt8)) (ts:List Ty),Ey ps=some ts↔(∀t∈ts,En t)/\ts.map Ym=ps
 |[],ts=>by
  simp only[Ey,ah];constructor
  ·rintro rfl;simp
  rintro⟨_,h⟩;simpa using h.symm
 |p::ps,ts=>by
  simp only[Ey];cases ht:Eg p with
  |none=>
   simp only[reduceCtorEq,false_iff];rintro⟨h,e⟩;cases ts with
   |nil=>simp at e
   |cons t ts=>
    simp at e;rw[Ex.2 ⟨h t aH,e.1⟩]at ht;cases ht
  |some t=>
   obtain⟨ok,eb⟩:=Ex.1 ht;simp only;have ih:=Nx ps;constructor
   ·intro h;cases hr:Ey ps with
    |none=>rw[hr]at h;cases h
    |some us=>
     rw[hr]at h;injection h with h;subst h;obtain⟨i1,i2⟩:=(ih us).1 hr;exact⟨by simpa using⟨ok,i1⟩,by simp[eb,i2]⟩
   rintro⟨h,e⟩;cases ts with
   |nil=>simp at e
   |cons u us=>
    simp at e;have:u=t:=Zv (h u aH) ok (e.1.trans eb.symm);subst this;rw[(ih us).2 ⟨fun x hx=>h x (by simp[hx]),e.2⟩]
def M5(s:List UInt8):Option (List Ty):=
 if 9<(Ai 10 s).length\/(Ai 10 s).getLast?≠some []then none else Ey (Ai 10 s).dropLast
theorem Qbt(S:List Ty):As 10 (S.map Ym++[[]])=scB S:=by
 induction S with
 |nil=>rfl
 |cons t S ih=>
  rw[aw,ar,Cx 10 _ aH,ih,N5]
theorem Qb7{s:List UInt8}{S:List Ty}:M5 s=some S↔(∀t∈S,En t)/\S.length<=8/\scB S=s:=by
 unfold M5;constructor
 ·intro h;split at h
  ·cases h
  rename_i hc;have h9:(Ai 10 s).length<=9:=by
   rcases aE 9 (Ai 10 s).length with hh|hh
   ·exact absurd (.inl hh) hc
   exact hh
  have hl:(Ai 10 s).getLast?=some []:=by
   refine Decidable.byContradiction fun hh=>hc (.inr hh)
  obtain⟨t1,t2⟩:=(Nx _ _).1 h;have e:Ai 10 s=S.map Ym++[[]]:=by
   rcases Ej (Ai 10 s)with hh|⟨t,c,hh⟩
   ·exact absurd hh (D8 10 s)
   rw[hh]at hl t2 ⊢;simp at hl t2;rw[t2,hl]
  have hs:=Ny 10 s;rw[e,Qbt]at hs;rw[e]at h9;simp at h9;exact⟨t1,h9,hs⟩
 rintro⟨h1,h2,rfl⟩;have e:Ai 10 (scB S)=S.map Ym++[[]]:=by
  rw[<-Qbt];refine Kw 10 _ aH ?_;intro p hp;rcases ad.1 hp with hp|hp
  ·obtain⟨t,ht,rfl⟩:=av.1 hp;exact(Yl (h1 t ht)).1
  simp at hp;subst hp;simp
 rw[e,if_neg aL];simp only[List.dropLast_concat];exact(Nx _ _).2 ⟨h1,rfl⟩
def Bu(S:List Ty)(n:List UInt8):Option Ty:=S.find? fun t=>decide (t.name=n)
theorem Ch{S:List Ty}{n:List UInt8}{t:Ty}(h:Bu S n=some t):t∈S/\t.name=n:=by
 have h1:=List.mem_of_find?_eq_some h;have h2:=List.find?_some h;exact⟨h1,by simpa using h2⟩
def Bq(S:List Ty)(k:Kd):Prop:=k.base=[64]->(Bu S k.name).isSome=true
instance (S:List Ty) (k:Kd):Decidable (Bq S k):=by unfold Bq;infer_instance
def Fs(S:List Ty):Prop:=∀t∈S,t.sort≠69->∀f∈t.fields,Bq S f.kind
instance (S:List Ty):Decidable (Fs S):=by unfold Fs;infer_instance
def E7(S:List Ty)(t:Ty):Option Ty:=
 if t.sort=85 then(match t.fields with
  |f::_=>if f.kind.signs=[]/\f.kind.base=[64]then Bu S f.kind.name else none
  |[]=>none)else none
def Bs(S:List Ty):Nat->Ty->Bool
 |0,_=>false
 |n+1,t=>match E7 S t with
  |none=>true
  |some u=>Bs S n u
theorem Qc2{S:List Ty}{t u:Ty}(h:E7 S t=some u):u∈S:=by
 unfold E7 at h;split at h
 ·split at h
  ·split at h
   ·exact(Ch h).1
   cases h
  cases h
 cases h
theorem Ka(S:List Ty):∀(n:Nat) (t:Ty),Bs S n t=true->∀m,n<=m->Bs S m t=true
 |0,t,h,_,_=>by simp[Bs]at h
 |n+1,t,h,m,hm=>by
  obtain⟨k,rfl⟩:∃k,m=k+1:=⟨m - 1,by omega⟩
  simp only[Bs]at h ⊢;cases hn:E7 S t with
  |none=>rfl
  |some u=>
   rw[hn]at h;exact Ka S n u h k aF
theorem Ju:∀(l S:List Ty),l.Nodup->(∀x∈l,x∈S)->l.length<=S.length
 |[],S,_,_=>ae _
 |x::l,S,hn,hs=>by
  obtain⟨h1,h2⟩:=List.nodup_cons.1 hn;have hx:=hs x aH
  have ih:=Ju l (S.erase x) h2 (fun y hy=>by
   have hne:y≠x:=by rintro rfl;exact h1 hy
   exact(List.mem_erase_of_ne hne).2 (hs y ev))
  have hl:=List.length_erase_of_mem hx;have hp:0<S.length:=List.length_pos_iff.2 (by rintro rfl;cases hx);simp;omega
theorem T8(S:List Ty):∀(n:Nat) (t:Ty),t∈S->Bs S (n+1) t=true->Bs S n t=false ->
  ∃l:List Ty,l.length=n+1/\(∀u∈l,u∈S)/\l.Nodup/\∀u∈l,Bs S (n+1) u=true
 |0,t,ht,h1,_=>⟨[t],rfl,by simpa using ht,by simp,by simpa using h1⟩
 |n+1,t,ht,h1,h2=>by
  have hn:∃u,E7 S t=some u:=by
   cases hh:E7 S t with
   |none=>simp[Bs,hh]at h2
   |some u=>exact⟨u,rfl⟩
  obtain⟨u,hu⟩:=hn;have e1:Bs S (n+1) u=true:=by simp only[Bs,hu]at h1;simpa [Bs]using h1
  have e2:Bs S n u=false:=by simp only[Bs,hu]at h2;exact h2
  obtain⟨l,l1,l2,l3,l4⟩:=T8 S n u (Qc2 hu) e1 e2;refine⟨t::l,by simp[l1],?_,List.nodup_cons.2 ⟨fun hm=>?_,l3⟩,?_⟩
  ·intro x hx;rcases ay.1 hx with rfl|hx
   ·exact ht
   exact l2 x hx
  ·rw[l4 t hm]at h2;cases h2
  intro x hx;rcases ay.1 hx with rfl|hx
  ·exact h1
  exact Ka S _ _ (l4 x hx) _ aF
theorem Sw(S:List Ty)(t:Ty)(ht:t∈S)(n:Nat):Bs S n t=true->Bs S S.length t=true:=by
 induction n with
 |zero=>intro h;simp[Bs]at h
 |succ n ih=>
  intro h;by_cases h2:Bs S n t=true
  ·exact ih h2
  have h2':Bs S n t=false:=dR;obtain⟨l,l1,l2,l3,_⟩:=T8 S n t ht h h2';have:=Ju l S l3 l2;exact Ka S _ _ h _ aF
theorem Yw(S:List Ty)(t:Ty)(ht:t∈S)(m n:Nat)(hm:S.length<=m)(hn:S.length<=n):Bs S m t=Bs S n t:=by
 cases h1:Bs S m t with
 |true=>exact(Ka S _ _ (Sw S t ht m h1) n hn).symm
 |false=>
  cases h2:Bs S n t with
  |false=>rfl
  |true=>rw[Ka S _ _ (Sw S t ht n h2) m hm]at h1;cases h1
def Jv(S:List Ty):Prop:=K0 S/\Fs S/\∀t∈S,Bs S 9 t=true
def Cf(s:List UInt8):Option (List Ty):=
 if 400<s.length then none
 else match E8 (s.length+1) s []with
  |none=>none
  |some S=>if Fs S/\(∀t∈S,Bs S 9 t=true)then some S else none
theorem Qce:K0 []:=⟨by simp,by simp,List.Pairwise.nil⟩
theorem Rs{s:List UInt8}{S:List Ty}:E8 (s.length+1) s []=some S↔K0 S/\scB S=s:=by
 rw[Su (s.length+1) s [] S aF Qce];constructor
 ·rintro⟨h,U,e,h2⟩;simp at e;subst e;exact⟨h,h2⟩
 rintro⟨h,h2⟩;exact⟨h,S,by simp,h2⟩
theorem Qx{s:List UInt8}{S:List Ty}:Cf s=some S↔Jv S/\s.length<=400/\scB S=s:=by
 unfold Cf;constructor
 ·intro h;split at h
  ·cases h
  rename_i h4;cases hl:E8 (s.length+1) s []with
  |none=>rw[hl]at h;cases h
  |some T=>
   rw[hl]at h;simp only at h;split at h
   ·rename_i hc;injection h with h;subst h;obtain⟨h1,h2⟩:=Rs.1 hl;exact⟨⟨h1,hc.1,hc.2⟩,by omega,h2⟩
   cases h
 rintro⟨⟨h1,h2,h3⟩,h4,h5⟩;rw[if_neg aF,Rs.2 ⟨h1,h5⟩];simp only;rw[if_pos ⟨h2,h3⟩]
theorem Nu{s:List UInt8}{S:List Ty}:Cf s=some S↔s.length<=400/\M5 s=some S/\(S.Pairwise fun t u=>t.name≠u.name)/\Fs S/\∀t∈S,Bs S (S.length+1) t=true:=by
 rw[Qx,Qb7];constructor
 ·rintro⟨⟨⟨h1,h2,h3⟩,h4,h5⟩,h6,h7⟩;exact⟨h6,⟨h1,h2,h7⟩,h3,h4,fun t ht=>by rw[Yw S t ht _ 9 aF aF];exact h5 t ht⟩
 rintro⟨h6,⟨h1,h2,h7⟩,h3,h4,h5⟩;exact⟨⟨⟨h1,h2,h3⟩,h4,fun t ht=>by rw[<-Yw S t ht (S.length+1) 9 aF aF];exact h5 t ht⟩,h6,h7⟩
def Xb(S:List Ty)(n:Nat)(k:Kd):Prop:=k.signs=[]->k.base=[64]->∃t,Bu S k.name=some t/\Bs S n t=true
def C4(S:List Ty):Nat->Kd->List UInt8
 |0,_=>[]
 |n+1,k=>
  if k.signs.head?=some 91 then[91,93]
  else if k.signs.head?=some 63 then[45]
  else if k.base=[110]then[48]
  else if k.base=[116]then[39,39]
  else if k.base=[102]then[110,111]
  else match Bu S k.name with
   |none=>[]
   |some t=>if t.sort=82 then[123,125]else
    match t.fields with
    |[]=>[]
    |f::_=>if t.sort=69 then 35::Au f.tag else 60::(Au f.tag++61::(C4 S n f.kind++[62]))
theorem Sg{S:List Ty}{n:Nat}{k:Kd}{t:Ty}{f:Fd}{fs:List Fd}(h:Xb S (n+1) k)(h1:k.signs=[])(h2:k.base=[64])(hf:Bu S k.name=some t)(hs:t.sort=85)(hfs:t.fields=f::fs)(hr:Bq S f.kind):Xb S n f.kind:=by
 intro g1 g2;obtain⟨u,hu,he⟩:=h h1 h2;rw[hf]at hu;injection hu with hu;subst hu;have hn:E7 S t=Bu S f.kind.name:=by
  unfold E7;rw[if_pos hs,hfs];simp only;rw[if_pos ⟨g1,g2⟩]
 have hr':=hr g2;cases hx:Bu S f.kind.name with
 |none=>rw[hx]at hr';cases hr'
 |some v=>
  simp only[Bs,hn,hx]at he;exact⟨v,rfl,he⟩
def Ri(S:List Ty)(k:Kd):List UInt8:=C4 S 10 k
def M6(S:List Ty)(f:Fd):List UInt8:=if f.given=[]then Ri S f.kind else f.given
end Go.Proofs.YtgfmljfjgohdcaaGreatDoor
