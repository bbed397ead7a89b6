/- Texts joined. Conditions: as each theorem names them. -/
import Derived.Test.YtpjijpcemejlnaaGreatDoorProg
import Derived.WalkKit
import Derived.WalkSmall
import Derived.WalkSpells
import Derived.WalkLawsBesides
import Derived.Below
import Derived.Lib.Hide
import Derived.Lib.BufferRead
import Derived.Laws.BytesArg
import Derived.Deep.QuietTactic
import Derived.BigQuiet
import Derived.Handy
import Derived.Deep.RegionWith
import Derived.Test.YtpjijpcemejlnaaGreatDoorP00
set_option maxRecDepth 100000
set_option maxHeartbeats 32000000
set_option linter.unusedVariables false
set_option linter.unusedSimpArgs false
namespace Go.Proofs.YtpjijpcemejlnaaGreatDoor
open Go.RowKit Go.Proofs.Tryz
theorem Qhy(l:List UInt8)(k:Nat)(h:k<(ByteArray.mk l.toArray).size):(ByteArray.mk l.toArray)[k]=l[k]'h:=rfl
theorem Qhh(l:List UInt8):(ByteArray.mk l.toArray).toList=l:=by
 have:(ByteArray.mk l.toArray).toList=(ByteArray.mk l.toArray).data.toList:=ByteArray.toList_eq _;rw[this]
theorem Qg3(l:List UInt8)(a b:Nat):(ByteArray.mk l.toArray).extract a b=⟨((l.drop a).take (b - a)).toArray⟩:=by
 apply ByteArray.ext;simp[ByteArray.data_extract]
theorem Qfo(l:List UInt8)(a:Nat):(l.drop a).take (l.length - a)=l.drop a:=ar aK
theorem Qf4{k:IntKind}{a b:Int}(h:a=b):Ending.returned (.int k a)=.returned (.int k b):=by rw[h]
theorem Be{α:Type}(l:List α)(k:Nat)(h:k<l.length):l.take (k+1)=l.take k++[l[k]]:=by
 rw[List.take_succ_eq_append_getElem h]
def Ag(ls:List (List UInt8)):List Value:=ls.map fun l=>.string ⟨l.toArray⟩
theorem Tx(l:List (List UInt8)):(Ag l).length=l.length:=by simp[Ag]
theorem M2(l:List (List UInt8))(c:List UInt8):Ag (l++[c])=Ag l++[.string ⟨c.toArray⟩]:=by simp[Ag]
def Bf(w:World)(A:Option Addr)(n:Nat)(xs:List Value):Prop:=
 xs.length=n/\n<=maxLen/\(0<n->∃b off,A=some ⟨b,off,none⟩/\b<w.heap.size/\∀j u,xs[j]?=some u->w.cell? ⟨b,off+j,none⟩=some u)
theorem Bf.below{w w':World}{A:Option Addr}{n:Nat}{xs:List Value}(h:Bf w A n xs)(hb:Below w w w'):Bf w' A n xs:=by
 refine⟨h.1,h.2.1,fun hn=>?_⟩;obtain⟨b,off,e,hlt,hc⟩:=h.2.2 hn;exact⟨b,off,e,ac hlt hb.size,fun j u hu=>(hb.cell (p:=⟨b,off+j,none⟩) hlt).trans (hc j u hu)⟩
theorem Bf.drew{w:World}{A:Option Addr}{n:Nat}{xs:List Value}(h:Bf w A n xs):Bf w.drew A n xs:=h
theorem Bf.alloc{w:World}{A:Option Addr}{n:Nat}{xs:List Value}(h:Bf w A n xs)(o:Obj):Bf (w.alloc o) A n xs:=h.below ((Below.refl _ _).alloc (Nat.le_refl _) o)
theorem Bf.at_{w:World}{A:Option Addr}{n:Nat}{xs:List Value}(h:Bf w A n xs){k:Nat}(hk:k<n):
  ∃b off,A=some ⟨b,off,none⟩/\b<w.heap.size/\w.cell? ⟨b,off+k,none⟩=some (xs[k]'(by have:=h.1;omega)):=by
 obtain⟨b,off,e,hlt,hc⟩:=h.2.2 aG;exact⟨b,off,e,hlt,hc k _ (List.getElem?_eq_getElem _)⟩
theorem Bf.own{w:World}{base:Nat}{e:TypeId}{v:Value}{n:Nat}{xs:List Value}(h:w.ownsRow base e 1 v n xs):∃A c,v=.slice A n c/\Bf w A n xs:=by
 have h1:=h.1;rcases h.2 with⟨rfl,rfl⟩|⟨g,cap,cur,rfl,hb,hh,hnc,hcm,hcs,htk⟩
 ·exact⟨none,0,rfl,by omega,ag _,fun h=>absurd h aG⟩
 refine⟨some ⟨g,0,none⟩,cap,rfl,by omega,by omega,fun hn=>⟨g,0,rfl,(h.lt g rfl).2,fun j u hu=>?_⟩⟩;have:=h.cells (g:=g) rfl j u hu;have e1:(⟨g,0,none⟩:Addr).add j=⟨g,0+j,none⟩:=bo;rwa [e1]at this
theorem Ax{w w1:World}{base:Nat}{e:TypeId}{size:Nat}{v:Value}{n:Nat}{xs:List Value}(h:w.ownsRow base e size v n xs)(hb:Below w w w1):w1.ownsRow base e size v n xs:=
 h.kept (row:=none) ⟨hb.os,hb.tape,hb.output,hb.size,fun k hk _=>hb.block k hk⟩ (by
  cases v with
  |slice A a b=>cases A with
   |none=>exact .inl rfl
   |some x=>exact .inr dZ
  |_=>exact .inl rfl)
section
variable {P:Program}
theorem M9(w:World){ops:Array Oper}{rest:List Oper}{o:Oper}{a:Act}{Q:Exit->Act->World->Prop}(hgd:o.guard=none)(s x:Operand)(t:TypeId)
  (ho:o.op=.call {callee:=.builtin .append,args:=#[s,x],argTypes:=#[t,t]})
  (base:Nat) (e:TypeId) (z:Value) (bytes:Nat) (ht:P.underlying t=some (.slice e)) (hinfo:(P.info? e).map (fun i=>(i.zero,i.size,i.bytes))=some (some z,1,bytes))
  (hzs:z.cells.size=1) (W:World) (u:Value) (hw:w=W.alloc (.cells #[u] e)) (hu:u.oneCell'=true) (v:Value) (n:Nat) (xs:List Value) (hs:a.eval s=v) (hx:a.eval x=.slice (W,0) 1 1)
  (hown:W.ownsRow base e 1 v n xs)
  (h63:n+1<=maxLen) (hbytes:(n+1)*bytes<=140737488355328) (hbase:base<=W.heap.size)
  (h:∀v' w',w'.ownsRow base e 1 v' (n+1) (xs++[u])->Below base W w'->wpList P ops Q rest (a.put o.dst v') w'):wpList P ops Q (o::rest) a w:=by
 subst hw;obtain⟨i0,hi,hz0,hz1,hz2⟩:=info_parts hinfo;refine wpList_append_own _ hgd s x t ho base e i0 z 1 bytes ht hi hz0 hz1 hz2 hzs aJ v n xs hs (hown.alloc _) ⟨W.heap.size,0,none⟩ 1 1 [u] hx rfl ?_ ?_ h63 hbytes ?_ ?_
 ·intro j y hj;match j,hj with
  |0,hj=>simp at hj;subst hj;simp[Addr.add,World.cell?_alloc_new]
 ·intro y hy;simp at hy;subst hy;exact hu
 ·have:(W.alloc (.cells #[u] e)).heap.size=W.heap.size+1:=aK;omega
 intro v' w' h1 h2 _;exact h v' w' h1 (((Below.refl base W).alloc hbase _).grown h2 aN (fun k hk=>(hown.lt k hk).1))
theorem Qd5(W:World)(src e dst:TypeId)(hs:P.underlying src=some (.slice e))(he:P.underlying e=some (.int .u8))(hd:P.underlying dst=some .string)
  (g c:Nat) (b:UInt8) (hc:W.cell? (g,0)=some (.int .u8 (b.toNat:Int))):(convert src dst (.slice (g,0) 1 c)).run P W=.ok (.string ⟨[b].toArray⟩) W:=by
 have h:=run_convert_bytes_arg (P:=P) W src e hs he g 0 1 c [(b.toNat:Int)] rfl (fun i hi=>by
  obtain rfl:i=0:=aG;simpa using hc) dst hd
 rw[h];simp[strOfNums]
end
theorem Qbh(W:World)(g c:Nat)(b:UInt8)(hc:W.cell? (g,0)=some (.int .u8 (b.toNat:Int))):
  (convert 22 9 (.slice (g,0) 1 c)).run prog W=.ok (.string ⟨[b].toArray⟩) W:=
 Qd5 W 22 5 9 underlying22 underlying5 underlying9 g c b hc
theorem Bv{W w1:World}(hb:Below W.heap.size W w1):(∀b o,b<W.heap.size->w1.cell? ⟨b,o,none⟩=W.cell? ⟨b,o,none⟩)/\(∀b o,b<W.heap.size->w1.frozen? ⟨b,o,none⟩=W.frozen? ⟨b,o,none⟩)/\(∀b,b<W.heap.size->b<w1.heap.size):=
 ⟨fun b o h=>hb.cell (p:=⟨b,o,none⟩) h,fun b o h=>hb.frozen (p:=⟨b,o,none⟩) h,fun _ h=>ac h hb.size⟩
theorem Gd:(prog.info? 9).map (fun i=>(i.zero,i.size,i.bytes))=some (some (.string ⟨#[]⟩),1,16):=aM
theorem Ab:True:=True.intro
theorem Aa{p:Prop}(h:p):Hid p:=h
theorem Ap(n:Nat):n<=n:=Nat.le_refl n
theorem _root_.Go.RowKit.Hid.o{p:Prop}(h:Hid p):p:=h
theorem Au(n:Nat)(w:World):Below n w w:=Below.refl n w
theorem Dj{a a':Value}(h:a=a'):Ending.returned a=.returned a':=by rw[h]
theorem Qga{a b a' b':Value}(h1:a=a')(h2:b=b'):Ending.returned (.tuple #[a,b])=.returned (.tuple #[a',b']):=by rw[h1,h2]
theorem Qht{a b c a' b' c':Value}(h1:a=a')(h2:b=b')(h3:c=c'):Ending.returned (.tuple #[a,b,c])=.returned (.tuple #[a',b',c']):=by rw[h1,h2,h3]
theorem Qas{k:IntKind}{x y:Int}(h:x=y):Value.int k x=.int k y:=by rw[h]
theorem Qex{x y:List UInt8}(h:x=y):Value.string ⟨x.toArray⟩=y:=by rw[h]
theorem Ce{x y:Bool}(h:x=y):Value.bool x=.bool y:=by rw[h]
section
attribute [local go_sem] Qhy Qhh Qg3 Qfo ByteArray.mk_append_mk
theorem Tn(A B:Option Addr)(n m c d:Nat)(a b:List (List UInt8))(w:World)(ha:Bf w A n (Ag a))(hb:Bf w B m (Ag b)):
  Calls prog 21 #[.slice A n c,.slice B m d] w fun e w'=>e=.returned (.bool (decide (a=b)))/\∃k,w'=w.drewN k:=by
 have la:a.length=n:=by have:=ha.1;simpa [Ag]using this
 have lb:b.length=m:=by have:=hb.1;simpa [Ag]using this
 have hn63:n<=9223372036854775807:=by have:=ha.2.1;unfold maxLen at this;omega
 have hm63:m<=9223372036854775807:=by have:=hb.2.1;unfold maxLen at this;omega
 by_cases hnm:n=m
 ·have t0:((n:Int) == m)=true:=by simp[hnm]
  have hle:n<=m:=by omega
  have Hnm:=Aa hnm
  clear hnm
  go_enter func21,ntmps21
  go_wp2
  go_loopw [5] (fun i wr=>∃k:Nat,i=.int .i64 k/\k<=n/\Hid (a.take k=b.take k)/\∃q,wr=w.drewN q) (fun i _=>n - (intOf i).toNat)
  case atStart=>exact⟨0,rfl,Nat.zero_le _,rfl,0,rfl⟩
  case round=>
   obtain⟨k,rfl,hk,heq,q,rfl⟩:=hrel
   by_cases hlt:k<n
   ·obtain⟨b1,o1,rfl,hb1,hc1⟩:=ha.at_ hlt
    obtain⟨b2,o2,rfl,hb2,hc2⟩:=hb.at_ (show k<m by omega)
    have i1:(0:Int)<=(k:Int):=by omega
    have i2:(k:Int)<(n:Int):=by omega
    have i3:(k:Int)<(m:Int):=by omega
    have x1:w.cell? ⟨b1,o1+k,none⟩=some (.string ⟨(a[k]'(by omega)).toArray⟩):=by rw[hc1];simp[Ag]
    have x2:w.cell? ⟨b2,o2+k,none⟩=some (.string ⟨(b[k]'(by omega)).toArray⟩):=by rw[hc2];simp[Ag]
    have Hta:=Aa (Be a k (by omega))
    have Htb:=Aa (Be b k (by omega))
    have Ha:=Aa (List.getElem_mem (show k<a.length by omega))
    have hne:=Aa (fun h:a[k]'(show k<a.length by omega)≠b[k]'(show k<b.length by omega)=>show a≠b from fun e=>h (by subst e;rfl))
    generalize a[k]'(show k<a.length by omega)=p at x1 Hta hne Ha
    generalize b[k]'(show k<b.length by omega)=r at x2 Htb hne
    clear hc1 hc2
    by_cases hpr:p=r
    ·have t1:(p == r)=true:=by simp[hpr]
     have Hpr:=Aa hpr
     clear hpr
     go_wp2_with fail
     go_quiet (fail)
     go_wp2
     go_roundw
     case rel=>
      refine⟨k+1,by go_num,by omega,?_,_,rfl⟩
      show a.take (k+1)=b.take (k+1)
      rw[Hta.o,Htb.o,heq.o,Hpr.o]
     case measure=>simp[intOf];omega
    have t1:(p == r)=false:=by simpa using hpr
    have Hf:=Aa (show decide (a=b)=false by simpa using hne.o hpr)
    clear hpr hne
    go_wp2_with fail
    go_quiet (fail)
    go_wp2
    go_ret
    exact⟨Dj (Ce Hf.o.symm),_,World.drewN_drewN _ _ _⟩
   ·have Hf:=Aa (show decide (a=b)=true by
     have:=heq.o
     rw[List.take_of_length_le (by omega),List.take_of_length_le (by have:=Hnm.o;omega)]at this
     simpa using this)
    go_wp2_with fail
    go_ret
    exact⟨Dj (Ce Hf.o.symm),q,rfl⟩
 have t0:((n:Int) == m)=false:=by simp;omega
 have Hf:=Aa (show decide (a=b)=false by
  simp;intro e;subst e;omega)
 clear hnm
 go_enter func21,ntmps21
 go_wp2_with fail
 go_ret
 exact⟨Dj (Ce Hf.o.symm),0,rfl⟩
def D1(n:Nat):UInt8:=UInt8.ofNat n
theorem Ej{n:Nat}(h:n<256):(D1 n).toNat=n:=by unfold D1;exact UInt8.toNat_ofNat_of_lt' h
def mkF:Nat->Nat->List UInt8->List UInt8
 |0,_,o=>o
 |f+1,k,o=>if k=0 then o else mkF f (k / 10) (D1 (48+k % 10)::o)
theorem Ya:∀(f g k:Nat) (o:List UInt8),k<=f->k<=g->mkF f k o=mkF g k o
 |0,0,k,o,_,_=>rfl
 | 0, g + 1, k, o, h, _ => by obtain rfl:k=0:=by omega
                              simp[mkF]
 | f + 1, 0, k, o, _, h => by obtain rfl:k=0:=by omega
                              simp[mkF]
 |f+1,g+1,k,o,hf,hg=>by
  simp only[mkF]
  split
  ·rfl
  exact Ya f g (k / 10) _ (by omega) (by omega)
theorem Qd8(k:Nat)(o:List UInt8)(h:0<k):mkF k k o=mkF (k / 10) (k / 10) (D1 (48+k % 10)::o):=by
 obtain⟨j,rfl⟩:∃j,k=j+1:=⟨k - 1,by omega⟩
 rw[mkF,if_neg (by omega),Ya j ((j+1) / 10) _ _ (by omega) (Ap _)]
def J0(k:Nat):List UInt8:=if k=0 then[109,48]else 109::mkF k k []
theorem Px(k:Nat)(w:World)(hk:k<=4000000000):
  Calls prog 46 #[.int .i64 k] w fun e w'=>e=.returned (.string ⟨(J0 k).toArray⟩)/\Below w.heap.size w w':=by
 by_cases h0:k=0
 ·subst h0
  go_enter func46,ntmps46
  go_wp2_with fail
  go_ret
  exact⟨rfl,Au _ _⟩
 have h1:0<k:=by omega
 have Hm:=Aa (show J0 k=109::mkF k k []from if_neg h0)
 clear h0
 go_enter func46,ntmps46
 go_wp2
 go_loopw [0,3] (fun x o wr=>∃(j:Nat) (l:List UInt8),x=.int .i64 j/\o=.string ⟨l.toArray⟩/\Hid (mkF k k []=mkF j j l)/\l.length+j<=k/\Below w.heap.size w wr) (fun x _ _=>(intOf x).toNat)
 case atStart=>exact⟨k,[],rfl,rfl,rfl,by simp,Au _ _⟩
 case round=>
  obtain⟨j,l,rfl,rfl,hget,hlen,hb⟩:=hrel
  have hsz:=hb.size
  by_cases hj:0<j
  ·have hcv:=fun W g=>Qbh W g 1 (D1 (48+j % 10))
   have e1:((48:Int)+(j:Int) % 10)=((D1 (48+j % 10)).toNat:Int):=by rw[Ej (by omega)];omega
   have hu:(D1 (48+j % 10)).toNat<256:=(D1 (48+j % 10)).toNat_lt
   have Hs:=Aa (Qd8 j l hj)
   go_wp2_with fail
   go_roundw
   case rel=>
    refine⟨j / 10,D1 (48+j % 10)::l,by go_num,by simp,?_,?_,hb.alloc hsz _⟩
    ·show _=_
     rw[hget.o,Hs.o]
    ·simp;omega
   case measure=>simp[intOf];omega
  ·obtain rfl:j=0:=by omega
   have Hf:=Aa (show 109::l=J0 k by rw[Hm.o,hget.o];rfl)
   go_wp2_with fail
   go_ret
   exact⟨by rw[<-Hf.o];rfl,hb⟩
theorem Qbd{w w1 w2:World}{row:Option Nat}(h:w.grownBy w1 row)(hb:Below w1.heap.size w1 w2):w.grownBy w2 row:=
 ⟨hb.os.trans h.os,hb.tape.trans h.tape,hb.output.trans h.output,Nat.le_trans h.size hb.size,fun k hk hne=>(hb.block k (Nat.lt_of_lt_of_le hk h.size)).trans (h.block k hk hne)⟩
theorem Zq{w w1 w2:World}{row:Option Nat}(h:w.grownBy w1 row)(hb:w1.grownBy w2 row):w.grownBy w2 row:=
 ⟨hb.os.trans h.os,hb.tape.trans h.tape,hb.output.trans h.output,Nat.le_trans h.size hb.size,fun k hk hne=>(hb.block k (Nat.lt_of_lt_of_le hk h.size) hne).trans (h.block k hk hne)⟩
def Gx(k n:Nat):List (List UInt8):=(List.range n).map fun i=>J0 (k+i)
theorem Mg(k n:Nat):(Gx k n).length=n:=by simp[Gx]
theorem Qcl(k n i:Nat)(h:i<n):(Gx k n)[i]'(by rw[Mg];exact h)=J0 (k+i):=by simp[Gx]
theorem Qaa(k n:Nat):Gx k (n+1)=Gx k n++[J0 (k+n)]:=by simp[Gx,List.range_succ]
theorem Qb7(ls:List (List UInt8))(k i:Nat)(h:i<ls.length):(Ag (Gx k i++ls.drop i)).set i (.string ⟨(J0 (k+i)).toArray⟩)=Ag (Gx k (i+1)++ls.drop (i+1)):=by
 have e:ls.drop i=ls[i]::ls.drop (i+1):=(List.drop_eq_getElem_cons h)
 have hl:=Mg k i
 rw[e,Qaa]
 simp only[Ag,List.map_append,List.map_cons,List.append_assoc]
 rw[List.set_append,if_neg (by simp[hl])]
 simp[hl]
theorem Qco(ls:List (List UInt8))(k i:Nat)(h:i<ls.length):(Ag (Gx k i++ls.drop i))[i]?=some (.string ⟨(ls[i]).toArray⟩):=by
 have hl:=Mg k i
 rw[List.drop_eq_getElem_cons h]
 simp only[Ag,List.map_append,List.map_cons]
 rw[List.getElem?_append_right (by simp[hl])]
 simp[hl]
theorem Rg(base g c n k:Nat)(ls:List (List UInt8))(w:World)(hk:k+n<=4000000000)(hown:w.ownsRow base 9 1 (.slice (some ⟨g,0,none⟩) n c) n (Ag ls)):
  Calls prog 22 #[.slice (some ⟨g,0,none⟩) n c,.int .i64 k] w fun e w'=>
   e=.returned (.int .i64 ((k+n:Nat):Int))/\w'.ownsRow base 9 1 (.slice (some ⟨g,0,none⟩) n c) n (Ag (Gx k n))/\w.grownBy w' (some g):=by
 have hl:ls.length=n:=by have:=hown.1;simpa [Ag]using this
 go_enter func22,ntmps22
 go_wp2
 go_loopw [1,5] (fun x i wr=>∃j:Nat,x=.int .i64 ((k:Int)+(j:Int))/\i=.int .i64 j/\j<=n/\wr.ownsRow base 9 1 (.slice (some ⟨g,0,none⟩) n c) n (Ag (Gx k j++ls.drop j))/\w.grownBy wr (some g)) (fun _ i _=>n - (intOf i).toNat)
 case atStart=>exact⟨0,Qas (by omega),rfl,Nat.zero_le _,hown,World.grownBy.refl _ _⟩
 case round=>
  obtain⟨j,rfl,rfl,hj,hown,hg⟩:=hrel
  by_cases hlt:j<n
  ·have Hset:=Aa (Qb7 ls k j (by omega))
   have Hget:=Aa (Qco ls k j (by omega))
   generalize ls[j]'(show j<ls.length by omega)=old at Hget
   have hkj:(k:Int)+(j:Int)=((k+j:Nat):Int):=by omega
   have Hkj:=Aa hkj
   clear hkj
   go_wp2_with (go_at_call 46;rw[Hkj.o];refine(Px (k+j) _ (by omega)).mono ?_;rintro e w1 ⟨rfl,hb1⟩;have hown1:=Ax hown hb1;have hc1:=(hown1.cellAt j (by omega)).trans Hget.o;have hf1:=hown1.frozenAt j;have hst:=Aa (hown1.stored j (.string ⟨(J0 (k+j)).toArray⟩));clear hown1)
   go_goals
   go_roundw
   case rel=>
    refine⟨j+1,Qas (by omega),by go_num,by omega,?_,?_⟩
    ·have:=hst.o.1
     rw[Hset.o]at this
     exact this
    ·exact Zq (Qbd hg hb1) hst.o.2
   case measure=>simp[intOf];omega
  ·obtain rfl:j=n:=by omega
   go_wp2_with fail
   go_ret
   refine⟨rfl,?_,hg⟩
   have:Gx k j++ls.drop j=Gx k j:=by rw[List.drop_of_length_le (by omega)];simp
   rw[this]at hown;exact hown
end
theorem Ko{α:Type}{p q:α->Bool}:∀(l:List α) (_:∀x,q x=true->p x=true) {a:α} (_:a∈l) (_:p a=true) (_:q a=false),(l.filter q).length<(l.filter p).length
 |[],_,_,ha,_,_=>by cases ha
 |x::l,h,a,ha,hp,hq=>by
  have hle:∀l:List α,(l.filter q).length<=(l.filter p).length:=by
   intro l;induction l with
   |nil=>exact Ap _
   |cons y l ih=>
    simp only[List.filter_cons];by_cases h1:q y=true
    ·rw[if_pos h1,if_pos (h y h1)];simpa using ih
    rw[if_neg h1];split
    ·simp;omega
    exact ih
  rcases az.1 ha with rfl|ha
  ·have:=hle l;simp only[List.filter_cons,hp,hq];simp;omega
  have ih:=Ko l h ha hp hq;simp only[List.filter_cons];by_cases h1:q x=true
  ·rw[if_pos h1,if_pos (h x h1)];simpa using ih
  rw[if_neg h1];split
  ·simp;omega
  exact ih
section
variable {P:Program} {ops:Array Oper} {Q:Exit->Act->World->Prop} {md:Region.Mode}
def Ps(ops:Array Oper)(listed:Array Bool):Nat:=((List.range ops.size).filter fun i=>!listed.getD i false).length
theorem Vn(hac:∀(i:Nat) (o:Oper),ops[i]?=some o->∀e∈o.after,Region.binds md e=true->e.on<i)(I:(Nat->Bool)->Act->World->Prop)
  (hstep:∀(l:Nat->Bool) a w i o,ops[i]?=some o->l i=false->(∀e∈o.after,Region.binds md e=true->l e.on=true)->I l a w->wpOp P ops Q i (I fun j=>if j=i then true else l j) a w)
  (hdone:∀l a w,(∀i,i<ops.size->l i=true)->I l a w->Q .normal a w):
  ∀(fuel:Nat) (listed:Array Bool) a w,listed.size=ops.size->Ps ops listed<=fuel->I (fun j=>listed.getD j false) a w->wpAny P md ops Q fuel listed a w:=by
 have hall:∀listed:Array Bool,listed.size=ops.size->Region.ready md ops listed=[]->∀i,i<ops.size->listed.getD i false=true:=by
  intro listed hsz hr i;induction i using Nat.strongRecOn with
  |ind i ih=>
   intro hi;cases hb:listed.getD i false with
   |true=>rfl
   |false=>
    have:i∈Region.ready md ops listed:=by
     rw[mem_ready]
     refine ⟨by have h2:i<listed.size:=by omega
                simpa [Array.getD,h2]using hb,ops[i],by simp[hi],fun e he hbd=>?_⟩
     have h1:=hac i ops[i] (by simp[hi]) e he hbd;exact ih e.on h1 aG
    rw[hr]at this;cases this
 intro fuel;induction fuel with
 |zero=>
  intro listed a w hsz hst hI;have hall':∀i,i<ops.size->listed.getD i false=true:=by
   intro i hi;have h0:((List.range ops.size).filter fun i=>!listed.getD i false)=[]:=List.eq_nil_of_length_eq_zero (by unfold Ps at hst;omega);have:=List.filter_eq_nil_iff.1 h0 i (List.mem_range.2 hi);simpa using this
  refine⟨?_,hdone _ a w hall' hI⟩;cases hr:Region.ready md ops listed with
  |nil=>rfl
  |cons j js=>
   have hj:j∈Region.ready md ops listed:=by rw[hr];simp
   obtain⟨h1,o,h2,_⟩:=mem_ready.1 hj;have h3:j<ops.size:=(Array.getElem?_eq_some_iff.1 h2).1;have h4:=hall' j h3;have h5:j<listed.size:=aG;simp[Array.getD,h5]at h1 h4;rw[h1]at h4;cases h4
 |succ fuel ih=>
  intro listed a w hsz hst hI;refine⟨fun hr=>hdone _ a w (hall listed hsz hr) hI,fun i hi=>?_⟩;obtain⟨h1,o,h2,h3⟩:=mem_ready.1 hi;have hlt:i<ops.size:=(Array.getElem?_eq_some_iff.1 h2).1;have hlt2:i<listed.size:=aG;have h1':listed.getD i false=false:=by simpa [Array.getD,hlt2]using h1
  have hset:∀j,(listed.setIfInBounds i true).getD j false=if j=i then true else listed.getD j false:=by
   intro j;by_cases hj:j=i
   ·subst hj;simp[Array.getD,hlt2]
   rw[if_neg hj,getD_set_ne _ (Ne.symm hj)]
  refine wpOp_mono (fun a' w' h=>ih (listed.setIfInBounds i true) a' w' (by simpa using hsz) ?_ ?_) (hstep _ a w i o h2 h1' h3 hI)
  ·have:=Ko (p:=fun i=>!listed.getD i false) (q:=fun j=>!(listed.setIfInBounds i true).getD j false) (List.range ops.size) (fun x hx=>by
    simp only[Bool.not_eq_true']at hx ⊢;rw[hset]at hx;by_cases hxi:x=i
    ·rw[if_pos hxi]at hx;cases hx
    rwa [if_neg hxi]at hx) (List.mem_range.2 hlt) (by simp only[h1',Bool.not_false]) (by simp only[hset,if_true,Bool.not_true])
   unfold Ps at hst ⊢;omega
  have e:(fun j=>(listed.setIfInBounds i true).getD j false)=fun j=>if j=i then true else listed.getD j false:=funext hset
  rw[e];exact h
def Ar(p:Nat->Oper->Prop)(k:Nat)(os:List Oper):Prop:=∀i o,os[i]?=some o->p (k+i) o
theorem Ar.nil{p:Nat->Oper->Prop}{k:Nat}:Ar p k []:=fun i o h=>by simp at h
theorem Ar.cons{p:Nat->Oper->Prop}{k:Nat}{o:Oper}{os:List Oper}(h:p k o)(hs:Ar p (k+1) os):Ar p k (o::os):=fun i o' ho=>by
 cases i with
 |zero=>simp at ho;subst ho;exact h
 |succ i=>simp at ho;have:=hs i o' ho;rwa [Nat.add_assoc,Nat.add_comm 1 i]at this
theorem Ts{id:Nat}(hm:P.follows .mixedOrders=true)(hac:(List.range ops.size).all (fun i=>((ops[i]?).map fun o=>o.after.all fun e=>!Region.binds .any e || decide (e.on<i)).getD true)=true)
  (mk:(Nat->Value)->Act) (u0:Nat->Value) {a:Act} (ha:a=mk u0) {w:World}
  (φ:Nat->Value->World->Prop) (R:(Nat->Bool)->World->Prop) (Rel:World->World->Prop)
  (hput:Ar (fun i o=>∀u v,(mk u).put o.dst v=mk (fun j=>if j=i then v else u j)) 0 ops.toList)
  (hst:∀w w',Rel w w'->∀i v,φ i v w->φ i v w')
  (h0:R (fun _=>false) w.drew)
  (hstep:Ar (fun i o=>∀(l:Nat->Bool) u w,l i=false->(∀e∈o.after,Region.binds .any e=true->l e.on=true/\φ e.on (u e.on) w)->R l w ->
   ∀K:Act->World->Prop,(∀v w' a',φ i v w'->Rel w w'->R (fun j=>if j=i then true else l j) w'->a'=(mk u).put o.dst v->K a' w') ->
    if Region.wanted o (yielded ops (mk u).tmps)=true then Oper.wp P o (mk u) w K Q else K ((mk u).put o.dst undef) w) 0 ops.toList)
  (hdone:∀(l:Nat->Bool) u w,(∀i,i<ops.size->l i=true)->(∀i,i<ops.size->φ i (u i) w)->R l w->Q .normal (mk u) w):(Code.region id ops true).wp P Q a w:=by
 subst ha;have hst':=fun i v w w' h=>hst w w' h i v;have hac':∀(i:Nat) (o:Oper),ops[i]?=some o->∀e∈o.after,Region.binds .any e=true->e.on<i:=by
  intro i o ho e he hbd;have hlt:i<ops.size:=(Array.getElem?_eq_some_iff.1 ho).1;have h:=List.all_eq_true.1 hac i (List.mem_range.2 hlt);rw[ho]at h;have:=Array.all_eq_true_iff_forall_mem.1 h e he;simpa [hbd]using this
 refine wp_region_any hm ?_
 refine Vn hac' (fun l a w=>∃u,a=mk u/\(∀i,l i=true->i<ops.size->φ i (u i) w)/\R l w) ?_ ?_ ops.size _ (mk u0) _ aK (by
  unfold Ps;exact ad (List.length_filter_le _ _) aK) ⟨u0,rfl,?_,?_⟩
 ·rintro l a w i o ho hl hpre ⟨u,rfl,hφ,hR⟩;have ho':ops.toList[i]?=some o:=by simpa using ho
  have hp:=hput i o ho';have hs:=hstep i o ho';rw[am]at hp hs;refine wpOp_step ho fun K' hK'=>?_;refine hs l u w hl (fun e he hb=>⟨hpre e he hb,hφ e.on (hpre e he hb) ?_⟩) hR K' (fun v w' a' hv hrel hR' ha'=>hK' _ _ ⟨_,ha'.trans (hp u v),fun j hj hjs=>?_,hR'⟩)
  ·exact gd
  by_cases hji:j=i
  ·subst hji;simpa using hv
  have hj':l j=true:=ef;simpa [hji]using hst' j _ w w' hrel (hφ j hj' hjs)
 ·rintro l a w hl ⟨u,rfl,hφ,hR⟩;exact gA
 ·intro i hi;simp[Array.getD]at hi
 have e:(fun j=>(Array.replicate ops.size false).getD j false)=fun _=>false:=by
  funext j
  simp[Array.getD]
 rw[e];exact h0
def Bh:List Nat->Nat->(Nat->Value)->List Value->List Value
 |[],_,_,t=>t
 |s::S,i,u,t=>Bh S (i+1) u (t.set s (u i))
def Br(a:Act)(S:List Nat)(u:Nat->Value):Act:={tmps:=(Bh S 0 u a.tmps.toList).toArray,defers:=a.defers}
theorem Md:∀(S:List Nat) (i:Nat) (u:Nat->Value) (t:List Value),(∀k s,S[k]?=some s->u (i+k)=t.getD s undef)->Bh S i u t=t
 |[],_,_,_,_=>rfl
 |s::S,i,u,t,h=>by
  have h0:u i=t.getD s undef:=by simpa using h 0 s rfl
  have e:t.set s (u i)=t:=by
   rw[h0];apply List.ext_getElem?;intro j;by_cases hj:s=j
   ·subst hj;by_cases hl:s<t.length
    ·simp[List.getD,hl]
    simp[hl]
   simp[hj]
  rw[Bh,e];exact Md S (i+1) u t fun k s' hk=>by
   have:=h (k+1) s' (by simpa using hk);rwa [show i+1+k=i+(k+1)by omega]
theorem Kb:∀(S:List Nat) (i:Nat) (u v:Nat->Value) (t:List Value),(∀j,i<=j->u j=v j)->Bh S i u t=Bh S i v t
 |[],_,_,_,_,_=>rfl
 |s::S,i,u,v,t,h=>by
  rw[Bh,Bh,h i (Ap _)];exact Kb S (i+1) u v _ fun j hj=>h j aG
theorem P2:∀(S:List Nat) (i:Nat) (u:Nat->Value) (t:List Value) (s:Nat) (v:Value),s∉S->(Bh S i u t).set s v=Bh S i u (t.set s v)
 |[],_,_,_,_,_,_=>rfl
 |s'::S,i,u,t,s,v,h=>by
  have h1:s≠s':=fun e=>h (by simp[e]);rw[Bh,Bh,P2 S (i+1) u _ s v (fun hm=>h (by simp[hm]))];congr 1
  exact(List.set_comm _ _ h1).symm
theorem M4:∀(S:List Nat) (i:Nat) (u:Nat->Value) (t:List Value) (k s:Nat) (v:Value),S.Nodup->S[k]?=some s->(Bh S i u t).set s v=Bh S i (fun j=>if j=i+k then v else u j) t
 |[],_,_,_,k,s,v,_,h=>by simp at h
 |s'::S,i,u,t,0,s,v,hn,h=>by
  simp at h;subst h;rw[Bh,Bh,P2 S (i+1) u _ s' v (List.nodup_cons.1 hn).1];rw[if_pos aG,List.set_set];exact Kb S (i+1) u _ _ fun j hj=>by rw[if_neg aG]
 |s'::S,i,u,t,k+1,s,v,hn,h=>by
  simp at h;rw[Bh,Bh,M4 S (i+1) u _ k s v (List.nodup_cons.1 hn).2 h,if_neg aG];rw[show i+1+k=i+(k+1)by omega]
theorem M1:∀(S:List Nat) (i:Nat) (u:Nat->Value) (t:List Value) (k s:Nat) (v:Value),S[k]?=some s->t.length<=s->Bh S i u t=Bh S i (fun j=>if j=i+k then v else u j) t
 |[],_,_,_,k,s,v,h,_=>by simp at h
 |s'::S,i,u,t,0,s,v,h,hl=>by
  simp at h;subst h;rw[Bh,Bh,List.set_eq_of_length_le hl,List.set_eq_of_length_le hl];exact Kb S (i+1) u _ _ fun j hj=>by rw[if_neg aG]
 |s'::S,i,u,t,k+1,s,v,h,hl=>by
  simp at h;rw[Bh,Bh,M1 S (i+1) u _ k s v h (by simpa using hl),if_neg aG];rw[show i+1+k=i+(k+1)by omega]
def Gt(n:Nat):List Oper->List Nat->Bool
 |[],[]=>true
 |o::os,s::S=>(match o.dst with|some d=>d == s|none=>decide (n<=s)) && !S.contains s && Gt n os S
 |_,_=>false
theorem Ky{n:Nat}:∀{os:List Oper} {S:List Nat},Gt n os S=true->S.Nodup/\∀(i:Nat) (o:Oper),os[i]?=some o->∃s,S[i]?=some s/\(o.dst=some s\/(o.dst=none/\n<=s))
 |[],[],_=>⟨List.nodup_nil,fun i o h=>by simp at h⟩
 |[],_::_,h=>by simp[Gt]at h
 |_::_,[],h=>by simp[Gt]at h
 |o::os,s::S,h=>by
  simp only[Gt,av]at h;obtain⟨⟨h1,h2⟩,h3⟩:=h;obtain⟨hn,hs⟩:=Ky h3;refine⟨List.nodup_cons.2 ⟨by simpa using h2,hn⟩,fun i o' ho=>?_⟩;cases i with
  |zero=>
   simp at ho;subst ho;refine⟨s,rfl,?_⟩;cases hd:o.dst with
   |some d=>rw[hd]at h1;simp at h1;exact .inl (by rw[h1])
   |none=>rw[hd]at h1;simp at h1;exact .inr ⟨rfl,h1⟩
  |succ i=>simpa using hs i o' (by simpa using ho)
theorem Em{id:Nat}{a:Act}{w:World}(S:List Nat)(hm:P.follows .mixedOrders=true)(hac:(List.range ops.size).all (fun i=>((ops[i]?).map fun o=>o.after.all fun e=>!Region.binds .any e || decide (e.on<i)).getD true)=true)
  (hS:Gt a.tmps.size ops.toList S=true) {mk:(Nat->Value)->Act} (hmk:∀u,Br a S u=mk u)
  (φ:Nat->Value->World->Prop) (R:(Nat->Bool)->World->Prop) (Rel:World->World->Prop)
  (hst:∀w w',Rel w w'->∀i v,φ i v w->φ i v w')
  (h0:R (fun _=>false) w.drew)
  (hstep:Ar (fun i o=>∀(l:Nat->Bool) u w,l i=false->(∀e∈o.after,Region.binds .any e=true->l e.on=true/\φ e.on (u e.on) w)->R l w ->
   ∀K:Act->World->Prop,(∀v w' a',φ i v w'->Rel w w'->R (fun j=>if j=i then true else l j) w'->a'=(mk u).put o.dst v->K a' w') ->
    if Region.wanted o (yielded ops (mk u).tmps)=true then Oper.wp P o (mk u) w K Q else K ((mk u).put o.dst undef) w) 0 ops.toList)
  (hdone:∀(l:Nat->Bool) u w,(∀i,i<ops.size->l i=true)->(∀i,i<ops.size->φ i (u i) w)->R l w->Q .normal (mk u) w):(Code.region id ops true).wp P Q a w:=by
 obtain rfl:Br a S=mk:=funext hmk;obtain⟨hn,hs⟩:=Ky hS;refine Ts hm hac (Br a S) (fun i=>a.tmps.toList.getD (S.getD i 0) undef) ?_ φ R Rel ?_ hst h0 hstep hdone
 ·exact gx
 intro i o ho u v;rw[am];obtain⟨s,hsi,hd|⟨hd,hb⟩⟩:=hs i o ho
 ·exact fR
 have e:=M1 S 0 u a.tmps.toList i s v hsi (by simpa using hb);rw[am]at e;unfold Br Act.put;rw[hd];simp only[<-e]
end
section
attribute [local go_sem] Qhy Qhh Qg3 Qfo ByteArray.mk_append_mk
theorem Ri(A:Option Addr)(c n k:Nat)(w:World)(hk:k+n<=4000000000)(ha:Bf w A n (Ag (Gx k n))):
  Calls prog 23 #[.slice A n c,.int .i64 k] w fun e w'=>e=.returned (.int .i64 ((k+n:Nat):Int))/\Below w.heap.size w w':=by
 go_enter func23,ntmps23
 go_wp2
 go_loopw [1,5] (fun x i wr=>∃j:Nat,x=.int .i64 ((k:Int)+(j:Int))/\i=.int .i64 j/\j<=n/\Below w.heap.size w wr) (fun _ i _=>n - (intOf i).toNat)
 case atStart=>exact⟨0,Qas (by omega),rfl,Nat.zero_le _,Au _ _⟩
 case round=>
  obtain⟨j,rfl,rfl,hj,hb⟩:=hrel
  by_cases hlt:j<n
  ·obtain⟨b,o,rfl,hbl,hc⟩:=(ha.below hb).at_ hlt
   have hc':wr.cell? ⟨b,o+j,none⟩=some (.string ⟨(J0 (k+j)).toArray⟩):=by
    rw[hc];simp only[Ag,List.getElem_map,Qcl k n j hlt]
   clear hc
   have i1:(0:Int)<=(j:Int):=by omega
   have i2:(j:Int)<(n:Int):=by omega
   have hkj:(k:Int)+(j:Int)=((k+j:Nat):Int):=by omega
   have Hkj:=Aa hkj
   have hne:(J0 (k+j) == J0 (k+j))=true:=by simp
   clear hkj
   go_wp2_with fail
   refine Em [12,13,14,15,16,17,18] (by kernel_rfl) (by kernel_rfl) (by kernel_rfl) (fun u=>by dsimp only[Br,Bh,List.set])
    (fun i v W=>v=[.slice (some ⟨b,o,none⟩) n c,.int .i64 j,.pointer (some ⟨b,o+j,none⟩),.string ⟨(J0 (k+j)).toArray⟩,.int .i64 ((k:Int)+(j:Int)),.string ⟨(J0 (k+j)).toArray⟩,.bool false][i]?.getD undef)
    (fun _ W=>Below w.heap.size w W/\b<W.heap.size/\W.cell? ⟨b,o+j,none⟩=some (.string ⟨(J0 (k+j)).toArray⟩)) (fun _ _=>True) (fun _ _ _ _ _ h=>h) ⟨hb.drew,hbl,hc'⟩ ?_ ?_
   ·repeat (first|exact Ar.nil|(refine Ar.cons ?_ ?_;rotate_left))
    all_goals
     rintro L u W hL hpre ⟨hR1,hR2,hR3⟩ K hK
     first|(simp[Region.binds]at hpre;done)|simp[Region.binds]at hpre|clear hpre
     go_simp
    ·exact hK _ _ _ rfl Ab ⟨hR1,hR2,hR3⟩ rfl
    ·exact hK _ _ _ rfl Ab ⟨hR1,hR2,hR3⟩ rfl
    ·exact hK _ _ _ rfl Ab ⟨hR1,hR2,hR3⟩ (by simp[Act.put,hpre])
    ·exact hK _ _ _ rfl Ab ⟨hR1,hR2,hR3⟩ (by simp[Act.put,hpre])
    ·exact hK _ _ _ rfl Ab ⟨hR1,hR2,hR3⟩ rfl
    ·have hm:=Px (k+j) W (by omega)
     rw[<-Hkj.o]at hm
     refine hm.mono ?_
     rintro e w1 ⟨rfl,hb1⟩
     exact hK _ _ _ rfl Ab ⟨hR1.trans (hb1.mono hR1.size),Nat.lt_of_lt_of_le hR2 hb1.size,(hb1.cell (p:=⟨b,o+j,none⟩) hR2).trans hR3⟩ (by simp[Act.put,hpre])
    ·exact hK _ _ _ rfl Ab ⟨hR1,hR2,hR3⟩ (by simp[Act.put,hpre])
   rintro L u W hL hφ ⟨hR1,hR2,hR3⟩
   have c6:=hφ 6 (by decide)
   clear hφ hL
   simp at c6
   simp only[c6]
   go_wp2_with fail
   go_roundw
   case rel=>exact⟨j+1,Qas (by omega),by go_num,by omega,hR1⟩
   case measure=>simp[intOf];omega
  ·obtain rfl:j=n:=by omega
   go_wp2_with fail
   go_ret
   exact⟨Dj (Qas (by omega)),hb⟩
theorem Qfj{w:World}{base:Nat}{e:TypeId}{v:Value}{n:Nat}{xs:List Value}(h:w.ownsRow base e 1 v n xs):
  (v=.slice none 0 0/\n=0)\/∃g c,v=.slice (some ⟨g,0,none⟩) n c/\base<=g/\g<w.heap.size:=by
 rcases h.2 with⟨rfl,rfl⟩|⟨g,cap,cur,rfl,hb,hh,hnc,hcm,hcs,htk⟩
 ·exact .inl ⟨rfl,rfl⟩
 exact .inr ⟨g,cap,rfl,hb,(h.lt g rfl).2⟩
theorem Qeu(base n k:Nat)(v:Value)(ls:List (List UInt8))(w:World)(hk:k+n<=4000000000)(hown:w.ownsRow base 9 1 v n (Ag ls)):
  Calls prog 22 #[v,.int .i64 k] w fun e w'=>
   e=.returned (.int .i64 ((k+n:Nat):Int))/\w'.ownsRow base 9 1 v n (Ag (Gx k n))/\w.grownBy w' v.ownBlock:=by
 rcases Qfj hown with⟨rfl,rfl⟩|⟨g,c,rfl,_,_⟩
 ·have hz:ls=[]:=List.eq_nil_of_length_eq_zero (by have:=hown.1;simpa [Ag]using this)
  subst hz
  go_enter func22,ntmps22
  go_wp2
  refine wp_loop_rounds 1 ?_
  rw[rounds_succ]
  go_wp2
  go_ret
  exact⟨rfl,hown,World.grownBy.refl _ _⟩
 exact Rg base g c n k ls w hk hown
theorem Qer(b1 b2 n m:Nat)(v u:Value)(a b:List (List UInt8))(w:World)(h1:w.ownsRow b1 9 1 v n (Ag a))(h2:w.ownsRow b2 9 1 u m (Ag b)):
  Calls prog 21 #[v,u] w fun e w'=>e=.returned (.bool (decide (a=b)))/\∃k,w'=w.drewN k:=by
 obtain⟨A,c,rfl,ha⟩:=Bf.own h1
 obtain⟨B,d,rfl,hb⟩:=Bf.own h2
 exact Tn A B n m c d a b w ha hb
theorem Yi(b1 n k:Nat)(v:Value)(w:World)(hk:k+n<=4000000000)(h1:w.ownsRow b1 9 1 v n (Ag (Gx k n))):
  Calls prog 23 #[v,.int .i64 k] w fun e w'=>e=.returned (.int .i64 ((k+n:Nat):Int))/\Below w.heap.size w w':=by
 obtain⟨A,c,rfl,ha⟩:=Bf.own h1
 exact Ri A c n k w hk ha
theorem Qcs{w1 w2:World}{b0 n m:Nat}{e:TypeId}{v u:Value}{xs ys:List Value}(h0:w1.ownsRow b0 e 1 v n xs)(h1:w2.ownsRow w1.heap.size e 1 u m ys):v.ownBlock=none\/v.ownBlock≠u.ownBlock:=by
 cases hv:v.ownBlock with
 |none=>exact .inl rfl
 |some g=>
  refine .inr fun hu=>?_
  have h2:=(h0.lt g hv).2
  have h3:=(h1.lt g hu.symm).1
  omega
def Gg(c:UInt8):Bool:=decide (97<=c.toNat) && decide (c.toNat<=122)
def Az(c:UInt8):Bool:=decide (48<=c.toNat) && decide (c.toNat<=57)
def At(s:List UInt8):Bool:=decide (1<=s.length) && decide (s.length<=3) && s.all Gg
theorem C9{c:UInt8}:Az c=true↔48<=c.toNat/\c.toNat<=57:=by simp[Az]
theorem Kn{c:UInt8}:Gg c=true↔97<=c.toNat/\c.toNat<=122:=by simp[Gg]
theorem Ek{s:List UInt8}:At s=true↔1<=s.length/\s.length<=3/\∀c∈s,Gg c=true:=by
 simp[At,and_assoc]
def An(n:Nat):List UInt8:=if h:n<10 then[D1 (48+n)]else An (n / 10)++[D1 (48+n % 10)]
termination_by n
decreasing_by omega
theorem Dy{n:Nat}(h:n<10):An n=[D1 (48+n)]:=by rw[An,dif_pos h]
theorem Kq{n:Nat}(h:¬n<10):An n=An (n / 10)++[D1 (48+n % 10)]:=by rw[An,dif_neg h]
def E0(s:List UInt8):Nat:=s.foldl (fun n c=>10*n+(c.toNat - 48)) 0
theorem Ja(s:List UInt8)(c:UInt8):E0 (s++[c])=10*E0 s+(c.toNat - 48):=by simp[E0,List.foldl_append]
theorem Qeg:E0 []=0:=rfl
def Cf(s:List UInt8):Option Nat:=
 if 1<=s.length/\s.length<=6/\s.all Az=true/\(s.head?≠some 48\/s.length=1)then some (E0 s)else none
theorem Dv{α:Type}(s:List α):s=[]\/∃t c,s=t++[c]:=by
 rcases s.eq_nil_or_concat with h|⟨t,c,h⟩
 ·exact .inl h
 exact .inr ⟨t,c,by simpa using h⟩
theorem Ru:∀(k:Nat) (s:List UInt8),s.length=k->s.all Az=true->E0 s<10 ^ k
 |0,s,h,_=>by
  obtain rfl:=List.eq_nil_of_length_eq_zero h;simp[E0]
 |k+1,s,h,ha=>by
  rcases Dv s with rfl|⟨t,c,rfl⟩
  ·simp at h
  simp at h;simp only[List.all_append,av,List.all_cons,List.all_nil,Bool.and_true]at ha;have ih:=Ru k t h ha.1;have hc:=C9.1 ha.2;rw[Ja,Nat.pow_succ];omega
theorem Za:∀(k:Nat) (s:List UInt8),s.length=k->s≠[]->s.all Az=true->s.head?≠some 48->0<E0 s
 |0,s,h,hn,_,_=>absurd (List.eq_nil_of_length_eq_zero h) hn
 |k+1,s,h,hn,ha,hh=>by
  rcases Dv s with rfl|⟨t,c,rfl⟩
  ·exact absurd rfl hn
  simp at h;simp only[List.all_append,av,List.all_cons,List.all_nil,Bool.and_true]at ha;have hc:=C9.1 ha.2;rw[Ja];by_cases ht:t=[]
  ·subst ht;simp at hh;have:c.toNat≠48:=fun e=>hh (UInt8.toNat_inj.1 e);omega
  have hh':t.head?≠some 48:=by
   cases t with
   |nil=>exact absurd rfl ht
   |cons a t=>simpa using hh
  have:=Za k t h ht ha.1 hh';omega
theorem Vi:∀(k:Nat) (s:List UInt8),s.length=k->s≠[]->s.all Az=true->(s.head?≠some 48\/s.length=1)->An (E0 s)=s
 |0,s,h,hn,_,_=>absurd (List.eq_nil_of_length_eq_zero h) hn
 |k+1,s,h,hn,ha,hh=>by
  rcases Dv s with rfl|⟨t,c,rfl⟩
  ·exact absurd rfl hn
  simp at h;simp only[List.all_append,av,List.all_cons,List.all_nil,Bool.and_true]at ha;have hc:=C9.1 ha.2;have hc2:D1 (48+(c.toNat - 48))=c:=by
   apply UInt8.toNat_inj.1;rw[Ej aG];omega
  rw[Ja];by_cases ht:t=[]
  ·subst ht;rw[Qeg,Dy aG];simp[hc2]
  have hl:0<t.length:=List.length_pos_iff.2 ht;have hh1:t.head?≠some 48:=by
   cases t with
   |nil=>exact absurd rfl ht
   |cons a t=>rcases hh with hh|hh<;>simp at hh ⊢<;>first|exact hh|omega
  have hp:=Za t.length t rfl ht ha.1 hh1;have ih:=Vi k t h ht ha.1 (.inl hh1);rw[Kq aG];have e1:(10*E0 t+(c.toNat - 48)) / 10=E0 t:=aG;have e2:(10*E0 t+(c.toNat - 48)) % 10=c.toNat - 48:=aG;rw[e1,e2,ih,hc2]
theorem Jo:∀(k n:Nat),n<=k->An n≠[]/\(An n).all Az=true/\E0 (An n)=n/\((An n).head?≠some 48\/n=0)/\(n<10->(An n).length=1)/\(10<=n->2<=(An n).length)
 |0,n,h=>by
  obtain rfl:n=0:=aG;rw[Dy aG];refine⟨by simp,by decide,by decide,.inr rfl,fun _=>rfl,fun h=>by omega⟩
 |k+1,n,h=>by
  by_cases hn:n<10
  ·rw[Dy hn];have e:(D1 (48+n)).toNat=48+n:=Ej aG;refine⟨by simp,by simp[C9,e];omega,?_,?_,fun _=>rfl,fun h=>by omega⟩
   ·show 10*0+((D1 (48+n)).toNat - 48)=n;omega
   by_cases h0:n=0
   ·exact .inr h0
   refine .inl ?_;intro hh;simp at hh;have:=congrArg UInt8.toNat hh;rw[e]at this;have h48:(48:UInt8).toNat=48:=rfl;omega
  obtain⟨i1,i2,i3,i4,_,_⟩:=Jo k (n / 10) aG;have e:(D1 (48+n % 10)).toNat=48+n % 10:=Ej aG;have hl:0<(An (n / 10)).length:=List.length_pos_iff.2 i1;rw[Kq hn];refine⟨by simp,?_,?_,?_,fun h=>absurd h hn,fun _=>by simp;omega⟩
  ·simp only[List.all_append,av,List.all_cons,List.all_nil,Bool.and_true];exact⟨i2,C9.2 aG⟩
  ·rw[Ja,i3,e];omega
  refine .inl ?_;have e1:(An (n / 10)++[D1 (48+n % 10)]).head?=(An (n / 10)).head?:=by
   cases hd:An (n / 10)with
   |nil=>exact absurd hd i1
   |cons a t=>rfl
  rw[e1];rcases i4 with h|h
  ·exact h
  omega
theorem Nl(n:Nat):An n≠[]:=(Jo n n (Nat.le_refl _)).1
theorem Kp(n:Nat):(An n).all Az=true:=(Jo n n (Nat.le_refl _)).2.1
theorem Nf(n:Nat):E0 (An n)=n:=(Jo n n (Nat.le_refl _)).2.2.1
theorem Qb6(n:Nat):(An n).head?≠some 48\/(An n).length=1:=by
 obtain⟨_,_,_,h4,h5,_⟩:=Jo n n (Nat.le_refl _);rcases h4 with h|h
 ·exact .inl h
 exact .inr (h5 aG)
theorem Qei{m n:Nat}(h:An m=An n):m=n:=by rw[<-Nf m,h,Nf]
theorem C0:∀(k n:Nat),n<10 ^ (k+1)->(An n).length<=k+1
 |0,n,h=>by rw[Dy bg];simp
 |k+1,n,h=>by
  by_cases hn:n<10
  ·rw[Dy hn];simp
  rw[Kq hn];have:=C0 k (n / 10) (by rw[Nat.pow_succ]at h;omega);simp;omega
theorem Bt{s:List UInt8}{n:Nat}:Cf s=some n↔n<=999999/\s=An n:=by
 unfold Cf;constructor
 ·intro h;split at h
  ·rename_i hc;obtain⟨h1,h2,h3,h4⟩:=hc;injection h with h;have hn:s≠[]:=List.length_pos_iff.1 aG;have hv:=Ru s.length s rfl h3;have hle:10 ^ s.length<=10 ^ 6:=Nat.pow_le_pow_right aG h2;have e6:10 ^ 6=1000000:=rfl;refine⟨by omega,?_⟩;rw[<-h];exact(Vi s.length s rfl hn h3 h4).symm
  cases h
 rintro⟨h1,rfl⟩;have hl:=C0 5 n en;have hp:0<(An n).length:=List.length_pos_iff.2 (Nl n);rw[if_pos ⟨by omega,by omega,Kp n,Qb6 n⟩,Nf]
structure Kd where
 signs:List UInt8
 base:List UInt8
 name:List UInt8
deriving DecidableEq
def Bl(c:UInt8):Bool:=c == 91 || c == 63
def Cd(k:Kd):List UInt8:=if k.base=[64]then 64::(k.name++[59])else k.base
def Bp(k:Kd):List UInt8:=k.signs++Cd k
def Kd.nil:Kd:=⟨[],[],[]⟩
def Kd.part(k:Kd):Kd:={k with signs:=k.signs.tail}
def Vv(k:Kd):Prop:=(k.base=[64]/\At k.name=true)\/((k.base=[110]\/k.base=[116]\/k.base=[102])/\k.name=[])
def Da(k:Kd):Prop:=k.signs.all Bl=true/\Vv k/\(Bp k).length<=12
theorem T0{k:Kd}(h:Vv k):∃c t,Cd k=c::t/\Bl c=false:=by
 unfold Cd;rcases h with⟨h,_⟩|⟨h|h|h,_⟩
 ·rw[if_pos h];exact⟨64,_,rfl,by decide⟩
 ·rw[h,if_neg aJ];exact⟨110,[],rfl,by decide⟩
 ·rw[h,if_neg aJ];exact⟨116,[],rfl,by decide⟩
 rw[h,if_neg aJ];exact⟨102,[],rfl,by decide⟩
theorem Eo{p:UInt8->Bool}:∀{a b:List UInt8},a.all p=true->(∃c t,b=c::t/\p c=false)->(a++b).takeWhile p=a/\(a++b).dropWhile p=b
 |[],b,_,⟨c,t,e,h⟩=>by subst e;simp[h]
 |x::a,b,ha,hb=>by
  simp only[List.all_cons,av]at ha;have ih:=Eo ha.2 hb;simp[ha.1,ih.1,ih.2]
theorem Gu{p:UInt8->Bool}:∀(a:List UInt8),(a.takeWhile p).all p=true
 |[]=>rfl
 |x::a=>by
  by_cases h:p x=true
  ·simp[h]
  simp[h]
def Cg(s:List UInt8):Option Kd:=
 if 12<s.length then none
 else if s.dropWhile Bl=[110]\/s.dropWhile Bl=[116]\/s.dropWhile Bl=[102]then some ⟨s.takeWhile Bl,s.dropWhile Bl,[]⟩
 else if (s.dropWhile Bl).head?=some 64/\(s.dropWhile Bl).getLast?=some 59/\At ((s.dropWhile Bl).drop 1).dropLast=true then some ⟨s.takeWhile Bl,[64],((s.dropWhile Bl).drop 1).dropLast⟩
 else none
theorem Qbo{r:List UInt8}(h1:r.head?=some 64)(h2:r.getLast?=some 59):r=64::((r.drop 1).dropLast++[59]):=by
 cases r with
 |nil=>simp at h1
 |cons a t=>
  simp at h1;subst h1;rcases Dv t with rfl|⟨u,c,rfl⟩
  ·simp at h2
  have:c=59:=by
   rw[show (64:UInt8)::(u++[c])=(64::u)++[c]from rfl,List.getLast?_append]at h2;simpa using h2
  subst this;simp
theorem D7{s:List UInt8}{k:Kd}:Cg s=some k↔Da k/\Bp k=s:=by
 have htd:s.takeWhile Bl++s.dropWhile Bl=s:=List.takeWhile_append_dropWhile;constructor
 ·intro h;unfold Cg at h;split at h
  ·cases h
  rename_i h12;split at h
  ·rename_i hb;injection h with h;subst h;have hcore:Cd ⟨s.takeWhile Bl,s.dropWhile Bl,[]⟩=s.dropWhile Bl:=by
    unfold Cd;rw[if_neg];rcases hb with h|h|h<;>· show ¬s.dropWhile Bl=_;rw[h];decide
   have e:Bp ⟨s.takeWhile Bl,s.dropWhile Bl,[]⟩=s:=by unfold Bp;rw[hcore];exact htd
   exact⟨⟨Gu s,.inr ⟨hb,rfl⟩,by rw[e];omega⟩,e⟩
  split at h
  ·rename_i hb;injection h with h;subst h;have e1:=Qbo hb.1 hb.2.1;have e:Bp ⟨s.takeWhile Bl,[64],((s.dropWhile Bl).drop 1).dropLast⟩=s:=by
    unfold Bp Cd;rw[if_pos rfl];show s.takeWhile Bl++64::(((s.dropWhile Bl).drop 1).dropLast++[59])=s;rw[<-e1];exact htd
   exact⟨⟨Gu s,.inl ⟨rfl,hb.2.2⟩,by rw[e];omega⟩,e⟩
  cases h
 rintro⟨⟨h1,h2,h3⟩,rfl⟩;obtain⟨e1,e2⟩:=Eo h1 (T0 h2);unfold Cg;rw[if_neg aG];show (if (k.signs++Cd k).dropWhile Bl=[110]\/_ then _ else _)=_;unfold Bp;rw[e1,e2];obtain⟨sg,b,nm⟩:=k;rcases h2 with⟨h,hn⟩|⟨h,hn⟩
 ·simp only at h hn;subst h;unfold Cd;simp only[if_pos];rw[if_neg aK,if_pos]
  ·simp
  refine⟨rfl,?_,by simpa using hn⟩;rw[show (64:UInt8)::(nm++[59])=(64::nm)++[59]from rfl,List.getLast?_append];rfl
 simp only at h hn;subst hn;have hc:Cd ⟨sg,b,[]⟩=b:=by
  unfold Cd;rw[if_neg];rcases h with h|h|h<;>· show ¬b=_;rw[h];decide
 rw[hc,if_pos h]
theorem Kx{k:Kd}(h:Da k):Da k.part/\(k.signs≠[]->Bp k.part=(Bp k).tail/\(Bp k.part).length+1=(Bp k).length):=by
 obtain⟨h1,h2,h3⟩:=h;obtain⟨sg,b,nm⟩:=k;have hc:∀g,Cd ⟨g,b,nm⟩=Cd ⟨sg,b,nm⟩:=fun g=>rfl;cases sg with
 |nil=>exact⟨⟨h1,h2,h3⟩,fun h=>absurd rfl h⟩
 |cons c t=>
  simp only[List.all_cons,av]at h1;have e:Bp (Kd.part ⟨c::t,b,nm⟩)=(Bp ⟨c::t,b,nm⟩).tail:=rfl;have el:(Bp (Kd.part ⟨c::t,b,nm⟩)).length+1=(Bp ⟨c::t,b,nm⟩).length:=rfl;exact⟨⟨h1.2,h2,by omega⟩,fun _=>⟨e,el⟩⟩
def Ae(c:UInt8):List UInt8->List (List UInt8)
 |[]=>[[]]
 |x::s=>if x=c then[]::Ae c s else match Ae c s with
  |p::ps=>(x::p)::ps
  |[]=>[[x]]
def Aq(c:UInt8):List (List UInt8)->List UInt8
 |[]=>[]
 |[p]=>p
 |p::ps=>p++c::Aq c ps
theorem Ds(c:UInt8)(s:List UInt8):Ae c s≠[]:=by
 cases s with
 |nil=>simp[Ae]
 |cons x s=>
  simp only[Ae];split
  ·simp
  split<;>simp
theorem Cj(c:UInt8)(p:List UInt8){ps:List (List UInt8)}(h:ps≠[]):Aq c (p::ps)=p++c::Aq c ps:=by
 cases ps with
 |nil=>exact absurd rfl h
 |cons q ps=>rfl
theorem Mz(c:UInt8):∀s:List UInt8,Aq c (Ae c s)=s
 |[]=>rfl
 |x::s=>by
  have ih:=Mz c s;have hn:=Ds c s;simp only[Ae];split
  ·rename_i h;rw[Cj c _ hn,ih,h];rfl
  cases hs:Ae c s with
  |nil=>exact absurd hs hn
  |cons p ps=>
   rw[hs]at ih;cases ps with
   |nil=>simpa [Aq]using ih
   |cons q ps=>
    rw[Cj c _ aK]at ih ⊢;simp[ih]
theorem Vj(c:UInt8):∀s:List UInt8,∀p∈Ae c s,c∉p
 |[],p,hp=>by simp[Ae]at hp;simp[hp]
 |x::s,p,hp=>by
  have ih:=Vj c s;simp only[Ae]at hp;split at hp
  ·rcases az.1 hp with rfl|hp
   ·simp
   exact ih p hp
  rename_i hx;cases hs:Ae c s with
  |nil=>exact absurd hs (Ds c s)
  |cons q qs=>
   rw[hs]at hp ih;rcases az.1 hp with rfl|hp
   ·have:=ih q aK;simp;exact⟨fun h=>hx h.symm,this⟩
   exact ih p (by simp[hp])
theorem Ff(c:UInt8):∀p:List UInt8,c∉p->Ae c p=[p]
 |[],_=>rfl
 |x::p,h=>by
  simp at h;simp only[Ae];rw[if_neg (fun e=>h.1 e.symm),Ff c p h.2]
theorem Jp(c:UInt8):∀(p s:List UInt8),c∉p->Ae c (p++c::s)=p::Ae c s
 |[],s,_=>by simp[Ae]
 |x::p,s,h=>by
  simp at h;simp only[au,Ae];rw[if_neg (fun e=>h.1 e.symm),Jp c p s h.2]
theorem G0(c:UInt8):∀ps:List (List UInt8),ps≠[]->(∀p∈ps,c∉p)->Ae c (Aq c ps)=ps
 |[],h,_=>absurd rfl h
 |[p],_,h=>Ff c p (h p aK)
 |p::q::ps,_,h=>by
  rw[Cj c p aK,Jp c p _ (h p aK),G0 c (q::ps) aK (fun x hx=>h x (by simp[hx]))]
theorem Dh{c:UInt8}{s:List UInt8}{ps:List (List UInt8)}:Ae c s=ps↔ps≠[]/\(∀p∈ps,c∉p)/\Aq c ps=s:=
 ⟨fun h=>by subst h;exact⟨Ds c s,Vj c s,Mz c s⟩,fun⟨h1,h2,h3⟩=>by rw[<-h3];exact G0 c ps h1 h2⟩
theorem Fw(c:UInt8):∀s:List UInt8,(Ae c s).length<=s.length+1
 |[]=>by simp[Ae]
 |x::s=>by
  have ih:=Fw c s;simp only[Ae];split
  ·simp;exact ih
  cases hs:Ae c s with
  |nil=>exact absurd hs (Ds c s)
  |cons p ps=>rw[hs]at ih;simp at ih ⊢;omega
theorem Ah(c:UInt8):∀s:List UInt8,∀p∈Ae c s,p.length<=s.length
 |[],p,h=>by simp[Ae]at h;simp[h]
 |x::s,p,h=>by
  have ih:=Ah c s;simp only[Ae]at h;split at h
  ·rcases az.1 h with rfl|h
   ·simp
   exact Nat.le_succ_of_le (ih p h)
  cases hs:Ae c s with
  |nil=>exact absurd hs (Ds c s)
  |cons q qs=>
   rw[hs]at ih h;rcases az.1 h with rfl|h
   ·have:=ih q aK;simp;exact this
   have:=ih p (by simp[h]);simp;omega
def Cr(c:UInt8)(s:List UInt8):List UInt8 × List UInt8 × Bool:=
 if c∈s then(s.takeWhile (· != c),(s.dropWhile (· != c)).tail,true)else(s,[],false)
theorem Nm{c:UInt8}{s:List UInt8}(h:c∉s):Cr c s=(s,[],false):=if_neg h
theorem Dt{c:UInt8}{p s:List UInt8}(h:c∉p):Cr c (p++c::s)=(p,s,true):=by
 unfold Cr;rw[if_pos aK];have h1:p.all (fun x=>x != c)=true:=by
  rw[List.all_eq_true];intro x hx;simp;rintro rfl;exact h hx
 obtain⟨e1,e2⟩:=Eo (p:=fun x=>x != c) h1 ⟨c,s,rfl,by simp⟩;rw[e1,e2];rfl
theorem Y6{c:UInt8}:∀{s:List UInt8},c∈s->∃p t,s=p++c::t/\c∉p
 |x::s,h=>by
  by_cases hx:x=c
  ·exact⟨[],s,by simp[hx],by simp⟩
  obtain⟨p,t,e,hp⟩:=Y6 (s:=s) (by rcases az.1 h with h|h;exact absurd h.symm hx;exact h);exact⟨x::p,t,by simp[e],by simp;exact⟨fun e=>hx e.symm,hp⟩⟩
theorem Ed(c:UInt8)(s:List UInt8):(c∉s/\Cr c s=(s,[],false))\/∃p t,s=p++c::t/\c∉p/\Cr c s=(p,t,true):=by
 by_cases h:c∈s
 ·obtain⟨p,t,e,hp⟩:=Y6 h;exact .inr ⟨p,t,e,hp,by rw[e];exact Dt hp⟩
 exact .inl ⟨h,Nm h⟩
def By(c:UInt8):Bool:=Gg c || Az c || c == 32
def De(s:List UInt8):Bool:=decide (s.length<=12) && s.all By
def Bs(b s:List UInt8):Bool:=
 if b=[110]then(match Cf s with|some n=>decide (0<n)|none=>false)
 else if b=[116]then decide (2<s.length) && decide (s.head?=some 39) && decide (s.getLast?=some 39) && De (s.drop 1).dropLast
 else if b=[102]then decide (s=[121,101,115])else false
theorem Qaj{r:List UInt8}(h:2<r.length)(h1:r.head?=some 39)(h2:r.getLast?=some 39):r=39::((r.drop 1).dropLast++[39]):=by
 cases r with
 |nil=>simp at h1
 |cons a t=>
  simp at h1;subst h1;rcases Dv t with rfl|⟨u,c,rfl⟩
  ·simp at h
  have:c=39:=by
   rw[show (39:UInt8)::(u++[c])=(39::u)++[c]from rfl,List.getLast?_append]at h2;simpa using h2
  subst this;simp
def Fs(c:UInt8):Prop:=c≠10/\c≠44/\c≠58/\c≠61
theorem T6{c:UInt8}(h:Az c=true):Fs c:=by
 rw[C9]at h;refine⟨?_,?_,?_,?_⟩<;>(rintro rfl;revert h;decide)
theorem Vd{c:UInt8}(h:Gg c=true):Fs c:=by
 rw[Kn]at h;refine⟨?_,?_,?_,?_⟩<;>(rintro rfl;revert h;decide)
theorem Qc6{c:UInt8}(h:By c=true):Fs c:=by
 unfold By at h;simp only[Bool.or_eq_true]at h;rcases h with(h|h)|h
 ·exact Vd h
 ·exact T6 h
 have:c=32:=bg;subst this;exact⟨by decide,by decide,by decide,by decide⟩
theorem Qbe{c:UInt8}(h:Bl c=true):Fs c:=by
 unfold Bl at h;simp only[Bool.or_eq_true,beq_iff_eq]at h;rcases h with rfl|rfl<;>exact⟨by decide,by decide,by decide,by decide⟩
theorem D4(n:Nat):∀c∈An n,Fs c:=fun c hc=>T6 (List.all_eq_true.1 (Kp n) c hc)
theorem Dk{s:List UInt8}(h:At s=true):∀c∈s,Fs c:=fun c hc=>Vd ((Ek.1 h).2.2 c hc)
theorem Gn{k:Kd}(h:Da k):∀c∈Bp k,Fs c:=by
 intro c hc;obtain⟨h1,h2,_⟩:=h;unfold Bp Cd at hc;rcases af.1 hc with hc|hc
 ·exact Qbe (List.all_eq_true.1 h1 c hc)
 rcases h2 with⟨h,hn⟩|⟨h,_⟩
 ·rw[if_pos h]at hc;rcases az.1 hc with rfl|hc
  ·exact⟨by decide,by decide,by decide,by decide⟩
  rcases af.1 hc with hc|hc
  ·exact Dk hn c hc
  simp at hc;subst hc;exact⟨by decide,by decide,by decide,by decide⟩
 rw[if_neg (by rcases h with h|h|h<;>· rw[h];decide)]at hc;rcases h with h|h|h<;>· rw[h]at hc;simp at hc;subst hc;exact⟨by decide,by decide,by decide,by decide⟩
theorem J4{b s:List UInt8}(h:Bs b s=true):s≠[]/\∀c∈s,Fs c:=by
 unfold Bs at h;split at h
 ·cases hd:Cf s with
  |none=>rw[hd]at h;cases h
  |some n=>
   obtain⟨_,e⟩:=Bt.1 hd;subst e;exact⟨Nl n,D4 n⟩
 split at h
 ·simp only[av,decide_eq_true_eq]at h;obtain⟨⟨⟨h1,h2⟩,h3⟩,h4⟩:=h;have e:=Qaj h1 h2 h3;refine⟨by intro hh;rw[hh]at h1;simp at h1,fun c hc=>?_⟩;rw[e]at hc;have q:Fs 39:=⟨by decide,by decide,by decide,by decide⟩
  rcases az.1 hc with rfl|hc
  ·exact q
  rcases af.1 hc with hc|hc
  ·unfold De at h4;simp only[av]at h4;exact Qc6 (List.all_eq_true.1 h4.2 c hc)
  simp at hc;subst hc;exact q
 split at h
 ·simp only[decide_eq_true_eq]at h;subst h;refine⟨by simp,fun c hc=>?_⟩;simp at hc;rcases hc with rfl|rfl|rfl<;>exact⟨by decide,by decide,by decide,by decide⟩
 cases h
theorem Mf{b s:List UInt8}(h:Bs b s=true):b=[110]\/b=[116]\/b=[102]:=by
 unfold Bs at h;split at h
 ·exact .inl (by assumption)
 split at h
 ·exact .inr (.inl (by assumption))
 split at h
 ·exact .inr (.inr (by assumption))
 cases h
structure Fd where
 tag:Nat
 name:List UInt8
 kind:Kd
 given:List UInt8
deriving DecidableEq
def Jm(st:UInt8)(f:Fd):List UInt8:=if st=69 then[]else 58::(Bp f.kind++if f.given=[]then[]else 61::f.given)
def Mw(st:UInt8)(f:Fd):List UInt8:=An f.tag++58::(f.name++Jm st f)
def Rh(st:UInt8)(f:Fd):Prop:=
 1<=f.tag/\f.tag<=200/\At f.name=true/\(st=69->f.kind=Kd.nil/\f.given=[]) /\
 (st≠69->Da f.kind/\(f.given≠[]->st=82/\f.kind.signs=[]/\Bs f.kind.base f.given=true))
theorem Dr{s:List UInt8}(h:∀c∈s,Fs c):10∉s/\44∉s/\58∉s/\61∉s:=
 ⟨fun hc=>(h _ hc).1 rfl,fun hc=>(h _ hc).2.1 rfl,fun hc=>(h _ hc).2.2.1 rfl,fun hc=>(h _ hc).2.2.2 rfl⟩
def H4(p:List (List UInt8)):Option (Nat × List UInt8):=
 match p with
 |[a,b]=>(match Cf a with|some n=>if 1<=n/\n<=200/\At b=true then some (n,b)else none|none=>none)
 |_=>none
def Jx(p:List (List UInt8)):Option (Nat × List UInt8 × List UInt8):=
 match p with
 |[a,b,c]=>(match Cf a with|some n=>if 1<=n/\n<=200/\At b=true then some (n,b,c)else none|none=>none)
 |_=>none
def Fv(st:UInt8)(s:List UInt8):Option Fd:=
 if st=69 then
  match H4 (Ae 58 (Cr 61 s).1)with
  |some (n,b)=>if (Cr 61 s).2.2=true then none else some ⟨n,b,Kd.nil,(Cr 61 s).2.1⟩
  |none=>none
 else
  match Jx (Ae 58 (Cr 61 s).1)with
  |some (n,b,c)=>(match Cg c with
   |some k=>if (Cr 61 s).2.2=true/\¬(st=82/\k.signs=[]/\Bs k.base (Cr 61 s).2.1=true)then none else some ⟨n,b,k,(Cr 61 s).2.1⟩
   |none=>none)
  |none=>none
def Bo(st:UInt8)(s:List UInt8):Option Fd:=
 if st=69 then
  match H4 (Ae 58 s)with
  |some (n,b)=>some ⟨n,b,Kd.nil,[]⟩
  |none=>none
 else
  match Jx (Ae 58 s)with
  |some (n,b,c)=>(match Ae 61 c with
   |[k]=>(match Cg k with|some k=>some ⟨n,b,k,[]⟩|none=>none)
   |[k,v]=>if st=82/\Bs k v=true then some ⟨n,b,⟨[],k,[]⟩,v⟩else none
   |_=>none)
  |none=>none
theorem Gq{p:List (List UInt8)}{n:Nat}{b:List UInt8}:H4 p=some (n,b)↔p=[An n,b]/\1<=n/\n<=200/\At b=true:=by
 unfold H4;constructor
 ·intro h;split at h
  ·rename_i a b';cases hd:Cf a with
   |none=>rw[hd]at h;cases h
   |some m=>
    rw[hd]at h;simp only at h;split at h
    ·rename_i hc;simp at h;obtain⟨rfl,rfl⟩:=h;rw[(Bt.1 hd).2];exact⟨rfl,hc⟩
    cases h
  cases h
 rintro⟨rfl,h⟩;have e:=Bt.2 ⟨(by omega:n<=999999),(rfl:An n=An n)⟩;simp only[e,if_pos h]
theorem Fh{p:List (List UInt8)}{n:Nat}{b c:List UInt8}:Jx p=some (n,b,c)↔p=[An n,b,c]/\1<=n/\n<=200/\At b=true:=by
 unfold Jx;constructor
 ·intro h;split at h
  ·rename_i a b' c';cases hd:Cf a with
   |none=>rw[hd]at h;cases h
   |some m=>
    rw[hd]at h;simp only at h;split at h
    ·rename_i hc;simp at h;obtain⟨rfl,rfl,rfl⟩:=h;rw[(Bt.1 hd).2];exact⟨rfl,hc⟩
    cases h
  cases h
 rintro⟨rfl,h⟩;have e:=Bt.2 ⟨(by omega:n<=999999),(rfl:An n=An n)⟩;simp only[e,if_pos h]
theorem Ms{k:List UInt8}(h:k=[110]\/k=[116]\/k=[102]):Da ⟨[],k,[]⟩/\Bp ⟨[],k,[]⟩=k:=by
 rcases h with rfl|rfl|rfl<;>exact⟨⟨rfl,.inr ⟨by simp,rfl⟩,by decide⟩,by decide⟩
theorem Ey{st:UInt8}{s:List UInt8}{f:Fd}:Bo st s=some f↔Rh st f/\Mw st f=s:=by
 obtain⟨tg,nm,k,gv⟩:=f;unfold Bo;by_cases hst:st=69
 ·rw[if_pos hst];constructor
  ·intro h;cases hp:H4 (Ae 58 s)with
   |none=>rw[hp]at h;cases h
   |some x=>
    obtain⟨n,b⟩:=x;rw[hp]at h;simp at h;obtain⟨rfl,rfl,rfl,rfl⟩:=h;obtain⟨e,h1,h2,h3⟩:=Gq.1 hp;obtain⟨_,_,e2⟩:=Dh.1 e;exact⟨⟨h1,h2,h3,fun _=>⟨rfl,rfl⟩,fun h=>absurd hst h⟩,by rw[<-e2];simp[Mw,Jm,hst,Aq]⟩
  rintro⟨⟨h1,h2,h3,h4,_⟩,rfl⟩;obtain⟨e1,e2⟩:=h4 hst;simp only at h1 h2 h3 e1 e2;subst e1;subst e2
  have hs:Ae 58 (Mw st ⟨tg,nm,Kd.nil,[]⟩)=[An tg,nm]:=Dh.2 ⟨by simp,by
   intro p hp;simp at hp;rcases hp with rfl|rfl
   ·exact gu
   exact(Dr (Dk h3)).2.2.1,by simp[Mw,Jm,hst,Aq]⟩
  rw[hs,Gq.2 ⟨rfl,h1,h2,h3⟩]
 rw[if_neg hst];constructor
 ·intro h;cases hp:Jx (Ae 58 s)with
  |none=>rw[hp]at h;cases h
  |some x=>
   obtain⟨n,b,c⟩:=x;rw[hp]at h;simp only at h;obtain⟨e,h1,h2,h3⟩:=Fh.1 hp;obtain⟨_,_,e2⟩:=Dh.1 e;split at h
   ·rename_i k' hk;obtain⟨_,_,e3⟩:=Dh.1 hk;simp[Aq]at e3;subst e3;cases hkl:Cg k' with
    |none=>rw[hkl]at h;cases h
    |some kk=>
     rw[hkl]at h;simp at h;obtain⟨rfl,rfl,rfl,rfl⟩:=h;obtain⟨hk1,hk2⟩:=D7.1 hkl;exact⟨⟨h1,h2,h3,fun h=>absurd h hst,fun _=>⟨hk1,fun h=>absurd rfl h⟩⟩,by rw[<-e2];simp[Mw,Jm,hst,Aq,hk2]⟩
   ·rename_i k' v hk;split at h
    ·rename_i hc;simp at h;obtain⟨rfl,rfl,rfl,rfl⟩:=h;obtain⟨_,_,e3⟩:=Dh.1 hk;obtain⟨hn,_⟩:=J4 hc.2;obtain⟨o1,o2⟩:=Ms (Mf hc.2);refine⟨⟨h1,h2,h3,fun h=>absurd h hst,fun _=>⟨o1,fun _=>⟨hc.1,rfl,hc.2⟩⟩⟩,?_⟩;rw[<-e2,<-e3];simp[Mw,Jm,hst,Aq,o2,hn]
    cases h
   cases h
 rintro⟨⟨h1,h2,h3,_,h4⟩,rfl⟩;obtain⟨hk,hg⟩:=h4 hst;simp only at h1 h2 h3 hk hg;by_cases hgv:gv=[]
 ·subst hgv
  have hs:Ae 58 (Mw st ⟨tg,nm,k,[]⟩)=[An tg,nm,Bp k]:=Dh.2 ⟨by simp,by
   intro p hp;simp at hp;rcases hp with rfl|rfl|rfl
   ·exact gu
   ·exact(Dr (Dk h3)).2.2.1
   exact(Dr (Gn hk)).2.2.1,by simp[Mw,Jm,hst,Aq]⟩
  rw[hs,Fh.2 ⟨rfl,h1,h2,h3⟩];simp only;rw[Ff 61 (Bp k) (Dr (Gn hk)).2.2.2];simp only;rw[D7.2 ⟨hk,rfl⟩]
 obtain⟨g1,g2,g3⟩:=hg hgv;obtain⟨_,hp⟩:=J4 g3;have hb:=Mf g3;obtain⟨o1,o2⟩:=Ms hb;have ek:k=⟨[],k.base,[]⟩:=by
  obtain⟨sg,b,nm'⟩:=k;simp only at g2 hb;subst g2;obtain⟨_,hbo,_⟩:=hk;rcases hbo with⟨h,_⟩|⟨_,h⟩
  ·exfalso
   simp only at h;rcases hb with hb|hb|hb<;>· rw[h]at hb;revert hb;decide
  simp only at h;rw[h]
 have eB:Bp k=k.base:=by rw[ek];exact o2
 have nb:∀c∈Bp k,Fs c:=Gn hk
 have hs:Ae 58 (Mw st ⟨tg,nm,k,gv⟩)=[An tg,nm,Bp k++61::gv]:=Dh.2 ⟨by simp,by
  intro p hp';simp at hp';rcases hp' with rfl|rfl|rfl
  ·exact gu
  ·exact(Dr (Dk h3)).2.2.1
  intro hc;rcases af.1 hc with hc|hc
  ·exact(Dr nb).2.2.1 hc
  rcases az.1 hc with hc|hc
  ·revert hc;decide
  exact(Dr hp).2.2.1 hc,by simp[Mw,Jm,hst,Aq,hgv]⟩
 rw[hs,Fh.2 ⟨rfl,h1,h2,h3⟩];simp only;rw[Jp 61 (Bp k) gv (Dr nb).2.2.2,Ff 61 gv (Dr hp).2.2.2];simp only;rw[eB,if_pos ⟨g1,g3⟩,<-ek]
theorem Qt{st:UInt8}{s:List UInt8}{f:Fd}:Fv st s=some f↔Rh st f/\Mw st f=s:=by
 obtain⟨tg,nm,k,gv⟩:=f;constructor
 ·intro h;unfold Fv at h;by_cases hst:st=69
  ·rw[if_pos hst]at h;cases hp:H4 (Ae 58 (Cr 61 s).1)with
   |none=>rw[hp]at h;cases h
   |some x=>
    obtain⟨n,b⟩:=x;rw[hp]at h;simp only at h;obtain⟨e,h1,h2,h3⟩:=Gq.1 hp;obtain⟨_,_,e2⟩:=Dh.1 e;rcases Ed 61 s with⟨hn,hc⟩|⟨p,t,_,_,hc⟩
    ·rw[hc]at h e2;simp at h;obtain⟨rfl,rfl,rfl,rfl⟩:=h;exact⟨⟨h1,h2,h3,fun _=>⟨rfl,rfl⟩,fun h=>absurd hst h⟩,by simp only at e2;rw[<-e2];simp[Mw,Jm,hst,Aq]⟩
    rw[hc]at h;simp at h
  rw[if_neg hst]at h;cases hp:Jx (Ae 58 (Cr 61 s).1)with
  |none=>rw[hp]at h;cases h
  |some x=>
   obtain⟨n,b,c⟩:=x;rw[hp]at h;simp only at h;obtain⟨e,h1,h2,h3⟩:=Fh.1 hp;obtain⟨_,_,e2⟩:=Dh.1 e;cases hkl:Cg c with
   |none=>rw[hkl]at h;cases h
   |some kk=>
    obtain⟨hk1,hk2⟩:=D7.1 hkl;rw[hkl]at h;simp only at h;rcases Ed 61 s with⟨hn,hc⟩|⟨p,t,ec,_,hc⟩
    ·rw[hc]at h e2;simp at h;obtain⟨rfl,rfl,rfl,rfl⟩:=h;exact⟨⟨h1,h2,h3,fun h=>absurd h hst,fun _=>⟨hk1,fun h=>absurd rfl h⟩⟩,by simp only at e2;rw[<-e2];simp[Mw,Jm,hst,Aq,hk2]⟩
    rw[hc]at h e2;simp only at h e2;split at h
    ·cases h
    rename_i hcc;have hcc':st=82/\kk.signs=[]/\Bs kk.base t=true:=Decidable.byContradiction fun hh=>hcc ⟨trivial,hh⟩;simp at h;obtain⟨rfl,rfl,rfl,rfl⟩:=h;obtain⟨hn,_⟩:=J4 hcc'.2.2;exact⟨⟨h1,h2,h3,fun h=>absurd h hst,fun _=>⟨hk1,fun _=>hcc'⟩⟩,by rw[ec,<-e2];simp[Mw,Jm,hst,Aq,hk2,hn]⟩
 intro h;have hS:=Ey.2 h;obtain⟨⟨h1,h2,h3,h4,h5⟩,rfl⟩:=h;simp only at h1 h2 h3 h4 h5;unfold Fv;by_cases hst:st=69
 ·obtain⟨e1,e2⟩:=h4 hst;subst e1;subst e2;have hno:61∉Mw st ⟨tg,nm,Kd.nil,[]⟩:=by
   simp[Mw,Jm,hst];exact⟨(Dr (D4 tg)).2.2.2,(Dr (Dk h3)).2.2.2⟩
  rw[if_pos hst,Nm hno];simp only
  have hs:Ae 58 (Mw st ⟨tg,nm,Kd.nil,[]⟩)=[An tg,nm]:=Dh.2 ⟨by simp,by
   intro p hp;simp at hp;rcases hp with rfl|rfl
   ·exact gu
   exact(Dr (Dk h3)).2.2.1,by simp[Mw,Jm,hst,Aq]⟩
  rw[hs,Gq.2 ⟨rfl,h1,h2,h3⟩];simp
 obtain⟨hk,hg⟩:=h5 hst;have nb:∀c∈Bp k,Fs c:=Gn hk;have hno:61∉An tg++58::(nm++58::Bp k):=by
  simp;exact⟨(Dr (D4 tg)).2.2.2,(Dr (Dk h3)).2.2.2,(Dr nb).2.2.2⟩
 have hs:Ae 58 (An tg++58::(nm++58::Bp k))=[An tg,nm,Bp k]:=Dh.2 ⟨by simp,by
  intro p hp;simp at hp;rcases hp with rfl|rfl|rfl
  ·exact gu
  ·exact(Dr (Dk h3)).2.2.1
  exact(Dr nb).2.2.1,by simp[Aq]⟩
 rw[if_neg hst];by_cases hgv:gv=[]
 ·subst hgv;have e:Mw st ⟨tg,nm,k,[]⟩=An tg++58::(nm++58::Bp k):=by simp[Mw,Jm,hst]
  rw[e,Nm hno];simp only;rw[hs,Fh.2 ⟨rfl,h1,h2,h3⟩];simp only;rw[D7.2 ⟨hk,rfl⟩];simp
 have e:Mw st ⟨tg,nm,k,gv⟩=(An tg++58::(nm++58::Bp k))++61::gv:=by simp[Mw,Jm,hst,hgv]
 rw[e,Dt hno];simp only;rw[hs,Fh.2 ⟨rfl,h1,h2,h3⟩];simp only;rw[D7.2 ⟨hk,rfl⟩];simp only;rw[if_neg (fun hh=>hh.2 (hg hgv))]
theorem Qdl(st:UInt8)(s:List UInt8):Fv st s=Bo st s:=by
 cases h:Bo st s with
 |some f=>exact Qt.2 (Ey.1 h)
 |none=>
  cases h2:Fv st s with
  |none=>rfl
  |some f=>rw[Ey.2 (Qt.1 h2)]at h;cases h
theorem Qc{st:UInt8}{f:Fd}(h:Rh st f):10∉Mw st f/\44∉Mw st f/\Mw st f≠[]:=by
 obtain⟨h1,h2,h3,h4,h5⟩:=h;have hd:=Nl f.tag;refine⟨?_,?_,by unfold Mw;simp⟩;all_goals
  unfold Mw Jm;simp only[af,az,not_or];refine⟨?_,by decide,?_,?_⟩
  ·first|exact(Dr (D4 f.tag)).1|exact(Dr (D4 f.tag)).2.1
  ·first|exact(Dr (Dk h3)).1|exact(Dr (Dk h3)).2.1
  ·by_cases hst:st=69
   ·rw[if_pos hst];simp
   rw[if_neg hst];obtain⟨hk,hg⟩:=h5 hst;simp only[af,az,not_or];refine⟨by decide,?_,?_⟩
   ·first|exact(Dr (Gn hk)).1|exact(Dr (Gn hk)).2.1
   by_cases hgv:f.given=[]
   ·rw[if_pos hgv];simp
   rw[if_neg hgv];have hp:=(J4 (hg hgv).2.2).2;simp only[az,not_or];refine⟨by decide,?_⟩;first|exact(Dr hp).1|exact(Dr hp).2.1
theorem Qbj{st:UInt8}{f g:Fd}(hf:Rh st f)(hg:Rh st g)(h:Mw st f=Mw st g):f=g:=by
 have h1:=Ey.2 ⟨hf,rfl⟩;have h2:=Ey.2 ⟨hg,h.symm⟩;rw[h1]at h2;injection h2
structure Ty where
 sort:UInt8
 name:List UInt8
 fields:List Fd
deriving DecidableEq
def E8(fs:List Fd)(f:Fd):Bool:=fs.all fun g=>decide (g.name≠f.name) && decide (g.tag<f.tag)
def Ef(st:UInt8):List (List UInt8)->List Fd->Option (List Fd)
 |[],acc=>some acc
 |p::ps,acc=>match Fv st p with
  |none=>none
  |some f=>if acc.length=8\/E8 acc f=false then none else Ef st ps (acc++[f])
def Dc(st:UInt8):List (List UInt8)->List Fd->Option (List Fd)
 |[],acc=>some acc
 |p::ps,acc=>match Bo st p with
  |none=>none
  |some f=>if E8 acc f=false then none else Dc st ps (acc++[f])
def Fds(st:UInt8)(fs:List Fd):Prop:=(∀f∈fs,Rh st f)/\fs.Pairwise fun g f=>g.name≠f.name/\g.tag<f.tag
theorem Jl{fs:List Fd}{f:Fd}:E8 fs f=true↔∀g∈fs,g.name≠f.name/\g.tag<f.tag:=by simp[E8]
theorem Zh{st:UInt8}{fs:List Fd}{f:Fd}:Fds st (fs++[f])↔Fds st fs/\Rh st f/\E8 fs f=true:=by
 unfold Fds;rw[Jl,List.pairwise_append];constructor
 ·rintro⟨h1,h2,_,h3⟩;exact⟨⟨fun g hg=>h1 g (by simp[hg]),h2⟩,h1 f aK,fun g hg=>h3 g hg f aK⟩
 rintro⟨⟨h1,h2⟩,h3,h4⟩;refine⟨fun g hg=>?_,h2,by simp,fun g hg f' hf'=>?_⟩
 ·rcases af.1 hg with hg|hg
  ·exact h1 g hg
  simp at hg;subst hg;exact h3
 simp at hf';subst hf';exact h4 g hg
theorem Mk(st:UInt8):∀(ps:List (List UInt8)) (acc r:List Fd),Fds st acc->(Dc st ps acc=some r↔Fds st r/\∃gs,r=acc++gs/\gs.map (Mw st)=ps)
 |[],acc,r,ha=>by
  simp only[Dc,aj];constructor
  ·rintro rfl;exact⟨ha,[],by simp,rfl⟩
  rintro⟨_,gs,e,h⟩;have:gs=[]:=bg;subst this;simpa using e.symm
 |p::ps,acc,r,ha=>by
  simp only[Dc];cases hf:Bo st p with
  |none=>
   simp only[reduceCtorEq,false_iff];rintro⟨hr,gs,rfl,h⟩;cases gs with
   |nil=>simp at h
   |cons g gs=>
    simp at h;have:=Ey.2 ⟨hr.1 g aK,h.1⟩;rw[this]at hf;cases hf
  |some f=>
   obtain⟨ok,eb⟩:=Ey.1 hf;simp only;by_cases hfit:E8 acc f=false
   ·rw[if_pos hfit];simp only[reduceCtorEq,false_iff];rintro⟨hr,gs,rfl,h⟩;cases gs with
    |nil=>simp at h
    |cons g gs=>
     simp at h;have hg:g=f:=Qbj (hr.1 g aK) ok (h.1.trans eb.symm);subst hg;have h2:Fds st (acc++[g]++gs):=dy;have h3:Fds st (acc++[g]):=⟨fun x hx=>h2.1 x (by simp at hx ⊢;rcases hx with hx|hx<;>simp[hx]),(List.pairwise_append.1 h2.2).1⟩
     rw[(Zh.1 h3).2.2]at hfit;cases hfit
   rw[if_neg hfit];have hfit':E8 acc f=true:=by simpa using hfit
   rw[Mk st ps (acc++[f]) r (Zh.2 ⟨ha,ok,hfit'⟩)];constructor
   ·rintro⟨hr,gs,rfl,h⟩;exact⟨hr,f::gs,by simp,by simp[eb,h]⟩
   rintro⟨hr,gs,rfl,h⟩;cases gs with
   |nil=>simp at h
   |cons g gs=>
    simp at h;have hg:g=f:=Qbj (hr.1 g aK) ok (h.1.trans eb.symm);subst hg;exact⟨hr,gs,by simp,h.2⟩
theorem Pe(st:UInt8):∀(ps:List (List UInt8)) (acc:List Fd),acc.length<=8->Ef st ps acc=(match Dc st ps acc with|some r=>if r.length<=8 then some r else none|none=>none)
 |[],acc,h=>by simp[Ef,Dc,h]
 |p::ps,acc,h=>by
  simp only[Ef,Dc,Qdl];cases hf:Bo st p with
  |none=>rfl
  |some f=>
   simp only;by_cases hfit:E8 acc f=false
   ·rw[if_pos (.inr hfit),if_pos hfit]
   rw[if_neg hfit];by_cases h8:acc.length=8
   ·rw[if_pos (.inl h8)];have key:∀(ps:List (List UInt8)) (a r:List Fd),Dc st ps a=some r->a.length<=r.length:=by
     intro ps;induction ps with
     |nil=>intro a r h;simp[Dc]at h;rw[h];exact Nat.le_refl _
     |cons q qs ih=>
      intro a r h;simp only[Dc]at h;split at h
      ·cases h
      split at h
      ·cases h
      have:=ih _ _ h;simp at this;omega
    cases hr:Dc st ps (acc++[f])with
    |none=>rfl
    |some r=>
     have:=key _ _ _ hr;simp at this;simp only;rw[if_neg aG]
   rw[if_neg (by simp[h8,hfit])];exact Pe st ps (acc++[f]) aN
def Di(c:UInt8):Prop:=c=82\/c=85\/c=69
instance (c:UInt8):Decidable (Di c):=by unfold Di;infer_instance
def Du(t:Ty):Prop:=Di t.sort/\At t.name=true/\Fds t.sort t.fields/\t.fields.length<=8/\(t.fields=[]->t.sort=82)
def Vf(t:Ty):List UInt8:=t.sort::(t.name++61::Aq 44 (t.fields.map (Mw t.sort)))
def Dz(s:List UInt8):Option Ty:=
 match s with
 |[]=>none
 |c::r=>
  if ¬Di c\/(Cr 61 r).2.2=false\/At (Cr 61 r).1=false then none
  else if (Cr 61 r).2.1=[]then(if c=82 then some ⟨c,(Cr 61 r).1,[]⟩else none)
  else match Ef c (Ae 44 (Cr 61 r).2.1) []with
   |some fs=>some ⟨c,(Cr 61 r).1,fs⟩
   |none=>none
theorem Qe6{c:UInt8}{ps:List (List UInt8)}(h:ps≠[])(h1:∀p∈ps,p≠[]):Aq c ps≠[]:=by
 cases ps with
 |nil=>exact absurd rfl h
 |cons p ps=>
  have:=h1 p aK;cases ps with
  |nil=>exact this
  |cons q ps=>rw[Cj c p aK];simp
theorem Xy(st:UInt8):Fds st []:=⟨by simp,List.Pairwise.nil⟩
theorem P6{st:UInt8}{ps:List (List UInt8)}{r:List Fd}:Ef st ps []=some r↔Fds st r/\r.length<=8/\r.map (Mw st)=ps:=by
 rw[Pe st ps [] aK];constructor
 ·intro h;cases hs:Dc st ps []with
  |none=>rw[hs]at h;cases h
  |some x=>
   rw[hs]at h;simp only at h;split at h
   ·rename_i h8;injection h with h;subst h;obtain⟨h1,gs,e,h2⟩:=(Mk st ps [] x (Xy st)).1 hs;simp at e;subst e;exact⟨h1,h8,h2⟩
   cases h
 rintro⟨h1,h2,h3⟩;rw[(Mk st ps [] r (Xy st)).2 ⟨h1,r,by simp,h3⟩];simp[h2]
theorem Qcf{c:UInt8}(h:Di c):c≠61/\c≠10:=by
 rcases h with rfl|rfl|rfl<;>exact⟨by decide,by decide⟩
theorem Ee{s:List UInt8}{t:Ty}:Dz s=some t↔Du t/\Vf t=s:=by
 obtain⟨st,nm,fs⟩:=t;constructor
 ·intro h;unfold Dz at h;split at h
  ·cases h
  rename_i c r;split at h
  ·cases h
  rename_i hc;have hc1:Di c:=Decidable.byContradiction fun hh=>hc (.inl hh);have hc2:(Cr 61 r).2.2=true:=by
   cases hb:(Cr 61 r).2.2 with
   |true=>rfl
   |false=>exact absurd (.inr (.inl hb)) hc
  have hc3:At (Cr 61 r).1=true:=by
   cases hb:At (Cr 61 r).1 with
   |true=>rfl
   |false=>exact absurd (.inr (.inr hb)) hc
  rcases Ed 61 r with⟨_,e⟩|⟨p,u,er,hp,e⟩
  ·rw[e]at hc2;cases hc2
  rw[e]at h hc3;simp only at h hc3;split at h
  ·rename_i hu;subst hu;split at h
   ·rename_i h82;injection h with h;injection h with e1 e2 e3;subst e1;subst e2;subst e3;exact⟨⟨hc1,hc3,Xy _,by simp,fun _=>h82⟩,by rw[er];simp[Vf,Aq]⟩
   cases h
  rename_i hu;cases hf:Ef c (Ae 44 u) []with
  |none=>rw[hf]at h;cases h
  |some x=>
   rw[hf]at h;injection h with h;injection h with e1 e2 e3;subst e1;subst e2;subst e3;obtain⟨f1,f2,f3⟩:=P6.1 hf;obtain⟨s1,_,s3⟩:=Dh.1 f3.symm;exact⟨⟨hc1,hc3,f1,f2,fun hh=>by simp only at hh;subst hh;exact absurd rfl s1⟩,by rw[er];simp only[Vf];rw[s3]⟩
 rintro⟨⟨h1,h2,h3,h4,h5⟩,rfl⟩;simp only at h1 h2 h3 h4 h5;have hno:61∉nm:=(Dr (Dk h2)).2.2.2;unfold Dz Vf;simp only;rw[Dt hno];simp only;rw[if_neg (by simp[h1,h2])];by_cases hf:fs=[]
 ·subst hf;rw[h5 rfl];simp[Aq]
 have hn:Aq 44 (fs.map (Mw st))≠[]:=Qe6 (by simpa using hf) (by
  intro p hp;obtain⟨f,hf',rfl⟩:=aw.1 hp;exact(Qc (h3.1 f hf')).2.2)
 have hs:Ae 44 (Aq 44 (fs.map (Mw st)))=fs.map (Mw st):=G0 44 _ (by simpa using hf) (by
  intro p hp;obtain⟨f,hf',rfl⟩:=aw.1 hp;exact(Qc (h3.1 f hf')).2.1)
 rw[if_neg hn,hs,P6.2 ⟨h3,h4,rfl⟩]
theorem Vs{t:Ty}(h:Du t):10∉Vf t/\Vf t≠[]:=by
 refine⟨?_,by unfold Vf;simp⟩;obtain⟨h1,h2,h3,_,_⟩:=h;unfold Vf;simp only[af,az,not_or];refine⟨fun e=>(Qcf h1).2 e.symm,(Dr (Dk h2)).1,by decide,?_⟩;have key:∀ps:List (List UInt8),(∀p∈ps,(10:UInt8)∉p)->(10:UInt8)∉Aq 44 ps:=by
  intro ps;induction ps with
  |nil=>intro _;simp[Aq]
  |cons p ps ih=>
   intro hp;cases ps with
   |nil=>exact hp p aK
   |cons q ps=>
    rw[Cj 44 p aK];simp only[af,az,not_or];refine⟨hp p aK,by decide,ih (fun x hx=>hp x (by simp[hx]))⟩
 apply key;intro p hp;obtain⟨f,hf',rfl⟩:=aw.1 hp;exact(Qc (h3.1 f hf')).1
theorem Xu{t u:Ty}(ht:Du t)(hu:Du u)(h:Vf t=Vf u):t=u:=by
 have h1:=Ee.2 ⟨ht,rfl⟩;have h2:=Ee.2 ⟨hu,h.symm⟩;rw[h1]at h2;injection h2
def scB(S:List Ty):List UInt8:=S.flatMap fun t=>Vf t++[10]
def J5(S:List Ty):Prop:=(∀t∈S,Du t)/\S.length<=8/\S.Pairwise fun t u=>t.name≠u.name
def Es:Nat->List UInt8->List Ty->Option (List Ty)
 |0,_,_=>none
 |n+1,s,acc=>
  if s=[]then some acc
  else if (Cr 10 s).2.2=false\/acc.length=8 then none
  else match Dz (Cr 10 s).1 with
   |none=>none
   |some t=>if acc.any (fun u=>decide (u.name=t.name))=true then none else Es n (Cr 10 s).2.1 (acc++[t])
theorem Vz{S:List Ty}{t:Ty}:J5 (S++[t])↔J5 S/\Du t/\S.length<8/\S.any (fun u=>decide (u.name=t.name))=false:=by
 unfold J5;rw[List.pairwise_append];constructor
 ·rintro⟨h1,h2,h3,_,h4⟩;simp at h2;refine⟨⟨fun u hu=>h1 u (by simp[hu]),by omega,h3⟩,h1 t aK,by omega,?_⟩;simp;intro u hu;exact h4 u hu t aK
 rintro⟨⟨h1,h2,h3⟩,h4,h5,h6⟩;simp at h6;refine⟨fun u hu=>?_,by simp;omega,h3,by simp,fun u hu v hv=>?_⟩
 ·rcases af.1 hu with hu|hu
  ·exact h1 u hu
  simp at hu;subst hu;exact h4
 simp at hv;subst hv;exact h6 u hu
theorem Mt(t:Ty)(S:List Ty):scB (t::S)=Vf t++10::scB S:=by simp[scB]
theorem Q6:∀(n:Nat) (s:List UInt8) (acc r:List Ty),s.length<n->J5 acc->(Es n s acc=some r↔J5 r/\∃U,r=acc++U/\scB U=s)
 |0,s,acc,r,h,_=>absurd h (Nat.not_lt_zero _)
 |n+1,s,acc,r,h,ha=>by
  simp only[Es];by_cases hs:s=[]
  ·subst hs;rw[if_pos rfl];constructor
   ·intro hh;injection hh with hh;subst hh;exact⟨ha,[],by simp,rfl⟩
   rintro⟨_,U,rfl,e⟩;cases U with
   |nil=>simp
   |cons t U=>rw[Mt]at e;simp at e
  rw[if_neg hs];rcases Ed 10 s with⟨hn,e⟩|⟨p,u,es,hp,e⟩
  ·rw[e,if_pos (.inl rfl)];simp only[reduceCtorEq,false_iff];rintro⟨_,U,rfl,eU⟩;cases U with
   |nil=>exact hs eU.symm
   |cons t U=>rw[Mt]at eU;rw[<-eU]at hn;simp at hn
  rw[e];simp only;by_cases h8:acc.length=8
  ·rw[if_pos (.inr h8)];simp only[reduceCtorEq,false_iff];rintro⟨hr,U,rfl,eU⟩;cases U with
   |nil=>exact hs eU.symm
   |cons t U=>have:=hr.2.1;simp at this;omega
  rw[if_neg (by simp[h8])];have hsplit:∀t U,Du t->scB (t::U)=s->Vf t=p/\scB U=u:=by
   intro t U ht eU;rw[Mt,es]at eU;have h1:=Dt (s:=scB U) (Vs ht).1;rw[eU,Dt hp]at h1;injection h1 with e1 e2;injection e2 with e2 _;exact⟨e1.symm,e2.symm⟩
  cases ht:Dz p with
  |none=>
   simp only[reduceCtorEq,false_iff];rintro⟨hr,U,rfl,eU⟩;cases U with
   |nil=>exact hs eU.symm
   |cons t U=>
    have ok:Du t:=hr.1 t aK;rw[Ee.2 ⟨ok,(hsplit t U ok eU).1⟩]at ht;cases ht
  |some t=>
   obtain⟨ok,eb⟩:=Ee.1 ht;simp only;by_cases hd:acc.any (fun u=>decide (u.name=t.name))=true
   ·rw[if_pos hd];simp only[reduceCtorEq,false_iff];rintro⟨hr,U,rfl,eU⟩;cases U with
    |nil=>exact hs eU.symm
    |cons t' U=>
     have ok':Du t':=hr.1 t' aK;have ett:t'=t:=Xu ok' ok ((hsplit t' U ok' eU).1.trans eb.symm);subst ett;simp at hd;obtain⟨v,hv,hvn⟩:=hd;exact(List.pairwise_append.1 hr.2.2).2.2 v hv t' aK hvn
   rw[if_neg hd];have hlen:u.length<n:=by rw[es]at h;simp at h;omega
   rw[Q6 n u (acc++[t]) r hlen (Vz.2 ⟨ha,ok,by have:=ha.2.1;omega,by simpa using hd⟩)];constructor
   ·rintro⟨hr,U,rfl,eU⟩;exact⟨hr,t::U,by simp,by rw[Mt,eb,eU,es]⟩
   rintro⟨hr,U,rfl,eU⟩;cases U with
   |nil=>exact absurd eU.symm hs
   |cons t' U=>
    have ok':Du t':=hr.1 t' aK;obtain⟨e1,e2⟩:=hsplit t' U ok' eU;have ett:t'=t:=Xu ok' ok (e1.trans eb.symm);subst ett;exact⟨hr,U,by simp,e2⟩
def Cv(s:List UInt8):Option Ty:=
 match Cr 61 s with
 |(c::nm,u,true)=>
  if ¬At nm=true\/¬Di c then none
  else if u=[]then(if c=82 then some ⟨c,nm,[]⟩else none)
  else match Dc c (Ae 44 u) []with
   |some r=>if r.length<=8 then some ⟨c,nm,r⟩else none
   |none=>none
 |_=>none
theorem Zb(s:List UInt8):Cv s=Dz s:=by
 cases s with
 |nil=>rfl
 |cons c r=>
  unfold Cv Dz;by_cases hc:c=61
  ·subst hc;have e:Cr 61 (61::r)=([],r,true):=Dt (p:=[]) aK;rw[e];simp only;rw[if_pos (.inl aJ)]
  rcases Ed 61 r with⟨hn,e⟩|⟨p,u,er,hp,e⟩
  ·have e2:Cr 61 (c::r)=(c::r,[],false):=Nm (by simp;exact⟨fun h=>hc h.symm,hn⟩);rw[e2];simp[e]
  have e2:Cr 61 (c::r)=(c::p,u,true):=by
   rw[er];exact Dt (p:=c::p) (by simp;exact⟨fun h=>hc h.symm,hp⟩)
  rw[e2];simp only[e];by_cases h1:At p=true
  ·by_cases h2:Di c
   ·by_cases hu:u=[]
    ·subst hu;simp[h1,h2]
    have hx:∀(a b:Option Ty),(if ¬At p=true\/¬Di c then a else b)=b:=fun a b=>if_neg (by simp[h1,h2]);have hy:∀(a b:Option Ty),(if ¬Di c\/true=false\/At p=false then a else b)=b:=fun a b=>if_neg (by simp[h1,h2]);have hz:∀(a b:Option Ty),(if u=[]then a else b)=b:=fun a b=>if_neg hu;rw[hx,hy,hz,hz,Pe c _ [] aK];cases Dc c (Ae 44 u) []with
    |none=>rfl
    |some r=>simp only;split<;>rfl
   rw[if_pos (.inr h2),if_pos (.inl h2)]
  rw[if_pos (.inl h1),if_pos (.inr (.inr dv))]
def Ei:List (List UInt8)->Option (List Ty)
 |[]=>some []
 |p::ps=>match Dz p with
  |none=>none
  |some t=>match Ei ps with
   |none=>none
   |some ts=>some (t::ts)
theorem Na:∀(ps:List (List UInt8)) (ts:List Ty),Ei ps=some ts↔(∀t∈ts,Du t)/\ts.map Vf=ps
 |[],ts=>by
  simp only[Ei,aj];constructor
  ·rintro rfl;simp
  rintro⟨_,h⟩;simpa using h.symm
 |p::ps,ts=>by
  simp only[Ei];cases ht:Dz p with
  |none=>
   simp only[reduceCtorEq,false_iff];rintro⟨h,e⟩;cases ts with
   |nil=>simp at e
   |cons t ts=>
    simp at e;rw[Ee.2 ⟨h t aK,e.1⟩]at ht;cases ht
  |some t=>
   obtain⟨ok,eb⟩:=Ee.1 ht;simp only;have ih:=Na ps;constructor
   ·intro h;cases hr:Ei ps with
    |none=>rw[hr]at h;cases h
    |some us=>
     rw[hr]at h;injection h with h;subst h;obtain⟨i1,i2⟩:=(ih us).1 hr;exact⟨by simpa using⟨ok,i1⟩,by simp[eb,i2]⟩
   rintro⟨h,e⟩;cases ts with
   |nil=>simp at e
   |cons u us=>
    simp at e;have:u=t:=Xu (h u aK) ok (e.1.trans eb.symm);subst this;rw[(ih us).2 ⟨fun x hx=>h x (by simp[hx]),e.2⟩]
def Mb(s:List UInt8):Option (List Ty):=
 if 9<(Ae 10 s).length\/(Ae 10 s).getLast?≠some []then none else Ei (Ae 10 s).dropLast
theorem X8(S:List Ty):Aq 10 (S.map Vf++[[]])=scB S:=by
 induction S with
 |nil=>rfl
 |cons t S ih=>
  rw[ax,au,Cj 10 _ aK,ih,Mt]
theorem Yk{s:List UInt8}{S:List Ty}:Mb s=some S↔(∀t∈S,Du t)/\S.length<=8/\scB S=s:=by
 unfold Mb;constructor
 ·intro h;split at h
  ·cases h
  rename_i hc;have h9:(Ae 10 s).length<=9:=by
   rcases aF 9 (Ae 10 s).length with hh|hh
   ·exact absurd (.inl hh) hc
   exact hh
  have hl:(Ae 10 s).getLast?=some []:=by
   refine Decidable.byContradiction fun hh=>hc (.inr hh)
  obtain⟨t1,t2⟩:=(Na _ _).1 h;have e:Ae 10 s=S.map Vf++[[]]:=by
   rcases Dv (Ae 10 s)with hh|⟨t,c,hh⟩
   ·exact absurd hh (Ds 10 s)
   rw[hh]at hl t2 ⊢;simp at hl t2;rw[t2,hl]
  have hs:=Mz 10 s;rw[e,X8]at hs;rw[e]at h9;simp at h9;exact⟨t1,h9,hs⟩
 rintro⟨h1,h2,rfl⟩;have e:Ae 10 (scB S)=S.map Vf++[[]]:=by
  rw[<-X8];refine G0 10 _ aK ?_;intro p hp;rcases af.1 hp with hp|hp
  ·obtain⟨t,ht,rfl⟩:=aw.1 hp;exact(Vs (h1 t ht)).1
  simp at hp;subst hp;simp
 rw[e,if_neg aN];simp only[List.dropLast_concat];exact(Na _ _).2 ⟨h1,rfl⟩
def Ck(S:List Ty)(n:List UInt8):Option Ty:=S.find? fun t=>decide (t.name=n)
theorem Bq{S:List Ty}{n:List UInt8}{t:Ty}(h:Ck S n=some t):t∈S/\t.name=n:=by
 have h1:=List.mem_of_find?_eq_some h;have h2:=List.find?_some h;exact⟨h1,by simpa using h2⟩
def Cb(S:List Ty)(k:Kd):Prop:=k.base=[64]->(Ck S k.name).isSome=true
instance (S:List Ty) (k:Kd):Decidable (Cb S k):=by unfold Cb;infer_instance
def Fe(S:List Ty):Prop:=∀t∈S,t.sort≠69->∀f∈t.fields,Cb S f.kind
instance (S:List Ty):Decidable (Fe S):=by unfold Fe;infer_instance
def Eu(S:List Ty)(t:Ty):Option Ty:=
 if t.sort=85 then(match t.fields with
  |f::_=>if f.kind.signs=[]/\f.kind.base=[64]then Ck S f.kind.name else none
  |[]=>none)else none
def Bm(S:List Ty):Nat->Ty->Bool
 |0,_=>false
 |n+1,t=>match Eu S t with
  |none=>true
  |some u=>Bm S n u
theorem Qam{S:List Ty}{t u:Ty}(h:Eu S t=some u):u∈S:=by
 unfold Eu at h;split at h
 ·split at h
  ·split at h
   ·exact(Bq h).1
   cases h
  cases h
 cases h
theorem Ji(S:List Ty):∀(n:Nat) (t:Ty),Bm S n t=true->∀m,n<=m->Bm S m t=true
 |0,t,h,_,_=>by simp[Bm]at h
 |n+1,t,h,m,hm=>by
  obtain⟨k,rfl⟩:∃k,m=k+1:=⟨m - 1,by omega⟩
  simp only[Bm]at h ⊢;cases hn:Eu S t with
  |none=>rfl
  |some u=>
   rw[hn]at h;exact Ji S n u h k aG
theorem G9:∀(l S:List Ty),l.Nodup->(∀x∈l,x∈S)->l.length<=S.length
 |[],S,_,_=>ag _
 |x::l,S,hn,hs=>by
  obtain⟨h1,h2⟩:=List.nodup_cons.1 hn;have hx:=hs x aK
  have ih:=G9 l (S.erase x) h2 (fun y hy=>by
   have hne:y≠x:=by rintro rfl;exact h1 hy
   exact(List.mem_erase_of_ne hne).2 (hs y (by simp[hy])))
  have hl:=List.length_erase_of_mem hx;have hp:0<S.length:=List.length_pos_iff.2 (by rintro rfl;cases hx);simp;omega
theorem Te(S:List Ty):∀(n:Nat) (t:Ty),t∈S->Bm S (n+1) t=true->Bm S n t=false ->
  ∃l:List Ty,l.length=n+1/\(∀u∈l,u∈S)/\l.Nodup/\∀u∈l,Bm S (n+1) u=true
 |0,t,ht,h1,_=>⟨[t],rfl,by simpa using ht,by simp,by simpa using h1⟩
 |n+1,t,ht,h1,h2=>by
  have hn:∃u,Eu S t=some u:=by
   cases hh:Eu S t with
   |none=>simp[Bm,hh]at h2
   |some u=>exact⟨u,rfl⟩
  obtain⟨u,hu⟩:=hn;have e1:Bm S (n+1) u=true:=by simp only[Bm,hu]at h1;simpa [Bm]using h1
  have e2:Bm S n u=false:=by simp only[Bm,hu]at h2;exact h2
  obtain⟨l,l1,l2,l3,l4⟩:=Te S n u (Qam hu) e1 e2;refine⟨t::l,by simp[l1],?_,List.nodup_cons.2 ⟨fun hm=>?_,l3⟩,?_⟩
  ·intro x hx;rcases az.1 hx with rfl|hx
   ·exact ht
   exact l2 x hx
  ·rw[l4 t hm]at h2;cases h2
  intro x hx;rcases az.1 hx with rfl|hx
  ·exact h1
  exact Ji S _ _ (l4 x hx) _ aG
theorem Qr(S:List Ty)(t:Ty)(ht:t∈S)(n:Nat):Bm S n t=true->Bm S S.length t=true:=by
 induction n with
 |zero=>intro h;simp[Bm]at h
 |succ n ih=>
  intro h;by_cases h2:Bm S n t=true
  ·exact ih h2
  have h2':Bm S n t=false:=dx;obtain⟨l,l1,l2,l3,_⟩:=Te S n t ht h h2';have:=G9 l S l3 l2;exact Ji S _ _ h _ aG
theorem Vr(S:List Ty)(t:Ty)(ht:t∈S)(m n:Nat)(hm:S.length<=m)(hn:S.length<=n):Bm S m t=Bm S n t:=by
 cases h1:Bm S m t with
 |true=>exact(Ji S _ _ (Qr S t ht m h1) n hn).symm
 |false=>
  cases h2:Bm S n t with
  |false=>rfl
  |true=>rw[Ji S _ _ (Qr S t ht n h2) m hm]at h1;cases h1
def Pz(S:List Ty):Prop:=J5 S/\Fe S/\∀t∈S,Bm S 9 t=true
def Ca(s:List UInt8):Option (List Ty):=
 if 400<s.length then none
 else match Es (s.length+1) s []with
  |none=>none
  |some S=>if Fe S/\(∀t∈S,Bm S 9 t=true)then some S else none
theorem Zt:J5 []:=⟨by simp,by simp,List.Pairwise.nil⟩
theorem Qi{s:List UInt8}{S:List Ty}:Es (s.length+1) s []=some S↔J5 S/\scB S=s:=by
 rw[Q6 (s.length+1) s [] S aG Zt];constructor
 ·rintro⟨h,U,e,h2⟩;simp at e;subst e;exact⟨h,h2⟩
 rintro⟨h,h2⟩;exact⟨h,S,by simp,h2⟩
theorem Pl{s:List UInt8}{S:List Ty}:Ca s=some S↔Pz S/\s.length<=400/\scB S=s:=by
 unfold Ca;constructor
 ·intro h;split at h
  ·cases h
  rename_i h4;cases hl:Es (s.length+1) s []with
  |none=>rw[hl]at h;cases h
  |some T=>
   rw[hl]at h;simp only at h;split at h
   ·rename_i hc;injection h with h;subst h;obtain⟨h1,h2⟩:=Qi.1 hl;exact⟨⟨h1,hc.1,hc.2⟩,by omega,h2⟩
   cases h
 rintro⟨⟨h1,h2,h3⟩,h4,h5⟩;rw[if_neg aG,Qi.2 ⟨h1,h5⟩];simp only;rw[if_pos ⟨h2,h3⟩]
theorem M3{s:List UInt8}{S:List Ty}:Ca s=some S↔s.length<=400/\Mb s=some S/\(S.Pairwise fun t u=>t.name≠u.name)/\Fe S/\∀t∈S,Bm S (S.length+1) t=true:=by
 rw[Pl,Yk];constructor
 ·rintro⟨⟨⟨h1,h2,h3⟩,h4,h5⟩,h6,h7⟩;exact⟨h6,⟨h1,h2,h7⟩,h3,h4,fun t ht=>by rw[Vr S t ht _ 9 aG aG];exact h5 t ht⟩
 rintro⟨h6,⟨h1,h2,h7⟩,h3,h4,h5⟩;exact⟨⟨⟨h1,h2,h3⟩,h4,fun t ht=>by rw[<-Vr S t ht (S.length+1) 9 aG aG];exact h5 t ht⟩,h6,h7⟩
def Sa(S:List Ty)(n:Nat)(k:Kd):Prop:=k.signs=[]->k.base=[64]->∃t,Ck S k.name=some t/\Bm S n t=true
def Cu(S:List Ty):Nat->Kd->List UInt8
 |0,_=>[]
 |n+1,k=>
  if k.signs.head?=some 91 then[91,93]
  else if k.signs.head?=some 63 then[45]
  else if k.base=[110]then[48]
  else if k.base=[116]then[39,39]
  else if k.base=[102]then[110,111]
  else match Ck S k.name with
   |none=>[]
   |some t=>if t.sort=82 then[123,125]else
    match t.fields with
    |[]=>[]
    |f::_=>if t.sort=69 then 35::An f.tag else 60::(An f.tag++61::(Cu S n f.kind++[62]))
theorem Rc{S:List Ty}{n:Nat}{k:Kd}{t:Ty}{f:Fd}{fs:List Fd}(h:Sa S (n+1) k)(h1:k.signs=[])(h2:k.base=[64])(hf:Ck S k.name=some t)(hs:t.sort=85)(hfs:t.fields=f::fs)(hr:Cb S f.kind):Sa S n f.kind:=by
 intro g1 g2;obtain⟨u,hu,he⟩:=h h1 h2;rw[hf]at hu;injection hu with hu;subst hu;have hn:Eu S t=Ck S f.kind.name:=by
  unfold Eu;rw[if_pos hs,hfs];simp only;rw[if_pos ⟨g1,g2⟩]
 have hr':=hr g2;cases hx:Ck S f.kind.name with
 |none=>rw[hx]at hr';cases hr'
 |some v=>
  simp only[Bm,hn,hx]at he;exact⟨v,rfl,he⟩
def Qm(S:List Ty)(k:Kd):List UInt8:=Cu S 10 k
def Qa(S:List Ty)(f:Fd):List UInt8:=if f.given=[]then Qm S f.kind else f.given
end
end Go.Proofs.YtpjijpcemejlnaaGreatDoor
