/- Texts joined. Conditions: as each theorem names them. -/
import Derived.Test.YtpjijpcemejlnaaGreatDoorProg
import Derived.WalkKit
import Derived.WalkSmall
import Derived.WalkSpells
import Derived.WalkLawsBesides
import Derived.Below
import Derived.Lib.Hide
import Derived.Lib.BufferRead
import Derived.Laws.BytesArg
import Derived.Deep.QuietTactic
import Derived.BigQuiet
import Derived.Handy
import Derived.Deep.DeepCutAuto
import Derived.Laws.BitsAllLaws
import Derived.Laws.BitsLemmas
import Derived.Deep.RegionWith
import Derived.Test.YtpjijpcemejlnaaGreatDoorR00
set_option maxRecDepth 100000
set_option maxHeartbeats 32000000
set_option linter.unusedVariables false
set_option linter.unusedSimpArgs false
namespace Go.Proofs.YtpjijpcemejlnaaGreatDoor
open Go.RowKit Go.Proofs.Tryz
theorem Qm0(l:List UInt8)(k:Nat)(h:k<(ByteArray.mk l.toArray).size):(ByteArray.mk l.toArray)[k]=l[k]'h:=rfl
theorem Ql8(l:List UInt8):(ByteArray.mk l.toArray).toList=l:=by
 have:(ByteArray.mk l.toArray).toList=(ByteArray.mk l.toArray).data.toList:=ByteArray.toList_eq _;rw[this]
theorem Qlz(l:List UInt8)(a b:Nat):(ByteArray.mk l.toArray).extract a b=⟨((l.drop a).take (b - a)).toArray⟩:=by
 apply ByteArray.ext;simp[ByteArray.data_extract]
theorem Qj6(l:List UInt8)(a:Nat):(l.drop a).take (l.length - a)=l.drop a:=av aN
theorem Qkn{k:IntKind}{a b:Int}(h:a=b):Ending.returned (.int k a)=.returned (.int k b):=by rw[h]
theorem Ch{α:Type}(l:List α)(k:Nat)(h:k<l.length):l.take (k+1)=l.take k++[l[k]]:=by
 rw[List.take_succ_eq_append_getElem h]
def El(l:List UInt8):List Value:=l.map fun c=>.int .u8 (c.toNat:Int)
def B6(ls:List (List UInt8)):List Value:=ls.map fun l=>.string ⟨l.toArray⟩
theorem Rr(l:List UInt8):(El l).length=l.length:=by simp[El]
theorem Jt(l:List (List UInt8))(c:List UInt8):B6 (l++[c])=B6 l++[.string ⟨c.toArray⟩]:=by simp[B6]
def Bx(w:World)(A:Option Addr)(n:Nat)(xs:List Value):Prop:=
 xs.length=n/\n<=maxLen/\(0<n->∃b off,A=some ⟨b,off,none⟩/\b<w.heap.size/\∀j u,xs[j]?=some u->w.cell? ⟨b,off+j,none⟩=some u)
theorem Bx.below{w w':World}{A:Option Addr}{n:Nat}{xs:List Value}(h:Bx w A n xs)(hb:Below w w w'):Bx w' A n xs:=by
 refine⟨h.1,h.2.1,fun hn=>?_⟩;obtain⟨b,off,e,hlt,hc⟩:=h.2.2 hn;exact⟨b,off,e,ad hlt hb.size,fun j u hu=>(hb.cell (p:=⟨b,off+j,none⟩) hlt).trans (hc j u hu)⟩
theorem Bx.drew{w:World}{A:Option Addr}{n:Nat}{xs:List Value}(h:Bx w A n xs):Bx w.drew A n xs:=h
theorem Bx.alloc{w:World}{A:Option Addr}{n:Nat}{xs:List Value}(h:Bx w A n xs)(o:Obj):Bx (w.alloc o) A n xs:=h.below ((Below.refl _ _).alloc (Nat.le_refl _) o)
theorem Bx.at_{w:World}{A:Option Addr}{n:Nat}{xs:List Value}(h:Bx w A n xs){k:Nat}(hk:k<n):
  ∃b off,A=some ⟨b,off,none⟩/\b<w.heap.size/\w.cell? ⟨b,off+k,none⟩=some (xs[k]'(by have:=h.1;omega)):=by
 obtain⟨b,off,e,hlt,hc⟩:=h.2.2 aI;exact⟨b,off,e,hlt,hc k _ (List.getElem?_eq_getElem _)⟩
theorem Bx.own{w:World}{base:Nat}{e:TypeId}{v:Value}{n:Nat}{xs:List Value}(h:w.ownsRow base e 1 v n xs):∃A c,v=.slice A n c/\Bx w A n xs:=by
 have h1:=h.1;rcases h.2 with⟨rfl,rfl⟩|⟨g,cap,cur,rfl,hb,hh,hnc,hcm,hcs,htk⟩
 ·exact⟨none,0,rfl,by omega,ah _,fun h=>absurd h aI⟩
 refine⟨some ⟨g,0,none⟩,cap,rfl,by omega,by omega,fun hn=>⟨g,0,rfl,(h.lt g rfl).2,fun j u hu=>?_⟩⟩;have:=h.cells (g:=g) rfl j u hu;have e1:(⟨g,0,none⟩:Addr).add j=⟨g,0+j,none⟩:=bI;rwa [e1]at this
theorem Cv{w w1:World}{base:Nat}{e:TypeId}{size:Nat}{v:Value}{n:Nat}{xs:List Value}(h:w.ownsRow base e size v n xs)(hb:Below w w w1):w1.ownsRow base e size v n xs:=
 h.kept (row:=none) ⟨hb.os,hb.tape,hb.output,hb.size,fun k hk _=>hb.block k hk⟩ (by
  cases v with
  |slice A a b=>cases A with
   |none=>exact .inl rfl
   |some x=>exact .inr gw
  |_=>exact .inl rfl)
section
variable {P:Program}
theorem Qp(w:World){ops:Array Oper}{rest:List Oper}{o:Oper}{a:Act}{Q:Exit->Act->World->Prop}(hgd:o.guard=none)(s x:Operand)(t:TypeId)
  (ho:o.op=.call {callee:=.builtin .append,args:=#[s,x],argTypes:=#[t,t]})
  (base:Nat) (e:TypeId) (z:Value) (bytes:Nat) (ht:P.underlying t=some (.slice e)) (hinfo:(P.info? e).map (fun i=>(i.zero,i.size,i.bytes))=some (some z,1,bytes))
  (hzs:z.cells.size=1) (W:World) (u:Value) (hw:w=W.alloc (.cells #[u] e)) (hu:u.oneCell'=true) (v:Value) (n:Nat) (xs:List Value) (hs:a.eval s=v) (hx:a.eval x=.slice (W,0) 1 1)
  (hown:W.ownsRow base e 1 v n xs)
  (h63:n+1<=maxLen) (hbytes:(n+1)*bytes<=140737488355328) (hbase:base<=W.heap.size)
  (h:∀v' w',w'.ownsRow base e 1 v' (n+1) (xs++[u])->Below base W w'->wpList P ops Q rest (a.put o.dst v') w'):wpList P ops Q (o::rest) a w:=by
 subst hw;obtain⟨i0,hi,hz0,hz1,hz2⟩:=info_parts hinfo;refine wpList_append_own _ hgd s x t ho base e i0 z 1 bytes ht hi hz0 hz1 hz2 hzs aL v n xs hs (hown.alloc _) ⟨W.heap.size,0,none⟩ 1 1 [u] hx rfl ?_ ?_ h63 hbytes ?_ ?_
 ·intro j y hj;match j,hj with
  |0,hj=>simp at hj;subst hj;simp[Addr.add,World.cell?_alloc_new]
 ·intro y hy;simp at hy;subst hy;exact hu
 ·have:(W.alloc (.cells #[u] e)).heap.size=W.heap.size+1:=aN;omega
 intro v' w' h1 h2 _;exact h v' w' h1 (((Below.refl base W).alloc hbase _).grown h2 aO (fun k hk=>(hown.lt k hk).1))
theorem Qi0(W:World)(src e dst:TypeId)(hs:P.underlying src=some (.slice e))(he:P.underlying e=some (.int .u8))(hd:P.underlying dst=some .string)
  (g c:Nat) (b:UInt8) (hc:W.cell? (g,0)=some (.int .u8 (b.toNat:Int))):(convert src dst (.slice (g,0) 1 c)).run P W=.ok (.string ⟨[b].toArray⟩) W:=by
 have h:=run_convert_bytes_arg (P:=P) W src e hs he g 0 1 c [(b.toNat:Int)] rfl (fun i hi=>by
  obtain rfl:i=0:=aI;simpa using hc) dst hd
 rw[h];simp[strOfNums]
end
theorem Kx(W:World)(g c:Nat)(b:UInt8)(hc:W.cell? (g,0)=some (.int .u8 (b.toNat:Int))):
  (convert 22 9 (.slice (g,0) 1 c)).run prog W=.ok (.string ⟨[b].toArray⟩) W:=
 Qi0 W 22 5 9 underlying22 underlying5 underlying9 g c b hc
theorem Ci{W w1:World}(hb:Below W.heap.size W w1):(∀b o,b<W.heap.size->w1.cell? ⟨b,o,none⟩=W.cell? ⟨b,o,none⟩)/\(∀b o,b<W.heap.size->w1.frozen? ⟨b,o,none⟩=W.frozen? ⟨b,o,none⟩)/\(∀b,b<W.heap.size->b<w1.heap.size):=
 ⟨fun b o h=>hb.cell (p:=⟨b,o,none⟩) h,fun b o h=>hb.frozen (p:=⟨b,o,none⟩) h,fun _ h=>ad h hb.size⟩
theorem Pr:(prog.info? 9).map (fun i=>(i.zero,i.size,i.bytes))=some (some (.string ⟨#[]⟩),1,16):=aP
theorem Ab:True:=True.intro
theorem Aa{p:Prop}(h:p):Hid p:=h
theorem Ao(n:Nat):n<=n:=Nat.le_refl n
theorem _root_.Go.RowKit.Hid.o{p:Prop}(h:Hid p):p:=h
theorem Am(n:Nat)(w:World):Below n w w:=Below.refl n w
theorem Ej{a a':Value}(h:a=a'):Ending.returned a=.returned a':=by rw[h]
theorem Qkv{a b a' b':Value}(h1:a=a')(h2:b=b'):Ending.returned (.tuple #[a,b])=.returned (.tuple #[a',b']):=by rw[h1,h2]
theorem Qmx{a b c a' b' c':Value}(h1:a=a')(h2:b=b')(h3:c=c'):Ending.returned (.tuple #[a,b,c])=.returned (.tuple #[a',b',c']):=by rw[h1,h2,h3]
theorem Qk2{k:IntKind}{x y:Int}(h:x=y):Value.int k x=.int k y:=by rw[h]
theorem Qjf{x y:List UInt8}(h:x=y):Value.string ⟨x.toArray⟩=y:=by rw[h]
theorem C0{x y:Bool}(h:x=y):Value.bool x=.bool y:=by rw[h]
def Et(w:World)(g p:Nat):Prop:=
 ∃A n c l,w.heap[g]?=some (.cells #[.slice A n c,(p:Int)] 110 (0,0))/\Bx w A n (El l)/\n<=2000/\∀b off,A=some ⟨b,off,none⟩->0<n->b<g
theorem Et.lt{w:World}{g p:Nat}(h:Et w g p):g<w.heap.size:=by
 obtain⟨A,n,c,l,hh,_⟩:=h;rcases aH g w.heap.size with h1|h1
 ·exact h1
 rw[Array.getElem?_eq_none h1]at hh;cases hh
theorem Et.below{w w':World}{g p:Nat}(h:Et w g p)(hb:Below w w w'):Et w' g p:=by
 have hlt:=h.lt;obtain⟨A,n,c,l,hh,hr,h2,h3⟩:=h;exact⟨A,n,c,l,(hb.block g hlt).trans hh,hr.below hb,h2,h3⟩
theorem Et.belowg{w w':World}{g p:Nat}(h:Et w g p)(hb:Below (g+1) w w')(hs:w.heap.size<=w'.heap.size):Et w' g p:=by
 obtain⟨A,n,c,l,hh,hr,h2,h3⟩:=h;refine⟨A,n,c,l,(hb.block g aI).trans hh,⟨hr.1,hr.2.1,fun hn=>?_⟩,h2,h3⟩;obtain⟨b,off,e,hlt,hc⟩:=hr.2.2 hn;have:=h3 b off e hn;exact⟨b,off,e,ad hlt hs,fun j u hu=>(hb.cell (p:=⟨b,off+j,none⟩) (by show b<g+1;omega)).trans (hc j u hu)⟩
theorem Bx.grown{w w':World}{g:Nat}{A:Option Addr}{n:Nat}{xs:List Value}(h:Bx w A n xs)(hg:w.grownBy w' (some g))(hne:∀b off,A=some ⟨b,off,none⟩->0<n->b≠g):Bx w' A n xs:=by
 refine⟨h.1,h.2.1,fun hn=>?_⟩;obtain⟨b,off,e,hlt,hc⟩:=h.2.2 hn;refine⟨b,off,e,ad hlt hg.size,fun j u hu=>?_⟩;exact(World.cell?_of_block (a:=⟨b,off+j,none⟩) (hg.block b hlt (fun h=>hne b off e hn (Option.some.inj h)))).trans (hc j u hu)
theorem Qcj(a b:Nat)(ha:a<4611686018427387904)(hb:b<4611686018427387904):∃x:Nat,bits .xor .i64 (a:Int) (b:Int)=(x:Int)/\x<4611686018427387904:=by
 have hx:a ^^^ b<2 ^ 62:=Nat.xor_lt_two_pow aI aI;refine⟨a ^^^ b,?_,hx⟩;show IntKind.i64.wrap ((BitVec.ofInt 64 (a:Int) ^^^ BitVec.ofInt 64 (b:Int)).toNat:Int)=_;have ho:∀a:Nat,a<4611686018427387904->(BitVec.ofInt 64 (a:Int)).toNat=a:=fun a ha=>by
  rw[BitVec.ofInt_natCast,BitVec.toNat_ofNat];exact Nat.mod_eq_of_lt aI
 rw[BitVec.toNat_xor,ho a ha,ho b hb,IntKind.wrap_i64];omega
def Qin(w:World)(g p:Nat)(n:Int)(e:Ending)(w':World):Prop:=
 ∃x:Nat,e=.returned (x:Int)/\(1<=n->(x:Int)<n)/\(n<1->x=0)/\Et w' g (p+1)/\w.grownBy w' (some g)
theorem Qem{w:World}{g p:Nat}(h:Et w g p)(k:Nat):Et ((w.setCell ⟨g,1,none⟩ (.int .i64 ((p:Int)+1))).drewN k) g (p+1)/\w.grownBy ((w.setCell ⟨g,1,none⟩ (.int .i64 ((p:Int)+1))).drewN k) (some g):=by
 obtain⟨A,n,c,l,hh,hr,h2,h3⟩:=h;have hg:w.grownBy (w.setCell ⟨g,1,none⟩ (.int .i64 ((p:Int)+1))) (some g):=
  ⟨rfl,rfl,rfl,by simp,fun k _ hk=>heap_setCell_other w ⟨g,1,none⟩ k _ (fun e=>hk (by simp[e]))⟩
 have hg':w.grownBy ((w.setCell ⟨g,1,none⟩ (.int .i64 ((p:Int)+1))).drewN k) (some g):=⟨hg.os,hg.tape,hg.output,hg.size,hg.block⟩
 refine⟨⟨A,n,c,l,?_,hr.grown hg' (fun b off e hn=>Nat.ne_of_lt (h3 b off e hn)),h2,h3⟩,hg'⟩;have:=heap_setCell_same w g 1 _ _ (.int .i64 ((p:Int)+1)) hh;have e:((p+1:Nat):Int)=(p:Int)+1:=aI;rw[e];exact this
theorem Bj(g p:Nat)(n:Int)(w:World)(h:Et w g p)(hp:p<=1000000000)(hn:n<=1000000000)(hn0:-1000000000<=n):
  Calls prog 67 #[g,.int .i64 n] w (Qin w g p n):=by
 have hw:=fun k=>Qem h k;have Hw:=Aa hw;clear hw;obtain⟨A,m,c,l,hh,hr,h2,h3⟩:=h;have hc0:w.cell? (g,0)=some (.slice A m c):=by simp[World.cell?,hh]
 have hc1:w.cell? (g,1)=(p:Int):=by simp[World.cell?,hh]
 have hf:w.frozen? (g,1)=false:=by simp[World.frozen?,hh]
 have Hh:=Aa hh;clear hh;by_cases hn1:n<1
 ·have H3:=Aa h3;clear h3;go_enter func67,ntmps67;go_wp2
  exact kM
 by_cases hm:m=0
 ·have H3:=Aa h3;clear h3;subst hm;go_enter func67,ntmps67;go_wp2
  exact kM
 have hm1:0<m:=aI;have tm:((m:Int) == 0)=false:=aO;have hl:l.length=m:=by have:=hr.1;simpa [El]using this
 by_cases hk:p<m
 ·obtain⟨b,o,rfl,hb,hx⟩:=hr.at_ hk;have hbg:b≠g:=Nat.ne_of_lt (h3 b o rfl hm1);have hx':w.cell? ⟨b,o+p,none⟩=some (.int .u8 ((l[p]' aI).toNat:Int)):=by rw[hx];simp[El]
  have hlt:=(l[p]' aI).toNat_lt;generalize (l[p]'(show p<l.length by omega)).toNat=y at hx' hlt;clear hx h3 tm;have tm:((m:Int) == 0)=false:=aO;have i1:(0:Int)<=(p:Int):=aI;have i2:(p:Int)<(m:Int):=aI;go_enter func67,ntmps67;go_wp2
  go_ret;have hn':(0:Int)<n:=aI;have e1:=Int.emod_nonneg (y:Int) (show n≠0 by omega);have e2:=Int.emod_lt_of_pos (y:Int) hn';exact⟨((y:Int) % n).toNat,Ej (Qk2 aI),by omega,by omega,(Hw.o 0).1,(Hw.o 0).2⟩
 obtain⟨b,o,rfl,hb,hcell⟩:=hr.2.2 hm1;have hbg:b≠g:=Nat.ne_of_lt (h3 b o rfl hm1);have m1:p % m<m:=Nat.mod_lt _ hm1;have m2:(p*7+3) % m<m:=Nat.mod_lt _ hm1;have hx1:=hcell (p % m) _ (List.getElem?_eq_getElem (show p % m<(El l).length by rw[Rr];omega));have hx2:=hcell ((p*7+3) % m) _ (List.getElem?_eq_getElem (show (p*7+3) % m<(El l).length by rw[Rr];omega));simp only[El,List.getElem_map]at hx1 hx2;have hlt1:=(l[p % m]' aI).toNat_lt;have hlt2:=(l[(p*7+3) % m]' aI).toNat_lt;generalize (l[p % m]'(show p % m<l.length by omega)).toNat=y1 at hx1 hlt1;generalize (l[(p*7+3) % m]'(show (p*7+3) % m<l.length by omega)).toNat=y2 at hx2 hlt2;have M1:((p:Int).tmod m)=((p % m:Nat):Int):=by rw[Int.tmod_eq_emod_of_nonneg aI];omega
 have M2:(((p:Int)*7+3).tmod m)=(((p*7+3) % m:Nat):Int):=by rw[Int.tmod_eq_emod_of_nonneg aI];simp
 have M3:((p:Int).tdiv m)=((p / m:Nat):Int):=by rw[Int.tdiv_eq_ediv_of_nonneg aI];omega
 have m3:p / m<=p:=Nat.div_le_self _ _;generalize p % m=k1 at M1 hx1 m1;generalize (p*7+3) % m=k2 at M2 hx2 m2;generalize p / m=k3 at M3 m3;have a1:IntKind.i64.wrap ((y1:Int)*131)=(y1:Int)*131:=IntWalk.i64_in _ aI;have a2:IntKind.i64.wrap ((y2:Int)*1117)=(y2:Int)*1117:=IntWalk.i64_in _ aI;have a3:IntKind.i64.wrap ((y1:Int)*131+(y2:Int)*1117)=(y1:Int)*131+(y2:Int)*1117:=IntWalk.i64_in _ aI;have a4:IntKind.i64.wrap ((p:Int)*29)=(p:Int)*29:=IntWalk.i64_in _ aI;have a5:IntKind.i64.wrap ((y1:Int)*131+(y2:Int)*1117+(p:Int)*29)=(y1:Int)*131+(y2:Int)*1117+(p:Int)*29:=IntWalk.i64_in _ aI;have a7:IntKind.i64.wrap ((k3:Int)*53)=(k3:Int)*53:=IntWalk.i64_in _ aI;have a9:IntKind.i64.wrap ((p:Int)*7)=(p:Int)*7:=IntWalk.i64_in _ aI;have a10:IntKind.i64.wrap ((p:Int)*7+3)=(p:Int)*7+3:=IntWalk.i64_in _ aI;obtain⟨z,a8,hz⟩:∃z:Nat,IntKind.i64.wrap ((y1:Int)*131+(y2:Int)*1117+(p:Int)*29+(k3:Int)*53)=(z:Int)/\z<4611686018427387904:=
  ⟨y1*131+y2*1117+p*29+k3*53,by rw[IntWalk.i64_in _ aI];omega,by omega⟩
 obtain⟨x,hx,hxl⟩:=Qcj z (z / 64) hz aI;rw[show ((z / 64:Nat):Int)=(z:Int) / 64 from by omega]at hx;clear hcell h3 hm hr;have i1:(0:Int)<=(p:Int):=aI;have i2:(0:Int)<(m:Int):=aI;have i3:(0:Int)<=(k1:Int):=aI;have i4:(k1:Int)<(m:Int):=aI;have i5:(0:Int)<=(k2:Int):=aI;have i6:(k2:Int)<(m:Int):=aI;have j1:(0:Int)<=(z:Int):=aI;have j2:(0:Int)<=(x:Int):=aI;go_enter func67,ntmps67;go_wp2
 go_quiet (fail)
 clear a1 a2 a3 a4 a5 a7 a9 a10 a8 M1 M2 M3;go_wp2
 go_ret;have hn':(0:Int)<n:=aI;have e1:=Int.emod_nonneg (x:Int) (show n≠0 by omega);have e2:=Int.emod_lt_of_pos (x:Int) hn';exact⟨((x:Int) % n).toNat,Ej (Qk2 aI),by omega,by omega,(Hw.o _).1,(Hw.o _).2⟩
theorem Qf2{w:World}{A:Option Addr}{n c:Nat}{l:List UInt8}(h:Bx w A n (El l))(hn:n<=2000):Et (w.alloc (.cells #[.slice A n c,.int .i64 0] 110)) w 0:=by
 refine⟨A,n,c,l,heap_alloc_new w _,h.alloc _,hn,fun b off e hpos=>?_⟩;obtain⟨b',off',e',hlt,_⟩:=h.2.2 hpos;rw[e]at e';injection e' with e';injection e' with e1;subst e1;omega
theorem Bx.take{w:World}{A:Option Addr}{n:Nat}{l:List UInt8}(h:Bx w A n (El l))(k:Nat)(hk:k<=n):Bx w A k (El (l.take k)):=by
 have hl:l.length=n:=by have:=h.1;simpa [El]using this
 refine⟨by simp[El];omega,ae hk h.2.1,fun h0=>?_⟩;obtain⟨b,off,e,hlt,hc⟩:=h.2.2 aI;refine⟨b,off,e,hlt,fun j u hu=>hc j u ?_⟩;have hj:j<k:=by
  have:=(List.getElem?_eq_some_iff.1 hu).1;simp[El]at this;omega
 simpa [El,List.getElem?_take,hj]using hu
theorem Ya(A:Option Addr)(n c:Nat)(l:List UInt8)(w:World)(h:Bx w A n (El l))(hc:n<=c)(hcm:c<=maxLen):
  Calls prog 32 #[.slice A n c] w fun e w'=>∃g,e=.returned (.pointer (some ⟨g,0,none⟩))/\Et w' g 0/\w.heap.size<=g/\Below w w w':=by
 unfold maxLen at hcm;by_cases hn:n<=2000
 ·go_enter func32,ntmps32;go_wp2
  go_goals
  go_ret;exact⟨w.heap.size,rfl,Qf2 h hn,Ao _,(Am _ _).alloc (Ao _) _⟩
 go_enter func32,ntmps32;go_wp2
 go_goals
 go_ret;exact⟨w.heap.size,rfl,Qf2 (h.take 2000 aI) (Ao _),Ao _,(Am _ _).alloc (Ao _) _⟩
def C9(n:Nat):UInt8:=UInt8.ofNat n
theorem Dd{n:Nat}(h:n<256):(C9 n).toNat=n:=by unfold C9;exact UInt8.toNat_ofNat_of_lt' h
def J5(c:UInt8):Bool:=decide (97<=c.toNat) && decide (c.toNat<=122)
def Bm(c:UInt8):Bool:=decide (48<=c.toNat) && decide (c.toNat<=57)
def Be(s:List UInt8):Bool:=decide (1<=s.length) && decide (s.length<=3) && s.all J5
theorem Do{c:UInt8}:Bm c=true↔48<=c.toNat/\c.toNat<=57:=by simp[Bm]
theorem Pc{c:UInt8}:J5 c=true↔97<=c.toNat/\c.toNat<=122:=by simp[J5]
theorem Dm{s:List UInt8}:Be s=true↔1<=s.length/\s.length<=3/\∀c∈s,J5 c=true:=by
 simp[Be,and_assoc]
def Bb(n:Nat):List UInt8:=if h:n<10 then[C9 (48+n)]else Bb (n / 10)++[C9 (48+n % 10)]
termination_by n
decreasing_by omega
theorem Ey{n:Nat}(h:n<10):Bb n=[C9 (48+n)]:=by rw[Bb,dif_pos h]
theorem N4{n:Nat}(h:¬n<10):Bb n=Bb (n / 10)++[C9 (48+n % 10)]:=by rw[Bb,dif_neg h]
def Gr(s:List UInt8):Nat:=s.foldl (fun n c=>10*n+(c.toNat - 48)) 0
theorem Mh(s:List UInt8)(c:UInt8):Gr (s++[c])=10*Gr s+(c.toNat - 48):=by simp[Gr,List.foldl_append]
theorem Qj2:Gr []=0:=rfl
def Cw(s:List UInt8):Option Nat:=
 if 1<=s.length/\s.length<=6/\s.all Bm=true/\(s.head?≠some 48\/s.length=1)then some (Gr s)else none
theorem Fi{α:Type}(s:List α):s=[]\/∃t c,s=t++[c]:=by
 rcases s.eq_nil_or_concat with h|⟨t,c,h⟩
 ·exact .inl h
 exact .inr ⟨t,c,by simpa using h⟩
theorem Xo:∀(k:Nat) (s:List UInt8),s.length=k->s.all Bm=true->Gr s<10 ^ k
 |0,s,h,_=>by
  obtain rfl:=List.eq_nil_of_length_eq_zero h;simp[Gr]
 |k+1,s,h,ha=>by
  rcases Fi s with rfl|⟨t,c,rfl⟩
  ·simp at h
  simp at h;simp only[List.all_append,ax,List.all_cons,List.all_nil,Bool.and_true]at ha;have ih:=Xo k t h ha.1;have hc:=Do.1 ha.2;rw[Mh,Nat.pow_succ];omega
theorem Qco:∀(k:Nat) (s:List UInt8),s.length=k->s≠[]->s.all Bm=true->s.head?≠some 48->0<Gr s
 |0,s,h,hn,_,_=>absurd (List.eq_nil_of_length_eq_zero h) hn
 |k+1,s,h,hn,ha,hh=>by
  rcases Fi s with rfl|⟨t,c,rfl⟩
  ·exact absurd rfl hn
  simp at h;simp only[List.all_append,ax,List.all_cons,List.all_nil,Bool.and_true]at ha;have hc:=Do.1 ha.2;rw[Mh];by_cases ht:t=[]
  ·subst ht;simp at hh;have:c.toNat≠48:=fun e=>hh (UInt8.toNat_inj.1 e);omega
  have hh':t.head?≠some 48:=by
   cases t with
   |nil=>exact absurd rfl ht
   |cons a t=>simpa using hh
  have:=Qco k t h ht ha.1 hh';omega
theorem Qa8:∀(k:Nat) (s:List UInt8),s.length=k->s≠[]->s.all Bm=true->(s.head?≠some 48\/s.length=1)->Bb (Gr s)=s
 |0,s,h,hn,_,_=>absurd (List.eq_nil_of_length_eq_zero h) hn
 |k+1,s,h,hn,ha,hh=>by
  rcases Fi s with rfl|⟨t,c,rfl⟩
  ·exact absurd rfl hn
  simp at h;simp only[List.all_append,ax,List.all_cons,List.all_nil,Bool.and_true]at ha;have hc:=Do.1 ha.2;have hc2:C9 (48+(c.toNat - 48))=c:=by
   apply UInt8.toNat_inj.1;rw[Dd aI];omega
  rw[Mh];by_cases ht:t=[]
  ·subst ht;rw[Qj2,Ey aI];simp[hc2]
  have hl:0<t.length:=List.length_pos_iff.2 ht;have hh1:t.head?≠some 48:=by
   cases t with
   |nil=>exact absurd rfl ht
   |cons a t=>rcases hh with hh|hh<;>simp at hh ⊢<;>first|exact hh|omega
  have hp:=Qco t.length t rfl ht ha.1 hh1;have ih:=Qa8 k t h ht ha.1 (.inl hh1);rw[N4 aI];have e1:(10*Gr t+(c.toNat - 48)) / 10=Gr t:=aI;have e2:(10*Gr t+(c.toNat - 48)) % 10=c.toNat - 48:=aI;rw[e1,e2,ih,hc2]
theorem Mv:∀(k n:Nat),n<=k->Bb n≠[]/\(Bb n).all Bm=true/\Gr (Bb n)=n/\((Bb n).head?≠some 48\/n=0)/\(n<10->(Bb n).length=1)/\(10<=n->2<=(Bb n).length)
 |0,n,h=>by
  obtain rfl:n=0:=aI;rw[Ey aI];refine⟨by simp,by decide,by decide,.inr rfl,fun _=>rfl,fun h=>by omega⟩
 |k+1,n,h=>by
  by_cases hn:n<10
  ·rw[Ey hn];have e:(C9 (48+n)).toNat=48+n:=Dd aI;refine⟨by simp,by simp[Do,e];omega,?_,?_,fun _=>rfl,fun h=>by omega⟩
   ·show 10*0+((C9 (48+n)).toNat - 48)=n;omega
   by_cases h0:n=0
   ·exact .inr h0
   refine .inl ?_;intro hh;simp at hh;have:=congrArg UInt8.toNat hh;rw[e]at this;have h48:(48:UInt8).toNat=48:=rfl;omega
  obtain⟨i1,i2,i3,i4,_,_⟩:=Mv k (n / 10) aI;have e:(C9 (48+n % 10)).toNat=48+n % 10:=Dd aI;have hl:0<(Bb (n / 10)).length:=List.length_pos_iff.2 i1;rw[N4 hn];refine⟨by simp,?_,?_,?_,fun h=>absurd h hn,fun _=>by simp;omega⟩
  ·simp only[List.all_append,ax,List.all_cons,List.all_nil,Bool.and_true];exact⟨i2,Do.2 aI⟩
  ·rw[Mh,i3,e];omega
  refine .inl ?_;have e1:(Bb (n / 10)++[C9 (48+n % 10)]).head?=(Bb (n / 10)).head?:=by
   cases hd:Bb (n / 10)with
   |nil=>exact absurd hd i1
   |cons a t=>rfl
  rw[e1];rcases i4 with h|h
  ·exact h
  omega
theorem Td(n:Nat):Bb n≠[]:=(Mv n n (Nat.le_refl _)).1
theorem Nx(n:Nat):(Bb n).all Bm=true:=(Mv n n (Nat.le_refl _)).2.1
theorem Rh(n:Nat):Gr (Bb n)=n:=(Mv n n (Nat.le_refl _)).2.2.1
theorem Qhg(n:Nat):(Bb n).head?≠some 48\/(Bb n).length=1:=by
 obtain⟨_,_,_,h4,h5,_⟩:=Mv n n (Nat.le_refl _);rcases h4 with h|h
 ·exact .inl h
 exact .inr (h5 aI)
theorem Qit{m n:Nat}(h:Bb m=Bb n):m=n:=by rw[<-Rh m,h,Rh]
theorem Db:∀(k n:Nat),n<10 ^ (k+1)->(Bb n).length<=k+1
 |0,n,h=>by rw[Ey aQ];simp
 |k+1,n,h=>by
  by_cases hn:n<10
  ·rw[Ey hn];simp
  rw[N4 hn];have:=Db k (n / 10) (by rw[Nat.pow_succ]at h;omega);simp;omega
theorem Cj{s:List UInt8}{n:Nat}:Cw s=some n↔n<=999999/\s=Bb n:=by
 unfold Cw;constructor
 ·intro h;split at h
  ·rename_i hc;obtain⟨h1,h2,h3,h4⟩:=hc;injection h with h;have hn:s≠[]:=List.length_pos_iff.1 aI;have hv:=Xo s.length s rfl h3;have hle:10 ^ s.length<=10 ^ 6:=Nat.pow_le_pow_right aI h2;have e6:10 ^ 6=1000000:=rfl;refine⟨by omega,?_⟩;rw[<-h];exact(Qa8 s.length s rfl hn h3 h4).symm
  cases h
 rintro⟨h1,rfl⟩;have hl:=Db 5 n gG;have hp:0<(Bb n).length:=List.length_pos_iff.2 (Td n);rw[if_pos ⟨by omega,by omega,Nx n,Qhg n⟩,Rh]
structure Kd where
 signs:List UInt8
 base:List UInt8
 name:List UInt8
deriving DecidableEq
def Bn(c:UInt8):Bool:=c == 91 || c == 63
def Bv(k:Kd):List UInt8:=if k.base=[64]then 64::(k.name++[59])else k.base
def Bc(k:Kd):List UInt8:=k.signs++Bv k
def Kd.nil:Kd:=⟨[],[],[]⟩
def Kd.part(k:Kd):Kd:={k with signs:=k.signs.tail}
def Kd.core(k:Kd):Kd:={k with signs:=[]}
def Qbb(k:Kd):Prop:=(k.base=[64]/\Be k.name=true)\/((k.base=[110]\/k.base=[116]\/k.base=[102])/\k.name=[])
def Cm(k:Kd):Prop:=k.signs.all Bn=true/\Qbb k/\(Bc k).length<=12
theorem Qaz{k:Kd}(h:Qbb k):∃c t,Bv k=c::t/\Bn c=false:=by
 unfold Bv;rcases h with⟨h,_⟩|⟨h|h|h,_⟩
 ·rw[if_pos h];exact⟨64,_,rfl,by decide⟩
 ·rw[h,if_neg aL];exact⟨110,[],rfl,by decide⟩
 ·rw[h,if_neg aL];exact⟨116,[],rfl,by decide⟩
 rw[h,if_neg aL];exact⟨102,[],rfl,by decide⟩
theorem Gi{p:UInt8->Bool}:∀{a b:List UInt8},a.all p=true->(∃c t,b=c::t/\p c=false)->(a++b).takeWhile p=a/\(a++b).dropWhile p=b
 |[],b,_,⟨c,t,e,h⟩=>by subst e;simp[h]
 |x::a,b,ha,hb=>by
  simp only[List.all_cons,ax]at ha;have ih:=Gi ha.2 hb;simp[ha.1,ih.1,ih.2]
theorem Kj{p:UInt8->Bool}:∀(a:List UInt8),(a.takeWhile p).all p=true
 |[]=>rfl
 |x::a=>by
  by_cases h:p x=true
  ·simp[h]
  simp[h]
def Cx(s:List UInt8):Option Kd:=
 if 12<s.length then none
 else if s.dropWhile Bn=[110]\/s.dropWhile Bn=[116]\/s.dropWhile Bn=[102]then some ⟨s.takeWhile Bn,s.dropWhile Bn,[]⟩
 else if (s.dropWhile Bn).head?=some 64/\(s.dropWhile Bn).getLast?=some 59/\Be ((s.dropWhile Bn).drop 1).dropLast=true then some ⟨s.takeWhile Bn,[64],((s.dropWhile Bn).drop 1).dropLast⟩
 else none
theorem Qft{r:List UInt8}(h1:r.head?=some 64)(h2:r.getLast?=some 59):r=64::((r.drop 1).dropLast++[59]):=by
 cases r with
 |nil=>simp at h1
 |cons a t=>
  simp at h1;subst h1;rcases Fi t with rfl|⟨u,c,rfl⟩
  ·simp at h2
  have:c=59:=by
   rw[show (64:UInt8)::(u++[c])=(64::u)++[c]from rfl,List.getLast?_append]at h2;simpa using h2
  subst this;simp
theorem Fe{s:List UInt8}{k:Kd}:Cx s=some k↔Cm k/\Bc k=s:=by
 have htd:s.takeWhile Bn++s.dropWhile Bn=s:=List.takeWhile_append_dropWhile;constructor
 ·intro h;unfold Cx at h;split at h
  ·cases h
  rename_i h12;split at h
  ·rename_i hb;injection h with h;subst h;have hcore:Bv ⟨s.takeWhile Bn,s.dropWhile Bn,[]⟩=s.dropWhile Bn:=by
    unfold Bv;rw[if_neg];rcases hb with h|h|h<;>· show ¬s.dropWhile Bn=_;rw[h];decide
   have e:Bc ⟨s.takeWhile Bn,s.dropWhile Bn,[]⟩=s:=by unfold Bc;rw[hcore];exact htd
   exact⟨⟨Kj s,.inr ⟨hb,rfl⟩,by rw[e];omega⟩,e⟩
  split at h
  ·rename_i hb;injection h with h;subst h;have e1:=Qft hb.1 hb.2.1;have e:Bc ⟨s.takeWhile Bn,[64],((s.dropWhile Bn).drop 1).dropLast⟩=s:=by
    unfold Bc Bv;rw[if_pos rfl];show s.takeWhile Bn++64::(((s.dropWhile Bn).drop 1).dropLast++[59])=s;rw[<-e1];exact htd
   exact⟨⟨Kj s,.inl ⟨rfl,hb.2.2⟩,by rw[e];omega⟩,e⟩
  cases h
 rintro⟨⟨h1,h2,h3⟩,rfl⟩;obtain⟨e1,e2⟩:=Gi h1 (Qaz h2);unfold Cx;rw[if_neg aI];show (if (k.signs++Bv k).dropWhile Bn=[110]\/_ then _ else _)=_;unfold Bc;rw[e1,e2];obtain⟨sg,b,nm⟩:=k;rcases h2 with⟨h,hn⟩|⟨h,hn⟩
 ·simp only at h hn;subst h;unfold Bv;simp only[if_pos];rw[if_neg aN,if_pos]
  ·simp
  refine⟨rfl,?_,by simpa using hn⟩;rw[show (64:UInt8)::(nm++[59])=(64::nm)++[59]from rfl,List.getLast?_append];rfl
 simp only at h hn;subst hn;have hc:Bv ⟨sg,b,[]⟩=b:=by
  unfold Bv;rw[if_neg];rcases h with h|h|h<;>· show ¬b=_;rw[h];decide
 rw[hc,if_pos h]
theorem J0{k:Kd}(h:Cm k):Cm k.part/\(k.signs≠[]->Bc k.part=(Bc k).tail/\(Bc k.part).length+1=(Bc k).length):=by
 obtain⟨h1,h2,h3⟩:=h;obtain⟨sg,b,nm⟩:=k;have hc:∀g,Bv ⟨g,b,nm⟩=Bv ⟨sg,b,nm⟩:=fun g=>rfl;cases sg with
 |nil=>exact⟨⟨h1,h2,h3⟩,fun h=>absurd rfl h⟩
 |cons c t=>
  simp only[List.all_cons,ax]at h1;have e:Bc (Kd.part ⟨c::t,b,nm⟩)=(Bc ⟨c::t,b,nm⟩).tail:=rfl;have el:(Bc (Kd.part ⟨c::t,b,nm⟩)).length+1=(Bc ⟨c::t,b,nm⟩).length:=rfl;exact⟨⟨h1.2,h2,by omega⟩,fun _=>⟨e,el⟩⟩
section
attribute [local go_sem] Qm0 Ql8 Qlz Qj6 ByteArray.mk_append_mk
theorem Ap{c d:UInt8}(h:c≠d):((c.toNat:Int) == (d.toNat:Int))=false:=by
 rw[beq_eq_false_iff_ne];intro e;exact h (UInt8.toNat_inj.1 aI)
theorem Bl{c d:UInt8}(h:c=d):((c.toNat:Int) == (d.toNat:Int))=true:=by rw[h];simp
theorem Qj5(n a b:Int)(w:World):
  Calls prog 162 #[.int .i64 n,.int .i64 a,.int .i64 b] w fun e w'=>e=.returned (.bool (decide (a<=n) && decide (n<=b)))/\w=w':=by
 go_enter func162,ntmps162;by_cases h1:a<=n
 ·have t1:decide (a<=n)=true:=fj;rw[t1];go_wp2
  exact kN
 have t1:decide (a<=n)=false:=fj;rw[t1];go_wp2
 exact kN
theorem Ct(s:List UInt8)(w:World)(hs:s.length<=9223372036854775807):
  Calls prog 128 #[s] w fun e w'=>e=.returned (.bool (Be s))/\w=w':=by
 go_enter func128,ntmps128;go_wp2
 go_loop [3] (fun i=>∃k:Nat,k<=s.length/\i=.int .i64 k/\Hid (∀c∈s.take k,J5 c=true)) (fun i=>s.length - (intOf i).toNat)
 case atStart=>exact⟨0,ah _,rfl,by intro c hc;simp at hc⟩
 case round=>
  obtain⟨k,hk,rfl,hin⟩:=hrel;by_cases hlt:k<s.length
  ·have hc:(s[k]).toNat<256:=(s[k]).toNat_lt;have Hts:=Aa (Ch s k hlt);have Hm:=Aa (af hlt);by_cases h1:J5 s[k]=true
   ·have h2:=Pc.1 h1;obtain⟨h3,h4⟩:=h2;have H1:=Aa h1;clear h1;go_wp2
    go_round
    case rel=>
     refine⟨k+1,by omega,by go_num,?_⟩;intro c hc;rw[Hts.o]at hc;rcases ag.1 hc with hc|hc
     ·exact hin.o c hc
     ·simp at hc;subst hc;exact H1.o
    case measure=>simp[intOf];omega
   have hno:Be s=false:=by
    cases hh:Be s with
    |false=>rfl
    |true=>exact absurd ((Dm.1 hh).2.2 _ Hm.o) h1
   have Hno:=Aa hno;have h2:(s[k]).toNat<97\/122<(s[k]).toNat:=by
    rcases aH (s[k]).toNat 97 with h|h
    ·exact .inl h
    rcases aH 122 (s[k]).toNat with h'|h'
    ·exact .inr h'
    exact absurd (Pc.2 ⟨h,h'⟩) h1
   clear h1 hno;rcases h2 with h2|h2
   ·go_wp2
    go_ret;exact⟨Ej (C0 Hno.o.symm),rfl⟩
   have h3:97<=(s[k]).toNat:=aI;go_wp2
   go_ret;exact⟨Ej (C0 Hno.o.symm),rfl⟩
  ·have hfin:(decide ((1:Int)<=(s.length:Int)) && decide ((s.length:Int)<=3))=Be s:=by
    have hall:s.all J5=true:=List.all_eq_true.2 (fun c hc=>hin.o c (by rw[av aI];exact hc));unfold Be;rw[hall,Bool.and_true];congr 1<;>· rw[decide_eq_decide];omega
   have Hfin:=Aa hfin;clear hfin;go_wp2_with fail;refine(Qj5 _ _ _ _).mono ?_;rintro e w' ⟨rfl,rfl⟩;go_wp2_with fail;go_ret;exact⟨Ej (C0 Hfin.o),rfl⟩
theorem Zn(c:UInt8)(t:List UInt8)(hc:Bn c=true):(Cx (c::t)).isSome=(decide (t.length<12) && (Cx t).isSome):=by
 unfold Cx;simp only[List.dropWhile_cons,List.takeWhile_cons,hc,if_true];by_cases h:12<(c::t).length
 ·exact kD
 rw[if_neg h];simp at h;have h2:¬12<t.length:=aI;have:t.length<12:=aI;rw[if_neg h2];simp only[this,decide_true,Bool.true_and];by_cases h3:t.dropWhile Bn=[110]\/t.dropWhile Bn=[116]\/t.dropWhile Bn=[102]
 ·rw[if_pos h3,if_pos h3];rfl
 rw[if_neg h3,if_neg h3];by_cases h4:(t.dropWhile Bn).head?=some 64/\(t.dropWhile Bn).getLast?=some 59/\Be ((t.dropWhile Bn).drop 1).dropLast=true
 ·rw[if_pos h4,if_pos h4];rfl
 rw[if_neg h4,if_neg h4]
theorem Qid(t:List UInt8):(Cx (64::t)).isSome=(decide (t.length<12) && decide ((64::t).getLast?=some 59) && Be t.dropLast):=by
 unfold Cx;have h64:Bn 64=false:=aL;simp only[List.dropWhile_cons,List.takeWhile_cons,h64];by_cases h:12<(64::t).length
 ·exact kD
 rw[if_neg h];simp at h;have:t.length<12:=aI;simp[this];split
 ·rename_i hh;simp[hh]
 rename_i hh;simp only[Option.isSome_none];cases hn:Be t.dropLast with
 |false=>simp
 |true=>simp[hn]at hh;simp[hh]
theorem Qcu(c:UInt8)(t:List UInt8)(h1:Bn c=false)(h2:c≠64):(Cx (c::t)).isSome=(decide (c::t=[110]) || decide (c::t=[116]) || decide (c::t=[102])):=by
 unfold Cx;simp only[List.dropWhile_cons,List.takeWhile_cons,h1];by_cases h:12<(c::t).length
 ·rw[if_pos h];simp at h;have e:t≠[]:=by rintro rfl;simp at h
  simp[e]
 rw[if_neg h];by_cases h3:c::t=[110]\/c::t=[116]\/c::t=[102]
 ·simp only[ap,if_false];rw[if_pos h3];rcases h3 with h3|h3|h3<;>simp[h3]
 simp only[ap,if_false];rw[if_neg h3,if_neg (by simp[h2])];simp only[not_or]at h3;simp[h3]
theorem Pg:∀(n:Nat) (s:List UInt8) (w:World),s.length<=n->s.length<=9223372036854775807 ->
  Calls prog 85 #[s] w fun e w'=>e=.returned (.bool (Cx s).isSome)/\w=w':=by
 intro n;induction n with
 |zero=>
  intro s w hn hs;obtain rfl:s=[]:=List.eq_nil_of_length_eq_zero aI;go_enter func85,ntmps85;go_wp2_with fail;exact kN
 |succ n ih=>
  intro s w hn hs;have Ih:=Aa ih;clear ih;by_cases h12:12<s.length
  ·have Hf:=Aa (show (Cx s).isSome=false by unfold Cx;rw[if_pos h12];rfl);go_enter func85,ntmps85;go_wp2_with fail;exact kO
  cases s with
  |nil=>
   go_enter func85,ntmps85;go_wp2_with fail;exact kN
  |cons c t=>
   have hlt:t.length<12:=by simp at h12;omega
   have hn':t.length<=n:=by simp at hn;omega
   have hc:=c.toNat_lt;by_cases h91:c=91
   ·have Hf:=Aa (show (Cx (c::t)).isSome=(Cx t).isSome by rw[Zn c t (by rw[h91];decide)];simp[hlt]);have e1:c.toNat=91:=by rw[h91];rfl
    have t1:((c.toNat:Int) == 91)=true:=by simp[e1]
    clear h91 e1;go_enter func85,ntmps85;go_wp2_with fail;refine(Ih.o t _ hn' aI).mono ?_;rintro e w' ⟨rfl,rfl⟩;go_wp2_with fail;exact kO
   have t1:((c.toNat:Int) == 91)=false:=Ap h91;by_cases h63:c=63
   ·have Hf:=Aa (show (Cx (c::t)).isSome=(Cx t).isSome by rw[Zn c t (by rw[h63];decide)];simp[hlt]);have e1:c.toNat=63:=by rw[h63];rfl
    have t2:((c.toNat:Int) == 63)=true:=by simp[e1]
    clear h63 h91 e1;go_enter func85,ntmps85;go_wp2_with fail;refine(Ih.o t _ hn' aI).mono ?_;rintro e w' ⟨rfl,rfl⟩;go_wp2_with fail;exact kO
   have t2:((c.toNat:Int) == 63)=false:=Ap h63;by_cases h64:c=64
   ·have e1:c.toNat=64:=by rw[h64];rfl
    have t3:((c.toNat:Int) == 64)=true:=by simp[e1]
    rcases Fi t with rfl|⟨u,d,rfl⟩
    ·have Hf:=Aa (show (Cx [c]).isSome=false by rw[h64];decide);have t4:((c.toNat:Int) == 59)=false:=by simp[e1]
     clear h64 h63 h91 e1;go_enter func85,ntmps85;go_wp2_with fail;exact kO
    have hk:=Qid (u++[d]);have hl:(c::(u++[d])).getLast?=some d:=by
     exact kP
    rw[<-h64,hl,List.dropLast_concat]at hk;have hd:=d.toNat_lt;simp at hlt;have hgd:∀h,(c::(u++[d]))[u.length+1]'h=d:=by
     intro h;simp
    have hsl:(List.take u.length (u++[d]))=u:=aN;by_cases h59:d=59
    ·have e2:d.toNat=59:=by rw[h59];rfl
     have t4:((d.toNat:Int) == 59)=true:=by simp[e2]
     have Hf:=Aa (show (Cx (c::(u++[d]))).isSome=Be u by rw[hk,h59];simp;omega);clear h64 h63 h91 e1 hk hl h59 e2;go_enter func85,ntmps85;go_wp2_with fail;refine(Ct u _ aI).mono ?_;rintro e w' ⟨rfl,rfl⟩;go_wp2_with fail;exact kO
    have t4:((d.toNat:Int) == 59)=false:=Ap h59;have Hf:=Aa (show (Cx (c::(u++[d]))).isSome=false by rw[hk];simp[h59]);clear h64 h63 h91 e1 hk hl h59;go_enter func85,ntmps85;go_wp2_with fail;exact kO
   have t3:((c.toNat:Int) == 64)=false:=Ap h64;have hk:=Qcu c t (by simp[Bn,h91,h63]) h64;have Hk:=Aa hk;clear hk h64 h63 h91;cases t with
   |cons x t=>
    have hl2:t.length+1+1<=12:=by simp at hlt;omega
    have Hf:=Aa (show (Cx (c::x::t)).isSome=false by rw[Hk.o];simp);clear Hk;go_enter func85,ntmps85;go_wp2_with fail;all_goals
     go_ret;exact⟨Ej (C0 (by rw[Hf.o])),rfl⟩
   |nil=>
    by_cases g1:c=110
    ·subst g1;go_enter func85,ntmps85;go_wp2_with fail;exact kN
    by_cases g2:c=116
    ·subst g2;go_enter func85,ntmps85;go_wp2_with fail;exact kN
    by_cases g3:c=102
    ·subst g3;go_enter func85,ntmps85;go_wp2_with fail;exact kN
    have Hf:=Aa (show (Cx [c]).isSome=false by rw[Hk.o];simp[g1,g2,g3]);go_enter func85,ntmps85;go_wp2_with fail;go_ret;exact⟨Ej (C0 (by rw[Hf.o];simp[g1,g2,g3])),rfl⟩
def Sj:Value->Nat
 |.string b=>b.size
 |_=>0
theorem Mj(l:List UInt8):Sj l=l.length:=rfl
theorem Qeo(k:Kd)(w:World)(hk:k.signs.all Bn=true)(hb:∃c t,Bv k=c::t/\Bn c=false)(hs:(Bc k).length<=9223372036854775807):
  Calls prog 87 #[.string ⟨(Bc k).toArray⟩] w fun e w'=>e=.returned (.string ⟨(Bv k).toArray⟩)/\w=w':=by
 obtain⟨d,u,hcu,hd⟩:=hb;have hlen:(Bc k).length=k.signs.length+(u.length+1):=by unfold Bc;rw[hcu];simp
 unfold Bc;rw[hcu];generalize k.signs=g at hk hlen;clear hcu;have hd1:d≠91:=by rintro rfl;revert hd;decide
 have hd2:d≠63:=by rintro rfl;revert hd;decide
 have d1:((d.toNat:Int) == 91)=false:=Ap hd1;have d2:((d.toNat:Int) == 63)=false:=Ap hd2;have hdl:=d.toNat_lt;clear hd hd1 hd2;have hs2:g.length+u.length+1<=9223372036854775807:=aI;have Hk:=Aa (List.all_eq_true.1 hk);clear hs hlen hk;go_enter func87,ntmps87;go_wp2_with fail;go_loop [0] (fun x=>∃k:Nat,k<=g.length/\x=.string ⟨(g.drop k++d::u).toArray⟩) (fun x=>Sj x)
 case atStart=>exact⟨0,ah _,rfl⟩
 case round=>
  obtain⟨k,hk,rfl⟩:=hrel;by_cases hlt:k<g.length
  ·have hdr:g.drop k=g[k]::g.drop (k+1):=List.drop_eq_getElem_cons hlt;have hl3:(g.drop (k+1)).length<=g.length:=aN;have hsg:=Hk.o _ (af hlt);have hc:=(g[k]).toNat_lt;rw[hdr];generalize g[k]=c at hsg hc;have hsg2:c=91\/c=63:=by simpa [Bn]using hsg
   have Hd:=Aa hdr;clear hsg hdr;rcases hsg2 with h91|h63
   ·have t1:((c.toNat:Int) == 91)=true:=Bl h91;clear h91;go_wp2_with fail;go_round
    case rel=>exact⟨k+1,by omega,Qjf (av aN)⟩
    case measure=>rw[Mj,Mj];simp
   have t1:((c.toNat:Int) == 91)=false:=Ap (d:=91) (by rw[h63];decide);have t2:((c.toNat:Int) == 63)=true:=Bl h63;clear h63;go_wp2_with fail;go_round
   case rel=>exact⟨k+1,by omega,Qjf (av aN)⟩
   case measure=>rw[Mj,Mj];simp
  ·rw[List.drop_of_length_le aI,List.nil_append];go_wp2_with fail;exact kN
theorem Qa1(nm:List UInt8)(w:World)(hn:nm.length<=1000):
  Calls prog 86 #[.string ⟨(64::(nm++[59])).toArray⟩] w fun e w'=>e=.returned (.tuple #[nm,.bool true])/\w=w':=by
 have h1:(nm++[59]).take nm.length=nm:=aN;go_enter func86,ntmps86;go_wp2_with fail;go_ret2;exact kQ
theorem Qdu(c:UInt8)(t:List UInt8)(w:World)(hc:c≠64)(hn:t.length<=1000):
  Calls prog 86 #[.string ⟨(c::t).toArray⟩] w fun e w'=>e=.returned (.tuple #[aa,.bool false])/\w=w':=by
 have t1:((c.toNat:Int) != 64)=true:=by
  have:=Ap hc;rw[bne_iff_ne];intro e;have h64:((64:UInt8).toNat:Int)=64:=rfl;rw[beq_eq_false_iff_ne,h64]at this;exact this e
 clear hc;go_enter func86,ntmps86;go_wp2_with fail;go_ret2;exact kQ
def Ak(c:UInt8):List UInt8->List (List UInt8)
 |[]=>[[]]
 |x::s=>if x=c then[]::Ak c s else match Ak c s with
  |p::ps=>(x::p)::ps
  |[]=>[[x]]
def Aw(c:UInt8):List (List UInt8)->List UInt8
 |[]=>[]
 |[p]=>p
 |p::ps=>p++c::Aw c ps
theorem Ex(c:UInt8)(s:List UInt8):Ak c s≠[]:=by
 cases s with
 |nil=>simp[Ak]
 |cons x s=>
  simp only[Ak];split
  ·simp
  split<;>simp
theorem Cz(c:UInt8)(p:List UInt8){ps:List (List UInt8)}(h:ps≠[]):Aw c (p::ps)=p++c::Aw c ps:=by
 cases ps with
 |nil=>exact absurd rfl h
 |cons q ps=>rfl
theorem P4(c:UInt8):∀s:List UInt8,Aw c (Ak c s)=s
 |[]=>rfl
 |x::s=>by
  have ih:=P4 c s;have hn:=Ex c s;simp only[Ak];split
  ·rename_i h;rw[Cz c _ hn,ih,h];rfl
  cases hs:Ak c s with
  |nil=>exact absurd hs hn
  |cons p ps=>
   rw[hs]at ih;cases ps with
   |nil=>simpa [Aw]using ih
   |cons q ps=>
    rw[Cz c _ aN]at ih ⊢;simp[ih]
theorem Qa5(c:UInt8):∀s:List UInt8,∀p∈Ak c s,c∉p
 |[],p,hp=>by simp[Ak]at hp;simp[hp]
 |x::s,p,hp=>by
  have ih:=Qa5 c s;simp only[Ak]at hp;split at hp
  ·rcases aB.1 hp with rfl|hp
   ·simp
   exact ih p hp
  rename_i hx;cases hs:Ak c s with
  |nil=>exact absurd hs (Ex c s)
  |cons q qs=>
   rw[hs]at hp ih;rcases aB.1 hp with rfl|hp
   ·have:=ih q aN;simp;exact⟨fun h=>hx h.symm,this⟩
   exact ih p (by simp[hp])
theorem G9(c:UInt8):∀p:List UInt8,c∉p->Ak c p=[p]
 |[],_=>rfl
 |x::p,h=>by
  simp at h;simp only[Ak];rw[if_neg (fun e=>h.1 e.symm),G9 c p h.2]
theorem Mx(c:UInt8):∀(p s:List UInt8),c∉p->Ak c (p++c::s)=p::Ak c s
 |[],s,_=>by simp[Ak]
 |x::p,s,h=>by
  simp at h;simp only[aw,Ak];rw[if_neg (fun e=>h.1 e.symm),Mx c p s h.2]
theorem Nc(c:UInt8):∀ps:List (List UInt8),ps≠[]->(∀p∈ps,c∉p)->Ak c (Aw c ps)=ps
 |[],h,_=>absurd rfl h
 |[p],_,h=>G9 c p (h p aN)
 |p::q::ps,_,h=>by
  rw[Cz c p aN,Mx c p _ (h p aN),Nc c (q::ps) aN (fun x hx=>h x (by simp[hx]))]
theorem Eb{c:UInt8}{s:List UInt8}{ps:List (List UInt8)}:Ak c s=ps↔ps≠[]/\(∀p∈ps,c∉p)/\Aw c ps=s:=
 ⟨fun h=>by subst h;exact⟨Ex c s,Qa5 c s,P4 c s⟩,fun⟨h1,h2,h3⟩=>by rw[<-h3];exact Nc c ps h1 h2⟩
theorem Js(c:UInt8):∀s:List UInt8,(Ak c s).length<=s.length+1
 |[]=>by simp[Ak]
 |x::s=>by
  have ih:=Js c s;simp only[Ak];split
  ·simp;exact ih
  cases hs:Ak c s with
  |nil=>exact absurd hs (Ex c s)
  |cons p ps=>rw[hs]at ih;simp at ih ⊢;omega
theorem Ar(c:UInt8):∀s:List UInt8,∀p∈Ak c s,p.length<=s.length
 |[],p,h=>by simp[Ak]at h;simp[h]
 |x::s,p,h=>by
  have ih:=Ar c s;simp only[Ak]at h;split at h
  ·rcases aB.1 h with rfl|h
   ·simp
   exact Nat.le_succ_of_le (ih p h)
  cases hs:Ak c s with
  |nil=>exact absurd hs (Ex c s)
  |cons q qs=>
   rw[hs]at ih h;rcases aB.1 h with rfl|h
   ·have:=ih q aN;simp;exact this
   have:=ih p (by simp[h]);simp;omega
def Dg(c:UInt8)(s:List UInt8):List UInt8 × List UInt8 × Bool:=
 if c∈s then(s.takeWhile (· != c),(s.dropWhile (· != c)).tail,true)else(s,[],false)
theorem Ri{c:UInt8}{s:List UInt8}(h:c∉s):Dg c s=(s,[],false):=if_neg h
theorem Ez{c:UInt8}{p s:List UInt8}(h:c∉p):Dg c (p++c::s)=(p,s,true):=by
 unfold Dg;rw[if_pos aN];have h1:p.all (fun x=>x != c)=true:=by
  rw[List.all_eq_true];intro x hx;simp;rintro rfl;exact h hx
 obtain⟨e1,e2⟩:=Gi (p:=fun x=>x != c) h1 ⟨c,s,rfl,by simp⟩;rw[e1,e2];rfl
theorem Qdm{c:UInt8}:∀{s:List UInt8},c∈s->∃p t,s=p++c::t/\c∉p
 |x::s,h=>by
  by_cases hx:x=c
  ·exact⟨[],s,by simp[hx],by simp⟩
  obtain⟨p,t,e,hp⟩:=Qdm (s:=s) (by rcases aB.1 h with h|h;exact absurd h.symm hx;exact h);exact⟨x::p,t,by simp[e],by simp;exact⟨fun e=>hx e.symm,hp⟩⟩
theorem Fv(c:UInt8)(s:List UInt8):(c∉s/\Dg c s=(s,[],false))\/∃p t,s=p++c::t/\c∉p/\Dg c s=(p,t,true):=by
 by_cases h:c∈s
 ·obtain⟨p,t,e,hp⟩:=Qdm h;exact .inr ⟨p,t,e,hp,by rw[e];exact Ez hp⟩
 exact .inl ⟨h,Ri h⟩
def Cn(c:UInt8):Bool:=J5 c || Bm c || c == 32
def Dl(s:List UInt8):Bool:=decide (s.length<=12) && s.all Cn
def Cc(b s:List UInt8):Bool:=
 if b=[110]then(match Cw s with|some n=>decide (0<n)|none=>false)
 else if b=[116]then decide (2<s.length) && decide (s.head?=some 39) && decide (s.getLast?=some 39) && Dl (s.drop 1).dropLast
 else if b=[102]then decide (s=[121,101,115])else false
theorem Qd9{r:List UInt8}(h:2<r.length)(h1:r.head?=some 39)(h2:r.getLast?=some 39):r=39::((r.drop 1).dropLast++[39]):=by
 cases r with
 |nil=>simp at h1
 |cons a t=>
  simp at h1;subst h1;rcases Fi t with rfl|⟨u,c,rfl⟩
  ·simp at h
  have:c=39:=by
   rw[show (39:UInt8)::(u++[c])=(39::u)++[c]from rfl,List.getLast?_append]at h2;simpa using h2
  subst this;simp
def Jm(c:UInt8):Prop:=c≠10/\c≠44/\c≠58/\c≠61
theorem Qaq{c:UInt8}(h:Bm c=true):Jm c:=by
 rw[Do]at h;refine⟨?_,?_,?_,?_⟩<;>(rintro rfl;revert h;decide)
theorem Qaj{c:UInt8}(h:J5 c=true):Jm c:=by
 rw[Pc]at h;refine⟨?_,?_,?_,?_⟩<;>(rintro rfl;revert h;decide)
theorem Qgz{c:UInt8}(h:Cn c=true):Jm c:=by
 unfold Cn at h;simp only[Bool.or_eq_true]at h;rcases h with(h|h)|h
 ·exact Qaj h
 ·exact Qaq h
 have:c=32:=aQ;subst this;exact⟨by decide,by decide,by decide,by decide⟩
theorem Qfq{c:UInt8}(h:Bn c=true):Jm c:=by
 unfold Bn at h;simp only[Bool.or_eq_true,beq_iff_eq]at h;rcases h with rfl|rfl<;>exact⟨by decide,by decide,by decide,by decide⟩
theorem Fh(n:Nat):∀c∈Bb n,Jm c:=fun c hc=>Qaq (List.all_eq_true.1 (Nx n) c hc)
theorem Ea{s:List UInt8}(h:Be s=true):∀c∈s,Jm c:=fun c hc=>Qaj ((Dm.1 h).2.2 c hc)
theorem Kc{k:Kd}(h:Cm k):∀c∈Bc k,Jm c:=by
 intro c hc;obtain⟨h1,h2,_⟩:=h;unfold Bc Bv at hc;rcases ag.1 hc with hc|hc
 ·exact Qfq (List.all_eq_true.1 h1 c hc)
 rcases h2 with⟨h,hn⟩|⟨h,_⟩
 ·rw[if_pos h]at hc;rcases aB.1 hc with rfl|hc
  ·exact⟨by decide,by decide,by decide,by decide⟩
  rcases ag.1 hc with hc|hc
  ·exact Ea hn c hc
  simp at hc;subst hc;exact⟨by decide,by decide,by decide,by decide⟩
 rw[if_neg (by rcases h with h|h|h<;>· rw[h];decide)]at hc;rcases h with h|h|h<;>· rw[h]at hc;simp at hc;subst hc;exact⟨by decide,by decide,by decide,by decide⟩
theorem Na{b s:List UInt8}(h:Cc b s=true):s≠[]/\∀c∈s,Jm c:=by
 unfold Cc at h;split at h
 ·cases hd:Cw s with
  |none=>rw[hd]at h;cases h
  |some n=>
   obtain⟨_,e⟩:=Cj.1 hd;subst e;exact⟨Td n,Fh n⟩
 split at h
 ·simp only[ax,decide_eq_true_eq]at h;obtain⟨⟨⟨h1,h2⟩,h3⟩,h4⟩:=h;have e:=Qd9 h1 h2 h3;refine⟨by intro hh;rw[hh]at h1;simp at h1,fun c hc=>?_⟩;rw[e]at hc;have q:Jm 39:=⟨by decide,by decide,by decide,by decide⟩
  rcases aB.1 hc with rfl|hc
  ·exact q
  rcases ag.1 hc with hc|hc
  ·unfold Dl at h4;simp only[ax]at h4;exact Qgz (List.all_eq_true.1 h4.2 c hc)
  simp at hc;subst hc;exact q
 split at h
 ·simp only[decide_eq_true_eq]at h;subst h;refine⟨by simp,fun c hc=>?_⟩;simp at hc;rcases hc with rfl|rfl|rfl<;>exact⟨by decide,by decide,by decide,by decide⟩
 cases h
theorem Pd{b s:List UInt8}(h:Cc b s=true):b=[110]\/b=[116]\/b=[102]:=by
 unfold Cc at h;split at h
 ·exact .inl (by assumption)
 split at h
 ·exact .inr (.inl (by assumption))
 split at h
 ·exact .inr (.inr (by assumption))
 cases h
structure Fd where
 tag:Nat
 name:List UInt8
 kind:Kd
 given:List UInt8
deriving DecidableEq
def Jy(st:UInt8)(f:Fd):List UInt8:=if st=69 then[]else 58::(Bc f.kind++if f.given=[]then[]else 61::f.given)
def Kn(st:UInt8)(f:Fd):List UInt8:=Bb f.tag++58::(f.name++Jy st f)
def S6(st:UInt8)(f:Fd):Prop:=
 1<=f.tag/\f.tag<=200/\Be f.name=true/\(st=69->f.kind=Kd.nil/\f.given=[]) /\
 (st≠69->Cm f.kind/\(f.given≠[]->st=82/\f.kind.signs=[]/\Cc f.kind.base f.given=true))
theorem Er{s:List UInt8}(h:∀c∈s,Jm c):10∉s/\44∉s/\58∉s/\61∉s:=
 ⟨fun hc=>(h _ hc).1 rfl,fun hc=>(h _ hc).2.1 rfl,fun hc=>(h _ hc).2.2.1 rfl,fun hc=>(h _ hc).2.2.2 rfl⟩
def Ma(p:List (List UInt8)):Option (Nat × List UInt8):=
 match p with
 |[a,b]=>(match Cw a with|some n=>if 1<=n/\n<=200/\Be b=true then some (n,b)else none|none=>none)
 |_=>none
def M7(p:List (List UInt8)):Option (Nat × List UInt8 × List UInt8):=
 match p with
 |[a,b,c]=>(match Cw a with|some n=>if 1<=n/\n<=200/\Be b=true then some (n,b,c)else none|none=>none)
 |_=>none
def Jo(st:UInt8)(s:List UInt8):Option Fd:=
 if st=69 then
  match Ma (Ak 58 (Dg 61 s).1)with
  |some (n,b)=>if (Dg 61 s).2.2=true then none else some ⟨n,b,Kd.nil,(Dg 61 s).2.1⟩
  |none=>none
 else
  match M7 (Ak 58 (Dg 61 s).1)with
  |some (n,b,c)=>(match Cx c with
   |some k=>if (Dg 61 s).2.2=true/\¬(st=82/\k.signs=[]/\Cc k.base (Dg 61 s).2.1=true)then none else some ⟨n,b,k,(Dg 61 s).2.1⟩
   |none=>none)
  |none=>none
def Ca(st:UInt8)(s:List UInt8):Option Fd:=
 if st=69 then
  match Ma (Ak 58 s)with
  |some (n,b)=>some ⟨n,b,Kd.nil,[]⟩
  |none=>none
 else
  match M7 (Ak 58 s)with
  |some (n,b,c)=>(match Ak 61 c with
   |[k]=>(match Cx k with|some k=>some ⟨n,b,k,[]⟩|none=>none)
   |[k,v]=>if st=82/\Cc k v=true then some ⟨n,b,⟨[],k,[]⟩,v⟩else none
   |_=>none)
  |none=>none
theorem Kf{p:List (List UInt8)}{n:Nat}{b:List UInt8}:Ma p=some (n,b)↔p=[Bb n,b]/\1<=n/\n<=200/\Be b=true:=by
 unfold Ma;constructor
 ·intro h;split at h
  ·rename_i a b';cases hd:Cw a with
   |none=>rw[hd]at h;cases h
   |some m=>
    rw[hd]at h;simp only at h;split at h
    ·rename_i hc;simp at h;obtain⟨rfl,rfl⟩:=h;rw[(Cj.1 hd).2];exact⟨rfl,hc⟩
    cases h
  cases h
 rintro⟨rfl,h⟩;have e:=Cj.2 ⟨(by omega:n<=999999),(rfl:Bb n=Bb n)⟩;simp only[e,if_pos h]
theorem G8{p:List (List UInt8)}{n:Nat}{b c:List UInt8}:M7 p=some (n,b,c)↔p=[Bb n,b,c]/\1<=n/\n<=200/\Be b=true:=by
 unfold M7;constructor
 ·intro h;split at h
  ·rename_i a b' c';cases hd:Cw a with
   |none=>rw[hd]at h;cases h
   |some m=>
    rw[hd]at h;simp only at h;split at h
    ·rename_i hc;simp at h;obtain⟨rfl,rfl,rfl⟩:=h;rw[(Cj.1 hd).2];exact⟨rfl,hc⟩
    cases h
  cases h
 rintro⟨rfl,h⟩;have e:=Cj.2 ⟨(by omega:n<=999999),(rfl:Bb n=Bb n)⟩;simp only[e,if_pos h]
theorem Py{k:List UInt8}(h:k=[110]\/k=[116]\/k=[102]):Cm ⟨[],k,[]⟩/\Bc ⟨[],k,[]⟩=k:=by
 rcases h with rfl|rfl|rfl<;>exact⟨⟨rfl,.inr ⟨by simp,rfl⟩,by decide⟩,by decide⟩
theorem Gs{st:UInt8}{s:List UInt8}{f:Fd}:Ca st s=some f↔S6 st f/\Kn st f=s:=by
 obtain⟨tg,nm,k,gv⟩:=f;unfold Ca;by_cases hst:st=69
 ·rw[if_pos hst];constructor
  ·intro h;cases hp:Ma (Ak 58 s)with
   |none=>rw[hp]at h;cases h
   |some x=>
    obtain⟨n,b⟩:=x;rw[hp]at h;simp at h;obtain⟨rfl,rfl,rfl,rfl⟩:=h;obtain⟨e,h1,h2,h3⟩:=Kf.1 hp;obtain⟨_,_,e2⟩:=Eb.1 e;exact⟨⟨h1,h2,h3,fun _=>⟨rfl,rfl⟩,fun h=>absurd hst h⟩,by rw[<-e2];simp[Kn,Jy,hst,Aw]⟩
  rintro⟨⟨h1,h2,h3,h4,_⟩,rfl⟩;obtain⟨e1,e2⟩:=h4 hst;simp only at h1 h2 h3 e1 e2;subst e1;subst e2
  have hs:Ak 58 (Kn st ⟨tg,nm,Kd.nil,[]⟩)=[Bb tg,nm]:=Eb.2 ⟨by simp,by
   intro p hp;simp at hp;rcases hp with rfl|rfl
   ·exact kG
   exact(Er (Ea h3)).2.2.1,by simp[Kn,Jy,hst,Aw]⟩
  rw[hs,Kf.2 ⟨rfl,h1,h2,h3⟩]
 rw[if_neg hst];constructor
 ·intro h;cases hp:M7 (Ak 58 s)with
  |none=>rw[hp]at h;cases h
  |some x=>
   obtain⟨n,b,c⟩:=x;rw[hp]at h;simp only at h;obtain⟨e,h1,h2,h3⟩:=G8.1 hp;obtain⟨_,_,e2⟩:=Eb.1 e;split at h
   ·rename_i k' hk;obtain⟨_,_,e3⟩:=Eb.1 hk;simp[Aw]at e3;subst e3;cases hkl:Cx k' with
    |none=>rw[hkl]at h;cases h
    |some kk=>
     rw[hkl]at h;simp at h;obtain⟨rfl,rfl,rfl,rfl⟩:=h;obtain⟨hk1,hk2⟩:=Fe.1 hkl;exact⟨⟨h1,h2,h3,fun h=>absurd h hst,fun _=>⟨hk1,fun h=>absurd rfl h⟩⟩,by rw[<-e2];simp[Kn,Jy,hst,Aw,hk2]⟩
   ·rename_i k' v hk;split at h
    ·rename_i hc;simp at h;obtain⟨rfl,rfl,rfl,rfl⟩:=h;obtain⟨_,_,e3⟩:=Eb.1 hk;obtain⟨hn,_⟩:=Na hc.2;obtain⟨o1,o2⟩:=Py (Pd hc.2);refine⟨⟨h1,h2,h3,fun h=>absurd h hst,fun _=>⟨o1,fun _=>⟨hc.1,rfl,hc.2⟩⟩⟩,?_⟩;rw[<-e2,<-e3];simp[Kn,Jy,hst,Aw,o2,hn]
    cases h
   cases h
 rintro⟨⟨h1,h2,h3,_,h4⟩,rfl⟩;obtain⟨hk,hg⟩:=h4 hst;simp only at h1 h2 h3 hk hg;by_cases hgv:gv=[]
 ·subst hgv
  have hs:Ak 58 (Kn st ⟨tg,nm,k,[]⟩)=[Bb tg,nm,Bc k]:=Eb.2 ⟨by simp,by
   intro p hp;simp at hp;rcases hp with rfl|rfl|rfl
   ·exact kG
   ·exact(Er (Ea h3)).2.2.1
   exact(Er (Kc hk)).2.2.1,by simp[Kn,Jy,hst,Aw]⟩
  rw[hs,G8.2 ⟨rfl,h1,h2,h3⟩];simp only;rw[G9 61 (Bc k) (Er (Kc hk)).2.2.2];simp only;rw[Fe.2 ⟨hk,rfl⟩]
 obtain⟨g1,g2,g3⟩:=hg hgv;obtain⟨_,hp⟩:=Na g3;have hb:=Pd g3;obtain⟨o1,o2⟩:=Py hb;have ek:k=⟨[],k.base,[]⟩:=by
  obtain⟨sg,b,nm'⟩:=k;simp only at g2 hb;subst g2;obtain⟨_,hbo,_⟩:=hk;rcases hbo with⟨h,_⟩|⟨_,h⟩
  ·exfalso
   simp only at h;rcases hb with hb|hb|hb<;>· rw[h]at hb;revert hb;decide
  simp only at h;rw[h]
 have eB:Bc k=k.base:=by rw[ek];exact o2
 have nb:∀c∈Bc k,Jm c:=Kc hk
 have hs:Ak 58 (Kn st ⟨tg,nm,k,gv⟩)=[Bb tg,nm,Bc k++61::gv]:=Eb.2 ⟨by simp,by
  intro p hp';simp at hp';rcases hp' with rfl|rfl|rfl
  ·exact kG
  ·exact(Er (Ea h3)).2.2.1
  intro hc;rcases ag.1 hc with hc|hc
  ·exact(Er nb).2.2.1 hc
  rcases aB.1 hc with hc|hc
  ·revert hc;decide
  exact(Er hp).2.2.1 hc,by simp[Kn,Jy,hst,Aw,hgv]⟩
 rw[hs,G8.2 ⟨rfl,h1,h2,h3⟩];simp only;rw[Mx 61 (Bc k) gv (Er nb).2.2.2,G9 61 gv (Er hp).2.2.2];simp only;rw[eB,if_pos ⟨g1,g3⟩,<-ek]
theorem Xa{st:UInt8}{s:List UInt8}{f:Fd}:Jo st s=some f↔S6 st f/\Kn st f=s:=by
 obtain⟨tg,nm,k,gv⟩:=f;constructor
 ·intro h;unfold Jo at h;by_cases hst:st=69
  ·rw[if_pos hst]at h;cases hp:Ma (Ak 58 (Dg 61 s).1)with
   |none=>rw[hp]at h;cases h
   |some x=>
    obtain⟨n,b⟩:=x;rw[hp]at h;simp only at h;obtain⟨e,h1,h2,h3⟩:=Kf.1 hp;obtain⟨_,_,e2⟩:=Eb.1 e;rcases Fv 61 s with⟨hn,hc⟩|⟨p,t,_,_,hc⟩
    ·rw[hc]at h e2;simp at h;obtain⟨rfl,rfl,rfl,rfl⟩:=h;exact⟨⟨h1,h2,h3,fun _=>⟨rfl,rfl⟩,fun h=>absurd hst h⟩,by simp only at e2;rw[<-e2];simp[Kn,Jy,hst,Aw]⟩
    rw[hc]at h;simp at h
  rw[if_neg hst]at h;cases hp:M7 (Ak 58 (Dg 61 s).1)with
  |none=>rw[hp]at h;cases h
  |some x=>
   obtain⟨n,b,c⟩:=x;rw[hp]at h;simp only at h;obtain⟨e,h1,h2,h3⟩:=G8.1 hp;obtain⟨_,_,e2⟩:=Eb.1 e;cases hkl:Cx c with
   |none=>rw[hkl]at h;cases h
   |some kk=>
    obtain⟨hk1,hk2⟩:=Fe.1 hkl;rw[hkl]at h;simp only at h;rcases Fv 61 s with⟨hn,hc⟩|⟨p,t,ec,_,hc⟩
    ·rw[hc]at h e2;simp at h;obtain⟨rfl,rfl,rfl,rfl⟩:=h;exact⟨⟨h1,h2,h3,fun h=>absurd h hst,fun _=>⟨hk1,fun h=>absurd rfl h⟩⟩,by simp only at e2;rw[<-e2];simp[Kn,Jy,hst,Aw,hk2]⟩
    rw[hc]at h e2;simp only at h e2;split at h
    ·cases h
    rename_i hcc;have hcc':st=82/\kk.signs=[]/\Cc kk.base t=true:=Decidable.byContradiction fun hh=>hcc ⟨trivial,hh⟩;simp at h;obtain⟨rfl,rfl,rfl,rfl⟩:=h;obtain⟨hn,_⟩:=Na hcc'.2.2;exact⟨⟨h1,h2,h3,fun h=>absurd h hst,fun _=>⟨hk1,fun _=>hcc'⟩⟩,by rw[ec,<-e2];simp[Kn,Jy,hst,Aw,hk2,hn]⟩
 intro h;have hS:=Gs.2 h;obtain⟨⟨h1,h2,h3,h4,h5⟩,rfl⟩:=h;simp only at h1 h2 h3 h4 h5;unfold Jo;by_cases hst:st=69
 ·obtain⟨e1,e2⟩:=h4 hst;subst e1;subst e2;have hno:61∉Kn st ⟨tg,nm,Kd.nil,[]⟩:=by
   simp[Kn,Jy,hst];exact⟨(Er (Fh tg)).2.2.2,(Er (Ea h3)).2.2.2⟩
  rw[if_pos hst,Ri hno];simp only
  have hs:Ak 58 (Kn st ⟨tg,nm,Kd.nil,[]⟩)=[Bb tg,nm]:=Eb.2 ⟨by simp,by
   intro p hp;simp at hp;rcases hp with rfl|rfl
   ·exact kG
   exact(Er (Ea h3)).2.2.1,by simp[Kn,Jy,hst,Aw]⟩
  rw[hs,Kf.2 ⟨rfl,h1,h2,h3⟩];simp
 obtain⟨hk,hg⟩:=h5 hst;have nb:∀c∈Bc k,Jm c:=Kc hk;have hno:61∉Bb tg++58::(nm++58::Bc k):=by
  simp;exact⟨(Er (Fh tg)).2.2.2,(Er (Ea h3)).2.2.2,(Er nb).2.2.2⟩
 have hs:Ak 58 (Bb tg++58::(nm++58::Bc k))=[Bb tg,nm,Bc k]:=Eb.2 ⟨by simp,by
  intro p hp;simp at hp;rcases hp with rfl|rfl|rfl
  ·exact kG
  ·exact(Er (Ea h3)).2.2.1
  exact(Er nb).2.2.1,by simp[Aw]⟩
 rw[if_neg hst];by_cases hgv:gv=[]
 ·subst hgv;have e:Kn st ⟨tg,nm,k,[]⟩=Bb tg++58::(nm++58::Bc k):=by simp[Kn,Jy,hst]
  rw[e,Ri hno];simp only;rw[hs,G8.2 ⟨rfl,h1,h2,h3⟩];simp only;rw[Fe.2 ⟨hk,rfl⟩];simp
 have e:Kn st ⟨tg,nm,k,gv⟩=(Bb tg++58::(nm++58::Bc k))++61::gv:=by simp[Kn,Jy,hst,hgv]
 rw[e,Ez hno];simp only;rw[hs,G8.2 ⟨rfl,h1,h2,h3⟩];simp only;rw[Fe.2 ⟨hk,rfl⟩];simp only;rw[if_neg (fun hh=>hh.2 (hg hgv))]
theorem Qhv(st:UInt8)(s:List UInt8):Jo st s=Ca st s:=by
 cases h:Ca st s with
 |some f=>exact Xa.2 (Gs.1 h)
 |none=>
  cases h2:Jo st s with
  |none=>rfl
  |some f=>rw[Gs.2 (Xa.1 h2)]at h;cases h
theorem Vn{st:UInt8}{f:Fd}(h:S6 st f):10∉Kn st f/\44∉Kn st f/\Kn st f≠[]:=by
 obtain⟨h1,h2,h3,h4,h5⟩:=h;have hd:=Td f.tag;refine⟨?_,?_,by unfold Kn;simp⟩;all_goals
  unfold Kn Jy;simp only[ag,aB,not_or];refine⟨?_,by decide,?_,?_⟩
  ·first|exact(Er (Fh f.tag)).1|exact(Er (Fh f.tag)).2.1
  ·first|exact(Er (Ea h3)).1|exact(Er (Ea h3)).2.1
  ·by_cases hst:st=69
   ·rw[if_pos hst];simp
   rw[if_neg hst];obtain⟨hk,hg⟩:=h5 hst;simp only[ag,aB,not_or];refine⟨by decide,?_,?_⟩
   ·first|exact(Er (Kc hk)).1|exact(Er (Kc hk)).2.1
   by_cases hgv:f.given=[]
   ·rw[if_pos hgv];simp
   rw[if_neg hgv];have hp:=(Na (hg hgv).2.2).2;simp only[aB,not_or];refine⟨by decide,?_⟩;first|exact(Er hp).1|exact(Er hp).2.1
theorem Qfu{st:UInt8}{f g:Fd}(hf:S6 st f)(hg:S6 st g)(h:Kn st f=Kn st g):f=g:=by
 have h1:=Gs.2 ⟨hf,rfl⟩;have h2:=Gs.2 ⟨hg,h.symm⟩;rw[h1]at h2;injection h2
theorem Qa0(n:Nat)(w:World)(hn:n<10):
  Calls prog 79 #[.int .i64 n] w fun e w'=>e=.returned (.string ⟨(Bb n).toArray⟩)/\Below w w w':=by
 have Hfin:=Aa (Ey hn);have hcv:=fun W=>Kx W w 1 (C9 (48+n));rw[Dd aI]at hcv;go_enter func79,ntmps79;go_wp2_with fail;exact kR
theorem Qec(n:Nat)(h10:¬n<10)(hn:n<=1000000000)(ih:∀W,Calls prog 79 #[.int .i64 ((n / 10:Nat):Int)] W fun e w'=>e=.returned (.string ⟨(Bb (n / 10)).toArray⟩)/\Below W W w')(w:World):
  Calls prog 79 #[.int .i64 n] w fun e w'=>e=.returned (.string ⟨(Bb n).toArray⟩)/\Below w w w':=by
 have Hfin:=Aa (N4 h10);have ih':=Aa ih;have hl:=Db 8 (n / 10) gD;clear ih;have hcv:=fun W g=>Kx W g 1 (C9 (48+n % 10));have h1:IntKind.u8.wrap (IntKind.i64.wrap (48+(n:Int).tmod 10))=((C9 (48+n % 10)).toNat:Int):=by
  rw[Dd aI,Int.tmod_eq_emod_of_nonneg aI,IntWalk.i64_in _ aI,IntWalk.u8_in _ aI];omega
 have h2:IntKind.i64.wrap ((n:Int) / 10)=((n / 10:Nat):Int):=by rw[IntWalk.i64_in _ aI];omega
 go_enter func79,ntmps79;go_wp2_with fail;go_region_with (go_at_call 79;refine(ih'.out _).mono ?_;rintro e w' ⟨rfl,hb⟩;obtain⟨hc,hf,hz⟩:=Ci hb)
 all_goals
  go_wp2
  go_ret;refine⟨by rw[Hfin.o];rfl,?_⟩;have hsz:=hb.size;repeat (first|exact Am _ _|refine Below.drew ?_|refine Below.alloc ?_ (by simp at hsz ⊢;first|omega|done) _|refine Below.trans ?_ (hb.mono aN))
theorem Gf:∀(k n:Nat) (w:World),n<=k->n<=1000000000 ->
  Calls prog 79 #[.int .i64 n] w fun e w'=>e=.returned (.string ⟨(Bb n).toArray⟩)/\Below w w w':=by
 intro k;induction k with
 |zero=>intro n w hn h;exact Qa0 n w aI
 |succ k ih=>
  intro n w hn h;by_cases h10:n<10
  ·exact Qa0 n w h10
  exact Qec n h10 h (fun W=>ih (n / 10) W aI aI) w
end
end Go.Proofs.YtpjijpcemejlnaaGreatDoor
