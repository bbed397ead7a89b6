/- Texts joined. Conditions: as each theorem names them. -/
import Derived.Test.YtmmhmlmfhpfgbaaGreatDoorProg
import Derived.WalkKit
import Derived.WalkSmall
import Derived.WalkSpells
import Derived.WalkLawsBesides
import Derived.Below
import Derived.Lib.Hide
import Derived.Lib.BufferRead
import Derived.Laws.BytesArg
import Derived.Deep.QuietTactic
import Derived.BigQuiet
import Derived.Handy
import Derived.Deep.DeepCutAuto
import Derived.Laws.BitsAllLaws
import Derived.Laws.BitsLemmas
import Derived.Deep.RegionWith
import Derived.Test.YtmmhmlmfhpfgbaaGreatDoorF00
set_option maxRecDepth 100000
set_option maxHeartbeats 32000000
set_option linter.unusedVariables false
set_option linter.unusedSimpArgs false
namespace Go.Proofs.YtmmhmlmfhpfgbaaGreatDoor
open Go.RowKit Go.Proofs.Tryz
theorem Qoe(l:List UInt8)(k:Nat)(h:k<(ByteArray.mk l.toArray).size):(ByteArray.mk l.toArray)[k]=l[k]'h:=rfl
theorem Qnf(l:List UInt8):(ByteArray.mk l.toArray).toList=l:=by
 have:(ByteArray.mk l.toArray).toList=(ByteArray.mk l.toArray).data.toList:=ByteArray.toList_eq _;rw[this]
theorem Qmu(l:List UInt8)(a b:Nat):(ByteArray.mk l.toArray).extract a b=⟨((l.drop a).take (b - a)).toArray⟩:=by
 apply ByteArray.ext;simp[ByteArray.data_extract]
theorem Qk2(l:List UInt8)(a:Nat):(l.drop a).take (l.length - a)=l.drop a:=au aK
theorem Qlj{k:IntKind}{a b:Int}(h:a=b):Ending.returned (.int k a)=.returned (.int k b):=by rw[h]
theorem Cb{α:Type}(l:List α)(k:Nat)(h:k<l.length):l.take (k+1)=l.take k++[l[k]]:=by
 rw[List.take_succ_eq_append_getElem h]
def Ep(l:List UInt8):List Value:=l.map fun c=>.int .u8 (c.toNat:Int)
def By(ls:List (List UInt8)):List Value:=ls.map fun l=>.string ⟨l.toArray⟩
theorem Rv(l:List UInt8):(Ep l).length=l.length:=by simp[Ep]
theorem Jp(l:List (List UInt8))(c:List UInt8):By (l++[c])=By l++[.string ⟨c.toArray⟩]:=by simp[By]
def B0(w:World)(A:Option Addr)(n:Nat)(xs:List Value):Prop:=
 xs.length=n/\n<=maxLen/\(0<n->∃b off,A=some ⟨b,off,none⟩/\b<w.heap.size/\∀j u,xs[j]?=some u->w.cell? ⟨b,off+j,none⟩=some u)
theorem B0.below{w w':World}{A:Option Addr}{n:Nat}{xs:List Value}(h:B0 w A n xs)(hb:Below w w w'):B0 w' A n xs:=by
 refine⟨h.1,h.2.1,fun hn=>?_⟩;obtain⟨b,off,e,hlt,hc⟩:=h.2.2 hn;exact⟨b,off,e,ac hlt hb.size,fun j u hu=>(hb.cell (p:=⟨b,off+j,none⟩) hlt).trans (hc j u hu)⟩
theorem B0.drew{w:World}{A:Option Addr}{n:Nat}{xs:List Value}(h:B0 w A n xs):B0 w.drew A n xs:=h
theorem B0.alloc{w:World}{A:Option Addr}{n:Nat}{xs:List Value}(h:B0 w A n xs)(o:Obj):B0 (w.alloc o) A n xs:=h.below ((Below.refl _ _).alloc (Nat.le_refl _) o)
theorem B0.at_{w:World}{A:Option Addr}{n:Nat}{xs:List Value}(h:B0 w A n xs){k:Nat}(hk:k<n):
  ∃b off,A=some ⟨b,off,none⟩/\b<w.heap.size/\w.cell? ⟨b,off+k,none⟩=some (xs[k]'(by have:=h.1;omega)):=by
 obtain⟨b,off,e,hlt,hc⟩:=h.2.2 aH;exact⟨b,off,e,hlt,hc k _ (List.getElem?_eq_getElem _)⟩
theorem B0.own{w:World}{base:Nat}{e:TypeId}{v:Value}{n:Nat}{xs:List Value}(h:w.ownsRow base e 1 v n xs):∃A c,v=.slice A n c/\B0 w A n xs:=by
 have h1:=h.1;rcases h.2 with⟨rfl,rfl⟩|⟨g,cap,cur,rfl,hb,hh,hnc,hcm,hcs,htk⟩
 ·exact⟨none,0,rfl,by omega,ag _,fun h=>absurd h aH⟩
 refine⟨some ⟨g,0,none⟩,cap,rfl,by omega,by omega,fun hn=>⟨g,0,rfl,(h.lt g rfl).2,fun j u hu=>?_⟩⟩;have:=h.cells (g:=g) rfl j u hu;have e1:(⟨g,0,none⟩:Addr).add j=⟨g,0+j,none⟩:=bD;rwa [e1]at this
theorem Ct{w w1:World}{base:Nat}{e:TypeId}{size:Nat}{v:Value}{n:Nat}{xs:List Value}(h:w.ownsRow base e size v n xs)(hb:Below w w w1):w1.ownsRow base e size v n xs:=
 h.kept (row:=none) ⟨hb.os,hb.tape,hb.output,hb.size,fun k hk _=>hb.block k hk⟩ (by
  cases v with
  |slice A a b=>cases A with
   |none=>exact .inl rfl
   |some x=>exact .inr fY
  |_=>exact .inl rfl)
section
variable {P:Program}
theorem Nm(w:World){ops:Array Oper}{rest:List Oper}{o:Oper}{a:Act}{Q:Exit->Act->World->Prop}(hgd:o.guard=none)(s x:Operand)(t:TypeId)
  (ho:o.op=.call {callee:=.builtin .append,args:=#[s,x],argTypes:=#[t,t]})
  (base:Nat) (e:TypeId) (z:Value) (bytes:Nat) (ht:P.underlying t=some (.slice e)) (hinfo:(P.info? e).map (fun i=>(i.zero,i.size,i.bytes))=some (some z,1,bytes))
  (hzs:z.cells.size=1) (W:World) (u:Value) (hw:w=W.alloc (.cells #[u] e)) (hu:u.oneCell'=true) (v:Value) (n:Nat) (xs:List Value) (hs:a.eval s=v) (hx:a.eval x=.slice (W,0) 1 1)
  (hown:W.ownsRow base e 1 v n xs)
  (h63:n+1<=maxLen) (hbytes:(n+1)*bytes<=140737488355328) (hbase:base<=W.heap.size)
  (h:∀v' w',w'.ownsRow base e 1 v' (n+1) (xs++[u])->Below base W w'->wpList P ops Q rest (a.put o.dst v') w'):wpList P ops Q (o::rest) a w:=by
 subst hw;obtain⟨i0,hi,hz0,hz1,hz2⟩:=info_parts hinfo;refine wpList_append_own _ hgd s x t ho base e i0 z 1 bytes ht hi hz0 hz1 hz2 hzs aJ v n xs hs (hown.alloc _) ⟨W.heap.size,0,none⟩ 1 1 [u] hx rfl ?_ ?_ h63 hbytes ?_ ?_
 ·intro j y hj;match j,hj with
  |0,hj=>simp at hj;subst hj;simp[Addr.add,World.cell?_alloc_new]
 ·intro y hy;simp at hy;subst hy;exact hu
 ·have:(W.alloc (.cells #[u] e)).heap.size=W.heap.size+1:=aK;omega
 intro v' w' h1 h2 _;exact h v' w' h1 (((Below.refl base W).alloc hbase _).grown h2 aM (fun k hk=>(hown.lt k hk).1))
theorem Qjd(W:World)(src e dst:TypeId)(hs:P.underlying src=some (.slice e))(he:P.underlying e=some (.int .u8))(hd:P.underlying dst=some .string)
  (g c:Nat) (b:UInt8) (hc:W.cell? (g,0)=some (.int .u8 (b.toNat:Int))):(convert src dst (.slice (g,0) 1 c)).run P W=.ok (.string ⟨[b].toArray⟩) W:=by
 have h:=run_convert_bytes_arg (P:=P) W src e hs he g 0 1 c [(b.toNat:Int)] rfl (fun i hi=>by
  obtain rfl:i=0:=aH;simpa using hc) dst hd
 rw[h];simp[strOfNums]
end
theorem Kz(W:World)(g c:Nat)(b:UInt8)(hc:W.cell? (g,0)=some (.int .u8 (b.toNat:Int))):
  (convert 22 9 (.slice (g,0) 1 c)).run prog W=.ok (.string ⟨[b].toArray⟩) W:=
 Qjd W 22 5 9 underlying22 underlying5 underlying9 g c b hc
theorem Cj{W w1:World}(hb:Below W.heap.size W w1):(∀b o,b<W.heap.size->w1.cell? ⟨b,o,none⟩=W.cell? ⟨b,o,none⟩)/\(∀b o,b<W.heap.size->w1.frozen? ⟨b,o,none⟩=W.frozen? ⟨b,o,none⟩)/\(∀b,b<W.heap.size->b<w1.heap.size):=
 ⟨fun b o h=>hb.cell (p:=⟨b,o,none⟩) h,fun b o h=>hb.frozen (p:=⟨b,o,none⟩) h,fun _ h=>ac h hb.size⟩
theorem Po:(prog.info? 9).map (fun i=>(i.zero,i.size,i.bytes))=some (some (.string ⟨#[]⟩),1,16):=aN
theorem Ac:True:=True.intro
theorem Aa{p:Prop}(h:p):Hid p:=h
theorem An(n:Nat):n<=n:=Nat.le_refl n
theorem _root_.Go.RowKit.Hid.o{p:Prop}(h:Hid p):p:=h
theorem Ao(n:Nat)(w:World):Below n w w:=Below.refl n w
theorem Em{a a':Value}(h:a=a'):Ending.returned a=.returned a':=by rw[h]
theorem Qlv{a b a' b':Value}(h1:a=a')(h2:b=b'):Ending.returned (.tuple #[a,b])=.returned (.tuple #[a',b']):=by rw[h1,h2]
theorem Qol{a b c a' b' c':Value}(h1:a=a')(h2:b=b')(h3:c=c'):Ending.returned (.tuple #[a,b,c])=.returned (.tuple #[a',b',c']):=by rw[h1,h2,h3]
theorem Qlb{k:IntKind}{x y:Int}(h:x=y):Value.int k x=.int k y:=by rw[h]
theorem Qku{x y:List UInt8}(h:x=y):Value.string ⟨x.toArray⟩=y:=by rw[h]
theorem Cz{x y:Bool}(h:x=y):Value.bool x=.bool y:=by rw[h]
def Fg(w:World)(g p:Nat):Prop:=
 ∃A n c l,w.heap[g]?=some (.cells #[.slice A n c,(p:Int)] 120 (0,0))/\B0 w A n (Ep l)/\n<=2000/\∀b off,A=some ⟨b,off,none⟩->0<n->b<g
theorem Fg.lt{w:World}{g p:Nat}(h:Fg w g p):g<w.heap.size:=by
 obtain⟨A,n,c,l,hh,_⟩:=h;rcases aG g w.heap.size with h1|h1
 ·exact h1
 rw[Array.getElem?_eq_none h1]at hh;cases hh
theorem Fg.below{w w':World}{g p:Nat}(h:Fg w g p)(hb:Below w w w'):Fg w' g p:=by
 have hlt:=h.lt;obtain⟨A,n,c,l,hh,hr,h2,h3⟩:=h;exact⟨A,n,c,l,(hb.block g hlt).trans hh,hr.below hb,h2,h3⟩
theorem Fg.belowg{w w':World}{g p:Nat}(h:Fg w g p)(hb:Below (g+1) w w')(hs:w.heap.size<=w'.heap.size):Fg w' g p:=by
 obtain⟨A,n,c,l,hh,hr,h2,h3⟩:=h;refine⟨A,n,c,l,(hb.block g aH).trans hh,⟨hr.1,hr.2.1,fun hn=>?_⟩,h2,h3⟩;obtain⟨b,off,e,hlt,hc⟩:=hr.2.2 hn;have:=h3 b off e hn;exact⟨b,off,e,ac hlt hs,fun j u hu=>(hb.cell (p:=⟨b,off+j,none⟩) (by show b<g+1;omega)).trans (hc j u hu)⟩
theorem B0.grown{w w':World}{g:Nat}{A:Option Addr}{n:Nat}{xs:List Value}(h:B0 w A n xs)(hg:w.grownBy w' (some g))(hne:∀b off,A=some ⟨b,off,none⟩->0<n->b≠g):B0 w' A n xs:=by
 refine⟨h.1,h.2.1,fun hn=>?_⟩;obtain⟨b,off,e,hlt,hc⟩:=h.2.2 hn;refine⟨b,off,e,ac hlt hg.size,fun j u hu=>?_⟩;exact(World.cell?_of_block (a:=⟨b,off+j,none⟩) (hg.block b hlt (fun h=>hne b off e hn (Option.some.inj h)))).trans (hc j u hu)
theorem Qds(a b:Nat)(ha:a<4611686018427387904)(hb:b<4611686018427387904):bits .xor .i64 (a:Int) (b:Int)=((a ^^^ b:Nat):Int)/\a ^^^ b<4611686018427387904:=by
 have hx:a ^^^ b<2 ^ 62:=Nat.xor_lt_two_pow aH aH;refine⟨?_,hx⟩;show IntKind.i64.wrap ((BitVec.ofInt 64 (a:Int) ^^^ BitVec.ofInt 64 (b:Int)).toNat:Int)=_;have ho:∀a:Nat,a<4611686018427387904->(BitVec.ofInt 64 (a:Int)).toNat=a:=fun a ha=>by
  rw[BitVec.ofInt_natCast,BitVec.toNat_ofNat];exact Nat.mod_eq_of_lt aH
 rw[BitVec.toNat_xor,ho a ha,ho b hb,IntKind.wrap_i64];omega
def N5(w:World)(g p:Nat)(l:List UInt8):Prop:=
 ∃A n c,w.heap[g]?=some (.cells #[.slice A n c,(p:Int)] 120 (0,0))/\B0 w A n (Ep l)/\n<=2000/\∀b off,A=some ⟨b,off,none⟩->0<n->b<g
theorem Fg.known{w:World}{g p:Nat}(h:Fg w g p):∃l,N5 w g p l:=by
 obtain⟨A,n,c,l,h⟩:=h;exact⟨l,A,n,c,h⟩
theorem N5.any{w:World}{g p:Nat}{l:List UInt8}(h:N5 w g p l):Fg w g p:=by
 obtain⟨A,n,c,h⟩:=h;exact⟨A,n,c,l,h⟩
theorem N5.below{w w':World}{g p:Nat}{l:List UInt8}(h:N5 w g p l)(hb:Below w w w'):N5 w' g p l:=by
 have hlt:=h.any.lt;obtain⟨A,n,c,hh,hr,h2,h3⟩:=h;exact⟨A,n,c,(hb.block g hlt).trans hh,hr.below hb,h2,h3⟩
theorem Qb8{l:List UInt8}{i:Nat}(h:i<l.length):l.getD i 0=l[i]:=by simp[List.getD,h]
def Xb(l:List UInt8)(p:Nat)(n:Int):Nat:=
 if n<1\/l.length=0 then 0
 else if p<l.length then(((l.getD p 0).toNat:Int) % n).toNat
 else((((((l.getD (p % l.length) 0).toNat*131+(l.getD ((p*7+3) % l.length) 0).toNat*1117+p*29+p / l.length*53) ^^^ (((l.getD (p % l.length) 0).toNat*131+(l.getD ((p*7+3) % l.length) 0).toNat*1117+p*29+p / l.length*53) / 64):Nat):Int)) % n).toNat
theorem Qdv(l:List UInt8)(p:Nat)(n:Int):(1<=n->(Xb l p n:Int)<n)/\(n<1->Xb l p n=0):=by
 unfold Xb;refine⟨fun h=>?_,fun h=>if_pos (.inl h)⟩;have e:=fun x:Int=>And.intro (Int.emod_nonneg x (show n≠0 by omega)) (Int.emod_lt_of_pos x (show 0<n by omega));split
 ·omega
 split
 ·have:=e ((l.getD p 0).toNat:Int);omega
 rename_i h1 h2;have:=e (((((l.getD (p % l.length) 0).toNat*131+(l.getD ((p*7+3) % l.length) 0).toNat*1117+p*29+p / l.length*53) ^^^ (((l.getD (p % l.length) 0).toNat*131+(l.getD ((p*7+3) % l.length) 0).toNat*1117+p*29+p / l.length*53) / 64):Nat):Int));omega
def Qd2(w:World)(g p:Nat)(w':World):Prop:=∃k,w'=(w.setCell ⟨g,1,none⟩ (.int .i64 ((p:Int)+1))).drewN k
def Qi0(w:World)(g p:Nat)(n:Int)(e:Ending)(w':World):Prop:=
 ∃x:Nat,e=.returned (x:Int)/\(1<=n->(x:Int)<n)/\(n<1->x=0)/\Fg w' g (p+1)/\w.grownBy w' (some g)
theorem Pj{w:World}{g p:Nat}{l:List UInt8}(h:N5 w g p l)(k:Nat):N5 ((w.setCell ⟨g,1,none⟩ (.int .i64 ((p:Int)+1))).drewN k) g (p+1) l/\w.grownBy ((w.setCell ⟨g,1,none⟩ (.int .i64 ((p:Int)+1))).drewN k) (some g):=by
 obtain⟨A,n,c,hh,hr,h2,h3⟩:=h;have hg:w.grownBy (w.setCell ⟨g,1,none⟩ (.int .i64 ((p:Int)+1))) (some g):=
  ⟨rfl,rfl,rfl,by simp,fun k _ hk=>heap_setCell_other w ⟨g,1,none⟩ k _ (fun e=>hk (by simp[e]))⟩
 have hg':w.grownBy ((w.setCell ⟨g,1,none⟩ (.int .i64 ((p:Int)+1))).drewN k) (some g):=⟨hg.os,hg.tape,hg.output,hg.size,hg.block⟩
 refine⟨⟨A,n,c,?_,hr.grown hg' (fun b off e hn=>Nat.ne_of_lt (h3 b off e hn)),h2,h3⟩,hg'⟩;have:=heap_setCell_same w g 1 _ _ (.int .i64 ((p:Int)+1)) hh;have e:((p+1:Nat):Int)=(p:Int)+1:=aH;rw[e];exact this
theorem Qcv(g p:Nat)(l:List UInt8)(n:Int)(w:World)(h:N5 w g p l)(hp:p<=1000000000)(hn:n<=1000000000)(hn0:-1000000000<=n):
  Calls prog 40 #[g,.int .i64 n] w fun e w'=>e=.returned (.int .i64 (Xb l p n:Int))/\Qd2 w g p w':=by
 obtain⟨N,hN⟩:∃N,N=Xb l p n:=⟨_,rfl⟩
 rw[<-hN];unfold Xb at hN;obtain⟨A,m,c,hh,hr,h2,h3⟩:=h;have hl0:l.length=m:=by have:=hr.1;simpa [Ep]using this
 rw[hl0]at hN;have HN:=Aa hN;clear hN;have hc0:w.cell? (g,0)=some (.slice A m c):=by simp[World.cell?,hh]
 have hc1:w.cell? (g,1)=(p:Int):=by simp[World.cell?,hh]
 have hf:w.frozen? (g,1)=false:=by simp[World.frozen?,hh]
 have Hh:=Aa hh;clear hh;by_cases hn1:n<1
 ·have H3:=Aa h3;clear h3;go_enter func40,ntmps40;go_wp2
  go_ret;exact⟨by rw[HN.o,if_pos (.inl hn1)];rfl,0,rfl⟩
 by_cases hm:m=0
 ·have H3:=Aa h3;clear h3;subst hm;go_enter func40,ntmps40;go_wp2
  go_ret;exact⟨by rw[HN.o];simp,0,rfl⟩
 have hm1:0<m:=aH;have tm:((m:Int) == 0)=false:=aM;have hl:l.length=m:=by have:=hr.1;simpa [Ep]using this
 by_cases hk:p<m
 ·obtain⟨b,o,rfl,hb,hx⟩:=hr.at_ hk;have hbg:b≠g:=Nat.ne_of_lt (h3 b o rfl hm1);have hx':w.cell? ⟨b,o+p,none⟩=some (.int .u8 ((l[p]' aH).toNat:Int)):=by rw[hx];simp[Ep]
  have hlt:=(l[p]' aH).toNat_lt;have HN:=@Aa (N=(((l[p]'(show p<l.length by omega)).toNat:Int) % n).toNat) (by rw[HN.o,if_neg aH,if_pos aH,Qb8 (show p<l.length by omega)]);generalize (l[p]'(show p<l.length by omega)).toNat=y at hx' hlt HN;clear hx h3 tm;have tm:((m:Int) == 0)=false:=aM;have i1:(0:Int)<=(p:Int):=aH;have i2:(p:Int)<(m:Int):=aH;go_enter func40,ntmps40;go_wp2
  go_ret;have hn':(0:Int)<n:=aH;have e1:=Int.emod_nonneg (y:Int) (show n≠0 by omega);have e2:=Int.emod_lt_of_pos (y:Int) hn';exact⟨Em (Qlb (by rw[HN.o];omega)),0,rfl⟩
 obtain⟨b,o,rfl,hb,hcell⟩:=hr.2.2 hm1;have hbg:b≠g:=Nat.ne_of_lt (h3 b o rfl hm1);have m1:p % m<m:=Nat.mod_lt _ hm1;have m2:(p*7+3) % m<m:=Nat.mod_lt _ hm1;have hx1:=hcell (p % m) _ (List.getElem?_eq_getElem (show p % m<(Ep l).length by rw[Rv];omega));have hx2:=hcell ((p*7+3) % m) _ (List.getElem?_eq_getElem (show (p*7+3) % m<(Ep l).length by rw[Rv];omega));simp only[Ep,List.getElem_map]at hx1 hx2;have hlt1:=(l[p % m]' aH).toNat_lt;have hlt2:=(l[(p*7+3) % m]' aH).toNat_lt;have hN2:=HN.o;rw[if_neg aH,if_neg aH,Qb8 (show p % m<l.length by omega),Qb8 (show (p*7+3) % m<l.length by omega)]at hN2;have HN:=Aa hN2;clear hN2;generalize (l[p % m]'(show p % m<l.length by omega)).toNat=y1 at hx1 hlt1 HN;generalize (l[(p*7+3) % m]'(show (p*7+3) % m<l.length by omega)).toNat=y2 at hx2 hlt2 HN;have M1:((p:Int).tmod m)=((p % m:Nat):Int):=by rw[Int.tmod_eq_emod_of_nonneg aH];omega
 have M2:(((p:Int)*7+3).tmod m)=(((p*7+3) % m:Nat):Int):=by rw[Int.tmod_eq_emod_of_nonneg aH];simp
 have M3:((p:Int).tdiv m)=((p / m:Nat):Int):=by rw[Int.tdiv_eq_ediv_of_nonneg aH];omega
 have m3:p / m<=p:=Nat.div_le_self _ _;generalize p % m=k1 at M1 hx1 m1;generalize (p*7+3) % m=k2 at M2 hx2 m2;generalize p / m=k3 at M3 m3 HN;have a1:IntKind.i64.wrap ((y1:Int)*131)=(y1:Int)*131:=IntWalk.i64_in _ aH;have a2:IntKind.i64.wrap ((y2:Int)*1117)=(y2:Int)*1117:=IntWalk.i64_in _ aH;have a3:IntKind.i64.wrap ((y1:Int)*131+(y2:Int)*1117)=(y1:Int)*131+(y2:Int)*1117:=IntWalk.i64_in _ aH;have a4:IntKind.i64.wrap ((p:Int)*29)=(p:Int)*29:=IntWalk.i64_in _ aH;have a5:IntKind.i64.wrap ((y1:Int)*131+(y2:Int)*1117+(p:Int)*29)=(y1:Int)*131+(y2:Int)*1117+(p:Int)*29:=IntWalk.i64_in _ aH;have a7:IntKind.i64.wrap ((k3:Int)*53)=(k3:Int)*53:=IntWalk.i64_in _ aH;have a9:IntKind.i64.wrap ((p:Int)*7)=(p:Int)*7:=IntWalk.i64_in _ aH;have a10:IntKind.i64.wrap ((p:Int)*7+3)=(p:Int)*7+3:=IntWalk.i64_in _ aH;obtain⟨z,a8,hz,hze⟩:∃z:Nat,IntKind.i64.wrap ((y1:Int)*131+(y2:Int)*1117+(p:Int)*29+(k3:Int)*53)=(z:Int)/\z<4611686018427387904/\z=y1*131+y2*1117+p*29+k3*53:=
  ⟨y1*131+y2*1117+p*29+k3*53,by rw[IntWalk.i64_in _ aH];omega,by omega,rfl⟩
 rw[<-hze]at HN;clear hze;obtain⟨hx,hxl⟩:=Qds z (z / 64) hz aH;generalize z ^^^ (z / 64)=x at *;rw[show ((z / 64:Nat):Int)=(z:Int) / 64 from by omega]at hx;clear hcell h3 hm hr;have i1:(0:Int)<=(p:Int):=aH;have i2:(0:Int)<(m:Int):=aH;have i3:(0:Int)<=(k1:Int):=aH;have i4:(k1:Int)<(m:Int):=aH;have i5:(0:Int)<=(k2:Int):=aH;have i6:(k2:Int)<(m:Int):=aH;have j1:(0:Int)<=(z:Int):=aH;have j2:(0:Int)<=(x:Int):=aH;go_enter func40,ntmps40;go_wp2
 go_quiet (fail)
 clear a1 a2 a3 a4 a5 a7 a9 a10 a8 M1 M2 M3;go_wp2
 go_ret;have hn':(0:Int)<n:=aH;have e1:=Int.emod_nonneg (x:Int) (show n≠0 by omega);have e2:=Int.emod_lt_of_pos (x:Int) hn';exact⟨Em (Qlb (by rw[HN.o];omega)),_,rfl⟩
theorem Bs(g p:Nat)(n:Int)(w:World)(h:Fg w g p)(hp:p<=1000000000)(hn:n<=1000000000)(hn0:-1000000000<=n):
  Calls prog 40 #[g,.int .i64 n] w (Qi0 w g p n):=by
 obtain⟨l,h⟩:=h.known;refine(Qcv g p l n w h hp hn hn0).mono ?_;rintro e w' ⟨rfl,k,rfl⟩;obtain⟨h1,h2⟩:=Qdv l p n;exact⟨_,rfl,h1,h2,(Pj h k).1.any,(Pj h k).2⟩
theorem Qgy{w:World}{A:Option Addr}{n c:Nat}{l:List UInt8}(h:B0 w A n (Ep l))(hn:n<=2000):Fg (w.alloc (.cells #[.slice A n c,.int .i64 0] 120)) w 0:=by
 refine⟨A,n,c,l,heap_alloc_new w _,h.alloc _,hn,fun b off e hpos=>?_⟩;obtain⟨b',off',e',hlt,_⟩:=h.2.2 hpos;rw[e]at e';injection e' with e';injection e' with e1;subst e1;omega
theorem B0.take{w:World}{A:Option Addr}{n:Nat}{l:List UInt8}(h:B0 w A n (Ep l))(k:Nat)(hk:k<=n):B0 w A k (Ep (l.take k)):=by
 have hl:l.length=n:=by have:=h.1;simpa [Ep]using this
 refine⟨by simp[Ep];omega,ad hk h.2.1,fun h0=>?_⟩;obtain⟨b,off,e,hlt,hc⟩:=h.2.2 aH;refine⟨b,off,e,hlt,fun j u hu=>hc j u ?_⟩;have hj:j<k:=by
  have:=(List.getElem?_eq_some_iff.1 hu).1;simp[Ep]at this;omega
 simpa [Ep,List.getElem?_take,hj]using hu
theorem Qe3(A:Option Addr)(n c:Nat)(l:List UInt8)(w:World)(h:B0 w A n (Ep l))(hc:n<=c)(hcm:c<=maxLen):
  Calls prog 37 #[.slice A n c] w fun e w'=>∃g,e=.returned (.pointer (some ⟨g,0,none⟩))/\Fg w' g 0/\w.heap.size<=g/\Below w w w':=by
 unfold maxLen at hcm;by_cases hn:n<=2000
 ·go_enter func37,ntmps37;go_wp2
  go_goals
  go_ret;exact⟨w.heap.size,rfl,Qgy h hn,An _,(Ao _ _).alloc (An _) _⟩
 go_enter func37,ntmps37;go_wp2
 go_goals
 go_ret;exact⟨w.heap.size,rfl,Qgy (h.take 2000 aH) (An _),An _,(Ao _ _).alloc (An _) _⟩
def C5(n:Nat):UInt8:=UInt8.ofNat n
theorem Df{n:Nat}(h:n<256):(C5 n).toNat=n:=by unfold C5;exact UInt8.toNat_ofNat_of_lt' h
def J3(c:UInt8):Bool:=decide (97<=c.toNat) && decide (c.toNat<=122)
def Bl(c:UInt8):Bool:=decide (48<=c.toNat) && decide (c.toNat<=57)
def Be(s:List UInt8):Bool:=decide (1<=s.length) && decide (s.length<=3) && s.all J3
theorem Dv{c:UInt8}:Bl c=true↔48<=c.toNat/\c.toNat<=57:=by simp[Bl]
theorem Nw{c:UInt8}:J3 c=true↔97<=c.toNat/\c.toNat<=122:=by simp[J3]
theorem Ds{s:List UInt8}:Be s=true↔1<=s.length/\s.length<=3/\∀c∈s,J3 c=true:=by
 simp[Be,and_assoc]
def Ba(n:Nat):List UInt8:=if h:n<10 then[C5 (48+n)]else Ba (n / 10)++[C5 (48+n % 10)]
termination_by n
decreasing_by omega
theorem E9{n:Nat}(h:n<10):Ba n=[C5 (48+n)]:=by rw[Ba,dif_pos h]
theorem Pa{n:Nat}(h:¬n<10):Ba n=Ba (n / 10)++[C5 (48+n % 10)]:=by rw[Ba,dif_neg h]
def Gv(s:List UInt8):Nat:=s.foldl (fun n c=>10*n+(c.toNat - 48)) 0
theorem Mf(s:List UInt8)(c:UInt8):Gv (s++[c])=10*Gv s+(c.toNat - 48):=by simp[Gv,List.foldl_append]
theorem Qky:Gv []=0:=rfl
def Cx(s:List UInt8):Option Nat:=
 if 1<=s.length/\s.length<=6/\s.all Bl=true/\(s.head?≠some 48\/s.length=1)then some (Gv s)else none
theorem Fk{α:Type}(s:List α):s=[]\/∃t c,s=t++[c]:=by
 rcases s.eq_nil_or_concat with h|⟨t,c,h⟩
 ·exact .inl h
 exact .inr ⟨t,c,by simpa using h⟩
theorem Yg:∀(k:Nat) (s:List UInt8),s.length=k->s.all Bl=true->Gv s<10 ^ k
 |0,s,h,_=>by
  obtain rfl:=List.eq_nil_of_length_eq_zero h;simp[Gv]
 |k+1,s,h,ha=>by
  rcases Fk s with rfl|⟨t,c,rfl⟩
  ·simp at h
  simp at h;simp only[List.all_append,aw,List.all_cons,List.all_nil,Bool.and_true]at ha;have ih:=Yg k t h ha.1;have hc:=Dv.1 ha.2;rw[Mf,Nat.pow_succ];omega
theorem Qcz:∀(k:Nat) (s:List UInt8),s.length=k->s≠[]->s.all Bl=true->s.head?≠some 48->0<Gv s
 |0,s,h,hn,_,_=>absurd (List.eq_nil_of_length_eq_zero h) hn
 |k+1,s,h,hn,ha,hh=>by
  rcases Fk s with rfl|⟨t,c,rfl⟩
  ·exact absurd rfl hn
  simp at h;simp only[List.all_append,aw,List.all_cons,List.all_nil,Bool.and_true]at ha;have hc:=Dv.1 ha.2;rw[Mf];by_cases ht:t=[]
  ·subst ht;simp at hh;have:c.toNat≠48:=fun e=>hh (UInt8.toNat_inj.1 e);omega
  have hh':t.head?≠some 48:=by
   cases t with
   |nil=>exact absurd rfl ht
   |cons a t=>simpa using hh
  have:=Qcz k t h ht ha.1 hh';omega
theorem Qay:∀(k:Nat) (s:List UInt8),s.length=k->s≠[]->s.all Bl=true->(s.head?≠some 48\/s.length=1)->Ba (Gv s)=s
 |0,s,h,hn,_,_=>absurd (List.eq_nil_of_length_eq_zero h) hn
 |k+1,s,h,hn,ha,hh=>by
  rcases Fk s with rfl|⟨t,c,rfl⟩
  ·exact absurd rfl hn
  simp at h;simp only[List.all_append,aw,List.all_cons,List.all_nil,Bool.and_true]at ha;have hc:=Dv.1 ha.2;have hc2:C5 (48+(c.toNat - 48))=c:=by
   apply UInt8.toNat_inj.1;rw[Df aH];omega
  rw[Mf];by_cases ht:t=[]
  ·subst ht;rw[Qky,E9 aH];simp[hc2]
  have hl:0<t.length:=List.length_pos_iff.2 ht;have hh1:t.head?≠some 48:=by
   cases t with
   |nil=>exact absurd rfl ht
   |cons a t=>rcases hh with hh|hh<;>simp at hh ⊢<;>first|exact hh|omega
  have hp:=Qcz t.length t rfl ht ha.1 hh1;have ih:=Qay k t h ht ha.1 (.inl hh1);rw[Pa aH];have e1:(10*Gv t+(c.toNat - 48)) / 10=Gv t:=aH;have e2:(10*Gv t+(c.toNat - 48)) % 10=c.toNat - 48:=aH;rw[e1,e2,ih,hc2]
theorem Mp:∀(k n:Nat),n<=k->Ba n≠[]/\(Ba n).all Bl=true/\Gv (Ba n)=n/\((Ba n).head?≠some 48\/n=0)/\(n<10->(Ba n).length=1)/\(10<=n->2<=(Ba n).length)
 |0,n,h=>by
  obtain rfl:n=0:=aH;rw[E9 aH];refine⟨by simp,by decide,by decide,.inr rfl,fun _=>rfl,fun h=>by omega⟩
 |k+1,n,h=>by
  by_cases hn:n<10
  ·rw[E9 hn];have e:(C5 (48+n)).toNat=48+n:=Df aH;refine⟨by simp,by simp[Dv,e];omega,?_,?_,fun _=>rfl,fun h=>by omega⟩
   ·show 10*0+((C5 (48+n)).toNat - 48)=n;omega
   by_cases h0:n=0
   ·exact .inr h0
   refine .inl ?_;intro hh;simp at hh;have:=congrArg UInt8.toNat hh;rw[e]at this;have h48:(48:UInt8).toNat=48:=rfl;omega
  obtain⟨i1,i2,i3,i4,_,_⟩:=Mp k (n / 10) aH;have e:(C5 (48+n % 10)).toNat=48+n % 10:=Df aH;have hl:0<(Ba (n / 10)).length:=List.length_pos_iff.2 i1;rw[Pa hn];refine⟨by simp,?_,?_,?_,fun h=>absurd h hn,fun _=>by simp;omega⟩
  ·simp only[List.all_append,aw,List.all_cons,List.all_nil,Bool.and_true];exact⟨i2,Dv.2 aH⟩
  ·rw[Mf,i3,e];omega
  refine .inl ?_;have e1:(Ba (n / 10)++[C5 (48+n % 10)]).head?=(Ba (n / 10)).head?:=by
   cases hd:Ba (n / 10)with
   |nil=>exact absurd hd i1
   |cons a t=>rfl
  rw[e1];rcases i4 with h|h
  ·exact h
  omega
theorem Tm(n:Nat):Ba n≠[]:=(Mp n n (Nat.le_refl _)).1
theorem Nt(n:Nat):(Ba n).all Bl=true:=(Mp n n (Nat.le_refl _)).2.1
theorem Rk(n:Nat):Gv (Ba n)=n:=(Mp n n (Nat.le_refl _)).2.2.1
theorem Qis(n:Nat):(Ba n).head?≠some 48\/(Ba n).length=1:=by
 obtain⟨_,_,_,h4,h5,_⟩:=Mp n n (Nat.le_refl _);rcases h4 with h|h
 ·exact .inl h
 exact .inr (h5 aH)
theorem Qks{m n:Nat}(h:Ba m=Ba n):m=n:=by rw[<-Rk m,h,Rk]
theorem Da:∀(k n:Nat),n<10 ^ (k+1)->(Ba n).length<=k+1
 |0,n,h=>by rw[E9 aR];simp
 |k+1,n,h=>by
  by_cases hn:n<10
  ·rw[E9 hn];simp
  rw[Pa hn];have:=Da k (n / 10) (by rw[Nat.pow_succ]at h;omega);simp;omega
theorem Cl{s:List UInt8}{n:Nat}:Cx s=some n↔n<=999999/\s=Ba n:=by
 unfold Cx;constructor
 ·intro h;split at h
  ·rename_i hc;obtain⟨h1,h2,h3,h4⟩:=hc;injection h with h;have hn:s≠[]:=List.length_pos_iff.1 aH;have hv:=Yg s.length s rfl h3;have hle:10 ^ s.length<=10 ^ 6:=Nat.pow_le_pow_right aH h2;have e6:10 ^ 6=1000000:=rfl;refine⟨by omega,?_⟩;rw[<-h];exact(Qay s.length s rfl hn h3 h4).symm
  cases h
 rintro⟨h1,rfl⟩;have hl:=Da 5 n gn;have hp:0<(Ba n).length:=List.length_pos_iff.2 (Tm n);rw[if_pos ⟨by omega,by omega,Nt n,Qis n⟩,Rk]
structure Kd where
 signs:List UInt8
 base:List UInt8
 name:List UInt8
deriving DecidableEq
def Bn(c:UInt8):Bool:=c == 91 || c == 63
def Bu(k:Kd):List UInt8:=if k.base=[64]then 64::(k.name++[59])else k.base
def Ax(k:Kd):List UInt8:=k.signs++Bu k
def Kd.nil:Kd:=⟨[],[],[]⟩
def Kd.part(k:Kd):Kd:={k with signs:=k.signs.tail}
def Kd.core(k:Kd):Kd:={k with signs:=[]}
def Qct(k:Kd):Prop:=(k.base=[64]/\Be k.name=true)\/((k.base=[110]\/k.base=[116]\/k.base=[102])/\k.name=[])
def Ck(k:Kd):Prop:=k.signs.all Bn=true/\Qct k/\(Ax k).length<=12
theorem Qav{k:Kd}(h:Qct k):∃c t,Bu k=c::t/\Bn c=false:=by
 unfold Bu;rcases h with⟨h,_⟩|⟨h|h|h,_⟩
 ·rw[if_pos h];exact⟨64,_,rfl,by decide⟩
 ·rw[h,if_neg aJ];exact⟨110,[],rfl,by decide⟩
 ·rw[h,if_neg aJ];exact⟨116,[],rfl,by decide⟩
 rw[h,if_neg aJ];exact⟨102,[],rfl,by decide⟩
theorem Gh{p:UInt8->Bool}:∀{a b:List UInt8},a.all p=true->(∃c t,b=c::t/\p c=false)->(a++b).takeWhile p=a/\(a++b).dropWhile p=b
 |[],b,_,⟨c,t,e,h⟩=>by subst e;simp[h]
 |x::a,b,ha,hb=>by
  simp only[List.all_cons,aw]at ha;have ih:=Gh ha.2 hb;simp[ha.1,ih.1,ih.2]
theorem Km{p:UInt8->Bool}:∀(a:List UInt8),(a.takeWhile p).all p=true
 |[]=>rfl
 |x::a=>by
  by_cases h:p x=true
  ·simp[h]
  simp[h]
def Cs(s:List UInt8):Option Kd:=
 if 12<s.length then none
 else if s.dropWhile Bn=[110]\/s.dropWhile Bn=[116]\/s.dropWhile Bn=[102]then some ⟨s.takeWhile Bn,s.dropWhile Bn,[]⟩
 else if (s.dropWhile Bn).head?=some 64/\(s.dropWhile Bn).getLast?=some 59/\Be ((s.dropWhile Bn).drop 1).dropLast=true then some ⟨s.takeWhile Bn,[64],((s.dropWhile Bn).drop 1).dropLast⟩
 else none
theorem Qgv{r:List UInt8}(h1:r.head?=some 64)(h2:r.getLast?=some 59):r=64::((r.drop 1).dropLast++[59]):=by
 cases r with
 |nil=>simp at h1
 |cons a t=>
  simp at h1;subst h1;rcases Fk t with rfl|⟨u,c,rfl⟩
  ·simp at h2
  have:c=59:=by
   rw[show (64:UInt8)::(u++[c])=(64::u)++[c]from rfl,List.getLast?_append]at h2;simpa using h2
  subst this;simp
theorem Eg{s:List UInt8}{k:Kd}:Cs s=some k↔Ck k/\Ax k=s:=by
 have htd:s.takeWhile Bn++s.dropWhile Bn=s:=List.takeWhile_append_dropWhile;constructor
 ·intro h;unfold Cs at h;split at h
  ·cases h
  rename_i h12;split at h
  ·rename_i hb;injection h with h;subst h;have hcore:Bu ⟨s.takeWhile Bn,s.dropWhile Bn,[]⟩=s.dropWhile Bn:=by
    unfold Bu;rw[if_neg];rcases hb with h|h|h<;>· show ¬s.dropWhile Bn=_;rw[h];decide
   have e:Ax ⟨s.takeWhile Bn,s.dropWhile Bn,[]⟩=s:=by unfold Ax;rw[hcore];exact htd
   exact⟨⟨Km s,.inr ⟨hb,rfl⟩,by rw[e];omega⟩,e⟩
  split at h
  ·rename_i hb;injection h with h;subst h;have e1:=Qgv hb.1 hb.2.1;have e:Ax ⟨s.takeWhile Bn,[64],((s.dropWhile Bn).drop 1).dropLast⟩=s:=by
    unfold Ax Bu;rw[if_pos rfl];show s.takeWhile Bn++64::(((s.dropWhile Bn).drop 1).dropLast++[59])=s;rw[<-e1];exact htd
   exact⟨⟨Km s,.inl ⟨rfl,hb.2.2⟩,by rw[e];omega⟩,e⟩
  cases h
 rintro⟨⟨h1,h2,h3⟩,rfl⟩;obtain⟨e1,e2⟩:=Gh h1 (Qav h2);unfold Cs;rw[if_neg aH];show (if (k.signs++Bu k).dropWhile Bn=[110]\/_ then _ else _)=_;unfold Ax;rw[e1,e2];obtain⟨sg,b,nm⟩:=k;rcases h2 with⟨h,hn⟩|⟨h,hn⟩
 ·simp only at h hn;subst h;unfold Bu;simp only[if_pos];rw[if_neg aK,if_pos]
  ·simp
  refine⟨rfl,?_,by simpa using hn⟩;rw[show (64:UInt8)::(nm++[59])=(64::nm)++[59]from rfl,List.getLast?_append];rfl
 simp only at h hn;subst hn;have hc:Bu ⟨sg,b,[]⟩=b:=by
  unfold Bu;rw[if_neg];rcases h with h|h|h<;>· show ¬b=_;rw[h];decide
 rw[hc,if_pos h]
theorem Js{k:Kd}(h:Ck k):Ck k.part/\(k.signs≠[]->Ax k.part=(Ax k).tail/\(Ax k.part).length+1=(Ax k).length):=by
 obtain⟨h1,h2,h3⟩:=h;obtain⟨sg,b,nm⟩:=k;have hc:∀g,Bu ⟨g,b,nm⟩=Bu ⟨sg,b,nm⟩:=fun g=>rfl;cases sg with
 |nil=>exact⟨⟨h1,h2,h3⟩,fun h=>absurd rfl h⟩
 |cons c t=>
  simp only[List.all_cons,aw]at h1;have e:Ax (Kd.part ⟨c::t,b,nm⟩)=(Ax ⟨c::t,b,nm⟩).tail:=rfl;have el:(Ax (Kd.part ⟨c::t,b,nm⟩)).length+1=(Ax ⟨c::t,b,nm⟩).length:=rfl;exact⟨⟨h1.2,h2,by omega⟩,fun _=>⟨e,el⟩⟩
section
attribute [local go_sem] Qoe Qnf Qmu Qk2 ByteArray.mk_append_mk
theorem Ap{c d:UInt8}(h:c≠d):((c.toNat:Int) == (d.toNat:Int))=false:=by
 rw[beq_eq_false_iff_ne];intro e;exact h (UInt8.toNat_inj.1 aH)
theorem Bj{c d:UInt8}(h:c=d):((c.toNat:Int) == (d.toNat:Int))=true:=by rw[h];simp
theorem Qjp(n a b:Int)(w:World):
  Calls prog 125 #[.int .i64 n,.int .i64 a,.int .i64 b] w fun e w'=>e=.returned (.bool (decide (a<=n) && decide (n<=b)))/\w=w':=by
 go_enter func125,ntmps125;by_cases h1:a<=n
 ·have t1:decide (a<=n)=true:=eX;rw[t1];go_wp2
  exact jJ
 have t1:decide (a<=n)=false:=eX;rw[t1];go_wp2
 exact jJ
theorem Cv(s:List UInt8)(w:World)(hs:s.length<=9223372036854775807):
  Calls prog 152 #[s] w fun e w'=>e=.returned (.bool (Be s))/\w=w':=by
 go_enter func152,ntmps152;go_wp2
 go_loop [3] (fun i=>∃k:Nat,k<=s.length/\i=.int .i64 k/\Hid (∀c∈s.take k,J3 c=true)) (fun i=>s.length - (intOf i).toNat)
 case atStart=>exact⟨0,ag _,rfl,by intro c hc;simp at hc⟩
 case round=>
  obtain⟨k,hk,rfl,hin⟩:=hrel;by_cases hlt:k<s.length
  ·have hc:(s[k]).toNat<256:=(s[k]).toNat_lt;have Hts:=Aa (Cb s k hlt);have Hm:=Aa (ae hlt);by_cases h1:J3 s[k]=true
   ·have h2:=Nw.1 h1;obtain⟨h3,h4⟩:=h2;have H1:=Aa h1;clear h1;go_wp2
    go_round
    case rel=>
     refine⟨k+1,by omega,by go_num,?_⟩;intro c hc;rw[Hts.o]at hc;rcases af.1 hc with hc|hc
     ·exact hin.o c hc
     ·simp at hc;subst hc;exact H1.o
    case measure=>simp[intOf];omega
   have hno:Be s=false:=by
    cases hh:Be s with
    |false=>rfl
    |true=>exact absurd ((Ds.1 hh).2.2 _ Hm.o) h1
   have Hno:=Aa hno;have h2:(s[k]).toNat<97\/122<(s[k]).toNat:=by
    rcases aG (s[k]).toNat 97 with h|h
    ·exact .inl h
    rcases aG 122 (s[k]).toNat with h'|h'
    ·exact .inr h'
    exact absurd (Nw.2 ⟨h,h'⟩) h1
   clear h1 hno;rcases h2 with h2|h2
   ·go_wp2
    go_ret;exact⟨Em (Cz Hno.o.symm),rfl⟩
   have h3:97<=(s[k]).toNat:=aH;go_wp2
   go_ret;exact⟨Em (Cz Hno.o.symm),rfl⟩
  ·have hfin:(decide ((1:Int)<=(s.length:Int)) && decide ((s.length:Int)<=3))=Be s:=by
    have hall:s.all J3=true:=List.all_eq_true.2 (fun c hc=>hin.o c (by rw[au aH];exact hc));unfold Be;rw[hall,Bool.and_true];congr 1<;>· rw[decide_eq_decide];omega
   have Hfin:=Aa hfin;clear hfin;go_wp2_with fail;refine(Qjp _ _ _ _).mono ?_;rintro e w' ⟨rfl,rfl⟩;go_wp2_with fail;go_ret;exact⟨Em (Cz Hfin.o),rfl⟩
theorem Zt(c:UInt8)(t:List UInt8)(hc:Bn c=true):(Cs (c::t)).isSome=(decide (t.length<12) && (Cs t).isSome):=by
 unfold Cs;simp only[List.dropWhile_cons,List.takeWhile_cons,hc,if_true];by_cases h:12<(c::t).length
 ·exact jB
 rw[if_neg h];simp at h;have h2:¬12<t.length:=aH;have:t.length<12:=aH;rw[if_neg h2];simp only[this,decide_true,Bool.true_and];by_cases h3:t.dropWhile Bn=[110]\/t.dropWhile Bn=[116]\/t.dropWhile Bn=[102]
 ·rw[if_pos h3,if_pos h3];rfl
 rw[if_neg h3,if_neg h3];by_cases h4:(t.dropWhile Bn).head?=some 64/\(t.dropWhile Bn).getLast?=some 59/\Be ((t.dropWhile Bn).drop 1).dropLast=true
 ·rw[if_pos h4,if_pos h4];rfl
 rw[if_neg h4,if_neg h4]
theorem Qja(t:List UInt8):(Cs (64::t)).isSome=(decide (t.length<12) && decide ((64::t).getLast?=some 59) && Be t.dropLast):=by
 unfold Cs;have h64:Bn 64=false:=aJ;simp only[List.dropWhile_cons,List.takeWhile_cons,h64];by_cases h:12<(64::t).length
 ·exact jB
 rw[if_neg h];simp at h;have:t.length<12:=aH;simp[this];split
 ·rename_i hh;simp[hh]
 rename_i hh;simp only[Option.isSome_none];cases hn:Be t.dropLast with
 |false=>simp
 |true=>simp[hn]at hh;simp[hh]
theorem Qea(c:UInt8)(t:List UInt8)(h1:Bn c=false)(h2:c≠64):(Cs (c::t)).isSome=(decide (c::t=[110]) || decide (c::t=[116]) || decide (c::t=[102])):=by
 unfold Cs;simp only[List.dropWhile_cons,List.takeWhile_cons,h1];by_cases h:12<(c::t).length
 ·rw[if_pos h];simp at h;have e:t≠[]:=by rintro rfl;simp at h
  simp[e]
 rw[if_neg h];by_cases h3:c::t=[110]\/c::t=[116]\/c::t=[102]
 ·simp only[ao,if_false];rw[if_pos h3];rcases h3 with h3|h3|h3<;>simp[h3]
 simp only[ao,if_false];rw[if_neg h3,if_neg (by simp[h2])];simp only[not_or]at h3;simp[h3]
theorem Pm:∀(n:Nat) (s:List UInt8) (w:World),s.length<=n->s.length<=9223372036854775807 ->
  Calls prog 95 #[s] w fun e w'=>e=.returned (.bool (Cs s).isSome)/\w=w':=by
 intro n;induction n with
 |zero=>
  intro s w hn hs;obtain rfl:s=[]:=List.eq_nil_of_length_eq_zero aH;go_enter func95,ntmps95;go_wp2_with fail;exact jJ
 |succ n ih=>
  intro s w hn hs;have Ih:=Aa ih;clear ih;by_cases h12:12<s.length
  ·have Hf:=Aa (show (Cs s).isSome=false by unfold Cs;rw[if_pos h12];rfl);go_enter func95,ntmps95;go_wp2_with fail;exact jK
  cases s with
  |nil=>
   go_enter func95,ntmps95;go_wp2_with fail;exact jJ
  |cons c t=>
   have hlt:t.length<12:=by simp at h12;omega
   have hn':t.length<=n:=by simp at hn;omega
   have hc:=c.toNat_lt;by_cases h91:c=91
   ·have Hf:=Aa (show (Cs (c::t)).isSome=(Cs t).isSome by rw[Zt c t (by rw[h91];decide)];simp[hlt]);have e1:c.toNat=91:=by rw[h91];rfl
    have t1:((c.toNat:Int) == 91)=true:=by simp[e1]
    clear h91 e1;go_enter func95,ntmps95;go_wp2_with fail;refine(Ih.o t _ hn' aH).mono ?_;rintro e w' ⟨rfl,rfl⟩;go_wp2_with fail;exact jK
   have t1:((c.toNat:Int) == 91)=false:=Ap h91;by_cases h63:c=63
   ·have Hf:=Aa (show (Cs (c::t)).isSome=(Cs t).isSome by rw[Zt c t (by rw[h63];decide)];simp[hlt]);have e1:c.toNat=63:=by rw[h63];rfl
    have t2:((c.toNat:Int) == 63)=true:=by simp[e1]
    clear h63 h91 e1;go_enter func95,ntmps95;go_wp2_with fail;refine(Ih.o t _ hn' aH).mono ?_;rintro e w' ⟨rfl,rfl⟩;go_wp2_with fail;exact jK
   have t2:((c.toNat:Int) == 63)=false:=Ap h63;by_cases h64:c=64
   ·have e1:c.toNat=64:=by rw[h64];rfl
    have t3:((c.toNat:Int) == 64)=true:=by simp[e1]
    rcases Fk t with rfl|⟨u,d,rfl⟩
    ·have Hf:=Aa (show (Cs [c]).isSome=false by rw[h64];decide);have t4:((c.toNat:Int) == 59)=false:=by simp[e1]
     clear h64 h63 h91 e1;go_enter func95,ntmps95;go_wp2_with fail;exact jK
    have hk:=Qja (u++[d]);have hl:(c::(u++[d])).getLast?=some d:=by
     exact jL
    rw[<-h64,hl,List.dropLast_concat]at hk;have hd:=d.toNat_lt;simp at hlt;have hgd:∀h,(c::(u++[d]))[u.length+1]'h=d:=by
     intro h;simp
    have hsl:(List.take u.length (u++[d]))=u:=aK;by_cases h59:d=59
    ·have e2:d.toNat=59:=by rw[h59];rfl
     have t4:((d.toNat:Int) == 59)=true:=by simp[e2]
     have Hf:=Aa (show (Cs (c::(u++[d]))).isSome=Be u by rw[hk,h59];simp;omega);clear h64 h63 h91 e1 hk hl h59 e2;go_enter func95,ntmps95;go_wp2_with fail;refine(Cv u _ aH).mono ?_;rintro e w' ⟨rfl,rfl⟩;go_wp2_with fail;exact jK
    have t4:((d.toNat:Int) == 59)=false:=Ap h59;have Hf:=Aa (show (Cs (c::(u++[d]))).isSome=false by rw[hk];simp[h59]);clear h64 h63 h91 e1 hk hl h59;go_enter func95,ntmps95;go_wp2_with fail;exact jK
   have t3:((c.toNat:Int) == 64)=false:=Ap h64;have hk:=Qea c t (by simp[Bn,h91,h63]) h64;have Hk:=Aa hk;clear hk h64 h63 h91;cases t with
   |cons x t=>
    have hl2:t.length+1+1<=12:=by simp at hlt;omega
    have Hf:=Aa (show (Cs (c::x::t)).isSome=false by rw[Hk.o];simp);clear Hk;go_enter func95,ntmps95;go_wp2_with fail;all_goals
     go_ret;exact⟨Em (Cz (by rw[Hf.o])),rfl⟩
   |nil=>
    by_cases g1:c=110
    ·subst g1;go_enter func95,ntmps95;go_wp2_with fail;exact jJ
    by_cases g2:c=116
    ·subst g2;go_enter func95,ntmps95;go_wp2_with fail;exact jJ
    by_cases g3:c=102
    ·subst g3;go_enter func95,ntmps95;go_wp2_with fail;exact jJ
    have Hf:=Aa (show (Cs [c]).isSome=false by rw[Hk.o];simp[g1,g2,g3]);go_enter func95,ntmps95;go_wp2_with fail;go_ret;exact⟨Em (Cz (by rw[Hf.o];simp[g1,g2,g3])),rfl⟩
def S1:Value->Nat
 |.string b=>b.size
 |_=>0
theorem Mi(l:List UInt8):S1 l=l.length:=rfl
theorem Qf0(k:Kd)(w:World)(hk:k.signs.all Bn=true)(hb:∃c t,Bu k=c::t/\Bn c=false)(hs:(Ax k).length<=9223372036854775807):
  Calls prog 97 #[.string ⟨(Ax k).toArray⟩] w fun e w'=>e=.returned (.string ⟨(Bu k).toArray⟩)/\w=w':=by
 obtain⟨d,u,hcu,hd⟩:=hb;have hlen:(Ax k).length=k.signs.length+(u.length+1):=by unfold Ax;rw[hcu];simp
 unfold Ax;rw[hcu];generalize k.signs=g at hk hlen;clear hcu;have hd1:d≠91:=by rintro rfl;revert hd;decide
 have hd2:d≠63:=by rintro rfl;revert hd;decide
 have d1:((d.toNat:Int) == 91)=false:=Ap hd1;have d2:((d.toNat:Int) == 63)=false:=Ap hd2;have hdl:=d.toNat_lt;clear hd hd1 hd2;have hs2:g.length+u.length+1<=9223372036854775807:=aH;have Hk:=Aa (List.all_eq_true.1 hk);clear hs hlen hk;go_enter func97,ntmps97;go_wp2_with fail;go_loop [0] (fun x=>∃k:Nat,k<=g.length/\x=.string ⟨(g.drop k++d::u).toArray⟩) (fun x=>S1 x)
 case atStart=>exact⟨0,ag _,rfl⟩
 case round=>
  obtain⟨k,hk,rfl⟩:=hrel;by_cases hlt:k<g.length
  ·have hdr:g.drop k=g[k]::g.drop (k+1):=List.drop_eq_getElem_cons hlt;have hl3:(g.drop (k+1)).length<=g.length:=aK;have hsg:=Hk.o _ (ae hlt);have hc:=(g[k]).toNat_lt;rw[hdr];generalize g[k]=c at hsg hc;have hsg2:c=91\/c=63:=by simpa [Bn]using hsg
   have Hd:=Aa hdr;clear hsg hdr;rcases hsg2 with h91|h63
   ·have t1:((c.toNat:Int) == 91)=true:=Bj h91;clear h91;go_wp2_with fail;go_round
    case rel=>exact⟨k+1,by omega,Qku (au aK)⟩
    case measure=>rw[Mi,Mi];simp
   have t1:((c.toNat:Int) == 91)=false:=Ap (d:=91) (by rw[h63];decide);have t2:((c.toNat:Int) == 63)=true:=Bj h63;clear h63;go_wp2_with fail;go_round
   case rel=>exact⟨k+1,by omega,Qku (au aK)⟩
   case measure=>rw[Mi,Mi];simp
  ·rw[List.drop_of_length_le aH,List.nil_append];go_wp2_with fail;exact jJ
theorem Qau(nm:List UInt8)(w:World)(hn:nm.length<=1000):
  Calls prog 96 #[.string ⟨(64::(nm++[59])).toArray⟩] w fun e w'=>e=.returned (.tuple #[nm,.bool true])/\w=w':=by
 have h1:(nm++[59]).take nm.length=nm:=aK;go_enter func96,ntmps96;go_wp2_with fail;go_ret2;exact jM
theorem Qdb(c:UInt8)(t:List UInt8)(w:World)(hc:c≠64)(hn:t.length<=1000):
  Calls prog 96 #[.string ⟨(c::t).toArray⟩] w fun e w'=>e=.returned (.tuple #[a6,.bool false])/\w=w':=by
 have t1:((c.toNat:Int) != 64)=true:=by
  have:=Ap hc;rw[bne_iff_ne];intro e;have h64:((64:UInt8).toNat:Int)=64:=rfl;rw[beq_eq_false_iff_ne,h64]at this;exact this e
 clear hc;go_enter func96,ntmps96;go_wp2_with fail;go_ret2;exact jM
def Al(c:UInt8):List UInt8->List (List UInt8)
 |[]=>[[]]
 |x::s=>if x=c then[]::Al c s else match Al c s with
  |p::ps=>(x::p)::ps
  |[]=>[[x]]
def Aw(c:UInt8):List (List UInt8)->List UInt8
 |[]=>[]
 |[p]=>p
 |p::ps=>p++c::Aw c ps
theorem Ew(c:UInt8)(s:List UInt8):Al c s≠[]:=by
 cases s with
 |nil=>simp[Al]
 |cons x s=>
  simp only[Al];split
  ·simp
  split<;>simp
theorem Cy(c:UInt8)(p:List UInt8){ps:List (List UInt8)}(h:ps≠[]):Aw c (p::ps)=p++c::Aw c ps:=by
 cases ps with
 |nil=>exact absurd rfl h
 |cons q ps=>rfl
theorem Q4(c:UInt8):∀s:List UInt8,Aw c (Al c s)=s
 |[]=>rfl
 |x::s=>by
  have ih:=Q4 c s;have hn:=Ew c s;simp only[Al];split
  ·rename_i h;rw[Cy c _ hn,ih,h];rfl
  cases hs:Al c s with
  |nil=>exact absurd hs hn
  |cons p ps=>
   rw[hs]at ih;cases ps with
   |nil=>simpa [Aw]using ih
   |cons q ps=>
    rw[Cy c _ aK]at ih ⊢;simp[ih]
theorem Qax(c:UInt8):∀s:List UInt8,∀p∈Al c s,c∉p
 |[],p,hp=>by simp[Al]at hp;simp[hp]
 |x::s,p,hp=>by
  have ih:=Qax c s;simp only[Al]at hp;split at hp
  ·rcases aA.1 hp with rfl|hp
   ·simp
   exact ih p hp
  rename_i hx;cases hs:Al c s with
  |nil=>exact absurd hs (Ew c s)
  |cons q qs=>
   rw[hs]at hp ih;rcases aA.1 hp with rfl|hp
   ·have:=ih q aK;simp;exact⟨fun h=>hx h.symm,this⟩
   exact ih p (by simp[hp])
theorem Jc(c:UInt8):∀p:List UInt8,c∉p->Al c p=[p]
 |[],_=>rfl
 |x::p,h=>by
  simp at h;simp only[Al];rw[if_neg (fun e=>h.1 e.symm),Jc c p h.2]
theorem Ml(c:UInt8):∀(p s:List UInt8),c∉p->Al c (p++c::s)=p::Al c s
 |[],s,_=>by simp[Al]
 |x::p,s,h=>by
  simp at h;simp only[av,Al];rw[if_neg (fun e=>h.1 e.symm),Ml c p s h.2]
theorem Nd(c:UInt8):∀ps:List (List UInt8),ps≠[]->(∀p∈ps,c∉p)->Al c (Aw c ps)=ps
 |[],h,_=>absurd rfl h
 |[p],_,h=>Jc c p (h p aK)
 |p::q::ps,_,h=>by
  rw[Cy c p aK,Ml c p _ (h p aK),Nd c (q::ps) aK (fun x hx=>h x (by simp[hx]))]
theorem Ej{c:UInt8}{s:List UInt8}{ps:List (List UInt8)}:Al c s=ps↔ps≠[]/\(∀p∈ps,c∉p)/\Aw c ps=s:=
 ⟨fun h=>by subst h;exact⟨Ew c s,Qax c s,Q4 c s⟩,fun⟨h1,h2,h3⟩=>by rw[<-h3];exact Nd c ps h1 h2⟩
theorem Jn(c:UInt8):∀s:List UInt8,(Al c s).length<=s.length+1
 |[]=>by simp[Al]
 |x::s=>by
  have ih:=Jn c s;simp only[Al];split
  ·simp;exact ih
  cases hs:Al c s with
  |nil=>exact absurd hs (Ew c s)
  |cons p ps=>rw[hs]at ih;simp at ih ⊢;omega
theorem Aq(c:UInt8):∀s:List UInt8,∀p∈Al c s,p.length<=s.length
 |[],p,h=>by simp[Al]at h;simp[h]
 |x::s,p,h=>by
  have ih:=Aq c s;simp only[Al]at h;split at h
  ·rcases aA.1 h with rfl|h
   ·simp
   exact Nat.le_succ_of_le (ih p h)
  cases hs:Al c s with
  |nil=>exact absurd hs (Ew c s)
  |cons q qs=>
   rw[hs]at ih h;rcases aA.1 h with rfl|h
   ·have:=ih q aK;simp;exact this
   have:=ih p (by simp[h]);simp;omega
def Dl(c:UInt8)(s:List UInt8):List UInt8 × List UInt8 × Bool:=
 if c∈s then(s.takeWhile (· != c),(s.dropWhile (· != c)).tail,true)else(s,[],false)
theorem Rq{c:UInt8}{s:List UInt8}(h:c∉s):Dl c s=(s,[],false):=if_neg h
theorem E7{c:UInt8}{p s:List UInt8}(h:c∉p):Dl c (p++c::s)=(p,s,true):=by
 unfold Dl;rw[if_pos aK];have h1:p.all (fun x=>x != c)=true:=by
  rw[List.all_eq_true];intro x hx;simp;rintro rfl;exact h hx
 obtain⟨e1,e2⟩:=Gh (p:=fun x=>x != c) h1 ⟨c,s,rfl,by simp⟩;rw[e1,e2];rfl
theorem Qcx{c:UInt8}:∀{s:List UInt8},c∈s->∃p t,s=p++c::t/\c∉p
 |x::s,h=>by
  by_cases hx:x=c
  ·exact⟨[],s,by simp[hx],by simp⟩
  obtain⟨p,t,e,hp⟩:=Qcx (s:=s) (by rcases aA.1 h with h|h;exact absurd h.symm hx;exact h);exact⟨x::p,t,by simp[e],by simp;exact⟨fun e=>hx e.symm,hp⟩⟩
theorem Ga(c:UInt8)(s:List UInt8):(c∉s/\Dl c s=(s,[],false))\/∃p t,s=p++c::t/\c∉p/\Dl c s=(p,t,true):=by
 by_cases h:c∈s
 ·obtain⟨p,t,e,hp⟩:=Qcx h;exact .inr ⟨p,t,e,hp,by rw[e];exact E7 hp⟩
 exact .inl ⟨h,Rq h⟩
def Co(c:UInt8):Bool:=J3 c || Bl c || c == 32
def Dt(s:List UInt8):Bool:=decide (s.length<=12) && s.all Co
def Cg(b s:List UInt8):Bool:=
 if b=[110]then(match Cx s with|some n=>decide (0<n)|none=>false)
 else if b=[116]then decide (2<s.length) && decide (s.head?=some 39) && decide (s.getLast?=some 39) && Dt (s.drop 1).dropLast
 else if b=[102]then decide (s=[121,101,115])else false
theorem Qfy{r:List UInt8}(h:2<r.length)(h1:r.head?=some 39)(h2:r.getLast?=some 39):r=39::((r.drop 1).dropLast++[39]):=by
 cases r with
 |nil=>simp at h1
 |cons a t=>
  simp at h1;subst h1;rcases Fk t with rfl|⟨u,c,rfl⟩
  ·simp at h
  have:c=39:=by
   rw[show (39:UInt8)::(u++[c])=(39::u)++[c]from rfl,List.getLast?_append]at h2;simpa using h2
  subst this;simp
def Jh(c:UInt8):Prop:=c≠10/\c≠44/\c≠58/\c≠61
theorem Qas{c:UInt8}(h:Bl c=true):Jh c:=by
 rw[Dv]at h;refine⟨?_,?_,?_,?_⟩<;>(rintro rfl;revert h;decide)
theorem Qbg{c:UInt8}(h:J3 c=true):Jh c:=by
 rw[Nw]at h;refine⟨?_,?_,?_,?_⟩<;>(rintro rfl;revert h;decide)
theorem Qhh{c:UInt8}(h:Co c=true):Jh c:=by
 unfold Co at h;simp only[Bool.or_eq_true]at h;rcases h with(h|h)|h
 ·exact Qbg h
 ·exact Qas h
 have:c=32:=aR;subst this;exact⟨by decide,by decide,by decide,by decide⟩
theorem Qe2{c:UInt8}(h:Bn c=true):Jh c:=by
 unfold Bn at h;simp only[Bool.or_eq_true,beq_iff_eq]at h;rcases h with rfl|rfl<;>exact⟨by decide,by decide,by decide,by decide⟩
theorem Fj(n:Nat):∀c∈Ba n,Jh c:=fun c hc=>Qas (List.all_eq_true.1 (Nt n) c hc)
theorem Ek{s:List UInt8}(h:Be s=true):∀c∈s,Jh c:=fun c hc=>Qbg ((Ds.1 h).2.2 c hc)
theorem Kf{k:Kd}(h:Ck k):∀c∈Ax k,Jh c:=by
 intro c hc;obtain⟨h1,h2,_⟩:=h;unfold Ax Bu at hc;rcases af.1 hc with hc|hc
 ·exact Qe2 (List.all_eq_true.1 h1 c hc)
 rcases h2 with⟨h,hn⟩|⟨h,_⟩
 ·rw[if_pos h]at hc;rcases aA.1 hc with rfl|hc
  ·exact⟨by decide,by decide,by decide,by decide⟩
  rcases af.1 hc with hc|hc
  ·exact Ek hn c hc
  simp at hc;subst hc;exact⟨by decide,by decide,by decide,by decide⟩
 rw[if_neg (by rcases h with h|h|h<;>· rw[h];decide)]at hc;rcases h with h|h|h<;>· rw[h]at hc;simp at hc;subst hc;exact⟨by decide,by decide,by decide,by decide⟩
theorem Nf{b s:List UInt8}(h:Cg b s=true):s≠[]/\∀c∈s,Jh c:=by
 unfold Cg at h;split at h
 ·cases hd:Cx s with
  |none=>rw[hd]at h;cases h
  |some n=>
   obtain⟨_,e⟩:=Cl.1 hd;subst e;exact⟨Tm n,Fj n⟩
 split at h
 ·simp only[aw,decide_eq_true_eq]at h;obtain⟨⟨⟨h1,h2⟩,h3⟩,h4⟩:=h;have e:=Qfy h1 h2 h3;refine⟨by intro hh;rw[hh]at h1;simp at h1,fun c hc=>?_⟩;rw[e]at hc;have q:Jh 39:=⟨by decide,by decide,by decide,by decide⟩
  rcases aA.1 hc with rfl|hc
  ·exact q
  rcases af.1 hc with hc|hc
  ·unfold Dt at h4;simp only[aw]at h4;exact Qhh (List.all_eq_true.1 h4.2 c hc)
  simp at hc;subst hc;exact q
 split at h
 ·simp only[decide_eq_true_eq]at h;subst h;refine⟨by simp,fun c hc=>?_⟩;simp at hc;rcases hc with rfl|rfl|rfl<;>exact⟨by decide,by decide,by decide,by decide⟩
 cases h
theorem Pr{b s:List UInt8}(h:Cg b s=true):b=[110]\/b=[116]\/b=[102]:=by
 unfold Cg at h;split at h
 ·exact .inl (by assumption)
 split at h
 ·exact .inr (.inl (by assumption))
 split at h
 ·exact .inr (.inr (by assumption))
 cases h
structure Fd where
 tag:Nat
 name:List UInt8
 kind:Kd
 given:List UInt8
deriving DecidableEq
def Jv(st:UInt8)(f:Fd):List UInt8:=if st=69 then[]else 58::(Ax f.kind++if f.given=[]then[]else 61::f.given)
def Kr(st:UInt8)(f:Fd):List UInt8:=Ba f.tag++58::(f.name++Jv st f)
def Tj(st:UInt8)(f:Fd):Prop:=
 1<=f.tag/\f.tag<=200/\Be f.name=true/\(st=69->f.kind=Kd.nil/\f.given=[]) /\
 (st≠69->Ck f.kind/\(f.given≠[]->st=82/\f.kind.signs=[]/\Cg f.kind.base f.given=true))
theorem Es{s:List UInt8}(h:∀c∈s,Jh c):10∉s/\44∉s/\58∉s/\61∉s:=
 ⟨fun hc=>(h _ hc).1 rfl,fun hc=>(h _ hc).2.1 rfl,fun hc=>(h _ hc).2.2.1 rfl,fun hc=>(h _ hc).2.2.2 rfl⟩
def Me(p:List (List UInt8)):Option (Nat × List UInt8):=
 match p with
 |[a,b]=>(match Cx a with|some n=>if 1<=n/\n<=200/\Be b=true then some (n,b)else none|none=>none)
 |_=>none
def M6(p:List (List UInt8)):Option (Nat × List UInt8 × List UInt8):=
 match p with
 |[a,b,c]=>(match Cx a with|some n=>if 1<=n/\n<=200/\Be b=true then some (n,b,c)else none|none=>none)
 |_=>none
def Jl(st:UInt8)(s:List UInt8):Option Fd:=
 if st=69 then
  match Me (Al 58 (Dl 61 s).1)with
  |some (n,b)=>if (Dl 61 s).2.2=true then none else some ⟨n,b,Kd.nil,(Dl 61 s).2.1⟩
  |none=>none
 else
  match M6 (Al 58 (Dl 61 s).1)with
  |some (n,b,c)=>(match Cs c with
   |some k=>if (Dl 61 s).2.2=true/\¬(st=82/\k.signs=[]/\Cg k.base (Dl 61 s).2.1=true)then none else some ⟨n,b,k,(Dl 61 s).2.1⟩
   |none=>none)
  |none=>none
def Ce(st:UInt8)(s:List UInt8):Option Fd:=
 if st=69 then
  match Me (Al 58 s)with
  |some (n,b)=>some ⟨n,b,Kd.nil,[]⟩
  |none=>none
 else
  match M6 (Al 58 s)with
  |some (n,b,c)=>(match Al 61 c with
   |[k]=>(match Cs k with|some k=>some ⟨n,b,k,[]⟩|none=>none)
   |[k,v]=>if st=82/\Cg k v=true then some ⟨n,b,⟨[],k,[]⟩,v⟩else none
   |_=>none)
  |none=>none
theorem J5{p:List (List UInt8)}{n:Nat}{b:List UInt8}:Me p=some (n,b)↔p=[Ba n,b]/\1<=n/\n<=200/\Be b=true:=by
 unfold Me;constructor
 ·intro h;split at h
  ·rename_i a b';cases hd:Cx a with
   |none=>rw[hd]at h;cases h
   |some m=>
    rw[hd]at h;simp only at h;split at h
    ·rename_i hc;simp at h;obtain⟨rfl,rfl⟩:=h;rw[(Cl.1 hd).2];exact⟨rfl,hc⟩
    cases h
  cases h
 rintro⟨rfl,h⟩;have e:=Cl.2 ⟨(by omega:n<=999999),(rfl:Ba n=Ba n)⟩;simp only[e,if_pos h]
theorem H5{p:List (List UInt8)}{n:Nat}{b c:List UInt8}:M6 p=some (n,b,c)↔p=[Ba n,b,c]/\1<=n/\n<=200/\Be b=true:=by
 unfold M6;constructor
 ·intro h;split at h
  ·rename_i a b' c';cases hd:Cx a with
   |none=>rw[hd]at h;cases h
   |some m=>
    rw[hd]at h;simp only at h;split at h
    ·rename_i hc;simp at h;obtain⟨rfl,rfl,rfl⟩:=h;rw[(Cl.1 hd).2];exact⟨rfl,hc⟩
    cases h
  cases h
 rintro⟨rfl,h⟩;have e:=Cl.2 ⟨(by omega:n<=999999),(rfl:Ba n=Ba n)⟩;simp only[e,if_pos h]
theorem Qi{k:List UInt8}(h:k=[110]\/k=[116]\/k=[102]):Ck ⟨[],k,[]⟩/\Ax ⟨[],k,[]⟩=k:=by
 rcases h with rfl|rfl|rfl<;>exact⟨⟨rfl,.inr ⟨by simp,rfl⟩,by decide⟩,by decide⟩
theorem G8{st:UInt8}{s:List UInt8}{f:Fd}:Ce st s=some f↔Tj st f/\Kr st f=s:=by
 obtain⟨tg,nm,k,gv⟩:=f;unfold Ce;by_cases hst:st=69
 ·rw[if_pos hst];constructor
  ·intro h;cases hp:Me (Al 58 s)with
   |none=>rw[hp]at h;cases h
   |some x=>
    obtain⟨n,b⟩:=x;rw[hp]at h;simp at h;obtain⟨rfl,rfl,rfl,rfl⟩:=h;obtain⟨e,h1,h2,h3⟩:=J5.1 hp;obtain⟨_,_,e2⟩:=Ej.1 e;exact⟨⟨h1,h2,h3,fun _=>⟨rfl,rfl⟩,fun h=>absurd hst h⟩,by rw[<-e2];simp[Kr,Jv,hst,Aw]⟩
  rintro⟨⟨h1,h2,h3,h4,_⟩,rfl⟩;obtain⟨e1,e2⟩:=h4 hst;simp only at h1 h2 h3 e1 e2;subst e1;subst e2
  have hs:Al 58 (Kr st ⟨tg,nm,Kd.nil,[]⟩)=[Ba tg,nm]:=Ej.2 ⟨by simp,by
   intro p hp;simp at hp;rcases hp with rfl|rfl
   ·exact jD
   exact(Es (Ek h3)).2.2.1,by simp[Kr,Jv,hst,Aw]⟩
  rw[hs,J5.2 ⟨rfl,h1,h2,h3⟩]
 rw[if_neg hst];constructor
 ·intro h;cases hp:M6 (Al 58 s)with
  |none=>rw[hp]at h;cases h
  |some x=>
   obtain⟨n,b,c⟩:=x;rw[hp]at h;simp only at h;obtain⟨e,h1,h2,h3⟩:=H5.1 hp;obtain⟨_,_,e2⟩:=Ej.1 e;split at h
   ·rename_i k' hk;obtain⟨_,_,e3⟩:=Ej.1 hk;simp[Aw]at e3;subst e3;cases hkl:Cs k' with
    |none=>rw[hkl]at h;cases h
    |some kk=>
     rw[hkl]at h;simp at h;obtain⟨rfl,rfl,rfl,rfl⟩:=h;obtain⟨hk1,hk2⟩:=Eg.1 hkl;exact⟨⟨h1,h2,h3,fun h=>absurd h hst,fun _=>⟨hk1,fun h=>absurd rfl h⟩⟩,by rw[<-e2];simp[Kr,Jv,hst,Aw,hk2]⟩
   ·rename_i k' v hk;split at h
    ·rename_i hc;simp at h;obtain⟨rfl,rfl,rfl,rfl⟩:=h;obtain⟨_,_,e3⟩:=Ej.1 hk;obtain⟨hn,_⟩:=Nf hc.2;obtain⟨o1,o2⟩:=Qi (Pr hc.2);refine⟨⟨h1,h2,h3,fun h=>absurd h hst,fun _=>⟨o1,fun _=>⟨hc.1,rfl,hc.2⟩⟩⟩,?_⟩;rw[<-e2,<-e3];simp[Kr,Jv,hst,Aw,o2,hn]
    cases h
   cases h
 rintro⟨⟨h1,h2,h3,_,h4⟩,rfl⟩;obtain⟨hk,hg⟩:=h4 hst;simp only at h1 h2 h3 hk hg;by_cases hgv:gv=[]
 ·subst hgv
  have hs:Al 58 (Kr st ⟨tg,nm,k,[]⟩)=[Ba tg,nm,Ax k]:=Ej.2 ⟨by simp,by
   intro p hp;simp at hp;rcases hp with rfl|rfl|rfl
   ·exact jD
   ·exact(Es (Ek h3)).2.2.1
   exact(Es (Kf hk)).2.2.1,by simp[Kr,Jv,hst,Aw]⟩
  rw[hs,H5.2 ⟨rfl,h1,h2,h3⟩];simp only;rw[Jc 61 (Ax k) (Es (Kf hk)).2.2.2];simp only;rw[Eg.2 ⟨hk,rfl⟩]
 obtain⟨g1,g2,g3⟩:=hg hgv;obtain⟨_,hp⟩:=Nf g3;have hb:=Pr g3;obtain⟨o1,o2⟩:=Qi hb;have ek:k=⟨[],k.base,[]⟩:=by
  obtain⟨sg,b,nm'⟩:=k;simp only at g2 hb;subst g2;obtain⟨_,hbo,_⟩:=hk;rcases hbo with⟨h,_⟩|⟨_,h⟩
  ·exfalso
   simp only at h;rcases hb with hb|hb|hb<;>· rw[h]at hb;revert hb;decide
  simp only at h;rw[h]
 have eB:Ax k=k.base:=by rw[ek];exact o2
 have nb:∀c∈Ax k,Jh c:=Kf hk
 have hs:Al 58 (Kr st ⟨tg,nm,k,gv⟩)=[Ba tg,nm,Ax k++61::gv]:=Ej.2 ⟨by simp,by
  intro p hp';simp at hp';rcases hp' with rfl|rfl|rfl
  ·exact jD
  ·exact(Es (Ek h3)).2.2.1
  intro hc;rcases af.1 hc with hc|hc
  ·exact(Es nb).2.2.1 hc
  rcases aA.1 hc with hc|hc
  ·revert hc;decide
  exact(Es hp).2.2.1 hc,by simp[Kr,Jv,hst,Aw,hgv]⟩
 rw[hs,H5.2 ⟨rfl,h1,h2,h3⟩];simp only;rw[Ml 61 (Ax k) gv (Es nb).2.2.2,Jc 61 gv (Es hp).2.2.2];simp only;rw[eB,if_pos ⟨g1,g3⟩,<-ek]
theorem Xc{st:UInt8}{s:List UInt8}{f:Fd}:Jl st s=some f↔Tj st f/\Kr st f=s:=by
 obtain⟨tg,nm,k,gv⟩:=f;constructor
 ·intro h;unfold Jl at h;by_cases hst:st=69
  ·rw[if_pos hst]at h;cases hp:Me (Al 58 (Dl 61 s).1)with
   |none=>rw[hp]at h;cases h
   |some x=>
    obtain⟨n,b⟩:=x;rw[hp]at h;simp only at h;obtain⟨e,h1,h2,h3⟩:=J5.1 hp;obtain⟨_,_,e2⟩:=Ej.1 e;rcases Ga 61 s with⟨hn,hc⟩|⟨p,t,_,_,hc⟩
    ·rw[hc]at h e2;simp at h;obtain⟨rfl,rfl,rfl,rfl⟩:=h;exact⟨⟨h1,h2,h3,fun _=>⟨rfl,rfl⟩,fun h=>absurd hst h⟩,by simp only at e2;rw[<-e2];simp[Kr,Jv,hst,Aw]⟩
    rw[hc]at h;simp at h
  rw[if_neg hst]at h;cases hp:M6 (Al 58 (Dl 61 s).1)with
  |none=>rw[hp]at h;cases h
  |some x=>
   obtain⟨n,b,c⟩:=x;rw[hp]at h;simp only at h;obtain⟨e,h1,h2,h3⟩:=H5.1 hp;obtain⟨_,_,e2⟩:=Ej.1 e;cases hkl:Cs c with
   |none=>rw[hkl]at h;cases h
   |some kk=>
    obtain⟨hk1,hk2⟩:=Eg.1 hkl;rw[hkl]at h;simp only at h;rcases Ga 61 s with⟨hn,hc⟩|⟨p,t,ec,_,hc⟩
    ·rw[hc]at h e2;simp at h;obtain⟨rfl,rfl,rfl,rfl⟩:=h;exact⟨⟨h1,h2,h3,fun h=>absurd h hst,fun _=>⟨hk1,fun h=>absurd rfl h⟩⟩,by simp only at e2;rw[<-e2];simp[Kr,Jv,hst,Aw,hk2]⟩
    rw[hc]at h e2;simp only at h e2;split at h
    ·cases h
    rename_i hcc;have hcc':st=82/\kk.signs=[]/\Cg kk.base t=true:=Decidable.byContradiction fun hh=>hcc ⟨trivial,hh⟩;simp at h;obtain⟨rfl,rfl,rfl,rfl⟩:=h;obtain⟨hn,_⟩:=Nf hcc'.2.2;exact⟨⟨h1,h2,h3,fun h=>absurd h hst,fun _=>⟨hk1,fun _=>hcc'⟩⟩,by rw[ec,<-e2];simp[Kr,Jv,hst,Aw,hk2,hn]⟩
 intro h;have hS:=G8.2 h;obtain⟨⟨h1,h2,h3,h4,h5⟩,rfl⟩:=h;simp only at h1 h2 h3 h4 h5;unfold Jl;by_cases hst:st=69
 ·obtain⟨e1,e2⟩:=h4 hst;subst e1;subst e2;have hno:61∉Kr st ⟨tg,nm,Kd.nil,[]⟩:=by
   simp[Kr,Jv,hst];exact⟨(Es (Fj tg)).2.2.2,(Es (Ek h3)).2.2.2⟩
  rw[if_pos hst,Rq hno];simp only
  have hs:Al 58 (Kr st ⟨tg,nm,Kd.nil,[]⟩)=[Ba tg,nm]:=Ej.2 ⟨by simp,by
   intro p hp;simp at hp;rcases hp with rfl|rfl
   ·exact jD
   exact(Es (Ek h3)).2.2.1,by simp[Kr,Jv,hst,Aw]⟩
  rw[hs,J5.2 ⟨rfl,h1,h2,h3⟩];simp
 obtain⟨hk,hg⟩:=h5 hst;have nb:∀c∈Ax k,Jh c:=Kf hk;have hno:61∉Ba tg++58::(nm++58::Ax k):=by
  simp;exact⟨(Es (Fj tg)).2.2.2,(Es (Ek h3)).2.2.2,(Es nb).2.2.2⟩
 have hs:Al 58 (Ba tg++58::(nm++58::Ax k))=[Ba tg,nm,Ax k]:=Ej.2 ⟨by simp,by
  intro p hp;simp at hp;rcases hp with rfl|rfl|rfl
  ·exact jD
  ·exact(Es (Ek h3)).2.2.1
  exact(Es nb).2.2.1,by simp[Aw]⟩
 rw[if_neg hst];by_cases hgv:gv=[]
 ·subst hgv;have e:Kr st ⟨tg,nm,k,[]⟩=Ba tg++58::(nm++58::Ax k):=by simp[Kr,Jv,hst]
  rw[e,Rq hno];simp only;rw[hs,H5.2 ⟨rfl,h1,h2,h3⟩];simp only;rw[Eg.2 ⟨hk,rfl⟩];simp
 have e:Kr st ⟨tg,nm,k,gv⟩=(Ba tg++58::(nm++58::Ax k))++61::gv:=by simp[Kr,Jv,hst,hgv]
 rw[e,E7 hno];simp only;rw[hs,H5.2 ⟨rfl,h1,h2,h3⟩];simp only;rw[Eg.2 ⟨hk,rfl⟩];simp only;rw[if_neg (fun hh=>hh.2 (hg hgv))]
theorem Qig(st:UInt8)(s:List UInt8):Jl st s=Ce st s:=by
 cases h:Ce st s with
 |some f=>exact Xc.2 (G8.1 h)
 |none=>
  cases h2:Jl st s with
  |none=>rfl
  |some f=>rw[G8.2 (Xc.1 h2)]at h;cases h
theorem Va{st:UInt8}{f:Fd}(h:Tj st f):10∉Kr st f/\44∉Kr st f/\Kr st f≠[]:=by
 obtain⟨h1,h2,h3,h4,h5⟩:=h;have hd:=Tm f.tag;refine⟨?_,?_,by unfold Kr;simp⟩;all_goals
  unfold Kr Jv;simp only[af,aA,not_or];refine⟨?_,by decide,?_,?_⟩
  ·first|exact(Es (Fj f.tag)).1|exact(Es (Fj f.tag)).2.1
  ·first|exact(Es (Ek h3)).1|exact(Es (Ek h3)).2.1
  ·by_cases hst:st=69
   ·rw[if_pos hst];simp
   rw[if_neg hst];obtain⟨hk,hg⟩:=h5 hst;simp only[af,aA,not_or];refine⟨by decide,?_,?_⟩
   ·first|exact(Es (Kf hk)).1|exact(Es (Kf hk)).2.1
   by_cases hgv:f.given=[]
   ·rw[if_pos hgv];simp
   rw[if_neg hgv];have hp:=(Nf (hg hgv).2.2).2;simp only[aA,not_or];refine⟨by decide,?_⟩;first|exact(Es hp).1|exact(Es hp).2.1
theorem Qgx{st:UInt8}{f g:Fd}(hf:Tj st f)(hg:Tj st g)(h:Kr st f=Kr st g):f=g:=by
 have h1:=G8.2 ⟨hf,rfl⟩;have h2:=G8.2 ⟨hg,h.symm⟩;rw[h1]at h2;injection h2
theorem Qbj(n:Nat)(w:World)(hn:n<10):
  Calls prog 161 #[.int .i64 n] w fun e w'=>e=.returned (.string ⟨(Ba n).toArray⟩)/\Below w w w':=by
 have Hfin:=Aa (E9 hn);have hcv:=fun W=>Kz W w 1 (C5 (48+n));rw[Df aH]at hcv;go_enter func161,ntmps161;go_wp2_with fail;exact jN
theorem Qfz(n:Nat)(h10:¬n<10)(hn:n<=1000000000)(ih:∀W,Calls prog 161 #[.int .i64 ((n / 10:Nat):Int)] W fun e w'=>e=.returned (.string ⟨(Ba (n / 10)).toArray⟩)/\Below W W w')(w:World):
  Calls prog 161 #[.int .i64 n] w fun e w'=>e=.returned (.string ⟨(Ba n).toArray⟩)/\Below w w w':=by
 have Hfin:=Aa (Pa h10);have ih':=Aa ih;have hl:=Da 8 (n / 10) gh;clear ih;have hcv:=fun W g=>Kz W g 1 (C5 (48+n % 10));have h1:IntKind.u8.wrap (IntKind.i64.wrap (48+(n:Int).tmod 10))=((C5 (48+n % 10)).toNat:Int):=by
  rw[Df aH,Int.tmod_eq_emod_of_nonneg aH,IntWalk.i64_in _ aH,IntWalk.u8_in _ aH];omega
 have h2:IntKind.i64.wrap ((n:Int) / 10)=((n / 10:Nat):Int):=by rw[IntWalk.i64_in _ aH];omega
 go_enter func161,ntmps161;go_wp2_with fail;go_region_with (go_at_call 161;refine(ih'.out _).mono ?_;rintro e w' ⟨rfl,hb⟩;obtain⟨hc,hf,hz⟩:=Cj hb)
 all_goals
  go_wp2
  go_ret;refine⟨by rw[Hfin.o];rfl,?_⟩;have hsz:=hb.size;repeat (first|exact Ao _ _|refine Below.drew ?_|refine Below.alloc ?_ (by simp at hsz ⊢;first|omega|done) _|refine Below.trans ?_ (hb.mono aK))
theorem Gj:∀(k n:Nat) (w:World),n<=k->n<=1000000000 ->
  Calls prog 161 #[.int .i64 n] w fun e w'=>e=.returned (.string ⟨(Ba n).toArray⟩)/\Below w w w':=by
 intro k;induction k with
 |zero=>intro n w hn h;exact Qbj n w aH
 |succ k ih=>
  intro n w hn h;by_cases h10:n<10
  ·exact Qbj n w h10
  exact Qfz n h10 h (fun W=>ih (n / 10) W aH aH) w
end
end Go.Proofs.YtmmhmlmfhpfgbaaGreatDoor
