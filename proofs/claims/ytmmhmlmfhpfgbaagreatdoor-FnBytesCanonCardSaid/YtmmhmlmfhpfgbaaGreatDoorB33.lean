/- Texts joined. Conditions: as each theorem names them. -/
import Derived.Deep.DeepCutAuto
import Derived.Laws.BitsAllLaws
import Derived.Laws.BitsLemmas
import Derived.Deep.CutRange
import Derived.Test.YtmmhmlmfhpfgbaaGreatDoorB32
set_option maxRecDepth 100000
set_option maxHeartbeats 32000000
set_option linter.unusedVariables false
set_option linter.unusedSimpArgs false
namespace Go.Proofs.YtmmhmlmfhpfgbaaGreatDoor
open Go.RowKit Go.Proofs.Tryz
section
attribute [local go_sem] Qra Qpu Qo3 Qmi ByteArray.mk_append_mk
theorem Xu(w:World)(A:Option Addr)(n c:Nat)(hn:n<=1048576)(HD:Calls prog 31 #[.slice A n c] w (Qc0 w)):
  Calls prog 8 #[.slice A n c] w fun e w'=>e=.returned (.bool true)/\Below w.heap.size w w':=by
 have HD:=Aa HD
 go_enter func8,ntmps8
 go_wp2_with fail
 refine HD.o.mono ?_
 rintro e w1 ⟨s,d,x,rfl,h1,h2,h3,hb1⟩
 have Hb1:=Aa hb1
 have HI:=Aa (fun W=>Xz s d x W (by omega) (by omega) (by omega))
 have HS:=Aa (fun W=>X9 s d x W (by omega) (by omega) (by omega))
 have HG:=Aa (fun W=>Rj s d x W (by omega) (by omega) (by omega))
 have HP:=Aa (fun y (hy:y.length<=400) W=>Rg s d y W (by omega) (by omega) (by omega))
 have HK:=Aa (fun R hR W=>Zo s d x W (by omega) (by omega) (by omega) R hR)
 have HA:=Aa (fun h=>Qnc (a:=s) (d:=d) (s:=x) h)
 have HE:=Aa (Qpd s d x)
 unfold Qgk at HG
 unfold Vs at HP
 clear hb1 HD
 cases ho:Qax (Bq s d) x with
 |false=>
  rw[ho]at HI
  rw[<-HE.o,ho]at HS
  clear ho HG HP HK HA HE
  go_wp2_with fail
  refine(HI.o _).mono ?_
  rintro e w2 ⟨rfl,hb2⟩
  have Hb2:=Aa (Hb1.o.trans (hb2.mono Hb1.o.size))
  clear hb2
  go_wp2_with fail
  refine(HS.o _).mono ?_
  rintro e w3 ⟨rfl,hb3⟩
  have Hb3:=Aa (Hb2.o.trans (hb3.mono Hb2.o.size))
  clear hb3
  go_wp2_with fail
  go_ret
  exact⟨rfl,Hb3.o⟩
 |true=>
  obtain⟨v,e1,e2,h4,hk⟩:=HA.o ho
  have HP:=Aa (HP.o (Aw v) h4)
  have HK:=Aa (HK.o (fun n=>n=0) (fun S k u hb hf=>hk S k u hb hf))
  rw[ho]at HI
  rw[<-HE.o,ho]at HS
  rw[e1]at HG
  rw[e2]at HP
  simp only[Option.map_some,Option.getD_some,Option.isSome_some]at HG HP
  clear ho HA HE e1 e2 hk
  generalize Aw v=y at *
  go_wp2_with fail
  refine(HI.o _).mono ?_
  rintro e w2 ⟨rfl,hb2⟩
  have Hb2:=Aa (Hb1.o.trans (hb2.mono Hb1.o.size))
  clear hb2
  go_wp2_with fail
  refine(HS.o _).mono ?_
  rintro e w3 ⟨rfl,hb3⟩
  have Hb3:=Aa (Hb2.o.trans (hb3.mono Hb2.o.size))
  clear hb3
  go_wp2_with fail
  refine(HG.o _).mono ?_
  rintro e w4 ⟨rfl,hb4⟩
  have Hb4:=Aa (Hb3.o.trans (hb4.mono Hb3.o.size))
  clear hb4
  go_wp2_with fail
  refine(HP.o _).mono ?_
  rintro e w5 ⟨rfl,hb5⟩
  have Hb5:=Aa (Hb4.o.trans (hb5.mono Hb4.o.size))
  clear hb5
  go_wp2_with fail
  refine(HK.o _).mono ?_
  rintro e w6 ⟨⟨A6,n6,c6,ok,rfl,hok⟩,hb6⟩
  have Hb6:=Aa (Hb5.o.trans (hb6.mono Hb5.o.size))
  clear hb6
  cases ok with
  |false=>
   go_wp2_with fail
   go_ret
   exact⟨rfl,Hb6.o⟩
  |true=>
   obtain rfl:n6=0:=hok rfl
   go_wp2_with fail
   go_ret
   exact⟨rfl,Hb6.o⟩
theorem Sg(w:World)(A:Option Addr)(n c:Nat)(HD:n<=1048576->Calls prog 31 #[.slice A n c] w (Qc0 w)):
  Calls prog 8 #[.slice A n c] w fun e w'=>e=.returned (.bool true)/\Below w.heap.size w w':=by
 by_cases hn:n<=1048576
 ·exact Xu w A n c hn (HD hn)
 have t1:1048576<n:=by omega
 clear HD
 go_enter func8,ntmps8
 go_wp2_with fail
 go_ret
 exact⟨rfl,Aq _ _⟩
end
def E4(w:World)(g p:Nat):Prop:=
 ∃A n c l,w.heap[g]?=some (.cells #[.slice A n c,(p:Int)] 120 (0,0))/\Ca w A n (Cf l)/\n<=2000/\∀b off,A=some ⟨b,off,none⟩->0<n->b<g
theorem E4.lt{w:World}{g p:Nat}(h:E4 w g p):g<w.heap.size:=by
 obtain⟨A,n,c,l,hh,_⟩:=h;rcases aH g w.heap.size with h1|h1
 ·exact h1
 rw[Array.getElem?_eq_none h1]at hh;cases hh
theorem E4.below{w w':World}{g p:Nat}(h:E4 w g p)(hb:Below w w w'):E4 w' g p:=by
 have hlt:=h.lt;obtain⟨A,n,c,l,hh,hr,h2,h3⟩:=h;exact⟨A,n,c,l,(hb.block g hlt).trans hh,hr.below hb,h2,h3⟩
theorem E4.belowg{w w':World}{g p:Nat}(h:E4 w g p)(hb:Below (g+1) w w')(hs:w.heap.size<=w'.heap.size):E4 w' g p:=by
 obtain⟨A,n,c,l,hh,hr,h2,h3⟩:=h;refine⟨A,n,c,l,(hb.block g aI).trans hh,⟨hr.1,hr.2.1,fun hn=>?_⟩,h2,h3⟩;obtain⟨b,off,e,hlt,hc⟩:=hr.2.2 hn;have:=h3 b off e hn;exact⟨b,off,e,ac hlt hs,fun j u hu=>(hb.cell (p:=⟨b,off+j,none⟩) (by show b<g+1;omega)).trans (hc j u hu)⟩
theorem Ca.grown{w w':World}{g:Nat}{A:Option Addr}{n:Nat}{xs:List Value}(h:Ca w A n xs)(hg:w.grownBy w' (some g))(hne:∀b off,A=some ⟨b,off,none⟩->0<n->b≠g):Ca w' A n xs:=by
 refine⟨h.1,h.2.1,fun hn=>?_⟩;obtain⟨b,off,e,hlt,hc⟩:=h.2.2 hn;refine⟨b,off,e,ac hlt hg.size,fun j u hu=>?_⟩;exact(World.cell?_of_block (a:=⟨b,off+j,none⟩) (hg.block b hlt (fun h=>hne b off e hn (Option.some.inj h)))).trans (hc j u hu)
theorem Qfp(a b:Nat)(ha:a<4611686018427387904)(hb:b<4611686018427387904):bits .xor .i64 (a:Int) (b:Int)=((a ^^^ b:Nat):Int)/\a ^^^ b<4611686018427387904:=by
 have hx:a ^^^ b<2 ^ 62:=Nat.xor_lt_two_pow aI aI;refine⟨?_,hx⟩;show IntKind.i64.wrap ((BitVec.ofInt 64 (a:Int) ^^^ BitVec.ofInt 64 (b:Int)).toNat:Int)=_;have ho:∀a:Nat,a<4611686018427387904->(BitVec.ofInt 64 (a:Int)).toNat=a:=fun a ha=>by
  rw[BitVec.ofInt_natCast,BitVec.toNat_ofNat];exact Nat.mod_eq_of_lt aI
 rw[BitVec.toNat_xor,ho a ha,ho b hb,IntKind.wrap_i64];omega
def Nt(w:World)(g p:Nat)(l:List UInt8):Prop:=
 ∃A n c,w.heap[g]?=some (.cells #[.slice A n c,(p:Int)] 120 (0,0))/\Ca w A n (Cf l)/\n<=2000/\∀b off,A=some ⟨b,off,none⟩->0<n->b<g
theorem E4.known{w:World}{g p:Nat}(h:E4 w g p):∃l,Nt w g p l:=by
 obtain⟨A,n,c,l,h⟩:=h;exact⟨l,A,n,c,h⟩
theorem Nt.any{w:World}{g p:Nat}{l:List UInt8}(h:Nt w g p l):E4 w g p:=by
 obtain⟨A,n,c,h⟩:=h;exact⟨A,n,c,l,h⟩
theorem Nt.below{w w':World}{g p:Nat}{l:List UInt8}(h:Nt w g p l)(hb:Below w w w'):Nt w' g p l:=by
 have hlt:=h.any.lt;obtain⟨A,n,c,hh,hr,h2,h3⟩:=h;exact⟨A,n,c,(hb.block g hlt).trans hh,hr.below hb,h2,h3⟩
theorem Qc5{l:List UInt8}{i:Nat}(h:i<l.length):l.getD i 0=l[i]:=by simp[List.getD,h]
def Vz(l:List UInt8)(p:Nat)(n:Int):Nat:=
 if n<1\/l.length=0 then 0
 else if p<l.length then(((l.getD p 0).toNat:Int) % n).toNat
 else((((((l.getD (p % l.length) 0).toNat*131+(l.getD ((p*7+3) % l.length) 0).toNat*1117+p*29+p / l.length*53) ^^^ (((l.getD (p % l.length) 0).toNat*131+(l.getD ((p*7+3) % l.length) 0).toNat*1117+p*29+p / l.length*53) / 64):Nat):Int)) % n).toNat
theorem Qd9(l:List UInt8)(p:Nat)(n:Int):(1<=n->(Vz l p n:Int)<n)/\(n<1->Vz l p n=0):=by
 unfold Vz;refine⟨fun h=>?_,fun h=>if_pos (.inl h)⟩;have e:=fun x:Int=>And.intro (Int.emod_nonneg x (show n≠0 by omega)) (Int.emod_lt_of_pos x (show 0<n by omega));split
 ·omega
 split
 ·have:=e ((l.getD p 0).toNat:Int);omega
 rename_i h1 h2;have:=e (((((l.getD (p % l.length) 0).toNat*131+(l.getD ((p*7+3) % l.length) 0).toNat*1117+p*29+p / l.length*53) ^^^ (((l.getD (p % l.length) 0).toNat*131+(l.getD ((p*7+3) % l.length) 0).toNat*1117+p*29+p / l.length*53) / 64):Nat):Int));omega
def Qeg(w:World)(g p:Nat)(w':World):Prop:=∃k,w'=(w.setCell ⟨g,1,none⟩ (.int .i64 ((p:Int)+1))).drewN k
def Qkr(w:World)(g p:Nat)(n:Int)(e:Ending)(w':World):Prop:=
 ∃x:Nat,e=.returned (x:Int)/\(1<=n->(x:Int)<n)/\(n<1->x=0)/\E4 w' g (p+1)/\w.grownBy w' (some g)
theorem N5{w:World}{g p:Nat}{l:List UInt8}(h:Nt w g p l)(k:Nat):Nt ((w.setCell ⟨g,1,none⟩ (.int .i64 ((p:Int)+1))).drewN k) g (p+1) l/\w.grownBy ((w.setCell ⟨g,1,none⟩ (.int .i64 ((p:Int)+1))).drewN k) (some g):=by
 obtain⟨A,n,c,hh,hr,h2,h3⟩:=h;have hg:w.grownBy (w.setCell ⟨g,1,none⟩ (.int .i64 ((p:Int)+1))) (some g):=
  ⟨rfl,rfl,rfl,by simp,fun k _ hk=>heap_setCell_other w ⟨g,1,none⟩ k _ (fun e=>hk (by simp[e]))⟩
 have hg':w.grownBy ((w.setCell ⟨g,1,none⟩ (.int .i64 ((p:Int)+1))).drewN k) (some g):=⟨hg.os,hg.tape,hg.output,hg.size,hg.block⟩
 refine⟨⟨A,n,c,?_,hr.grown hg' (fun b off e hn=>Nat.ne_of_lt (h3 b off e hn)),h2,h3⟩,hg'⟩;have:=heap_setCell_same w g 1 _ _ (.int .i64 ((p:Int)+1)) hh;have e:((p+1:Nat):Int)=(p:Int)+1:=aI;rw[e];exact this
theorem Qcl(g p:Nat)(l:List UInt8)(n:Int)(w:World)(h:Nt w g p l)(hp:p<=1000000000)(hn:n<=1000000000)(hn0:-1000000000<=n):
  Calls prog 40 #[g,.int .i64 n] w fun e w'=>e=.returned (.int .i64 (Vz l p n:Int))/\Qeg w g p w':=by
 obtain⟨N,hN⟩:∃N,N=Vz l p n:=⟨_,rfl⟩
 rw[<-hN];unfold Vz at hN;obtain⟨A,m,c,hh,hr,h2,h3⟩:=h;have hl0:l.length=m:=by have:=hr.1;simpa [Cf]using this
 rw[hl0]at hN;have HN:=Aa hN;clear hN;have hc0:w.cell? (g,0)=some (.slice A m c):=by simp[World.cell?,hh]
 have hc1:w.cell? (g,1)=(p:Int):=by simp[World.cell?,hh]
 have hf:w.frozen? (g,1)=false:=by simp[World.frozen?,hh]
 have Hh:=Aa hh;clear hh;by_cases hn1:n<1
 ·have H3:=Aa h3;clear h3;go_enter func40,ntmps40;go_wp2
  go_ret;exact⟨by rw[HN.o,if_pos (.inl hn1)];rfl,0,rfl⟩
 by_cases hm:m=0
 ·have H3:=Aa h3;clear h3;subst hm;go_enter func40,ntmps40;go_wp2
  go_ret;exact⟨by rw[HN.o];simp,0,rfl⟩
 have hm1:0<m:=aI;have tm:((m:Int) == 0)=false:=aO;have hl:l.length=m:=by have:=hr.1;simpa [Cf]using this
 by_cases hk:p<m
 ·obtain⟨b,o,rfl,hb,hx⟩:=hr.at_ hk;have hbg:b≠g:=Nat.ne_of_lt (h3 b o rfl hm1);have hx':w.cell? ⟨b,o+p,none⟩=some (.int .u8 ((l[p]' aI).toNat:Int)):=by rw[hx];simp[Cf]
  have hlt:=(l[p]' aI).toNat_lt;have HN:=@Aa (N=(((l[p]'(show p<l.length by omega)).toNat:Int) % n).toNat) (by rw[HN.o,if_neg aI,if_pos aI,Qc5 (show p<l.length by omega)]);generalize (l[p]'(show p<l.length by omega)).toNat=y at hx' hlt HN;clear hx h3 tm;have tm:((m:Int) == 0)=false:=aO;have i1:(0:Int)<=(p:Int):=aI;have i2:(p:Int)<(m:Int):=aI;go_enter func40,ntmps40;go_wp2
  go_ret;have hn':(0:Int)<n:=aI;have e1:=Int.emod_nonneg (y:Int) (show n≠0 by omega);have e2:=Int.emod_lt_of_pos (y:Int) hn';exact⟨Er (Qb9 (by rw[HN.o];omega)),0,rfl⟩
 obtain⟨b,o,rfl,hb,hcell⟩:=hr.2.2 hm1;have hbg:b≠g:=Nat.ne_of_lt (h3 b o rfl hm1);have m1:p % m<m:=Nat.mod_lt _ hm1;have m2:(p*7+3) % m<m:=Nat.mod_lt _ hm1;have hx1:=hcell (p % m) _ (List.getElem?_eq_getElem (show p % m<(Cf l).length by rw[H5];omega));have hx2:=hcell ((p*7+3) % m) _ (List.getElem?_eq_getElem (show (p*7+3) % m<(Cf l).length by rw[H5];omega));simp only[Cf,List.getElem_map]at hx1 hx2;have hlt1:=(l[p % m]' aI).toNat_lt;have hlt2:=(l[(p*7+3) % m]' aI).toNat_lt;have hN2:=HN.o;rw[if_neg aI,if_neg aI,Qc5 (show p % m<l.length by omega),Qc5 (show (p*7+3) % m<l.length by omega)]at hN2;have HN:=Aa hN2;clear hN2;generalize (l[p % m]'(show p % m<l.length by omega)).toNat=y1 at hx1 hlt1 HN;generalize (l[(p*7+3) % m]'(show (p*7+3) % m<l.length by omega)).toNat=y2 at hx2 hlt2 HN;have M1:((p:Int).tmod m)=((p % m:Nat):Int):=by rw[Int.tmod_eq_emod_of_nonneg aI];omega
 have M2:(((p:Int)*7+3).tmod m)=(((p*7+3) % m:Nat):Int):=by rw[Int.tmod_eq_emod_of_nonneg aI];simp
 have M3:((p:Int).tdiv m)=((p / m:Nat):Int):=by rw[Int.tdiv_eq_ediv_of_nonneg aI];omega
 have m3:p / m<=p:=Nat.div_le_self _ _;generalize p % m=k1 at M1 hx1 m1;generalize (p*7+3) % m=k2 at M2 hx2 m2;generalize p / m=k3 at M3 m3 HN;have a1:IntKind.i64.wrap ((y1:Int)*131)=(y1:Int)*131:=IntWalk.i64_in _ aI;have a2:IntKind.i64.wrap ((y2:Int)*1117)=(y2:Int)*1117:=IntWalk.i64_in _ aI;have a3:IntKind.i64.wrap ((y1:Int)*131+(y2:Int)*1117)=(y1:Int)*131+(y2:Int)*1117:=IntWalk.i64_in _ aI;have a4:IntKind.i64.wrap ((p:Int)*29)=(p:Int)*29:=IntWalk.i64_in _ aI;have a5:IntKind.i64.wrap ((y1:Int)*131+(y2:Int)*1117+(p:Int)*29)=(y1:Int)*131+(y2:Int)*1117+(p:Int)*29:=IntWalk.i64_in _ aI;have a7:IntKind.i64.wrap ((k3:Int)*53)=(k3:Int)*53:=IntWalk.i64_in _ aI;have a9:IntKind.i64.wrap ((p:Int)*7)=(p:Int)*7:=IntWalk.i64_in _ aI;have a10:IntKind.i64.wrap ((p:Int)*7+3)=(p:Int)*7+3:=IntWalk.i64_in _ aI;obtain⟨z,a8,hz,hze⟩:∃z:Nat,IntKind.i64.wrap ((y1:Int)*131+(y2:Int)*1117+(p:Int)*29+(k3:Int)*53)=(z:Int)/\z<4611686018427387904/\z=y1*131+y2*1117+p*29+k3*53:=
  ⟨y1*131+y2*1117+p*29+k3*53,by rw[IntWalk.i64_in _ aI];omega,by omega,rfl⟩
 rw[<-hze]at HN;clear hze;obtain⟨hx,hxl⟩:=Qfp z (z / 64) hz aI;generalize z ^^^ (z / 64)=x at *;rw[show ((z / 64:Nat):Int)=(z:Int) / 64 from by omega]at hx;clear hcell h3 hm hr;have i1:(0:Int)<=(p:Int):=aI;have i2:(0:Int)<(m:Int):=aI;have i3:(0:Int)<=(k1:Int):=aI;have i4:(k1:Int)<(m:Int):=aI;have i5:(0:Int)<=(k2:Int):=aI;have i6:(k2:Int)<(m:Int):=aI;have j1:(0:Int)<=(z:Int):=aI;have j2:(0:Int)<=(x:Int):=aI;go_enter func40,ntmps40;go_wp2
 go_quiet (fail)
 clear a1 a2 a3 a4 a5 a7 a9 a10 a8 M1 M2 M3;go_wp2
 go_ret;have hn':(0:Int)<n:=aI;have e1:=Int.emod_nonneg (x:Int) (show n≠0 by omega);have e2:=Int.emod_lt_of_pos (x:Int) hn';exact⟨Er (Qb9 (by rw[HN.o];omega)),_,rfl⟩
theorem Bn(g p:Nat)(n:Int)(w:World)(h:E4 w g p)(hp:p<=1000000000)(hn:n<=1000000000)(hn0:-1000000000<=n):
  Calls prog 40 #[g,.int .i64 n] w (Qkr w g p n):=by
 obtain⟨l,h⟩:=h.known;refine(Qcl g p l n w h hp hn hn0).mono ?_;rintro e w' ⟨rfl,k,rfl⟩;obtain⟨h1,h2⟩:=Qd9 l p n;exact⟨_,rfl,h1,h2,(N5 h k).1.any,(N5 h k).2⟩
theorem Qhf{w:World}{A:Option Addr}{n c:Nat}{l:List UInt8}(h:Ca w A n (Cf l))(hn:n<=2000):E4 (w.alloc (.cells #[.slice A n c,.int .i64 0] 120)) w 0:=by
 refine⟨A,n,c,l,heap_alloc_new w _,h.alloc _,hn,fun b off e hpos=>?_⟩;obtain⟨b',off',e',hlt,_⟩:=h.2.2 hpos;rw[e]at e';injection e' with e';injection e' with e1;subst e1;omega
theorem Ca.take{w:World}{A:Option Addr}{n:Nat}{l:List UInt8}(h:Ca w A n (Cf l))(k:Nat)(hk:k<=n):Ca w A k (Cf (l.take k)):=by
 have hl:l.length=n:=by have:=h.1;simpa [Cf]using this
 refine⟨by simp[Cf];omega,ad hk h.2.1,fun h0=>?_⟩;obtain⟨b,off,e,hlt,hc⟩:=h.2.2 aI;refine⟨b,off,e,hlt,fun j u hu=>hc j u ?_⟩;have hj:j<k:=by
  have:=(List.getElem?_eq_some_iff.1 hu).1;simp[Cf]at this;omega
 simpa [Cf,List.getElem?_take,hj]using hu
theorem Qgm(A:Option Addr)(n c:Nat)(l:List UInt8)(w:World)(h:Ca w A n (Cf l))(hc:n<=c)(hcm:c<=maxLen):
  Calls prog 37 #[.slice A n c] w fun e w'=>∃g,e=.returned (.pointer (some ⟨g,0,none⟩))/\E4 w' g 0/\w.heap.size<=g/\Below w w w':=by
 unfold maxLen at hcm;by_cases hn:n<=2000
 ·go_enter func37,ntmps37;go_wp2
  go_goals
  go_ret;exact⟨w.heap.size,rfl,Qhf h hn,Al _,(Aq _ _).alloc (Al _) _⟩
 go_enter func37,ntmps37;go_wp2
 go_goals
 go_ret;exact⟨w.heap.size,rfl,Qhf (h.take 2000 aI) (Al _),Al _,(Aq _ _).alloc (Al _) _⟩
section
attribute [local go_sem] Qra Qpu Qo3 Qmi ByteArray.mk_append_mk
theorem Ad{a b c:World}{row:Option Nat}(h:a.grownBy b row)(k:b.grownBy c row):a.grownBy c row:=
 ⟨k.os.trans h.os,k.tape.trans h.tape,k.output.trans h.output,ad h.size k.size,fun i hi hne=>(k.block i (ac hi h.size) hne).trans (h.block i hi hne)⟩
theorem Cb{a w:World}(h:Below a a w)(row:Option Nat):a.grownBy w row:=⟨h.os,h.tape,h.output,h.size,fun i hi _=>h.block i hi⟩
theorem Fu{a b:World}{row:Option Nat}(h:a.grownBy b row):a.grownBy b.drew row:=⟨h.os,h.tape,h.output,h.size,h.block⟩
theorem E4.ddrew{w:World}{g p:Nat}(h:E4 w g p):E4 w.drew g p:=h
theorem E4.dalloc{w:World}{g p:Nat}(h:E4 w g p)(o:Obj):E4 (w.alloc o) g p:=h.below ((Aq _ _).alloc (Al _) o)
def Jw(W:World)(b:Nat)(ls:List (List UInt8)):Prop:=W.heap[b]?=some (.cells (Bz ls).toArray 9 (0,0))
theorem Jw.new(W:World)(ls:List (List UInt8)):Jw (W.alloc (.cells (Bz ls).toArray 9)) W.heap.size ls:=heap_alloc_new W _
theorem Jw.lt{W:World}{b:Nat}{ls:List (List UInt8)}(h:Jw W b ls):b<W.heap.size:=by
 rcases aH b W.heap.size with h1|h1
 ·exact h1
 unfold Jw at h;rw[Array.getElem?_eq_none h1]at h;cases h
theorem Jw.grown{W W':World}{b r:Nat}{ls:List (List UInt8)}(h:Jw W b ls)(hg:W.grownBy W' (some r))(hne:b≠r):Jw W' b ls:=
 (hg.block b h.lt (fun e=>hne (Option.some.inj e))).trans h
theorem Jw.cell{W:World}{b j:Nat}{ls:List (List UInt8)}(h:Jw W b ls)(hj:j<ls.length):∃s,s∈ls/\W.cell? ⟨b,j,none⟩=some (.string ⟨s.toArray⟩):=
 ⟨ls[j],ae hj,by unfold Jw at h;simp[World.cell?,h,Bz,hj]⟩
def N7(Q:List UInt8->Prop)(w:World)(g p m:Nat)(e:Ending)(w':World):Prop:=
 ∃(l:List UInt8) (q:Nat),e=.returned l/\Q l/\q<=p+m/\E4 w' g q/\w.grownBy w' (some g)
def T7:List (List UInt8):=[[110],[116],[102],[110],[116],[64,97,59],[64,98,59],[64,99,59]]
def Ti:List (List UInt8):=[[],[120],[64,59],[64,65,59],[91],[63,63,63,63,63,63,63,63,63,63,63,63,63,63,110],[64,97],[110,110]]
def DK(l:List UInt8):Prop:=(∃sg b,l=sg++b/\sg.length<=2/\sg.all Bi=true/\b∈T7)\/l∈Ti
theorem DK.len{l:List UInt8}(h:DK l):l.length<=15:=by
 rcases h with⟨sg,b,rfl,h1,_,h3⟩|h
 ·have:∀b∈T7,b.length<=3:=aL;have:=this b h3;rw[ah];omega
 have:∀b∈Ti,b.length<=15:=aL;exact this l h
theorem Py(g p:Nat)(w:World)(h:E4 w g p)(hp:p<=100000000):
  Calls prog 111 #[g] w (N7 DK w g p 7):=by
 have hgl:=h.lt;have HR:=Aa h;clear h;go_enter func111,ntmps111;go_wp2_with fail;refine(Bn g p 8 _ (HR.o.dalloc _) aI aI aI).mono ?_;rintro e w1 ⟨x,rfl,hx1,_,hR1,hg1⟩;have hx:x<T7.length:=by show x<8;omega
 obtain⟨b,hbm,hcell⟩:=((Jw.new w T7).grown hg1 aI).cell hx;have hbl:b.length<=3:=(show ∀b∈T7,b.length<=3 by decide) b hbm;have i1:(0:Int)<=(x:Int):=aI;have i2:(x:Int)<8:=aI;have HR1:=Aa hR1;have Hg1:=Aa (Ad (World.grownBy_alloc w _ (some g)) hg1);have Hbm:=Aa hbm;clear hR1 hg1 hbm HR hx hx1;go_wp2_with fail;refine(Bn g (p+1) 4 _ HR1.o aI aI aI).mono ?_;rintro e w2 ⟨y,rfl,hy1,_,hR2,hg2⟩;have hy:y<=3:=aI;have HR2:=Aa hR2;have Hg2:=Aa (Ad Hg1.o hg2);clear hR2 hg2 HR1 Hg1 hy1 hcell;go_wp2_with fail;go_loopw [3,4] (fun s k wr=>∃(sg:List UInt8) (x q:Nat),s=.string ⟨(sg++b).toArray⟩/\k=.int .i64 x/\sg.length+x<=3/\(x=0->sg=[])/\Hid (sg.all Bi=true)/\q+x<=p+5/\g<wr.heap.size/\Hid (E4 wr g q)/\Hid (w.grownBy wr (some g))) (fun _ k _=>(intOf k).toNat)
 case atStart=>exact⟨[],y,p+2,by simp,rfl,by simp;omega,fun _=>rfl,rfl,by omega,HR2.o.lt,HR2.o,Hg2.o⟩
 case round=>
  obtain⟨sg,x,q,rfl,rfl,hlen,h0,hsg,hq,hgw,hR,hg⟩:=hrel;by_cases hx:1<x
  ·have hxi:(1:Int)<(x:Int):=aI;go_wp2_with fail;refine(Bn g q 3 _ (hR.o.dalloc _) aI aI aI).mono ?_;rintro e w3 ⟨z,rfl,hz1,_,hR3,hg3⟩;have hz:z<([[91],[63],[91]]:List (List UInt8)).length:=by show z<3;omega
   obtain⟨s3,hsm,hcell⟩:=((Jw.new wr [[91],[63],[91]]).grown hg3 aI).cell hz;obtain⟨c,rfl,hc⟩:∃c,s3=[c]/\Bi c=true:=by
    simp at hsm;rcases hsm with rfl|rfl|rfl
    ·exact⟨91,rfl,by decide⟩
    ·exact⟨63,rfl,by decide⟩
    exact⟨91,rfl,by decide⟩
   have j1:(0:Int)<=(z:Int):=aI;have j2:(z:Int)<3:=aI;have HR3:=Aa hR3;have hg3l:=hR3.lt;have Hg3:=Aa (Ad hg.o (Ad (World.grownBy_alloc wr _ (some g)) hg3));have Hc:=Aa hc;have Hsg:=Aa hsg.o;clear hR3 hg3 hsm hc;go_wp2_with fail;go_roundw
   case rel=>exact⟨c::sg,x - 1,q+1,by simp,by go_num,by simp;omega,fun h=>by omega,by show List.all _ _=_;rw[List.all_cons,Hc.o,Hsg.o];rfl,by omega,hg3l,HR3.o,Hg3.o⟩
   case measure=>simp[intOf];omega
  ·have hxi:¬(1:Int)<(x:Int):=aI
   have Hsl:=Aa (show sg.length<=2 by
    by_cases hx0:x=0
    ·rw[h0 hx0];simp
    omega)
   have HRa:=Aa hR.o;have Hga:=Aa hg.o;have Hsg:=Aa hsg.o;go_wp2_with fail;refine(Bn g q 30 _ HRa.o aI aI aI).mono ?_;rintro e w3 ⟨z,rfl,hz1,_,hR3,hg3⟩;have HR3:=Aa hR3;have Hg3:=Aa (Ad Hga.o hg3);have hg3l:=hR3.lt;clear hR3 hg3 HRa Hga;by_cases hz0:z=0
   ·subst hz0;go_wp2_with fail;refine(Bn g (q+1) 8 _ (HR3.o.dalloc _) aI aI aI).mono ?_;rintro e w4 ⟨u,rfl,hu1,_,hR4,hg4⟩;have hu:u<Ti.length:=by show u<8;omega
    obtain⟨s4,hsm,hcell⟩:=((Jw.new w3 Ti).grown hg4 aI).cell hu;have k1:(0:Int)<=(u:Int):=aI;have k2:(u:Int)<8:=aI;have HR4:=Aa hR4;have Hg4:=Aa (Ad Hg3.o (Ad (World.grownBy_alloc w3 _ (some g)) hg4));have Hsm:=Aa hsm;clear hR4 hg4 hsm;go_wp2_with fail;go_ret;exact⟨s4,q+1+1,rfl,.inr Hsm.o,by omega,HR4.o,Hg4.o⟩
   have hz2:((z:Int) == 0)=false:=aO;go_wp2_with fail;go_ret;exact⟨sg++b,q+1,rfl,.inl ⟨sg,b,rfl,Hsl.o,Hsg.o,Hbm.o⟩,by omega,HR3.o,Hg3.o⟩
def DrH(Q1 Q2:List UInt8->Prop):Prop:=(∀l,Q1 l->l.length<=100000)/\(∀l,Q2 l->l.length<=100000) /\
 (∀(g p:Nat) (W:World),E4 W g p->p<=100000->Calls prog 77 #[.pointer (some ⟨g,0,none⟩)] W (N7 Q1 W g p 170)) /\
 (∀(g p:Nat) (s:List UInt8) (W:World),E4 W g p->p<=100000->s.length<=100000->Calls prog 78 #[.pointer (some ⟨g,0,none⟩),.string ⟨s.toArray⟩] W (N7 Q2 W g p 10)) /\
 ∀(g p:Nat) (s k:List UInt8) (W:World),E4 W g p->p<=100000->s.length<=100000->k.length<=100000->Calls prog 52 #[.pointer (some ⟨g,0,none⟩),.string ⟨s.toArray⟩,.string ⟨k.toArray⟩] W (N7 (fun l=>l.length<=20000) W g p 40000000)
theorem Qdv{Q1 Q2:List UInt8->Prop}(H:DrH Q1 Q2)(g p:Nat)(w:World)(h:E4 w g p)(hp:p<=1000):
  Calls prog 38 #[.pointer (some ⟨g,0,none⟩)] w fun e w'=>∃(a b s:List UInt8) (q:Nat),e=.returned (.tuple #[.string ⟨a.toArray⟩,.string ⟨b.toArray⟩,.string ⟨s.toArray⟩])/\a.length<=100000/\b.length<=100000/\s.length<=100000/\q<=p+50000000/\E4 w' g q/\w.grownBy w' (some g):=by
 have H:=Aa H
 have HR:=Aa h
 clear h
 go_enter func38,ntmps38
 go_wp2_with fail
 refine(H.o.2.2.1 g p w HR.o (by omega)).mono ?_
 rintro e w1 ⟨a,q1,rfl,ha,hq1,hR1,hg1⟩
 have HR1:=Aa hR1
 have Hg1:=Aa hg1
 have hal:=H.o.1 a ha
 clear hR1 hg1 ha
 go_wp2_with fail
 refine(H.o.2.2.2.1 g q1 a _ HR1.o (by omega) hal).mono ?_
 rintro e w2 ⟨b,q2,rfl,hb,hq2,hR2,hg2⟩
 have HR2:=Aa hR2
 have Hg2:=Aa (Ad Hg1.o hg2)
 have hbl:=H.o.2.1 b hb
 clear hR2 hg2 hb
 go_wp2_with fail
 refine(H.o.2.2.2.2 g q2 a b _ HR2.o (by omega) hal hbl).mono ?_
 rintro e w3 ⟨s,q3,rfl,hs,hq3,hR3,hg3⟩
 have HR3:=Aa hR3
 have Hg3:=Aa (Ad Hg2.o hg3)
 clear hR3 hg3
 go_wp2_with fail
 refine bodyPost_ret (v:=.tuple #[.string ⟨a.toArray⟩,.string ⟨b.toArray⟩,.string ⟨s.toArray⟩]) (by simp[results,results38,go_sem]) rfl ?_
 exact⟨a,b,s,q3,rfl,hal,hbl,by omega,by omega,HR3.o,Hg3.o⟩
end
theorem Qdc(W:World)(gb n:Nat)(l:List UInt8)(hn:n=l.length)(h:W.rangeAt gb 0 (Cf l)):(convert 22 9 (.slice (some ⟨gb,0,none⟩) n n)).run prog W=.ok (.string ⟨l.toArray⟩) W:=by
 subst hn
 have h:=run_convert_bytes_arg (P:=prog) W 22 5 underlying22 underlying5 gb 0 l.length l.length (l.map fun c=>(c.toNat:Int)) (by simp) (fun i hi=>by
  have:=h i (.int .u8 (l[i].toNat:Int)) (by simp[Cf,hi])
  rw[this];simp[List.getD,hi]) 9 underlying9
 rw[h]
 have:strOfNums (l.map fun c=>(c.toNat:Int))=⟨l.toArray⟩:=by simp[strOfNums,Function.comp_def]
 rw[this]
structure BQ(w1:World)(g q c:Nat)(lb:Bool)(ub:Value)(W:World):Prop where
 gr:w1.grownBy W (some g)
 rd:∃q',q'<=q+c/\E4 W g q'
 bl:lb=true->∃gb bs,ub=.slice (some ⟨gb,0,none⟩) bs.length bs.length/\gb≠g/\gb<W.heap.size/\W.rangeAt gb 0 (Cf bs)
def BY(w1:World)(g q p1 p2 b:Nat)(l:Nat->Bool)(u:Nat->Value)(W:World):Prop:=BQ w1 g q ((l p1).toNat+(l p2).toNat) (l b) (u b) W
section
variable {w1 W w':World} {g q c p1 p2 b:Nat} {lb:Bool} {ub:Value} {l:Nat->Bool} {u:Nat->Value}
theorem BY.to(h:BY w1 g q p1 p2 b l u W):BQ w1 g q ((l p1).toNat+(l p2).toNat) (l b) (u b) W:=h
theorem BQ.turn(h:BQ w1 g q c lb ub W)(hg:W.grownBy w' (some g)){q':Nat}(hR:E4 w' g q'){c':Nat}(hq:q'<=q+c'):BQ w1 g q c' lb ub w':=
 ⟨Ad h.gr hg,⟨q',hq,hR⟩,fun e=>by
  obtain⟨gb,bs,e1,e2,e3,e4⟩:=h.bl e
  exact⟨gb,bs,e1,e2,Nat.lt_of_lt_of_le e3 hg.size,fun j v hv=>(World.cell?_of_block (a:=⟨gb,0+j,none⟩) (hg.block gb e3 fun e=>e2 (Option.some.inj e))).trans (e4 j v hv)⟩⟩
theorem BQ.lay(h:BQ w1 g q c false ub W)(bs:List UInt8)(T:TypeId):BQ w1 g q c true (.slice (some ⟨W.heap.size,0,none⟩) bs.length bs.length) (W.alloc (.cells (Cf bs).toArray T)):=by
 obtain⟨q',hq,hr⟩:=h.rd
 have hb:=(Aq W.heap.size W).alloc (Al _) (.cells (Cf bs).toArray T)
 exact⟨Ad h.gr (World.grownBy_alloc W _ _),⟨q',hq,hr.below hb⟩,fun _=>⟨W.heap.size,bs,rfl,by have:=hr.lt;omega,by simp,Br W _ _⟩⟩
end
section
variable {P:Program} {ops:Array Oper} {Q:Exit->Act->World->Prop} {a:Act} {mk:(Nat->Value)->Act} {w1:World} {g q p1 p2 b:Nat}
theorem rgY{id:Nat}(p1 p2 b:Nat){w:World}(hR:E4 w g q)(h:Sq P ops Q a mk (BY w g q p1 p2 b) (fun _=>True) ops.toList 0 [])
  (hc:(P.follows .mixedOrders && (List.range ops.size).all (fun i=>((ops[i]?).map fun o=>o.after.all fun e=>!Region.binds .any e || decide (e.on<i)).getD true) && Fp a.tmps.size ops.toList (C7 ops.toList))=true:=by kernel_rfl)
  (hmk:∀u,Bl a (C7 ops.toList) u=mk u:=by intro u;dsimp only[Bl,C7,Bk,List.set,Nat.zero_add,Nat.reduceAdd,List.length_cons,List.length_nil]):(Code.region id ops true).wp P Q a w:=
 rgF (BY w g q p1 p2 b) _ (fun _ _ _ _=>Ae) ⟨Fu (Cb (Aq _ _) _),⟨q,by simp,hR⟩,fun h=>Bool.noConfusion h⟩ h hc hmk
end
section
attribute [local go_sem] Qra Qpu Qo3 Qmi ByteArray.mk_append_mk
theorem Qe9{Q1 Q2:List UInt8->Prop}(H:DrH Q1 Q2)(g q:Nat)(w:World)(h:E4 w g q)(hq:q<=1000)
  (HS:∀s d x:List UInt8,s.length<=100000->d.length<=100000->x.length<=100000->∀W,Calls prog 66 #[.string ⟨s.toArray⟩,.string ⟨d.toArray⟩,.string ⟨x.toArray⟩] W fun e w'=>∃(t:List UInt8) (ok:Bool),e=.returned (.tuple #[.string ⟨t.toArray⟩,.bool ok])/\t.length<=600/\Below W.heap.size W w'):
  Calls prog 71 #[.pointer (some ⟨g,0,none⟩)] w fun e w'=>∃(a b s:List UInt8),e=.returned (.tuple #[.string ⟨a.toArray⟩,.string ⟨b.toArray⟩,.string ⟨s.toArray⟩])/\a.length<=100000/\b.length<=100000/\s.length<=100000/\w.grownBy w' (some g):=by
 have H:=Aa H
 have HS:=Aa HS
 have HR:=Aa h
 clear h
 go_enter func71,ntmps71
 go_wp2_with fail
 refine(Qdv H.o g q _ HR.o (by omega)).mono ?_
 rintro e w1 ⟨a,b,s,q1,rfl,ha,hb,hs,hq1,hR1,hg1⟩
 have HR1:=Aa hR1
 have Hg1:=Aa hg1
 clear hR1 hg1
 go_wp2_with fail
 refine(HS.o a b s ha hb hs _).mono ?_
 rintro e w2 ⟨t,ok,rfl,ht,hb2⟩
 have HR2:=Aa (HR1.o.below hb2)
 have Hg2:=Aa (Ad Hg1.o (Cb hb2 _))
 clear hb2 HR HR1 Hg1 hs
 go_upto_if 25 with fail
 go_cut [8]from 10 (fun s8 wx=>∃t:List UInt8,s8=.string ⟨t.toArray⟩/\t.length<=600/\Hid (E4 wx g q1)/\Hid (w.grownBy wx (some g)))
 case first=>
  cases ok with
  |true=>
   go_wp2_with fail
   go_meet
   exact⟨t,rfl,ht,HR2.o,Hg2.o⟩
  |false=>
   have hcv:=Qdc (w2.alloc (.cells #[.int .u8 1,.int .u8 1,.int .u8 5,.int .u8 0] 5)) w2.heap.size 4 [1,1,5,0] rfl (Br w2 _ _)
   go_wp2_with fail
   go_meet
   have hb3:=(Aq w2.heap.size w2).alloc (Al _) (.cells #[.int .u8 1,.int .u8 1,.int .u8 5,.int .u8 0] 5)
   exact⟨[1,1,5,0],rfl,by decide,HR2.o.below hb3,Ad Hg2.o (Cb hb3 _)⟩
 case rest=>
  clear ht HR2 Hg2
  obtain⟨t,rfl,ht,HR3,Hg3⟩:=hcut
  obtain⟨w3,rfl⟩:∃w3,w3=wc:=⟨_,rfl⟩
  go_upto_region 5 with fail
  go_cut [35]from 10 (fun b35 wx=>∃tb:Bool,b35=.bool tb/\(tb=true->0<t.length)/\Hid (E4 wx g (q1+1))/\Hid (w.grownBy wx (some g)))
  case first=>
   go_wp2_with fail
   refine(Bn g q1 4 _ HR3.o (by omega) (by omega) (by omega)).mono ?_
   rintro e w4 ⟨x,rfl,hx,_,hR4,hg4⟩
   have HR4:=Aa hR4
   have Hg4:=Aa (Ad Hg3.o hg4)
   clear hR4 hg4
   by_cases hx0:x=0
   ·have t1:((x:Int) == 0)=true:=by simp[hx0]
    clear hx0 hx
    by_cases ht0:0<t.length
    ·have t2:(0:Int)<(t.length:Int):=by omega
     go_wp2_with fail
     go_meet
     exact⟨true,rfl,fun _=>ht0,HR4.o,Hg4.o⟩
    have t2:¬(0:Int)<(t.length:Int):=by omega
    go_wp2_with fail
    go_meet
    exact⟨false,rfl,fun h=>Bool.noConfusion h,HR4.o,Hg4.o⟩
   ·have t1:((x:Int) == 0)=false:=by simpa using hx0
    clear hx0 hx
    go_wp2_with fail
    go_meet
    exact⟨false,rfl,fun h=>Bool.noConfusion h,HR4.o,Hg4.o⟩
  case rest=>
   obtain⟨tb,rfl,htb,HR4,Hg4⟩:=hcut
   obtain⟨w4,rfl⟩:∃w4,w4=wc:=⟨_,rfl⟩
   clear HR3 Hg3
   go_upto_if 35 with fail
   go_cut [8]from 10 (fun s8 wx=>∃(t:List UInt8) (q':Nat),s8=.string ⟨t.toArray⟩/\t.length<=2000/\q'<=100000000/\Hid (E4 wx g q')/\Hid (w.grownBy wx (some g)))
   case first=>
    cases tb with
    |false=>
     go_wp2_with fail
     go_meet
     exact⟨t,q1+1,rfl,by omega,by omega,HR4.o,Hg4.o⟩
    |true=>
     have ht0:=htb rfl
     clear htb
     go_wp2_with fail
     refine(Bn g (q1+1) t.length _ HR4.o (by omega) (by omega) (by omega)).mono ?_
     rintro e w5 ⟨k,rfl,hk,_,hR5,hg5⟩
     have Hg5:=Aa (Ad Hg4.o hg5)
     have HR5:=Aa hR5
     have hkl:=hk (by omega)
     clear hR5 hg5 hk HR4 Hg4
     have k1:(0:Int)<=(k:Int):=by omega
     have k2:(k:Int)<=(t.length:Int):=by omega
     go_wp2_with fail
     refine rgY 4 12 6 HR5.o ?_
     refine sqI 16 ?_
     iterate 3 refine sq ?_
     refine Ju (fun v=>∃x:Nat,v=.int .i64 x/\x<256) (by
      intro l u W hl hp hF hG hi K hK
      have h:=BY.to hF.o
      rw[hl]at h
      obtain⟨q',hq',hr⟩:=h.rd
      have hc9:=Bool.toNat_le (l 12)
      simp only[Bool.toNat_false,Nat.zero_add,Nat.add_zero]at hq'
      simp[Region.binds,Co]at hp
      have HK:=Aa (fun w' hg hR=>h.turn (w':=w') hg (q':=q'+1) hR (c':=(true:Bool).toNat+(l 12).toNat) (by simp;omega))
      clear hG hi hF h
      go_simp
      refine(Bn g q' 256 W hr (by omega) (by omega) (by omega)).mono ?_
      rintro e w' ⟨x,rfl,hx,_,hR,hg⟩
      exact hK _ _ _ ⟨x,rfl,by omega⟩ (HK.o w' hg hR) (by simp[Act.put,hp])) ?_
     refine Ju (fun v=>∃c:UInt8,v=.int .u8 (c.toNat:Int)) (by
      intro l u W hl hp hF hG hi K hK
      simp[Region.binds,Co]at hp
      obtain⟨_,x,e4,hx⟩:=hp
      have b1:IntKind.u8.wrap (x:Int)=(x:Int):=IntWalk.u8_in _ (by omega)
      clear hG hi
      go_simp
      exact hK (.int .u8 (x:Int)) _ _ ⟨Bx x,by rw[Bo hx]⟩ hF.o (by simp[Act.put,e4])) ?_
     refine Ju (fun v=>∃gb:Nat,v=.slice (some ⟨gb,0,none⟩) 1 1) (by
      intro l u W hl hp hF hG hi K hK
      simp[Region.binds,Co]at hp
      obtain⟨_,c9,e5⟩:=hp
      have h:=BY.to hF.o
      rw[hl]at h
      have HL:=Aa (h.lay [c9] 5)
      clear hG hi h
      go_simp
      exact hK (.slice (some ⟨W.heap.size,0,none⟩) 1 1) _ _ ⟨W.heap.size,rfl⟩ HL.o (by simp[Act.put,e5])) ?_
     refine Ju (fun v=>∃bs:List UInt8,v=.string ⟨bs.toArray⟩/\bs.length=1) (by
      intro l u W hl hp hF hG hi K hK
      simp[Region.binds,Co]at hp
      obtain⟨l6,gb,e6⟩:=hp
      obtain⟨gb',bs,e7,_,_,hr⟩:=(BY.to hF.o).bl l6
      rw[e6]at e7
      injection e7 with e7 e8 e9
      clear e9
      injection e7 with e7
      injection e7 with e7 _
      subst e7
      have hcv:=Qdc W gb 1 bs e8 hr
      have E8:=Aa e8.symm
      clear e8
      clear hG hi hr
      go_simp
      refine hK (.string ⟨bs.toArray⟩) _ _ ⟨bs,rfl,E8.o⟩ hF.o ?_
      simp[Act.put,e6]) ?_
     refine Ju (fun v=>∃s:List UInt8,v=.string ⟨s.toArray⟩/\s.length<=601) (by
      intro l u W hl hp hF hG hi K hK
      simp[Region.binds,Co]at hp
      obtain⟨⟨_,e2⟩,_,bs,e7,hb⟩:=hp
      clear hG hi
      go_simp
      rw[if_neg (by simp[maxLen];omega)]
      go_simp
      refine hK (.string ⟨(t.take k++bs).toArray⟩) _ _ ⟨t.take k++bs,rfl,by simp;omega⟩ hF.o ?_
      simp[Act.put,e2,e7]) ?_
     refine sqI 16 ?_
     iterate 2 refine sq ?_
     refine Ju (fun v=>∃x:Nat,v=.int .i64 x/\x<2) (by
      intro l u W hl hp hF hG hi K hK
      have h:=BY.to hF.o
      rw[hl]at h
      obtain⟨q',hq',hr⟩:=h.rd
      have hc9:=Bool.toNat_le (l 4)
      simp only[Bool.toNat_false,Nat.zero_add,Nat.add_zero]at hq'
      simp[Region.binds,Co]at hp
      have HK:=Aa (fun w' hg hR=>h.turn (w':=w') hg (q':=q'+1) hR (c':=(l 4).toNat+(true:Bool).toNat) (by simp;omega))
      clear hG hi hF h
      go_simp
      refine(Bn g q' 2 W hr (by omega) (by omega) (by omega)).mono ?_
      rintro e w' ⟨x,rfl,hx,_,hR,hg⟩
      exact hK _ _ _ ⟨x,rfl,by omega⟩ (HK.o w' hg hR) (by simp[Act.put,hp])) ?_
     refine Ju (fun v=>∃z:Nat,v=.int .i64 (z:Int)/\z<=t.length) (by
      intro l u W hl hp hF hG hi K hK
      simp[Region.binds,Co]at hp
      obtain⟨⟨_,e10⟩,_,y,e12,hy⟩:=hp
      have b1:IntKind.i64.wrap ((k:Int)+(y:Int))=(k:Int)+(y:Int):=IntWalk.i64_in _ (by omega)
      clear hG hi
      go_simp
      exact hK (.int .i64 ((k:Int)+(y:Int))) _ _ ⟨k+y,by simp,by omega⟩ hF.o (by simp[Act.put,e10,e12])) ?_
     refine Ju (fun v=>∃s:List UInt8,v=.string ⟨s.toArray⟩/\s.length<=600) (by
      intro l u W hl hp hF hG hi K hK
      simp[Region.binds,Co]at hp
      obtain⟨⟨_,e9⟩,_,z,e13,hz⟩:=hp
      have z1:(0:Int)<=(z:Int):=by omega
      have z2:(z:Int)<=(t.length:Int):=by omega
      clear hG hi
      go_simp
      refine hK (.string ⟨(t.drop z).toArray⟩) _ _ ⟨t.drop z,rfl,by simp;omega⟩ hF.o ?_
      simp[Act.put,e9,e13]) ?_
     refine Ju (fun v=>∃s:List UInt8,v=.string ⟨s.toArray⟩/\s.length<=2000) (by
      intro l u W hl hp hF hG hi K hK
      simp[Region.binds,Co]at hp
      obtain⟨⟨_,s8,e8,h8⟩,_,s14,e14,h14⟩:=hp
      clear hG hi
      go_simp
      rw[if_neg (by simp[maxLen];omega)]
      go_simp
      refine hK (.string ⟨(s8++s14).toArray⟩) _ _ ⟨s8++s14,rfl,by simp;omega⟩ hF.o ?_
      simp[Act.put,e8,e14]) ?_
     refine Ju (fun v=>∃s:List UInt8,v=.string ⟨s.toArray⟩/\s.length<=2000) (by
      intro l u W hl hp hF hG hi K hK
      simp[Region.binds,Co]at hp
      obtain⟨⟨_,s15,e15,h15⟩,hp⟩:=hp
      clear hG hi
      go_simp
      exact hK (.string ⟨s15.toArray⟩) _ _ ⟨s15,rfl,h15⟩ hF.o (by simp[Act.put,e15,hp])) ?_
     intro l u W hl hu hF
     simp only[N6,List.nil_append,List.cons_append,Nat.zero_add,Nat.reduceAdd]at hu
     obtain⟨_,_,_,_,_,_,_,_,_,_,_,_,_,_,_,_,⟨s9,e16,hs9⟩,_⟩:=hu
     simp only[e16]
     obtain⟨hg,⟨q',hq',hr⟩,_⟩:=BY.to hF
     have hc4:=Bool.toNat_le (l 4)
     have hc12:=Bool.toNat_le (l 12)
     have Hr:=Aa hr
     have Hg:=Aa (Ad Hg5.o hg)
     clear hF hg hr hl
     go_wp2_with fail
     go_meet
     exact⟨s9,q',rfl,hs9,by omega,Hr.o,Hg.o⟩
   case rest=>
    clear htb ht HR4 Hg4
    obtain⟨t,q2,rfl,ht,hq2,HR6,Hg6⟩:=hcut
    obtain⟨w6,rfl⟩:∃w6,w6=wc:=⟨_,rfl⟩
    go_upto_region 8 with fail
    go_cut [71]from 10 (fun b71 wx=>∃tb:Bool,b71=.bool tb/\(tb=true->0<t.length)/\Hid (E4 wx g (q2+1))/\Hid (w.grownBy wx (some g)))
    case first=>
     go_wp2_with fail
     refine(Bn g q2 4 _ HR6.o (by omega) (by omega) (by omega)).mono ?_
     rintro e w7 ⟨x,rfl,hx,_,hR7,hg7⟩
     have HR7:=Aa hR7
     have Hg7:=Aa (Ad Hg6.o hg7)
     clear hR7 hg7
     by_cases hx0:x=0
     ·have t1:((x:Int) == 0)=true:=by simp[hx0]
      clear hx0 hx
      by_cases ht0:0<t.length
      ·have t2:(0:Int)<(t.length:Int):=by omega
       have wl:IntKind.i64.wrap ((t.length:Int) - 1)=(t.length:Int) - 1:=IntWalk.i64_in _ (by omega)
       have i1:(0:Int)<=(t.length:Int) - 1:=by omega
       have i2:(t.length:Int) - 1<(t.length:Int):=by omega
       have i3:((t.length:Int) - 1).toNat=t.length - 1:=by omega
       obtain⟨c,hc⟩:∃c,t[t.length - 1]?=some c:=⟨_,List.getElem?_eq_getElem (by omega)⟩
       go_wp2_with fail
       go_meet
       exact⟨_,rfl,fun _=>ht0,HR7.o,Hg7.o⟩
      have t2:¬(0:Int)<(t.length:Int):=by omega
      go_wp2_with fail
      go_meet
      exact⟨false,rfl,fun h=>Bool.noConfusion h,HR7.o,Hg7.o⟩
     ·have t1:((x:Int) == 0)=false:=by simpa using hx0
      clear hx0 hx
      go_wp2_with fail
      go_meet
      exact⟨false,rfl,fun h=>Bool.noConfusion h,HR7.o,Hg7.o⟩
    case rest=>
     obtain⟨tb,rfl,htb,HR7,Hg7⟩:=hcut
     obtain⟨w7,rfl⟩:∃w7,w7=wc:=⟨_,rfl⟩
     clear HR6 Hg6
     go_upto_if 71 with fail
     go_cut [8]from 10 (fun s8 wx=>∃t:List UInt8,s8=.string ⟨t.toArray⟩/\t.length<=100000/\Hid (w.grownBy wx (some g)))
     case first=>
      cases tb with
      |false=>
       go_wp2_with fail
       go_meet
       exact⟨t,rfl,by omega,Hg7.o⟩
      |true=>
       have ht0:=htb rfl
       clear htb
       have wl:IntKind.i64.wrap ((t.length:Int) - 1)=(t.length:Int) - 1:=IntWalk.i64_in _ (by omega)
       have i1:(0:Int)<=(t.length:Int) - 1:=by omega
       have i2:(t.length:Int) - 1<=(t.length:Int):=by omega
       have i3:((t.length:Int) - 1).toNat=t.length - 1:=by omega
       have i4:(1:Int)<=(t.length:Int):=by omega
       go_upto_region 9 with fail
       refine rgY 6 6 9 HR7.o ?_
       refine sqI 12 ?_
       refine sqI 12 ?_
       iterate 4 refine sq ?_
       refine Ju (fun v=>∃x:Nat,v=.int .i64 x/\x<20) (by
        intro l u W hl hp hF hG hi K hK
        have h:=BY.to hF.o
        rw[hl]at h
        obtain⟨q',hq',hr⟩:=h.rd
        simp only[Bool.toNat_false,Nat.zero_add,Nat.add_zero]at hq'
        simp[Region.binds,Co]at hp
        have HK:=Aa (fun w' hg hR=>h.turn (w':=w') hg (q':=q'+1) hR (c':=(true:Bool).toNat+(true:Bool).toNat) (by simp;omega))
        clear hG hi hF h
        go_simp
        refine(Bn g q' 20 W hr (by omega) (by omega) (by omega)).mono ?_
        rintro e w' ⟨x,rfl,hx,_,hR,hg⟩
        exact hK _ _ _ ⟨x,rfl,by omega⟩ (HK.o w' hg hR) (by simp[Act.put,hp])) ?_
       refine Ju (fun v=>∃x:Nat,v=.int .i64 (x:Int)/\x<256) (by
        intro l u W hl hp hF hG hi K hK
        simp[Region.binds,Co]at hp
        obtain⟨_,x,e6,hx⟩:=hp
        have b1:IntKind.i64.wrap (90+(x:Int))=90+(x:Int):=IntWalk.i64_in _ (by omega)
        clear hG hi
        go_simp
        exact hK (.int .i64 (90+(x:Int))) _ _ ⟨90+x,by simp,by omega⟩ hF.o (by simp[Act.put,e6])) ?_
       refine Ju (fun v=>∃c:UInt8,v=.int .u8 (c.toNat:Int)) (by
        intro l u W hl hp hF hG hi K hK
        simp[Region.binds,Co]at hp
        obtain⟨_,x,e4,hx⟩:=hp
        have b1:IntKind.u8.wrap (x:Int)=(x:Int):=IntWalk.u8_in _ (by omega)
        clear hG hi
        go_simp
        exact hK (.int .u8 (x:Int)) _ _ ⟨Bx x,by rw[Bo hx]⟩ hF.o (by simp[Act.put,e4])) ?_
       refine Ju (fun v=>∃gb:Nat,v=.slice (some ⟨gb,0,none⟩) 5 5) (by
        intro l u W hl hp hF hG hi K hK
        simp[Region.binds,Co]at hp
        obtain⟨_,c9,e5⟩:=hp
        have h:=BY.to hF.o
        rw[hl]at h
        have HL:=Aa (h.lay [c9,2,7,7,0] 5)
        clear hG hi h
        go_simp
        exact hK (.slice (some ⟨W.heap.size,0,none⟩) 5 5) _ _ ⟨W.heap.size,rfl⟩ HL.o (by simp[Act.put,e5])) ?_
       refine Ju (fun v=>∃bs:List UInt8,v=.string ⟨bs.toArray⟩/\bs.length=5) (by
        intro l u W hl hp hF hG hi K hK
        simp[Region.binds,Co]at hp
        obtain⟨l6,gb,e6⟩:=hp
        obtain⟨gb',bs,e7,_,_,hr⟩:=(BY.to hF.o).bl l6
        rw[e6]at e7
        injection e7 with e7 e8 e9
        clear e9
        injection e7 with e7
        injection e7 with e7 _
        subst e7
        have hcv:=Qdc W gb 5 bs e8 hr
        have E8:=Aa e8.symm
        clear e8
        clear hG hi hr
        go_simp
        refine hK (.string ⟨bs.toArray⟩) _ _ ⟨bs,rfl,E8.o⟩ hF.o ?_
        simp[Act.put,e6]) ?_
       refine Ju (fun v=>∃s:List UInt8,v=.string ⟨s.toArray⟩/\s.length<=3000) (by
        intro l u W hl hp hF hG hi K hK
        simp[Region.binds,Co]at hp
        obtain⟨⟨_,e2⟩,_,bs,e7,hb⟩:=hp
        clear hG hi
        go_simp
        rw[if_neg (by simp[maxLen];omega)]
        go_simp
        refine hK (.string ⟨(t.take (t.length - 1)++bs).toArray⟩) _ _ ⟨t.take (t.length - 1)++bs,rfl,by simp;omega⟩ hF.o ?_
        simp[Act.put,e2,e7]) ?_
       refine Ju (fun v=>∃s:List UInt8,v=.string ⟨s.toArray⟩/\s.length<=3000) (by
        intro l u W hl hp hF hG hi K hK
        simp[Region.binds,Co]at hp
        obtain⟨⟨_,s15,e15,h15⟩,hp⟩:=hp
        clear hG hi
        go_simp
        exact hK (.string ⟨s15.toArray⟩) _ _ ⟨s15,rfl,h15⟩ hF.o (by simp[Act.put,e15,hp])) ?_
       intro l u W hl hu hF
       simp only[N6,List.nil_append,List.cons_append,Nat.zero_add,Nat.reduceAdd]at hu
       obtain⟨_,_,_,_,_,_,_,_,_,_,_,_,⟨s9,e16,hs9⟩,_⟩:=hu
       simp only[e16]
       have Hg:=Aa (Ad Hg7.o (BY.to hF).gr)
       clear hF hl
       go_wp2_with fail
       go_meet
       exact⟨s9,rfl,by omega,Hg.o⟩
     case rest=>
      clear htb ht HR7 Hg7
      obtain⟨t,rfl,ht,Hg8⟩:=hcut
      go_wp2_with fail
      refine bodyPost_ret (v:=.tuple #[.string ⟨a.toArray⟩,.string ⟨b.toArray⟩,.string ⟨t.toArray⟩]) (by simp[results,results71,go_sem]) rfl ?_
      exact⟨a,b,t,rfl,ha,hb,ht,Hg8.o⟩
theorem Sp{Q1 Q2:List UInt8->Prop}(H:DrH Q1 Q2)(A:Option Addr)(n c:Nat)(l:List UInt8)(w:World)(h:Ca w A n (Cf l))(hc:n<=c)(hcm:c<=maxLen)
  (HS:∀s d x:List UInt8,s.length<=100000->d.length<=100000->x.length<=100000->∀W,Calls prog 66 #[.string ⟨s.toArray⟩,.string ⟨d.toArray⟩,.string ⟨x.toArray⟩] W fun e w'=>∃(t:List UInt8) (ok:Bool),e=.returned (.tuple #[.string ⟨t.toArray⟩,.bool ok])/\t.length<=600/\Below W.heap.size W w'):
  Calls prog 31 #[.slice A n c] w (Qc0 w):=by
 have H:=Aa H
 have HS:=Aa HS
 go_enter func31,ntmps31
 go_wp2_with fail
 refine(Qgm A n c l w h hc hcm).mono ?_
 rintro e w0 ⟨g,rfl,hR,hgb,hb0⟩
 have HR:=Aa hR
 have Hb0:=Aa hb0
 clear hR h hb0
 go_wp2_with fail
 refine(Qe9 H.o g 0 _ HR.o (by omega) HS.o).mono ?_
 rintro e w1 ⟨a,b,s,rfl,ha,hb,hs,hg1⟩
 have Hb1:=Aa (show Below w.heap.size w w1 from Hb0.o.grown hg1 Hb0.o.size (fun k hk=>by injection hk with hk;omega))
 clear hg1
 go_wp2_with fail
 refine bodyPost_ret (v:=.tuple #[.string ⟨a.toArray⟩,.string ⟨b.toArray⟩,.string ⟨s.toArray⟩]) (by simp[results,results31,go_sem]) rfl ?_
 exact⟨a,b,s,rfl,ha,hb,hs,Hb1.o⟩
end
def Jt(S:List Ty)(k:Kd)(N B:Nat)(w:World)(g p:Nat)(e:Ending)(w':World):Prop:=
 ∃b v q,e=.returned (.pointer (some ⟨b,0,none⟩))/\Ge S N k v/\(Aw v).length<=B/\q<=p+B/\En (fun c=>w.heap.size<=c) w' b (Bt S k v)/\E4 w' g q/\w.grownBy w' (some g)
theorem Eg.gr{base B g:Nat}{W W':World}{h0 h1 tu tv ku kv:Value}{gs:List Nat}{xs:List (Nat × SV)}(h:Eg base B W h0 h1 tu tv ku kv gs xs)(hg:W.grownBy W' (some g))(hl:g<B):Eg base B W' h0 h1 tu tv ku kv gs xs:=by
 have hn:some B≠some g:=fun e=>ez;have hB:=h.hB;exact⟨ac h.lt hg.size,ad h.bs hg.size,h.hB,h.bk.grown h.lt hg hn,hg.cell h.c0 hn,hg.cell h.c1 hn,hg.cell h.c2 hn,hg.cell h.c3 hn,h.tags.kept hg (M8 (fun k hk=>(h.tags.lt k hk).1) aI),h.row.kept hg (M8 (fun k hk=>(h.row.lt k hk).1) aI),fun y hy=>(h.kids y hy).grown hg fun c hc e=>by injection e with e;omega⟩
theorem Eg.set1{base B:Nat}{W:World}{h0 h1 tu tv ku kv:Value}{gs:List Nat}{xs:List (Nat × SV)}(h:Eg base B W h0 h1 tu tv ku kv gs xs)(u:Value):Eg base B (W.setCell ⟨B,1,none⟩ u) h0 u tu tv ku kv gs xs:=by
 have hg:=Ai W B 1 u;exact iA
theorem E4.row{w w':World}{g p base:Nat}{r:Option Nat}(h:E4 w g p)(hg:w.grownBy w' r)(hr:∀k,r=some k->base<=k)(hb:g<base):E4 w' g p:=
 h.belowg ((Aq _ _).grown hg h.lt (fun k hk=>ac hb (hr k hk))) hg.size
theorem Fr{w0 w w':World}{g base:Nat}{r:Option Nat}(h:w0.grownBy w (some g))(hg:w.grownBy w' r)(hr:∀k,r=some k->base<=k)(hb:w0.heap.size<=base):w0.grownBy w' (some g):=
 ⟨hg.os.trans h.os,hg.tape.trans h.tape,hg.output.trans h.output,ad h.size hg.size,fun k hk hn=>(hg.block k (ac hk h.size) (fun e=>by have:=hr k e.symm;omega)).trans (h.block k hk hn)⟩
structure Mt(w0:World)(g base B:Nat)(W1:World)(h0 h1 tv:Value)(A:Option Addr)(c:Nat)(gs:List Nat)(xs:List (Nat × SV))(F:SV->Nat->Prop)(lc lb la ls:Bool)(uc ub ua:Value)(W:World):Prop where
 s0:lc=false->W=W1
 s1:lc=true->lb=false->∃b v q,uc=.pointer (some ⟨b,0,none⟩)/\F v q/\E4 W g q/\w0.grownBy W (some g)/\En (fun c=>W1.heap.size<=c) W b v/\Eg base B W h0 h1 tv tv (.slice A xs.length c) (.slice A xs.length c) gs xs
 s2:lb=true->la=false->∃W8 b v q,W=W8.alloc (.cells #[.pointer (some ⟨b,0,none⟩)] 76)/\ub=.slice (some ⟨W8.heap.size,0,none⟩) 1 1/\F v q/\E4 W8 g q/\w0.grownBy W8 (some g)/\En (fun c=>W1.heap.size<=c) W8 b v/\Eg base B W8 h0 h1 tv tv (.slice A xs.length c) (.slice A xs.length c) gs xs
 s3:la=true->ls=false->∃b v q A6 c6,ua=.slice A6 (xs.length+1) c6/\F v q/\E4 W g q/\w0.grownBy W (some g)/\Eg base B W h0 h1 tv tv (.slice A xs.length c) ua gs (xs++[(b,v)])
 s4:ls=true->∃b v q A6 c6,F v q/\E4 W g q/\w0.grownBy W (some g)/\Eg base B W h0 h1 tv tv (.slice A6 (xs.length+1) c6) (.slice A6 (xs.length+1) c6) gs (xs++[(b,v)])
section
variable {w0 W1 W W':World} {g base B:Nat} {h0 h1 tv uc ub ua:Value} {A:Option Addr} {c:Nat} {gs:List Nat} {xs:List (Nat × SV)} {F:SV->Nat->Prop} {lc lb la ls:Bool}
theorem Mt.start:Mt w0 g base B W1 h0 h1 tv A c gs xs F false false false false uc ub ua W1:=
 ⟨fun _=>rfl,fun h=>Bool.noConfusion h,fun h=>Bool.noConfusion h,fun h=>Bool.noConfusion h,fun h=>Bool.noConfusion h⟩
theorem Mt.c3(h:Mt w0 g base B W1 h0 h1 tv A c gs xs F lc lb la ls uc ub ua W)(hl:Eg base B W1 h0 h1 tv tv (.slice A xs.length c) (.slice A xs.length c) gs xs)(hla:la=false):W.cell? (B,3)=some (.slice A xs.length c):=by
 cases ec:lc with
 |false=>rw[h.s0 ec];exact hl.c3
 |true=>
  cases eb:lb with
  |false=>obtain⟨_,_,_,_,_,_,_,_,hL⟩:=h.s1 ec eb;exact hL.c3
  |true=>obtain⟨W8,_,_,_,rfl,_,_,_,_,_,hL⟩:=h.s2 eb hla;exact(hL.after ((Aq _ _).alloc (Al _) _)).c3
theorem Mt.call{b:Nat}{v:SV}{q:Nat}(hw:w0.grownBy W1 (some g))(hl:Eg base B W1 h0 h1 tv tv (.slice A xs.length c) (.slice A xs.length c) gs xs)(hgB:g<B)(hb:lb=false)(ha:la=false)(hs:ls=false)(hF:F v q)(hR:E4 W g q)(hg:W1.grownBy W (some g))(hv:En (fun c=>W1.heap.size<=c) W b v):
  Mt w0 g base B W1 h0 h1 tv A c gs xs F true lb la ls b ub ua W:=by
 subst hb ha hs;exact⟨fun h=>Bool.noConfusion h,fun _ _=>⟨b,v,q,rfl,hF,hR,Ad hw hg,hv,hl.gr hg hgB⟩,fun h=>Bool.noConfusion h,fun h=>Bool.noConfusion h,fun h=>Bool.noConfusion h⟩
theorem Mt.build(h:Mt w0 g base B W1 h0 h1 tv A c gs xs F lc lb la ls uc ub ua W)(hc:lc=true)(hb:lb=false)(ha:la=false)(hs:ls=false):∃b,uc=.pointer (some ⟨b,0,none⟩) /\
  Mt w0 g base B W1 h0 h1 tv A c gs xs F lc true la ls uc (.slice (W,0) 1 1) ua (W.alloc (.cells #[.pointer (some ⟨b,0,none⟩)] 76)):=by
 obtain⟨b,v,q,e,h2,h3,h4,h5,h6⟩:=h.s1 hc hb;subst ha hs;exact⟨b,e,fun h=>absurd (hc.symm.trans h) aL,fun _ h=>Bool.noConfusion h,fun _ _=>⟨W,b,v,q,rfl,rfl,h2,h3,h4,h5,h6⟩,fun h=>Bool.noConfusion h,fun h=>Bool.noConfusion h⟩
theorem Mt.app{W8:World}{b:Nat}{v:SV}{q:Nat}{u:Value}(hw:w0.heap.size<=B)(hgB:g<B)(hbs:base<=W1.heap.size)(hl1:Eg base B W1 h0 h1 tv tv (.slice A xs.length c) (.slice A xs.length c) gs xs)(hF:F v q)(hR:E4 W8 g q)(hg0:w0.grownBy W8 (some g))(hv:En (fun c=>W1.heap.size<=c) W8 b v)(hL:Eg base B W8 h0 h1 tv tv (.slice A xs.length c) (.slice A xs.length c) gs xs)
  (hc:lc=true) (hb:lb=true) (hs:ls=false) (hown:W.ownsRow base 76 1 u (xs.length+1) (Dr (xs.map (·.1))++[.pointer (some ⟨b,0,none⟩)])) (hg:W8.grownBy W (Value.slice A xs.length c).ownBlock) (hwh:u.ownBlock=(Value.slice A xs.length c).ownBlock\/∃k,u.ownBlock=some k/\W8.heap.size<=k):
  Mt w0 g base B W1 h0 h1 tv A c gs xs F lc lb true ls uc ub u W/\∃A6 c6,u=.slice A6 (xs.length+1) c6:=by
 have hk:En (fun c1=>base<=c1/\(Value.slice A xs.length c).ownBlock≠some c1/\tv.ownBlock≠some c1) W8 b v:=hv.mono fun c1 h1 _=>⟨ad hbs h1,fun e=>by have:=(hl1.row.lt c1 e).2;omega,fun e=>by have:=(hl1.tags.lt c1 e).2;omega⟩
 obtain⟨A6,c6,e6,hP,hB⟩:=hL.push (x:=(b,v)) hk hown hg hwh;have e6':u=.slice A6 (xs.length+1) c6:=by rw[e6];simp
 have hrow:∀k,(Value.slice A xs.length c).ownBlock=some k->base<=k:=fun k hk=>(hL.row.lt k hk).1;have hB':=hL.hB;subst hs;exact⟨⟨fun h=>absurd (hc.symm.trans h) aL,fun _ h=>absurd (hb.symm.trans h) aL,fun _ h=>Bool.noConfusion h,fun _ _=>⟨b,v,q,A6,c6,e6',hF,hR.row hg hrow aI,Fr hg0 hg hrow aI,hP⟩,fun h=>Bool.noConfusion h⟩,A6,c6,e6'⟩
theorem Mt.store(h:Mt w0 g base B W1 h0 h1 tv A c gs xs F lc lb la ls uc ub ua W)(hw:w0.heap.size<=B)(hgB:g<B)(hc:lc=true)(hb:lb=true)(ha:la=true)(hs:ls=false)(hW:W'=W.setCell ⟨B,3,none⟩ ua):Mt w0 g base B W1 h0 h1 tv A c gs xs F lc lb la true uc ub ua W':=by
 subst hW;obtain⟨b,v,q,A6,c6,e,hF,hR,hg,hL⟩:=h.s3 ha hs;have hgc:=Ai W B 3 ua;refine⟨fun h=>absurd (hc.symm.trans h) aL,fun _ h=>absurd (hb.symm.trans h) aL,fun _ h=>absurd (ha.symm.trans h) aL,fun _ h=>Bool.noConfusion h,fun _=>⟨b,v,q,A6,c6,hF,hR.row (base:=B) hgc (fun k e=>by injection e with e;omega) hgB,Fr hg hgc (base:=B) (fun k e=>by injection e with e;omega) hw,?_⟩⟩;have:=hL.set3;rw[e]at this ⊢;exact this
end
section
attribute [local go_sem] Qra Qpu Qo3 Qmi ByteArray.mk_append_mk
def Xt(W:World)(b:Nat)(ms:List Nat):Prop:=W.heap[b]?=some (.cells (Dm ms).toArray 3 (0,0))
theorem Xt.new(W:World)(ms:List Nat):Xt (W.alloc (.cells (Dm ms).toArray 3)) W.heap.size ms:=heap_alloc_new W _
theorem Xt.lt{W:World}{b:Nat}{ms:List Nat}(h:Xt W b ms):b<W.heap.size:=by
 rcases aH b W.heap.size with h1|h1
 ·exact h1
 unfold Xt at h;rw[Array.getElem?_eq_none h1]at h;cases h
theorem Xt.grown{W W':World}{b r:Nat}{ms:List Nat}(h:Xt W b ms)(hg:W.grownBy W' (some r))(hne:b≠r):Xt W' b ms:=
 (hg.block b h.lt (fun e=>hne (Option.some.inj e))).trans h
theorem Xt.cell{W:World}{b j:Nat}{ms:List Nat}(h:Xt W b ms)(hj:j<ms.length):∃m,m∈ms/\W.cell? ⟨b,j,none⟩=(m:Int):=
 ⟨ms[j],ae hj,by unfold Xt at h;simp[World.cell?,h,Dm,hj]⟩
def Qdn:List (List UInt8):=[[],[97],[104,105],[97,32,98],[122,122,57],[97,98,99,100,101,102,103,104,105,106,107,108]]
theorem Qd3(g p:Nat)(w:World)(h:E4 w g p)(hp:p<=900000000):
  Calls prog 166 #[g] w (fun e w'=>∃s,e=.returned (.string ⟨(39::(s++[39]):List UInt8).toArray⟩)/\Da s=true/\E4 w' g (p+1)/\w.grownBy w' (some g)):=by
 have hgl:=h.lt;have HR:=Aa h;clear h;go_enter func166,ntmps166;go_wp2_with fail;refine(Bn g p 6 _ (HR.o.dalloc _) aI aI aI).mono ?_;rintro e w1 ⟨x,rfl,hx1,_,hR1,hg1⟩;have hx:x<Qdn.length:=by show x<6;omega
 obtain⟨b,hbm,hcell⟩:=((Jw.new w Qdn).grown hg1 aI).cell hx;have hbl:Da b=true:=(show ∀b∈Qdn,Da b=true by decide) b hbm;have hbn:b.length<=12:=(show ∀b∈Qdn,b.length<=12 by decide) b hbm;have i1:(0:Int)<=(x:Int):=aI;have i2:(x:Int)<6:=aI;have HR1:=Aa hR1;have Hg1:=Aa (Ad (World.grownBy_alloc w _ (some g)) hg1);have Hbl:=Aa hbl;clear hR1 hg1 hbm HR hx hx1 hbl;go_wp2_with fail;go_ret;exact⟨b,by simp,Hbl.o,HR1.o,Hg1.o⟩
section
variable {S:List Ty} {k:Kd}
theorem Qao{c:UInt8}(hs0:k.signs=[])(hb:k.base=[c])(hc:c≠64):Be k=[c]:=by
 unfold Be Cj;rw[hs0,hb];by_cases h:([c]:List UInt8)=[64]
 ·injection h with h;exact absurd h hc
 simp[h]
end
theorem Qq6(S:List Ty)(k:Kd)(hs0:k.signs=[])(hb:k.base=[110])(xv:Value)(d:Int)(N:Nat)(g p:Nat)(w:World)(hR:E4 w g p)(hp:p<=900000000):
  Calls prog 113 #[g,xv,.string ⟨(Be k).toArray⟩,.int .i64 d] w (Jt S k (N+1) 100 w g p):=by
 have hgl:=hR.lt;have HR:=Aa hR;have Hk:=Aa (Qao hs0 hb aL);have HS0:=Aa hs0;have HB0:=Aa hb;rw[Hk.o];clear hR hs0 hb;go_enter func113,ntmps113;go_wp2_with fail;obtain⟨W1,hW1⟩:∃W1,W1=w.alloc (.cells #[([110]:List UInt8),a6,.slice none 0 0,.slice none 0 0] 148):=⟨_,rfl⟩
 have hz1:W1.heap.size=w.heap.size+1:=cN;have HS1:=@Aa (Eg (w.heap.size+1) w.heap.size W1 ([110]:List UInt8) a6 (.slice none 0 0) (.slice none 0 0) (.slice none 0 0) (.slice none 0 0) [] []) cF;have HR1:=Aa (show E4 W1 g p by rw[hW1];exact HR.o.dalloc _);have Hg1:=Aa (show w.grownBy W1 (some g)by rw[hW1];exact World.grownBy_alloc w _ _);rw[<-hW1];clear hW1 HR;refine(Bn g p 200 _ HR1.o aI aI aI).mono ?_;rintro e w2 ⟨x,rfl,hx1,_,hR2,hg2⟩;have hx:x<=999999:=aI;have HS2:=Aa (HS1.o.gr hg2 hgl);have HR2:=Aa hR2;have Hg2:=Aa (Ad Hg1.o hg2);have hz2:=hg2.size;clear hR2 hg2 hx1 HS1 HR1 Hg1;go_wp2_with fail;obtain⟨ms,hms,hml,hme⟩:∃ms:List Nat,(∀m∈ms,m<=999999)/\ms.length=8/\(#[.int .i64 0,.int .i64 5,(x:Int),.int .i64 127,.int .i64 128,.int .i64 16383,.int .i64 16384,.int .i64 999999]:Array Value)=(Dm ms).toArray:=⟨[0,5,x,127,128,16383,16384,999999],by simp;omega,rfl,by simp[Dm]⟩
 rw[hme];refine(Bn g (p+1) 8 _ (HR2.o.dalloc _) aI aI aI).mono ?_;rintro e w3 ⟨y,rfl,hy1,_,hR3,hg3⟩;have hy:y<ms.length:=aI;obtain⟨m,hmm,hcell⟩:=((Xt.new w2 ms).grown hg3 aI).cell hy;have hm9:=hms m hmm;have i1:(0:Int)<=(y:Int):=aI;have i2:(y:Int)<8:=aI;have HS3:=Aa ((HS2.o.after ((Aq _ _).alloc (Al _) _)).gr hg3 hgl);have HR3:=Aa hR3;have Hg3:=Aa (Ad Hg2.o (Ad (World.grownBy_alloc w2 _ (some g)) hg3));clear hR3 hg3 hy1 hy HS2 HR2 Hg2 hms hmm hme;go_wp2_with fail;refine(Gg m m _ (Al _) aI).mono ?_;rintro e w4 ⟨rfl,hb4⟩;have HS4:=Aa (HS3.o.after hb4);have HR4:=Aa (HR3.o.below hb4);have Hg4:=Aa (Ad Hg3.o (Cb hb4 (some g)));have hdl:=C9 5 m aI;clear hb4 HS3 HR3 Hg3 hcell;have c1:=HS4.o.c1;have f1:=HS4.o.bk.live 1;go_wp2_with fail;go_ret;refine⟨w.heap.size,.mk 110 (Az m) 0 [],p+1+1,rfl,.n HS0.o HB0.o hm9,by simp[Aw,Di,Gl];omega,by omega,?_,HR4.o.row (Ai _ w 1 _) (base:=w.heap.size) (fun k e=>by injection e with e;omega) hgl,Fr Hg4.o (Ai _ w 1 _) (base:=w.heap.size) (fun k e=>by injection e with e;omega) (Al _)⟩;have:=(HS4.o.set1 (Az m:List UInt8)).done aK aK;rw[Z8,Hk.o];exact this
theorem Qq3(S:List Ty)(k:Kd)(hs0:k.signs=[])(hb:k.base=[116])(xv:Value)(d:Int)(N:Nat)(g p:Nat)(w:World)(hR:E4 w g p)(hp:p<=900000000):
  Calls prog 113 #[g,xv,.string ⟨(Be k).toArray⟩,.int .i64 d] w (Jt S k (N+1) 100 w g p):=by
 have hgl:=hR.lt;have HR:=Aa hR;have Hk:=Aa (Qao hs0 hb aL);have HS0:=Aa hs0;have HB0:=Aa hb;rw[Hk.o];clear hR hs0 hb;go_enter func113,ntmps113;go_wp2_with fail;obtain⟨W1,hW1⟩:∃W1,W1=w.alloc (.cells #[([116]:List UInt8),a6,.slice none 0 0,.slice none 0 0] 148):=⟨_,rfl⟩
 have hz1:W1.heap.size=w.heap.size+1:=cN;have HS1:=@Aa (Eg (w.heap.size+1) w.heap.size W1 ([116]:List UInt8) a6 (.slice none 0 0) (.slice none 0 0) (.slice none 0 0) (.slice none 0 0) [] []) cF;have HR1:=Aa (show E4 W1 g p by rw[hW1];exact HR.o.dalloc _);have Hg1:=Aa (show w.grownBy W1 (some g)by rw[hW1];exact World.grownBy_alloc w _ _);rw[<-hW1];clear hW1 HR;refine(Qd3 g p _ HR1.o aI).mono ?_;rintro e w2 ⟨s,rfl,hs,hR2,hg2⟩;have HS2:=Aa (HS1.o.gr hg2 hgl);have HR2:=Aa hR2;have Hg2:=Aa (Ad Hg1.o hg2);have Hs:=Aa hs;have hsl:s.length<=12:=by have:=hs;unfold Da at this;simp at this;exact this.1
 clear hR2 hg2 HS1 HR1 Hg1 hs;have c1:=HS2.o.c1;have f1:=HS2.o.bk.live 1;go_wp2_with fail;go_ret;refine⟨w.heap.size,.mk 116 s 0 [],p+1,rfl,.t HS0.o HB0.o Hs.o,by simp[Aw,Di,Gl];omega,by omega,?_,HR2.o.row (Ai _ w 1 _) (base:=w.heap.size) (fun k e=>by injection e with e;omega) hgl,Fr Hg2.o (Ai _ w 1 _) (base:=w.heap.size) (fun k e=>by injection e with e;omega) (Al _)⟩;have:=(HS2.o.set1 (.string ⟨(39::(s++[39]):List UInt8).toArray⟩)).done aK aK;rw[Vk,Hk.o];exact this
theorem Qq9(S:List Ty)(k:Kd)(hs0:k.signs=[])(hb:k.base=[102])(xv:Value)(d:Int)(N:Nat)(g p:Nat)(w:World)(hR:E4 w g p)(hp:p<=900000000):
  Calls prog 113 #[g,xv,.string ⟨(Be k).toArray⟩,.int .i64 d] w (Jt S k (N+1) 100 w g p):=by
 have hgl:=hR.lt;have HR:=Aa hR;have Hk:=Aa (Qao hs0 hb aL);have HS0:=Aa hs0;have HB0:=Aa hb;rw[Hk.o];clear hR hs0 hb;go_enter func113,ntmps113;go_wp2_with fail;obtain⟨W1,hW1⟩:∃W1,W1=w.alloc (.cells #[([102]:List UInt8),a6,.slice none 0 0,.slice none 0 0] 148):=⟨_,rfl⟩
 have hz1:W1.heap.size=w.heap.size+1:=cN;have HS1:=@Aa (Eg (w.heap.size+1) w.heap.size W1 ([102]:List UInt8) a6 (.slice none 0 0) (.slice none 0 0) (.slice none 0 0) (.slice none 0 0) [] []) cF;have HR1:=Aa (show E4 W1 g p by rw[hW1];exact HR.o.dalloc _);have Hg1:=Aa (show w.grownBy W1 (some g)by rw[hW1];exact World.grownBy_alloc w _ _);rw[<-hW1];clear hW1 HR;refine(Bn g p 2 _ (HR1.o.dalloc _) aI aI aI).mono ?_;rintro e w2 ⟨x,rfl,hx1,_,hR2,hg2⟩;have hx:x < [Dk,H7].length:=by show x<2;omega
 obtain⟨s,hsm,hcell⟩:=((Jw.new W1 [Dk,H7]).grown hg2 aI).cell hx;rw[hz1]at hcell;obtain⟨b,rfl⟩:∃b:Bool,s=if b then Dk else H7:=by
  simp at hsm;rcases hsm with rfl|rfl
  ·exact⟨true,rfl⟩
  exact⟨false,rfl⟩
 have i1:(0:Int)<=(x:Int):=aI;have i2:(x:Int)<2:=aI;have HS2:=Aa ((HS1.o.after ((Aq _ _).alloc (Al _) _)).gr hg2 hgl);have HR2:=Aa hR2;have Hg2:=Aa (Ad Hg1.o (Ad (World.grownBy_alloc W1 _ (some g)) hg2));have hsl:(if b then Dk else H7).length<=3:=by cases b<;>decide
 have Hok:=Aa (fun(h0:k.signs=[]) (h1:k.base=[102])=>Ge.f (S:=S) (d:=N) (k:=k) (b:=b) h0 h1);generalize (if b then Dk else H7)=s at *;clear hR2 hg2 HS1 HR1 Hg1 hx1 hx hsm;have c1:=HS2.o.c1;have f1:=HS2.o.bk.live 1;go_wp2_with fail;go_ret;refine⟨w.heap.size,.mk 102 s 0 [],p+1,rfl,Hok.o HS0.o HB0.o,by simp[Aw,Di,Gl];omega,by omega,?_,HR2.o.row (Ai _ w 1 _) (base:=w.heap.size) (fun k e=>by injection e with e;omega) hgl,Fr Hg2.o (Ai _ w 1 _) (base:=w.heap.size) (fun k e=>by injection e with e;omega) (Al _)⟩;have:=(HS2.o.set1 (s:List UInt8)).done aK aK;rw[Vu,Hk.o];exact this
end
end Go.Proofs.YtmmhmlmfhpfgbaaGreatDoor
