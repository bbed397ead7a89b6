/- Texts joined. Conditions: as each theorem names them. -/
import Derived.Deep.DeepCutAuto
import Derived.Laws.BitsAllLaws
import Derived.Laws.BitsLemmas
import Derived.Deep.CutRange
import Derived.Test.YtbdibdghphdcdaaGreatDoorJ15
set_option maxRecDepth 100000
set_option maxHeartbeats 32000000
set_option linter.unusedVariables false
set_option linter.unusedSimpArgs false
namespace Go.Proofs.YtbdibdghphdcdaaGreatDoor
open Go.RowKit Go.Proofs.Tryz
def No(o:Option (List Ty × Kd))(x:List UInt8):Option Vl:=match o with
 |some y=>Gd y.1 y.2 x
 |none=>none
theorem Qbu{s d x:List UInt8}{v:Vl}(h:No (At s d) x=some v):∃S k,At s d=some (S,k)/\Gy S/\Cq k/\Cc S k/\Be k=d/\Jf S 12 k v/\Bc v=x/\x.length<=400:=by
 cases hb:At s d with
 |none=>rw[hb]at h;cases h
 |some y=>
  obtain⟨S,k⟩:=y;rw[hb]at h;obtain⟨g1,_,_,g4,g5,g6⟩:=Cs hb;obtain⟨h1,h2,h3⟩:=(Eb g1.1.1 g4).1 h;exact⟨S,k,rfl,g1,g4,g6,g5,h1,h2,h3⟩
def Fg(w:World)(g p:Nat):Prop:=
 ∃A n c l,w.heap[g]?=some (.cells #[.slice A n c,(p:Int)] 54 (0,0))/\Cd w A n (Ew l)/\n<=2000/\∀b off,A=some ⟨b,off,none⟩->0<n->b<g
theorem Fg.lt{w:World}{g p:Nat}(h:Fg w g p):g<w.heap.size:=by
 obtain⟨A,n,c,l,hh,_⟩:=h;rcases aG g w.heap.size with h1|h1
 ·exact h1
 rw[Array.getElem?_eq_none h1]at hh;cases hh
theorem Fg.below{w w':World}{g p:Nat}(h:Fg w g p)(hb:Below w w w'):Fg w' g p:=by
 have hlt:=h.lt;obtain⟨A,n,c,l,hh,hr,h2,h3⟩:=h;exact⟨A,n,c,l,(hb.block g hlt).trans hh,hr.below hb,h2,h3⟩
theorem Fg.belowg{w w':World}{g p:Nat}(h:Fg w g p)(hb:Below (g+1) w w')(hs:w.heap.size<=w'.heap.size):Fg w' g p:=by
 obtain⟨A,n,c,l,hh,hr,h2,h3⟩:=h;refine⟨A,n,c,l,(hb.block g aH).trans hh,⟨hr.1,hr.2.1,fun hn=>?_⟩,h2,h3⟩;obtain⟨b,off,e,hlt,hc⟩:=hr.2.2 hn;have:=h3 b off e hn;exact⟨b,off,e,ac hlt hs,fun j u hu=>(hb.cell (p:=⟨b,off+j,none⟩) (by show b<g+1;omega)).trans (hc j u hu)⟩
theorem Cd.grown{w w':World}{g:Nat}{A:Option Addr}{n:Nat}{xs:List Value}(h:Cd w A n xs)(hg:w.grownBy w' (some g))(hne:∀b off,A=some ⟨b,off,none⟩->0<n->b≠g):Cd w' A n xs:=by
 refine⟨h.1,h.2.1,fun hn=>?_⟩;obtain⟨b,off,e,hlt,hc⟩:=h.2.2 hn;refine⟨b,off,e,ac hlt hg.size,fun j u hu=>?_⟩;exact(World.cell?_of_block (a:=⟨b,off+j,none⟩) (hg.block b hlt (fun h=>hne b off e hn (Option.some.inj h)))).trans (hc j u hu)
theorem Qd8(a b:Nat)(ha:a<4611686018427387904)(hb:b<4611686018427387904):bits .xor .i64 (a:Int) (b:Int)=((a ^^^ b:Nat):Int)/\a ^^^ b<4611686018427387904:=by
 have hx:a ^^^ b<2 ^ 62:=Nat.xor_lt_two_pow aH aH;refine⟨?_,hx⟩;show IntKind.i64.wrap ((BitVec.ofInt 64 (a:Int) ^^^ BitVec.ofInt 64 (b:Int)).toNat:Int)=_;have ho:∀a:Nat,a<4611686018427387904->(BitVec.ofInt 64 (a:Int)).toNat=a:=fun a ha=>by
  rw[BitVec.ofInt_natCast,BitVec.toNat_ofNat];exact Nat.mod_eq_of_lt aH
 rw[BitVec.toNat_xor,ho a ha,ho b hb,IntKind.wrap_i64];omega
def Pz(w:World)(g p:Nat)(l:List UInt8):Prop:=
 ∃A n c,w.heap[g]?=some (.cells #[.slice A n c,(p:Int)] 54 (0,0))/\Cd w A n (Ew l)/\n<=2000/\∀b off,A=some ⟨b,off,none⟩->0<n->b<g
theorem Fg.known{w:World}{g p:Nat}(h:Fg w g p):∃l,Pz w g p l:=by
 obtain⟨A,n,c,l,h⟩:=h;exact⟨l,A,n,c,h⟩
theorem Pz.any{w:World}{g p:Nat}{l:List UInt8}(h:Pz w g p l):Fg w g p:=by
 obtain⟨A,n,c,h⟩:=h;exact⟨A,n,c,l,h⟩
theorem Pz.below{w w':World}{g p:Nat}{l:List UInt8}(h:Pz w g p l)(hb:Below w w w'):Pz w' g p l:=by
 have hlt:=h.any.lt;obtain⟨A,n,c,hh,hr,h2,h3⟩:=h;exact⟨A,n,c,(hb.block g hlt).trans hh,hr.below hb,h2,h3⟩
theorem Qdd{l:List UInt8}{i:Nat}(h:i<l.length):l.getD i 0=l[i]:=by simp[List.getD,h]
def Xy(l:List UInt8)(p:Nat)(n:Int):Nat:=
 if n<1\/l.length=0 then 0
 else if p<l.length then(((l.getD p 0).toNat:Int) % n).toNat
 else((((((l.getD (p % l.length) 0).toNat*131+(l.getD ((p*7+3) % l.length) 0).toNat*1117+p*29+p / l.length*53) ^^^ (((l.getD (p % l.length) 0).toNat*131+(l.getD ((p*7+3) % l.length) 0).toNat*1117+p*29+p / l.length*53) / 64):Nat):Int)) % n).toNat
theorem Qd5(l:List UInt8)(p:Nat)(n:Int):(1<=n->(Xy l p n:Int)<n)/\(n<1->Xy l p n=0):=by
 unfold Xy;refine⟨fun h=>?_,fun h=>if_pos (.inl h)⟩;have e:=fun x:Int=>And.intro (Int.emod_nonneg x (show n≠0 by omega)) (Int.emod_lt_of_pos x (show 0<n by omega));split
 ·omega
 split
 ·have:=e ((l.getD p 0).toNat:Int);omega
 rename_i h1 h2;have:=e (((((l.getD (p % l.length) 0).toNat*131+(l.getD ((p*7+3) % l.length) 0).toNat*1117+p*29+p / l.length*53) ^^^ (((l.getD (p % l.length) 0).toNat*131+(l.getD ((p*7+3) % l.length) 0).toNat*1117+p*29+p / l.length*53) / 64):Nat):Int));omega
def Qes(w:World)(g p:Nat)(w':World):Prop:=∃k,w'=(w.setCell ⟨g,1,none⟩ (.int .i64 ((p:Int)+1))).drewN k
def Qk0(w:World)(g p:Nat)(n:Int)(e:Ending)(w':World):Prop:=
 ∃x:Nat,e=.returned (x:Int)/\(1<=n->(x:Int)<n)/\(n<1->x=0)/\Fg w' g (p+1)/\w.grownBy w' (some g)
theorem Qg{w:World}{g p:Nat}{l:List UInt8}(h:Pz w g p l)(k:Nat):Pz ((w.setCell ⟨g,1,none⟩ (.int .i64 ((p:Int)+1))).drewN k) g (p+1) l/\w.grownBy ((w.setCell ⟨g,1,none⟩ (.int .i64 ((p:Int)+1))).drewN k) (some g):=by
 obtain⟨A,n,c,hh,hr,h2,h3⟩:=h;have hg:w.grownBy (w.setCell ⟨g,1,none⟩ (.int .i64 ((p:Int)+1))) (some g):=
  ⟨rfl,rfl,rfl,by simp,fun k _ hk=>heap_setCell_other w ⟨g,1,none⟩ k _ (fun e=>hk (by simp[e]))⟩
 have hg':w.grownBy ((w.setCell ⟨g,1,none⟩ (.int .i64 ((p:Int)+1))).drewN k) (some g):=⟨hg.os,hg.tape,hg.output,hg.size,hg.block⟩
 refine⟨⟨A,n,c,?_,hr.grown hg' (fun b off e hn=>Nat.ne_of_lt (h3 b off e hn)),h2,h3⟩,hg'⟩;have:=heap_setCell_same w g 1 _ _ (.int .i64 ((p:Int)+1)) hh;have e:((p+1:Nat):Int)=(p:Int)+1:=aH;rw[e];exact this
theorem Qcp(g p:Nat)(l:List UInt8)(n:Int)(w:World)(h:Pz w g p l)(hp:p<=1000000000)(hn:n<=1000000000)(hn0:-1000000000<=n):
  Calls prog 11 #[g,.int .i64 n] w fun e w'=>e=.returned (.int .i64 (Xy l p n:Int))/\Qes w g p w':=by
 obtain⟨N,hN⟩:∃N,N=Xy l p n:=⟨_,rfl⟩
 rw[<-hN];unfold Xy at hN;obtain⟨A,m,c,hh,hr,h2,h3⟩:=h;have hl0:l.length=m:=by have:=hr.1;simpa [Ew]using this
 rw[hl0]at hN;have HN:=Aa hN;clear hN;have hc0:w.cell? (g,0)=some (.slice A m c):=by simp[World.cell?,hh]
 have hc1:w.cell? (g,1)=(p:Int):=by simp[World.cell?,hh]
 have hf:w.frozen? (g,1)=false:=by simp[World.frozen?,hh]
 have Hh:=Aa hh;clear hh;by_cases hn1:n<1
 ·have H3:=Aa h3;clear h3;go_enter func11,ntmps11;go_wp2
  go_ret;exact⟨by rw[HN.o,if_pos (.inl hn1)];rfl,0,rfl⟩
 by_cases hm:m=0
 ·have H3:=Aa h3;clear h3;subst hm;go_enter func11,ntmps11;go_wp2
  go_ret;exact⟨by rw[HN.o];simp,0,rfl⟩
 have hm1:0<m:=aH;have tm:((m:Int) == 0)=false:=aM;have hl:l.length=m:=by have:=hr.1;simpa [Ew]using this
 by_cases hk:p<m
 ·obtain⟨b,o,rfl,hb,hx⟩:=hr.at_ hk;have hbg:b≠g:=Nat.ne_of_lt (h3 b o rfl hm1);have hx':w.cell? ⟨b,o+p,none⟩=some (.int .u8 ((l[p]' aH).toNat:Int)):=by rw[hx];simp[Ew]
  have hlt:=(l[p]' aH).toNat_lt;have HN:=@Aa (N=(((l[p]'(show p<l.length by omega)).toNat:Int) % n).toNat) (by rw[HN.o,if_neg aH,if_pos aH,Qdd (show p<l.length by omega)]);generalize (l[p]'(show p<l.length by omega)).toNat=y at hx' hlt HN;clear hx h3 tm;have tm:((m:Int) == 0)=false:=aM;have i1:(0:Int)<=(p:Int):=aH;have i2:(p:Int)<(m:Int):=aH;go_enter func11,ntmps11;go_wp2
  go_ret;have hn':(0:Int)<n:=aH;have e1:=Int.emod_nonneg (y:Int) (show n≠0 by omega);have e2:=Int.emod_lt_of_pos (y:Int) hn';exact⟨Eu (Qme (by rw[HN.o];omega)),0,rfl⟩
 obtain⟨b,o,rfl,hb,hcell⟩:=hr.2.2 hm1;have hbg:b≠g:=Nat.ne_of_lt (h3 b o rfl hm1);have m1:p % m<m:=Nat.mod_lt _ hm1;have m2:(p*7+3) % m<m:=Nat.mod_lt _ hm1;have hx1:=hcell (p % m) _ (List.getElem?_eq_getElem (show p % m<(Ew l).length by rw[Sr];omega));have hx2:=hcell ((p*7+3) % m) _ (List.getElem?_eq_getElem (show (p*7+3) % m<(Ew l).length by rw[Sr];omega));simp only[Ew,List.getElem_map]at hx1 hx2;have hlt1:=(l[p % m]' aH).toNat_lt;have hlt2:=(l[(p*7+3) % m]' aH).toNat_lt;have hN2:=HN.o;rw[if_neg aH,if_neg aH,Qdd (show p % m<l.length by omega),Qdd (show (p*7+3) % m<l.length by omega)]at hN2;have HN:=Aa hN2;clear hN2;generalize (l[p % m]'(show p % m<l.length by omega)).toNat=y1 at hx1 hlt1 HN;generalize (l[(p*7+3) % m]'(show (p*7+3) % m<l.length by omega)).toNat=y2 at hx2 hlt2 HN;have M1:((p:Int).tmod m)=((p % m:Nat):Int):=by rw[Int.tmod_eq_emod_of_nonneg aH];omega
 have M2:(((p:Int)*7+3).tmod m)=(((p*7+3) % m:Nat):Int):=by rw[Int.tmod_eq_emod_of_nonneg aH];simp
 have M3:((p:Int).tdiv m)=((p / m:Nat):Int):=by rw[Int.tdiv_eq_ediv_of_nonneg aH];omega
 have m3:p / m<=p:=Nat.div_le_self _ _;generalize p % m=k1 at M1 hx1 m1;generalize (p*7+3) % m=k2 at M2 hx2 m2;generalize p / m=k3 at M3 m3 HN;have a1:IntKind.i64.wrap ((y1:Int)*131)=(y1:Int)*131:=IntWalk.i64_in _ aH;have a2:IntKind.i64.wrap ((y2:Int)*1117)=(y2:Int)*1117:=IntWalk.i64_in _ aH;have a3:IntKind.i64.wrap ((y1:Int)*131+(y2:Int)*1117)=(y1:Int)*131+(y2:Int)*1117:=IntWalk.i64_in _ aH;have a4:IntKind.i64.wrap ((p:Int)*29)=(p:Int)*29:=IntWalk.i64_in _ aH;have a5:IntKind.i64.wrap ((y1:Int)*131+(y2:Int)*1117+(p:Int)*29)=(y1:Int)*131+(y2:Int)*1117+(p:Int)*29:=IntWalk.i64_in _ aH;have a7:IntKind.i64.wrap ((k3:Int)*53)=(k3:Int)*53:=IntWalk.i64_in _ aH;have a9:IntKind.i64.wrap ((p:Int)*7)=(p:Int)*7:=IntWalk.i64_in _ aH;have a10:IntKind.i64.wrap ((p:Int)*7+3)=(p:Int)*7+3:=IntWalk.i64_in _ aH;obtain⟨z,a8,hz,hze⟩:∃z:Nat,IntKind.i64.wrap ((y1:Int)*131+(y2:Int)*1117+(p:Int)*29+(k3:Int)*53)=(z:Int)/\z<4611686018427387904/\z=y1*131+y2*1117+p*29+k3*53:=
  ⟨y1*131+y2*1117+p*29+k3*53,by rw[IntWalk.i64_in _ aH];omega,by omega,rfl⟩
 rw[<-hze]at HN;clear hze;obtain⟨hx,hxl⟩:=Qd8 z (z / 64) hz aH;generalize z ^^^ (z / 64)=x at *;rw[show ((z / 64:Nat):Int)=(z:Int) / 64 from by omega]at hx;clear hcell h3 hm hr;have i1:(0:Int)<=(p:Int):=aH;have i2:(0:Int)<(m:Int):=aH;have i3:(0:Int)<=(k1:Int):=aH;have i4:(k1:Int)<(m:Int):=aH;have i5:(0:Int)<=(k2:Int):=aH;have i6:(k2:Int)<(m:Int):=aH;have j1:(0:Int)<=(z:Int):=aH;have j2:(0:Int)<=(x:Int):=aH;go_enter func11,ntmps11;go_wp2
 go_quiet (fail)
 clear a1 a2 a3 a4 a5 a7 a9 a10 a8 M1 M2 M3;go_wp2
 go_ret;have hn':(0:Int)<n:=aH;have e1:=Int.emod_nonneg (x:Int) (show n≠0 by omega);have e2:=Int.emod_lt_of_pos (x:Int) hn';exact⟨Eu (Qme (by rw[HN.o];omega)),_,rfl⟩
theorem Bp(g p:Nat)(n:Int)(w:World)(h:Fg w g p)(hp:p<=1000000000)(hn:n<=1000000000)(hn0:-1000000000<=n):
  Calls prog 11 #[g,.int .i64 n] w (Qk0 w g p n):=by
 obtain⟨l,h⟩:=h.known;refine(Qcp g p l n w h hp hn hn0).mono ?_;rintro e w' ⟨rfl,k,rfl⟩;obtain⟨h1,h2⟩:=Qd5 l p n;exact⟨_,rfl,h1,h2,(Qg h k).1.any,(Qg h k).2⟩
theorem Qhw{w:World}{A:Option Addr}{n c:Nat}{l:List UInt8}(h:Cd w A n (Ew l))(hn:n<=2000):Fg (w.alloc (.cells #[.slice A n c,.int .i64 0] 54)) w 0:=by
 refine⟨A,n,c,l,heap_alloc_new w _,h.alloc _,hn,fun b off e hpos=>?_⟩;obtain⟨b',off',e',hlt,_⟩:=h.2.2 hpos;rw[e]at e';injection e' with e';injection e' with e1;subst e1;omega
theorem Cd.take{w:World}{A:Option Addr}{n:Nat}{l:List UInt8}(h:Cd w A n (Ew l))(k:Nat)(hk:k<=n):Cd w A k (Ew (l.take k)):=by
 have hl:l.length=n:=by have:=h.1;simpa [Ew]using this
 refine⟨by simp[Ew];omega,ad hk h.2.1,fun h0=>?_⟩;obtain⟨b,off,e,hlt,hc⟩:=h.2.2 aH;refine⟨b,off,e,hlt,fun j u hu=>hc j u ?_⟩;have hj:j<k:=by
  have:=(List.getElem?_eq_some_iff.1 hu).1;simp[Ew]at this;omega
 simpa [Ew,List.getElem?_take,hj]using hu
theorem Qg4(A:Option Addr)(n c:Nat)(l:List UInt8)(w:World)(h:Cd w A n (Ew l))(hc:n<=c)(hcm:c<=maxLen):
  Calls prog 9 #[.slice A n c] w fun e w'=>∃g,e=.returned (.pointer (some ⟨g,0,none⟩))/\Fg w' g 0/\w.heap.size<=g/\Below w w w':=by
 unfold maxLen at hcm;by_cases hn:n<=2000
 ·go_enter func9,ntmps9;go_wp2
  go_goals
  go_ret;exact⟨w.heap.size,rfl,Qhw h hn,An _,(Ap _ _).alloc (An _) _⟩
 go_enter func9,ntmps9;go_wp2
 go_goals
 go_ret;exact⟨w.heap.size,rfl,Qhw (h.take 2000 aH) (An _),An _,(Ap _ _).alloc (An _) _⟩
section
attribute [local go_sem] Qo7 Qok Qoa Ql9 ByteArray.mk_append_mk
theorem Ae{a b c:World}{row:Option Nat}(h:a.grownBy b row)(k:b.grownBy c row):a.grownBy c row:=
 ⟨k.os.trans h.os,k.tape.trans h.tape,k.output.trans h.output,ad h.size k.size,fun i hi hne=>(k.block i (ac hi h.size) hne).trans (h.block i hi hne)⟩
theorem By{a w:World}(h:Below a a w)(row:Option Nat):a.grownBy w row:=⟨h.os,h.tape,h.output,h.size,fun i hi _=>h.block i hi⟩
theorem Jd{a b:World}{row:Option Nat}(h:a.grownBy b row):a.grownBy b.drew row:=⟨h.os,h.tape,h.output,h.size,h.block⟩
theorem Fg.ddrew{w:World}{g p:Nat}(h:Fg w g p):Fg w.drew g p:=h
theorem Fg.dalloc{w:World}{g p:Nat}(h:Fg w g p)(o:Obj):Fg (w.alloc o) g p:=h.below ((Ap _ _).alloc (An _) o)
def Kh(W:World)(b:Nat)(ls:List (List UInt8)):Prop:=W.heap[b]?=some (.cells (Cb ls).toArray 9 (0,0))
theorem Kh.new(W:World)(ls:List (List UInt8)):Kh (W.alloc (.cells (Cb ls).toArray 9)) W.heap.size ls:=heap_alloc_new W _
theorem Kh.lt{W:World}{b:Nat}{ls:List (List UInt8)}(h:Kh W b ls):b<W.heap.size:=by
 rcases aG b W.heap.size with h1|h1
 ·exact h1
 unfold Kh at h;rw[Array.getElem?_eq_none h1]at h;cases h
theorem Kh.grown{W W':World}{b r:Nat}{ls:List (List UInt8)}(h:Kh W b ls)(hg:W.grownBy W' (some r))(hne:b≠r):Kh W' b ls:=
 (hg.block b h.lt (fun e=>hne (Option.some.inj e))).trans h
theorem Kh.cell{W:World}{b j:Nat}{ls:List (List UInt8)}(h:Kh W b ls)(hj:j<ls.length):∃s,s∈ls/\W.cell? ⟨b,j,none⟩=some (.string ⟨s.toArray⟩):=
 ⟨ls[j],ae hj,by unfold Kh at h;simp[World.cell?,h,Cb,hj]⟩
def Vx(Q:List UInt8->Prop)(w:World)(g p m:Nat)(e:Ending)(w':World):Prop:=
 ∃(l:List UInt8) (q:Nat),e=.returned l/\Q l/\q<=p+m/\Fg w' g q/\w.grownBy w' (some g)
def Q7:List (List UInt8):=[[110],[116],[102],[110],[116],[64,97,59],[64,98,59],[64,99,59]]
def Sd:List (List UInt8):=[[],[120],[64,59],[64,65,59],[91],[63,63,63,63,63,63,63,63,63,63,63,63,63,63,110],[64,97],[110,110]]
def DK(l:List UInt8):Prop:=(∃sg b,l=sg++b/\sg.length<=2/\sg.all Bo=true/\b∈Q7)\/l∈Sd
theorem DK.len{l:List UInt8}(h:DK l):l.length<=15:=by
 rcases h with⟨sg,b,rfl,h1,_,h3⟩|h
 ·have:∀b∈Q7,b.length<=3:=aJ;have:=this b h3;rw[ah];omega
 have:∀b∈Sd,b.length<=15:=aJ;exact this l h
theorem N8(g p:Nat)(w:World)(h:Fg w g p)(hp:p<=100000000):
  Calls prog 39 #[g] w (Vx DK w g p 7):=by
 have hgl:=h.lt;have HR:=Aa h;clear h;go_enter func39,ntmps39;go_wp2_with fail;refine(Bp g p 8 _ (HR.o.dalloc _) aH aH aH).mono ?_;rintro e w1 ⟨x,rfl,hx1,_,hR1,hg1⟩;have hx:x<Q7.length:=by show x<8;omega
 obtain⟨b,hbm,hcell⟩:=((Kh.new w Q7).grown hg1 aH).cell hx;have hbl:b.length<=3:=(show ∀b∈Q7,b.length<=3 by decide) b hbm;have i1:(0:Int)<=(x:Int):=aH;have i2:(x:Int)<8:=aH;have HR1:=Aa hR1;have Hg1:=Aa (Ae (World.grownBy_alloc w _ (some g)) hg1);have Hbm:=Aa hbm;clear hR1 hg1 hbm HR hx hx1;go_wp2_with fail;refine(Bp g (p+1) 4 _ HR1.o aH aH aH).mono ?_;rintro e w2 ⟨y,rfl,hy1,_,hR2,hg2⟩;have hy:y<=3:=aH;have HR2:=Aa hR2;have Hg2:=Aa (Ae Hg1.o hg2);clear hR2 hg2 HR1 Hg1 hy1 hcell;go_wp2_with fail;go_loopw [3,4] (fun s k wr=>∃(sg:List UInt8) (x q:Nat),s=.string ⟨(sg++b).toArray⟩/\k=.int .i64 x/\sg.length+x<=3/\(x=0->sg=[])/\Hid (sg.all Bo=true)/\q+x<=p+5/\g<wr.heap.size/\Hid (Fg wr g q)/\Hid (w.grownBy wr (some g))) (fun _ k _=>(intOf k).toNat)
 case atStart=>exact⟨[],y,p+2,by simp,rfl,by simp;omega,fun _=>rfl,rfl,by omega,HR2.o.lt,HR2.o,Hg2.o⟩
 case round=>
  obtain⟨sg,x,q,rfl,rfl,hlen,h0,hsg,hq,hgw,hR,hg⟩:=hrel;by_cases hx:1<x
  ·have hxi:(1:Int)<(x:Int):=aH;go_wp2_with fail;refine(Bp g q 3 _ (hR.o.dalloc _) aH aH aH).mono ?_;rintro e w3 ⟨z,rfl,hz1,_,hR3,hg3⟩;have hz:z<([[91],[63],[91]]:List (List UInt8)).length:=by show z<3;omega
   obtain⟨s3,hsm,hcell⟩:=((Kh.new wr [[91],[63],[91]]).grown hg3 aH).cell hz;obtain⟨c,rfl,hc⟩:∃c,s3=[c]/\Bo c=true:=by
    simp at hsm;rcases hsm with rfl|rfl|rfl
    ·exact⟨91,rfl,by decide⟩
    ·exact⟨63,rfl,by decide⟩
    exact⟨91,rfl,by decide⟩
   have j1:(0:Int)<=(z:Int):=aH;have j2:(z:Int)<3:=aH;have HR3:=Aa hR3;have hg3l:=hR3.lt;have Hg3:=Aa (Ae hg.o (Ae (World.grownBy_alloc wr _ (some g)) hg3));have Hc:=Aa hc;have Hsg:=Aa hsg.o;clear hR3 hg3 hsm hc;go_wp2_with fail;go_roundw
   case rel=>exact⟨c::sg,x - 1,q+1,by simp,by go_num,by simp;omega,fun h=>by omega,by show List.all _ _=_;rw[List.all_cons,Hc.o,Hsg.o];rfl,by omega,hg3l,HR3.o,Hg3.o⟩
   case measure=>simp[intOf];omega
  ·have hxi:¬(1:Int)<(x:Int):=aH
   have Hsl:=Aa (show sg.length<=2 by
    by_cases hx0:x=0
    ·rw[h0 hx0];simp
    omega)
   have HRa:=Aa hR.o;have Hga:=Aa hg.o;have Hsg:=Aa hsg.o;go_wp2_with fail;refine(Bp g q 30 _ HRa.o aH aH aH).mono ?_;rintro e w3 ⟨z,rfl,hz1,_,hR3,hg3⟩;have HR3:=Aa hR3;have Hg3:=Aa (Ae Hga.o hg3);have hg3l:=hR3.lt;clear hR3 hg3 HRa Hga;by_cases hz0:z=0
   ·subst hz0;go_wp2_with fail;refine(Bp g (q+1) 8 _ (HR3.o.dalloc _) aH aH aH).mono ?_;rintro e w4 ⟨u,rfl,hu1,_,hR4,hg4⟩;have hu:u<Sd.length:=by show u<8;omega
    obtain⟨s4,hsm,hcell⟩:=((Kh.new w3 Sd).grown hg4 aH).cell hu;have k1:(0:Int)<=(u:Int):=aH;have k2:(u:Int)<8:=aH;have HR4:=Aa hR4;have Hg4:=Aa (Ae Hg3.o (Ae (World.grownBy_alloc w3 _ (some g)) hg4));have Hsm:=Aa hsm;clear hR4 hg4 hsm;go_wp2_with fail;go_ret;exact⟨s4,q+1+1,rfl,.inr Hsm.o,by omega,HR4.o,Hg4.o⟩
   have hz2:((z:Int) == 0)=false:=aM;go_wp2_with fail;go_ret;exact⟨sg++b,q+1,rfl,.inl ⟨sg,b,rfl,Hsl.o,Hsg.o,Hbm.o⟩,by omega,HR3.o,Hg3.o⟩
def Mp(c:UInt8):Bool:=!Bo c && c != 64
theorem Zf{c:UInt8}(h:Mp c=true)(st:Nat × Nat):Sv st c=some (st.2,0):=by
 simp only[Mp,aw,Bool.not_eq_true',bne_iff_ne]at h;unfold Sv;rw[h.1,if_neg aJ,if_neg (fun e=>h.2 e.1)]
theorem Qhz:∀(p:List UInt8),p.all Mp=true->∀u v,p≠[]->∃u' v',mach (u,v) p=some (u',v')/\(v=0->u'=0)/\v'=0/\u'<=v
 |[],_,_,_,h=>absurd rfl h
 |[c],h,u,v,_=>by
  simp only[List.all_cons,List.all_nil,Bool.and_true]at h;refine⟨v,0,?_,fun e=>e,rfl,An _⟩;rw[mach,Zf h];rfl
 |c::d::p,h,u,v,_=>by
  simp only[List.all_cons,aw]at h;obtain⟨u',v',e,h1,h2,h3⟩:=Qhz (d::p) (by simp only[List.all_cons,aw];exact h.2) v 0 aK;refine⟨u',v',?_,fun _=>h1 rfl,h2,by omega⟩;rw[mach,Zf h.1];exact e
theorem Qeu{p:List UInt8}(h:p.all Mp=true)(hn:p≠[])(u:Nat):mach (u,0) p=some (0,0):=by
 obtain⟨u',v',e,h1,h2,_⟩:=Qhz p h u 0 hn;rw[e,h1 rfl,h2]
def Mf(l:List UInt8):Prop:=∀u,u<=14->∃u' v',mach (u,0) l=some (u',v')/\u'<=14/\v'<=14
def Fu(l:List UInt8):Prop:=∀u,u<=14->∃u',mach (u,0) l=some (u',0)/\u'<=14
theorem Mf.sep{l:List UInt8}(h:Mf l){c:UInt8}(hc:Mp c=true):Fu (l++[c]):=fun u hu=>by
 obtain⟨u',v',e,h1,h2⟩:=h u hu;refine⟨v',?_,h2⟩;rw[Gn,e];simp only[mach];rw[Zf hc]
theorem Fu.app{a b:List UInt8}(h:Fu a)(k:Fu b):Fu (a++b):=fun u hu=>by
 obtain⟨u',e,h1⟩:=h u hu;obtain⟨u2,e2,h2⟩:=k u' h1;exact⟨u2,by rw[Gn,e];exact e2,h2⟩
theorem Fu.appF{a b:List UInt8}(h:Fu a)(k:Mf b):Mf (a++b):=fun u hu=>by
 obtain⟨u',e,h1⟩:=h u hu;obtain⟨u2,v2,e2,h2,h3⟩:=k u' h1;exact⟨u2,v2,by rw[Gn,e];exact e2,h2,h3⟩
theorem Fu.plain{p:List UInt8}(h:p.all Mp=true)(hn:p≠[]):Fu p:=fun u hu=>⟨0,Qeu h hn u,by omega⟩
theorem Fu.toF{l:List UInt8}(h:Fu l):Mf l:=fun u hu=>by
 obtain⟨u',e,h1⟩:=h u hu;exact⟨u',0,e,h1,by omega⟩
theorem Fu.nil:Fu []:=fun u hu=>⟨u,rfl,hu⟩
def okM(l:List UInt8)(v:Nat):Bool:=match mach (0,v) l with|some (a,b)=>decide (a<=14) && decide (b<=14)|none=>false
theorem Yv{l:List UInt8}{v:Nat}(h:okM l v=true):∃a b,mach (0,v) l=some (a,b)/\a<=14/\b<=14:=by
 unfold okM at h;cases e:mach (0,v) l with
 |none=>rw[e]at h;cases h
 |some x=>
  obtain⟨a,b⟩:=x;rw[e]at h;simp only[aw,decide_eq_true_eq]at h;exact⟨a,b,rfl,h.1,h.2⟩
theorem DK.mach{l:List UInt8}(h:DK l):∃a b,Go.Proofs.YtbdibdghphdcdaaGreatDoor.mach (0,0) l=some (a,b)/\a<=14/\b<=14:=by
 rcases h with⟨sg,b,rfl,h1,h2,h3⟩|h
 ·rw[Gn,Ko sg _ h2];simp only[am];have hd:∀b∈Q7,okM b 0=true/\okM b 1=true/\okM b 2=true:=aJ;obtain⟨d0,d1,d2⟩:=hd b h3;rcases(show sg.length=0\/sg.length=1\/sg.length=2 by omega)with e|e|e<;>rw[e]
  ·exact Yv d0
  ·exact Yv d1
  exact Yv d2
 have hd:∀l∈Sd,okM l 0=true:=aJ;exact Yv (hd l h)
theorem Mf.kind{p k:List UInt8}(hp:p.all Mp=true)(hn:p≠[])(hk:DK k):Mf (p++k):=fun u hu=>by
 rw[Gn,Qeu hp hn u];exact hk.mach
theorem Qku{c:UInt8}(h:Bn c=true):Mp c=true:=by
 have:=D3.1 h;have h1:c≠91:=fT;have h2:c≠63:=fT;have h3:c≠64:=fT;simp[Mp,Bo,h1,h2,h3]
theorem Qc7(n:Nat):(Bb n).all Mp=true:=List.all_eq_true.2 fun c hc=>Qku (List.all_eq_true.1 (Pq n) c hc)
def Qk8:List (List UInt8):=[[53],[55,55],[57,57,57,57,57,57],[48]]
def Ql0:List (List UInt8):=[[104,105],[97,32,98],[]]
def Qk5:List (List UInt8):=[[121,101,115],[121,101,115],[110,111]]
theorem Jh(g p:Nat)(c:UInt8)(tag:Nat)(nm:List UInt8)(w:World)(h:Fg w g p)(hp:p<=100000000)(hc:c=82\/c=85\/c=69)(ht:tag<=99)(hn:nm.length<=1)(hpl:nm.all Mp=true):
  Calls prog 100 #[g,.string ⟨[c].toArray⟩,(tag:Int),nm] w (Vx (fun l=>Mf l/\l.length<=20) w g p 9):=by
 have hgl:=h.lt;have HR:=Aa h;have Hd:=Aa (fun W=>Gr tag tag W (An _) aH);have hd2:=Dk 1 tag (by have e:10 ^ (1+1)=100:=rfl;omega)
 have Hpre:=Aa (show (Bb tag++58::nm).all Mp=true/\(Bb tag++58::nm)≠[]by
  refine⟨?_,by simp⟩;rw[List.all_append,List.all_cons,Qc7,hpl];decide)
 have Hpre2:=Aa (show (Bb tag++58::(nm++[58])).all Mp=true/\(Bb tag++58::(nm++[58]))≠[]by
  refine⟨?_,by simp⟩;rw[List.all_append,List.all_cons,List.all_append,Qc7,hpl];decide)
 have Hnp:=Aa hpl;have Hdp:=Aa (Qc7 tag);clear h hpl;generalize Bb tag=dt at *;go_enter func100,ntmps100;go_wp2_with fail;refine(Hd.o _).mono ?_;rintro e w1 ⟨rfl,hb1⟩;have HR1:=Aa (HR.o.below hb1);have Hg1:=Aa (By hb1 (some g));clear hb1 HR;rcases hc with rfl|rfl|rfl
 ·go_wp2_with fail;refine(N8 g p _ HR1.o hp).mono ?_;rintro e w2 ⟨l,q,rfl,hl,hq,hR2,hg2⟩;have hll:=hl.len;have Hl:=Aa hl;have HR2:=Aa hR2;have Hg2:=Aa (Ae Hg1.o hg2);clear hl hR2 hg2 HR1 Hg1;go_wp2_with fail;refine(Bp g q 3 _ HR2.o aH aH aH).mono ?_;rintro e w3 ⟨z,rfl,hz1,_,hR3,hg3⟩;have HR3:=Aa hR3;have hg3l:=hR3.lt;have Hg3:=Aa (Ae Hg2.o hg3);clear hR3 hg3 HR2 Hg2;by_cases hz0:z=0
  ·subst hz0;by_cases hn1:l=[110]
   ·subst hn1;go_wp2_with fail;refine(Bp g (q+1) 8 _ (HR3.o.dalloc _) aH aH aH).mono ?_;rintro e w4 ⟨u,rfl,hu1,_,hR4,hg4⟩;have hu:u / 2 % 4<Qk8.length:=by show u / 2 % 4<4;omega
    obtain⟨s4,hsm,hcell⟩:=((Kh.new w3 Qk8).grown hg4 aH).cell hu;have hs4:=(show ∀l∈Qk8,l.all Mp=true/\l.length<=6 by decide) s4 hsm;have hs4l:=hs4.2;have k1:(0:Int)<=(u:Int) / 2 % 4:=aH;have k2:(u:Int) / 2 % 4<4:=aH;have HR4:=Aa hR4;have Hg4:=Aa (Ae Hg3.o (Ae (World.grownBy_alloc w3 _ (some g)) hg4));have Hs4:=Aa hs4;clear hR4 hg4 hsm hs4;go_wp2_with fail;go_ret;exact⟨dt++58::(nm++58::110::61::s4),q+1+1,by simp,⟨(Fu.plain cW aK).toF,by have:=Hs4.o.2;simp;omega⟩,by omega,HR4.o,Hg4.o⟩
   have tn:(l == [110])=false:=by simpa using hn1
   by_cases hn2:l=[116]
   ·subst hn2;go_wp2_with fail;refine(Bp g (q+1) 7 _ (HR3.o.dalloc _) aH aH aH).mono ?_;rintro e w4 ⟨u,rfl,hu1,_,hR4,hg4⟩;have hu:u / 3<Ql0.length:=by show u / 3<3;omega
    obtain⟨s4,hsm,hcell⟩:=((Kh.new w3 Ql0).grown hg4 aH).cell hu;have hs4:=(show ∀l∈Ql0,l.all Mp=true/\l.length<=3 by decide) s4 hsm;have hs4l:=hs4.2;have k1:(0:Int)<=(u:Int) / 3:=aH;have k2:(u:Int) / 3<3:=aH;have HR4:=Aa hR4;have Hg4:=Aa (Ae Hg3.o (Ae (World.grownBy_alloc w3 _ (some g)) hg4));have Hs4:=Aa hs4;clear hR4 hg4 hsm hs4;go_wp2_with fail;go_ret;exact⟨dt++58::(nm++58::116::61::39::(s4++[39])),q+1+1,by simp,⟨(Fu.plain cW aK).toF,by have:=Hs4.o.2;simp;omega⟩,by omega,HR4.o,Hg4.o⟩
   have tt:(l == [116])=false:=by simpa using hn2
   by_cases hn3:l=[102]
   ·subst hn3;go_wp2_with fail;refine(Bp g (q+1) 7 _ (HR3.o.dalloc _) aH aH aH).mono ?_;rintro e w4 ⟨u,rfl,hu1,_,hR4,hg4⟩;have hu:u / 3<Qk5.length:=by show u / 3<3;omega
    obtain⟨s4,hsm,hcell⟩:=((Kh.new w3 Qk5).grown hg4 aH).cell hu;have hs4:=(show ∀l∈Qk5,l.all Mp=true/\l.length<=3 by decide) s4 hsm;have hs4l:=hs4.2;have k1:(0:Int)<=(u:Int) / 3:=aH;have k2:(u:Int) / 3<3:=aH;have HR4:=Aa hR4;have Hg4:=Aa (Ae Hg3.o (Ae (World.grownBy_alloc w3 _ (some g)) hg4));have Hs4:=Aa hs4;clear hR4 hg4 hsm hs4;go_wp2_with fail;go_ret;exact⟨dt++58::(nm++58::102::61::s4),q+1+1,by simp,⟨(Fu.plain cW aK).toF,by have:=Hs4.o.2;simp;omega⟩,by omega,HR4.o,Hg4.o⟩
   have tf:(l == [102])=false:=by simpa using hn3
   clear hn1 hn2 hn3;go_wp2_with fail;exact lA
  have tz:((z:Int) == 0)=false:=aM;clear hz0;go_wp2_with fail;exact lA
 ·go_wp2_with fail;refine(N8 g p _ HR1.o hp).mono ?_;rintro e w2 ⟨l,q,rfl,hl,hq,hR2,hg2⟩;have hll:=hl.len;have Hl:=Aa hl;have HR2:=Aa hR2;have Hg2:=Aa (Ae Hg1.o hg2);clear hl hR2 hg2 HR1 Hg1;go_wp2_with fail;go_ret;exact⟨(dt++58::(nm++[58]))++l,q,by simp,⟨Mf.kind Hpre2.o.1 Hpre2.o.2 Hl.o,by simp;omega⟩,by omega,HR2.o,Hg2.o⟩
 go_wp2_with fail;go_ret;exact⟨dt++58::nm,p,by simp,⟨(Fu.plain Hpre.o.1 Hpre.o.2).toF,by simp;omega⟩,by omega,HR1.o,Hg1.o⟩
theorem Mf.comma{l:List UInt8}(h:Mf l):Fu (l++[44]):=h.sep aJ
theorem Q4(g p:Nat)(c nc:UInt8)(w:World)(h:Fg w g p)(hp:p<=10000000)(hc:c=82\/c=85\/c=69)(hn:Mp nc=true):
  Calls prog 67 #[g,.string ⟨[c].toArray⟩,.string ⟨[nc].toArray⟩] w (Vx (fun l=>Fu l/\l.length<=88/\1<=l.length) w g p 50):=by
 have hgl:=h.lt;have HR:=Aa h
 have Hh:=Aa (show Fu [c,nc,61]from Fu.plain (by
  have hcp:Mp c=true:=by rcases hc with rfl|rfl|rfl<;>decide
  simp only[List.all_cons,List.all_nil,hcp,hn];decide) aK)
 have Hc:=Aa hc;clear h hn;go_enter func67,ntmps67;go_wp2_with fail;refine(Bp g p 4 _ HR.o aH aH aH).mono ?_;rintro e w1 ⟨x,rfl,hx1,_,hR1,hg1⟩;have hx:x<=3:=aH;have HR1:=Aa hR1;have Hg1:=Aa hg1;have hg1l:=hR1.lt;clear hR1 hg1 HR hx1;rcases hc with rfl|rfl|rfl
 ·go_wp2_with fail;refine(Bp g (p+1) 8 _ HR1.o aH aH aH).mono ?_;rintro e w2 ⟨z,rfl,hz1,_,hR2,hg2⟩;have HR2:=Aa hR2;have Hg2:=Aa (Ae Hg1.o hg2);have hg2l:=hR2.lt;clear hR2 hg2 HR1 Hg1 hz1;by_cases hz0:z=0
  ·subst hz0;go_wp2_with fail;go_loopw [7,8,10] (fun s t k wr=>∃(l:List UInt8) (tg k' q:Nat),s=l/\t=(tg:Int)/\k=(k':Int)/\k'<=0/\tg<=3*k'/\l.length<=3+21*k'/\1<=l.length/\Hid (Mf l)/\Hid (k'=0->Fu l)/\q<=(p+1+1)+11*k'/\g<wr.heap.size/\Hid (Fg wr g q)/\Hid (w.grownBy wr (some g))) (fun _ _ k _=>0 - (intOf k).toNat)
   case atStart=>exact⟨[82,nc,61],0,0,(p+1+1),by simp,rfl,rfl,ag _,An _,by simp,by simp,Hh.o.toF,fun _=>Hh.o,by omega,HR2.o.lt,HR2.o,Hg2.o⟩
   case round=>
    obtain⟨l,tg,k,q,rfl,rfl,rfl,hk,htg,hll,hl1,hF,hL,hq,hgw,hR,hg⟩:=hrel;by_cases hlt:k<0
    ·exact absurd hlt (Nat.not_lt_zero _)
    ·have k2:¬(k:Int)<0:=aH;have HRf:=Aa hR.o;have Hgf:=Aa hg.o;have HFf:=Aa hF.o;go_wp2_with fail;go_ret;exact⟨l++[10],q,by simp,⟨HFf.o.sep aJ,by simp only[ah,List.length_cons,List.length_nil];omega,by simp⟩,by omega,HRf.o,Hgf.o⟩
  have tz:((z:Int) == 0)=false:=aM;clear hz0;go_wp2_with fail;go_loopw [7,8,10] (fun s t k wr=>∃(l:List UInt8) (tg k' q:Nat),s=l/\t=(tg:Int)/\k=(k':Int)/\k'<=(1+x)/\tg<=3*k'/\l.length<=3+21*k'/\1<=l.length/\Hid (Mf l)/\Hid (k'=0->Fu l)/\q<=(p+1+1)+11*k'/\g<wr.heap.size/\Hid (Fg wr g q)/\Hid (w.grownBy wr (some g))) (fun _ _ k _=>(1+x) - (intOf k).toNat)
  case atStart=>exact⟨[82,nc,61],0,0,(p+1+1),by simp,rfl,rfl,ag _,An _,by simp,by simp,Hh.o.toF,fun _=>Hh.o,by omega,HR2.o.lt,HR2.o,Hg2.o⟩
  case round=>
   obtain⟨l,tg,k,q,rfl,rfl,rfl,hk,htg,hll,hl1,hF,hL,hq,hgw,hR,hg⟩:=hrel;by_cases hlt:k<(1+x)
   ·have k2:(k:Int)<1+(x:Int):=aH;have k3:k<=3:=aH;go_wp2_with fail;refine(Bp g q 3 _ hR.o aH aH aH).mono ?_;rintro e w3 ⟨a,rfl,ha1,_,hR3,hg3⟩;have ha:a<=2:=aH;have HR3:=Aa hR3;have Hg3:=Aa (Ae hg.o hg3);clear hR3 hg3 ha1;go_wp2_with fail;refine(Bp g (q+1) 2 _ HR3.o aH aH aH).mono ?_;rintro e w4 ⟨b,rfl,hb1,_,hR4,hg4⟩;obtain⟨T,hT,hT2⟩:∃T:Nat,(T:Int)=(tg:Int)+1+(a:Int)*(b:Int)/\T<=3*(k+1):=by
     have hb:b=0\/b=1:=aH;rcases hb with rfl|rfl
     ·exact jZ
     exact lB
    have hab:(a:Int)*(b:Int)<=2:=by
     have hb:b=0\/b=1:=aH;rcases hb with rfl|rfl
     ·simp
     simp;omega
    have hab0:0<=(a:Int)*(b:Int):=Int.mul_nonneg aH aH;have HR4:=Aa hR4;have Hg4:=Aa (Ae Hg3.o hg4);have HT:=Aa hT;have hg4l:=hR4.lt;clear hR4 hg4 HR3 Hg3 hb1 hT;by_cases hk0:k=0
    ·have HL:=Aa (hL.o hk0);have hki:¬(0:Int)<(k:Int):=aH;have hcv:=fun W=>Mo W w4 1 (Di (112+k));rw[Dm aH]at hcv;have hu:IntKind.u8.wrap (112+(k:Int))=((112+k:Nat):Int):=hM
     have Hnm:=Aa (show ([Di (112+k)]:List UInt8).all Mp=true by
      have hk4:k=0\/k=1\/k=2\/k=3:=aH;rcases hk4 with rfl|rfl|rfl|rfl<;>decide)
     clear hk0;go_wp2_with fail;rw[<-HT.o];refine(Jh g (q+1+1) 82 T [Di (112+k)] _ (HR4.o.dalloc _) aH aK aH aK Hnm.o).mono ?_;rintro e w5 ⟨l2,q2,rfl,⟨hl2,hl2n⟩,hq2,hR5,hg5⟩;have HR5:=Aa hR5;have hg5l:=hR5.lt;have Hg5:=Aa (Ae Hg4.o (Ae (World.grownBy_alloc w4 _ (some g)) hg5));have Hl2:=Aa hl2;clear hR5 hg5 hl2;go_wp2_with fail;go_roundw
     case rel=>exact⟨l++l2,T,k+1,q2,by simp,by first|rfl|rw[HT.o],by go_num,by omega,by omega,by rw[ah];omega,by rw[ah];omega,HL.o.appF Hl2.o,(fun h=>by omega),by omega,hg5l,HR5.o,Hg5.o⟩
     case measure=>simp[intOf];omega
    have hki:(0:Int)<(k:Int):=aH;have hcv:=fun W=>Mo W w4 1 (Di (112+k));rw[Dm aH]at hcv;have hu:IntKind.u8.wrap (112+(k:Int))=((112+k:Nat):Int):=hM
    have Hnm:=Aa (show ([Di (112+k)]:List UInt8).all Mp=true by
     have hk4:k=0\/k=1\/k=2\/k=3:=aH;rcases hk4 with rfl|rfl|rfl|rfl<;>decide)
    have HF2:=Aa hF.o.comma;clear hk0;go_wp2_with fail;rw[<-HT.o];refine(Jh g (q+1+1) 82 T [Di (112+k)] _ (HR4.o.dalloc _) aH aK aH aK Hnm.o).mono ?_;rintro e w5 ⟨l2,q2,rfl,⟨hl2,hl2n⟩,hq2,hR5,hg5⟩;have HR5:=Aa hR5;have hg5l:=hR5.lt;have Hg5:=Aa (Ae Hg4.o (Ae (World.grownBy_alloc w4 _ (some g)) hg5));have Hl2:=Aa hl2;clear hR5 hg5 hl2;go_wp2_with fail;go_roundw
    case rel=>exact⟨(l++[44])++l2,T,k+1,q2,by simp,by first|rfl|rw[HT.o],by go_num,by omega,by omega,by simp only[ah,List.length_cons,List.length_nil];omega,by simp only[ah,List.length_cons,List.length_nil];omega,HF2.o.appF Hl2.o,(fun h=>by omega),by omega,hg5l,HR5.o,Hg5.o⟩
    case measure=>simp[intOf];omega
   ·exact iO
 ·go_wp2_with fail;go_loopw [7,8,10] (fun s t k wr=>∃(l:List UInt8) (tg k' q:Nat),s=l/\t=(tg:Int)/\k=(k':Int)/\k'<=(1+x)/\tg<=3*k'/\l.length<=3+21*k'/\1<=l.length/\Hid (Mf l)/\Hid (k'=0->Fu l)/\q<=(p+1)+11*k'/\g<wr.heap.size/\Hid (Fg wr g q)/\Hid (w.grownBy wr (some g))) (fun _ _ k _=>(1+x) - (intOf k).toNat)
  case atStart=>exact⟨[85,nc,61],0,0,(p+1),by simp,rfl,rfl,ag _,An _,by simp,by simp,Hh.o.toF,fun _=>Hh.o,by omega,HR1.o.lt,HR1.o,Hg1.o⟩
  case round=>
   obtain⟨l,tg,k,q,rfl,rfl,rfl,hk,htg,hll,hl1,hF,hL,hq,hgw,hR,hg⟩:=hrel;by_cases hlt:k<(1+x)
   ·have k2:(k:Int)<1+(x:Int):=aH;have k3:k<=3:=aH;go_wp2_with fail;refine(Bp g q 3 _ hR.o aH aH aH).mono ?_;rintro e w3 ⟨a,rfl,ha1,_,hR3,hg3⟩;have ha:a<=2:=aH;have HR3:=Aa hR3;have Hg3:=Aa (Ae hg.o hg3);clear hR3 hg3 ha1;go_wp2_with fail;refine(Bp g (q+1) 2 _ HR3.o aH aH aH).mono ?_;rintro e w4 ⟨b,rfl,hb1,_,hR4,hg4⟩;obtain⟨T,hT,hT2⟩:∃T:Nat,(T:Int)=(tg:Int)+1+(a:Int)*(b:Int)/\T<=3*(k+1):=by
     have hb:b=0\/b=1:=aH;rcases hb with rfl|rfl
     ·exact jZ
     exact lB
    have hab:(a:Int)*(b:Int)<=2:=by
     have hb:b=0\/b=1:=aH;rcases hb with rfl|rfl
     ·simp
     simp;omega
    have hab0:0<=(a:Int)*(b:Int):=Int.mul_nonneg aH aH;have HR4:=Aa hR4;have Hg4:=Aa (Ae Hg3.o hg4);have HT:=Aa hT;have hg4l:=hR4.lt;clear hR4 hg4 HR3 Hg3 hb1 hT;by_cases hk0:k=0
    ·have HL:=Aa (hL.o hk0);have hki:¬(0:Int)<(k:Int):=aH;have hcv:=fun W=>Mo W w4 1 (Di (112+k));rw[Dm aH]at hcv;have hu:IntKind.u8.wrap (112+(k:Int))=((112+k:Nat):Int):=hM
     have Hnm:=Aa (show ([Di (112+k)]:List UInt8).all Mp=true by
      have hk4:k=0\/k=1\/k=2\/k=3:=aH;rcases hk4 with rfl|rfl|rfl|rfl<;>decide)
     clear hk0;go_wp2_with fail;rw[<-HT.o];refine(Jh g (q+1+1) 85 T [Di (112+k)] _ (HR4.o.dalloc _) aH aK aH aK Hnm.o).mono ?_;rintro e w5 ⟨l2,q2,rfl,⟨hl2,hl2n⟩,hq2,hR5,hg5⟩;have HR5:=Aa hR5;have hg5l:=hR5.lt;have Hg5:=Aa (Ae Hg4.o (Ae (World.grownBy_alloc w4 _ (some g)) hg5));have Hl2:=Aa hl2;clear hR5 hg5 hl2;go_wp2_with fail;go_roundw
     case rel=>exact⟨l++l2,T,k+1,q2,by simp,by first|rfl|rw[HT.o],by go_num,by omega,by omega,by rw[ah];omega,by rw[ah];omega,HL.o.appF Hl2.o,(fun h=>by omega),by omega,hg5l,HR5.o,Hg5.o⟩
     case measure=>simp[intOf];omega
    have hki:(0:Int)<(k:Int):=aH;have hcv:=fun W=>Mo W w4 1 (Di (112+k));rw[Dm aH]at hcv;have hu:IntKind.u8.wrap (112+(k:Int))=((112+k:Nat):Int):=hM
    have Hnm:=Aa (show ([Di (112+k)]:List UInt8).all Mp=true by
     have hk4:k=0\/k=1\/k=2\/k=3:=aH;rcases hk4 with rfl|rfl|rfl|rfl<;>decide)
    have HF2:=Aa hF.o.comma;clear hk0;go_wp2_with fail;rw[<-HT.o];refine(Jh g (q+1+1) 85 T [Di (112+k)] _ (HR4.o.dalloc _) aH aK aH aK Hnm.o).mono ?_;rintro e w5 ⟨l2,q2,rfl,⟨hl2,hl2n⟩,hq2,hR5,hg5⟩;have HR5:=Aa hR5;have hg5l:=hR5.lt;have Hg5:=Aa (Ae Hg4.o (Ae (World.grownBy_alloc w4 _ (some g)) hg5));have Hl2:=Aa hl2;clear hR5 hg5 hl2;go_wp2_with fail;go_roundw
    case rel=>exact⟨(l++[44])++l2,T,k+1,q2,by simp,by first|rfl|rw[HT.o],by go_num,by omega,by omega,by simp only[ah,List.length_cons,List.length_nil];omega,by simp only[ah,List.length_cons,List.length_nil];omega,HF2.o.appF Hl2.o,(fun h=>by omega),by omega,hg5l,HR5.o,Hg5.o⟩
    case measure=>simp[intOf];omega
   ·exact iO
 go_wp2_with fail;go_loopw [7,8,10] (fun s t k wr=>∃(l:List UInt8) (tg k' q:Nat),s=l/\t=(tg:Int)/\k=(k':Int)/\k'<=(1+x)/\tg<=3*k'/\l.length<=3+21*k'/\1<=l.length/\Hid (Mf l)/\Hid (k'=0->Fu l)/\q<=(p+1)+11*k'/\g<wr.heap.size/\Hid (Fg wr g q)/\Hid (w.grownBy wr (some g))) (fun _ _ k _=>(1+x) - (intOf k).toNat)
 case atStart=>exact⟨[69,nc,61],0,0,(p+1),by simp,rfl,rfl,ag _,An _,by simp,by simp,Hh.o.toF,fun _=>Hh.o,by omega,HR1.o.lt,HR1.o,Hg1.o⟩
 case round=>
  obtain⟨l,tg,k,q,rfl,rfl,rfl,hk,htg,hll,hl1,hF,hL,hq,hgw,hR,hg⟩:=hrel;by_cases hlt:k<(1+x)
  ·have k2:(k:Int)<1+(x:Int):=aH;have k3:k<=3:=aH;go_wp2_with fail;refine(Bp g q 3 _ hR.o aH aH aH).mono ?_;rintro e w3 ⟨a,rfl,ha1,_,hR3,hg3⟩;have ha:a<=2:=aH;have HR3:=Aa hR3;have Hg3:=Aa (Ae hg.o hg3);clear hR3 hg3 ha1;go_wp2_with fail;refine(Bp g (q+1) 2 _ HR3.o aH aH aH).mono ?_;rintro e w4 ⟨b,rfl,hb1,_,hR4,hg4⟩;obtain⟨T,hT,hT2⟩:∃T:Nat,(T:Int)=(tg:Int)+1+(a:Int)*(b:Int)/\T<=3*(k+1):=by
    have hb:b=0\/b=1:=aH;rcases hb with rfl|rfl
    ·exact jZ
    exact lB
   have hab:(a:Int)*(b:Int)<=2:=by
    have hb:b=0\/b=1:=aH;rcases hb with rfl|rfl
    ·simp
    simp;omega
   have hab0:0<=(a:Int)*(b:Int):=Int.mul_nonneg aH aH;have HR4:=Aa hR4;have Hg4:=Aa (Ae Hg3.o hg4);have HT:=Aa hT;have hg4l:=hR4.lt;clear hR4 hg4 HR3 Hg3 hb1 hT;by_cases hk0:k=0
   ·have HL:=Aa (hL.o hk0);have hki:¬(0:Int)<(k:Int):=aH;have hcv:=fun W=>Mo W w4 1 (Di (112+k));rw[Dm aH]at hcv;have hu:IntKind.u8.wrap (112+(k:Int))=((112+k:Nat):Int):=hM
    have Hnm:=Aa (show ([Di (112+k)]:List UInt8).all Mp=true by
     have hk4:k=0\/k=1\/k=2\/k=3:=aH;rcases hk4 with rfl|rfl|rfl|rfl<;>decide)
    clear hk0;go_wp2_with fail;rw[<-HT.o];refine(Jh g (q+1+1) 69 T [Di (112+k)] _ (HR4.o.dalloc _) aH aK aH aK Hnm.o).mono ?_;rintro e w5 ⟨l2,q2,rfl,⟨hl2,hl2n⟩,hq2,hR5,hg5⟩;have HR5:=Aa hR5;have hg5l:=hR5.lt;have Hg5:=Aa (Ae Hg4.o (Ae (World.grownBy_alloc w4 _ (some g)) hg5));have Hl2:=Aa hl2;clear hR5 hg5 hl2;go_wp2_with fail;go_roundw
    case rel=>exact⟨l++l2,T,k+1,q2,by simp,by first|rfl|rw[HT.o],by go_num,by omega,by omega,by rw[ah];omega,by rw[ah];omega,HL.o.appF Hl2.o,(fun h=>by omega),by omega,hg5l,HR5.o,Hg5.o⟩
    case measure=>simp[intOf];omega
   have hki:(0:Int)<(k:Int):=aH;have hcv:=fun W=>Mo W w4 1 (Di (112+k));rw[Dm aH]at hcv;have hu:IntKind.u8.wrap (112+(k:Int))=((112+k:Nat):Int):=hM
   have Hnm:=Aa (show ([Di (112+k)]:List UInt8).all Mp=true by
    have hk4:k=0\/k=1\/k=2\/k=3:=aH;rcases hk4 with rfl|rfl|rfl|rfl<;>decide)
   have HF2:=Aa hF.o.comma;clear hk0;go_wp2_with fail;rw[<-HT.o];refine(Jh g (q+1+1) 69 T [Di (112+k)] _ (HR4.o.dalloc _) aH aK aH aK Hnm.o).mono ?_;rintro e w5 ⟨l2,q2,rfl,⟨hl2,hl2n⟩,hq2,hR5,hg5⟩;have HR5:=Aa hR5;have hg5l:=hR5.lt;have Hg5:=Aa (Ae Hg4.o (Ae (World.grownBy_alloc w4 _ (some g)) hg5));have Hl2:=Aa hl2;clear hR5 hg5 hl2;go_wp2_with fail;go_roundw
   case rel=>exact⟨(l++[44])++l2,T,k+1,q2,by simp,by first|rfl|rw[HT.o],by go_num,by omega,by omega,by simp only[ah,List.length_cons,List.length_nil];omega,by simp only[ah,List.length_cons,List.length_nil];omega,HF2.o.appF Hl2.o,(fun h=>by omega),by omega,hg5l,HR5.o,Hg5.o⟩
   case measure=>simp[intOf];omega
  ·exact iO
end
def Ga:List (Value->Prop)->Nat->Value->Prop
 |[],_,_=>True
 |p::_,0,v=>p v
 |_::ps,n+1,v=>Ga ps n v
def Qal:List (Value->Prop)->Nat->(Nat->Value)->Prop
 |[],_,_=>True
 |p::ps,i,u=>p (u i)/\Qal ps (i+1) u
theorem Qh1:∀(ps:List (Value->Prop)) (i:Nat) (u:Nat->Value),(∀j,j<ps.length->Ga ps j (u (i+j)))->Qal ps i u
 |[],_,_,_=>Ac
 |p::ps,i,u,h=>⟨h 0 (by simp),Qh1 ps (i+1) u fun j hj=>by
  have:=h (j+1) (by simp;omega)
  rwa [show i+(j+1)=i+1+j by omega]at this⟩
theorem Qd3:∀(ps qs:List (Value->Prop)) (j:Nat) (v:Value),j<ps.length->Ga (ps++qs) j v=Ga ps j v
 |[],_,_,_,h=>by simp at h
 |p::ps,_,0,_,_=>rfl
 |p::ps,qs,j+1,v,h=>Qd3 ps qs j v (by simpa using h)
theorem Qe8:∀(ps:List (Value->Prop)) (p:Value->Prop) (v:Value),Ga (ps++[p]) ps.length v=p v
 |[],_,_=>rfl
 |_::ps,p,v=>Qe8 ps p v
def Qnl(ops:Array Oper)(j i:Nat):Bool:=((ops[j]?).map fun o=>o.after.toList.any fun e=>decide (e.on=i) && Region.binds .any e).getD false
section
variable {P:Program} {ops:Array Oper} {Q:Exit->Act->World->Prop} {a:Act} {mk:(Nat->Value)->Act} {R:(Nat->Bool)->(Nat->Value)->World->Prop} {G:World->Prop}
def Dn:List Oper->List Nat
 |[]=>[]
 |o::os=>(match o.dst with|some d=>d|none=>100000+os.length)::Dn os
def St(P:Program)(ops:Array Oper)(Q:Exit->Act->World->Prop)(a:Act)(mk:(Nat->Value)->Act)(R:(Nat->Bool)->(Nat->Value)->World->Prop)(G:World->Prop)(i:Nat)(o:Oper)(ps:List (Value->Prop))(p:Value->Prop):Prop:=
 ∀(l:Nat->Bool) (u:Nat->Value) (W:World),l i=false->(∀e∈o.after,Region.binds .any e=true->l e.on=true/\Ga ps e.on (u e.on))->Hid (R l u W)->G W->Hid (∀j,Qnl ops j i=true->l j=false/\u j=a.tmps.toList.getD ((Dn ops.toList).getD j 0) undef) ->
  ∀K:Act->World->Prop,(∀v w' a',p v->R (fun j=>if j=i then true else l j) (fun j=>if j=i then v else u j) w'->a'=(mk u).put o.dst v->K a' w') ->
   if Region.wanted o (yielded ops (mk u).tmps)=true then Oper.wp P o (mk u) W K Q else K ((mk u).put o.dst undef) W
def Sq(P:Program)(ops:Array Oper)(Q:Exit->Act->World->Prop)(a:Act)(mk:(Nat->Value)->Act)(R:(Nat->Bool)->(Nat->Value)->World->Prop)(G:World->Prop):List Oper->Nat->List (Value->Prop)->Prop
 |[],n,ps=>∀l u W,(∀i,i<n->l i=true)->Qal ps 0 u->R l u W->Q .normal (mk u) W
 |o::os,i,ps=>∃p,St P ops Q a mk R G i o ps p/\Sq P ops Q a mk R G os (i+1) (ps++[p])
theorem Sq.all:∀(os:List Oper) (i:Nat) (ps:List (Value->Prop)),ps.length=i->Sq P ops Q a mk R G os i ps ->
  ∃qs:List (Value->Prop),qs.length=os.length/\(∀j o,os[j]?=some o->St P ops Q a mk R G (i+j) o ((ps++qs).take (i+j)) (Ga (ps++qs) (i+j)))/\∀l u W,(∀j,j<i+os.length->l j=true)->Qal (ps++qs) 0 u->R l u W->Q .normal (mk u) W
 |[],i,ps,hl,h=>⟨[],rfl,by simp,by simpa [Sq]using h⟩
 |o::os,i,ps,hl,⟨p,h1,h2⟩=>by
  obtain⟨qs,e,h3,h4⟩:=Sq.all os (i+1) (ps++[p]) (by simp[hl]) h2
  refine⟨p::qs,by simp[e],fun j o' ho=>?_,fun l u W hl'=>?_⟩
  ·cases j with
   |zero=>
    simp at ho
    subst ho
    have e1:(ps++p::qs).take (i+0)=ps:=by rw[Nat.add_zero,<-hl];simp
    have e2:Ga (ps++p::qs) (i+0)=p:=by
     funext v
     rw[Nat.add_zero,show ps++p::qs=(ps++[p])++qs by simp,Qd3 _ _ _ _ (by simp;omega),<-hl,Qe8]
    rw[e1,e2]
    exact h1
   |succ j=>
    simp at ho
    have:=h3 j o' ho
    rw[List.append_assoc,List.singleton_append,show i+1+j=i+(j+1)by omega]at this
    exact this
  have:=h4 l u W fun j hj=>hl' j (by simp only[List.length_cons];omega)
  rwa [List.append_assoc,List.singleton_append]at this
theorem Qbo:∀(ps:List (Value->Prop)) (i j:Nat) (v:Value),j<i->Ga (ps.take i) j v=Ga ps j v
 |[],_,_,_,_=>by simp
 |p::ps,0,_,_,h=>absurd h (by omega)
 |p::ps,i+1,0,_,_=>rfl
 |p::ps,i+1,j+1,v,h=>Qbo ps i j v (by omega)
theorem rgF{id:Nat}{w:World}(R:(Nat->Bool)->(Nat->Value)->World->Prop)(G:World->Prop)(hG:∀l u W,R l u W->G W)(h0:R (fun _=>false) (fun i=>a.tmps.toList.getD ((Dn ops.toList).getD i 0) undef) w.drew)(h:Sq P ops Q a mk R G ops.toList 0 [])
  (hc:(P.follows .mixedOrders && (List.range ops.size).all (fun i=>((ops[i]?).map fun o=>o.after.all fun e=>!Region.binds .any e || decide (e.on<i)).getD true) && Ge a.tmps.size ops.toList (Dn ops.toList))=true:=by kernel_rfl)
  (hmk:∀u,Bv a (Dn ops.toList) u=mk u:=by intro u;dsimp only[Bv,Dn,Bs,List.set,Nat.zero_add,Nat.reduceAdd,List.length_cons,List.length_nil]):(Code.region id ops true).wp P Q a w:=by
 have h1:=Bool.and_eq_true_iff.1 hc
 have h2:=Bool.and_eq_true_iff.1 h1.1
 obtain⟨qs,e,h3,h4⟩:=Sq.all ops.toList 0 [] rfl h
 rw[List.nil_append]at h3 h4
 have hac:=h2.2
 refine Bq (Dn ops.toList) h2.1 hac h1.2 hmk (fun i v _=>Ga qs i v) R (fun _ _=>True) (fun _ _ _ _ _ h=>h) h0 ?_ ?_
 ·intro i o ho l u W hl hp hF hun hdep K hK
  simp only[Nat.zero_add]at *
  have hs:=h3 i o ho
  refine hs l u W hl (fun e he hb=>⟨(hp e he hb).1,?_⟩) hF (hG l u W hF) (fun j hj=>?_) K fun v w' a' hv hF' ha=>hK v w' a' hv Ac hF' ha
  ·have ho':ops[i]?=some o:=by simpa using ho
   have hlt:i<ops.size:=(Array.getElem?_eq_some_iff.1 ho').1
   have hh:=List.all_eq_true.1 hac i (List.mem_range.2 hlt)
   rw[ho']at hh
   have h5:=Array.all_eq_true_iff_forall_mem.1 hh e he
   have h6:e.on<i:=by simpa [hb]using h5
   rw[Qbo _ _ _ _ h6]
   exact(hp e he hb).2
  unfold Qnl at hj
  cases hjo:ops[j]? with
  |none=>rw[hjo]at hj;cases hj
  |some o'=>
   rw[hjo]at hj
   simp only[Option.map_some,Option.getD_some]at hj
   obtain⟨e,he,h5⟩:=List.any_eq_true.1 hj
   rw[Bool.and_eq_true,decide_eq_true_iff]at h5
   obtain⟨rfl,h6⟩:=h5
   have:=hdep j o' hjo e (by simpa using he) h6 hl
   exact⟨this,hun j this⟩
 intro l u W hl hφ hF
 exact h4 l u W (fun j hj=>hl j (by rw[<-Array.length_toList];omega)) (Qh1 _ _ _ fun j hj=>by rw[Nat.zero_add];exact hφ j (by rw[<-Array.length_toList];omega)) hF
def Ms(w W:World):Prop:=∀b o k,b<w.heap.size->W.cell? ⟨b,o,k⟩=w.cell? ⟨b,o,k⟩
theorem Zi{w W:World}(h:Below w.heap.size w W):Ms w W:=fun b o k hb=>h.cell (p:=⟨b,o,k⟩) hb
theorem rgB{id:Nat}{w:World}(h:Sq P ops Q a mk (fun _ _=>Below w.heap.size w) (Ms w) ops.toList 0 [])
  (hc:(P.follows .mixedOrders && (List.range ops.size).all (fun i=>((ops[i]?).map fun o=>o.after.all fun e=>!Region.binds .any e || decide (e.on<i)).getD true) && Ge a.tmps.size ops.toList (Dn ops.toList))=true:=by kernel_rfl)
  (hmk:∀u,Bv a (Dn ops.toList) u=mk u:=by intro u;dsimp only[Bv,Dn,Bs,List.set,Nat.zero_add,Nat.reduceAdd,List.length_cons,List.length_nil]):(Code.region id ops true).wp P Q a w:=
 rgF (fun _ _=>Below w.heap.size w) (Ms w) (fun _ _ _ h=>Zi h) (Ap _ _).drew h hc hmk
section
variable {o:Oper} {os:List Oper} {i:Nat} {ps:List (Value->Prop)} {v:Value}
theorem sq(k:Sq P ops Q a mk R G os (i+1) (ps++[fun x=>x=v]))(h:St P ops Q a mk R G i o ps (fun x=>x=v):=by
  intro l u W hl hp hF hG hi K hK
  first|unfold Ms at hG|skip
  first|(simp[Region.binds,Ga]at hp;done)|simp[Region.binds,Ga]at hp|clear hp
  go_simp
  exact hK _ _ _ rfl hF.o (by first|rfl|(simp[Act.put,hp];done)|(simp[Act.put,hp];exact rfl))):Sq P ops Q a mk R G (o::os) i ps:=⟨_,h,k⟩
theorem sqC{C:World->Prop}{n:Nat}{w:World}(X:∀W,Below n w W->C W)(k:Sq P ops Q a mk (fun _ _=>Below n w) G os (i+1) (ps++[fun x=>x=v]))(h:(∀W,Below n w W->C W)->St P ops Q a mk (fun _ _=>Below n w) G i o ps (fun x=>x=v):=by
  intro X l u W hl hp hF hG hi K hK
  have HX:=X W hF.o
  first|unfold Ms at hG|skip
  first|(simp[Region.binds,Ga]at hp;done)|simp[Region.binds,Ga]at hp|clear hp
  go_simp
  refine HX.mono ?_
  rintro e w' ⟨rfl,hb⟩
  exact hK _ _ _ rfl (hF.o.trans (hb.mono hF.o.size)) (by first|rfl|(simp[Act.put,hp];done)|(simp[Act.put,hp];exact rfl))):Sq P ops Q a mk (fun _ _=>Below n w) G (o::os) i ps:=⟨_,h X,k⟩
theorem dnB{b:Act}{F:World->Prop}(h:∀W,Hid (F W)->Q .normal b W)(e:∀u,Qal ps 0 u->mk u=b:=by
  intro u h
  simp only[Qal,List.nil_append,List.cons_append,Nat.zero_add,Nat.reduceAdd]at h
  simp only[h]
  exact rfl):Sq P ops Q a mk (fun _ _=>F) G [] i ps:=fun l u W hl hu hF=>by rw[e u hu];exact h W hF
end
end
structure PkS(w1:World)(g q:Nat)(code:List UInt8)(ls:List (List UInt8))(tb pk ix:Bool)(W:World):Prop where
 gr:w1.grownBy W (some g)
 rd:Pz W g (if pk then q+1 else q) code
 sz:W.heap.size=w1.heap.size+(if tb then 1 else 0)
 tr:tb=true->Kh W w1.heap.size ls
 ox:ix=true->tb=true
section
variable {w1 W:World} {g q:Nat} {code:List UInt8} {ls:List (List UInt8)} {tb pk ix:Bool}
theorem PkS.start(h:Pz w1 g q code):PkS w1 g q code ls false false false w1.drew:=⟨Jd (By (Ap _ _) _),h,rfl,fun h=>Bool.noConfusion h,fun h=>Bool.noConfusion h⟩
theorem PkS.lt(h:PkS w1 g q code ls tb pk ix W)(hg:g<w1.heap.size):∀b o k,b<w1.heap.size->¬(b=g)->W.cell? ⟨b,o,k⟩=w1.cell? ⟨b,o,k⟩:=fun b o k hb hne=>
 World.cell?_of_block (a:=⟨b,o,k⟩) (h.gr.block b hb fun e=>hne (Option.some.inj e))
theorem PkS.lay(h:PkS w1 g q code ls false pk ix W):W.heap.size=w1.heap.size/\PkS w1 g q code ls true pk ix (W.alloc (.cells (Cb ls).toArray 9)):=by
 have e:W.heap.size=w1.heap.size:=h.sz;refine⟨e,Ae h.gr (World.grownBy_alloc W _ _),h.rd.below ((Ap _ _).alloc (An _) _),by simp[e],fun _=>?_,fun _=>rfl⟩;rw[<-e];exact Kh.new W ls
theorem PkS.pick(h:PkS w1 g q code ls tb false ix W)(hg:g<w1.heap.size){w':World}(hw:Qes W g q w'):PkS w1 g q code ls tb true ix w':=by
 obtain⟨k,rfl⟩:=hw;obtain⟨h1,h2⟩:=Qg h.rd k;refine⟨Ae h.gr h2,h1,by simpa using h.sz,fun e=>(h.tr e).grown h2 aH,h.ox⟩
theorem PkS.at_(h:PkS w1 g q code ls tb pk ix W)(ht:tb=true):PkS w1 g q code ls tb pk true W:=⟨h.gr,h.rd,h.sz,h.tr,fun _=>ht⟩
theorem PkS.txt(h:PkS w1 g q code ls tb pk ix W)(hx:ix=true){y:Nat}{tx:List UInt8}(hy:ls[y]?=some tx):W.cell? ⟨w1.heap.size,y,none⟩=tx:=by
 have:=h.tr (h.ox hx);unfold Kh at this;simp[World.cell?,this,Cb,hy]
end
def PK(w1:World)(g q:Nat)(code:List UInt8)(ls:List (List UInt8))(t p x:Nat)(l:Nat->Bool)(u:Nat->Value)(W:World):Prop:=PkS w1 g q code ls (l t) (l p) (l x) W
theorem PK.to{w1 W:World}{g q:Nat}{code:List UInt8}{ls:List (List UInt8)}{t p x:Nat}{l:Nat->Bool}{u:Nat->Value}(h:PK w1 g q code ls t p x l u W):PkS w1 g q code ls (l t) (l p) (l x) W:=h
section
variable {P:Program} {ops:Array Oper} {Q:Exit->Act->World->Prop} {a:Act} {mk:(Nat->Value)->Act} {G:World->Prop} {w1:World} {g q:Nat} {code:List UInt8} {ls:List (List UInt8)} {t p x:Nat}
theorem rgP{id:Nat}(ls:List (List UInt8))(t p x:Nat){w:World}(hR:Pz w g q code)(h:Sq P ops Q a mk (PK w g q code ls t p x) (fun W=>∀b o k,b<w.heap.size->¬(b=g)->W.cell? ⟨b,o,k⟩=w.cell? ⟨b,o,k⟩) ops.toList 0 [])
  (hc:(P.follows .mixedOrders && (List.range ops.size).all (fun i=>((ops[i]?).map fun o=>o.after.all fun e=>!Region.binds .any e || decide (e.on<i)).getD true) && Ge a.tmps.size ops.toList (Dn ops.toList))=true:=by kernel_rfl)
  (hmk:∀u,Bv a (Dn ops.toList) u=mk u:=by intro u;dsimp only[Bv,Dn,Bs,List.set,am,Nat.reduceAdd,List.length_cons,List.length_nil]):(Code.region id ops true).wp P Q a w:=
 rgF (PK w g q code ls t p x) _ (fun _ _ _ h=>PkS.lt h hR.any.lt) (PkS.start hR) h hc hmk
variable {o:Oper} {os:List Oper} {i:Nat} {ps:List (Value->Prop)} {v:Value}
theorem Qpr(k:Sq P ops Q a mk (PK w1 g q code ls t p x) G os (i+1) (ps++[fun z=>z=v]))(h:St P ops Q a mk (PK w1 g q code ls t p x) G i o ps (fun z=>z=v):=by
  intro l u W hl hp hF hG hi K9 hK;have h:=PK.to hF.o;rw[hl]at h;obtain⟨hs,hn⟩:=h.lay;have hn:=Aa hn;first|(simp[Region.binds,Ga]at hp;done)|simp[Region.binds,Ga]at hp|clear hp
  clear hG hi hF h;go_simp;exact hK _ _ _ rfl hn.o bE):Sq P ops Q a mk (PK w1 g q code ls t p x) G (o::os) i ps:=⟨_,h,k⟩
theorem Qpj{C:World->Prop}(hg:g<w1.heap.size)(X:∀W,Pz W g q code->C W)(k:Sq P ops Q a mk (PK w1 g q code ls t p x) G os (i+1) (ps++[fun z=>z=v]))(h:g<w1.heap.size->(∀W,Pz W g q code->C W)->St P ops Q a mk (PK w1 g q code ls t p x) G i o ps (fun z=>z=v):=by
  intro hg X l u W hl hp hF hG hi K9 hK;have h:=PK.to hF.o;rw[hl]at h;have HX:=X W h.rd;have Hh:=Aa (fun w' (hw:Qes W _ _ w')=>h.pick hg hw);first|(simp[Region.binds,Ga]at hp;done)|simp[Region.binds,Ga]at hp|clear hp
  clear hG hi hF h;go_simp;refine HX.mono ?_;rintro e w' ⟨rfl,hw⟩;exact hK _ _ _ rfl (Hh.o _ hw) bE):Sq P ops Q a mk (PK w1 g q code ls t p x) G (o::os) i ps:=⟨_,h hg X,k⟩
theorem Qpo(k:Sq P ops Q a mk (PK w1 g q code ls t p x) G os (i+1) (ps++[fun z=>z=v]))(h:St P ops Q a mk (PK w1 g q code ls t p x) G i o ps (fun z=>z=v):=by
  intro l u W hl hp hF hG hi K9 hK;have h:=PK.to hF.o;simp[Region.binds,Ga]at hp;have hn:=Aa (h.at_ dH);clear hG hi hF h;go_simp;exact hK _ _ _ rfl hn.o bE):Sq P ops Q a mk (PK w1 g q code ls t p x) G (o::os) i ps:=⟨_,h,k⟩
theorem Qpn{y:Nat}{tx:List UInt8}(hy:ls[y]?=some tx)(k:Sq P ops Q a mk (PK w1 g q code ls t p x) G os (i+1) (ps++[fun z=>z=v]))(h:ls[y]?=some tx->St P ops Q a mk (PK w1 g q code ls t p x) G i o ps (fun z=>z=v):=by
  intro hy l u W hl hp hF hG hi K9 hK;have h:=PK.to hF.o;simp[Region.binds,Ga]at hp;have hx:=h.txt dH hy;have hn:=Aa h;clear hG hi hF h;go_simp;exact hK _ _ _ rfl hn.o bE):Sq P ops Q a mk (PK w1 g q code ls t p x) G (o::os) i ps:=⟨_,h hy,k⟩
theorem sqZ{R:(Nat->Bool)->(Nat->Value)->World->Prop}(k:Sq P ops Q a mk R G os (i+1) (ps++[fun z=>z=v]))(h:St P ops Q a mk R G i o ps (fun z=>z=v):=by
  intro l u W hl hp hF hG hi K hK;first|(simp[Region.binds,Ga]at hp;done)|simp[Region.binds,Ga]at hp|clear hp
  go_simp;rw[if_neg aM];go_simp;exact hK _ _ _ rfl hF.o bE):Sq P ops Q a mk R G (o::os) i ps:=⟨_,h,k⟩
theorem dnP{b:Act}(h:∀W,Hid (PkS w1 g q code ls true true true W)->Q .normal b W)(hi:t<i/\p<i/\x<i)(e:∀u,Qal ps 0 u->mk u=b:=by
  intro u h;simp only[Qal,List.nil_append,av,am,Nat.reduceAdd]at h;simp only[h];exact rfl):Sq P ops Q a mk (PK w1 g q code ls t p x) G [] i ps:=fun l u W hl hu hF=>by
 have hF:=PK.to hF;rw[hl t hi.1,hl p hi.2.1,hl x hi.2.2]at hF;rw[e u hu];exact h W hF
end
section
attribute [local go_sem] Qo7 Qok Qoa Ql9 ByteArray.mk_append_mk
theorem Qbd(s:List UInt8)(w:World)(hs:s.length<=4000000):
  Calls prog 68 #[s] w fun e w'=>e=.returned (.bool (Cl s).isSome)/\Below w w w':=by
 have H:=Aa (fun W=>Vc s W hs);generalize Cl s=o at *;go_enter func68,ntmps68;go_wp2_with fail;refine(H.o _).mono ?_;rintro e w1 ⟨hc,hb⟩;have Hb:=Aa hb;clear hb;cases o with
 |none=>
  obtain⟨A,n,c,rfl⟩:=hc;go_wp2_with fail;go_ret;exact⟨rfl,Hb.o⟩
 |some S=>
  obtain⟨v,xs,rfl,_,_⟩:=hc;go_wp2_with fail;go_ret;exact⟨rfl,Hb.o⟩
def Qcj:List (List UInt8):=[[82],[85],[85],[69]]
def Yp:List (List UInt8):=[[82],[69],[85]]
def Qax:List (List UInt8):=[[],[44],[58],[49],[10]]
def Qar:List (List UInt8):=[[64,97,59],[64,97,59],[64,97,59],[64,98,59],[64,99,59],[91,110],[63,64,97,59],[110],[116],[91,64,98,59],[63,91,102]]
def Qcl:List UInt8:=[82,97,61,49,58,112,58,110,61,53,44,50,58,113,58,91,116,44,52,58,114,58,63,64,97,59,44,53,58,115,58,64,98,59,10,85,98,61,49,58,112,58,110,44,51,58,113,58,64,97,59,10,69,99,61,49,58,112,44,50,58,113,10]
def DSc(l:List UInt8):Prop:=l.length<=270/\Qaf l
def Yh(l:List UInt8):Prop:=l.length<=264/\1<=l.length/\∃st,mach (0,0) l=some st
theorem Yh.three{a b c:List UInt8}(ha:Fu a/\a.length<=88/\1<=a.length)(hb:Fu b/\b.length<=88/\1<=b.length)(hc:Fu c/\c.length<=88/\1<=c.length):Yh (a++b++c):=by
 obtain⟨u,e,_⟩:=((ha.1.app hb.1).app hc.1) 0 aH;exact⟨by simp only[ah];omega,by simp only[ah];omega,_,e⟩
theorem Yh.plain:Yh Qcl:=⟨by decide,by decide,(0,0),by decide⟩
theorem Yh.o{l:List UInt8}(h:Yh l):DSc l:=⟨by have:=h.1;omega,by obtain⟨_,_,st,e⟩:=h;exact Qaf.of_mach e⟩
theorem Yh.turned{l i:List UInt8}{k:Nat}(h:Yh l)(hk:k<l.length)(hi:i∈Qax):DSc (l.take k++(i++l.drop (k+1))):=by
 obtain⟨h1,_,s,e⟩:=h;have hil:i.length<=1:=(show ∀i∈Qax,i.length<=1 by decide) i hi;refine⟨by simp only[ah,List.length_take,List.length_drop];omega,?_⟩;have e2:l=l.take k++l[k]::l.drop (k+1):=by
  rw[List.getElem_cons_drop,List.take_append_drop]
 rw[e2]at e;refine Qaf.turned e i ?_;have:i=[]\/i=[44]\/i=[58]\/i=[49]\/i=[10]:=by simpa [Qax]using hi
 rcases this with rfl|rfl|rfl|rfl|rfl
 ·exact .inl rfl
 ·exact .inr ⟨44,rfl,by decide,by decide⟩
 ·exact .inr ⟨58,rfl,by decide,by decide⟩
 ·exact .inr ⟨49,rfl,by decide,by decide⟩
 exact .inr ⟨10,rfl,by decide,by decide⟩
theorem Qhr{s:List UInt8}(h:s∈Qcj\/s∈Yp):∃c:UInt8,s=[c]/\(c=82\/c=85\/c=69):=by
 have hd:(∀s∈Qcj,s=[82]\/s=[85]\/s=[69])/\(∀s∈Yp,s=[82]\/s=[85]\/s=[69]):=aJ;have:s=[82]\/s=[85]\/s=[69]:=h.elim (hd.1 s) (hd.2 s);rcases this with rfl|rfl|rfl
 ·exact⟨82,rfl,.inl rfl⟩
 ·exact⟨85,rfl,.inr (.inl rfl)⟩
 exact⟨69,rfl,.inr (.inr rfl)⟩
theorem Pa(g p:Nat)(w:World)(h:Fg w g p)(hp:p<=1000000):
  Calls prog 35 #[g] w (Vx DSc w g p 170):=by
 have hgl:=h.lt;have HR:=Aa h;clear h;go_enter func35,ntmps35;go_wp2_with fail;refine(Q4 g p 82 97 _ HR.o aH (.inl rfl) aJ).mono ?_;rintro e w1 ⟨l1,q1,rfl,hl1,hq1,hR1,hg1⟩;have hg1l:=hR1.lt;have HR1:=Aa hR1;have Hg1:=Aa hg1;have Hl1:=Aa hl1;have l1l:=hl1.2.1;clear hR1 hg1 hl1 HR;go_wp2_with fail;refine(Bp g q1 4 _ (HR1.o.dalloc _) aH aH aH).mono ?_;rintro e w2 ⟨x,rfl,hx1,_,hR2,hg2⟩;have hx:x<Qcj.length:=by show x<4;omega
 obtain⟨s2,hsm,hcell⟩:=((Kh.new w1 Qcj).grown hg2 aH).cell hx;obtain⟨c2,rfl,hc2⟩:=Qhr (.inl hsm);have i1:(0:Int)<=(x:Int):=aH;have i2:(x:Int)<4:=aH;have HR2:=Aa hR2;have Hg2:=Aa (Ae Hg1.o (Ae (World.grownBy_alloc w1 _ (some g)) hg2));have Hc2:=Aa hc2;clear hR2 hg2 hsm hc2 HR1 Hg1;go_wp2_with fail;refine(Q4 g (q1+1) c2 98 _ HR2.o aH Hc2.o aJ).mono ?_;rintro e w3 ⟨l3,q3,rfl,hl3,hq3,hR3,hg3⟩;have hg3l:=hR3.lt;have HR3:=Aa hR3;have Hg3:=Aa (Ae Hg2.o hg3);have Hl3:=Aa hl3;have l3l:=hl3.2.1;clear hR3 hg3 hl3 HR2 Hg2 hcell;go_wp2_with fail;refine(Bp g q3 3 _ (HR3.o.dalloc _) aH aH aH).mono ?_;rintro e w4 ⟨y,rfl,hy1,_,hR4,hg4⟩;have hy:y<Yp.length:=by show y<3;omega
 obtain⟨s4,hsm,hcell⟩:=((Kh.new w3 Yp).grown hg4 aH).cell hy;obtain⟨c4,rfl,hc4⟩:=Qhr (.inr hsm);have j1:(0:Int)<=(y:Int):=aH;have j2:(y:Int)<3:=aH;have HR4:=Aa hR4;have Hg4:=Aa (Ae Hg3.o (Ae (World.grownBy_alloc w3 _ (some g)) hg4));have Hc4:=Aa hc4;clear hR4 hg4 hsm hc4 HR3 Hg3;go_wp2_with fail;refine(Q4 g (q3+1) c4 99 _ HR4.o aH Hc4.o aJ).mono ?_;rintro e w5 ⟨l5,q5,rfl,hl5,hq5,hR5,hg5⟩;have hg5l:=hR5.lt;have HR5:=Aa hR5;have Hg5:=Aa (Ae Hg4.o hg5);have l5l:=hl5.2.1;have Hs:=Aa (Yh.three Hl1.o Hl3.o hl5);have hsl:(l1++(l3++l5)).length<=264:=by simp only[ah];omega
 rw[List.append_assoc]at Hs;clear hR5 hg5 hl5 HR4 Hg4 hcell;have Hsok:=Aa (fun W=>Qbd (l1++(l3++l5)) W aH);clear Hl1 Hl3;go_upto_region 2 with fail
 generalize (Cl (l1++(l3++l5))).isSome=ok at *;generalize l1++(l3++l5)=s0 at *;go_cut [30]from 5 (fun b30 wx=>∃(tb:Bool) (q':Nat),b30=.bool tb/\q'<=q5+1/\Hid (Fg wx g q')/\Hid (w.grownBy wx (some g)))
 case first=>
  go_wp2_with fail;refine(Hsok.o _).mono ?_;rintro e w6 ⟨rfl,hb6⟩;have HR6:=Aa (HR5.o.below hb6);have Hg6:=Aa (Ae Hg5.o (By hb6 (some g)));clear hb6 Hsok;cases ok with
  |true=>
   go_wp2_with fail;go_meet
   exact⟨false,q5,rfl,by omega,HR6.o,Hg6.o⟩
  |false=>
   go_wp2_with fail;refine(Bp g q5 8 _ HR6.o aH aH aH).mono ?_;rintro e w7 ⟨u,rfl,_,_,hR7,hg7⟩;have HR7:=Aa hR7;have Hg7:=Aa (Ae Hg6.o hg7);clear hR7 hg7;go_wp2_with fail;go_meet
   exact⟨decide (0<u),q5+1,rfl,by omega,HR7.o,Hg7.o⟩
 case rest=>
  obtain⟨tb,q',rfl,hq',HR7,Hg7⟩:=hcut;obtain⟨w7,rfl⟩:∃w7:World,w7=wc:=⟨_,rfl⟩
  clear Hsok HR5 Hg5;go_upto_if 30 with fail
  go_cut [3]from 5 (fun s3 wx=>∃s:List UInt8,s3=s/\Hid (Yh s)/\wx=w7)
  case first=>
   cases tb with
   |true=>
    go_wp2_with fail;go_meet
    exact⟨Qcl,by simp only[Qcl],Yh.plain,rfl⟩
   |false=>
    go_wp2_with fail;go_meet
    exact⟨s0,rfl,Hs.o,rfl⟩
  case rest=>
   clear Hs hsl;obtain⟨s,rfl,Hs,rfl⟩:=hcut;have hsl:=Hs.o.1;have hs1:=Hs.o.2.1;go_wp2_with fail;refine(Bp g q' 24 _ HR7.o aH aH aH).mono ?_;rintro e w8 ⟨z,rfl,_,_,hR8,hg8⟩;have HR8:=Aa hR8;have Hg8:=Aa (Ae Hg7.o hg8);clear hR8 hg8 HR7 Hg7;by_cases hz0:z=0
   ·have tz:((z:Int) == 0)=true:=by simp[hz0]
    clear hz0;go_wp2_with fail;refine(Bp g (q'+1) s.length _ HR8.o aH aH aH).mono ?_;rintro e w9 ⟨k,rfl,hk1,_,hR9,hg9⟩;have hk1:=hk1 aH;have hk:k<s.length:=aH;have Hg9:=Aa (Ae Hg8.o hg9);obtain⟨code,hRL⟩:=hR9.known;have hgl9:=hRL.any.lt;obtain⟨hy1,_⟩:=Qd5 code (q'+1+1) 5;have hy1:=hy1 aH;have HPk:=Aa (fun W (h:Pz W g (q'+1+1) code)=>Qcp g (q'+1+1) code 5 W h aH aH aH);generalize Xy code (q'+1+1) 5=y at *;obtain⟨i,hi⟩:∃i:List UInt8,Qax[y]?=some i:=⟨Qax[y]'(by show y<5;omega),List.getElem?_eq_getElem _⟩
    have him:=List.mem_of_getElem? hi;have hil:i.length<=1:=(show ∀i∈Qax,i.length<=1 by decide) i him;have Hi:=Aa hi;have Him:=Aa him;have Hk:=Aa hk;have i5:(0:Int)<=(k:Int):=aH;have i6:(k:Int)<=(s.length:Int):=aH;have i7:(k:Int)+1<=(s.length:Int):=aH;have i8:(0:Int)<=(k:Int)+1:=aH;have y1:(0:Int)<=(y:Int):=aH;have y2:(y:Int)<5:=aH;have hwr:IntKind.i64.wrap ((k:Int)+1)=(k:Int)+1:=IntWalk.i64_in _ aH;clear hR9 hg9 HR8 Hg8 hi him hk tz;go_wp2_with fail;refine rgP Qax 3 5 6 hRL ?_;iterate 3 refine sq ?_
    refine Qpr ?_;refine sq ?_;refine Qpj hgl9 HPk.o ?_;refine Qpo ?_;refine Qpn Hi.o ?_;refine sqZ ?_;iterate 4 refine sq ?_
    refine sqZ ?_;refine sq ?_;refine dnP (fun W hW=>?_) aJ;go_wp2_with fail;go_ret;exact⟨_,q'+1+1+1,rfl,by simpa using Yh.turned Hs.o Hk.o Him.o,by omega,hW.o.rd.any,Ae Hg9.o hW.o.gr⟩
   ·have tz:((z:Int) == 0)=false:=aM;clear hz0;go_wp2_with fail;go_ret;exact⟨s,q'+1,rfl,Hs.o.o,by omega,HR8.o,Hg8.o⟩
def DKs(l:List UInt8):Prop:=DK l\/l∈Qar\/l=[110]
theorem DKs.len{l:List UInt8}(h:DKs l):l.length<=15:=by
 rcases h with h|h|rfl
 ·exact h.len
 ·exact(show ∀l∈Qar,l.length<=15 by decide) l h
 decide
theorem Qei(g p:Nat)(s:List UInt8)(w:World)(h:Fg w g p)(hp:p<=10000000)(hs:s.length<=1000000):
  Calls prog 36 #[g,s] w (Vx DKs w g p 10):=by
 have hgl:=h.lt;have HR:=Aa h;clear h;go_enter func36,ntmps36;go_wp2_with fail;refine(Bp g p 30 _ HR.o aH aH aH).mono ?_;rintro e w1 ⟨x,rfl,hx1,_,hR1,hg1⟩;have HR1:=Aa hR1;have Hg1:=Aa hg1;have hg1l:=hR1.lt;clear hR1 hg1 HR hx1;by_cases hx0:x=0
 ·subst hx0;go_wp2_with fail;refine(N8 g (p+1) _ HR1.o aH).mono ?_;rintro e w2 ⟨l,q,rfl,hl,hq,hR2,hg2⟩;have HR2:=Aa hR2;have Hg2:=Aa (Ae Hg1.o hg2);have Hl:=Aa hl;clear hR2 hg2 hl HR1 Hg1;go_wp2_with fail;go_ret;exact⟨l,q,rfl,.inl Hl.o,by omega,HR2.o,Hg2.o⟩
 have tx:((x:Int) == 0)=false:=aM;clear hx0;go_wp2_with fail;refine(Bp g (p+1) 11 _ (HR1.o.dalloc _) aH aH aH).mono ?_;rintro e w2 ⟨y,rfl,hy1,_,hR2,hg2⟩;have hy:y<Qar.length:=by show y<11;omega
 obtain⟨k,hkm,hcell⟩:=((Kh.new w1 Qar).grown hg2 aH).cell hy;have hkl:k.length<=15:=(show ∀l∈Qar,l.length<=15 by decide) k hkm;have i1:(0:Int)<=(y:Int):=aH;have i2:(y:Int)<11:=aH;have HR2:=Aa hR2;have Hg2:=Aa (Ae Hg1.o (Ae (World.grownBy_alloc w1 _ (some g)) hg2));have Hk:=Aa hkm;have Hkind:=Aa (fun W=>Pm s k W aH aH);generalize At s k=o at Hkind;clear hR2 hg2 hkm HR1 Hg1 hy hy1;go_wp2_with fail;refine(Hkind.o _).mono ?_;rintro e w3 ⟨hc3,hb3⟩;have HR3:=Aa (HR2.o.below hb3);have Hg3:=Aa (Ae Hg2.o (By hb3 (some g)));clear hb3 HR2 Hg2 hcell;cases o with
 |none=>
  obtain⟨A,n,c,rfl⟩:=hc3;go_wp2_with fail;go_ret;exact⟨[110],p+1+1,rfl,.inr (.inr rfl),by omega,HR3.o,Hg3.o⟩
 |some z=>
  obtain⟨v,xs,rfl,_,_⟩:=hc3;go_wp2_with fail;go_ret;exact⟨k,p+1+1,rfl,.inr (.inl Hk.o),by omega,HR3.o,Hg3.o⟩
theorem Yz(fs:List Fd):∀y∈fs.flatMap Mn,y.oneCell'=true:=by
 intro y hy;obtain⟨v,_,hv⟩:=List.mem_flatMap.1 hy;simp[Mn]at hv;rcases hv with rfl|rfl|rfl|rfl<;>rfl
theorem Zb{fs:List Fd}{n:Nat}{f:Fd}(h:Av fs n=some f):f∈fs:=List.mem_of_find?_eq_some h
theorem Jm{st:UInt8}{f:Fd}(h:Tu st f):f.given.length<=14:=by
 by_cases hs:st=69
 ·rw[(h.2.2.2.1 hs).2];simp
 by_cases hg:f.given=[]
 ·rw[hg];simp
 have:=((h.2.2.2.2 hs).2 hg).2.2
 unfold Ck at this
 split at this
 ·split at this
  ·rename_i n hd
   have:=Co.1 hd
   rw[this.2]
   have:=Dk 5 n (by have e:10 ^ (5+1)=1000000:=rfl;omega)
   omega
  cases this
 split at this
 ·simp only[Bool.and_eq_true,decide_eq_true_eq]at this
  have h4:=this.2
  unfold Dy at h4
  simp only[Bool.and_eq_true,decide_eq_true_eq,List.length_dropLast,List.length_drop]at h4
  omega
 split at this
 ·simp only[decide_eq_true_eq]at this;rw[this];simp
 cases this
end
end Go.Proofs.YtbdibdghphdcdaaGreatDoor
