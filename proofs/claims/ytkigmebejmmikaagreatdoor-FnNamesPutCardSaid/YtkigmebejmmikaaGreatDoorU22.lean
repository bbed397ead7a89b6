/- Texts joined. Conditions: as each theorem names them. -/
import Derived.Deep.DeepCutAuto
import Derived.Laws.BitsAllLaws
import Derived.Laws.BitsLemmas
import Derived.Test.YtkigmebejmmikaaGreatDoorU20
import Derived.Test.YtkigmebejmmikaaGreatDoorU21
set_option maxRecDepth 100000
set_option maxHeartbeats 32000000
set_option linter.unusedVariables false
set_option linter.unusedSimpArgs false
namespace Go.Proofs.YtkigmebejmmikaaGreatDoor
open Go.RowKit Go.Proofs.Tryz
theorem Qla{s d x tx:List UInt8}(h:vlB (C5 s d) x Sn=some tx):Qeu (C5 s d) tx=(if 600<tx.length then none else some x)/\tx.length<=100000:=by
 cases hb:C5 s d with
 |none=>rw[hb]at h;cases h
 |some y=>
  obtain⟨S,k⟩:=y;rw[hb]at h;cases hv:Kz S k x with
  |none=>simp[vlB,hv]at h
  |some v=>
   simp only[vlB,hv,Option.bind_some]at h;obtain⟨hok,_,_,hk,_,_⟩:=Kl hb;obtain⟨hvk,hpr,hxl⟩:=(Ml hok.1.1 hk).1 hv;unfold Sn Md at h;split at h
   ·rename_i ho;injection h with h;subst h;have hlen:=Q8 hok.1.1 _ _ _ hvk;refine⟨?_,by rw[hpr]at hlen;omega⟩;unfold Qeu;split
    ·rfl
    have:=Qe4 hok.1.1 12 k v hvk ho [] Mp;rw[List.append_nil]at this;simp only[Option.bind_some];rw[this];simp only[Option.bind_some];rw[if_pos ⟨Ac,by rw[hpr];exact hxl⟩,hpr]
   cases h
def Mj(S:List Ty):Nat->Kd->Vl->List UInt8
 |0,_,_=>[]
 |d+1,k,v=>
  if v.what=85 then 123::(Dz S k v.tag++58::(Mj S d (Fy S k v.tag) (Nc v)++[125]))
  else if v.what=63 then(if k.part.signs.head?=some 63 then[]else match v.kids with|[]=>Jz|x::_=>Mj S d k.part x)
  else if Cq S (d+1) k v=true then Ec S (d+1) k v else[]
theorem Qfz{S:List Ty}:∀{d:Nat} {k:Kd} {v:Vl},Gg S d k v->Cq S d k v=true->Mj S d k v=Ec S d k v:=by
 intro d;induction d with
 |zero=>intro k v h;cases h
 |succ d ih=>
  intro k v h ho;cases h with
  |n hs hb h=>simp[Mj,Cq,Vl.what]
  |t hs hb h=>simp[Mj,Cq,Vl.what]
  |f hs hb=>simp[Mj,Cq,Vl.what]
  |@lst _ _ r ks hs hl h=>
   unfold Mj;rw[ho];simp[Vl.what]
  |@non _ _ r hs=>
   simp[Cq,Vl.what,Vl.kids]at ho;simp[Mj,Ec,Vl.what,Vl.kids,ho]
  |@som _ _ r x hs h=>
   simp[Cq,Vl.what,Vl.kids]at ho;simp[Mj,Ec,Vl.what,Vl.kids,ho.1,ih h ho.2]
  |enm hs hb ht h9 hf=>simp[Mj,Cq,Vl.what]
  |@uni _ _ t f x hs hb ht h5 hf h=>
   have e:=Db ht hf;simp[Cq,Vl.what,Vl.kids,Vl.tag,e]at ho;simp[Mj,Ec,Vl.what,Vl.kids,Vl.tag,e,Nc,ih h ho]
  |@rcd _ _ t fs hs hb ht h2 hf h hn hp=>
   unfold Mj;rw[ho];simp[Vl.what]
theorem Kt{S:List Ty}{d:Nat}{k:Kd}{v:Vl}(h5:v.what≠85)(h3:v.what≠63):Mj S (d+1) k v=if Cq S (d+1) k v=true then Ec S (d+1) k v else[]:=by
 conv=>lhs;unfold Mj
 rw[if_neg h5,if_neg h3]
theorem Q7{S:List Ty}(hS:∀t∈S,Du t){d:Nat}{k:Kd}{v:Vl}(h:Gg S (d+1) k v)(h5:v.what≠85)(h3:v.what≠63):(Mj S (d+1) k v).length<=20*(Ay v).length:=by
 rw[Kt h5 h3];split
 ·exact Q8 hS _ _ _ h
 simp
theorem Qb7{S:List Ty}(hS:∀t∈S,Du t):∀{d:Nat} {k:Kd} {v:Vl},Gg S d k v->(Mj S d k v).length<=20*(Ay v).length:=by
 intro d;induction d with
 |zero=>intro k v h;cases h
 |succ d ih=>
  intro k v h;have hT:=Q8 hS _ _ _ h;have H:=h;cases h with
  |n hs hb h=>exact Q7 hS H bD bD
  |t hs hb h=>exact Q7 hS H bD bD
  |f hs hb=>exact Q7 hS H bD bD
  |@lst _ _ r ks hs hl h=>exact Q7 hS H bD bD
  |non hs=>simp only[Mj,Vl.what,Vl.kids];simp;split;simp;simpa [Ec,Vl.what,Vl.kids]using hT
  |@som _ _ r x hs h=>
   have h1:=ih h;rw[E3];simp[Mj,Vl.what,Vl.kids,Fl,Am];split
   ·simp
   omega
  |@enm _ _ t f hs hb ht h9 hf=>exact Q7 hS H bD bD
  |@uni _ _ t f x hs hb ht h5 hf h=>
   have:=Re hS ht hf;have h1:=ih h;have e:=Db ht hf;rw[E3];simp[Mj,Vl.what,Vl.tag,Vl.kids,Fl,Am,Nc,e];omega
  |@rcd _ _ t fs hs hb ht h2 hf h hn hp=>exact Q7 hS H bD bD
def Qg7(w:World)(e:Ending)(w':World):Prop:=∃a b s:List UInt8,e=.returned (.tuple #[.string ⟨a.toArray⟩,.string ⟨b.toArray⟩,.string ⟨s.toArray⟩])/\a.length<=100000/\b.length<=100000/\s.length<=100000/\Below w.heap.size w w'
def Ey(w:World)(g p:Nat):Prop:=
 ∃A n c l,w.heap[g]?=some (.cells #[.slice A n c,(p:Int)] 113 (0,0))/\Bg w A n (Fj l)/\n<=2000/\∀b off,A=some ⟨b,off,none⟩->0<n->b<g
theorem Ey.lt{w:World}{g p:Nat}(h:Ey w g p):g<w.heap.size:=by
 obtain⟨A,n,c,l,hh,_⟩:=h;rcases aF g w.heap.size with h1|h1
 ·exact h1
 rw[Array.getElem?_eq_none h1]at hh;cases hh
theorem Ey.below{w w':World}{g p:Nat}(h:Ey w g p)(hb:Below w w w'):Ey w' g p:=by
 have hlt:=h.lt;obtain⟨A,n,c,l,hh,hr,h2,h3⟩:=h;exact⟨A,n,c,l,(hb.block g hlt).trans hh,hr.below hb,h2,h3⟩
theorem Ey.belowg{w w':World}{g p:Nat}(h:Ey w g p)(hb:Below (g+1) w w')(hs:w.heap.size<=w'.heap.size):Ey w' g p:=by
 obtain⟨A,n,c,l,hh,hr,h2,h3⟩:=h;refine⟨A,n,c,l,(hb.block g aG).trans hh,⟨hr.1,hr.2.1,fun hn=>?_⟩,h2,h3⟩;obtain⟨b,off,e,hlt,hc⟩:=hr.2.2 hn;have:=h3 b off e hn;exact⟨b,off,e,ac hlt hs,fun j u hu=>(hb.cell (p:=⟨b,off+j,none⟩) (by show b<g+1;omega)).trans (hc j u hu)⟩
theorem Bg.grown{w w':World}{g:Nat}{A:Option Addr}{n:Nat}{xs:List Value}(h:Bg w A n xs)(hg:w.grownBy w' (some g))(hne:∀b off,A=some ⟨b,off,none⟩->0<n->b≠g):Bg w' A n xs:=by
 refine⟨h.1,h.2.1,fun hn=>?_⟩;obtain⟨b,off,e,hlt,hc⟩:=h.2.2 hn;refine⟨b,off,e,ac hlt hg.size,fun j u hu=>?_⟩;exact(World.cell?_of_block (a:=⟨b,off+j,none⟩) (hg.block b hlt (fun h=>hne b off e hn (Option.some.inj h)))).trans (hc j u hu)
theorem Qeg(a b:Nat)(ha:a<4611686018427387904)(hb:b<4611686018427387904):∃x:Nat,bits .xor .i64 (a:Int) (b:Int)=(x:Int)/\x<4611686018427387904:=by
 have hx:a ^^^ b<2 ^ 62:=Nat.xor_lt_two_pow aG aG;refine⟨a ^^^ b,?_,hx⟩;show IntKind.i64.wrap ((BitVec.ofInt 64 (a:Int) ^^^ BitVec.ofInt 64 (b:Int)).toNat:Int)=_;have ho:∀a:Nat,a<4611686018427387904->(BitVec.ofInt 64 (a:Int)).toNat=a:=fun a ha=>by
  rw[BitVec.ofInt_natCast,BitVec.toNat_ofNat];exact Nat.mod_eq_of_lt aG
 rw[BitVec.toNat_xor,ho a ha,ho b hb,IntKind.wrap_i64];omega
def Qj0(w:World)(g p:Nat)(n:Int)(e:Ending)(w':World):Prop:=
 ∃x:Nat,e=.returned (x:Int)/\(1<=n->(x:Int)<n)/\(n<1->x=0)/\Ey w' g (p+1)/\w.grownBy w' (some g)
theorem Qfk{w:World}{g p:Nat}(h:Ey w g p)(k:Nat):Ey ((w.setCell ⟨g,1,none⟩ (.int .i64 ((p:Int)+1))).drewN k) g (p+1)/\w.grownBy ((w.setCell ⟨g,1,none⟩ (.int .i64 ((p:Int)+1))).drewN k) (some g):=by
 obtain⟨A,n,c,l,hh,hr,h2,h3⟩:=h;have hg:w.grownBy (w.setCell ⟨g,1,none⟩ (.int .i64 ((p:Int)+1))) (some g):=
  ⟨rfl,rfl,rfl,by simp,fun k _ hk=>heap_setCell_other w ⟨g,1,none⟩ k _ (fun e=>hk (by simp[e]))⟩
 have hg':w.grownBy ((w.setCell ⟨g,1,none⟩ (.int .i64 ((p:Int)+1))).drewN k) (some g):=⟨hg.os,hg.tape,hg.output,hg.size,hg.block⟩
 refine⟨⟨A,n,c,l,?_,hr.grown hg' (fun b off e hn=>Nat.ne_of_lt (h3 b off e hn)),h2,h3⟩,hg'⟩;have:=heap_setCell_same w g 1 _ _ (.int .i64 ((p:Int)+1)) hh;have e:((p+1:Nat):Int)=(p:Int)+1:=aG;rw[e];exact this
theorem Bt(g p:Nat)(n:Int)(w:World)(h:Ey w g p)(hp:p<=1000000000)(hn:n<=1000000000)(hn0:-1000000000<=n):
  Calls prog 29 #[g,.int .i64 n] w (Qj0 w g p n):=by
 have hw:=fun k=>Qfk h k;have Hw:=Aa hw;clear hw;obtain⟨A,m,c,l,hh,hr,h2,h3⟩:=h;have hc0:w.cell? (g,0)=some (.slice A m c):=by simp[World.cell?,hh]
 have hc1:w.cell? (g,1)=(p:Int):=by simp[World.cell?,hh]
 have hf:w.frozen? (g,1)=false:=by simp[World.frozen?,hh]
 have Hh:=Aa hh;clear hh;by_cases hn1:n<1
 ·have H3:=Aa h3;clear h3;go_enter func29,ntmps29;go_wp2
  exact m9
 by_cases hm:m=0
 ·have H3:=Aa h3;clear h3;subst hm;go_enter func29,ntmps29;go_wp2
  exact m9
 have hm1:0<m:=aG;have tm:((m:Int) == 0)=false:=aN;have hl:l.length=m:=by have:=hr.1;simpa [Fj]using this
 by_cases hk:p<m
 ·obtain⟨b,o,rfl,hb,hx⟩:=hr.at_ hk;have hbg:b≠g:=Nat.ne_of_lt (h3 b o rfl hm1);have hx':w.cell? ⟨b,o+p,none⟩=some (.int .u8 ((l[p]' aG).toNat:Int)):=by rw[hx];simp[Fj]
  have hlt:=(l[p]' aG).toNat_lt;generalize (l[p]'(show p<l.length by omega)).toNat=y at hx' hlt;clear hx h3 tm;have tm:((m:Int) == 0)=false:=aN;have i1:(0:Int)<=(p:Int):=aG;have i2:(p:Int)<(m:Int):=aG;go_enter func29,ntmps29;go_wp2
  go_ret;have hn':(0:Int)<n:=aG;have e1:=Int.emod_nonneg (y:Int) (show n≠0 by omega);have e2:=Int.emod_lt_of_pos (y:Int) hn';exact⟨((y:Int) % n).toNat,Et (Qm7 aG),by omega,by omega,(Hw.o 0).1,(Hw.o 0).2⟩
 obtain⟨b,o,rfl,hb,hcell⟩:=hr.2.2 hm1;have hbg:b≠g:=Nat.ne_of_lt (h3 b o rfl hm1);have m1:p % m<m:=Nat.mod_lt _ hm1;have m2:(p*7+3) % m<m:=Nat.mod_lt _ hm1;have hx1:=hcell (p % m) _ (List.getElem?_eq_getElem (show p % m<(Fj l).length by rw[Ru];omega));have hx2:=hcell ((p*7+3) % m) _ (List.getElem?_eq_getElem (show (p*7+3) % m<(Fj l).length by rw[Ru];omega));simp only[Fj,List.getElem_map]at hx1 hx2;have hlt1:=(l[p % m]' aG).toNat_lt;have hlt2:=(l[(p*7+3) % m]' aG).toNat_lt;generalize (l[p % m]'(show p % m<l.length by omega)).toNat=y1 at hx1 hlt1;generalize (l[(p*7+3) % m]'(show (p*7+3) % m<l.length by omega)).toNat=y2 at hx2 hlt2;have M1:((p:Int).tmod m)=((p % m:Nat):Int):=by rw[Int.tmod_eq_emod_of_nonneg aG];omega
 have M2:(((p:Int)*7+3).tmod m)=(((p*7+3) % m:Nat):Int):=by rw[Int.tmod_eq_emod_of_nonneg aG];simp
 have M3:((p:Int).tdiv m)=((p / m:Nat):Int):=by rw[Int.tdiv_eq_ediv_of_nonneg aG];omega
 have m3:p / m<=p:=Nat.div_le_self _ _;generalize p % m=k1 at M1 hx1 m1;generalize (p*7+3) % m=k2 at M2 hx2 m2;generalize p / m=k3 at M3 m3;have a1:IntKind.i64.wrap ((y1:Int)*131)=(y1:Int)*131:=IntWalk.i64_in _ aG;have a2:IntKind.i64.wrap ((y2:Int)*1117)=(y2:Int)*1117:=IntWalk.i64_in _ aG;have a3:IntKind.i64.wrap ((y1:Int)*131+(y2:Int)*1117)=(y1:Int)*131+(y2:Int)*1117:=IntWalk.i64_in _ aG;have a4:IntKind.i64.wrap ((p:Int)*29)=(p:Int)*29:=IntWalk.i64_in _ aG;have a5:IntKind.i64.wrap ((y1:Int)*131+(y2:Int)*1117+(p:Int)*29)=(y1:Int)*131+(y2:Int)*1117+(p:Int)*29:=IntWalk.i64_in _ aG;have a7:IntKind.i64.wrap ((k3:Int)*53)=(k3:Int)*53:=IntWalk.i64_in _ aG;have a9:IntKind.i64.wrap ((p:Int)*7)=(p:Int)*7:=IntWalk.i64_in _ aG;have a10:IntKind.i64.wrap ((p:Int)*7+3)=(p:Int)*7+3:=IntWalk.i64_in _ aG;obtain⟨z,a8,hz⟩:∃z:Nat,IntKind.i64.wrap ((y1:Int)*131+(y2:Int)*1117+(p:Int)*29+(k3:Int)*53)=(z:Int)/\z<4611686018427387904:=
  ⟨y1*131+y2*1117+p*29+k3*53,by rw[IntWalk.i64_in _ aG];omega,by omega⟩
 obtain⟨x,hx,hxl⟩:=Qeg z (z / 64) hz aG;rw[show ((z / 64:Nat):Int)=(z:Int) / 64 from by omega]at hx;clear hcell h3 hm hr;have i1:(0:Int)<=(p:Int):=aG;have i2:(0:Int)<(m:Int):=aG;have i3:(0:Int)<=(k1:Int):=aG;have i4:(k1:Int)<(m:Int):=aG;have i5:(0:Int)<=(k2:Int):=aG;have i6:(k2:Int)<(m:Int):=aG;have j1:(0:Int)<=(z:Int):=aG;have j2:(0:Int)<=(x:Int):=aG;go_enter func29,ntmps29;go_wp2
 go_quiet (fail)
 clear a1 a2 a3 a4 a5 a7 a9 a10 a8 M1 M2 M3;go_wp2
 go_ret;have hn':(0:Int)<n:=aG;have e1:=Int.emod_nonneg (x:Int) (show n≠0 by omega);have e2:=Int.emod_lt_of_pos (x:Int) hn';exact⟨((x:Int) % n).toNat,Et (Qm7 aG),by omega,by omega,(Hw.o _).1,(Hw.o _).2⟩
theorem Qg4{w:World}{A:Option Addr}{n c:Nat}{l:List UInt8}(h:Bg w A n (Fj l))(hn:n<=2000):Ey (w.alloc (.cells #[.slice A n c,.int .i64 0] 113)) w 0:=by
 refine⟨A,n,c,l,heap_alloc_new w _,h.alloc _,hn,fun b off e hpos=>?_⟩;obtain⟨b',off',e',hlt,_⟩:=h.2.2 hpos;rw[e]at e';injection e' with e';injection e' with e1;subst e1;omega
theorem Bg.take{w:World}{A:Option Addr}{n:Nat}{l:List UInt8}(h:Bg w A n (Fj l))(k:Nat)(hk:k<=n):Bg w A k (Fj (l.take k)):=by
 have hl:l.length=n:=by have:=h.1;simpa [Fj]using this
 refine⟨by simp[Fj];omega,ad hk h.2.1,fun h0=>?_⟩;obtain⟨b,off,e,hlt,hc⟩:=h.2.2 aG;refine⟨b,off,e,hlt,fun j u hu=>hc j u ?_⟩;have hj:j<k:=by
  have:=(List.getElem?_eq_some_iff.1 hu).1;simp[Fj]at this;omega
 simpa [Fj,List.getElem?_take,hj]using hu
theorem Qfg(A:Option Addr)(n c:Nat)(l:List UInt8)(w:World)(h:Bg w A n (Fj l))(hc:n<=c)(hcm:c<=maxLen):
  Calls prog 27 #[.slice A n c] w fun e w'=>∃g,e=.returned (.pointer (some ⟨g,0,none⟩))/\Ey w' g 0/\w.heap.size<=g/\Below w w w':=by
 unfold maxLen at hcm;by_cases hn:n<=2000
 ·go_enter func27,ntmps27;go_wp2
  go_goals
  go_ret;exact⟨w.heap.size,rfl,Qg4 h hn,Aq _,(Aw _ _).alloc (Aq _) _⟩
 go_enter func27,ntmps27;go_wp2
 go_goals
 go_ret;exact⟨w.heap.size,rfl,Qg4 (h.take 2000 aG) (Aq _),Aq _,(Aw _ _).alloc (Aq _) _⟩
section
attribute [local go_sem] Qo3 Qn2 Qnz Qlq ByteArray.mk_append_mk
theorem Ae{a b c:World}{row:Option Nat}(h:a.grownBy b row)(k:b.grownBy c row):a.grownBy c row:=
 ⟨k.os.trans h.os,k.tape.trans h.tape,k.output.trans h.output,ad h.size k.size,fun i hi hne=>(k.block i (ac hi h.size) hne).trans (h.block i hi hne)⟩
theorem Cs{a w:World}(h:Below a a w)(row:Option Nat):a.grownBy w row:=⟨h.os,h.tape,h.output,h.size,fun i hi _=>h.block i hi⟩
theorem Gh{a b:World}{row:Option Nat}(h:a.grownBy b row):a.grownBy b.drew row:=⟨h.os,h.tape,h.output,h.size,h.block⟩
theorem Ey.ddrew{w:World}{g p:Nat}(h:Ey w g p):Ey w.drew g p:=h
theorem Ey.dalloc{w:World}{g p:Nat}(h:Ey w g p)(o:Obj):Ey (w.alloc o) g p:=h.below ((Aw _ _).alloc (Aq _) o)
def Jd(W:World)(b:Nat)(ls:List (List UInt8)):Prop:=W.heap[b]?=some (.cells (Ah ls).toArray 9 (0,0))
theorem Jd.new(W:World)(ls:List (List UInt8)):Jd (W.alloc (.cells (Ah ls).toArray 9)) W.heap.size ls:=heap_alloc_new W _
theorem Jd.lt{W:World}{b:Nat}{ls:List (List UInt8)}(h:Jd W b ls):b<W.heap.size:=by
 rcases aF b W.heap.size with h1|h1
 ·exact h1
 unfold Jd at h;rw[Array.getElem?_eq_none h1]at h;cases h
theorem Jd.grown{W W':World}{b r:Nat}{ls:List (List UInt8)}(h:Jd W b ls)(hg:W.grownBy W' (some r))(hne:b≠r):Jd W' b ls:=
 (hg.block b h.lt (fun e=>hne (Option.some.inj e))).trans h
theorem Jd.cell{W:World}{b j:Nat}{ls:List (List UInt8)}(h:Jd W b ls)(hj:j<ls.length):∃s,s∈ls/\W.cell? ⟨b,j,none⟩=some (.string ⟨s.toArray⟩):=
 ⟨ls[j],ae hj,by unfold Jd at h;simp[World.cell?,h,Ah,hj]⟩
def Pj(Q:List UInt8->Prop)(w:World)(g p m:Nat)(e:Ending)(w':World):Prop:=
 ∃(l:List UInt8) (q:Nat),e=.returned l/\Q l/\q<=p+m/\Ey w' g q/\w.grownBy w' (some g)
def Tp:List (List UInt8):=[[110],[116],[102],[110],[116],[64,97,59],[64,98,59],[64,99,59]]
def Sw:List (List UInt8):=[[],[120],[64,59],[64,65,59],[91],[63,63,63,63,63,63,63,63,63,63,63,63,63,63,110],[64,97],[110,110]]
def DK(l:List UInt8):Prop:=(∃sg b,l=sg++b/\sg.length<=2/\sg.all Bm=true/\b∈Tp)\/l∈Sw
theorem DK.len{l:List UInt8}(h:DK l):l.length<=15:=by
 rcases h with⟨sg,b,rfl,h1,_,h3⟩|h
 ·have:∀b∈Tp,b.length<=3:=aJ;have:=this b h3;rw[ah];omega
 have:∀b∈Sw,b.length<=15:=aJ;exact this l h
theorem Qu(g p:Nat)(w:World)(h:Ey w g p)(hp:p<=100000000):
  Calls prog 105 #[g] w (Pj DK w g p 7):=by
 have hgl:=h.lt;have HR:=Aa h;clear h;go_enter func105,ntmps105;go_wp2_with fail;refine(Bt g p 8 _ (HR.o.dalloc _) aG aG aG).mono ?_;rintro e w1 ⟨x,rfl,hx1,_,hR1,hg1⟩;have hx:x<Tp.length:=by show x<8;omega
 obtain⟨b,hbm,hcell⟩:=((Jd.new w Tp).grown hg1 aG).cell hx;have hbl:b.length<=3:=(show ∀b∈Tp,b.length<=3 by decide) b hbm;have i1:(0:Int)<=(x:Int):=aG;have i2:(x:Int)<8:=aG;have HR1:=Aa hR1;have Hg1:=Aa (Ae (World.grownBy_alloc w _ (some g)) hg1);have Hbm:=Aa hbm;clear hR1 hg1 hbm HR hx hx1;go_wp2_with fail;refine(Bt g (p+1) 4 _ HR1.o aG aG aG).mono ?_;rintro e w2 ⟨y,rfl,hy1,_,hR2,hg2⟩;have hy:y<=3:=aG;have HR2:=Aa hR2;have Hg2:=Aa (Ae Hg1.o hg2);clear hR2 hg2 HR1 Hg1 hy1 hcell;go_wp2_with fail;go_loopw [3,4] (fun s k wr=>∃(sg:List UInt8) (x q:Nat),s=.string ⟨(sg++b).toArray⟩/\k=.int .i64 x/\sg.length+x<=3/\(x=0->sg=[])/\Hid (sg.all Bm=true)/\q+x<=p+5/\g<wr.heap.size/\Hid (Ey wr g q)/\Hid (w.grownBy wr (some g))) (fun _ k _=>(intOf k).toNat)
 case atStart=>exact⟨[],y,p+2,by simp,rfl,by simp;omega,fun _=>rfl,rfl,by omega,HR2.o.lt,HR2.o,Hg2.o⟩
 case round=>
  obtain⟨sg,x,q,rfl,rfl,hlen,h0,hsg,hq,hgw,hR,hg⟩:=hrel;by_cases hx:1<x
  ·have hxi:(1:Int)<(x:Int):=aG;go_wp2_with fail;refine(Bt g q 3 _ (hR.o.dalloc _) aG aG aG).mono ?_;rintro e w3 ⟨z,rfl,hz1,_,hR3,hg3⟩;have hz:z<([[91],[63],[91]]:List (List UInt8)).length:=by show z<3;omega
   obtain⟨s3,hsm,hcell⟩:=((Jd.new wr [[91],[63],[91]]).grown hg3 aG).cell hz;obtain⟨c,rfl,hc⟩:∃c,s3=[c]/\Bm c=true:=by
    simp at hsm;rcases hsm with rfl|rfl|rfl
    ·exact⟨91,rfl,by decide⟩
    ·exact⟨63,rfl,by decide⟩
    exact⟨91,rfl,by decide⟩
   have j1:(0:Int)<=(z:Int):=aG;have j2:(z:Int)<3:=aG;have HR3:=Aa hR3;have hg3l:=hR3.lt;have Hg3:=Aa (Ae hg.o (Ae (World.grownBy_alloc wr _ (some g)) hg3));have Hc:=Aa hc;have Hsg:=Aa hsg.o;clear hR3 hg3 hsm hc;go_wp2_with fail;go_roundw
   case rel=>exact⟨c::sg,x - 1,q+1,by simp,by go_num,by simp;omega,fun h=>by omega,by show List.all _ _=_;rw[List.all_cons,Hc.o,Hsg.o];rfl,by omega,hg3l,HR3.o,Hg3.o⟩
   case measure=>simp[intOf];omega
  ·have hxi:¬(1:Int)<(x:Int):=aG
   have Hsl:=Aa (show sg.length<=2 by
    by_cases hx0:x=0
    ·rw[h0 hx0];simp
    omega)
   have HRa:=Aa hR.o;have Hga:=Aa hg.o;have Hsg:=Aa hsg.o;go_wp2_with fail;refine(Bt g q 30 _ HRa.o aG aG aG).mono ?_;rintro e w3 ⟨z,rfl,hz1,_,hR3,hg3⟩;have HR3:=Aa hR3;have Hg3:=Aa (Ae Hga.o hg3);have hg3l:=hR3.lt;clear hR3 hg3 HRa Hga;by_cases hz0:z=0
   ·subst hz0;go_wp2_with fail;refine(Bt g (q+1) 8 _ (HR3.o.dalloc _) aG aG aG).mono ?_;rintro e w4 ⟨u,rfl,hu1,_,hR4,hg4⟩;have hu:u<Sw.length:=by show u<8;omega
    obtain⟨s4,hsm,hcell⟩:=((Jd.new w3 Sw).grown hg4 aG).cell hu;have k1:(0:Int)<=(u:Int):=aG;have k2:(u:Int)<8:=aG;have HR4:=Aa hR4;have Hg4:=Aa (Ae Hg3.o (Ae (World.grownBy_alloc w3 _ (some g)) hg4));have Hsm:=Aa hsm;clear hR4 hg4 hsm;go_wp2_with fail;go_ret;exact⟨s4,q+1+1,rfl,.inr Hsm.o,by omega,HR4.o,Hg4.o⟩
   have hz2:((z:Int) == 0)=false:=aN;go_wp2_with fail;go_ret;exact⟨sg++b,q+1,rfl,.inl ⟨sg,b,rfl,Hsl.o,Hsg.o,Hbm.o⟩,by omega,HR3.o,Hg3.o⟩
def DrH(Q1 Q2:List UInt8->Prop):Prop:=(∀l,Q1 l->l.length<=100000)/\(∀l,Q2 l->l.length<=100000) /\
 (∀(g p:Nat) (W:World),Ey W g p->p<=100000->Calls prog 63 #[g] W (Pj Q1 W g p 170)) /\
 (∀(g p:Nat) (s:List UInt8) (W:World),Ey W g p->p<=100000->s.length<=100000->Calls prog 64 #[g,s] W (Pj Q2 W g p 10)) /\
 ∀(g p:Nat) (s k:List UInt8) (W:World),Ey W g p->p<=100000->s.length<=100000->k.length<=100000->Calls prog 65 #[g,s,k] W (Pj (fun l=>l.length<=20000) W g p 40000000)
theorem Qeq{Q1 Q2:List UInt8->Prop}(H:DrH Q1 Q2)(g p:Nat)(w:World)(h:Ey w g p)(hp:p<=1000):
  Calls prog 28 #[g] w fun e w'=>∃(a b s:List UInt8) (q:Nat),e=.returned (.tuple #[a,b,s])/\a.length<=100000/\b.length<=100000/\s.length<=100000/\q<=p+50000000/\Ey w' g q/\w.grownBy w' (some g):=by
 have H:=Aa H;have HR:=Aa h;clear h;go_enter func28,ntmps28;go_wp2_with fail;refine(H.o.2.2.1 g p w HR.o aG).mono ?_;rintro e w1 ⟨a,q1,rfl,ha,hq1,hR1,hg1⟩;have HR1:=Aa hR1;have Hg1:=Aa hg1;have hal:=H.o.1 a ha;clear hR1 hg1 ha;go_wp2_with fail;refine(H.o.2.2.2.1 g q1 a _ HR1.o aG hal).mono ?_;rintro e w2 ⟨b,q2,rfl,hb,hq2,hR2,hg2⟩;have HR2:=Aa hR2;have Hg2:=Aa (Ae Hg1.o hg2);have hbl:=H.o.2.1 b hb;clear hR2 hg2 hb;go_wp2_with fail;refine(H.o.2.2.2.2 g q2 a b _ HR2.o aG hal hbl).mono ?_;rintro e w3 ⟨s,q3,rfl,hs,hq3,hR3,hg3⟩;have HR3:=Aa hR3;have Hg3:=Aa (Ae Hg2.o hg3);clear hR3 hg3;go_wp2_with fail;refine aE (v:=.tuple #[a,b,s]) (by simp[results,results28,go_sem]) rfl ?_;exact⟨a,b,s,q3,rfl,hal,hbl,by omega,by omega,HR3.o,Hg3.o⟩
theorem Xg{Q1 Q2:List UInt8->Prop}(H:DrH Q1 Q2)(A:Option Addr)(n c:Nat)(l:List UInt8)(w:World)(h:Bg w A n (Fj l))(hc:n<=c)(hcm:c<=maxLen):
  Calls prog 12 #[.slice A n c] w (Qg7 w):=by
 have H:=Aa H;go_enter func12,ntmps12;go_wp2_with fail;refine(Qfg A n c l w h hc hcm).mono ?_;rintro e w0 ⟨g,rfl,hR,hgb,hb0⟩;have HR:=Aa hR;have Hb0:=Aa hb0;clear hR h hb0;go_wp2_with fail;refine(Qeq H.o g 0 _ HR.o aG).mono ?_;rintro e w1 ⟨a,b,s,q,rfl,ha,hb,hs,hq,hR1,hg1⟩;have Hb1:=@Aa (Below w w w1) (Hb0.o.grown hg1 Hb0.o.size (fun k hk=>by injection hk with hk;omega));clear hR1 hg1;go_wp2_with fail;refine aE (v:=.tuple #[a,b,s]) (by simp[results,results12,go_sem]) rfl ?_;exact⟨a,b,s,rfl,ha,hb,hs,Hb1.o⟩
end
def Ka(S:List Ty)(k:Kd)(N B:Nat)(w:World)(g p:Nat)(e:Ending)(w':World):Prop:=
 ∃b v q,e=.returned (.pointer (some ⟨b,0,none⟩))/\Gg S N k v/\(Ay v).length<=B/\q<=p+B/\Gx (fun c=>w.heap.size<=c) w' b (Ch S k v)/\Ey w' g q/\w.grownBy w' (some g)
theorem Fi.gr{base B g:Nat}{W W':World}{h0 h1 tu tv ku kv:Value}{gs:List Nat}{xs:List (Nat × SV)}(h:Fi base B W h0 h1 tu tv ku kv gs xs)(hg:W.grownBy W' (some g))(hl:g<B):Fi base B W' h0 h1 tu tv ku kv gs xs:=by
 have hn:some B≠some g:=fun e=>fQ;have hB:=h.hB;exact⟨ac h.lt hg.size,ad h.bs hg.size,h.hB,h.bk.grown h.lt hg hn,hg.cell h.c0 hn,hg.cell h.c1 hn,hg.cell h.c2 hn,hg.cell h.c3 hn,h.tags.kept hg (Nn (fun k hk=>(h.tags.lt k hk).1) aG),h.row.kept hg (Nn (fun k hk=>(h.row.lt k hk).1) aG),fun y hy=>(h.kids y hy).grown hg fun c hc e=>by injection e with e;omega⟩
theorem Fi.set1{base B:Nat}{W:World}{h0 h1 tu tv ku kv:Value}{gs:List Nat}{xs:List (Nat × SV)}(h:Fi base B W h0 h1 tu tv ku kv gs xs)(u:Value):Fi base B (W.setCell ⟨B,1,none⟩ u) h0 u tu tv ku kv gs xs:=by
 have hg:=Al W B 1 u;exact ma
theorem Ey.row{w w':World}{g p base:Nat}{r:Option Nat}(h:Ey w g p)(hg:w.grownBy w' r)(hr:∀k,r=some k->base<=k)(hb:g<base):Ey w' g p:=
 h.belowg ((Aw _ _).grown hg h.lt (fun k hk=>ac hb (hr k hk))) hg.size
theorem Gc{w0 w w':World}{g base:Nat}{r:Option Nat}(h:w0.grownBy w (some g))(hg:w.grownBy w' r)(hr:∀k,r=some k->base<=k)(hb:w0.heap.size<=base):w0.grownBy w' (some g):=
 ⟨hg.os.trans h.os,hg.tape.trans h.tape,hg.output.trans h.output,ad h.size hg.size,fun k hk hn=>(hg.block k (ac hk h.size) (fun e=>by have:=hr k e.symm;omega)).trans (h.block k hk hn)⟩
structure Nd(w0:World)(g base B:Nat)(W1:World)(h0 h1 tv:Value)(A:Option Addr)(c:Nat)(gs:List Nat)(xs:List (Nat × SV))(F:SV->Nat->Prop)(lc lb la ls:Bool)(uc ub ua:Value)(W:World):Prop where
 s0:lc=false->W=W1
 s1:lc=true->lb=false->∃b v q,uc=.pointer (some ⟨b,0,none⟩)/\F v q/\Ey W g q/\w0.grownBy W (some g)/\Gx (fun c=>W1.heap.size<=c) W b v/\Fi base B W h0 h1 tv tv (.slice A xs.length c) (.slice A xs.length c) gs xs
 s2:lb=true->la=false->∃W8 b v q,W=W8.alloc (.cells #[.pointer (some ⟨b,0,none⟩)] 31)/\ub=.slice (some ⟨W8.heap.size,0,none⟩) 1 1/\F v q/\Ey W8 g q/\w0.grownBy W8 (some g)/\Gx (fun c=>W1.heap.size<=c) W8 b v/\Fi base B W8 h0 h1 tv tv (.slice A xs.length c) (.slice A xs.length c) gs xs
 s3:la=true->ls=false->∃b v q A6 c6,ua=.slice A6 (xs.length+1) c6/\F v q/\Ey W g q/\w0.grownBy W (some g)/\Fi base B W h0 h1 tv tv (.slice A xs.length c) ua gs (xs++[(b,v)])
 s4:ls=true->∃b v q A6 c6,F v q/\Ey W g q/\w0.grownBy W (some g)/\Fi base B W h0 h1 tv tv (.slice A6 (xs.length+1) c6) (.slice A6 (xs.length+1) c6) gs (xs++[(b,v)])
section
variable {w0 W1 W W':World} {g base B:Nat} {h0 h1 tv uc ub ua:Value} {A:Option Addr} {c:Nat} {gs:List Nat} {xs:List (Nat × SV)} {F:SV->Nat->Prop} {lc lb la ls:Bool}
theorem Nd.start:Nd w0 g base B W1 h0 h1 tv A c gs xs F false false false false uc ub ua W1:=
 ⟨fun _=>rfl,fun h=>Bool.noConfusion h,fun h=>Bool.noConfusion h,fun h=>Bool.noConfusion h,fun h=>Bool.noConfusion h⟩
theorem Nd.c3(h:Nd w0 g base B W1 h0 h1 tv A c gs xs F lc lb la ls uc ub ua W)(hl:Fi base B W1 h0 h1 tv tv (.slice A xs.length c) (.slice A xs.length c) gs xs)(hla:la=false):W.cell? (B,3)=some (.slice A xs.length c):=by
 cases ec:lc with
 |false=>rw[h.s0 ec];exact hl.c3
 |true=>
  cases eb:lb with
  |false=>obtain⟨_,_,_,_,_,_,_,_,hL⟩:=h.s1 ec eb;exact hL.c3
  |true=>obtain⟨W8,_,_,_,rfl,_,_,_,_,_,hL⟩:=h.s2 eb hla;exact(hL.after ((Aw _ _).alloc (Aq _) _)).c3
theorem Nd.call{b:Nat}{v:SV}{q:Nat}(hw:w0.grownBy W1 (some g))(hl:Fi base B W1 h0 h1 tv tv (.slice A xs.length c) (.slice A xs.length c) gs xs)(hgB:g<B)(hb:lb=false)(ha:la=false)(hs:ls=false)(hF:F v q)(hR:Ey W g q)(hg:W1.grownBy W (some g))(hv:Gx (fun c=>W1.heap.size<=c) W b v):
  Nd w0 g base B W1 h0 h1 tv A c gs xs F true lb la ls b ub ua W:=by
 subst hb ha hs;exact⟨fun h=>Bool.noConfusion h,fun _ _=>⟨b,v,q,rfl,hF,hR,Ae hw hg,hv,hl.gr hg hgB⟩,fun h=>Bool.noConfusion h,fun h=>Bool.noConfusion h,fun h=>Bool.noConfusion h⟩
theorem Nd.build(h:Nd w0 g base B W1 h0 h1 tv A c gs xs F lc lb la ls uc ub ua W)(hc:lc=true)(hb:lb=false)(ha:la=false)(hs:ls=false):∃b,uc=.pointer (some ⟨b,0,none⟩) /\
  Nd w0 g base B W1 h0 h1 tv A c gs xs F lc true la ls uc (.slice (W,0) 1 1) ua (W.alloc (.cells #[.pointer (some ⟨b,0,none⟩)] 31)):=by
 obtain⟨b,v,q,e,h2,h3,h4,h5,h6⟩:=h.s1 hc hb;subst ha hs;exact⟨b,e,fun h=>absurd (hc.symm.trans h) aJ,fun _ h=>Bool.noConfusion h,fun _ _=>⟨W,b,v,q,rfl,rfl,h2,h3,h4,h5,h6⟩,fun h=>Bool.noConfusion h,fun h=>Bool.noConfusion h⟩
theorem Nd.app{W8:World}{b:Nat}{v:SV}{q:Nat}{u:Value}(hw:w0.heap.size<=B)(hgB:g<B)(hbs:base<=W1.heap.size)(hl1:Fi base B W1 h0 h1 tv tv (.slice A xs.length c) (.slice A xs.length c) gs xs)(hF:F v q)(hR:Ey W8 g q)(hg0:w0.grownBy W8 (some g))(hv:Gx (fun c=>W1.heap.size<=c) W8 b v)(hL:Fi base B W8 h0 h1 tv tv (.slice A xs.length c) (.slice A xs.length c) gs xs)
  (hc:lc=true) (hb:lb=true) (hs:ls=false) (hown:W.ownsRow base 31 1 u (xs.length+1) (E8 (xs.map (·.1))++[.pointer (some ⟨b,0,none⟩)])) (hg:W8.grownBy W (Value.slice A xs.length c).ownBlock) (hwh:u.ownBlock=(Value.slice A xs.length c).ownBlock\/∃k,u.ownBlock=some k/\W8.heap.size<=k):
  Nd w0 g base B W1 h0 h1 tv A c gs xs F lc lb true ls uc ub u W/\∃A6 c6,u=.slice A6 (xs.length+1) c6:=by
 have hk:Gx (fun c1=>base<=c1/\(Value.slice A xs.length c).ownBlock≠some c1/\tv.ownBlock≠some c1) W8 b v:=hv.mono fun c1 h1 _=>⟨ad hbs h1,fun e=>by have:=(hl1.row.lt c1 e).2;omega,fun e=>by have:=(hl1.tags.lt c1 e).2;omega⟩
 obtain⟨A6,c6,e6,hP,hB⟩:=hL.push (x:=(b,v)) hk hown hg hwh;have e6':u=.slice A6 (xs.length+1) c6:=by rw[e6];simp
 have hrow:∀k,(Value.slice A xs.length c).ownBlock=some k->base<=k:=fun k hk=>(hL.row.lt k hk).1;have hB':=hL.hB;subst hs;exact⟨⟨fun h=>absurd (hc.symm.trans h) aJ,fun _ h=>absurd (hb.symm.trans h) aJ,fun _ h=>Bool.noConfusion h,fun _ _=>⟨b,v,q,A6,c6,e6',hF,hR.row hg hrow aG,Gc hg0 hg hrow aG,hP⟩,fun h=>Bool.noConfusion h⟩,A6,c6,e6'⟩
theorem Nd.store(h:Nd w0 g base B W1 h0 h1 tv A c gs xs F lc lb la ls uc ub ua W)(hw:w0.heap.size<=B)(hgB:g<B)(hc:lc=true)(hb:lb=true)(ha:la=true)(hs:ls=false)(hW:W'=W.setCell ⟨B,3,none⟩ ua):Nd w0 g base B W1 h0 h1 tv A c gs xs F lc lb la true uc ub ua W':=by
 subst hW;obtain⟨b,v,q,A6,c6,e,hF,hR,hg,hL⟩:=h.s3 ha hs;have hgc:=Al W B 3 ua;refine⟨fun h=>absurd (hc.symm.trans h) aJ,fun _ h=>absurd (hb.symm.trans h) aJ,fun _ h=>absurd (ha.symm.trans h) aJ,fun _ h=>Bool.noConfusion h,fun _=>⟨b,v,q,A6,c6,hF,hR.row (base:=B) hgc (fun k e=>by injection e with e;omega) hgB,Gc hg hgc (base:=B) (fun k e=>by injection e with e;omega) hw,?_⟩⟩;have:=hL.set3;rw[e]at this ⊢;exact this
end
section
attribute [local go_sem] Qo3 Qn2 Qnz Qlq ByteArray.mk_append_mk
def Xe(W:World)(b:Nat)(ms:List Nat):Prop:=W.heap[b]?=some (.cells (Dd ms).toArray 3 (0,0))
theorem Xe.new(W:World)(ms:List Nat):Xe (W.alloc (.cells (Dd ms).toArray 3)) W.heap.size ms:=heap_alloc_new W _
theorem Xe.lt{W:World}{b:Nat}{ms:List Nat}(h:Xe W b ms):b<W.heap.size:=by
 rcases aF b W.heap.size with h1|h1
 ·exact h1
 unfold Xe at h;rw[Array.getElem?_eq_none h1]at h;cases h
theorem Xe.grown{W W':World}{b r:Nat}{ms:List Nat}(h:Xe W b ms)(hg:W.grownBy W' (some r))(hne:b≠r):Xe W' b ms:=
 (hg.block b h.lt (fun e=>hne (Option.some.inj e))).trans h
theorem Xe.cell{W:World}{b j:Nat}{ms:List Nat}(h:Xe W b ms)(hj:j<ms.length):∃m,m∈ms/\W.cell? ⟨b,j,none⟩=(m:Int):=
 ⟨ms[j],ae hj,by unfold Xe at h;simp[World.cell?,h,Dd,hj]⟩
def Qcp:List (List UInt8):=[[],[97],[104,105],[97,32,98],[122,122,57],[97,98,99,100,101,102,103,104,105,106,107,108]]
theorem Qek(g p:Nat)(w:World)(h:Ey w g p)(hp:p<=900000000):
  Calls prog 136 #[g] w (fun e w'=>∃s,e=.returned (.string ⟨(39::(s++[39]):List UInt8).toArray⟩)/\Dv s=true/\Ey w' g (p+1)/\w.grownBy w' (some g)):=by
 have hgl:=h.lt;have HR:=Aa h;clear h;go_enter func136,ntmps136;go_wp2_with fail;refine(Bt g p 6 _ (HR.o.dalloc _) aG aG aG).mono ?_;rintro e w1 ⟨x,rfl,hx1,_,hR1,hg1⟩;have hx:x<Qcp.length:=by show x<6;omega
 obtain⟨b,hbm,hcell⟩:=((Jd.new w Qcp).grown hg1 aG).cell hx;have hbl:Dv b=true:=(show ∀b∈Qcp,Dv b=true by decide) b hbm;have hbn:b.length<=12:=(show ∀b∈Qcp,b.length<=12 by decide) b hbm;have i1:(0:Int)<=(x:Int):=aG;have i2:(x:Int)<6:=aG;have HR1:=Aa hR1;have Hg1:=Aa (Ae (World.grownBy_alloc w _ (some g)) hg1);have Hbl:=Aa hbl;clear hR1 hg1 hbm HR hx hx1 hbl;go_wp2_with fail;go_ret;exact⟨b,by simp,Hbl.o,HR1.o,Hg1.o⟩
section
variable {S:List Ty} {k:Kd}
theorem Zt{c:UInt8}(hs0:k.signs=[])(hb:k.base=[c])(hc:c≠64):Bs k=[c]:=by
 unfold Bs Cr;rw[hs0,hb];by_cases h:([c]:List UInt8)=[64]
 ·injection h with h;exact absurd h hc
 simp[h]
end
theorem Qo7(S:List Ty)(k:Kd)(hs0:k.signs=[])(hb:k.base=[110])(xv:Value)(d:Int)(N:Nat)(g p:Nat)(w:World)(hR:Ey w g p)(hp:p<=900000000):
  Calls prog 106 #[g,xv,.string ⟨(Bs k).toArray⟩,.int .i64 d] w (Ka S k (N+1) 100 w g p):=by
 have hgl:=hR.lt;have HR:=Aa hR;have Hk:=Aa (Zt hs0 hb aJ);have HS0:=Aa hs0;have HB0:=Aa hb;rw[Hk.o];clear hR hs0 hb;go_enter func106,ntmps106;go_wp2_with fail;obtain⟨W1,hW1⟩:∃W1,W1=w.alloc (.cells #[([110]:List UInt8),aa,.slice none 0 0,.slice none 0 0] 68):=⟨_,rfl⟩
 have hz1:W1.heap.size=w.heap.size+1:=dh;have HS1:=@Aa (Fi (w.heap.size+1) w.heap.size W1 ([110]:List UInt8) aa (.slice none 0 0) (.slice none 0 0) (.slice none 0 0) (.slice none 0 0) [] []) cS;have HR1:=Aa (show Ey W1 g p by rw[hW1];exact HR.o.dalloc _);have Hg1:=Aa (show w.grownBy W1 (some g)by rw[hW1];exact World.grownBy_alloc w _ _);rw[<-hW1];clear hW1 HR;refine(Bt g p 200 _ HR1.o aG aG aG).mono ?_;rintro e w2 ⟨x,rfl,hx1,_,hR2,hg2⟩;have hx:x<=999999:=aG;have HS2:=Aa (HS1.o.gr hg2 hgl);have HR2:=Aa hR2;have Hg2:=Aa (Ae Hg1.o hg2);have hz2:=hg2.size;clear hR2 hg2 hx1 HS1 HR1 Hg1;go_wp2_with fail;obtain⟨ms,hms,hml,hme⟩:∃ms:List Nat,(∀m∈ms,m<=999999)/\ms.length=8/\(#[.int .i64 0,.int .i64 5,(x:Int),.int .i64 127,.int .i64 128,.int .i64 16383,.int .i64 16384,.int .i64 999999]:Array Value)=(Dd ms).toArray:=⟨[0,5,x,127,128,16383,16384,999999],by simp;omega,rfl,by simp[Dd]⟩
 rw[hme];refine(Bt g (p+1) 8 _ (HR2.o.dalloc _) aG aG aG).mono ?_;rintro e w3 ⟨y,rfl,hy1,_,hR3,hg3⟩;have hy:y<ms.length:=aG;obtain⟨m,hmm,hcell⟩:=((Xe.new w2 ms).grown hg3 aG).cell hy;have hm9:=hms m hmm;have i1:(0:Int)<=(y:Int):=aG;have i2:(y:Int)<8:=aG;have HS3:=Aa ((HS2.o.after ((Aw _ _).alloc (Aq _) _)).gr hg3 hgl);have HR3:=Aa hR3;have Hg3:=Aa (Ae Hg2.o (Ae (World.grownBy_alloc w2 _ (some g)) hg3));clear hR3 hg3 hy1 hy HS2 HR2 Hg2 hms hmm hme;go_wp2_with fail;refine(Jc m m _ (Aq _) aG).mono ?_;rintro e w4 ⟨rfl,hb4⟩;have HS4:=Aa (HS3.o.after hb4);have HR4:=Aa (HR3.o.below hb4);have Hg4:=Aa (Ae Hg3.o (Cs hb4 (some g)));have hdl:=C0 5 m aG;clear hb4 HS3 HR3 Hg3 hcell;have c1:=HS4.o.c1;have f1:=HS4.o.bk.live 1;go_wp2_with fail;go_ret;refine⟨w.heap.size,.mk 110 (Bc m) 0 [],p+1+1,rfl,.n HS0.o HB0.o hm9,by simp[Ay,Dr,Fl];omega,by omega,?_,HR4.o.row (Al _ w 1 _) (base:=w.heap.size) (fun k e=>by injection e with e;omega) hgl,Gc Hg4.o (Al _ w 1 _) (base:=w.heap.size) (fun k e=>by injection e with e;omega) (Aq _)⟩;have:=(HS4.o.set1 (Bc m:List UInt8)).done aK aK;rw[Qbt,Hk.o];exact this
theorem Qou(S:List Ty)(k:Kd)(hs0:k.signs=[])(hb:k.base=[116])(xv:Value)(d:Int)(N:Nat)(g p:Nat)(w:World)(hR:Ey w g p)(hp:p<=900000000):
  Calls prog 106 #[g,xv,.string ⟨(Bs k).toArray⟩,.int .i64 d] w (Ka S k (N+1) 100 w g p):=by
 have hgl:=hR.lt;have HR:=Aa hR;have Hk:=Aa (Zt hs0 hb aJ);have HS0:=Aa hs0;have HB0:=Aa hb;rw[Hk.o];clear hR hs0 hb;go_enter func106,ntmps106;go_wp2_with fail;obtain⟨W1,hW1⟩:∃W1,W1=w.alloc (.cells #[([116]:List UInt8),aa,.slice none 0 0,.slice none 0 0] 68):=⟨_,rfl⟩
 have hz1:W1.heap.size=w.heap.size+1:=dh;have HS1:=@Aa (Fi (w.heap.size+1) w.heap.size W1 ([116]:List UInt8) aa (.slice none 0 0) (.slice none 0 0) (.slice none 0 0) (.slice none 0 0) [] []) cS;have HR1:=Aa (show Ey W1 g p by rw[hW1];exact HR.o.dalloc _);have Hg1:=Aa (show w.grownBy W1 (some g)by rw[hW1];exact World.grownBy_alloc w _ _);rw[<-hW1];clear hW1 HR;refine(Qek g p _ HR1.o aG).mono ?_;rintro e w2 ⟨s,rfl,hs,hR2,hg2⟩;have HS2:=Aa (HS1.o.gr hg2 hgl);have HR2:=Aa hR2;have Hg2:=Aa (Ae Hg1.o hg2);have Hs:=Aa hs;have hsl:s.length<=12:=by have:=hs;unfold Dv at this;simp at this;exact this.1
 clear hR2 hg2 HS1 HR1 Hg1 hs;have c1:=HS2.o.c1;have f1:=HS2.o.bk.live 1;go_wp2_with fail;go_ret;refine⟨w.heap.size,.mk 116 s 0 [],p+1,rfl,.t HS0.o HB0.o Hs.o,by simp[Ay,Dr,Fl];omega,by omega,?_,HR2.o.row (Al _ w 1 _) (base:=w.heap.size) (fun k e=>by injection e with e;omega) hgl,Gc Hg2.o (Al _ w 1 _) (base:=w.heap.size) (fun k e=>by injection e with e;omega) (Aq _)⟩;have:=(HS2.o.set1 (.string ⟨(39::(s++[39]):List UInt8).toArray⟩)).done aK aK;rw[Zb,Hk.o];exact this
theorem Qo6(S:List Ty)(k:Kd)(hs0:k.signs=[])(hb:k.base=[102])(xv:Value)(d:Int)(N:Nat)(g p:Nat)(w:World)(hR:Ey w g p)(hp:p<=900000000):
  Calls prog 106 #[g,xv,.string ⟨(Bs k).toArray⟩,.int .i64 d] w (Ka S k (N+1) 100 w g p):=by
 have hgl:=hR.lt;have HR:=Aa hR;have Hk:=Aa (Zt hs0 hb aJ);have HS0:=Aa hs0;have HB0:=Aa hb;rw[Hk.o];clear hR hs0 hb;go_enter func106,ntmps106;go_wp2_with fail;obtain⟨W1,hW1⟩:∃W1,W1=w.alloc (.cells #[([102]:List UInt8),aa,.slice none 0 0,.slice none 0 0] 68):=⟨_,rfl⟩
 have hz1:W1.heap.size=w.heap.size+1:=dh;have HS1:=@Aa (Fi (w.heap.size+1) w.heap.size W1 ([102]:List UInt8) aa (.slice none 0 0) (.slice none 0 0) (.slice none 0 0) (.slice none 0 0) [] []) cS;have HR1:=Aa (show Ey W1 g p by rw[hW1];exact HR.o.dalloc _);have Hg1:=Aa (show w.grownBy W1 (some g)by rw[hW1];exact World.grownBy_alloc w _ _);rw[<-hW1];clear hW1 HR;refine(Bt g p 2 _ (HR1.o.dalloc _) aG aG aG).mono ?_;rintro e w2 ⟨x,rfl,hx1,_,hR2,hg2⟩;have hx:x < [Er,Mg].length:=by show x<2;omega
 obtain⟨s,hsm,hcell⟩:=((Jd.new W1 [Er,Mg]).grown hg2 aG).cell hx;rw[hz1]at hcell;obtain⟨b,rfl⟩:∃b:Bool,s=if b then Er else Mg:=by
  simp at hsm;rcases hsm with rfl|rfl
  ·exact⟨true,rfl⟩
  exact⟨false,rfl⟩
 have i1:(0:Int)<=(x:Int):=aG;have i2:(x:Int)<2:=aG;have HS2:=Aa ((HS1.o.after ((Aw _ _).alloc (Aq _) _)).gr hg2 hgl);have HR2:=Aa hR2;have Hg2:=Aa (Ae Hg1.o (Ae (World.grownBy_alloc W1 _ (some g)) hg2));have hsl:(if b then Er else Mg).length<=3:=by cases b<;>decide
 have Hok:=Aa (fun(h0:k.signs=[]) (h1:k.base=[102])=>Gg.f (S:=S) (d:=N) (k:=k) (b:=b) h0 h1);generalize (if b then Er else Mg)=s at *;clear hR2 hg2 HS1 HR1 Hg1 hx1 hx hsm;have c1:=HS2.o.c1;have f1:=HS2.o.bk.live 1;go_wp2_with fail;go_ret;refine⟨w.heap.size,.mk 102 s 0 [],p+1,rfl,Hok.o HS0.o HB0.o,by simp[Ay,Dr,Fl];omega,by omega,?_,HR2.o.row (Al _ w 1 _) (base:=w.heap.size) (fun k e=>by injection e with e;omega) hgl,Gc Hg2.o (Al _ w 1 _) (base:=w.heap.size) (fun k e=>by injection e with e;omega) (Aq _)⟩;have:=(HS2.o.set1 (s:List UInt8)).done aK aK;rw[Yi,Hk.o];exact this
end
end Go.Proofs.YtkigmebejmmikaaGreatDoor
