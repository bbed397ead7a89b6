/- Texts joined. Conditions: as each theorem names them. -/
import Derived.Deep.DeepCutAuto
import Derived.Laws.BitsAllLaws
import Derived.Laws.BitsLemmas
import Derived.Test.YtpjijpcemejlnaaGreatDoorM09
set_option maxRecDepth 100000
set_option maxHeartbeats 32000000
set_option linter.unusedVariables false
set_option linter.unusedSimpArgs false
namespace Go.Proofs.YtpjijpcemejlnaaGreatDoor
open Go.RowKit Go.Proofs.Tryz
section
attribute [local go_sem] Qkk Qj0 Qjm Qhu ByteArray.mk_append_mk
theorem Xa(w:World)(A:Option Addr)(n c:Nat)(hn:n<=1048576)(HD:Calls prog 30 #[.slice A n c] w (Qdv w))
  (HS:∀s d x:List UInt8,s.length<=100000->d.length<=100000->x.length<=100000->∀W,Calls prog 28 #[.string ⟨s.toArray⟩,.string ⟨d.toArray⟩,.string ⟨x.toArray⟩] W (Vg (vlB (C0 s d) x Ma) W))
  (HI:∀s d x:List UInt8,s.length<=100000->d.length<=100000->x.length<=100000->∀W,Calls prog 29 #[.string ⟨s.toArray⟩,.string ⟨d.toArray⟩,.string ⟨x.toArray⟩] W (Vg (vlB (C0 s d) x Ma) W)):
  Calls prog 9 #[.slice A n c] w fun e w'=>e=.returned (.bool true)/\Below w.heap.size w w':=by
 have HD:=Aa HD
 have HS:=Aa HS
 have HI:=Aa HI
 go_enter func9,ntmps9
 go_wp2_with fail
 refine HD.o.mono ?_
 rintro e w1 ⟨s,d,x,rfl,h1,h2,h3,hb1⟩
 have Hb1:=Aa hb1
 have Hs:=Aa (HS.o s d x h1 h2 h3)
 have Hi:=Aa (HI.o s d x h1 h2 h3)
 clear hb1 HS HI HD
 unfold Vg at Hs Hi
 cases ho:vlB (C0 s d) x Ma with
 |none=>
  rw[ho]at Hs Hi
  simp only[Option.getD_none,Option.isSome_none]at Hs Hi
  clear ho
  go_wp2_with fail
  refine(Hi.o _).mono ?_
  rintro e w2 ⟨rfl,hb2⟩
  have Hb2:=Aa (Hb1.o.trans (hb2.mono Hb1.o.size))
  clear hb2
  go_wp2_with fail
  refine(Hs.o _).mono ?_
  rintro e w3 ⟨rfl,hb3⟩
  have Hb3:=Aa (Hb2.o.trans (hb3.mono Hb2.o.size))
  clear hb3
  go_wp2_with fail
  go_ret
  exact⟨rfl,Hb3.o⟩
 |some t=>
  obtain⟨L,hL,hasc,hps,hl8⟩:=Qc4 ho
  rw[ho]at Hs Hi
  simp only[Option.getD_some,Option.isSome_some]at Hs Hi
  have htl:t.length<=1000:=by
   rw[hL,Ca]
   have:=Vs (n:=3) (l:=L) fun p hp=>(hps p hp).2.2
   omega
  have HA:=Aa (show t≠[]->Qju (Ag 44 t)from fun h0=>by
   rw[hL,Jr 44 L (fun e=>h0 (by rw[hL,e];rfl)) (fun p hp=>(hps p hp).2.1)]
   exact⟨hasc,fun p hp=>(hps p hp).1⟩)
  clear ho hL hasc hps hl8
  go_wp2_with fail
  refine(Hi.o _).mono ?_
  rintro e w2 ⟨rfl,hb2⟩
  have Hb2:=Aa (Hb1.o.trans (hb2.mono Hb1.o.size))
  clear hb2
  go_wp2_with fail
  refine(Hs.o _).mono ?_
  rintro e w3 ⟨rfl,hb3⟩
  have Hb3:=Aa (Hb2.o.trans (hb3.mono Hb2.o.size))
  clear hb3 Hi Hs
  go_wp2_with fail
  by_cases h0:t=[]
  ·subst h0
   have t2:([]:List UInt8).isEmpty=true:=rfl
   go_loopw [11,12,13] (fun v y i wr=>i=.int .i64 0/\Hid (wr=w3)) (fun _ _ i _=>0)
   case atStart=>exact⟨rfl,rfl⟩
   case round=>
    obtain⟨rfl,hw⟩:=hrel
    go_wp2_with fail
    go_ret
    exact⟨rfl,by rw[hw.o];exact Hb3.o⟩
  have HA:=Aa (HA.o h0)
  have t2:t.isEmpty=false:=by cases t with|nil=>exact absurd rfl h0|cons _ _=>rfl
  have t2':(!t.isEmpty)=true:=by rw[t2];rfl
  clear h0
  go_loopw [11,12,13] (fun v y i wr=>∃(l:List UInt8) (f k:Nat),v=.string ⟨l.toArray⟩/\y=.int .i64 f/\i=.int .i64 k/\(k=t.length+1\/k<=t.length/\f<=k/\Hid (∃ps,Ag 44 t=ps++Ag 44 (t.drop f)/\l=ps.getLast?.getD [])/\Hid (44∉(t.drop f).take (k - f)))/\Hid (wr=w3)) (fun _ _ i _=>t.length+1 - (intOf i).toNat)
  case atStart=>exact⟨[],0,0,rfl,rfl,rfl,.inr ⟨Nat.zero_le _,Ao _,⟨[],rfl,rfl⟩,by simp[Hid]⟩,rfl⟩
  case round=>
   obtain⟨l,f,k,rfl,rfl,rfl,hk,hw⟩:=hrel
   rcases hk with hk|⟨hk,hf,hsp,hno⟩
   ·have k1:¬((k:Int)<=(t.length:Int)):=by omega
    clear hk
    go_wp2_with fail
    go_ret
    exact⟨rfl,by rw[hw.o];exact Hb3.o⟩
   ·have k0:(k:Int)<=(t.length:Int):=by omega
    have k1:(0:Int)<=(f:Int):=by omega
    have k2:(f:Int)<=(k:Int):=by omega
    have k3:(0:Int)<=(k:Int):=by omega
    by_cases hlt:k<t.length
    ·have k4:(k:Int)<(t.length:Int):=by omega
     by_cases he:t[k]=44
     ·have t1:(((t[k]).toNat:Int) == 44)=true:=Bq he
      have t1':(((t[k]).toNat:Int) != 44)=false:=by simp[bne,t1]
      obtain⟨ps,hs1,hl1⟩:=hsp.o
      have hs2:Ag 44 t=ps++(t.drop f).take (k - f)::Ag 44 (t.drop (k+1)):=by
       have e2:=Tq t f k hf hlt
       rw[he]at e2
       rw[hs1,e2,Ja 44 _ _ hno.o,<-e2]
      have hlt2:l<(t.drop f).take (k - f):=by
       have:=HA.o
       rw[hs2]at this
       rw[hl1];exact this.next
      have Hn:=Aa (show ∃ps',Ag 44 t=ps'++Ag 44 (t.drop (k+1))/\(t.drop f).take (k - f)=ps'.getLast?.getD []from⟨ps++[(t.drop f).take (k - f)],by rw[hs2];simp,by simp⟩)
      have t3:Op.bytesLess ((t.drop f).take (k - f)) l=false:=by rw[bytesLess_eq];exact decide_eq_false (fun h=>List.lt_asymm h hlt2)
      have t4:((t.drop f).take (k - f) == l)=false:=by rw[beq_eq_false_iff_ne];intro e;rw[e]at hlt2;exact List.lt_irrefl _ hlt2
      clear he hs1 hl1 hs2 hlt2
      go_wp2_with fail
      go_roundw
      case rel=>exact⟨_,k+1,k+1,rfl,by go_num,by go_num,.inr ⟨hlt,Ao _,Hn.o,by simp[Hid]⟩,hw.o⟩
      case measure=>simp[intOf];omega
     have t1:(((t[k]).toNat:Int) == 44)=false:=Aq he
     have t1':(((t[k]).toNat:Int) != 44)=true:=by simp[bne,t1]
     have Hno:=Aa (show 44∉(t.drop f).take (k+1 - f)by
      rw[N6 t f k hf hlt]
      simp only[List.mem_append,List.mem_singleton,not_or]
      exact⟨hno.o,fun h=>he h.symm⟩)
     clear he
     go_wp2_with fail
     go_roundw
     case rel=>exact⟨l,f,k+1,rfl,rfl,by go_num,.inr ⟨hlt,by omega,hsp.o,Hno.o⟩,hw.o⟩
     case measure=>simp[intOf];omega
    obtain rfl:k=t.length:=by omega
    obtain⟨ps,hs1,hl1⟩:=hsp.o
    have h5:(t.drop f).take (t.length - f)=t.drop f:=List.take_of_length_le (by simp)
    have hs2:Ag 44 t=ps++t.drop f::[]:=by
     have h:=hno.o
     rw[h5]at h
     rw[hs1,Ez 44 _ h]
    have hlt2:l<t.drop f:=by
     have:=HA.o
     rw[hs2]at this
     rw[hl1];exact this.next
    have t3:Op.bytesLess (t.drop f) l=false:=by rw[bytesLess_eq];exact decide_eq_false (fun h=>List.lt_asymm h hlt2)
    have t4:(t.drop f == l)=false:=by rw[beq_eq_false_iff_ne];intro e;rw[e]at hlt2;exact List.lt_irrefl _ hlt2
    clear hs1 hl1 hs2 hlt2
    go_wp2_with fail
    go_roundw
    case rel=>exact⟨_,t.length+1,t.length+1,rfl,by go_num,by go_num,.inl rfl,hw.o⟩
    case measure=>simp[intOf]
end
def D8(w:World)(g p:Nat):Prop:=
 ∃A n c l,w.heap[g]?=some (.cells #[.slice A n c,(p:Int)] 110 (0,0))/\Bj w A n (Ei l)/\n<=2000/\∀b off,A=some ⟨b,off,none⟩->0<n->b<g
theorem D8.lt{w:World}{g p:Nat}(h:D8 w g p):g<w.heap.size:=by
 obtain⟨A,n,c,l,hh,_⟩:=h;rcases aG g w.heap.size with h1|h1
 ·exact h1
 rw[Array.getElem?_eq_none h1]at hh;cases hh
theorem D8.below{w w':World}{g p:Nat}(h:D8 w g p)(hb:Below w w w'):D8 w' g p:=by
 have hlt:=h.lt;obtain⟨A,n,c,l,hh,hr,h2,h3⟩:=h;exact⟨A,n,c,l,(hb.block g hlt).trans hh,hr.below hb,h2,h3⟩
theorem D8.belowg{w w':World}{g p:Nat}(h:D8 w g p)(hb:Below (g+1) w w')(hs:w.heap.size<=w'.heap.size):D8 w' g p:=by
 obtain⟨A,n,c,l,hh,hr,h2,h3⟩:=h;refine⟨A,n,c,l,(hb.block g aH).trans hh,⟨hr.1,hr.2.1,fun hn=>?_⟩,h2,h3⟩;obtain⟨b,off,e,hlt,hc⟩:=hr.2.2 hn;have:=h3 b off e hn;exact⟨b,off,e,ad hlt hs,fun j u hu=>(hb.cell (p:=⟨b,off+j,none⟩) (by show b<g+1;omega)).trans (hc j u hu)⟩
theorem Bj.grown{w w':World}{g:Nat}{A:Option Addr}{n:Nat}{xs:List Value}(h:Bj w A n xs)(hg:w.grownBy w' (some g))(hne:∀b off,A=some ⟨b,off,none⟩->0<n->b≠g):Bj w' A n xs:=by
 refine⟨h.1,h.2.1,fun hn=>?_⟩;obtain⟨b,off,e,hlt,hc⟩:=h.2.2 hn;refine⟨b,off,e,ad hlt hg.size,fun j u hu=>?_⟩;exact(World.cell?_of_block (a:=⟨b,off+j,none⟩) (hg.block b hlt (fun h=>hne b off e hn (Option.some.inj h)))).trans (hc j u hu)
theorem Qbj(a b:Nat)(ha:a<4611686018427387904)(hb:b<4611686018427387904):∃x:Nat,bits .xor .i64 (a:Int) (b:Int)=(x:Int)/\x<4611686018427387904:=by
 have hx:a ^^^ b<2 ^ 62:=Nat.xor_lt_two_pow aH aH;refine⟨a ^^^ b,?_,hx⟩;show IntKind.i64.wrap ((BitVec.ofInt 64 (a:Int) ^^^ BitVec.ofInt 64 (b:Int)).toNat:Int)=_;have ho:∀a:Nat,a<4611686018427387904->(BitVec.ofInt 64 (a:Int)).toNat=a:=fun a ha=>by
  rw[BitVec.ofInt_natCast,BitVec.toNat_ofNat];exact Nat.mod_eq_of_lt aH
 rw[BitVec.toNat_xor,ho a ha,ho b hb,IntKind.wrap_i64];omega
def Qfx(w:World)(g p:Nat)(n:Int)(e:Ending)(w':World):Prop:=
 ∃x:Nat,e=.returned (x:Int)/\(1<=n->(x:Int)<n)/\(n<1->x=0)/\D8 w' g (p+1)/\w.grownBy w' (some g)
theorem Qco{w:World}{g p:Nat}(h:D8 w g p)(k:Nat):D8 ((w.setCell ⟨g,1,none⟩ (.int .i64 ((p:Int)+1))).drewN k) g (p+1)/\w.grownBy ((w.setCell ⟨g,1,none⟩ (.int .i64 ((p:Int)+1))).drewN k) (some g):=by
 obtain⟨A,n,c,l,hh,hr,h2,h3⟩:=h;have hg:w.grownBy (w.setCell ⟨g,1,none⟩ (.int .i64 ((p:Int)+1))) (some g):=
  ⟨rfl,rfl,rfl,by simp,fun k _ hk=>heap_setCell_other w ⟨g,1,none⟩ k _ (fun e=>hk (by simp[e]))⟩
 have hg':w.grownBy ((w.setCell ⟨g,1,none⟩ (.int .i64 ((p:Int)+1))).drewN k) (some g):=⟨hg.os,hg.tape,hg.output,hg.size,hg.block⟩
 refine⟨⟨A,n,c,l,?_,hr.grown hg' (fun b off e hn=>Nat.ne_of_lt (h3 b off e hn)),h2,h3⟩,hg'⟩;have:=heap_setCell_same w g 1 _ _ (.int .i64 ((p:Int)+1)) hh;have e:((p+1:Nat):Int)=(p:Int)+1:=aH;rw[e];exact this
theorem Bg(g p:Nat)(n:Int)(w:World)(h:D8 w g p)(hp:p<=1000000000)(hn:n<=1000000000)(hn0:-1000000000<=n):
  Calls prog 67 #[g,.int .i64 n] w (Qfx w g p n):=by
 have hw:=fun k=>Qco h k;have Hw:=Aa hw;clear hw;obtain⟨A,m,c,l,hh,hr,h2,h3⟩:=h;have hc0:w.cell? (g,0)=some (.slice A m c):=by simp[World.cell?,hh]
 have hc1:w.cell? (g,1)=(p:Int):=by simp[World.cell?,hh]
 have hf:w.frozen? (g,1)=false:=by simp[World.frozen?,hh]
 have Hh:=Aa hh;clear hh;by_cases hn1:n<1
 ·have H3:=Aa h3;clear h3;go_enter func67,ntmps67;go_wp2
  exact j7
 by_cases hm:m=0
 ·have H3:=Aa h3;clear h3;subst hm;go_enter func67,ntmps67;go_wp2
  exact j7
 have hm1:0<m:=aH;have tm:((m:Int) == 0)=false:=aN;have hl:l.length=m:=by have:=hr.1;simpa [Ei]using this
 by_cases hk:p<m
 ·obtain⟨b,o,rfl,hb,hx⟩:=hr.at_ hk;have hbg:b≠g:=Nat.ne_of_lt (h3 b o rfl hm1);have hx':w.cell? ⟨b,o+p,none⟩=some (.int .u8 ((l[p]' aH).toNat:Int)):=by rw[hx];simp[Ei]
  have hlt:=(l[p]' aH).toNat_lt;generalize (l[p]'(show p<l.length by omega)).toNat=y at hx' hlt;clear hx h3 tm;have tm:((m:Int) == 0)=false:=aN;have i1:(0:Int)<=(p:Int):=aH;have i2:(p:Int)<(m:Int):=aH;go_enter func67,ntmps67;go_wp2
  go_ret;have hn':(0:Int)<n:=aH;have e1:=Int.emod_nonneg (y:Int) (show n≠0 by omega);have e2:=Int.emod_lt_of_pos (y:Int) hn';exact⟨((y:Int) % n).toNat,D2 (Qig aH),by omega,by omega,(Hw.o 0).1,(Hw.o 0).2⟩
 obtain⟨b,o,rfl,hb,hcell⟩:=hr.2.2 hm1;have hbg:b≠g:=Nat.ne_of_lt (h3 b o rfl hm1);have m1:p % m<m:=Nat.mod_lt _ hm1;have m2:(p*7+3) % m<m:=Nat.mod_lt _ hm1;have hx1:=hcell (p % m) _ (List.getElem?_eq_getElem (show p % m<(Ei l).length by rw[Pz];omega));have hx2:=hcell ((p*7+3) % m) _ (List.getElem?_eq_getElem (show (p*7+3) % m<(Ei l).length by rw[Pz];omega));simp only[Ei,List.getElem_map]at hx1 hx2;have hlt1:=(l[p % m]' aH).toNat_lt;have hlt2:=(l[(p*7+3) % m]' aH).toNat_lt;generalize (l[p % m]'(show p % m<l.length by omega)).toNat=y1 at hx1 hlt1;generalize (l[(p*7+3) % m]'(show (p*7+3) % m<l.length by omega)).toNat=y2 at hx2 hlt2;have M1:((p:Int).tmod m)=((p % m:Nat):Int):=by rw[Int.tmod_eq_emod_of_nonneg aH];omega
 have M2:(((p:Int)*7+3).tmod m)=(((p*7+3) % m:Nat):Int):=by rw[Int.tmod_eq_emod_of_nonneg aH];simp
 have M3:((p:Int).tdiv m)=((p / m:Nat):Int):=by rw[Int.tdiv_eq_ediv_of_nonneg aH];omega
 have m3:p / m<=p:=Nat.div_le_self _ _;generalize p % m=k1 at M1 hx1 m1;generalize (p*7+3) % m=k2 at M2 hx2 m2;generalize p / m=k3 at M3 m3;have a1:IntKind.i64.wrap ((y1:Int)*131)=(y1:Int)*131:=IntWalk.i64_in _ aH;have a2:IntKind.i64.wrap ((y2:Int)*1117)=(y2:Int)*1117:=IntWalk.i64_in _ aH;have a3:IntKind.i64.wrap ((y1:Int)*131+(y2:Int)*1117)=(y1:Int)*131+(y2:Int)*1117:=IntWalk.i64_in _ aH;have a4:IntKind.i64.wrap ((p:Int)*29)=(p:Int)*29:=IntWalk.i64_in _ aH;have a5:IntKind.i64.wrap ((y1:Int)*131+(y2:Int)*1117+(p:Int)*29)=(y1:Int)*131+(y2:Int)*1117+(p:Int)*29:=IntWalk.i64_in _ aH;have a7:IntKind.i64.wrap ((k3:Int)*53)=(k3:Int)*53:=IntWalk.i64_in _ aH;have a9:IntKind.i64.wrap ((p:Int)*7)=(p:Int)*7:=IntWalk.i64_in _ aH;have a10:IntKind.i64.wrap ((p:Int)*7+3)=(p:Int)*7+3:=IntWalk.i64_in _ aH;obtain⟨z,a8,hz⟩:∃z:Nat,IntKind.i64.wrap ((y1:Int)*131+(y2:Int)*1117+(p:Int)*29+(k3:Int)*53)=(z:Int)/\z<4611686018427387904:=
  ⟨y1*131+y2*1117+p*29+k3*53,by rw[IntWalk.i64_in _ aH];omega,by omega⟩
 obtain⟨x,hx,hxl⟩:=Qbj z (z / 64) hz aH;rw[show ((z / 64:Nat):Int)=(z:Int) / 64 from by omega]at hx;clear hcell h3 hm hr;have i1:(0:Int)<=(p:Int):=aH;have i2:(0:Int)<(m:Int):=aH;have i3:(0:Int)<=(k1:Int):=aH;have i4:(k1:Int)<(m:Int):=aH;have i5:(0:Int)<=(k2:Int):=aH;have i6:(k2:Int)<(m:Int):=aH;have j1:(0:Int)<=(z:Int):=aH;have j2:(0:Int)<=(x:Int):=aH;go_enter func67,ntmps67;go_wp2
 go_quiet (fail)
 clear a1 a2 a3 a4 a5 a7 a9 a10 a8 M1 M2 M3;go_wp2
 go_ret;have hn':(0:Int)<n:=aH;have e1:=Int.emod_nonneg (x:Int) (show n≠0 by omega);have e2:=Int.emod_lt_of_pos (x:Int) hn';exact⟨((x:Int) % n).toNat,D2 (Qig aH),by omega,by omega,(Hw.o _).1,(Hw.o _).2⟩
theorem Qd3{w:World}{A:Option Addr}{n c:Nat}{l:List UInt8}(h:Bj w A n (Ei l))(hn:n<=2000):D8 (w.alloc (.cells #[.slice A n c,.int .i64 0] 110)) w 0:=by
 refine⟨A,n,c,l,heap_alloc_new w _,h.alloc _,hn,fun b off e hpos=>?_⟩;obtain⟨b',off',e',hlt,_⟩:=h.2.2 hpos;rw[e]at e';injection e' with e';injection e' with e1;subst e1;omega
theorem Bj.take{w:World}{A:Option Addr}{n:Nat}{l:List UInt8}(h:Bj w A n (Ei l))(k:Nat)(hk:k<=n):Bj w A k (Ei (l.take k)):=by
 have hl:l.length=n:=by have:=h.1;simpa [Ei]using this
 refine⟨by simp[Ei];omega,ae hk h.2.1,fun h0=>?_⟩;obtain⟨b,off,e,hlt,hc⟩:=h.2.2 aH;refine⟨b,off,e,hlt,fun j u hu=>hc j u ?_⟩;have hj:j<k:=by
  have:=(List.getElem?_eq_some_iff.1 hu).1;simp[Ei]at this;omega
 simpa [Ei,List.getElem?_take,hj]using hu
theorem Qdk(A:Option Addr)(n c:Nat)(l:List UInt8)(w:World)(h:Bj w A n (Ei l))(hc:n<=c)(hcm:c<=maxLen):
  Calls prog 32 #[.slice A n c] w fun e w'=>∃g,e=.returned (.pointer (some ⟨g,0,none⟩))/\D8 w' g 0/\w.heap.size<=g/\Below w w w':=by
 unfold maxLen at hcm;by_cases hn:n<=2000
 ·go_enter func32,ntmps32;go_wp2
  go_goals
  go_ret;exact⟨w.heap.size,rfl,Qd3 h hn,Ao _,(At _ _).alloc (Ao _) _⟩
 go_enter func32,ntmps32;go_wp2
 go_goals
 go_ret;exact⟨w.heap.size,rfl,Qd3 (h.take 2000 aH) (Ao _),Ao _,(At _ _).alloc (Ao _) _⟩
section
attribute [local go_sem] Qkk Qj0 Qjm Qhu ByteArray.mk_append_mk
theorem Ad{a b c:World}{row:Option Nat}(h:a.grownBy b row)(k:b.grownBy c row):a.grownBy c row:=
 ⟨k.os.trans h.os,k.tape.trans h.tape,k.output.trans h.output,ae h.size k.size,fun i hi hne=>(k.block i (ad hi h.size) hne).trans (h.block i hi hne)⟩
theorem Cf{a w:World}(h:Below a a w)(row:Option Nat):a.grownBy w row:=⟨h.os,h.tape,h.output,h.size,fun i hi _=>h.block i hi⟩
theorem Ey{a b:World}{row:Option Nat}(h:a.grownBy b row):a.grownBy b.drew row:=⟨h.os,h.tape,h.output,h.size,h.block⟩
theorem D8.ddrew{w:World}{g p:Nat}(h:D8 w g p):D8 w.drew g p:=h
theorem D8.dalloc{w:World}{g p:Nat}(h:D8 w g p)(o:Obj):D8 (w.alloc o) g p:=h.below ((At _ _).alloc (Ao _) o)
def Fz(W:World)(b:Nat)(ls:List (List UInt8)):Prop:=W.heap[b]?=some (.cells (Ah ls).toArray 9 (0,0))
theorem Fz.new(W:World)(ls:List (List UInt8)):Fz (W.alloc (.cells (Ah ls).toArray 9)) W.heap.size ls:=heap_alloc_new W _
theorem Fz.lt{W:World}{b:Nat}{ls:List (List UInt8)}(h:Fz W b ls):b<W.heap.size:=by
 rcases aG b W.heap.size with h1|h1
 ·exact h1
 unfold Fz at h;rw[Array.getElem?_eq_none h1]at h;cases h
theorem Fz.grown{W W':World}{b r:Nat}{ls:List (List UInt8)}(h:Fz W b ls)(hg:W.grownBy W' (some r))(hne:b≠r):Fz W' b ls:=
 (hg.block b h.lt (fun e=>hne (Option.some.inj e))).trans h
theorem Fz.cell{W:World}{b j:Nat}{ls:List (List UInt8)}(h:Fz W b ls)(hj:j<ls.length):∃s,s∈ls/\W.cell? ⟨b,j,none⟩=some (.string ⟨s.toArray⟩):=
 ⟨ls[j],af hj,by unfold Fz at h;simp[World.cell?,h,Ah,hj]⟩
def Nc(Q:List UInt8->Prop)(w:World)(g p m:Nat)(e:Ending)(w':World):Prop:=
 ∃(l:List UInt8) (q:Nat),e=.returned l/\Q l/\q<=p+m/\D8 w' g q/\w.grownBy w' (some g)
def Sg:List (List UInt8):=[[110],[116],[102],[110],[116],[64,97,59],[64,98,59],[64,99,59]]
def Rb:List (List UInt8):=[[],[120],[64,59],[64,65,59],[91],[63,63,63,63,63,63,63,63,63,63,63,63,63,63,110],[64,97],[110,110]]
def DK(l:List UInt8):Prop:=(∃sg b,l=sg++b/\sg.length<=2/\sg.all Bc=true/\b∈Sg)\/l∈Rb
theorem DK.len{l:List UInt8}(h:DK l):l.length<=15:=by
 rcases h with⟨sg,b,rfl,h1,_,h3⟩|h
 ·have:∀b∈Sg,b.length<=3:=aL;have:=this b h3;rw[ai];omega
 have:∀b∈Rb,b.length<=15:=aL;exact this l h
theorem Pg(g p:Nat)(w:World)(h:D8 w g p)(hp:p<=100000000):
  Calls prog 69 #[g] w (Nc DK w g p 7):=by
 have hgl:=h.lt;have HR:=Aa h;clear h;go_enter func69,ntmps69;go_wp2_with fail;refine(Bg g p 8 _ (HR.o.dalloc _) aH aH aH).mono ?_;rintro e w1 ⟨x,rfl,hx1,_,hR1,hg1⟩;have hx:x<Sg.length:=by show x<8;omega
 obtain⟨b,hbm,hcell⟩:=((Fz.new w Sg).grown hg1 aH).cell hx;have hbl:b.length<=3:=(show ∀b∈Sg,b.length<=3 by decide) b hbm;have i1:(0:Int)<=(x:Int):=aH;have i2:(x:Int)<8:=aH;have HR1:=Aa hR1;have Hg1:=Aa (Ad (World.grownBy_alloc w _ (some g)) hg1);have Hbm:=Aa hbm;clear hR1 hg1 hbm HR hx hx1;go_wp2_with fail;refine(Bg g (p+1) 4 _ HR1.o aH aH aH).mono ?_;rintro e w2 ⟨y,rfl,hy1,_,hR2,hg2⟩;have hy:y<=3:=aH;have HR2:=Aa hR2;have Hg2:=Aa (Ad Hg1.o hg2);clear hR2 hg2 HR1 Hg1 hy1 hcell;go_wp2_with fail;go_loopw [3,4] (fun s k wr=>∃(sg:List UInt8) (x q:Nat),s=.string ⟨(sg++b).toArray⟩/\k=.int .i64 x/\sg.length+x<=3/\(x=0->sg=[])/\Hid (sg.all Bc=true)/\q+x<=p+5/\g<wr.heap.size/\Hid (D8 wr g q)/\Hid (w.grownBy wr (some g))) (fun _ k _=>(intOf k).toNat)
 case atStart=>exact⟨[],y,p+2,by simp,rfl,by simp;omega,fun _=>rfl,rfl,by omega,HR2.o.lt,HR2.o,Hg2.o⟩
 case round=>
  obtain⟨sg,x,q,rfl,rfl,hlen,h0,hsg,hq,hgw,hR,hg⟩:=hrel;by_cases hx:1<x
  ·have hxi:(1:Int)<(x:Int):=aH;go_wp2_with fail;refine(Bg g q 3 _ (hR.o.dalloc _) aH aH aH).mono ?_;rintro e w3 ⟨z,rfl,hz1,_,hR3,hg3⟩;have hz:z<([[91],[63],[91]]:List (List UInt8)).length:=by show z<3;omega
   obtain⟨s3,hsm,hcell⟩:=((Fz.new wr [[91],[63],[91]]).grown hg3 aH).cell hz;obtain⟨c,rfl,hc⟩:∃c,s3=[c]/\Bc c=true:=by
    simp at hsm;rcases hsm with rfl|rfl|rfl
    ·exact⟨91,rfl,by decide⟩
    ·exact⟨63,rfl,by decide⟩
    exact⟨91,rfl,by decide⟩
   have j1:(0:Int)<=(z:Int):=aH;have j2:(z:Int)<3:=aH;have HR3:=Aa hR3;have hg3l:=hR3.lt;have Hg3:=Aa (Ad hg.o (Ad (World.grownBy_alloc wr _ (some g)) hg3));have Hc:=Aa hc;have Hsg:=Aa hsg.o;clear hR3 hg3 hsm hc;go_wp2_with fail;go_roundw
   case rel=>exact⟨c::sg,x - 1,q+1,by simp,by go_num,by simp;omega,fun h=>by omega,by show List.all _ _=_;rw[List.all_cons,Hc.o,Hsg.o];rfl,by omega,hg3l,HR3.o,Hg3.o⟩
   case measure=>simp[intOf];omega
  ·have hxi:¬(1:Int)<(x:Int):=aH
   have Hsl:=Aa (show sg.length<=2 by
    by_cases hx0:x=0
    ·rw[h0 hx0];simp
    omega)
   have HRa:=Aa hR.o;have Hga:=Aa hg.o;have Hsg:=Aa hsg.o;go_wp2_with fail;refine(Bg g q 30 _ HRa.o aH aH aH).mono ?_;rintro e w3 ⟨z,rfl,hz1,_,hR3,hg3⟩;have HR3:=Aa hR3;have Hg3:=Aa (Ad Hga.o hg3);have hg3l:=hR3.lt;clear hR3 hg3 HRa Hga;by_cases hz0:z=0
   ·subst hz0;go_wp2_with fail;refine(Bg g (q+1) 8 _ (HR3.o.dalloc _) aH aH aH).mono ?_;rintro e w4 ⟨u,rfl,hu1,_,hR4,hg4⟩;have hu:u<Rb.length:=by show u<8;omega
    obtain⟨s4,hsm,hcell⟩:=((Fz.new w3 Rb).grown hg4 aH).cell hu;have k1:(0:Int)<=(u:Int):=aH;have k2:(u:Int)<8:=aH;have HR4:=Aa hR4;have Hg4:=Aa (Ad Hg3.o (Ad (World.grownBy_alloc w3 _ (some g)) hg4));have Hsm:=Aa hsm;clear hR4 hg4 hsm;go_wp2_with fail;go_ret;exact⟨s4,q+1+1,rfl,.inr Hsm.o,by omega,HR4.o,Hg4.o⟩
   have hz2:((z:Int) == 0)=false:=aN;go_wp2_with fail;go_ret;exact⟨sg++b,q+1,rfl,.inl ⟨sg,b,rfl,Hsl.o,Hsg.o,Hbm.o⟩,by omega,HR3.o,Hg3.o⟩
def DrH(Q1 Q2:List UInt8->Prop):Prop:=(∀l,Q1 l->l.length<=100000)/\(∀l,Q2 l->l.length<=100000) /\
 (∀(g p:Nat) (W:World),D8 W g p->p<=100000->Calls prog 64 #[.pointer (some ⟨g,0,none⟩)] W (Nc Q1 W g p 170)) /\
 (∀(g p:Nat) (s:List UInt8) (W:World),D8 W g p->p<=100000->s.length<=100000->Calls prog 65 #[.pointer (some ⟨g,0,none⟩),.string ⟨s.toArray⟩] W (Nc Q2 W g p 10)) /\
 ∀(g p:Nat) (s k:List UInt8) (W:World),D8 W g p->p<=100000->s.length<=100000->k.length<=100000->Calls prog 34 #[.pointer (some ⟨g,0,none⟩),.string ⟨s.toArray⟩,.string ⟨k.toArray⟩] W (Nc (fun l=>l.length<=20000) W g p 40000000)
theorem Qbm{Q1 Q2:List UInt8->Prop}(H:DrH Q1 Q2)(g p:Nat)(w:World)(h:D8 w g p)(hp:p<=1000):
  Calls prog 63 #[.pointer (some ⟨g,0,none⟩)] w fun e w'=>∃(a b s:List UInt8) (q:Nat),e=.returned (.tuple #[.string ⟨a.toArray⟩,.string ⟨b.toArray⟩,.string ⟨s.toArray⟩])/\a.length<=100000/\b.length<=100000/\s.length<=100000/\q<=p+50000000/\D8 w' g q/\w.grownBy w' (some g):=by
 have H:=Aa H
 have HR:=Aa h
 clear h
 go_enter func63,ntmps63
 go_wp2_with fail
 refine(H.o.2.2.1 g p w HR.o (by omega)).mono ?_
 rintro e w1 ⟨a,q1,rfl,ha,hq1,hR1,hg1⟩
 have HR1:=Aa hR1
 have Hg1:=Aa hg1
 have hal:=H.o.1 a ha
 clear hR1 hg1 ha
 go_wp2_with fail
 refine(H.o.2.2.2.1 g q1 a _ HR1.o (by omega) hal).mono ?_
 rintro e w2 ⟨b,q2,rfl,hb,hq2,hR2,hg2⟩
 have HR2:=Aa hR2
 have Hg2:=Aa (Ad Hg1.o hg2)
 have hbl:=H.o.2.1 b hb
 clear hR2 hg2 hb
 go_wp2_with fail
 refine(H.o.2.2.2.2 g q2 a b _ HR2.o (by omega) hal hbl).mono ?_
 rintro e w3 ⟨s,q3,rfl,hs,hq3,hR3,hg3⟩
 have HR3:=Aa hR3
 have Hg3:=Aa (Ad Hg2.o hg3)
 clear hR3 hg3
 go_wp2_with fail
 refine bodyPost_ret (v:=.tuple #[.string ⟨a.toArray⟩,.string ⟨b.toArray⟩,.string ⟨s.toArray⟩]) (by simp[results,results63,go_sem]) rfl ?_
 exact⟨a,b,s,q3,rfl,hal,hbl,by omega,by omega,HR3.o,Hg3.o⟩
theorem Rj{Q1 Q2:List UInt8->Prop}(H:DrH Q1 Q2)(A:Option Addr)(n c:Nat)(l:List UInt8)(w:World)(h:Bj w A n (Ei l))(hc:n<=c)(hcm:c<=maxLen):
  Calls prog 30 #[.slice A n c] w (Qdv w):=by
 have H:=Aa H
 go_enter func30,ntmps30
 go_wp2_with fail
 refine(Qdk A n c l w h hc hcm).mono ?_
 rintro e w0 ⟨g,rfl,hR,hgb,hb0⟩
 have HR:=Aa hR
 have Hb0:=Aa hb0
 clear hR h hb0
 go_wp2_with fail
 refine(Qbm H.o g 0 _ HR.o (by omega)).mono ?_
 rintro e w1 ⟨a,b,s,q,rfl,ha,hb,hs,hq,hR1,hg1⟩
 have Hb1:=Aa (show Below w.heap.size w w1 from Hb0.o.grown hg1 Hb0.o.size (fun k hk=>by injection hk with hk;omega))
 clear hR1 hg1
 go_wp2_with fail
 refine bodyPost_ret (v:=.tuple #[.string ⟨a.toArray⟩,.string ⟨b.toArray⟩,.string ⟨s.toArray⟩]) (by simp[results,results30,go_sem]) rfl ?_
 exact⟨a,b,s,rfl,ha,hb,hs,Hb1.o⟩
end
section
variable {P:Program}
theorem Mn(W:World){o:Oper}{a:Act}{K:Act->World->Prop}{Q:Exit->Act->World->Prop}(s x:Operand)(t:TypeId)
  (ho:o.op=.call {callee:=.builtin .append,args:=#[s,x],argTypes:=#[t,t]})
  (base:Nat) (e:TypeId) (z:Value) (k bytes:Nat) (ht:P.underlying t=some (.slice e)) (hinfo:(P.info? e).map (fun i=>(i.zero,i.size,i.bytes))=some (some z,k,bytes))
  (hzs:z.cells.size=k) (hk:0<k) (us:List Value) (hul:us.length=k) (hu:∀u∈us,u.oneCell'=true) (v:Value) (n:Nat) (xs:List Value) (hs:a.eval s=v) (hx:a.eval x=.slice (W,0) 1 1)
  (hown:W.ownsRow base e k v n xs) (h63:n+1<=maxLen) (hbytes:(n+1)*bytes<=140737488355328) (hbase:base<=W.heap.size)
  (h:∀v' w',w'.ownsRow base e k v' (n+1) (xs++us)->W.grownBy w' v.ownBlock->(v'.ownBlock=v.ownBlock\/∃k,v'.ownBlock=some k/\W.heap.size<=k)->K (a.put o.dst v') w'):Oper.wp P o a (W.alloc (.cells us.toArray e)) K Q:=by
 obtain⟨i0,hi,hz0,hz1,hz2⟩:=info_parts hinfo
 obtain⟨v',w',hrun,r1,r2,r3⟩:=Ji (P:=P) (W.alloc (.cells us.toArray e)) base t o.type e i0 z k bytes ht hi hz0 hz1 hz2 hzs hk v n xs (hown.alloc _) ⟨W.heap.size,0,none⟩ 1 1 us aH (by
  intro j y hj;have e1:(⟨W.heap.size,0,none⟩:Addr).add j=⟨W.heap.size,j,none⟩:=bv;rw[e1,World.cell?_alloc_new];simpa using hj) hu aL h63 hbytes aN
 unfold Oper.wp;simp[execOp,ho,resolve,invoke,builtin,hs,hx,hrun,Result.andThen];refine h v' w' r1 ?_ ?_
 ·exact i9
 rcases r3 with r3|⟨k,r3,r4⟩
 ·exact .inl r3
 exact .inr ⟨k,r3,by simp at r4;omega⟩
theorem Zf(W:World){ops:Array Oper}{rest:List Oper}{o:Oper}{a:Act}{Q:Exit->Act->World->Prop}(hgd:o.guard=none)(s x:Operand)(t:TypeId)
  (ho:o.op=.call {callee:=.builtin .append,args:=#[s,x],argTypes:=#[t,t]})
  (base:Nat) (e:TypeId) (z:Value) (k bytes:Nat) (ht:P.underlying t=some (.slice e)) (hinfo:(P.info? e).map (fun i=>(i.zero,i.size,i.bytes))=some (some z,k,bytes))
  (hzs:z.cells.size=k) (hk:0<k) (us:List Value) (hul:us.length=k) (hu:∀u∈us,u.oneCell'=true) (v:Value) (n:Nat) (xs:List Value) (hs:a.eval s=v) (hx:a.eval x=.slice (W,0) 1 1)
  (hown:W.ownsRow base e k v n xs) (h63:n+1<=maxLen) (hbytes:(n+1)*bytes<=140737488355328) (hbase:base<=W.heap.size)
  (h:∀v' w',w'.ownsRow base e k v' (n+1) (xs++us)->W.grownBy w' v.ownBlock->(v'.ownBlock=v.ownBlock\/∃k,v'.ownBlock=some k/\W.heap.size<=k)->wpList P ops Q rest (a.put o.dst v') w'):wpList P ops Q (o::rest) a (W.alloc (.cells us.toArray e)):=
 wpList_plain hgd fun K' hK'=>Mn W s x t ho base e z k bytes ht hinfo hzs hk us hul hu v n xs hs hx hown h63 hbytes hbase fun v' w' h1 h2 h3=>hK' _ _ (h v' w' h1 h2 h3)
end
end Go.Proofs.YtpjijpcemejlnaaGreatDoor
