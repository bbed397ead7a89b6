/- Texts joined. Conditions: as each theorem names them. -/
import Derived.Deep.CutRange
import Derived.Deep.DeepCutAuto
import Derived.Test.YtkgkoicedddkmaaGreatDoorC32
set_option maxRecDepth 100000
set_option maxHeartbeats 32000000
set_option linter.unusedVariables false
set_option linter.unusedSimpArgs false
namespace Go.Proofs.YtkgkoicedddkmaaGreatDoor
open Go.RowKit Go.Proofs.Tryz
section
attribute [local go_sem] Qiz Qii Qib Qgw ByteArray.mk_append_mk
structure EvW(W:World)(eb:Nat)(p1 p2:Value)(xs ys:List PT):Prop where
 lt:eb<W.heap.size
 c0:W.cell? ⟨eb,0,none⟩=some p1
 c1:W.cell? ⟨eb,1,none⟩=some p2
 s1:Q9 W p1 xs
 s2:Q9 W p2 ys
theorem EvW.after{W W':World}{eb:Nat}{p1 p2:Value}{xs ys:List PT}(h:EvW W eb p1 p2 xs ys)(hb:Below W.heap.size W W'):EvW W' eb p1 p2 xs ys:=
 ⟨Nat.lt_of_lt_of_le h.lt hb.size,(hb.cell (p:=⟨eb,0,none⟩) h.lt).trans h.c0,(hb.cell (p:=⟨eb,1,none⟩) h.lt).trans h.c1,h.s1.below hb,h.s2.below hb⟩
structure LkT(w:World)(eb:Nat)(an bn:List UInt8)(xb yb pb1 mb1 pb2 mb2:Nat):Prop where
 le:eb<w.heap.size
 l1:pb1<w.heap.size
 l2:pb2<w.heap.size
 e0:w.cell? ⟨eb,0,none⟩=some (.pointer (some ⟨pb1,0,none⟩))
 e1:w.cell? ⟨eb,1,none⟩=some (.pointer (some ⟨pb2,0,none⟩))
 m1:w.cell? ⟨pb1,1,none⟩=some (.map (some mb1))
 m2:w.cell? ⟨pb2,1,none⟩=some (.map (some mb2))
 k1:∀W,Below w.heap.size w W->(Instr.lookup 120 (.map (some mb1)) (.string ⟨an.toArray⟩) false).run prog W=.ok (.pointer (some ⟨xb,0,none⟩)) W
 k2:∀W,Below w.heap.size w W->(Instr.lookup 120 (.map (some mb2)) (.string ⟨bn.toArray⟩) false).run prog W=.ok (.pointer (some ⟨yb,0,none⟩)) W
theorem Qh8{w:World}{eb:Nat}{p1 p2:Value}{xs ys:List PT}(h:EvW w eb p1 p2 xs ys){an bn:List UInt8}{x y:PT}(hx:Ef xs an=some x)(hy:Ef ys bn=some y)(ha:an.length<=1000)(hb:bn.length<=1000):∃pb1 mb1 pb2 mb2,p1=.pointer (some ⟨pb1,0,none⟩)/\p2=.pointer (some ⟨pb2,0,none⟩)/\LkT w eb an bn x.blk y.blk pb1 mb1 pb2 mb2:=by
 obtain⟨pb1,_,_,mb1,e1,q0,_,q2,_,q4,_,_⟩:=h.s1
 obtain⟨pb2,_,_,mb2,e2,s0,_,s2,_,s4,_,_⟩:=h.s2
 refine⟨pb1,mb1,pb2,mb2,e1,e2,h.lt,q0,s0,h.c0.trans (by rw[e1]),h.c1.trans (by rw[e2]),q2,s2,fun W hW=>?_,fun W hW=>?_⟩
 ·have:=Ey (Dd.below q4 hW) an (by omega);rw[hx]at this;exact this
 have:=Ey (Dd.below s4 hW) bn (by omega);rw[hy]at this;exact this
structure LiH(w W7:World)(eb:Nat)(a b:Kd)(vv:Vl)(A2:Option Addr)(n2 c2:Nat):Prop where
 sz:W7.heap.size=w.heap.size+7
 T:W7.there (w.heap.size+4) 0 4
 e0:W7.cell? ⟨w.heap.size,0,none⟩=some (.pointer (some ⟨eb,0,none⟩))
 a0:W7.cell? ⟨w.heap.size+1,0,none⟩=some (.string ⟨a.signs.toArray⟩)
 a1:W7.cell? ⟨w.heap.size+1,1,none⟩=some (.string ⟨a.base.toArray⟩)
 a2:W7.cell? ⟨w.heap.size+1,2,none⟩=some (.string ⟨a.name.toArray⟩)
 b2:W7.cell? ⟨w.heap.size+2,2,none⟩=some (.string ⟨b.name.toArray⟩)
 v0:W7.cell? ⟨w.heap.size+3,0,none⟩=some (.int .u8 (vv.what.toNat:Int))
 v1:W7.cell? ⟨w.heap.size+3,1,none⟩=some (.string ⟨vv.text.toArray⟩)
 v2:W7.cell? ⟨w.heap.size+3,2,none⟩=some (.int .i64 (vv.tag:Int))
 v3:W7.cell? ⟨w.heap.size+3,3,none⟩=some (.slice A2 n2 c2)
 st:V9 w W7 W7 (.int .u8 (vv.what.toNat:Int)) (.string ⟨vv.text.toArray⟩) (.int .i64 (vv.tag:Int)) false (.slice none 0 0) []
theorem Te(w W7:World)(eb:Nat)(a b:Kd)(vv:Vl)(A2:Option Addr)(n2 c2:Nat)(h:W7=(((((((w.alloc (.cells #[.pointer (some ⟨eb,0,none⟩)] 60)).alloc (.cells #[.string ⟨a.signs.toArray⟩,.string ⟨a.base.toArray⟩,.string ⟨a.name.toArray⟩] 62)).alloc (.cells #[.string ⟨b.signs.toArray⟩,.string ⟨b.base.toArray⟩,.string ⟨b.name.toArray⟩] 62)).alloc (.cells #[.int .u8 (vv.what.toNat:Int),.string ⟨vv.text.toArray⟩,.int .i64 (vv.tag:Int),.slice A2 n2 c2] 40)).alloc (.cells #[.int .u8 0,.string ⟨#[]⟩,.int .i64 0,.slice none 0 0] 40)).alloc (.cells #[.int .u8 (vv.what.toNat:Int),.string ⟨vv.text.toArray⟩,.int .i64 (vv.tag:Int),.slice none 0 0] 40)).alloc (.cells #[.bool false] 4))):LiH w W7 eb a b vv A2 n2 c2:=by
 obtain⟨W5,hW5⟩:∃W5,W5=((((w.alloc (.cells #[.pointer (some ⟨eb,0,none⟩)] 60)).alloc (.cells #[.string ⟨a.signs.toArray⟩,.string ⟨a.base.toArray⟩,.string ⟨a.name.toArray⟩] 62)).alloc (.cells #[.string ⟨b.signs.toArray⟩,.string ⟨b.base.toArray⟩,.string ⟨b.name.toArray⟩] 62)).alloc (.cells #[.int .u8 (vv.what.toNat:Int),.string ⟨vv.text.toArray⟩,.int .i64 (vv.tag:Int),.slice A2 n2 c2] 40)).alloc (.cells #[.int .u8 0,.string ⟨#[]⟩,.int .i64 0,.slice none 0 0] 40):=⟨_,rfl⟩
 obtain⟨W6,hW6⟩:∃W6,W6=W5.alloc (.cells #[.int .u8 (vv.what.toNat:Int),.string ⟨vv.text.toArray⟩,.int .i64 (vv.tag:Int),.slice none 0 0] 40):=⟨_,rfl⟩
 have hW7:W7=W6.alloc (.cells #[.bool false] 4):=by rw[h,hW6,hW5]
 clear h
 have hz5:W5.heap.size=w.heap.size+5:=by rw[hW5];simp
 have hz6:W6.heap.size=w.heap.size+6:=by rw[hW6];simp;omega
 have hz7:W7.heap.size=w.heap.size+7:=by rw[hW7];simp;omega
 have hb5:Below w.heap.size w W5:=by rw[hW5];exact((((((Aq _ _).alloc (Ap _) _).alloc (by simp) _).alloc (by simp;omega) _).alloc (by simp;omega) _).alloc (by simp;omega) _)
 have hb56:Below W5.heap.size W5 W6:=by rw[hW6];exact(Aq _ _).alloc (Ap _) _
 have hb67:Below W6.heap.size W6 W7:=by rw[hW7];exact(Aq _ _).alloc (Ap _) _
 have hc57:∀b o,b<w.heap.size+5->W7.cell? ⟨b,o,none⟩=W5.cell? ⟨b,o,none⟩:=fun b o hb=>(hb67.cell (p:=⟨b,o,none⟩) (show b<W6.heap.size by omega)).trans (hb56.cell (p:=⟨b,o,none⟩) (show b<W5.heap.size by omega))
 have hT:W5.there (w.heap.size+4) 0 4:=by
  have h:=Cc ((((w.alloc (.cells #[.pointer (some ⟨eb,0,none⟩)] 60)).alloc (.cells #[.string ⟨a.signs.toArray⟩,.string ⟨a.base.toArray⟩,.string ⟨a.name.toArray⟩] 62)).alloc (.cells #[.string ⟨b.signs.toArray⟩,.string ⟨b.base.toArray⟩,.string ⟨b.name.toArray⟩] 62)).alloc (.cells #[.int .u8 (vv.what.toNat:Int),.string ⟨vv.text.toArray⟩,.int .i64 (vv.tag:Int),.slice A2 n2 c2] 40)) [.int .u8 0,.string ⟨#[]⟩,.int .i64 0,.slice none 0 0] 40
  rw[<-hW5]at h
  simpa using h
 refine⟨hz7,Al (Al hT (by omega) hb56) (by omega) hb67,?_,?_,?_,?_,?_,?_,?_,?_,?_,?_⟩
 iterate 9
  ·rw[hc57 _ _ (by omega),hW5];go_simp
 have hB:Pf W6 (w.heap.size+5):=by rw[hW6,<-hz5];exact Pf.new _ _ _
 have hc:∀o u,(#[.int .u8 (vv.what.toNat:Int),.string ⟨vv.text.toArray⟩,.int .i64 (vv.tag:Int),.slice none 0 0]:Array Value)[o]?=some u->W7.cell? ⟨w.heap.size+5,o,none⟩=some u:=fun o u hu=>by
  rw[hb67.cell (p:=⟨w.heap.size+5,o,none⟩) (show w.heap.size+5<W6.heap.size by omega),hW6,<-hz5,World.cell?_alloc_new]
  exact hu
 refine⟨(hb5.trans (hb56.mono (by omega))).trans (hb67.mono (by omega)),Aq _ _,⟨by omega,by omega,by omega,hB.belowAt (by omega) hb67,hc 0 _ rfl,hc 1 _ rfl,hc 2 _ rfl,hc 3 _ rfl,World.ownsRow_nil _ _ _ _,by simp⟩,?_,?_⟩
 ·rw[hW7,<-hz6];simp[World.cell?_alloc_new]
 rw[hW7,<-hz6];simp[go_sem]
theorem Qc8(P:Nat->Prop)(w:World)(A:Option Addr)(c:Nat):Dx P w (.slice A 0 c) []:=
 .mk A c [] rfl rfl (by simp) ⟨rfl,Nat.zero_le _,fun h=>absurd h (by simp)⟩ (fun _ _ h=>absurd h (by simp)) (by simp)
theorem Ve(w:World)(eb:Nat)(a b:Kd)(hs:a.signs=[])(hb:a.base≠[64])(vv:Vl)(hk:vv.kids=[])(A2:Option Addr)(c2:Nat):
  Calls prog 31 #[.pointer (some ⟨eb,0,none⟩),D2 a,D2 b,D9 vv (.slice A2 0 c2)] w (Kl (vv,false) w):=by
 obtain⟨n2,hn2⟩:∃n2,n2=0:=⟨_,rfl⟩
 have Hs:=Aa hs
 have Hb:=Aa hb
 have Hk:=Aa hk
 clear hs hb hk
 obtain⟨W7,hW7⟩:∃W7,W7=(((((((w.alloc (.cells #[.pointer (some ⟨eb,0,none⟩)] 60)).alloc (.cells #[.string ⟨a.signs.toArray⟩,.string ⟨a.base.toArray⟩,.string ⟨a.name.toArray⟩] 62)).alloc (.cells #[.string ⟨b.signs.toArray⟩,.string ⟨b.base.toArray⟩,.string ⟨b.name.toArray⟩] 62)).alloc (.cells #[.int .u8 (vv.what.toNat:Int),.string ⟨vv.text.toArray⟩,.int .i64 (vv.tag:Int),.slice A2 n2 c2] 40)).alloc (.cells #[.int .u8 0,.string ⟨#[]⟩,.int .i64 0,.slice none 0 0] 40)).alloc (.cells #[.int .u8 (vv.what.toNat:Int),.string ⟨vv.text.toArray⟩,.int .i64 (vv.tag:Int),.slice none 0 0] 40)).alloc (.cells #[.bool false] 4)):=⟨_,rfl⟩
 have HH:=Aa (Te w W7 eb a b vv A2 n2 c2 hW7)
 unfold D2 D9
 go_enter func31,ntmps31
 go_upto_region 4 with fail
 subst hn2
 rw[<-hW7]
 clear hW7
 have e1:=HH.o.a0
 have e2:=HH.o.a1
 have e3:=HH.o.v0
 have e4:=HH.o.v1
 have e5:=HH.o.v2
 have e6:=HH.o.v3
 have t1:a.signs.isEmpty=true:=by rw[Hs.o];rfl
 have t2:(a.base == [64])=false:=by simpa using Hb.o
 have HT:=Aa HH.o.T
 rw[Hs.o]at e1
 go_wp2_with ((with_reducible refine Ad (op:=⟨none,.store 40 _ _,_,_,_,none⟩) rfl 40 _ _ rfl (w.heap.size+4) 0 [.int .u8 (vv.what.toNat:Int),.string ⟨vv.text.toArray⟩,.int .i64 (vv.tag:Int),.slice A2 0 c2] ?_ ?_ ?_ ?_ ?_ ?_);(first|rfl|(simp;done));rfl;(exact HT.o);kernel_rfl;(simp[Value.oneCell']);intro w9 HS9)
 refine bodyPost_ret (v:=.tuple #[.agg ([.int .u8 (vv.what.toNat:Int),.string ⟨vv.text.toArray⟩,.int .i64 (vv.tag:Int),.slice A2 0 c2]:List Value).toArray,.bool false]) ?_ rfl ?_
 ·exact Ao results31 _ _ (w.heap.size+4) [.int .u8 (vv.what.toNat:Int),.string ⟨vv.text.toArray⟩,.int .i64 (vv.tag:Int),.slice A2 0 c2] _ _ rfl rfl (by rw[HS9.o];exact World.rangeAt_setCells_same _ _ _ _ HT.o) underlying40 rfl (by kernel_rfl)
 refine⟨.slice A2 0 c2,rfl,by rw[Hk.o];exact Qc8 _ _ _ _,?_⟩
 rw[HS9.o]
 exact Ag _ (by omega) _ _ _ HH.o.st.bel
theorem Qf8(w:World)(eb:Nat)(a b:Kd)(hs:a.signs=[])(hb:a.base=[64])(vv:Vl)(hw85:vv.what≠85)(hw82:vv.what≠82)(hk:vv.kids=[])(A2:Option Addr)(c2:Nat)(xb yb pb1 mb1 pb2 mb2:Nat)(hlk:LkT w eb a.name b.name xb yb pb1 mb1 pb2 mb2):
  Calls prog 31 #[.pointer (some ⟨eb,0,none⟩),D2 a,D2 b,D9 vv (.slice A2 0 c2)] w (Kl (vv,false) w):=by
 obtain⟨n2,hn2⟩:∃n2,n2=0:=⟨_,rfl⟩
 have Hs:=Aa hs
 have Hb:=Aa hb
 have Hk:=Aa hk
 clear hs hb hk
 have t85:((vv.what.toNat:Int) == 85)=false:=by have:=Am hw85;simpa using this
 have t82:((vv.what.toNat:Int) == 82)=false:=by have:=Am hw82;simpa using this
 have HLk:=Aa hlk
 have ht:vv.text=vv.text:=rfl
 clear hw85 hw82 hlk
 obtain⟨W7,hW7⟩:∃W7,W7=(((((((w.alloc (.cells #[.pointer (some ⟨eb,0,none⟩)] 60)).alloc (.cells #[.string ⟨a.signs.toArray⟩,.string ⟨a.base.toArray⟩,.string ⟨a.name.toArray⟩] 62)).alloc (.cells #[.string ⟨b.signs.toArray⟩,.string ⟨b.base.toArray⟩,.string ⟨b.name.toArray⟩] 62)).alloc (.cells #[.int .u8 (vv.what.toNat:Int),.string ⟨vv.text.toArray⟩,.int .i64 (vv.tag:Int),.slice A2 n2 c2] 40)).alloc (.cells #[.int .u8 0,.string ⟨#[]⟩,.int .i64 0,.slice none 0 0] 40)).alloc (.cells #[.int .u8 (vv.what.toNat:Int),.string ⟨vv.text.toArray⟩,.int .i64 (vv.tag:Int),.slice none 0 0] 40)).alloc (.cells #[.bool false] 4)):=⟨_,rfl⟩
 have HH:=Aa (Te w W7 eb a b vv A2 n2 c2 hW7)
 unfold D2 D9
 go_enter func31,ntmps31
 go_upto_region 4 with fail
 subst hn2
 rw[<-hW7]
 clear hW7
 have e1:=HH.o.a0
 have e2:=HH.o.a1
 have e3:=HH.o.v0
 have t1:a.signs.isEmpty=true:=by rw[Hs.o];rfl
 rw[Hs.o]at e1
 rw[Hb.o]at e2
 go_upto_region 13 with fail
 refine Ge [58,59,60,61,62,63,64,65,66,67,68,69,70,71,72,73,74,75,76,77,15,16]
  (fun ix v W=>match ix with|0=>v=.pointer (some ⟨eb,0,none⟩)|1=>v=.pointer (some ⟨eb,0,none⟩)|2=>v=.pointer (some ⟨eb,0,none⟩)|3=>v=.pointer (some ⟨pb1,0,none⟩)|4=>v=.pointer (some ⟨pb1,0,none⟩)|5=>v=.pointer (some ⟨pb1,1,none⟩)|6=>v=.map (some mb1)|7=>v=.pointer (some ⟨w.heap.size+1,2,none⟩)|8=>v=.string ⟨a.name.toArray⟩|9=>v=.pointer (some ⟨xb,0,none⟩)|10=>v=.pointer (some ⟨eb,0,none⟩)|11=>v=.pointer (some ⟨eb,0,none⟩)|12=>v=.pointer (some ⟨eb,1,none⟩)|13=>v=.pointer (some ⟨pb2,0,none⟩)|14=>v=.pointer (some ⟨pb2,0,none⟩)|15=>v=.pointer (some ⟨pb2,1,none⟩)|16=>v=.map (some mb2)|17=>v=.pointer (some ⟨w.heap.size+2,2,none⟩)|18=>v=.string ⟨b.name.toArray⟩|19=>v=.pointer (some ⟨yb,0,none⟩)|20=>v=.pointer (some ⟨xb,0,none⟩)|21=>v=.pointer (some ⟨yb,0,none⟩)|_=>True)
  (fun L U W=>W=W7.drew) (rfl) ?_ ?_
 ·repeat (first|exact Ah.nil|(refine Ah.cons ?_ ?_;rotate_left))
  all_goals
   rintro L U W hL hpre HR Hdep K hK
   have hW:=HR.o
   subst hW
   have hbw:=HH.o.st.bel.drew
   have f0:=HH.o.e0
   have f1:=HH.o.a2
   have f2:=HH.o.b2
   have g0:=(hbw.cell (p:=⟨eb,0,none⟩) HLk.o.le).trans HLk.o.e0
   have g1:=(hbw.cell (p:=⟨eb,1,none⟩) HLk.o.le).trans HLk.o.e1
   have g2:=(hbw.cell (p:=⟨pb1,1,none⟩) HLk.o.l1).trans HLk.o.m1
   have g3:=(hbw.cell (p:=⟨pb2,1,none⟩) HLk.o.l2).trans HLk.o.m2
   have k1:=HLk.o.k1 _ hbw
   have k2:=HLk.o.k2 _ hbw
   first|(simp[Region.binds]at hpre;done)|simp[Region.binds]at hpre|clear hpre
  iterate 22
   ·go_simp
    exact kE hK HR.o
 rintro L U W hL hφ hR
 have e20:U 20=.pointer (some ⟨xb,0,none⟩):=hφ 20 (by decide)
 have e21:U 21=.pointer (some ⟨yb,0,none⟩):=hφ 21 (by decide)
 simp only[e20,e21]
 clear hφ
 subst hR
 clear hL
 have e5:=HH.o.v0
 go_wp2_with fail
 have HL:=Aa (HH.o.st.after (Aq _ _).drew)
 have HT:=Aa (Al HH.o.T (show w.heap.size+4<w.heap.size+5 by omega) HL.o.keep.drew)
 refine Ge [156,157,999,9]
  (fun ix v W=>match ix with|0=>v=.agg #[.int .u8 (vv.what.toNat:Int),.string ⟨vv.text.toArray⟩,.int .i64 (vv.tag:Int),.slice none 0 0]|1=>v=.bool false|3=>v=.bool false|_=>True)
  (fun L U W=>(L 2=false->W=W7.drew.drew)/\(L 2=true->W=W7.drew.drew.setCells (w.heap.size+4) 0 [.int .u8 (vv.what.toNat:Int),.string ⟨vv.text.toArray⟩,.int .i64 (vv.tag:Int),.slice none 0 0])) (⟨fun _=>rfl,fun h=>Bool.noConfusion h⟩) ?_ ?_
 ·repeat (first|exact Ah.nil|(refine Ah.cons ?_ ?_;rotate_left))
  all_goals
   rintro L U W hL hpre HR Hdep K hK
   first|(simp[Region.binds]at hpre;done)|simp[Region.binds]at hpre|clear hpre
  ·have h2:L 2=false:=Ax Hdep.o 2 0 rfl hL
   have hW:=HR.o.1 h2
   subst hW
   have x0:=HL.o.st.c0
   have x1:=HL.o.st.c1
   have x2:=HL.o.st.c2
   have x3:=HL.o.st.c3
   go_simp
   exact kE hK HR.o
  ·have x6:W.cell? ⟨w.heap.size+6,0,none⟩=some (.bool false):=by
    cases e2:L 2 with
    |false=>rw[HR.o.1 e2];exact HL.o.c6
    |true=>
     rw[HR.o.2 e2,(Bk (w.heap.size+4) _ 0 _).cell_far ⟨w.heap.size+6,0,none⟩ (by simp;exact HL.o.st.bs) (by simp)]
     exact HL.o.c6
   go_simp
   exact kE hK HR.o
  ·have hW:=HR.o.1 hL
   subst hW
   have u0:U 0=.agg #[.int .u8 (vv.what.toNat:Int),.string ⟨vv.text.toArray⟩,.int .i64 (vv.tag:Int),.slice none 0 0]:=by first|exact hpre.2|exact hpre.1.2|exact hpre.2.2
   rw[if_pos (by rfl)]
   refine wp_store_mid 40 _ _ rfl (w.heap.size+4) 0 ([.int .u8 (vv.what.toNat:Int),.string ⟨vv.text.toArray⟩,.int .i64 (vv.tag:Int),.slice none 0 0]:List Value).toArray rfl u0 HT.o (by kernel_rfl) (by simp[Value.oneCell']) ?_
   exact hK undef _ _ Ac Ac ⟨fun h=>by simp at h,fun _=>rfl⟩ rfl
  ·go_simp
   exact kE hK HR.o
 rintro L U W hL hφ hR
 have hW:=hR.2 (hL 2 (by decide))
 have u3:U 3=.bool false:=hφ 3 (by decide)
 simp only[u3]
 clear hR hL hφ u3
 subst hW
 go_wp2_with fail
 refine bodyPost_ret (v:=.tuple #[.agg ([.int .u8 (vv.what.toNat:Int),.string ⟨vv.text.toArray⟩,.int .i64 (vv.tag:Int),.slice none 0 0]:List Value).toArray,.bool false]) ?_ rfl ?_
 ·exact Ao results31 _ _ (w.heap.size+4) [.int .u8 (vv.what.toNat:Int),.string ⟨vv.text.toArray⟩,.int .i64 (vv.tag:Int),.slice none 0 0] _ _ rfl rfl (World.rangeAt_setCells_same _ _ _ _ HT.o) underlying40 rfl (by kernel_rfl)
 refine⟨.slice none 0 0,rfl,by rw[Hk.o];exact Qc8 _ _ _ _,?_⟩
 exact Ag _ (by omega) _ _ _ HL.o.bel.drew
theorem S9(w0:World)(x:PT)(hx:Px w0 x)(n:Nat)(hn:n<=1000000000)(f:Fd)(hf:Au x.ty.fields n=some f):∃b o,b<w0.heap.size/\w0.rangeAt b o (Qz f)/\∀W,Below w0.heap.size w0 W ->
  Calls prog 54 #[.pointer (some ⟨x.blk,0,none⟩),.int .i64 n] W fun e w'=>e=.returned (.pointer (some ⟨b,o,none⟩))/\W=w':=by
 obtain⟨z0,_,_,_,z3,_,A,c,hfv,hl,hr⟩:=hx
 rw[hfv]at z3
 unfold Au at hf
 obtain⟨hp,j,hj,hfj,hlt⟩:=List.find?_eq_some_iff_getElem.1 hf
 obtain⟨b,off,rfl,hbl,hrg⟩:=Pv.range hr hj
 rw[hfj]at hrg
 refine⟨b,off+j*6,hbl,hrg,fun W hW=>?_⟩
 have c2:W.cell? ⟨x.blk,2,none⟩=some (.slice (some ⟨b,off,none⟩) x.ty.fields.length c):=(hW.cell (p:=⟨x.blk,2,none⟩) z0).trans z3
 have Hr:=Aa hr
 have Hb:=Aa hW
 have Hlt:=Aa hlt
 have Htag:=Aa (show f.tag=n from by simpa using hp)
 have Hfj:=Aa hfj
 clear hr hfv z3 hW hlt hp hfj hf hrg
 go_enter func54,ntmps54
 go_wp2_with fail
 go_loop [11] (fun i=>∃k:Nat,i=.int .i64 k/\k<=j) (fun i=>x.ty.fields.length - (intOf i).toNat)
 case atStart=>exact⟨0,rfl,Nat.zero_le _⟩
 case round=>
  obtain⟨k,rfl,hk⟩:=hrel
  have hkl:k<x.ty.fields.length:=by omega
  obtain⟨b',off',e',hbl',hrg'⟩:=Pv.range Hr.o hkl
  injection e' with e'
  injection e' with e1 e2
  subst e1 e2
  have c0:W.cell? ⟨b,off+k*6,none⟩=some (.int .i64 ((x.ty.fields[k]).tag:Int)):=by simpa using Ab (Aj hrg' hbl' Hb.o) 0 rfl
  have k1:(0:Int)<=(k:Int):=by omega
  have k2:(k:Int)<(x.ty.fields.length:Int):=by omega
  clear hrg'
  by_cases he:k=j
  ·subst he
   rw[Hfj.o,Htag.o]at c0
   have t1:((n:Int) == (n:Int))=true:=by simp
   go_wp2_with fail
   go_ret
   exact⟨rfl,rfl⟩
  ·have hne:(x.ty.fields[k]).tag≠n:=by have:=Hlt.o k (by omega);simpa using this
   have t1:(((x.ty.fields[k]).tag:Int) == (n:Int))=false:=by rw[beq_eq_false_iff_ne];omega
   generalize (x.ty.fields[k]).tag=tk at *
   clear hne
   go_wp2_with fail
   go_round
   case rel=>exact⟨k+1,by go_num,by omega⟩
   case measure=>simp[intOf];omega
theorem Rm.single{base B:Nat}{W:World}{h0 h1 h2:Value}(h:Rm base B W h0 h1 h2 (.slice none 0 0) (.slice none 0 0) []){y:Vl}{sl:Value}(hs:Dx (fun c=>base<=c) W sl y.kids):
  Rm base B (W.alloc (.cells (J5 (y,sl)).toArray 40)) h0 h1 h2 (.slice none 0 0) (.slice (some ⟨W.heap.size,0,none⟩) 1 1) [(y,sl)]:=by
 have hb:=(Aq W.heap.size W).alloc (Ap _) (.cells (J5 (y,sl)).toArray 40)
 have h2:=h.after hb
 refine⟨h2.lt,h2.bs,h2.hB,h2.bk,h2.c0,h2.c1,h2.c2,h2.c3,⟨rfl,.inr ⟨W.heap.size,1,(J5 (y,sl)).toArray,rfl,h.bs,heap_alloc_new _ _,Ap _,by unfold maxLen;omega,rfl,rfl⟩⟩,fun x hx=>?_⟩
 simp at hx
 subst hx
 exact(hs.mono (Q:=fun c=>base<=c/\(Value.slice (some ⟨W.heap.size,0,none⟩) 1 1).ownBlock≠some c) fun c hc hl=>⟨hc,by simp[Value.ownBlock];omega⟩).after hb
structure Sg(w W7 W1:World)(h0 h1 h2:Value)(r:Vl × Bool)(l19 l20 l22:Bool)(u19 u20:Value)(W:World):Prop where
 s0:l19=false->W=W1
 s1:l19=true->l20=false->∃sl,u19=D9 r.1 sl/\Dx (fun c=>W1.heap.size<=c) W sl r.1.kids/\V9 w W7 W h0 h1 h2 r.2 (.slice none 0 0) []
 s2:l20=true->l22=false->∃W8 sl,W=W8.alloc (.cells (J5 (r.1,sl)).toArray 40)/\u20=.slice (some ⟨W8.heap.size,0,none⟩) 1 1/\Dx (fun c=>W1.heap.size<=c) W8 sl r.1.kids/\V9 w W7 W8 h0 h1 h2 r.2 (.slice none 0 0) []
 s3:l22=true->∃g sl,V9 w W7 W h0 h1 h2 r.2 (.slice (some ⟨g,0,none⟩) 1 1) [(r.1,sl)]
section
variable {w W7 W W' W1:World} {h0 h1 h2 u19 u20:Value} {l19 l20 l22:Bool} {r:Vl × Bool}
theorem Sg.start:Sg w W7 W1 h0 h1 h2 r false false false u19 u20 W1:=⟨fun _=>rfl,fun h=>Bool.noConfusion h,fun h=>Bool.noConfusion h,fun h=>Bool.noConfusion h⟩
theorem Sg.put19{sl:Value}(hl:V9 w W7 W1 h0 h1 h2 false (.slice none 0 0) [])(h20:l20=false)(h22:l22=false)(hs:Dx (fun c=>W1.heap.size<=c) W sl r.1.kids)(hg:W1.grownBy W (some (w.heap.size+6)))(hc:W.cell? ⟨w.heap.size+6,0,none⟩=some (.bool (false || r.2)))(hf:W.frozen? ⟨w.heap.size+6,0,none⟩=false):
  Sg w W7 W1 h0 h1 h2 r true l20 l22 (D9 r.1 sl) u20 W:=by
 subst h20 h22
 exact⟨fun h=>Bool.noConfusion h,fun _ _=>⟨sl,rfl,hs,hl.one hg (by simpa using hc) hf⟩,fun h=>Bool.noConfusion h,fun h=>Bool.noConfusion h⟩
theorem Sg.put20(h:Sg w W7 W1 h0 h1 h2 r l19 l20 l22 u19 u20 W)(h19:l19=true)(h20:l20=false)(h22:l22=false):∃sl,u19=D9 r.1 sl/\(∃A n c,sl=.slice A n c) /\
  Sg w W7 W1 h0 h1 h2 r l19 true l22 u19 (.slice (some ⟨W.heap.size,0,none⟩) 1 1) (W.alloc (.cells (J5 (r.1,sl)).toArray 40)):=by
 obtain⟨sl,e,hs,hL⟩:=h.s1 h19 h20
 subst h22
 exact⟨sl,e,by obtain⟨A,c,e⟩:=hs.form;exact⟨A,_,c,e⟩,fun h=>absurd (h19.symm.trans h) (by decide),fun _ h=>Bool.noConfusion h,fun _ _=>⟨W,sl,rfl,rfl,hs,hL⟩,fun h=>Bool.noConfusion h⟩
theorem Sg.put22(h:Sg w W7 W1 h0 h1 h2 r l19 l20 l22 u19 u20 W)(hb1:w.heap.size+7<=W1.heap.size)(h19:l19=true)(h20:l20=true)(h22:l22=false)(hW:W'=W.setCell ⟨w.heap.size+5,3,none⟩ u20):Sg w W7 W1 h0 h1 h2 r l19 l20 true u19 u20 W':=by
 subst hW
 obtain⟨W8,sl,rfl,eu,hs,hL⟩:=h.s2 h20 h22
 have hb8:=(Aq W8.heap.size W8).alloc (Ap _) (.cells (J5 (r.1,sl)).toArray 40)
 have hK:=(hL.st.single (hs.mono fun c hc _=>Nat.le_trans hb1 hc)).store
 have hL2:=hL.after hb8
 have hlt:w.heap.size+6<W8.heap.size:=hL.st.bs
 have hg:=At (W8.alloc (.cells (J5 (r.1,sl)).toArray 40)) (w.heap.size+5) 3 u20
 rw[<-eu]at hK
 refine⟨fun h=>absurd (h19.symm.trans h) (by decide),fun _ h=>absurd (h20.symm.trans h) (by decide),fun _ h=>Bool.noConfusion h,fun _=>⟨W8.heap.size,sl,hL2.bel.setCell (p:=⟨w.heap.size+5,3,none⟩) (show w.heap.size<=w.heap.size+5 by omega) _,hL2.keep.setCell (p:=⟨w.heap.size+5,3,none⟩) (Ap (w.heap.size+5)) _,eu ▸ hK,hg.cell hL2.c6 (by simp),(hg.frozen_far ⟨w.heap.size+6,0,none⟩ (by simp;omega) (by simp)).trans hL2.f6⟩⟩
end
end
end Go.Proofs.YtkgkoicedddkmaaGreatDoor
