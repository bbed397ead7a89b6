/- Texts joined. Conditions: as each theorem names them. -/
import Derived.Deep.CutRange
import Derived.Deep.DeepCutAuto
import Derived.Test.YtkgkoicedddkmaaGreatDoorC22
import Derived.Test.YtkgkoicedddkmaaGreatDoorC31
set_option maxRecDepth 100000
set_option maxHeartbeats 32000000
set_option linter.unusedVariables false
set_option linter.unusedSimpArgs false
namespace Go.Proofs.YtkgkoicedddkmaaGreatDoor
open Go.RowKit Go.Proofs.Tryz
section
attribute [local go_sem] Qiz Qii Qib Qgw ByteArray.mk_append_mk
structure Gh(Q:World->Value->Value->Value->Prop)(w1:World)(c m x y z a b e:Bool)(uc um ux uy uz ua ub ue:Value)(W:World):Prop where
 no:c=false->W=w1
 yes:c=true->∃vp vr vk,Q W vp vr vk/\uc=.tuple #[vp,vr,vk]/\(m=true->um=.tuple #[vp,vr,vk])/\(x=true->ux=vp)/\(y=true->uy=vr)/\(z=true->uz=vk)/\(a=true->ua=vp)/\(b=true->ub=vr)/\(e=true->ue=vk)
def SrQ(w1:World)(S:List Ty)(k:Kd)(o:Option (Vl × List UInt8))(W:World)(vp vr vk:Value):Prop:=
 Below w1.heap.size w1 W/\match o with
  |some x=>(∃b,vp=.pointer (some ⟨b,0,none⟩)/\Fl (fun c=>w1.heap.size<=c) W b (Cq S k x.1))/\vr=.string ⟨x.2.toArray⟩/\vk=.bool true
  |none=>(∃q,vp=.pointer q)/\(∃r,vr=.string r)/\vk=.bool false
theorem Bl.q{S:List Ty}{k:Kd}{o:Option (Vl × List UInt8)}{w w':World}{e:Ending}(h:Bl S k o w e w'):∃vp vr vk,e=.returned (.tuple #[vp,vr,vk])/\SrQ w S k o w' vp vr vk:=by
 obtain⟨h,hb⟩:=h
 cases o with
 |none=>obtain⟨q,r,rfl⟩:=h;exact⟨_,_,_,rfl,hb,⟨q,rfl⟩,⟨r,rfl⟩,rfl⟩
 |some x=>obtain⟨b,rfl,hs⟩:=h;exact⟨_,_,_,rfl,hb,⟨b,rfl,hs⟩,rfl,rfl⟩
def SrC(w0:World)(S:List Ty)(xv:Value)(k:Kd)(d:Nat):Prop:=∀(s:List UInt8) (W:World),Below w0.heap.size w0 W->s.length<=1000000 ->
 Calls prog 43 #[.agg #[xv],.string ⟨s.toArray⟩,.string ⟨(Bj k).toArray⟩,.int .i64 (d:Int)] W (Bl S k (An S 20 d k s) W)
def Qe2(K:List UInt8->Option (Vl × List UInt8))(s:List UInt8):Option (Vl × List UInt8):=match Ar 93 s with
 |some z=>some (.mk 91 [] 0 [],z)
 |none=>match Cx K 20 s with|some (vs,z)=>some (.mk 91 [] 0 vs,z)|none=>none
structure Qir(w:World)(xv h0 h1:Value)(S:List Ty)(k:Kd)(K:List UInt8->Option (Vl × List UInt8))(s:List UInt8)(wr:World)(v:Value)(xs:List (Nat × SV))(vs:List Vl)(tt:List UInt8):Prop where
 bel:Below w.heap.size w wr
 st:Jr (w.heap.size+2) (w.heap.size+1) wr h0 h1 (.slice none 0 0) (.slice none 0 0) v v [] xs
 box:wr.cell? ⟨w.heap.size,0,none⟩=some xv
 len:xs.length=vs.length
 eq:xs.map (·.2)=vs.map (Cq S k.part)
 it:Cx K 20 s=Qo vs (Cx K (20 - vs.length) tt)
 le:tt.length<=s.length
theorem Qd6(w0:World)(S:List Ty)(xv:Value)(hxv:xv.oneCell'=true)(k:Kd)(sg:List UInt8)(hsg:k.signs=91::sg)(hkl:(Bj k).length<=100)(d:Nat)(hd:d<=1000)(s:List UInt8)(w:World)(hw:Below w0.heap.size w0 w)(hs:s.length<=1000000)
  (H:SrC w0 S xv k.part d) (HG:∀s v r,An S 20 d k.part s=some (v,r)->s=Bc v++r) (q:Option (Vl × List UInt8)) (hq:q=Qe2 (An S 20 d k.part) s):
  Calls prog 67 #[.agg #[xv],.string ⟨s.toArray⟩,.string ⟨(Bj k).toArray⟩,.int .i64 ((d+1:Nat):Int)] w (Bl S k q w):=by
 have hkp:Bj k=91::Bj k.part:=by unfold Bj Kd.part;rw[hsg];rfl
 have HQ:=Aa hq
 have HH:=Aa H
 have HG:=Aa HG
 have HW:=Aa hw
 have Hsv:=Aa (fun ks=>hkp ▸ Q5 S k ks)
 have hkl2:(Bj k.part).length<=100:=by rw[hkp]at hkl;simp at hkl;omega
 rw[hkp]
 generalize hkk:Bj k.part=kp at *
 have Hkk:=Aa hkk
 have ed:(((d+1:Nat):Int)) - 1=(d:Int):=by omega
 have ed2:(((d+1:Nat):Int))<=1001:=by omega
 have ed3:(0:Int)<=(((d+1:Nat):Int)):=by omega
 generalize (((d+1:Nat):Int))=dd at *
 clear H hw hq hkp hkl hkk hsg
 by_cases h93:∃z,s=93::z
 ·obtain⟨z,rfl⟩:=h93
  go_enter func67,ntmps67
  go_wp2_with fail
  go_quiet (fail)
  go_wp2_with fail
  refine bodyPost_ret (v:=.tuple #[.pointer (some ⟨w.heap.size+1,0,none⟩),.string ⟨z.toArray⟩,.bool true]) (by simp[results,results67,go_sem]) rfl ?_
  rw[HQ.o,show Qe2 (An S 20 d k.part) (93::z)=some (.mk 91 [] 0 [],z)from by simp[Qe2,Ar]]
  have hl:=Fl.leaf (P:=fun c=>w.heap.size<=c) (w:=w.alloc (.cells #[xv] 92)) (kind:=91::kp) (text:=[]) (T:=97) (by simp)
  refine⟨⟨w.heap.size+1,rfl,?_⟩,below_drewN (((Aq w.heap.size w).alloc (Ap _) _).alloc (by simp) _) _⟩
  rw[Hsv.o]
  have hl2:Fl (fun c=>w.heap.size<=c) ((w.alloc (.cells #[xv] 92)).alloc (.cells #[.string ⟨(91::kp:List UInt8).toArray⟩,.string ⟨#[]⟩,.slice none 0 0,.slice none 0 0] 97)) (w.heap.size+1) (.mk (91::kp) [] [] []):=by simpa using hl
  exact hl2.after (below_drewN (Aq _ _) _)
 have hne:Ar 93 s=none:=by
  cases s with
  |nil=>rfl
  |cons c z=>exact Di (fun e=>h93 ⟨z,by rw[e]⟩) z
 have HQ2:=Aa (show q=match Cx (An S 20 d k.part) 20 s with|some (vs,z)=>some (.mk 91 [] 0 vs,z)|none=>none from by rw[HQ.o];unfold Qe2;rw[hne])
 have Hst:=Aa (show Jr (w.heap.size+2) (w.heap.size+1) ((w.alloc (.cells #[xv] 92)).alloc (.cells #[.string ⟨(91::kp:List UInt8).toArray⟩,.string ⟨#[]⟩,.slice none 0 0,.slice none 0 0] 97)) (.string ⟨(91::kp:List UInt8).toArray⟩) (.string ⟨#[]⟩) (.slice none 0 0) (.slice none 0 0) (.slice none 0 0) (.slice none 0 0) [] []from by
  have:=Jr.new (W:=w.alloc (.cells #[xv] 92)) (T:=97) (.string ⟨(91::kp:List UInt8).toArray⟩) (.string ⟨#[]⟩)
  simpa using this)
 have hc0:s≠[]->∀h,((s[0]'h).toNat:Int)≠93:=by
  intro hn h e
  cases s with
  |nil=>exact hn rfl
  | cons c z => exact h93 ⟨z, by have:c=93:=by apply UInt8.toNat_inj.1;simpa using(by exact_mod_cast e:c.toNat=93)
                                 rw[this]⟩
 clear h93 hne
 obtain⟨W1,hW1⟩:∃W1,W1=(w.alloc (.cells #[xv] 92)).alloc (.cells #[.string ⟨(91::kp:List UInt8).toArray⟩,.string ⟨#[]⟩,.slice none 0 0,.slice none 0 0] 97):=⟨_,rfl⟩
 have Hb1:=Aa (show Below w.heap.size w W1 from by rw[hW1];exact((Aq w.heap.size w).alloc (Ap _) _).alloc (by simp) _)
 have Hx1:=Aa (show W1.cell? ⟨w.heap.size,0,none⟩=some xv from by rw[hW1];go_simp)
 rw[<-hW1]at Hst
 go_enter func67,ntmps67
 go_upto_region 2 with fail
 rw[<-hW1]
 clear hW1
 go_cut [1,24]from 18 to 27 (fun s0 bt wx=>s0=.string ⟨s.toArray⟩/\bt=.bool false/\wx=W1)
 case first=>
  by_cases hs0:s=[]
  ·have he:s.isEmpty=true:=by rw[hs0];rfl
   clear hs0 hc0
   go_wp2_with fail
   go_meet
   exact⟨rfl,rfl,rfl⟩
  ·have he:s.isEmpty=false:=by cases s with|nil=>exact absurd rfl hs0|cons c z=>rfl
   have hs1:0<s.length:=by cases s with|nil=>exact absurd rfl hs0|cons c z=>simp
   have hs2:(((s[0]'hs1).toNat:Int) == 93)=false:=by simpa using hc0 hs0 hs1
   clear hs0 hc0
   go_wp2_with fail
   go_meet
   exact⟨rfl,rfl,rfl⟩
 case rest=>
  clear hc0
  obtain⟨rfl,rfl,rfl⟩:=hcut
  have L0:=Aa (show Qir w xv (.string ⟨(91::kp:List UInt8).toArray⟩) (.string ⟨#[]⟩) S k (An S 20 d k.part) s wc (.slice none 0 0) [] [] s from⟨Hb1.o,Hst.o,Hx1.o,rfl,rfl,by cases h:Cx (An S 20 d k.part) 20 s<;>simp[Qo,h],Ap _⟩)
  clear Hb1 Hst Hx1
  go_wp2_with fail
  go_loopw [1] (fun s0 wr=>∃(A:Option Addr) (c:Nat) (xs:List (Nat × SV)) (vs:List Vl) (tt:List UInt8),s0=.string ⟨tt.toArray⟩/\tt.length<=s.length/\Hid (Qir w xv (.string ⟨(91::kp:List UInt8).toArray⟩) (.string ⟨#[]⟩) S k (An S 20 d k.part) s wr (.slice A xs.length c) xs vs tt)) (fun s0 _=>Qr s0)
  case atStart=>exact⟨none,0,[],[],s,rfl,Ap _,L0.o⟩
  case round=>
   obtain⟨A,c,xs,vs,tt,rfl,htl,HL⟩:=hrel
   have c3:=HL.o.st.c3
   have c0:=HL.o.box
   have hlt:=HL.o.st.lt
   by_cases h20:xs.length<20
   ·have t20:decide ((xs.length:Int)<20)=true:=decide_eq_true (by omega)
    have HC:=Aa (show ∀W,Below w0.heap.size w0 W->Calls prog 43 #[.agg #[xv],.string ⟨tt.toArray⟩,.string ⟨kp.toArray⟩,.int .i64 (d:Int)] W (Bl S k.part (An S 20 d k.part tt) W)from fun W hW=>by have:=HH.o tt W hW (by omega);rw[Hkk.o]at this;exact this)
    have HWr:=Aa (show Below w0.heap.size w0 wr.drew from(HW.o.trans (HL.o.bel.mono HW.o.size)).drew)
    have t20i:(xs.length:Int)<20:=by omega
    have hx20:xs.length<=19:=by omega
    have d1:(0:Int)<=(d:Int):=by omega
    have d2:(d:Int)<=1000:=by omega
    have hwd:IntKind.i64.wrap (d:Int)=(d:Int):=IntWalk.i64_in _ (by omega)
    clear t20 h20
    go_wp2_with fail
    refine Ge [35,36,37,38,39,40,41,34,42,43,44,12,13,14]
     (fun ix v W=>match ix with|0=>v=.agg #[xv]|1=>v=.string ⟨(tt:List UInt8).toArray⟩|2=>v=.string ⟨(91::kp:List UInt8).toArray⟩|3=>v=.string ⟨(kp:List UInt8).toArray⟩|4=>v=.int .i64 dd|5=>v=.int .i64 (d:Int)|_=>True)
     (fun L U W=>Gh (SrQ wr.drew S k.part (An S 20 d k.part tt)) wr.drew (L 6) (L 7) (L 8) (L 9) (L 10) (L 11) (L 12) (L 13) (U 6) (U 7) (U 8) (U 9) (U 10) (U 11) (U 12) (U 13) W) (⟨fun _=>rfl,fun h=>Bool.noConfusion h⟩) ?_ ?_
    ·repeat (first|exact Ah.nil|(refine Ah.cons ?_ ?_;rotate_left))
     all_goals
      rintro L U W hL hpre HR Hdep K hK
      first|(simp[Region.binds]at hpre;done)|simp[Region.binds]at hpre|clear hpre
     ·have h6:L 6=false:=Ax Hdep.o 6 0 rfl hL
      have hW:=HR.o.no h6
      subst hW
      go_simp
      exact kE hK HR.o
     iterate 2
      ·go_simp
       exact kE hK HR.o
     ·go_simp
      rw[if_pos (by omega)]
      go_simp
      exact hK (.string ⟨kp.toArray⟩) _ _ rfl Ac HR.o (by simp[Act.put,hpre])
     ·go_simp
      exact kE hK HR.o
     ·go_simp
      exact hK (.int .i64 (d:Int)) _ _ rfl Ac HR.o (by simp[Act.put,hpre,hwd])
     ·have h7:L 7=false:=Ax Hdep.o 7 6 rfl hL
      have h8:L 8=false:=Ax Hdep.o 8 7 rfl h7
      have h9:L 9=false:=Ax Hdep.o 9 7 rfl h7
      have h10:L 10=false:=Ax Hdep.o 10 7 rfl h7
      have h11:L 11=false:=Ax Hdep.o 11 8 rfl h8
      have h12:L 12=false:=Ax Hdep.o 12 9 rfl h9
      have h13:L 13=false:=Ax Hdep.o 13 10 rfl h10
      have hW:=HR.o.no hL
      subst hW
      go_simp
      refine(HC.o _ HWr.o).mono ?_
      rintro e w5 hp
      obtain⟨vp,vr,vk,rfl,hq5⟩:=hp.q
      go_simp
      refine hK (.tuple #[vp,vr,vk]) _ _ Ac Ac ⟨fun h=>by simp at h,fun _=>⟨vp,vr,vk,hq5,rfl,?_,?_,?_,?_,?_,?_,?_⟩⟩ (by simp[Act.put,hpre])
      all_goals (intro h;simp_all)
     ·have l6:=hpre
      obtain⟨vp,vr,vk,q1,q2,q3,q4,q5,q6,q7,q8,q9⟩:=HR.o.yes l6
      go_simp
      exact hK (U 6) _ _ Ac Ac ⟨fun h=>absurd (l6.symm.trans h) (by decide),fun _=>⟨vp,vr,vk,q1,q2,fun _=>q2,q4,q5,q6,q7,q8,q9⟩⟩ (by simp[Act.put,hpre,q2])
     ·have l7:=hpre
      have l6:L 6=true:=Jx (Ax Hdep.o 7 6 rfl) l7
      obtain⟨vp,vr,vk,q1,q2,q3,q4,q5,q6,q7,q8,q9⟩:=HR.o.yes l6
      have u7:=q3 l7
      simp only[u7]
      go_simp
      exact hK vp _ _ Ac Ac ⟨fun h=>absurd (l6.symm.trans h) (by decide),fun _=>⟨vp,vr,vk,q1,q2,q3,fun _=>rfl,q5,q6,q7,q8,q9⟩⟩ (by simp[Act.put,hpre,u7,q2])
     ·have l7:=hpre
      have l6:L 6=true:=Jx (Ax Hdep.o 7 6 rfl) l7
      obtain⟨vp,vr,vk,q1,q2,q3,q4,q5,q6,q7,q8,q9⟩:=HR.o.yes l6
      have u7:=q3 l7
      simp only[u7]
      go_simp
      exact hK vr _ _ Ac Ac ⟨fun h=>absurd (l6.symm.trans h) (by decide),fun _=>⟨vp,vr,vk,q1,q2,q3,q4,fun _=>rfl,q6,q7,q8,q9⟩⟩ (by simp[Act.put,hpre,u7,q2])
     ·have l7:=hpre
      have l6:L 6=true:=Jx (Ax Hdep.o 7 6 rfl) l7
      obtain⟨vp,vr,vk,q1,q2,q3,q4,q5,q6,q7,q8,q9⟩:=HR.o.yes l6
      have u7:=q3 l7
      simp only[u7]
      go_simp
      exact hK vk _ _ Ac Ac ⟨fun h=>absurd (l6.symm.trans h) (by decide),fun _=>⟨vp,vr,vk,q1,q2,q3,q4,q5,fun _=>rfl,q7,q8,q9⟩⟩ (by simp[Act.put,hpre,u7,q2])
     ·have l8:=hpre.1
      have l7:L 7=true:=Jx (Ax Hdep.o 8 7 rfl) l8
      have l6:L 6=true:=Jx (Ax Hdep.o 7 6 rfl) l7
      obtain⟨vp,vr,vk,q1,q2,q3,q4,q5,q6,q7,q8,q9⟩:=HR.o.yes l6
      go_simp
      exact hK (U 8) _ _ Ac Ac ⟨fun h=>absurd (l6.symm.trans h) (by decide),fun _=>⟨vp,vr,vk,q1,q2,q3,q4,q5,q6,fun _=>q4 l8,q8,q9⟩⟩ (by simp[Act.put,hpre,q2,q3 l7,q4,q5,q6,q7,q8,q9,l8])
     ·have l9:=hpre.1
      have l7:L 7=true:=Jx (Ax Hdep.o 9 7 rfl) l9
      have l6:L 6=true:=Jx (Ax Hdep.o 7 6 rfl) l7
      obtain⟨vp,vr,vk,q1,q2,q3,q4,q5,q6,q7,q8,q9⟩:=HR.o.yes l6
      go_simp
      exact hK (U 9) _ _ Ac Ac ⟨fun h=>absurd (l6.symm.trans h) (by decide),fun _=>⟨vp,vr,vk,q1,q2,q3,q4,q5,q6,q7,fun _=>q5 l9,q9⟩⟩ (by simp[Act.put,hpre,q2,q3 l7,q4,q5,q6,q7,q8,q9,l9])
     ·have l10:=hpre.1
      have l7:L 7=true:=Jx (Ax Hdep.o 10 7 rfl) l10
      have l6:L 6=true:=Jx (Ax Hdep.o 7 6 rfl) l7
      obtain⟨vp,vr,vk,q1,q2,q3,q4,q5,q6,q7,q8,q9⟩:=HR.o.yes l6
      go_simp
      exact hK (U 10) _ _ Ac Ac ⟨fun h=>absurd (l6.symm.trans h) (by decide),fun _=>⟨vp,vr,vk,q1,q2,q3,q4,q5,q6,q7,q8,fun _=>q6 l10⟩⟩ (by simp[Act.put,hpre,q2,q3 l7,q4,q5,q6,q7,q8,q9,l10])
    rintro L U W hL hφ hR
    clear hφ
    obtain⟨vp,vr,vk,hq5,_,_,_,_,_,q7,q8,q9⟩:=hR.yes (hL 6 (by decide))
    have u11:=q7 (hL 11 (by decide))
    have u12:=q8 (hL 12 (by decide))
    have u13:=q9 (hL 13 (by decide))
    simp only[u11,u12,u13]
    clear hR hL q7 q8 q9 u11 u12 u13
    obtain⟨hb5,hm⟩:=hq5
    have HB5:=Aa (show Below wr.heap.size wr W from(Aq _ _).drew.trans hb5)
    have HS5:=Aa (HL.o.st.after HB5.o)
    have Hw5:=Aa (HL.o.bel.trans (HB5.o.mono HL.o.bel.size))
    have Hx5:=Aa (show W.cell? ⟨w.heap.size,0,none⟩=some xv from(HB5.o.cell (p:=⟨w.heap.size,0,none⟩) (by show w.heap.size<wr.heap.size;omega)).trans c0)
    have hz5:=hb5.size
    have Hit:=Aa (show Cx (An S 20 d k.part) 20 s=Qo vs (Cx (An S 20 d k.part) (19 - vs.length+1) tt)from by rw[HL.o.it];congr 2;have:=HL.o.len;omega)
    clear c3 c0 hb5
    cases hk:An S 20 d k.part tt with
    |none=>
     rw[hk]at hm
     obtain⟨⟨q0,rfl⟩,⟨r0,rfl⟩,rfl⟩:=hm
     have HN:=Aa (show q=none from by rw[HQ2.o,Hit.o];unfold Cx;rw[hk];simp[Qo])
     clear hk
     go_wp2_with fail
     refine bodyPost_ret (v:=.tuple #[.pointer none,.string ⟨tt.toArray⟩,.bool false]) (by simp[results,results67,go_sem]) rfl ?_
     exact Bl.no HN.o rfl Hw5.o
    |some y=>
     obtain⟨v,r⟩:=y
     rw[hk]at hm
     obtain⟨⟨b,rfl,hsv⟩,rfl,rfl⟩:=hm
     have hrl:r.length<=tt.length:=by rw[HG.o tt v r hk];simp
     have Hsv5:=Aa (show Fl (fun c1=>w.heap.size+2<=c1/\(Value.slice A xs.length c).ownBlock≠some c1/\(Value.slice none 0 0).ownBlock≠some c1) W b (Cq S k.part v)from by
      refine hsv.mono fun c1 hc _=>⟨Nat.le_trans HL.o.st.bs hc,fun e=>?_,by simp[Value.ownBlock]⟩
      have h1:=(HL.o.st.row.lt c1 e).2
      have h2:wr.heap.size<=c1:=hc
      omega)
     have HI:=Aa (show Cx (An S 20 d k.part) 20 s=Qo vs (match Ar 44 r with|some q=>(match Cx (An S 20 d k.part) (19 - vs.length) q with|some (vs,z)=>some (v::vs,z)|none=>none)|none=>match Ar 93 r with|some q=>some ([v],q)|none=>none)from by rw[Hit.o];simp only[Cx,hk];rfl)
     clear hk hsv
     cases r with
     |nil=>
      have HN:=Aa (show q=none from by rw[HQ2.o,HI.o];simp[Ar,Qo])
      go_wp2_with fail
      refine bodyPost_ret (v:=.tuple #[.pointer none,.string ⟨tt.toArray⟩,.bool false]) (by simp[results,results67,go_sem]) rfl ?_
      exact Bl.no HN.o rfl Hw5.o
     |cons c9 z=>
      by_cases h44:c9=44
      ·have HSV:=Hsv5
       clear Hsv5
       subst h44
       have h9:((((44:UInt8).toNat:Nat):Int) != 44)=false:=rfl
       have h8:((((44:UInt8).toNat:Nat):Int) == 93)=false:=rfl
       have s3:=HS5.o.c3
       have s4:=HS5.o.lt
       go_wp2_with (at_builtin;go_loud (refine Gw _ rfl _ _ 95 rfl (w.heap.size+2) 56 (.pointer none) 8 underlying95 Vs rfl W (.pointer (some ⟨b,0,none⟩)) rfl rfl (.slice A xs.length c) xs.length (Do (xs.map (·.1))) rfl rfl HS5.o.row (by unfold maxLen;omega) (by omega) HS5.o.bs ?_;intro v6 w6 hown6 hg6 hwh6;obtain⟨A6,c6,e6,hS6,hb6⟩:=HS5.o.push (x:=(b,Cq S k.part v)) HSV.o hown6 hg6 hwh6;subst e6;have HS6:=Aa hS6;have HB6:=Aa hb6;have p3:=hS6.c3;have f3:=hS6.bk.live 3;have hz6:=hS6.lt;clear hS6 hb6 hown6 hg6 hwh6))
       have hw6:=HB6.o.mono (show w.heap.size<=w.heap.size+2 by omega)
       have Hbel:=Aa ((Hw5.o.trans hw6).setCell (p:=⟨w.heap.size+1,3,none⟩) (show w.heap.size<=w.heap.size+1 by omega) (.slice A6 (xs++[(b,Cq S k.part v)]).length c6))
       have Hst7:=Aa HS6.o.set3
       have Hbx7:=Aa ((At w6 (w.heap.size+1) 3 (.slice A6 (xs++[(b,Cq S k.part v)]).length c6)).cell ((HB6.o.cell (p:=⟨w.heap.size,0,none⟩) (show w.heap.size<w.heap.size+2 by omega)).trans Hx5.o) (by simp))
       have Heq7:=Aa (show (xs++[(b,Cq S k.part v)]).map (·.2)=(vs++[v]).map (Cq S k.part)from by simp[HL.o.eq])
       have el:(xs++[(b,Cq S k.part v)]).length=xs.length+1:=by simp
       rw[el]at Hbel Hst7 Hbx7
       have Hit7:=Aa (show Cx (An S 20 d k.part) 20 s=Qo (vs++[v]) (Cx (An S 20 d k.part) (20 - (vs++[v]).length) z)from by
        rw[HI.o,show 20 - (vs++[v]).length=19 - vs.length by simp]
        simp only[Ar,if_true]
        cases Cx (An S 20 d k.part) (19 - vs.length) z<;>simp[Qo])
       have Hlen7:=Aa (show (xs++[(b,Cq S k.part v)]).length=(vs++[v]).length from by simp[HL.o.len])
       go_roundw
       case rel=>exact⟨A6,c6,_,vs++[v],z,rfl,by simp at hrl;omega,⟨Hbel.o,by rw[el];exact Hst7.o,Hbx7.o,Hlen7.o,Heq7.o,Hit7.o,by simp at hrl;omega⟩⟩
       case measure=>simp[Qr,ByteArray.size]at hrl ⊢;omega
      by_cases h93:c9=93
      ·have HSV:=Hsv5
       clear Hsv5
       subst h93
       have h9:((((93:UInt8).toNat:Nat):Int) != 44)=true:=rfl
       have h7:((((93:UInt8).toNat:Nat):Int) != 93)=false:=rfl
       have h8:((((93:UInt8).toNat:Nat):Int) == 93)=true:=rfl
       have s3:=HS5.o.c3
       have s4:=HS5.o.lt
       clear h44
       go_wp2_with (at_builtin;go_loud (refine Gw _ rfl _ _ 95 rfl (w.heap.size+2) 56 (.pointer none) 8 underlying95 Vs rfl W (.pointer (some ⟨b,0,none⟩)) rfl rfl (.slice A xs.length c) xs.length (Do (xs.map (·.1))) rfl rfl HS5.o.row (by unfold maxLen;omega) (by omega) HS5.o.bs ?_;intro v6 w6 hown6 hg6 hwh6;obtain⟨A6,c6,e6,hS6,hb6⟩:=HS5.o.push (x:=(b,Cq S k.part v)) HSV.o hown6 hg6 hwh6;subst e6;have HS6:=Aa hS6;have HB6:=Aa hb6;have p3:=hS6.c3;have f3:=hS6.bk.live 3;have hz6:=hS6.lt;clear hS6 hb6 hown6 hg6 hwh6))
       have hw6:=HB6.o.mono (show w.heap.size<=w.heap.size+2 by omega)
       have Hbel:=Aa ((Hw5.o.trans hw6).setCell (p:=⟨w.heap.size+1,3,none⟩) (show w.heap.size<=w.heap.size+1 by omega) (.slice A6 (xs++[(b,Cq S k.part v)]).length c6))
       have Hst7:=Aa HS6.o.set3
       have Hbx7:=Aa ((At w6 (w.heap.size+1) 3 (.slice A6 (xs++[(b,Cq S k.part v)]).length c6)).cell ((HB6.o.cell (p:=⟨w.heap.size,0,none⟩) (show w.heap.size<w.heap.size+2 by omega)).trans Hx5.o) (by simp))
       have Heq7:=Aa (show (xs++[(b,Cq S k.part v)]).map (·.2)=(vs++[v]).map (Cq S k.part)from by simp[HL.o.eq])
       have el:(xs++[(b,Cq S k.part v)]).length=xs.length+1:=by simp
       rw[el]at Hbel Hst7 Hbx7
       have HY:=Aa (show q=some (.mk 91 [] 0 (vs++[v]),z)from by rw[HQ2.o,HI.o];simp[Ar,Qo])
       refine bodyPost_ret (v:=.tuple #[.pointer (some ⟨w.heap.size+1,0,none⟩),.string ⟨z.toArray⟩,.bool true]) (by simp[results,results67,go_sem]) rfl ?_
       rw[HY.o]
       refine⟨⟨w.heap.size+1,rfl,?_⟩,Hbel.o⟩
       rw[Hsv.o,<-Heq7.o]
       have hd:=Hst7.o.done (kind:=91::kp) (text:=[]) (by simp) (by simp;omega)
       exact hd.mono fun c1 hc _=>by have:w.heap.size+1<=c1:=hc;show w.heap.size<=c1;omega
      have HN:=Aa (show q=none from by rw[HQ2.o,HI.o];simp[Ar,Qo,h44,h93])
      have t44:((c9.toNat:Int) != 44)=true:=by have:=Am h44;simpa using this
      have t93:((c9.toNat:Int) != 93)=true:=by have:=Am h93;simpa using this
      clear h44 h93
      go_wp2_with fail
      refine bodyPost_ret (v:=.tuple #[.pointer none,.string ⟨tt.toArray⟩,.bool false]) (by simp[results,results67,go_sem]) rfl ?_
      exact Bl.no HN.o rfl Hw5.o
   ·have t20:decide ((xs.length:Int)<20)=false:=decide_eq_false (by omega)
    go_wp2_with fail
    refine bodyPost_ret (v:=.tuple #[.pointer none,.string ⟨tt.toArray⟩,.bool false]) (by simp[results,results67,go_sem]) rfl ?_
    refine Bl.no ?_ rfl HL.o.bel
    have h0:=HL.o.it
    rw[show 20 - vs.length=0 by have:=HL.o.len;omega]at h0
    rw[HQ2.o,h0]
    simp[Cx,Qo]
theorem SrQ.post{S:List Ty}{k:Kd}{o:Option (Vl × List UInt8)}{w w1 w':World}{vp vr vk:Value}(hb:Below w.heap.size w w1)(h:SrQ w1 S k o w' vp vr vk):Bl S k o w (.returned (.tuple #[vp,vr,vk])) w':=by
 obtain⟨h1,h2⟩:=h
 refine⟨?_,hb.trans (h1.mono hb.size)⟩
 cases o with
 |none=>obtain⟨⟨q,rfl⟩,⟨r,rfl⟩,rfl⟩:=h2;exact⟨q,r,rfl⟩
 |some x=>obtain⟨⟨b,rfl,hs⟩,rfl,rfl⟩:=h2;exact⟨b,rfl,hs.mono fun c hc _=>Nat.le_trans hb.size hc⟩
theorem Qdw(S:List Ty)(m d:Nat)(k:Kd)(hs0:k.signs=[])(hb:k.base=[110]\/k.base=[116]\/k.base=[102]):An S m (d+1) k []=none:=by
 unfold An
 rw[hs0]
 rcases hb with hb|hb|hb<;>rw[hb]<;>rfl
theorem Qbd(S:List Ty)(xv:Value)(hxv:xv.oneCell'=true)(k:Kd)(hs0:k.signs=[])(hb:k.base=[110]\/k.base=[116]\/k.base=[102])(d:Nat)(hd:d<=1000)(s:List UInt8)(w:World)(hs:s.length<=1000000):
  Calls prog 43 #[.agg #[xv],.string ⟨s.toArray⟩,.string ⟨(Bj k).toArray⟩,.int .i64 ((d+1:Nat):Int)] w (Bl S k (An S 20 (d+1) k s) w):=by
 have HN:=Aa (Qdw S 20 d k hs0 hb)
 have d1:¬((((d+1:Nat):Int))<1):=by omega
 have d2:(((d+1:Nat):Int))<=1001:=by omega
 by_cases hne:s=[]
 ·subst hne
  generalize hq:An S 20 (d+1) k []=q at *
  have hk2:∃kb:List UInt8,kb.length<=20/\Bj k=kb:=⟨_,by
   have:Bj k=k.base:=by unfold Bj Bs;rw[hs0];rcases hb with hb|hb|hb<;>rw[hb]<;>rfl
   rw[this];rcases hb with hb|hb|hb<;>rw[hb]<;>decide,rfl⟩
  obtain⟨kb,hkl,hkb⟩:=hk2
  rw[hkb]
  generalize (((d+1:Nat):Int))=dd at *
  clear hq hb hs0 hkb
  go_enter func43,ntmps43
  go_wp2_with fail
  refine bodyPost_ret (v:=.tuple #[.pointer none,.string ⟨#[]⟩,.bool false]) (by simp[results,results43,go_sem]) rfl ?_
  exact Bl.no HN.o rfl ((Aq _ _).alloc (Ap _) _)
 have he:s.isEmpty=false:=by cases s with|nil=>exact absurd rfl hne|cons c z=>rfl
 have HP:∀W,Calls prog 69 #[.agg #[xv],.string ⟨s.toArray⟩,.string ⟨(Bj k).toArray⟩] W (Bl S k (An S 20 (d+1) k s) W):=by
  intro W
  rcases hb with hb|hb|hb
  ·have hk:Bj k=[110]:=by unfold Bj Bs;rw[hs0,hb];rfl
   rw[hk]
   exact Qgq S xv hxv s k hs0 hb W (by omega) _ (by unfold An;rw[hs0,hb];rfl)
  ·have hk:Bj k=[116]:=by unfold Bj Bs;rw[hs0,hb];rfl
   rw[hk]
   exact Qfe S xv hxv s k hs0 hb W (by omega) hne _ (by unfold An;rw[hs0,hb];rfl)
  have hk:Bj k=[102]:=by unfold Bj Bs;rw[hs0,hb];rfl
  rw[hk]
  exact Qgc S xv hxv s k hs0 hb W (by omega) _ (by unfold An;rw[hs0,hb];rfl)
 have hk2:∃kb:UInt8,(kb=110\/kb=116\/kb=102)/\Bj k=[kb]:=by
  rcases hb with hb|hb|hb
  ·exact⟨110,.inl rfl,by unfold Bj Bs;rw[hs0,hb];rfl⟩
  ·exact⟨116,.inr (.inl rfl),by unfold Bj Bs;rw[hs0,hb];rfl⟩
  exact⟨102,.inr (.inr rfl),by unfold Bj Bs;rw[hs0,hb];rfl⟩
 obtain⟨kb,hkl,hkb⟩:=hk2
 rw[hkb]at HP ⊢
 generalize hq:An S 20 (d+1) k s=q at *
 generalize (((d+1:Nat):Int))=dd at *
 have HP:=Aa HP
 clear hq hb hs0 hkb hne
 rcases hkl with rfl|rfl|rfl<;>
 ·go_enter func43,ntmps43
  go_wp2_with fail
  refine(HP.o _).mono ?_
  rintro e w5 hp
  obtain⟨vp,vr,vk,rfl,hq5⟩:=hp.q
  have Hq5:=Aa hq5
  clear hq5 hp
  go_wp2_with fail
  refine bodyPost_ret (v:=.tuple #[vp,vr,vk]) (by simp[results,results43,go_sem]) rfl ?_
  exact Hq5.o.post ((Aq _ _).alloc (Ap _) _)
theorem Tt(K:List UInt8->Option (Vl × List UInt8)):∀(m:Nat) (s:List UInt8) (vs:List Vl) (q:List UInt8),Cx K m s=some (vs,q)->vs.length<=m
 |0,s,vs,q,h=>by simp[Cx]at h
 |m+1,s,vs,q,h=>by
  unfold Cx at h
  cases hk:K s with
  |none=>rw[hk]at h;cases h
  |some y=>
   rw[hk]at h
   simp only at h
   cases h1:Ar 44 y.2 with
   |some z=>
    rw[h1]at h
    simp only at h
    cases h2:Cx K m z with
    |none=>rw[h2]at h;cases h
    |some x=>
     rw[h2]at h
     injection h with h
     injection h with h _
     have:=Tt K m z x.1 x.2 h2
     rw[<-h];simp;omega
   |none=>
    rw[h1]at h
    simp only at h
    cases h2:Ar 93 y.2 with
    |none=>rw[h2]at h;cases h
    |some z=>rw[h2]at h;injection h with h;injection h with h _;rw[<-h];simp
theorem Qd0(K:List UInt8->Option (Vl × List UInt8))(z:List UInt8):S1 K 20 (91::z)=Qe2 K z:=by
 unfold S1 Qe2
 rw[Bq]
 simp only
 cases Ar 93 z with
 |some q=>rfl
 |none=>
  simp only
  cases h:Cx K 20 z with
  |none=>rfl
  |some x=>simp[Tt K 20 z x.1 x.2 h]
theorem Qea(w0:World)(S:List Ty)(xv:Value)(hxv:xv.oneCell'=true)(k:Kd)(sg:List UInt8)(hsg:k.signs=91::sg)(hkl:(Bj k).length<=100)(d:Nat)(hd:d<=1000)(s:List UInt8)(w:World)(hw:Below w0.heap.size w0 w)(hs:s.length<=1000000)
  (H:SrC w0 S xv k.part d) (HG:∀s v r,An S 20 d k.part s=some (v,r)->s=Bc v++r):
  Calls prog 43 #[.agg #[xv],.string ⟨s.toArray⟩,.string ⟨(Bj k).toArray⟩,.int .i64 ((d+1:Nat):Int)] w (Bl S k (An S 20 (d+1) k s) w):=by
 have hq:An S 20 (d+1) k s=S1 (An S 20 d k.part) 20 s:=by unfold An;rw[hsg];rfl
 have HN:=Aa (show Ar 91 s=none->An S 20 (d+1) k s=none from fun h=>by rw[hq];unfold S1;rw[h])
 have HC:=Aa (show ∀z,s=91::z->∀W,Below w0.heap.size w0 W->Calls prog 67 #[.agg #[xv],.string ⟨z.toArray⟩,.string ⟨(Bj k).toArray⟩,.int .i64 ((d+1:Nat):Int)] W (Bl S k (An S 20 (d+1) k s) W)from by
  rintro z rfl W hW
  exact Qd6 w0 S xv hxv k sg hsg hkl d hd z W hW (by simp at hs;omega) H HG _ (by rw[hq,Qd0]))
 have hkp:Bj k=91::Bj k.part:=by unfold Bj Kd.part;rw[hsg];rfl
 have d1:¬((((d+1:Nat):Int))<1):=by omega
 have d2:(((d+1:Nat):Int))<=1001:=by omega
 have HW:=Aa (show Below w0.heap.size w0 (w.alloc (.cells #[xv] 92)).drew from(hw.alloc hw.size _).drew)
 rw[hkp]at HC hkl ⊢
 generalize Bj k.part=kp at *
 generalize An S 20 (d+1) k s=q at *
 generalize (((d+1:Nat):Int))=dd at *
 have hkl2:kp.length<=100:=by simp at hkl;omega
 clear H HG hq hkp hsg hkl hw hd
 cases s with
 |nil=>
  have HN:=Aa (HN.o rfl)
  go_enter func43,ntmps43
  go_wp2_with fail
  refine bodyPost_ret (v:=.tuple #[.pointer none,.string ⟨#[]⟩,.bool false]) (by simp[results,results43,go_sem]) rfl ?_
  exact Bl.no HN.o rfl ((Aq _ _).alloc (Ap _) _)
 |cons c z=>
  by_cases hc:c=91
  ·subst hc
   have HC:=Aa (fun W=>HC.o z rfl W)
   go_enter func43,ntmps43
   go_wp2_with fail
   refine Ge [29,30,31,32,33,34,35,36,37,8,9,10]
    (fun ix v W=>match ix with|0=>v=.agg #[xv]|1=>v=.string ⟨(91::z:List UInt8).toArray⟩|2=>v=.string ⟨(z:List UInt8).toArray⟩|3=>v=.string ⟨(91::kp:List UInt8).toArray⟩|4=>v=.int .i64 dd|_=>True)
    (fun L U W=>Gh (SrQ (w.alloc (.cells #[xv] 92)).drew S k q) ((w.alloc (.cells #[xv] 92)).drew) (L 5) (L 5) (L 6) (L 7) (L 8) (L 9) (L 10) (L 11) (U 5) (U 5) (U 6) (U 7) (U 8) (U 9) (U 10) (U 11) W) (⟨fun _=>rfl,fun h=>Bool.noConfusion h⟩) ?_ ?_
   ·repeat (first|exact Ah.nil|(refine Ah.cons ?_ ?_;rotate_left))
    all_goals
     rintro L U W hL hpre HR Hdep K hK
     first|(simp[Region.binds]at hpre;done)|simp[Region.binds]at hpre|clear hpre
    ·have h5:L 5=false:=Ax Hdep.o 5 0 rfl hL
     have hW:=HR.o.no h5
     subst hW
     go_simp
     exact kE hK HR.o
    ·go_simp
     exact kE hK HR.o
    ·go_simp
     rw[if_pos (by omega)]
     go_simp
     exact hK (.string ⟨z.toArray⟩) _ _ rfl Ac HR.o (by simp[Act.put,hpre])
    iterate 2
     ·go_simp
      exact kE hK HR.o
    ·have h6:L 6=false:=Ax Hdep.o 6 5 rfl hL
     have h7:L 7=false:=Ax Hdep.o 7 5 rfl hL
     have h8:L 8=false:=Ax Hdep.o 8 5 rfl hL
     have h9:L 9=false:=Ax Hdep.o 9 6 rfl h6
     have h10:L 10=false:=Ax Hdep.o 10 7 rfl h7
     have h11:L 11=false:=Ax Hdep.o 11 8 rfl h8
     have hW:=HR.o.no hL
     subst hW
     go_simp
     refine(HC.o _ HW.o).mono ?_
     rintro e w5 hp
     obtain⟨vp,vr,vk,rfl,hq5⟩:=hp.q
     go_simp
     refine hK (.tuple #[vp,vr,vk]) _ _ Ac Ac ⟨fun h=>by simp at h,fun _=>⟨vp,vr,vk,hq5,rfl,fun _=>rfl,?_,?_,?_,?_,?_,?_⟩⟩ (by simp[Act.put,hpre])
     all_goals (intro h;simp_all)
    ·have l5:=hpre
     obtain⟨vp,vr,vk,q1,q2,q3,q4,q5,q6,q7,q8,q9⟩:=HR.o.yes l5
     simp only[q2]
     go_simp
     exact hK vp _ _ Ac Ac ⟨fun h=>absurd (l5.symm.trans h) (by decide),fun _=>⟨vp,vr,vk,q1,q2,q3,fun _=>rfl,q5,q6,q7,q8,q9⟩⟩ (by simp[Act.put,hpre,q2])
    ·have l5:=hpre
     obtain⟨vp,vr,vk,q1,q2,q3,q4,q5,q6,q7,q8,q9⟩:=HR.o.yes l5
     simp only[q2]
     go_simp
     exact hK vr _ _ Ac Ac ⟨fun h=>absurd (l5.symm.trans h) (by decide),fun _=>⟨vp,vr,vk,q1,q2,q3,q4,fun _=>rfl,q6,q7,q8,q9⟩⟩ (by simp[Act.put,hpre,q2])
    ·have l5:=hpre
     obtain⟨vp,vr,vk,q1,q2,q3,q4,q5,q6,q7,q8,q9⟩:=HR.o.yes l5
     simp only[q2]
     go_simp
     exact hK vk _ _ Ac Ac ⟨fun h=>absurd (l5.symm.trans h) (by decide),fun _=>⟨vp,vr,vk,q1,q2,q3,q4,q5,fun _=>rfl,q7,q8,q9⟩⟩ (by simp[Act.put,hpre,q2])
    ·have l6:=hpre.1
     have l5:L 5=true:=Jx (Ax Hdep.o 6 5 rfl) l6
     obtain⟨vp,vr,vk,q1,q2,q3,q4,q5,q6,q7,q8,q9⟩:=HR.o.yes l5
     go_simp
     exact hK (U 6) _ _ Ac Ac ⟨fun h=>absurd (l5.symm.trans h) (by decide),fun _=>⟨vp,vr,vk,q1,q2,q3,q4,q5,q6,fun _=>q4 l6,q8,q9⟩⟩ (by simp[Act.put,hpre,q2,q4,q5,q6,q7,q8,q9,l6])
    ·have l7:=hpre.1
     have l5:L 5=true:=Jx (Ax Hdep.o 7 5 rfl) l7
     obtain⟨vp,vr,vk,q1,q2,q3,q4,q5,q6,q7,q8,q9⟩:=HR.o.yes l5
     go_simp
     exact hK (U 7) _ _ Ac Ac ⟨fun h=>absurd (l5.symm.trans h) (by decide),fun _=>⟨vp,vr,vk,q1,q2,q3,q4,q5,q6,q7,fun _=>q5 l7,q9⟩⟩ (by simp[Act.put,hpre,q2,q4,q5,q6,q7,q8,q9,l7])
    ·have l8:=hpre.1
     have l5:L 5=true:=Jx (Ax Hdep.o 8 5 rfl) l8
     obtain⟨vp,vr,vk,q1,q2,q3,q4,q5,q6,q7,q8,q9⟩:=HR.o.yes l5
     go_simp
     exact hK (U 8) _ _ Ac Ac ⟨fun h=>absurd (l5.symm.trans h) (by decide),fun _=>⟨vp,vr,vk,q1,q2,q3,q4,q5,q6,q7,q8,fun _=>q6 l8⟩⟩ (by simp[Act.put,hpre,q2,q4,q5,q6,q7,q8,q9,l8])
   rintro L U W hL hφ hR
   clear hφ
   obtain⟨vp,vr,vk,hq5,_,_,_,_,_,q7,q8,q9⟩:=hR.yes (hL 5 (by decide))
   have u11:=q7 (hL 9 (by decide))
   have u12:=q8 (hL 10 (by decide))
   have u13:=q9 (hL 11 (by decide))
   simp only[u11,u12,u13]
   have Hq5:=Aa hq5
   clear hR hL q7 q8 q9 u11 u12 u13 hq5
   go_wp2_with fail
   refine bodyPost_ret (v:=.tuple #[vp,vr,vk]) (by simp[results,results43,go_sem]) rfl ?_
   exact Hq5.o.post ((Aq _ _).alloc (Ap _) _).drew
  have HN:=Aa (HN.o (Di hc z))
  have hcn:((c.toNat:Int) != 91)=true:=by have:=Am hc;simpa using this
  clear hc
  go_enter func43,ntmps43
  go_wp2_with fail
  refine bodyPost_ret (v:=.tuple #[.pointer none,.string ⟨(c::z:List UInt8).toArray⟩,.bool false]) (by simp[results,results43,go_sem]) rfl ?_
  exact Bl.no HN.o rfl ((Aq _ _).alloc (Ap _) _)
end
end Go.Proofs.YtkgkoicedddkmaaGreatDoor
