/- Texts joined. Conditions: as each theorem names them. -/
import Derived.Deep.CutRange
import Derived.Deep.DeepCutAuto
import Derived.Test.YtkigmebejmmikaaGreatDoorQ10
import Derived.Test.YtkigmebejmmikaaGreatDoorQ21
import Derived.Test.YtkigmebejmmikaaGreatDoorQ24
set_option maxRecDepth 100000
set_option maxHeartbeats 32000000
set_option linter.unusedVariables false
set_option linter.unusedSimpArgs false
namespace Go.Proofs.YtkigmebejmmikaaGreatDoor
open Go.RowKit Go.Proofs.Tryz
section
attribute [local go_sem] Qja Qit Qib Qgw ByteArray.mk_append_mk
structure Gc(Q:World->Value->Value->Value->Prop)(w1:World)(c m x y z a b e:Bool)(uc um ux uy uz ua ub ue:Value)(W:World):Prop where
 no:c=false->W=w1
 yes:c=true->∃vp vr vk,Q W vp vr vk/\uc=.tuple #[vp,vr,vk]/\(m=true->um=.tuple #[vp,vr,vk])/\(x=true->ux=vp)/\(y=true->uy=vr)/\(z=true->uz=vk)/\(a=true->ua=vp)/\(b=true->ub=vr)/\(e=true->ue=vk)
def SrQ(w1:World)(S:List Ty)(k:Kd)(o:Option (Vl × List UInt8))(W:World)(vp vr vk:Value):Prop:=
 Below w1.heap.size w1 W/\match o with
  |some x=>(∃b,vp=.pointer (some ⟨b,0,none⟩)/\Ga (fun c=>w1.heap.size<=c) W b (Cq S k x.1))/\vr=.string ⟨x.2.toArray⟩/\vk=.bool true
  |none=>(∃q,vp=.pointer q)/\(∃r,vr=.string r)/\vk=.bool false
theorem Bj.q{S:List Ty}{k:Kd}{o:Option (Vl × List UInt8)}{w w':World}{e:Ending}(h:Bj S k o w e w'):∃vp vr vk,e=.returned (.tuple #[vp,vr,vk])/\SrQ w S k o w' vp vr vk:=by
 obtain⟨h,hb⟩:=h
 cases o with
 |none=>obtain⟨q,r,rfl⟩:=h;exact⟨_,_,_,rfl,hb,⟨q,rfl⟩,⟨r,rfl⟩,rfl⟩
 |some x=>obtain⟨b,rfl,hs⟩:=h;exact⟨_,_,_,rfl,hb,⟨b,rfl,hs⟩,rfl,rfl⟩
def SrC(w0:World)(S:List Ty)(xv:Value)(k:Kd)(d:Nat):Prop:=∀(s:List UInt8) (W:World),Below w0.heap.size w0 W->s.length<=1000000 ->
 Calls prog 30 #[.agg #[xv],.string ⟨s.toArray⟩,.string ⟨(Bq k).toArray⟩,.int .i64 (d:Int)] W (Bj S k (Ai S 20 d k s) W)
def Qdo(K:List UInt8->Option (Vl × List UInt8))(s:List UInt8):Option (Vl × List UInt8):=match Am 93 s with
 |some z=>some (.mk 91 [] 0 [],z)
 |none=>match Cn K 20 s with|some (vs,z)=>some (.mk 91 [] 0 vs,z)|none=>none
structure Qiw(w:World)(xv h0 h1:Value)(S:List Ty)(k:Kd)(K:List UInt8->Option (Vl × List UInt8))(s:List UInt8)(wr:World)(v:Value)(xs:List (Nat × SV))(vs:List Vl)(tt:List UInt8):Prop where
 bel:Below w.heap.size w wr
 st:M5 (w.heap.size+2) (w.heap.size+1) wr h0 h1 (.slice none 0 0) (.slice none 0 0) v v [] xs
 box:wr.cell? ⟨w.heap.size,0,none⟩=some xv
 len:xs.length=vs.length
 eq:xs.map (·.2)=vs.map (Cq S k.part)
 it:Cn K 20 s=P2 vs (Cn K (20 - vs.length) tt)
 le:tt.length<=s.length
theorem Qc3(w0:World)(S:List Ty)(xv:Value)(hxv:xv.oneCell'=true)(k:Kd)(sg:List UInt8)(hsg:k.signs=91::sg)(hkl:(Bq k).length<=100)(d:Nat)(hd:d<=1000)(s:List UInt8)(w:World)(hw:Below w0.heap.size w0 w)(hs:s.length<=1000000)
  (H:SrC w0 S xv k.part d) (HG:∀s v r,Ai S 20 d k.part s=some (v,r)->s=Az v++r) (q:Option (Vl × List UInt8)) (hq:q=Qdo (Ai S 20 d k.part) s):
  Calls prog 66 #[.agg #[xv],.string ⟨s.toArray⟩,.string ⟨(Bq k).toArray⟩,.int .i64 ((d+1:Nat):Int)] w (Bj S k q w):=by
 have hkp:Bq k=91::Bq k.part:=by unfold Bq Kd.part;rw[hsg];rfl
 have HQ:=Aa hq
 have HH:=Aa H
 have HG:=Aa HG
 have HW:=Aa hw
 have Hsv:=Aa (fun ks=>hkp ▸ Sv S k ks)
 have hkl2:(Bq k.part).length<=100:=by rw[hkp]at hkl;simp at hkl;omega
 rw[hkp]
 generalize hkk:Bq k.part=kp at *
 have Hkk:=Aa hkk
 have ed:(((d+1:Nat):Int)) - 1=(d:Int):=by omega
 have ed2:(((d+1:Nat):Int))<=1001:=by omega
 have ed3:(0:Int)<=(((d+1:Nat):Int)):=by omega
 generalize (((d+1:Nat):Int))=dd at *
 clear H hw hq hkp hkl hkk hsg
 by_cases h93:∃z,s=93::z
 ·obtain⟨z,rfl⟩:=h93
  go_enter func66,ntmps66
  go_wp2_with fail
  go_quiet (fail)
  go_wp2_with fail
  refine bodyPost_ret (v:=.tuple #[.pointer (some ⟨w.heap.size+1,0,none⟩),.string ⟨z.toArray⟩,.bool true]) (by simp[results,results66,go_sem]) rfl ?_
  rw[HQ.o,show Qdo (Ai S 20 d k.part) (93::z)=some (.mk 91 [] 0 [],z)from by simp[Qdo,Am]]
  have hl:=Ga.leaf (P:=fun c=>w.heap.size<=c) (w:=w.alloc (.cells #[xv] 35)) (kind:=91::kp) (text:=[]) (T:=68) (by simp)
  refine⟨⟨w.heap.size+1,rfl,?_⟩,below_drewN (((As w.heap.size w).alloc (Ap _) _).alloc (by simp) _) _⟩
  rw[Hsv.o]
  have hl2:Ga (fun c=>w.heap.size<=c) ((w.alloc (.cells #[xv] 35)).alloc (.cells #[.string ⟨(91::kp:List UInt8).toArray⟩,.string ⟨#[]⟩,.slice none 0 0,.slice none 0 0] 68)) (w.heap.size+1) (.mk (91::kp) [] [] []):=by simpa using hl
  exact hl2.after (below_drewN (As _ _) _)
 have hne:Am 93 s=none:=by
  cases s with
  |nil=>rfl
  |cons c z=>exact Df (fun e=>h93 ⟨z,by rw[e]⟩) z
 have HQ2:=Aa (show q=match Cn (Ai S 20 d k.part) 20 s with|some (vs,z)=>some (.mk 91 [] 0 vs,z)|none=>none from by rw[HQ.o];unfold Qdo;rw[hne])
 have Hst:=Aa (show M5 (w.heap.size+2) (w.heap.size+1) ((w.alloc (.cells #[xv] 35)).alloc (.cells #[.string ⟨(91::kp:List UInt8).toArray⟩,.string ⟨#[]⟩,.slice none 0 0,.slice none 0 0] 68)) (.string ⟨(91::kp:List UInt8).toArray⟩) (.string ⟨#[]⟩) (.slice none 0 0) (.slice none 0 0) (.slice none 0 0) (.slice none 0 0) [] []from by
  have:=M5.new (W:=w.alloc (.cells #[xv] 35)) (T:=68) (.string ⟨(91::kp:List UInt8).toArray⟩) (.string ⟨#[]⟩)
  simpa using this)
 have hc0:s≠[]->∀h,((s[0]'h).toNat:Int)≠93:=by
  intro hn h e
  cases s with
  |nil=>exact hn rfl
  | cons c z => exact h93 ⟨z, by have:c=93:=by apply UInt8.toNat_inj.1;simpa using(by exact_mod_cast e:c.toNat=93)
                                 rw[this]⟩
 clear h93 hne
 obtain⟨W1,hW1⟩:∃W1,W1=(w.alloc (.cells #[xv] 35)).alloc (.cells #[.string ⟨(91::kp:List UInt8).toArray⟩,.string ⟨#[]⟩,.slice none 0 0,.slice none 0 0] 68):=⟨_,rfl⟩
 have Hb1:=Aa (show Below w.heap.size w W1 from by rw[hW1];exact((As w.heap.size w).alloc (Ap _) _).alloc (by simp) _)
 have Hx1:=Aa (show W1.cell? ⟨w.heap.size,0,none⟩=some xv from by rw[hW1];go_simp)
 rw[<-hW1]at Hst
 go_enter func66,ntmps66
 go_upto_region 2 with fail
 rw[<-hW1]
 clear hW1
 go_cut [1,24]from 18 to 27 (fun s0 bt wx=>s0=.string ⟨s.toArray⟩/\bt=.bool false/\wx=W1)
 case first=>
  by_cases hs0:s=[]
  ·have he:s.isEmpty=true:=by rw[hs0];rfl
   clear hs0 hc0
   go_wp2_with fail
   go_meet
   exact⟨rfl,rfl,rfl⟩
  ·have he:s.isEmpty=false:=by cases s with|nil=>exact absurd rfl hs0|cons c z=>rfl
   have hs1:0<s.length:=by cases s with|nil=>exact absurd rfl hs0|cons c z=>simp
   have hs2:(((s[0]'hs1).toNat:Int) == 93)=false:=by simpa using hc0 hs0 hs1
   clear hs0 hc0
   go_wp2_with fail
   go_meet
   exact⟨rfl,rfl,rfl⟩
 case rest=>
  clear hc0
  obtain⟨rfl,rfl,rfl⟩:=hcut
  have L0:=Aa (show Qiw w xv (.string ⟨(91::kp:List UInt8).toArray⟩) (.string ⟨#[]⟩) S k (Ai S 20 d k.part) s wc (.slice none 0 0) [] [] s from⟨Hb1.o,Hst.o,Hx1.o,rfl,rfl,by cases h:Cn (Ai S 20 d k.part) 20 s<;>simp[P2,h],Ap _⟩)
  clear Hb1 Hst Hx1
  go_wp2_with fail
  go_loopw [1] (fun s0 wr=>∃(A:Option Addr) (c:Nat) (xs:List (Nat × SV)) (vs:List Vl) (tt:List UInt8),s0=.string ⟨tt.toArray⟩/\tt.length<=s.length/\Hid (Qiw w xv (.string ⟨(91::kp:List UInt8).toArray⟩) (.string ⟨#[]⟩) S k (Ai S 20 d k.part) s wr (.slice A xs.length c) xs vs tt)) (fun s0 _=>Px s0)
  case atStart=>exact⟨none,0,[],[],s,rfl,Ap _,L0.o⟩
  case round=>
   obtain⟨A,c,xs,vs,tt,rfl,htl,HL⟩:=hrel
   have c3:=HL.o.st.c3
   have c0:=HL.o.box
   have hlt:=HL.o.st.lt
   by_cases h20:xs.length<20
   ·have t20:decide ((xs.length:Int)<20)=true:=decide_eq_true (by omega)
    have HC:=Aa (show ∀W,Below w0.heap.size w0 W->Calls prog 30 #[.agg #[xv],.string ⟨tt.toArray⟩,.string ⟨kp.toArray⟩,.int .i64 (d:Int)] W (Bj S k.part (Ai S 20 d k.part tt) W)from fun W hW=>by have:=HH.o tt W hW (by omega);rw[Hkk.o]at this;exact this)
    have HWr:=Aa (show Below w0.heap.size w0 wr.drew from(HW.o.trans (HL.o.bel.mono HW.o.size)).drew)
    have t20i:(xs.length:Int)<20:=by omega
    have hx20:xs.length<=19:=by omega
    have d1:(0:Int)<=(d:Int):=by omega
    have d2:(d:Int)<=1000:=by omega
    have hwd:IntKind.i64.wrap (d:Int)=(d:Int):=IntWalk.i64_in _ (by omega)
    clear t20 h20
    go_wp2_with fail
    refine P3 [35,36,37,38,39,40,41,34,42,43,44,12,13,14]
     (fun ix v W=>match ix with|0=>v=.agg #[xv]|1=>v=.string ⟨(tt:List UInt8).toArray⟩|2=>v=.string ⟨(91::kp:List UInt8).toArray⟩|3=>v=.string ⟨(kp:List UInt8).toArray⟩|4=>v=.int .i64 dd|5=>v=.int .i64 (d:Int)|_=>True)
     (fun L U W=>Gc (SrQ wr.drew S k.part (Ai S 20 d k.part tt)) wr.drew (L 6) (L 7) (L 8) (L 9) (L 10) (L 11) (L 12) (L 13) (U 6) (U 7) (U 8) (U 9) (U 10) (U 11) (U 12) (U 13) W) (⟨fun _=>rfl,fun h=>Bool.noConfusion h⟩) ?_ ?_
    ·repeat (first|exact Aq.nil|(refine Aq.cons ?_ ?_;rotate_left))
     all_goals
      rintro L U W hL hpre HR Hdep K hK
      first|(simp[Region.binds]at hpre;done)|simp[Region.binds]at hpre|clear hpre
     ·have h6:L 6=false:=Bz Hdep.o 6 0 rfl hL
      have hW:=HR.o.no h6
      subst hW
      go_simp
      first|exact hK _ _ _ rfl Ab HR.o rfl|exact kE hK HR.o
     iterate 2
      ·go_simp
       first|exact hK _ _ _ rfl Ab HR.o rfl|exact kE hK HR.o|exact hK undef _ _ Ab Ab HR.o (by simp[Act.put,hpre])|exact hK _ _ _ Ab Ab HR.o rfl|exact kE hK HR.o
     ·go_simp
      rw[if_pos (by omega)]
      go_simp
      exact hK (.string ⟨kp.toArray⟩) _ _ rfl Ab HR.o (by simp[Act.put,hpre])
     ·go_simp
      first|exact hK _ _ _ rfl Ab HR.o rfl|exact kE hK HR.o|exact hK undef _ _ Ab Ab HR.o (by simp[Act.put,hpre])|exact hK _ _ _ Ab Ab HR.o rfl|exact kE hK HR.o
     ·go_simp
      exact hK (.int .i64 (d:Int)) _ _ rfl Ab HR.o (by simp[Act.put,hpre,hwd])
     ·have h7:L 7=false:=Bz Hdep.o 7 6 rfl hL
      have h8:L 8=false:=Bz Hdep.o 8 7 rfl h7
      have h9:L 9=false:=Bz Hdep.o 9 7 rfl h7
      have h10:L 10=false:=Bz Hdep.o 10 7 rfl h7
      have h11:L 11=false:=Bz Hdep.o 11 8 rfl h8
      have h12:L 12=false:=Bz Hdep.o 12 9 rfl h9
      have h13:L 13=false:=Bz Hdep.o 13 10 rfl h10
      have hW:=HR.o.no hL
      subst hW
      go_simp
      refine(HC.o _ HWr.o).mono ?_
      rintro e w5 hp
      obtain⟨vp,vr,vk,rfl,hq5⟩:=hp.q
      go_simp
      refine hK (.tuple #[vp,vr,vk]) _ _ Ab Ab ⟨fun h=>by simp at h,fun _=>⟨vp,vr,vk,hq5,rfl,?_,?_,?_,?_,?_,?_,?_⟩⟩ (by simp[Act.put,hpre])
      all_goals (intro h;simp_all)
     ·have l6:=hpre
      obtain⟨vp,vr,vk,q1,q2,q3,q4,q5,q6,q7,q8,q9⟩:=HR.o.yes l6
      go_simp
      exact hK (U 6) _ _ Ab Ab ⟨fun h=>absurd (l6.symm.trans h) (by decide),fun _=>⟨vp,vr,vk,q1,q2,fun _=>q2,q4,q5,q6,q7,q8,q9⟩⟩ (by simp[Act.put,hpre,q2])
     ·have l7:=hpre
      have l6:L 6=true:=Mz (Bz Hdep.o 7 6 rfl) l7
      obtain⟨vp,vr,vk,q1,q2,q3,q4,q5,q6,q7,q8,q9⟩:=HR.o.yes l6
      have u7:=q3 l7
      simp only[u7]
      go_simp
      exact hK vp _ _ Ab Ab ⟨fun h=>absurd (l6.symm.trans h) (by decide),fun _=>⟨vp,vr,vk,q1,q2,q3,fun _=>rfl,q5,q6,q7,q8,q9⟩⟩ (by simp[Act.put,hpre,u7,q2])
     ·have l7:=hpre
      have l6:L 6=true:=Mz (Bz Hdep.o 7 6 rfl) l7
      obtain⟨vp,vr,vk,q1,q2,q3,q4,q5,q6,q7,q8,q9⟩:=HR.o.yes l6
      have u7:=q3 l7
      simp only[u7]
      go_simp
      exact hK vr _ _ Ab Ab ⟨fun h=>absurd (l6.symm.trans h) (by decide),fun _=>⟨vp,vr,vk,q1,q2,q3,q4,fun _=>rfl,q6,q7,q8,q9⟩⟩ (by simp[Act.put,hpre,u7,q2])
     ·have l7:=hpre
      have l6:L 6=true:=Mz (Bz Hdep.o 7 6 rfl) l7
      obtain⟨vp,vr,vk,q1,q2,q3,q4,q5,q6,q7,q8,q9⟩:=HR.o.yes l6
      have u7:=q3 l7
      simp only[u7]
      go_simp
      exact hK vk _ _ Ab Ab ⟨fun h=>absurd (l6.symm.trans h) (by decide),fun _=>⟨vp,vr,vk,q1,q2,q3,q4,q5,fun _=>rfl,q7,q8,q9⟩⟩ (by simp[Act.put,hpre,u7,q2])
     ·have l8:=hpre.1
      have l7:L 7=true:=Mz (Bz Hdep.o 8 7 rfl) l8
      have l6:L 6=true:=Mz (Bz Hdep.o 7 6 rfl) l7
      obtain⟨vp,vr,vk,q1,q2,q3,q4,q5,q6,q7,q8,q9⟩:=HR.o.yes l6
      go_simp
      exact hK (U 8) _ _ Ab Ab ⟨fun h=>absurd (l6.symm.trans h) (by decide),fun _=>⟨vp,vr,vk,q1,q2,q3,q4,q5,q6,fun _=>q4 l8,q8,q9⟩⟩ (by simp[Act.put,hpre,q2,q3 l7,q4,q5,q6,q7,q8,q9,l8])
     ·have l9:=hpre.1
      have l7:L 7=true:=Mz (Bz Hdep.o 9 7 rfl) l9
      have l6:L 6=true:=Mz (Bz Hdep.o 7 6 rfl) l7
      obtain⟨vp,vr,vk,q1,q2,q3,q4,q5,q6,q7,q8,q9⟩:=HR.o.yes l6
      go_simp
      exact hK (U 9) _ _ Ab Ab ⟨fun h=>absurd (l6.symm.trans h) (by decide),fun _=>⟨vp,vr,vk,q1,q2,q3,q4,q5,q6,q7,fun _=>q5 l9,q9⟩⟩ (by simp[Act.put,hpre,q2,q3 l7,q4,q5,q6,q7,q8,q9,l9])
     ·have l10:=hpre.1
      have l7:L 7=true:=Mz (Bz Hdep.o 10 7 rfl) l10
      have l6:L 6=true:=Mz (Bz Hdep.o 7 6 rfl) l7
      obtain⟨vp,vr,vk,q1,q2,q3,q4,q5,q6,q7,q8,q9⟩:=HR.o.yes l6
      go_simp
      exact hK (U 10) _ _ Ab Ab ⟨fun h=>absurd (l6.symm.trans h) (by decide),fun _=>⟨vp,vr,vk,q1,q2,q3,q4,q5,q6,q7,q8,fun _=>q6 l10⟩⟩ (by simp[Act.put,hpre,q2,q3 l7,q4,q5,q6,q7,q8,q9,l10])
    rintro L U W hL hφ hR
    clear hφ
    obtain⟨vp,vr,vk,hq5,_,_,_,_,_,q7,q8,q9⟩:=hR.yes (hL 6 (by decide))
    have u11:=q7 (hL 11 (by decide))
    have u12:=q8 (hL 12 (by decide))
    have u13:=q9 (hL 13 (by decide))
    simp only[u11,u12,u13]
    clear hR hL q7 q8 q9 u11 u12 u13
    obtain⟨hb5,hm⟩:=hq5
    have HB5:=Aa (show Below wr.heap.size wr W from(As _ _).drew.trans hb5)
    have HS5:=Aa (HL.o.st.after HB5.o)
    have Hw5:=Aa (HL.o.bel.trans (HB5.o.mono HL.o.bel.size))
    have Hx5:=Aa (show W.cell? ⟨w.heap.size,0,none⟩=some xv from(HB5.o.cell (p:=⟨w.heap.size,0,none⟩) (by show w.heap.size<wr.heap.size;omega)).trans c0)
    have hz5:=hb5.size
    have Hit:=Aa (show Cn (Ai S 20 d k.part) 20 s=P2 vs (Cn (Ai S 20 d k.part) (19 - vs.length+1) tt)from by rw[HL.o.it];congr 2;have:=HL.o.len;omega)
    clear c3 c0 hb5
    cases hk:Ai S 20 d k.part tt with
    |none=>
     rw[hk]at hm
     obtain⟨⟨q0,rfl⟩,⟨r0,rfl⟩,rfl⟩:=hm
     have HN:=Aa (show q=none from by rw[HQ2.o,Hit.o];unfold Cn;rw[hk];simp[P2])
     clear hk
     go_wp2_with fail
     refine bodyPost_ret (v:=.tuple #[.pointer none,.string ⟨tt.toArray⟩,.bool false]) (by simp[results,results66,go_sem]) rfl ?_
     exact Bj.no HN.o rfl Hw5.o
    |some y=>
     obtain⟨v,r⟩:=y
     rw[hk]at hm
     obtain⟨⟨b,rfl,hsv⟩,rfl,rfl⟩:=hm
     have hrl:r.length<=tt.length:=by rw[HG.o tt v r hk];simp
     have Hsv5:=Aa (show Ga (fun c1=>w.heap.size+2<=c1/\(Value.slice A xs.length c).ownBlock≠some c1/\(Value.slice none 0 0).ownBlock≠some c1) W b (Cq S k.part v)from by
      refine hsv.mono fun c1 hc _=>⟨Nat.le_trans HL.o.st.bs hc,fun e=>?_,by simp[Value.ownBlock]⟩
      have h1:=(HL.o.st.row.lt c1 e).2
      have h2:wr.heap.size<=c1:=hc
      omega)
     have HI:=Aa (show Cn (Ai S 20 d k.part) 20 s=P2 vs (match Am 44 r with|some q=>(match Cn (Ai S 20 d k.part) (19 - vs.length) q with|some (vs,z)=>some (v::vs,z)|none=>none)|none=>match Am 93 r with|some q=>some ([v],q)|none=>none)from by rw[Hit.o];simp only[Cn,hk];rfl)
     clear hk hsv
     cases r with
     |nil=>
      have HN:=Aa (show q=none from by rw[HQ2.o,HI.o];simp[Am,P2])
      go_wp2_with fail
      refine bodyPost_ret (v:=.tuple #[.pointer none,.string ⟨tt.toArray⟩,.bool false]) (by simp[results,results66,go_sem]) rfl ?_
      exact Bj.no HN.o rfl Hw5.o
     |cons c9 z=>
      by_cases h44:c9=44
      ·have HSV:=Hsv5
       clear Hsv5
       subst h44
       have h9:((((44:UInt8).toNat:Nat):Int) != 44)=false:=rfl
       have h8:((((44:UInt8).toNat:Nat):Int) == 93)=false:=rfl
       have s3:=HS5.o.c3
       have s4:=HS5.o.lt
       go_wp2_with (at_builtin;go_loud (refine Jq _ rfl _ _ 66 rfl (w.heap.size+2) 31 (.pointer none) 8 underlying66 Qbz rfl W (.pointer (some ⟨b,0,none⟩)) rfl rfl (.slice A xs.length c) xs.length (Ep (xs.map (·.1))) rfl rfl HS5.o.row (by unfold maxLen;omega) (by omega) HS5.o.bs ?_;intro v6 w6 hown6 hg6 hwh6;obtain⟨A6,c6,e6,hS6,hb6⟩:=HS5.o.push (x:=(b,Cq S k.part v)) HSV.o hown6 hg6 hwh6;subst e6;have HS6:=Aa hS6;have HB6:=Aa hb6;have p3:=hS6.c3;have f3:=hS6.bk.live 3;have hz6:=hS6.lt;clear hS6 hb6 hown6 hg6 hwh6))
       have hw6:=HB6.o.mono (show w.heap.size<=w.heap.size+2 by omega)
       have Hbel:=Aa ((Hw5.o.trans hw6).setCell (p:=⟨w.heap.size+1,3,none⟩) (show w.heap.size<=w.heap.size+1 by omega) (.slice A6 (xs++[(b,Cq S k.part v)]).length c6))
       have Hst7:=Aa HS6.o.set3
       have Hbx7:=Aa ((Bc w6 (w.heap.size+1) 3 (.slice A6 (xs++[(b,Cq S k.part v)]).length c6)).cell ((HB6.o.cell (p:=⟨w.heap.size,0,none⟩) (show w.heap.size<w.heap.size+2 by omega)).trans Hx5.o) (by simp))
       have Heq7:=Aa (show (xs++[(b,Cq S k.part v)]).map (·.2)=(vs++[v]).map (Cq S k.part)from by simp[HL.o.eq])
       have el:(xs++[(b,Cq S k.part v)]).length=xs.length+1:=by simp
       rw[el]at Hbel Hst7 Hbx7
       have Hit7:=Aa (show Cn (Ai S 20 d k.part) 20 s=P2 (vs++[v]) (Cn (Ai S 20 d k.part) (20 - (vs++[v]).length) z)from by
        rw[HI.o,show 20 - (vs++[v]).length=19 - vs.length by simp]
        simp only[Am,if_true]
        cases Cn (Ai S 20 d k.part) (19 - vs.length) z<;>simp[P2])
       have Hlen7:=Aa (show (xs++[(b,Cq S k.part v)]).length=(vs++[v]).length from by simp[HL.o.len])
       go_roundw
       case rel=>exact⟨A6,c6,_,vs++[v],z,rfl,by simp at hrl;omega,⟨Hbel.o,by rw[el];exact Hst7.o,Hbx7.o,Hlen7.o,Heq7.o,Hit7.o,by simp at hrl;omega⟩⟩
       case measure=>simp[Px,ByteArray.size]at hrl ⊢;omega
      by_cases h93:c9=93
      ·have HSV:=Hsv5
       clear Hsv5
       subst h93
       have h9:((((93:UInt8).toNat:Nat):Int) != 44)=true:=rfl
       have h7:((((93:UInt8).toNat:Nat):Int) != 93)=false:=rfl
       have h8:((((93:UInt8).toNat:Nat):Int) == 93)=true:=rfl
       have s3:=HS5.o.c3
       have s4:=HS5.o.lt
       clear h44
       go_wp2_with (at_builtin;go_loud (refine Jq _ rfl _ _ 66 rfl (w.heap.size+2) 31 (.pointer none) 8 underlying66 Qbz rfl W (.pointer (some ⟨b,0,none⟩)) rfl rfl (.slice A xs.length c) xs.length (Ep (xs.map (·.1))) rfl rfl HS5.o.row (by unfold maxLen;omega) (by omega) HS5.o.bs ?_;intro v6 w6 hown6 hg6 hwh6;obtain⟨A6,c6,e6,hS6,hb6⟩:=HS5.o.push (x:=(b,Cq S k.part v)) HSV.o hown6 hg6 hwh6;subst e6;have HS6:=Aa hS6;have HB6:=Aa hb6;have p3:=hS6.c3;have f3:=hS6.bk.live 3;have hz6:=hS6.lt;clear hS6 hb6 hown6 hg6 hwh6))
       have hw6:=HB6.o.mono (show w.heap.size<=w.heap.size+2 by omega)
       have Hbel:=Aa ((Hw5.o.trans hw6).setCell (p:=⟨w.heap.size+1,3,none⟩) (show w.heap.size<=w.heap.size+1 by omega) (.slice A6 (xs++[(b,Cq S k.part v)]).length c6))
       have Hst7:=Aa HS6.o.set3
       have Hbx7:=Aa ((Bc w6 (w.heap.size+1) 3 (.slice A6 (xs++[(b,Cq S k.part v)]).length c6)).cell ((HB6.o.cell (p:=⟨w.heap.size,0,none⟩) (show w.heap.size<w.heap.size+2 by omega)).trans Hx5.o) (by simp))
       have Heq7:=Aa (show (xs++[(b,Cq S k.part v)]).map (·.2)=(vs++[v]).map (Cq S k.part)from by simp[HL.o.eq])
       have el:(xs++[(b,Cq S k.part v)]).length=xs.length+1:=by simp
       rw[el]at Hbel Hst7 Hbx7
       have HY:=Aa (show q=some (.mk 91 [] 0 (vs++[v]),z)from by rw[HQ2.o,HI.o];simp[Am,P2])
       refine bodyPost_ret (v:=.tuple #[.pointer (some ⟨w.heap.size+1,0,none⟩),.string ⟨z.toArray⟩,.bool true]) (by simp[results,results66,go_sem]) rfl ?_
       rw[HY.o]
       refine⟨⟨w.heap.size+1,rfl,?_⟩,Hbel.o⟩
       rw[Hsv.o,<-Heq7.o]
       have hd:=Hst7.o.done (kind:=91::kp) (text:=[]) (by simp) (by simp;omega)
       exact hd.mono fun c1 hc _=>by have:w.heap.size+1<=c1:=hc;show w.heap.size<=c1;omega
      have HN:=Aa (show q=none from by rw[HQ2.o,HI.o];simp[Am,P2,h44,h93])
      have t44:((c9.toNat:Int) != 44)=true:=by have:=An h44;simpa using this
      have t93:((c9.toNat:Int) != 93)=true:=by have:=An h93;simpa using this
      clear h44 h93
      go_wp2_with fail
      refine bodyPost_ret (v:=.tuple #[.pointer none,.string ⟨tt.toArray⟩,.bool false]) (by simp[results,results66,go_sem]) rfl ?_
      exact Bj.no HN.o rfl Hw5.o
   ·have t20:decide ((xs.length:Int)<20)=false:=decide_eq_false (by omega)
    go_wp2_with fail
    refine bodyPost_ret (v:=.tuple #[.pointer none,.string ⟨tt.toArray⟩,.bool false]) (by simp[results,results66,go_sem]) rfl ?_
    refine Bj.no ?_ rfl HL.o.bel
    have h0:=HL.o.it
    rw[show 20 - vs.length=0 by have:=HL.o.len;omega]at h0
    rw[HQ2.o,h0]
    simp[Cn,P2]
theorem SrQ.post{S:List Ty}{k:Kd}{o:Option (Vl × List UInt8)}{w w1 w':World}{vp vr vk:Value}(hb:Below w.heap.size w w1)(h:SrQ w1 S k o w' vp vr vk):Bj S k o w (.returned (.tuple #[vp,vr,vk])) w':=by
 obtain⟨h1,h2⟩:=h
 refine⟨?_,hb.trans (h1.mono hb.size)⟩
 cases o with
 |none=>obtain⟨⟨q,rfl⟩,⟨r,rfl⟩,rfl⟩:=h2;exact⟨q,r,rfl⟩
 |some x=>obtain⟨⟨b,rfl,hs⟩,rfl,rfl⟩:=h2;exact⟨b,rfl,hs.mono fun c hc _=>Nat.le_trans hb.size hc⟩
theorem Qc8(S:List Ty)(m d:Nat)(k:Kd)(hs0:k.signs=[])(hb:k.base=[110]\/k.base=[116]\/k.base=[102]):Ai S m (d+1) k []=none:=by
 unfold Ai
 rw[hs0]
 rcases hb with hb|hb|hb<;>rw[hb]<;>rfl
theorem Z7(S:List Ty)(xv:Value)(hxv:xv.oneCell'=true)(k:Kd)(hs0:k.signs=[])(hb:k.base=[110]\/k.base=[116]\/k.base=[102])(d:Nat)(hd:d<=1000)(s:List UInt8)(w:World)(hs:s.length<=1000000):
  Calls prog 30 #[.agg #[xv],.string ⟨s.toArray⟩,.string ⟨(Bq k).toArray⟩,.int .i64 ((d+1:Nat):Int)] w (Bj S k (Ai S 20 (d+1) k s) w):=by
 have HN:=Aa (Qc8 S 20 d k hs0 hb)
 have d1:¬((((d+1:Nat):Int))<1):=by omega
 have d2:(((d+1:Nat):Int))<=1001:=by omega
 by_cases hne:s=[]
 ·subst hne
  generalize hq:Ai S 20 (d+1) k []=q at *
  have hk2:∃kb:List UInt8,kb.length<=20/\Bq k=kb:=⟨_,by
   have:Bq k=k.base:=by unfold Bq Ce;rw[hs0];rcases hb with hb|hb|hb<;>rw[hb]<;>rfl
   rw[this];rcases hb with hb|hb|hb<;>rw[hb]<;>decide,rfl⟩
  obtain⟨kb,hkl,hkb⟩:=hk2
  rw[hkb]
  generalize (((d+1:Nat):Int))=dd at *
  clear hq hb hs0 hkb
  go_enter func30,ntmps30
  go_wp2_with fail
  refine bodyPost_ret (v:=.tuple #[.pointer none,.string ⟨#[]⟩,.bool false]) (by simp[results,results30,go_sem]) rfl ?_
  exact Bj.no HN.o rfl ((As _ _).alloc (Ap _) _)
 have he:s.isEmpty=false:=by cases s with|nil=>exact absurd rfl hne|cons c z=>rfl
 have HP:∀W,Calls prog 50 #[.agg #[xv],.string ⟨s.toArray⟩,.string ⟨(Bq k).toArray⟩] W (Bj S k (Ai S 20 (d+1) k s) W):=by
  intro W
  rcases hb with hb|hb|hb
  ·have hk:Bq k=[110]:=by unfold Bq Ce;rw[hs0,hb];rfl
   rw[hk]
   exact Qes S xv hxv s k hs0 hb W (by omega) _ (by unfold Ai;rw[hs0,hb];rfl)
  ·have hk:Bq k=[116]:=by unfold Bq Ce;rw[hs0,hb];rfl
   rw[hk]
   exact Qf4 S xv hxv s k hs0 hb W (by omega) hne _ (by unfold Ai;rw[hs0,hb];rfl)
  have hk:Bq k=[102]:=by unfold Bq Ce;rw[hs0,hb];rfl
  rw[hk]
  exact Qff S xv hxv s k hs0 hb W (by omega) _ (by unfold Ai;rw[hs0,hb];rfl)
 have hk2:∃kb:UInt8,(kb=110\/kb=116\/kb=102)/\Bq k=[kb]:=by
  rcases hb with hb|hb|hb
  ·exact⟨110,.inl rfl,by unfold Bq Ce;rw[hs0,hb];rfl⟩
  ·exact⟨116,.inr (.inl rfl),by unfold Bq Ce;rw[hs0,hb];rfl⟩
  exact⟨102,.inr (.inr rfl),by unfold Bq Ce;rw[hs0,hb];rfl⟩
 obtain⟨kb,hkl,hkb⟩:=hk2
 rw[hkb]at HP ⊢
 generalize hq:Ai S 20 (d+1) k s=q at *
 generalize (((d+1:Nat):Int))=dd at *
 have HP:=Aa HP
 clear hq hb hs0 hkb hne
 rcases hkl with rfl|rfl|rfl<;>
 ·go_enter func30,ntmps30
  go_wp2_with fail
  refine(HP.o _).mono ?_
  rintro e w5 hp
  obtain⟨vp,vr,vk,rfl,hq5⟩:=hp.q
  have Hq5:=Aa hq5
  clear hq5 hp
  go_wp2_with fail
  refine bodyPost_ret (v:=.tuple #[vp,vr,vk]) (by simp[results,results30,go_sem]) rfl ?_
  exact Hq5.o.post ((As _ _).alloc (Ap _) _)
theorem Ss(K:List UInt8->Option (Vl × List UInt8)):∀(m:Nat) (s:List UInt8) (vs:List Vl) (q:List UInt8),Cn K m s=some (vs,q)->vs.length<=m
 |0,s,vs,q,h=>by simp[Cn]at h
 |m+1,s,vs,q,h=>by
  unfold Cn at h
  cases hk:K s with
  |none=>rw[hk]at h;cases h
  |some y=>
   rw[hk]at h
   simp only at h
   cases h1:Am 44 y.2 with
   |some z=>
    rw[h1]at h
    simp only at h
    cases h2:Cn K m z with
    |none=>rw[h2]at h;cases h
    |some x=>
     rw[h2]at h
     injection h with h
     injection h with h _
     have:=Ss K m z x.1 x.2 h2
     rw[<-h];simp;omega
   |none=>
    rw[h1]at h
    simp only at h
    cases h2:Am 93 y.2 with
    |none=>rw[h2]at h;cases h
    |some z=>rw[h2]at h;injection h with h;injection h with h _;rw[<-h];simp
theorem Qc1(K:List UInt8->Option (Vl × List UInt8))(z:List UInt8):Sa K 20 (91::z)=Qdo K z:=by
 unfold Sa Qdo
 rw[Bm]
 simp only
 cases Am 93 z with
 |some q=>rfl
 |none=>
  simp only
  cases h:Cn K 20 z with
  |none=>rfl
  |some x=>simp[Ss K 20 z x.1 x.2 h]
theorem Qdx(w0:World)(S:List Ty)(xv:Value)(hxv:xv.oneCell'=true)(k:Kd)(sg:List UInt8)(hsg:k.signs=91::sg)(hkl:(Bq k).length<=100)(d:Nat)(hd:d<=1000)(s:List UInt8)(w:World)(hw:Below w0.heap.size w0 w)(hs:s.length<=1000000)
  (H:SrC w0 S xv k.part d) (HG:∀s v r,Ai S 20 d k.part s=some (v,r)->s=Az v++r):
  Calls prog 30 #[.agg #[xv],.string ⟨s.toArray⟩,.string ⟨(Bq k).toArray⟩,.int .i64 ((d+1:Nat):Int)] w (Bj S k (Ai S 20 (d+1) k s) w):=by
 have hq:Ai S 20 (d+1) k s=Sa (Ai S 20 d k.part) 20 s:=by unfold Ai;rw[hsg];rfl
 have HN:=Aa (show Am 91 s=none->Ai S 20 (d+1) k s=none from fun h=>by rw[hq];unfold Sa;rw[h])
 have HC:=Aa (show ∀z,s=91::z->∀W,Below w0.heap.size w0 W->Calls prog 66 #[.agg #[xv],.string ⟨z.toArray⟩,.string ⟨(Bq k).toArray⟩,.int .i64 ((d+1:Nat):Int)] W (Bj S k (Ai S 20 (d+1) k s) W)from by
  rintro z rfl W hW
  exact Qc3 w0 S xv hxv k sg hsg hkl d hd z W hW (by simp at hs;omega) H HG _ (by rw[hq,Qc1]))
 have hkp:Bq k=91::Bq k.part:=by unfold Bq Kd.part;rw[hsg];rfl
 have d1:¬((((d+1:Nat):Int))<1):=by omega
 have d2:(((d+1:Nat):Int))<=1001:=by omega
 have HW:=Aa (show Below w0.heap.size w0 (w.alloc (.cells #[xv] 35)).drew from(hw.alloc hw.size _).drew)
 rw[hkp]at HC hkl ⊢
 generalize Bq k.part=kp at *
 generalize Ai S 20 (d+1) k s=q at *
 generalize (((d+1:Nat):Int))=dd at *
 have hkl2:kp.length<=100:=by simp at hkl;omega
 clear H HG hq hkp hsg hkl hw hd
 cases s with
 |nil=>
  have HN:=Aa (HN.o rfl)
  go_enter func30,ntmps30
  go_wp2_with fail
  refine bodyPost_ret (v:=.tuple #[.pointer none,.string ⟨#[]⟩,.bool false]) (by simp[results,results30,go_sem]) rfl ?_
  exact Bj.no HN.o rfl ((As _ _).alloc (Ap _) _)
 |cons c z=>
  by_cases hc:c=91
  ·subst hc
   have HC:=Aa (fun W=>HC.o z rfl W)
   go_enter func30,ntmps30
   go_wp2_with fail
   refine P3 [29,30,31,32,33,34,35,36,37,8,9,10]
    (fun ix v W=>match ix with|0=>v=.agg #[xv]|1=>v=.string ⟨(91::z:List UInt8).toArray⟩|2=>v=.string ⟨(z:List UInt8).toArray⟩|3=>v=.string ⟨(91::kp:List UInt8).toArray⟩|4=>v=.int .i64 dd|_=>True)
    (fun L U W=>Gc (SrQ (w.alloc (.cells #[xv] 35)).drew S k q) ((w.alloc (.cells #[xv] 35)).drew) (L 5) (L 5) (L 6) (L 7) (L 8) (L 9) (L 10) (L 11) (U 5) (U 5) (U 6) (U 7) (U 8) (U 9) (U 10) (U 11) W) (⟨fun _=>rfl,fun h=>Bool.noConfusion h⟩) ?_ ?_
   ·repeat (first|exact Aq.nil|(refine Aq.cons ?_ ?_;rotate_left))
    all_goals
     rintro L U W hL hpre HR Hdep K hK
     first|(simp[Region.binds]at hpre;done)|simp[Region.binds]at hpre|clear hpre
    ·have h5:L 5=false:=Bz Hdep.o 5 0 rfl hL
     have hW:=HR.o.no h5
     subst hW
     go_simp
     first|exact hK _ _ _ rfl Ab HR.o rfl|exact kE hK HR.o
    ·go_simp
     first|exact hK _ _ _ rfl Ab HR.o rfl|exact kE hK HR.o|exact hK undef _ _ Ab Ab HR.o (by simp[Act.put,hpre])|exact hK _ _ _ Ab Ab HR.o rfl|exact kE hK HR.o
    ·go_simp
     rw[if_pos (by omega)]
     go_simp
     exact hK (.string ⟨z.toArray⟩) _ _ rfl Ab HR.o (by simp[Act.put,hpre])
    iterate 2
     ·go_simp
      first|exact hK _ _ _ rfl Ab HR.o rfl|exact kE hK HR.o|exact hK undef _ _ Ab Ab HR.o (by simp[Act.put,hpre])|exact hK _ _ _ Ab Ab HR.o rfl|exact kE hK HR.o
    ·have h6:L 6=false:=Bz Hdep.o 6 5 rfl hL
     have h7:L 7=false:=Bz Hdep.o 7 5 rfl hL
     have h8:L 8=false:=Bz Hdep.o 8 5 rfl hL
     have h9:L 9=false:=Bz Hdep.o 9 6 rfl h6
     have h10:L 10=false:=Bz Hdep.o 10 7 rfl h7
     have h11:L 11=false:=Bz Hdep.o 11 8 rfl h8
     have hW:=HR.o.no hL
     subst hW
     go_simp
     refine(HC.o _ HW.o).mono ?_
     rintro e w5 hp
     obtain⟨vp,vr,vk,rfl,hq5⟩:=hp.q
     go_simp
     refine hK (.tuple #[vp,vr,vk]) _ _ Ab Ab ⟨fun h=>by simp at h,fun _=>⟨vp,vr,vk,hq5,rfl,fun _=>rfl,?_,?_,?_,?_,?_,?_⟩⟩ (by simp[Act.put,hpre])
     all_goals (intro h;simp_all)
    ·have l5:=hpre
     obtain⟨vp,vr,vk,q1,q2,q3,q4,q5,q6,q7,q8,q9⟩:=HR.o.yes l5
     simp only[q2]
     go_simp
     exact hK vp _ _ Ab Ab ⟨fun h=>absurd (l5.symm.trans h) (by decide),fun _=>⟨vp,vr,vk,q1,q2,q3,fun _=>rfl,q5,q6,q7,q8,q9⟩⟩ (by simp[Act.put,hpre,q2])
    ·have l5:=hpre
     obtain⟨vp,vr,vk,q1,q2,q3,q4,q5,q6,q7,q8,q9⟩:=HR.o.yes l5
     simp only[q2]
     go_simp
     exact hK vr _ _ Ab Ab ⟨fun h=>absurd (l5.symm.trans h) (by decide),fun _=>⟨vp,vr,vk,q1,q2,q3,q4,fun _=>rfl,q6,q7,q8,q9⟩⟩ (by simp[Act.put,hpre,q2])
    ·have l5:=hpre
     obtain⟨vp,vr,vk,q1,q2,q3,q4,q5,q6,q7,q8,q9⟩:=HR.o.yes l5
     simp only[q2]
     go_simp
     exact hK vk _ _ Ab Ab ⟨fun h=>absurd (l5.symm.trans h) (by decide),fun _=>⟨vp,vr,vk,q1,q2,q3,q4,q5,fun _=>rfl,q7,q8,q9⟩⟩ (by simp[Act.put,hpre,q2])
    ·have l6:=hpre.1
     have l5:L 5=true:=Mz (Bz Hdep.o 6 5 rfl) l6
     obtain⟨vp,vr,vk,q1,q2,q3,q4,q5,q6,q7,q8,q9⟩:=HR.o.yes l5
     go_simp
     exact hK (U 6) _ _ Ab Ab ⟨fun h=>absurd (l5.symm.trans h) (by decide),fun _=>⟨vp,vr,vk,q1,q2,q3,q4,q5,q6,fun _=>q4 l6,q8,q9⟩⟩ (by simp[Act.put,hpre,q2,q4,q5,q6,q7,q8,q9,l6])
    ·have l7:=hpre.1
     have l5:L 5=true:=Mz (Bz Hdep.o 7 5 rfl) l7
     obtain⟨vp,vr,vk,q1,q2,q3,q4,q5,q6,q7,q8,q9⟩:=HR.o.yes l5
     go_simp
     exact hK (U 7) _ _ Ab Ab ⟨fun h=>absurd (l5.symm.trans h) (by decide),fun _=>⟨vp,vr,vk,q1,q2,q3,q4,q5,q6,q7,fun _=>q5 l7,q9⟩⟩ (by simp[Act.put,hpre,q2,q4,q5,q6,q7,q8,q9,l7])
    ·have l8:=hpre.1
     have l5:L 5=true:=Mz (Bz Hdep.o 8 5 rfl) l8
     obtain⟨vp,vr,vk,q1,q2,q3,q4,q5,q6,q7,q8,q9⟩:=HR.o.yes l5
     go_simp
     exact hK (U 8) _ _ Ab Ab ⟨fun h=>absurd (l5.symm.trans h) (by decide),fun _=>⟨vp,vr,vk,q1,q2,q3,q4,q5,q6,q7,q8,fun _=>q6 l8⟩⟩ (by simp[Act.put,hpre,q2,q4,q5,q6,q7,q8,q9,l8])
   rintro L U W hL hφ hR
   clear hφ
   obtain⟨vp,vr,vk,hq5,_,_,_,_,_,q7,q8,q9⟩:=hR.yes (hL 5 (by decide))
   have u11:=q7 (hL 9 (by decide))
   have u12:=q8 (hL 10 (by decide))
   have u13:=q9 (hL 11 (by decide))
   simp only[u11,u12,u13]
   have Hq5:=Aa hq5
   clear hR hL q7 q8 q9 u11 u12 u13 hq5
   go_wp2_with fail
   refine bodyPost_ret (v:=.tuple #[vp,vr,vk]) (by simp[results,results30,go_sem]) rfl ?_
   exact Hq5.o.post ((As _ _).alloc (Ap _) _).drew
  have HN:=Aa (HN.o (Df hc z))
  have hcn:((c.toNat:Int) != 91)=true:=by have:=An hc;simpa using this
  clear hc
  go_enter func30,ntmps30
  go_wp2_with fail
  refine bodyPost_ret (v:=.tuple #[.pointer none,.string ⟨(c::z:List UInt8).toArray⟩,.bool false]) (by simp[results,results30,go_sem]) rfl ?_
  exact Bj.no HN.o rfl ((As _ _).alloc (Ap _) _)
theorem Qc7(w0:World)(S:List Ty)(xv:Value)(hxv:xv.oneCell'=true)(k:Kd)(sg:List UInt8)(hsg:k.signs=63::sg)(hkl:(Bq k).length<=100)(d:Nat)(hd:d<=1000)(s:List UInt8)(w:World)(hw:Below w0.heap.size w0 w)(hs:s.length<=1000000)
  (H:SrC w0 S xv k.part d):
  Calls prog 30 #[.agg #[xv],.string ⟨s.toArray⟩,.string ⟨(Bq k).toArray⟩,.int .i64 ((d+1:Nat):Int)] w (Bj S k (Ai S 20 (d+1) k s) w):=by
 have hq:Ai S 20 (d+1) k s=Qau (Ai S 20 d k.part) s:=by unfold Ai;rw[hsg];rfl
 have HN:=Aa (show Am 45 s=none->Am 43 s=none->Ai S 20 (d+1) k s=none from fun h h2=>by rw[hq];unfold Qau;rw[h];simp only;rw[h2])
 have HM:=Aa (show ∀z,s=45::z->Ai S 20 (d+1) k s=some (.mk 63 [] 0 [],z)from by rintro z rfl;rw[hq];rfl)
 have HP:=Aa (show ∀z,s=43::z->Ai S 20 (d+1) k s=match Ai S 20 d k.part z with|some (v,q)=>some (.mk 63 [] 0 [v],q)|none=>none from by rintro z rfl;rw[hq];rfl)
 have hkp:Bq k=63::Bq k.part:=by unfold Bq Kd.part;rw[hsg];rfl
 have Hsv:=Aa (fun ks=>hkp ▸ Nj S k ks)
 have HC:=Aa (show ∀z,z.length<=1000000->∀W,Below w0.heap.size w0 W->Calls prog 30 #[.agg #[xv],.string ⟨z.toArray⟩,.string ⟨(Bq k.part).toArray⟩,.int .i64 (d:Int)] W (Bj S k.part (Ai S 20 d k.part z) W)from fun z hz W hW=>H z W hW hz)
 have d1:¬((((d+1:Nat):Int))<1):=by omega
 have d2:(((d+1:Nat):Int))<=1001:=by omega
 have d3:(((d+1:Nat):Int)) - 1=(d:Int):=by omega
 have d4:(0:Int)<=(d:Int):=by omega
 have d5:(d:Int)<=1000:=by omega
 have hwd:IntKind.i64.wrap (d:Int)=(d:Int):=IntWalk.i64_in _ (by omega)
 have HW:=Aa (show Below w0.heap.size w0 (w.alloc (.cells #[xv] 35)).drew from(hw.alloc hw.size _).drew)
 rw[hkp]at hkl ⊢
 generalize Bq k.part=kp at *
 generalize Ai S 20 (d+1) k s=q at *
 generalize (((d+1:Nat):Int))=dd at *
 have hkl2:kp.length<=100:=by simp at hkl;omega
 clear H hq hkp hsg hkl hw hd
 cases s with
 |nil=>
  have HN:=Aa (HN.o rfl rfl)
  go_enter func30,ntmps30
  go_wp2_with fail
  refine bodyPost_ret (v:=.tuple #[.pointer none,.string ⟨#[]⟩,.bool false]) (by simp[results,results30,go_sem]) rfl ?_
  exact Bj.no HN.o rfl ((As _ _).alloc (Ap _) _)
 |cons c z=>
  by_cases hc:c=45
  ·subst hc
   have HM:=Aa (HM.o z rfl)
   go_enter func30,ntmps30
   go_wp2_with fail
   refine P3 [43,44,45,46,47,8,9,10]
    (fun ix v W=>match ix with|0=>v=.string ⟨(63::kp:List UInt8).toArray⟩|1=>v=.agg #[.string ⟨(63::kp:List UInt8).toArray⟩,.string ⟨#[]⟩,.slice none 0 0,.slice none 0 0]|2=>∃c,v=.pointer (some ⟨c,0,none⟩)|3=>v=.string ⟨(45::z:List UInt8).toArray⟩|4=>v=.string ⟨(z:List UInt8).toArray⟩|5=>∃c,v=.pointer (some ⟨c,0,none⟩)|6=>v=.string ⟨(z:List UInt8).toArray⟩|7=>v=.bool true|_=>True)
    (fun L U W=>(L 2=false->Below w.heap.size w W)/\(L 2=true->∃W7,W=W7.alloc (.cells #[.string ⟨(63::kp:List UInt8).toArray⟩,.string ⟨#[]⟩,.slice none 0 0,.slice none 0 0] 68)/\Below w.heap.size w W7/\U 2=.pointer (some ⟨W7.heap.size,0,none⟩))/\(L 5=true->U 5=U 2)) (⟨fun _=>((As w.heap.size w).alloc (Ap _) _).drew,fun h=>Bool.noConfusion h,fun h=>Bool.noConfusion h⟩) ?_ ?_
   ·repeat (first|exact Aq.nil|(refine Aq.cons ?_ ?_;rotate_left))
    all_goals
     rintro L U W hL hpre HR Hdep K hK
     first|(simp[Region.binds]at hpre;done)|simp[Region.binds]at hpre|clear hpre
    iterate 2
     ·go_simp
      first|exact hK _ _ _ rfl Ab HR.o rfl|exact kE hK HR.o|exact hK undef _ _ Ab Ab HR.o (by simp[Act.put,hpre])|exact hK _ _ _ Ab Ab HR.o rfl|exact kE hK HR.o
    ·obtain⟨R1,R2,R3⟩:=HR.o
     have hB:=R1 hL
     have h10:L 5=false:=Bz Hdep.o 5 2 rfl hL
     go_simp
     exact hK (.pointer (some ⟨W.heap.size,0,none⟩)) _ _ ⟨_,rfl⟩ Ab ⟨fun h=>by simp at h,fun _=>⟨W,rfl,hB,rfl⟩,fun h=>absurd (h10.symm.trans (by simpa using h)) (by decide)⟩ (by simp[Act.put,hpre])
    ·go_simp
     first|exact hK _ _ _ rfl Ab HR.o rfl|exact kE hK HR.o|exact hK undef _ _ Ab Ab HR.o (by simp[Act.put,hpre])|exact hK _ _ _ Ab Ab HR.o rfl|exact kE hK HR.o
    ·go_simp
     rw[if_pos (by omega)]
     go_simp
     exact hK (.string ⟨z.toArray⟩) _ _ rfl Ab HR.o (by simp[Act.put,hpre])
    ·obtain⟨R1,R2,R3⟩:=HR.o
     obtain⟨c,u5⟩:=hpre.1.2
     clear R1 R2 R3
     go_simp
     obtain⟨R1,R2,R3⟩:=HR.o
     exact hK (.pointer (some ⟨c,0,none⟩)) _ _ ⟨c,rfl⟩ Ab ⟨R1,R2,fun _=>u5.symm⟩ (by simp[Act.put,hpre,u5])
    iterate 2
     ·go_simp
      first|exact hK _ _ _ rfl Ab HR.o rfl|exact kE hK HR.o|exact hK undef _ _ Ab Ab HR.o (by simp[Act.put,hpre])|exact hK _ _ _ Ab Ab HR.o rfl|exact kE hK HR.o
   rintro L U W hL hφ hR
   have hφ10:U 5=U 2:=hR.2.2 (hL 5 (by decide))
   have e11:U 6=.string ⟨(z:List UInt8).toArray⟩:=hφ 6 (by decide)
   have e12:U 7=.bool true:=hφ 7 (by decide)
   clear hφ
   obtain⟨_,h2,h3⟩:=hR
   obtain⟨W7,rfl,hb7,u5⟩:=h2 (hL 2 (by decide))
   rw[u5]at hφ10
   clear hL h2
   simp only[hφ10,e11,e12]
   clear hφ10
   go_wp2_with fail
   refine bodyPost_ret (v:=.tuple #[.pointer (some ⟨W7.heap.size,0,none⟩),.string ⟨z.toArray⟩,.bool true]) (by simp[results,results30,go_sem]) rfl ?_
   have hz7:=hb7.size
   have Hb7:=(hb7.alloc (by omega) (.cells #[.string ⟨(63::kp:List UInt8).toArray⟩,.string ⟨#[]⟩,.slice none 0 0,.slice none 0 0] 68))
   rw[HM.o]
   refine⟨⟨W7.heap.size,rfl,?_⟩,Hb7⟩
   rw[Hsv.o]
   exact Ga.leaf (P:=fun c=>w.heap.size<=c) (kind:=63::kp) (text:=[]) (by omega)
  by_cases hc2:c=43
  ·subst hc2
   have HP:=Aa (HP.o z rfl)
   have HC:=Aa (fun W hW=>HC.o z (by simp at hs;omega) W hW)
   clear hc
   go_enter func30,ntmps30
   go_wp2_with fail
   refine P3 [53,54,55,56,57,58,59,60,52,61,62,63,11,12,13]
    (fun ix v W=>match ix with|0=>v=.agg #[xv]|1=>v=.string ⟨(43::z:List UInt8).toArray⟩|2=>v=.string ⟨(z:List UInt8).toArray⟩|3=>v=.string ⟨(63::kp:List UInt8).toArray⟩|4=>v=.string ⟨(kp:List UInt8).toArray⟩|5=>v=.int .i64 dd|6=>v=.int .i64 (d:Int)|_=>True)
    (fun L U W=>Gc (SrQ (w.alloc (.cells #[xv] 35)).drew S k.part (Ai S 20 d k.part z)) ((w.alloc (.cells #[xv] 35)).drew) (L 7) (L 8) (L 9) (L 10) (L 11) (L 12) (L 13) (L 14) (U 7) (U 8) (U 9) (U 10) (U 11) (U 12) (U 13) (U 14) W) (⟨fun _=>rfl,fun h=>Bool.noConfusion h⟩) ?_ ?_
   ·repeat (first|exact Aq.nil|(refine Aq.cons ?_ ?_;rotate_left))
    all_goals
     rintro L U W hL hpre HR Hdep K hK
     first|(simp[Region.binds]at hpre;done)|simp[Region.binds]at hpre|clear hpre
    ·have h7:L 7=false:=Bz Hdep.o 7 0 rfl hL
     have hW:=HR.o.no h7
     subst hW
     go_simp
     first|exact hK _ _ _ rfl Ab HR.o rfl|exact kE hK HR.o
    ·go_simp
     first|exact hK _ _ _ rfl Ab HR.o rfl|exact kE hK HR.o|exact hK undef _ _ Ab Ab HR.o (by simp[Act.put,hpre])|exact hK _ _ _ Ab Ab HR.o rfl|exact kE hK HR.o
    ·go_simp
     rw[if_pos (by omega)]
     go_simp
     exact hK (.string ⟨z.toArray⟩) _ _ rfl Ab HR.o (by simp[Act.put,hpre])
    ·go_simp
     first|exact hK _ _ _ rfl Ab HR.o rfl|exact kE hK HR.o|exact hK undef _ _ Ab Ab HR.o (by simp[Act.put,hpre])|exact hK _ _ _ Ab Ab HR.o rfl|exact kE hK HR.o
    ·go_simp
     rw[if_pos (by omega)]
     go_simp
     exact hK (.string ⟨kp.toArray⟩) _ _ rfl Ab HR.o (by simp[Act.put,hpre])
    ·go_simp
     first|exact hK _ _ _ rfl Ab HR.o rfl|exact kE hK HR.o|exact hK undef _ _ Ab Ab HR.o (by simp[Act.put,hpre])|exact hK _ _ _ Ab Ab HR.o rfl|exact kE hK HR.o
    ·go_simp
     exact hK (.int .i64 (d:Int)) _ _ rfl Ab HR.o (by simp[Act.put,hpre,hwd])
    ·have h8:L 8=false:=Bz Hdep.o 8 7 rfl hL
     have h9:L 9=false:=Bz Hdep.o 9 8 rfl h8
     have h10:L 10=false:=Bz Hdep.o 10 8 rfl h8
     have h11:L 11=false:=Bz Hdep.o 11 8 rfl h8
     have h12:L 12=false:=Bz Hdep.o 12 9 rfl h9
     have h13:L 13=false:=Bz Hdep.o 13 10 rfl h10
     have h14:L 14=false:=Bz Hdep.o 14 11 rfl h11
     have hW:=HR.o.no hL
     subst hW
     go_simp
     refine(HC.o _ HW.o).mono ?_
     rintro e w5 hp
     obtain⟨vp,vr,vk,rfl,hq5⟩:=hp.q
     go_simp
     refine hK (.tuple #[vp,vr,vk]) _ _ Ab Ab ⟨fun h=>by simp at h,fun _=>⟨vp,vr,vk,hq5,rfl,?_,?_,?_,?_,?_,?_,?_⟩⟩ (by simp[Act.put,hpre])
     all_goals (intro h;simp_all)
    ·have l7:=hpre
     obtain⟨vp,vr,vk,q1,q2,q3,q4,q5,q6,q7,q8,q9⟩:=HR.o.yes l7
     go_simp
     exact hK (U 7) _ _ Ab Ab ⟨fun h=>absurd (l7.symm.trans h) (by decide),fun _=>⟨vp,vr,vk,q1,q2,fun _=>q2,q4,q5,q6,q7,q8,q9⟩⟩ (by simp[Act.put,hpre,q2])
    ·have l8:=hpre
     have l7:L 7=true:=Mz (Bz Hdep.o 8 7 rfl) l8
     obtain⟨vp,vr,vk,q1,q2,q3,q4,q5,q6,q7,q8,q9⟩:=HR.o.yes l7
     have u7:=q3 l8
     simp only[u7]
     go_simp
     exact hK vp _ _ Ab Ab ⟨fun h=>absurd (l7.symm.trans h) (by decide),fun _=>⟨vp,vr,vk,q1,q2,q3,fun _=>rfl,q5,q6,q7,q8,q9⟩⟩ (by simp[Act.put,hpre,u7,q2])
    ·have l8:=hpre
     have l7:L 7=true:=Mz (Bz Hdep.o 8 7 rfl) l8
     obtain⟨vp,vr,vk,q1,q2,q3,q4,q5,q6,q7,q8,q9⟩:=HR.o.yes l7
     have u7:=q3 l8
     simp only[u7]
     go_simp
     exact hK vr _ _ Ab Ab ⟨fun h=>absurd (l7.symm.trans h) (by decide),fun _=>⟨vp,vr,vk,q1,q2,q3,q4,fun _=>rfl,q6,q7,q8,q9⟩⟩ (by simp[Act.put,hpre,u7,q2])
    ·have l8:=hpre
     have l7:L 7=true:=Mz (Bz Hdep.o 8 7 rfl) l8
     obtain⟨vp,vr,vk,q1,q2,q3,q4,q5,q6,q7,q8,q9⟩:=HR.o.yes l7
     have u7:=q3 l8
     simp only[u7]
     go_simp
     exact hK vk _ _ Ab Ab ⟨fun h=>absurd (l7.symm.trans h) (by decide),fun _=>⟨vp,vr,vk,q1,q2,q3,q4,q5,fun _=>rfl,q7,q8,q9⟩⟩ (by simp[Act.put,hpre,u7,q2])
    ·have l9:=hpre.1
     have l8:L 8=true:=Mz (Bz Hdep.o 9 8 rfl) l9
     have l7:L 7=true:=Mz (Bz Hdep.o 8 7 rfl) l8
     obtain⟨vp,vr,vk,q1,q2,q3,q4,q5,q6,q7,q8,q9⟩:=HR.o.yes l7
     go_simp
     exact hK (U 9) _ _ Ab Ab ⟨fun h=>absurd (l7.symm.trans h) (by decide),fun _=>⟨vp,vr,vk,q1,q2,q3,q4,q5,q6,fun _=>q4 l9,q8,q9⟩⟩ (by simp[Act.put,hpre,q2,q3 l8,q4,q5,q6,q7,q8,q9,l9])
    ·have l10:=hpre.1
     have l8:L 8=true:=Mz (Bz Hdep.o 10 8 rfl) l10
     have l7:L 7=true:=Mz (Bz Hdep.o 8 7 rfl) l8
     obtain⟨vp,vr,vk,q1,q2,q3,q4,q5,q6,q7,q8,q9⟩:=HR.o.yes l7
     go_simp
     exact hK (U 10) _ _ Ab Ab ⟨fun h=>absurd (l7.symm.trans h) (by decide),fun _=>⟨vp,vr,vk,q1,q2,q3,q4,q5,q6,q7,fun _=>q5 l10,q9⟩⟩ (by simp[Act.put,hpre,q2,q3 l8,q4,q5,q6,q7,q8,q9,l10])
    ·have l11:=hpre.1
     have l8:L 8=true:=Mz (Bz Hdep.o 11 8 rfl) l11
     have l7:L 7=true:=Mz (Bz Hdep.o 8 7 rfl) l8
     obtain⟨vp,vr,vk,q1,q2,q3,q4,q5,q6,q7,q8,q9⟩:=HR.o.yes l7
     go_simp
     exact hK (U 11) _ _ Ab Ab ⟨fun h=>absurd (l7.symm.trans h) (by decide),fun _=>⟨vp,vr,vk,q1,q2,q3,q4,q5,q6,q7,q8,fun _=>q6 l11⟩⟩ (by simp[Act.put,hpre,q2,q3 l8,q4,q5,q6,q7,q8,q9,l11])
   rintro L U W hL hφ hR
   clear hφ
   obtain⟨vp,vr,vk,hq5,_,_,_,_,_,q7,q8,q9⟩:=hR.yes (hL 7 (by decide))
   have u11:=q7 (hL 12 (by decide))
   have u12:=q8 (hL 13 (by decide))
   have u13:=q9 (hL 14 (by decide))
   simp only[u11,u12,u13]
   clear hR hL q7 q8 q9 u11 u12 u13
   obtain⟨hb5,hm⟩:=hq5
   have Hb5:=Aa (show Below w.heap.size w W from((As w.heap.size w).alloc (Ap _) (.cells #[xv] 35)).drew.trans (hb5.mono (by simp)))
   have hz5:=Hb5.o.size
   generalize Ai S 20 d k.part z=o at *
   have HP:=HP
   cases o with
   |none=>
    have HN:=Aa (HP.o)
    obtain⟨⟨q0,rfl⟩,⟨r0,rfl⟩,rfl⟩:=hm
    clear hb5 HP
    go_wp2_with fail
    refine bodyPost_ret (v:=.tuple #[.pointer (some ⟨W.heap.size+1,0,none⟩),.string r0,.bool false]) (by simp[results,results30,go_sem]) rfl ?_
    exact Bj.no HN.o rfl ((Hb5.o.alloc Hb5.o.size _).alloc (by simp;omega) _)
   |some y=>
    obtain⟨v,r⟩:=y
    obtain⟨⟨b,rfl,hsv⟩,rfl,rfl⟩:=hm
    have HY:=Aa (show q=some (.mk 63 [] 0 [v],r)from HP.o)
    have Hsv5:=Aa (hsv.mono (Q:=fun c=>w.heap.size<=c) fun c1 hc _=>Nat.le_trans (by simp) hc)
    clear hb5 HP hsv
    go_wp2_with fail
    refine bodyPost_ret (v:=.tuple #[.pointer (some ⟨W.heap.size+1,0,none⟩),.string ⟨r.toArray⟩,.bool true]) (by simp[results,results30,go_sem]) rfl ?_
    rw[HY.o]
    refine⟨⟨W.heap.size+1,rfl,?_⟩,((Hb5.o.alloc Hb5.o.size _).alloc (by simp;omega) _)⟩
    rw[Hsv.o]
    refine .mk (63::kp) [] [] none (some ⟨W.heap.size,0,none⟩) 0 1 [(b,Cq S k.part v)] rfl (by simp) (by show w.heap.size<=W.heap.size+1;omega) (by go_simp) (by go_simp) (by go_simp) (by go_simp) ⟨rfl,Nat.zero_le _,fun h=>absurd h (by simp)⟩ ⟨rfl,by simp[maxLen],fun _=>⟨W.heap.size,0,rfl,by simp;omega,fun j u hu=>?_⟩⟩ (by simp) (by simp) (fun _ _ h=>absurd h (by simp)) (fun g o _ e=>?_) (fun x hx=>?_)
    ·match j,hu with
     |0,hu=>
      simp[Ep]at hu
      subst hu
      go_simp
     |j+1,hu=>simp[Ep]at hu
    ·injection e with e;injection e with e;subst e;exact hz5
    simp at hx
    subst hx
    exact Hsv5.o.after (((As _ _).alloc (Ap _) _).alloc (by simp) _)
  have HN:=Aa (HN.o (Df hc z) (Df hc2 z))
  have hcn:((c.toNat:Int) == 45)=false:=by have:=An hc;simpa using this
  have hcn2:((c.toNat:Int) != 43)=true:=by have:=An hc2;simpa using this
  clear hc hc2
  go_enter func30,ntmps30
  go_wp2_with fail
  refine bodyPost_ret (v:=.tuple #[.pointer none,.string ⟨(c::z:List UInt8).toArray⟩,.bool false]) (by simp[results,results30,go_sem]) rfl ?_
  exact Bj.no HN.o rfl ((As _ _).alloc (Ap _) _)
theorem Vf(S:List Ty)(m d:Nat)(k:Kd)(hs0:k.signs=[])(hb:k.base=[64]):Ai S m (d+1) k []=none:=by
 unfold Ai
 rw[hs0,hb]
 simp only[]
 rw[if_neg (by decide),if_neg (by decide),if_neg (by decide)]
 cases By S k.name with
 |none=>rfl
 |some t=>simp[Jl,Am]
theorem Qeo(w0:World)(S:List Ty)(xv:Value)(hxv:xv.oneCell'=true)(k:Kd)(hs0:k.signs=[])(hb:k.base=[64])(hkl:k.name.length<=100)(d:Nat)(hd:d<=1000)(s:List UInt8)(w:World)(hw:Below w0.heap.size w0 w)(hs:s.length<=1000000)
  (H:∀W,Below w0.heap.size w0 W->s≠[]->Calls prog 67 #[.agg #[xv],.string ⟨s.toArray⟩,.string ⟨(Bq k).toArray⟩,.int .i64 ((d+1:Nat):Int)] W (Bj S k (Ai S 20 (d+1) k s) W)):
  Calls prog 30 #[.agg #[xv],.string ⟨s.toArray⟩,.string ⟨(Bq k).toArray⟩,.int .i64 ((d+1:Nat):Int)] w (Bj S k (Ai S 20 (d+1) k s) w):=by
 have HN:=Aa (Vf S 20 d k hs0 hb)
 have hkb:Bq k=64::(k.name++[59]):=by unfold Bq Ce;rw[hs0,hb];rfl
 have d1:¬((((d+1:Nat):Int))<1):=by omega
 have d2:(((d+1:Nat):Int))<=1001:=by omega
 have HW:=Aa (show Below w0.heap.size w0 (w.alloc (.cells #[xv] 35))from hw.alloc hw.size _)
 have HH:=Aa H
 rw[hkb]at HH ⊢
 generalize hnm:k.name++[59]=kn at *
 have hkn:kn.length<=101:=by rw[<-hnm];simp;omega
 by_cases hne:s=[]
 ·subst hne
  generalize Ai S 20 (d+1) k []=q at *
  generalize (((d+1:Nat):Int))=dd at *
  clear H hb hs0 hkb hnm HH hw
  go_enter func30,ntmps30
  go_wp2_with fail
  refine bodyPost_ret (v:=.tuple #[.pointer none,.string ⟨#[]⟩,.bool false]) (by simp[results,results30,go_sem]) rfl ?_
  exact Bj.no HN.o rfl ((As _ _).alloc (Ap _) _)
 have he:s.isEmpty=false:=by cases s with|nil=>exact absurd rfl hne|cons c z=>rfl
 have HP:=Aa (fun W hW=>HH.o W hW hne)
 generalize Ai S 20 (d+1) k s=q at *
 generalize (((d+1:Nat):Int))=dd at *
 clear H hb hs0 hkb hnm hne HH hw
 go_enter func30,ntmps30
 go_wp2_with fail
 refine(HP.o _ HW.o).mono ?_
 rintro e w5 hp
 obtain⟨vp,vr,vk,rfl,hq5⟩:=hp.q
 have Hq5:=Aa hq5
 clear hq5 hp
 go_wp2_with fail
 refine bodyPost_ret (v:=.tuple #[vp,vr,vk]) (by simp[results,results30,go_sem]) rfl ?_
 exact Hq5.o.post ((As _ _).alloc (Ap _) _)
theorem Qbw(S:List Ty)(xv:Value)(hxv:xv.oneCell'=true)(k:Kd)(hkl:(Bq k).length<=100)(s:List UInt8)(w:World)(hs:s.length<=1000000):
  Calls prog 30 #[.agg #[xv],.string ⟨s.toArray⟩,.string ⟨(Bq k).toArray⟩,.int .i64 ((0:Nat):Int)] w (Bj S k (Ai S 20 0 k s) w):=by
 have HN:=Aa (show Ai S 20 0 k s=none from rfl)
 generalize Bq k=kb at *
 generalize Ai S 20 0 k s=q at *
 by_cases hne:s=[]
 ·subst hne
  go_enter func30,ntmps30
  go_wp2_with fail
  refine bodyPost_ret (v:=.tuple #[.pointer none,.string ⟨#[]⟩,.bool false]) (by simp[results,results30,go_sem]) rfl ?_
  exact Bj.no HN.o rfl ((As _ _).alloc (Ap _) _)
 have he:s.isEmpty=false:=by cases s with|nil=>exact absurd rfl hne|cons c z=>rfl
 clear hne
 go_enter func30,ntmps30
 go_wp2_with fail
 refine bodyPost_ret (v:=.tuple #[.pointer none,.string ⟨s.toArray⟩,.bool false]) (by simp[results,results30,go_sem]) rfl ?_
 exact Bj.no HN.o rfl ((As _ _).alloc (Ap _) _)
def NmC(w0:World)(S:List Ty)(xv:Value):Prop:=∀d,d<=1000->(∀k,Co k->SrC w0 S xv k d)->∀k,Co k->k.signs=[]->k.base=[64]->∀(s:List UInt8),s.length<=1000000->∀W,Below w0.heap.size w0 W->s≠[] ->
 Calls prog 67 #[.agg #[xv],.string ⟨s.toArray⟩,.string ⟨(Bq k).toArray⟩,.int .i64 ((d+1:Nat):Int)] W (Bj S k (Ai S 20 (d+1) k s) W)
theorem Qdm(w0:World)(S:List Ty)(hS:∀t∈S,Dc t)(xv:Value)(hxv:xv.oneCell'=true)(HNm:NmC w0 S xv):∀d,d<=1001->∀k,Co k->SrC w0 S xv k d:=by
 intro d
 induction d with
 |zero=>
  intro _ k hk s W hW hs
  exact Qbw S xv hxv k (by have:=hk.2.2;omega) s W hs
 |succ d ih=>
  intro hd k hk s W hW hs
  have ih:=ih (by omega)
  have hkl:=hk.2.2
  have hp:=(Ks hk).1
  obtain⟨h1,h2,h3⟩:=hk
  cases hsg:k.signs with
  |cons c sg=>
   rw[hsg]at h1
   simp only[List.all_cons,Bool.and_eq_true,Bo,Bool.or_eq_true,beq_iff_eq]at h1
   rcases h1.1 with rfl|rfl
   ·exact Qdx w0 S xv hxv k sg hsg (by omega) d (by omega) s W hW hs (ih _ hp) (fun s v r h=>(Ff hS 20 d k.part s v r hp h).2)
   exact Qc7 w0 S xv hxv k sg hsg (by omega) d (by omega) s W hW hs (ih _ hp)
  |nil=>
   rcases h2 with⟨hb,hn⟩|⟨hb,_⟩
   ·exact Qeo w0 S xv hxv k hsg hb (by have:=hn;rw[C9]at this;have:=this.2.1;omega) d (by omega) s W hW hs (fun W' hW' hne=>HNm d (by omega) ih k ⟨h1,.inl ⟨hb,hn⟩,h3⟩ hsg hb s hs W' hW' hne)
   exact Z7 S xv hxv k hsg (by rcases hb with h|h|h<;>simp[h]) d (by omega) s W hs
theorem Qeg(s:List UInt8)(w:World)(h4:s.length<=400)(h9:¬9<(Af 10 s).length)(hlast:(Af 10 s).getLast?=some []):
  Calls prog 41 #[.string ⟨s.toArray⟩] w (Ha (Ca s) w):=by
 have HL:=Aa (Qeh h9 hlast)
 have Hcut:=Aa (fun W=>Cc s 10 10 rfl W (by omega))
 have hne:=Dy 10 s
 have Hpl:=Aa (Aj 10 s)
 generalize Af 10 s=L at h9 hlast HL Hcut hne Hpl
 go_enter func41,ntmps41
 go_wp2_with fail
 refine(Hcut.o _).mono ?_
 rintro e w1 ⟨v,rfl,ho,hb⟩
 obtain⟨g,c,rfl,hg1,hg2,hcells⟩:=Ma ho hne
 have hpos:0<L.length:=List.length_pos_iff.2 hne
 have Hb:=Aa hb
 have Hcells:=Aa hcells
 have hz1:=hb.size
 have k1:(0:Int)<=(L.length:Int) - 1:=by omega
 have k2:(L.length:Int) - 1<(L.length:Int):=by omega
 have k3:((L.length:Int) - 1).toNat=L.length - 1:=by omega
 have q1:¬(400:Int)<(s.length:Int):=by omega
 have q2:¬(9:Int)<(L.length:Int):=by omega
 have cl:=hcells (L.length - 1) (by omega)
 have he:L[L.length - 1]=[]:=by
  rw[List.getLast?_eq_getElem?,List.getElem?_eq_getElem (by omega)]at hlast
  simpa using hlast
 rw[he]at cl
 have hDl:L.dropLast.length=L.length - 1:=by simp
 clear he hlast hcells ho hb hne
 go_wp2_with fail
 go_loopw [5,6] (fun v i wr=>∃(xs:List (Ty × Value)),i=.int .i64 (xs.length:Nat)/\xs.length+1<=L.length/\Hid (Ev L.dropLast=(Ev (L.dropLast.drop xs.length)).map (Al xs ++ ·)) /\
   Hid (wr.ownsRow w1.heap.size 95 3 v xs.length (xs.flatMap stc))/\Hid (J8 wr w1.heap.size xs)/\Hid (Below w1.heap.size w1 wr)/\w1.heap.size<=wr.heap.size) (fun _ i _=>L.length - (intOf i).toNat)
 case atStart=>exact⟨[],rfl,by simp;omega,by simp[Hid,Al],World.ownsRow_lit (base:=w1.heap.size) (e:=95) (size:=3) w1 #[] 0 (Ap _) (Nat.zero_le _) rfl,by intro x hx;simp at hx,(As _ _).alloc (Ap _) _,by simp⟩
 case round=>
  obtain⟨xs,rfl,hxl,hty,hown,htys,hbr,hszr⟩:=hrel
  obtain⟨A,cA,rfl,hrA⟩:=Bh.ownK hown.o (by unfold maxLen;omega)
  have HrA:=Aa hrA
  have HbW:=Aa (Hb.o.trans (hbr.o.mono hz1))
  clear hrA
  by_cases hlt:xs.length+1<L.length
  ·have j1:(xs.length:Int)+1<(L.length:Int):=by omega
   have j2:(0:Int)<=(xs.length:Int):=by omega
   have j3:(xs.length:Int)<(L.length:Int):=by omega
   have cell:_:=(hbr.o.cell (p:=⟨g,xs.length,none⟩) hg2).trans (Hcells.o xs.length (by omega))
   have hstep:=Y8 (L:=L.dropLast) (k:=xs.length) (by omega) hty.o
   have hge:L.dropLast[xs.length]'(by omega)=L[xs.length]:=by simp
   rw[hge]at hstep
   have hpl:=Hpl.o _ (List.getElem_mem (show xs.length<L.length by omega))
   have Hstep:=Aa hstep
   generalize L[xs.length]=p at cell Hstep hpl
   have Hread:=Aa (fun W=>Vm p W (by omega))
   have Htok:=Aa (fun t (h:Cz p=some t)=>(Et.1 ((Zr p).symm.trans h)).1)
   generalize Cz p=o at Hstep Hread Htok
   clear hstep hge hty
   go_wp2_with fail
   refine(Hread.o _).mono ?_
   rintro e w4 ⟨hcase,hb4⟩
   have HbW4:=Aa (HbW.o.trans (hb4.mono HbW.o.size))
   cases o with
   |none=>
    obtain⟨x,a,A2,n2,c2,rfl⟩:=hcase
    have Hno:=Aa (show Ca s=none from Jc (.inr (HL.o.trans Hstep.o)))
    clear hb4
    go_wp2_with fail
    refine bodyPost_ret (v:=.tuple #[.slice none 0 0,.bool false]) (by simp[results,results41,go_sem]) rfl ?_
    exact Ha.no Hno.o rfl (by(repeat (first|exact HbW4.o|refine Below.setCell ?_ (by first|exact Ap _|exact HbW4.o.size|(simp;done)|(simp;omega)|omega) _|refine Below.alloc ?_ (by first|exact Ap _|exact HbW4.o.size|(simp;done)|(simp;omega)|omega) _|refine Below.drew ?_)))
   |some t=>
    obtain⟨fv,rfl,hfv⟩:=hcase
    have htk:=Htok.o t rfl
    have h8:=htk.2.2.2.1
    obtain⟨A2,c2,rfl,_⟩:=Bh.ownK hfv (by unfold maxLen;omega)
    have Hstep2:=Aa (show Ev L.dropLast=(Ev (L.dropLast.drop (xs.length+1))).map ((Al xs++[t]) ++ ·)from Hstep.o)
    have Hw5:=Aa ((Bf hown.o hb4).alloc (.cells #[.int .u8 (t.sort.toNat:Int),.string ⟨t.name.toArray⟩,.slice A2 t.fields.length c2] 95))
    have Hbb:=Aa (show Below w1.heap.size w1 (w4.alloc (.cells #[.int .u8 (t.sort.toNat:Int),.string ⟨t.name.toArray⟩,.slice A2 t.fields.length c2] 95))from(hbr.o.trans (hb4.mono hszr)).alloc (Nat.le_trans hszr hb4.size) _)
    have Hty5:=Aa (show J8 (w4.alloc (.cells #[.int .u8 (t.sort.toNat:Int),.string ⟨t.name.toArray⟩,.slice A2 t.fields.length c2] 95)) w1.heap.size (xs++[(t,.slice A2 t.fields.length c2)])from by
     intro x hx
     rcases List.mem_append.1 hx with hx|hx
     ·exact⟨(Bf ((htys.o x hx).1) hb4).alloc _,(htys.o x hx).2⟩
     simp at hx;subst hx;exact⟨(Qf hfv hszr).alloc _,htk⟩)
    have hz5:w1.heap.size<=w4.heap.size+1:=by have:=hb4.size;omega
    have Hsz5:=Aa (show (w4.alloc (.cells #[.int .u8 (t.sort.toNat:Int),.string ⟨t.name.toArray⟩,.slice A2 t.fields.length c2] 95)).heap.size=w4.heap.size+1 from by simp)
    clear hfv htk hb4
    unfold Pc
    go_wp2_with (at_builtin;go_loud (refine Y7 _ rfl _ _ 30 rfl w1.heap.size 95 (.agg #[.int .u8 0,.string ⟨#[]⟩,.slice none 0 0]) 3 48 underlying30 Tryz.infoSt rfl (by decide) (w4.alloc (.cells #[.int .u8 (t.sort.toNat:Int),.string ⟨t.name.toArray⟩,.slice A2 t.fields.length c2] 95)) [.int .u8 (t.sort.toNat:Int),.string ⟨t.name.toArray⟩,.slice A2 t.fields.length c2] rfl rfl (by simp[Value.oneCell']) _ xs.length (xs.flatMap stc) rfl (by rw[Hsz5.o];rfl) Hw5.o (by unfold maxLen;omega) (by omega) (by simp;omega) ?_;intro v5 w5 hown5 hb5 hg5;have Hty6:=Aa ((Hty5.o.below ((As _ _).alloc (Ap _) _)).grown (Hw5.o.alloc _) (by decide) hg5);have Hown5:=Aa hown5;have Hb5:=Aa (Hbb.o.trans hb5);clear hown5 hb5 hg5))
    go_roundw
    case rel=>
     refine⟨xs++[(t,Value.slice A2 t.fields.length c2)],by rw[List.length_append];go_num,by simp;omega,?_,?_,?_,Hb5.o,Hb5.o.size⟩
     ·show Ev L.dropLast=_
      rw[Hstep2.o];simp[Al]
     ·show World.ownsRow _ _ _ _ _ _ _
      rw[List.flatMap_append,List.length_append]
      exact Hown5.o
     ·exact Hty6.o
    case measure=>simp[intOf];omega
  ·have j1:¬(xs.length:Int)+1<(L.length:Int):=by omega
   have Hlin:=Aa (show Mo s=some (Al xs)by
    rw[HL.o,hty.o,List.drop_of_length_le (by omega)]
    simp[Ev])
   have Hval:=Aa (fun(_:Unit)=>Qbg (.slice A xs.length cA) xs wr (Kf.own hown.o (by omega) htys.o) (fun x hx=>(htys.o x hx).2))
   have Hs:=Aa (Kf.own hown.o (by omega) htys.o)
   clear hty
   go_wp2_with fail
   refine(Hval.o ()).mono ?_
   rintro e w4 ⟨⟨b,rfl,hbv⟩,hb4⟩
   have Hfin:=Aa (Vj h4 Hlin.o b hbv)
   have HbW4:=Aa (HbW.o.trans (hb4.mono HbW.o.size))
   have Hs4:=Aa (Hs.o.below hb4)
   clear hb4 hbv
   cases b with
   |true=>
    go_wp2_with fail
    refine bodyPost_ret (v:=.tuple #[.slice A xs.length cA,.bool true]) (by simp[results,results41,go_sem]) rfl ?_
    exact Ha.yes (xs:=xs) Hfin.o rfl Hs4.o HbW4.o
   |false=>
    go_wp2_with fail
    refine bodyPost_ret (v:=.tuple #[.slice A xs.length cA,.bool false]) (by simp[results,results41,go_sem]) rfl ?_
    exact Ha.no Hfin.o rfl HbW4.o
theorem Yw(s:List UInt8)(w:World)(hs:s.length<=4000000):
  Calls prog 41 #[.string ⟨s.toArray⟩] w (Ha (Ca s) w):=by
 by_cases h1:400<s.length
 ·exact Qo s w hs (.inl h1)
 by_cases h2:9<(Af 10 s).length
 ·exact Qo s w hs (.inr (.inl h2))
 by_cases h3:(Af 10 s).getLast?=some []
 ·exact Qeg s w (by omega) h2 h3
 exact Qo s w hs (.inr (.inr h3))
def Gz(o:Option (List Ty × Kd))(w:World)(e:Ending)(w':World):Prop:=
 (match o with
  |some x=>∃v xs,e=.returned (.tuple #[v,.bool true])/\Al xs=x.1/\Kf w' v xs
  |none=>∃A n c,e=.returned (.tuple #[.slice A n c,.bool false]))/\Below w.heap.size w w'
theorem Gz.no{w w':World}{e:Ending}{o:Option (List Ty × Kd)}(ho:o=none){A:Option Addr}{n c:Nat}(he:e=.returned (.tuple #[.slice A n c,.bool false]))(hb:Below w.heap.size w w'):Gz o w e w':=by
 rw[ho];exact⟨⟨A,n,c,he⟩,hb⟩
theorem S6(s d:List UInt8)(w:World)(hs:s.length<=4000000)(h:Ca s=none):
  Calls prog 19 #[.string ⟨s.toArray⟩,.string ⟨d.toArray⟩] w (Gz (C5 s d) w):=by
 have HF:=Aa (show C5 s d=none by unfold C5;rw[h])
 have Hof:=Aa (fun W=>Yw s W hs)
 rw[h]at Hof
 clear h
 go_enter func19,ntmps19
 go_wp2_with fail
 refine(Hof.o _).mono ?_
 rintro e w1 ⟨⟨A,n,c,rfl⟩,hb⟩
 go_wp2_with fail
 refine bodyPost_ret (v:=.tuple #[.slice none 0 0,.bool false]) (by simp[results,results19,go_sem]) rfl ?_
 exact Gz.no HF.o rfl hb
theorem Yc(s d:List UInt8)(w:World)(hs:s.length<=4000000)(hd:d.length<=4000000)(S:List Ty)(h:Ca s=some S)(hk:Cg d=none):
  Calls prog 19 #[.string ⟨s.toArray⟩,.string ⟨d.toArray⟩] w (Gz (C5 s d) w):=by
 have HF:=Aa (show C5 s d=none by unfold C5;rw[h,hk])
 have Hof:=Aa (fun W=>Yw s W hs)
 have Hkd:=Aa (fun W=>Mt d.length d W (Ap _) (by omega))
 rw[h]at Hof
 rw[hk]at Hkd
 clear h hk
 go_enter func19,ntmps19
 go_wp2_with fail
 refine(Hof.o _).mono ?_
 rintro e w1 ⟨⟨v,xs,rfl,hx,hsc⟩,hb⟩
 clear hsc
 go_wp2_with fail
 refine(Hkd.o _).mono ?_
 rintro e w2 ⟨rfl,rfl⟩
 go_wp2_with fail
 refine bodyPost_ret (v:=.tuple #[.slice none 0 0,.bool false]) (by simp[results,results19,go_sem]) rfl ?_
 exact Gz.no HF.o rfl hb
theorem Gz.of{w w':World}{e:Ending}{S:List Ty}{k:Kd}{v:Value}{xs:List (Ty × Value)}{b:Bool}{o:Option (List Ty × Kd)}(ho:o=if b=true then some (S,k)else none)(he:e=.returned (.tuple #[v,.bool b]))(hx:Al xs=S)(hs:Kf w' v xs)(hb:Below w.heap.size w w'):Gz o w e w':=by
 cases b with
 |true=>rw[ho];exact⟨⟨v,xs,he,hx,hs⟩,hb⟩
 |false=>
  obtain⟨A,c,rfl,_⟩:=hs
  rw[ho];exact⟨⟨A,_,c,he⟩,hb⟩
theorem Qc0(s d:List UInt8)(w:World)(hs:s.length<=4000000)(S:List Ty)(h:Ca s=some S)(k:Kd)(hk:Cg d=some k):
  Calls prog 19 #[.string ⟨s.toArray⟩,.string ⟨d.toArray⟩] w (Gz (C5 s d) w):=by
 obtain⟨hok,rfl⟩:=Ee.1 hk
 have HF:=Aa (show C5 s (Bq k)=if Cb S k then some (S,k)else none by unfold C5;rw[h,hk])
 have Hof:=Aa (fun W=>Yw s W hs)
 have hl:=hok.2.2
 have Hkd:=Aa (fun W=>Mt (Bq k).length (Bq k) W (Ap _) (by omega))
 have Hok:=Aa hok
 rw[h]at Hof
 rw[hk]at Hkd
 clear h hk hok
 go_enter func19,ntmps19
 go_wp2_with fail
 refine(Hof.o _).mono ?_
 rintro e w1 ⟨⟨v,xs,rfl,hx,hsc⟩,hb⟩
 subst hx
 have Hsc:=Aa hsc
 obtain⟨A,c,rfl,_,_,hfds⟩:=hsc
 have Hfds:=Aa hfds
 have Hb:=Aa hb
 clear hb hfds
 go_wp2_with fail
 refine(Hkd.o _).mono ?_
 rintro e w2 ⟨rfl,rfl⟩
 go_wp2_with fail
 refine(Rq k Hok.o _).mono ?_
 rintro e w2 ⟨rfl,rfl⟩
 go_wp2_with fail
 refine(Pk k Hok.o _).mono ?_
 rintro e w2 ⟨rfl,rfl⟩
 go_wp2_with fail
 refine(Qr _ xs (Rp k) _ Hsc.o).mono ?_
 rintro e w2 ⟨rfl,hb2⟩
 have Hb2:=Aa (Hb.o.trans (hb2.mono Hb.o.size))
 have Hs2:=Aa (Hsc.o.below hb2)
 clear hb2
 cases hx2:Ew xs (Rp k)with
 |none=>
  unfold Q4 M3
  rcases hir:Ry k with _|_
  ·have Hr:=Aa (show (if Cb (Al xs) k then some (Al xs,k)else none)=if (true:Bool)=true then some (Al xs,k)else none by
    have:=Kb xs k
    rw[hx2,hir]at this
    simp at this
    simp[this])
   go_wp2_with fail
   refine bodyPost_ret (v:=.tuple #[.slice A xs.length c,.bool true]) (by simp[results,results19,go_sem]) rfl ?_
   exact Gz.of (b:=true) (HF.o.trans Hr.o) rfl rfl (Hs2.o.below ((As _ _).alloc (Ap _) _)) (by(repeat (first|exact Hb2.o|refine Below.setCell ?_ (by first|exact Ap _|exact Hb2.o.size|(simp;done)|(simp;omega)|omega) _|refine Below.alloc ?_ (by first|exact Ap _|exact Hb2.o.size|(simp;done)|(simp;omega)|omega) _)))
  have Hr:=Aa (show (if Cb (Al xs) k then some (Al xs,k)else none)=if (false:Bool)=true then some (Al xs,k)else none by
   have:=Kb xs k
   rw[hx2,hir]at this
   simp at this
   simp[this])
  go_wp2_with fail
  refine bodyPost_ret (v:=.tuple #[.slice A xs.length c,.bool false]) (by simp[results,results19,go_sem]) rfl ?_
  exact Gz.of (b:=false) (HF.o.trans Hr.o) rfl rfl (Hs2.o.below ((As _ _).alloc (Ap _) _)) (by(repeat (first|exact Hb2.o|refine Below.setCell ?_ (by first|exact Ap _|exact Hb2.o.size|(simp;done)|(simp;omega)|omega) _|refine Below.alloc ?_ (by first|exact Ap _|exact Hb2.o.size|(simp;done)|(simp;omega)|omega) _)))
 |some y=>
  obtain⟨ty,yv⟩:=y
  obtain⟨A5,c5,e5,_⟩:=Hfds.o _ (Ek hx2).1
  simp only[]at e5
  subst e5
  unfold Q4 Pc
  rcases hir:Ry k with _|_
  ·have Hr:=Aa (show (if Cb (Al xs) k then some (Al xs,k)else none)=if (true:Bool)=true then some (Al xs,k)else none by
    have:=Kb xs k
    rw[hx2,hir]at this
    simp at this
    simp[this])
   go_wp2_with fail
   refine bodyPost_ret (v:=.tuple #[.slice A xs.length c,.bool true]) (by simp[results,results19,go_sem]) rfl ?_
   exact Gz.of (b:=true) (HF.o.trans Hr.o) rfl rfl (Hs2.o.below ((As _ _).alloc (Ap _) _)) (by(repeat (first|exact Hb2.o|refine Below.setCell ?_ (by first|exact Ap _|exact Hb2.o.size|(simp;done)|(simp;omega)|omega) _|refine Below.alloc ?_ (by first|exact Ap _|exact Hb2.o.size|(simp;done)|(simp;omega)|omega) _)))
  have Hr:=Aa (show (if Cb (Al xs) k then some (Al xs,k)else none)=if (true:Bool)=true then some (Al xs,k)else none by
   have:=Kb xs k
   rw[hx2,hir]at this
   simp at this
   simp[this])
  go_wp2_with fail
  refine bodyPost_ret (v:=.tuple #[.slice A xs.length c,.bool true]) (by simp[results,results19,go_sem]) rfl ?_
  exact Gz.of (b:=true) (HF.o.trans Hr.o) rfl rfl (Hs2.o.below ((As _ _).alloc (Ap _) _)) (by(repeat (first|exact Hb2.o|refine Below.setCell ?_ (by first|exact Ap _|exact Hb2.o.size|(simp;done)|(simp;omega)|omega) _|refine Below.alloc ?_ (by first|exact Ap _|exact Hb2.o.size|(simp;done)|(simp;omega)|omega) _)))
theorem Qdj(s d:List UInt8)(w:World)(hs:s.length<=4000000)(hd:d.length<=4000000):
  Calls prog 19 #[.string ⟨s.toArray⟩,.string ⟨d.toArray⟩] w (Gz (C5 s d) w):=by
 cases h:Ca s with
 |none=>exact S6 s d w hs h
 |some S=>cases hk:Cg d with
  |none=>exact Yc s d w hs hd S h hk
  |some k=>exact Qc0 s d w hs S h k hk
theorem J7.no{s d x:List UInt8}{w w':World}{v:Value}{q:Option Addr}(hb:Below w.heap.size w w')(h:∀y,C5 s d=some y->Jr y.1 y.2 x=none):J7 s d x w (.returned (.tuple #[v,.pointer q,.bool false])) w':=by
 refine⟨hb,?_⟩
 cases hy:C5 s d with
 |none=>exact⟨v,q,rfl⟩
 |some y=>simp only;rw[h y hy];exact⟨v,q,rfl⟩
theorem Qf8(HNm:∀(w0:World) (xs:List (Ty × Value)) (xv:Value),Kf w0 xv xs->P5 (Al xs)->NmC w0 (Al xs) xv)(s d x:List UInt8)(w:World)(hs:s.length<=4000000)(hd:d.length<=4000000)(hx:x.length<=4000000):
  Calls prog 15 #[.string ⟨s.toArray⟩,.string ⟨d.toArray⟩,.string ⟨x.toArray⟩] w (J7 s d x w):=by
 have Hk:=Aa (fun W=>Qdj s d W hs hd)
 go_enter func15,ntmps15
 go_wp2_with fail
 refine(Hk.o _).mono ?_
 rintro e w1 ⟨hm,hb1⟩
 have Hb1:=Aa hb1
 clear hb1
 cases hbo:C5 s d with
 |none=>
  have HB:=Aa hbo
  rw[hbo]at hm
  obtain⟨A,n,c,rfl⟩:=hm
  clear hbo
  go_wp2_with fail
  refine bodyPost_ret (v:=.tuple #[.slice none 0 0,.pointer none,.bool false]) (by simp[results,results15,go_sem]) rfl ?_
  exact J7.no Hb1.o fun y hy=>by rw[HB.o]at hy;cases hy
 |some y=>
  obtain⟨S,k⟩:=y
  have HB:=Aa hbo
  rw[hbo]at hm
  obtain⟨xv,xs,rfl,hty,hsc⟩:=hm
  obtain⟨g1,_,_,g4,g5,_⟩:=P1 hbo
  obtain⟨A9,c9,rfl,hl9,_⟩:=hsc
  have Hsc:=Aa (show Kf w1 (.slice A9 xs.length c9) xs from⟨A9,c9,rfl,hl9,by assumption⟩)
  clear hbo
  by_cases h400:400<x.length
  ·have t4:decide ((400:Int)<(x.length:Int))=true:=decide_eq_true (by omega)
   have t5:(400:Int)<(x.length:Int):=by omega
   have HV:=Aa (show Jr S k x=none from by unfold Jr;rw[if_pos h400])
   clear h400 g1 g4 g5
   go_wp2_with fail
   refine bodyPost_ret (v:=.tuple #[.slice none 0 0,.pointer none,.bool false]) (by simp[results,results15,go_sem]) rfl ?_
   exact J7.no Hb1.o fun y hy=>by rw[HB.o]at hy;injection hy with hy;subst hy;exact HV.o
  have t5:¬((400:Int)<(x.length:Int)):=by omega
  have hr:Calls prog 30 #[.agg #[.slice A9 xs.length c9],.string ⟨x.toArray⟩,.string ⟨(Bq k).toArray⟩,.int .i64 ((12:Nat):Int)] w1 (Bj S k (Ai S 20 12 k x) w1):=by
   have:=Qdm w1 (Al xs) (by rw[hty];exact g1.1.1) (.slice A9 xs.length c9) rfl (HNm w1 xs _ Hsc.o (by rw[hty];exact g1)) 12 (by omega) k g4 x w1 (As _ _) (by omega)
   rw[hty]at this
   exact this
  rw[g5,show (((12:Nat)):Int)=12 from rfl]at hr
  have HR:=Aa hr
  have HV:=Aa (show Jr S k x=match Ai S 20 12 k x with|some (v,[])=>some v|_=>none from by unfold Jr;rw[if_neg h400];rfl)
  have Hty:=Aa hty
  generalize Ai S 20 12 k x=o at *
  clear h400 g1 g4 g5 hr hty
  go_wp2_with fail
  refine HR.o.mono ?_
  rintro e w5 hp
  obtain⟨vp,vr,vk,rfl,hb5,hm⟩:=hp.q
  have Hb5:=Aa (Hb1.o.trans (hb5.mono Hb1.o.size))
  have Hsc5:=Aa (Hsc.o.below hb5)
  have hz:=Hb1.o.size
  clear hb5 hp
  cases o with
  |none=>
   obtain⟨⟨q0,rfl⟩,⟨r0,rfl⟩,rfl⟩:=hm
   go_wp2_with fail
   refine bodyPost_ret (v:=.tuple #[.slice A9 xs.length c9,.pointer q0,.bool false]) (by simp[results,results15,go_sem]) rfl ?_
   exact J7.no Hb5.o fun y hy=>by rw[HB.o]at hy;injection hy with hy;subst hy;exact HV.o
  |some y=>
   obtain⟨v,r⟩:=y
   obtain⟨⟨b,rfl,hsv⟩,rfl,rfl⟩:=hm
   have Hsv:=Aa hsv
   clear hsv
   cases r with
   |nil=>
    go_wp2_with fail
    refine bodyPost_ret (v:=.tuple #[.slice A9 xs.length c9,.pointer (some ⟨b,0,none⟩),.bool true]) (by simp[results,results15,go_sem]) rfl ?_
    refine⟨Hb5.o,?_⟩
    rw[HB.o]
    simp only
    rw[HV.o]
    exact⟨_,xs,b,rfl,Hty.o,Hsc5.o,Hsv.o.mono fun c1 hc _=>Nat.le_trans hz hc⟩
   |cons c z=>
    go_wp2_with fail
    refine bodyPost_ret (v:=.tuple #[.slice A9 xs.length c9,.pointer (some ⟨b,0,none⟩),.bool false]) (by simp[results,results15,go_sem]) rfl ?_
    exact J7.no Hb5.o fun y hy=>by rw[HB.o]at hy;injection hy with hy;subst hy;exact HV.o
end
end Go.Proofs.YtkigmebejmmikaaGreatDoor
