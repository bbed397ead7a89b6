/- Texts joined. Conditions: as each theorem names them. -/
import Derived.Test.YtkgkoicedddkmaaGreatDoorC02
import Derived.Test.YtkgkoicedddkmaaGreatDoorC31
import Derived.Test.YtkgkoicedddkmaaGreatDoorC37
set_option maxRecDepth 100000
set_option maxHeartbeats 32000000
set_option linter.unusedVariables false
set_option linter.unusedSimpArgs false
namespace Go.Proofs.YtkgkoicedddkmaaGreatDoor
open Go.RowKit Go.Proofs.Tryz
section
attribute [local go_sem] Qiz Qii Qib Qgw ByteArray.mk_append_mk
theorem Qdu(w0:World)(S:List Ty)(xv:Value)(hxv:xv.oneCell'=true)(k:Kd)(sg:List UInt8)(hsg:k.signs=63::sg)(hkl:(Bj k).length<=100)(d:Nat)(hd:d<=1000)(s:List UInt8)(w:World)(hw:Below w0.heap.size w0 w)(hs:s.length<=1000000)
  (H:SrC w0 S xv k.part d):
  Calls prog 43 #[.agg #[xv],.string ⟨s.toArray⟩,.string ⟨(Bj k).toArray⟩,.int .i64 ((d+1:Nat):Int)] w (Bl S k (An S 20 (d+1) k s) w):=by
 have hq:An S 20 (d+1) k s=Qac (An S 20 d k.part) s:=by unfold An;rw[hsg];rfl
 have HN:=Aa (show Ar 45 s=none->Ar 43 s=none->An S 20 (d+1) k s=none from fun h h2=>by rw[hq];unfold Qac;rw[h];simp only;rw[h2])
 have HM:=Aa (show ∀z,s=45::z->An S 20 (d+1) k s=some (.mk 63 [] 0 [],z)from by rintro z rfl;rw[hq];rfl)
 have HP:=Aa (show ∀z,s=43::z->An S 20 (d+1) k s=match An S 20 d k.part z with|some (v,q)=>some (.mk 63 [] 0 [v],q)|none=>none from by rintro z rfl;rw[hq];rfl)
 have hkp:Bj k=63::Bj k.part:=by unfold Bj Kd.part;rw[hsg];rfl
 have Hsv:=Aa (fun ks=>hkp ▸ Kr S k ks)
 have HC:=Aa (show ∀z,z.length<=1000000->∀W,Below w0.heap.size w0 W->Calls prog 43 #[.agg #[xv],.string ⟨z.toArray⟩,.string ⟨(Bj k.part).toArray⟩,.int .i64 (d:Int)] W (Bl S k.part (An S 20 d k.part z) W)from fun z hz W hW=>H z W hW hz)
 have d1:¬((((d+1:Nat):Int))<1):=by omega
 have d2:(((d+1:Nat):Int))<=1001:=by omega
 have d3:(((d+1:Nat):Int)) - 1=(d:Int):=by omega
 have d4:(0:Int)<=(d:Int):=by omega
 have d5:(d:Int)<=1000:=by omega
 have hwd:IntKind.i64.wrap (d:Int)=(d:Int):=IntWalk.i64_in _ (by omega)
 have HW:=Aa (show Below w0.heap.size w0 (w.alloc (.cells #[xv] 92)).drew from(hw.alloc hw.size _).drew)
 rw[hkp]at hkl ⊢
 generalize Bj k.part=kp at *
 generalize An S 20 (d+1) k s=q at *
 generalize (((d+1:Nat):Int))=dd at *
 have hkl2:kp.length<=100:=by simp at hkl;omega
 clear H hq hkp hsg hkl hw hd
 cases s with
 |nil=>
  have HN:=Aa (HN.o rfl rfl)
  go_enter func43,ntmps43
  go_wp2_with fail
  refine bodyPost_ret (v:=.tuple #[.pointer none,.string ⟨#[]⟩,.bool false]) (by simp[results,results43,go_sem]) rfl ?_
  exact Bl.no HN.o rfl ((Aq _ _).alloc (Ap _) _)
 |cons c z=>
  by_cases hc:c=45
  ·subst hc
   have HM:=Aa (HM.o z rfl)
   go_enter func43,ntmps43
   go_wp2_with fail
   refine Ge [43,44,45,46,47,8,9,10]
    (fun ix v W=>match ix with|0=>v=.string ⟨(63::kp:List UInt8).toArray⟩|1=>v=.agg #[.string ⟨(63::kp:List UInt8).toArray⟩,.string ⟨#[]⟩,.slice none 0 0,.slice none 0 0]|2=>∃c,v=.pointer (some ⟨c,0,none⟩)|3=>v=.string ⟨(45::z:List UInt8).toArray⟩|4=>v=.string ⟨(z:List UInt8).toArray⟩|5=>∃c,v=.pointer (some ⟨c,0,none⟩)|6=>v=.string ⟨(z:List UInt8).toArray⟩|7=>v=.bool true|_=>True)
    (fun L U W=>(L 2=false->Below w.heap.size w W)/\(L 2=true->∃W7,W=W7.alloc (.cells #[.string ⟨(63::kp:List UInt8).toArray⟩,.string ⟨#[]⟩,.slice none 0 0,.slice none 0 0] 97)/\Below w.heap.size w W7/\U 2=.pointer (some ⟨W7.heap.size,0,none⟩))/\(L 5=true->U 5=U 2)) (⟨fun _=>((Aq w.heap.size w).alloc (Ap _) _).drew,fun h=>Bool.noConfusion h,fun h=>Bool.noConfusion h⟩) ?_ ?_
   ·repeat (first|exact Ah.nil|(refine Ah.cons ?_ ?_;rotate_left))
    all_goals
     rintro L U W hL hpre HR Hdep K hK
     first|(simp[Region.binds]at hpre;done)|simp[Region.binds]at hpre|clear hpre
    iterate 2
     ·go_simp
      exact kE hK HR.o
    ·obtain⟨R1,R2,R3⟩:=HR.o
     have hB:=R1 hL
     have h10:L 5=false:=Ax Hdep.o 5 2 rfl hL
     go_simp
     exact hK (.pointer (some ⟨W.heap.size,0,none⟩)) _ _ ⟨_,rfl⟩ Ac ⟨fun h=>by simp at h,fun _=>⟨W,rfl,hB,rfl⟩,fun h=>absurd (h10.symm.trans (by simpa using h)) (by decide)⟩ (by simp[Act.put,hpre])
    ·go_simp
     exact kE hK HR.o
    ·go_simp
     rw[if_pos (by omega)]
     go_simp
     exact hK (.string ⟨z.toArray⟩) _ _ rfl Ac HR.o (by simp[Act.put,hpre])
    ·obtain⟨R1,R2,R3⟩:=HR.o
     obtain⟨c,u5⟩:=hpre.1.2
     clear R1 R2 R3
     go_simp
     obtain⟨R1,R2,R3⟩:=HR.o
     exact hK (.pointer (some ⟨c,0,none⟩)) _ _ ⟨c,rfl⟩ Ac ⟨R1,R2,fun _=>u5.symm⟩ (by simp[Act.put,hpre,u5])
    iterate 2
     ·go_simp
      exact kE hK HR.o
   rintro L U W hL hφ hR
   have hφ10:U 5=U 2:=hR.2.2 (hL 5 (by decide))
   have e11:U 6=.string ⟨(z:List UInt8).toArray⟩:=hφ 6 (by decide)
   have e12:U 7=.bool true:=hφ 7 (by decide)
   clear hφ
   obtain⟨_,h2,h3⟩:=hR
   obtain⟨W7,rfl,hb7,u5⟩:=h2 (hL 2 (by decide))
   rw[u5]at hφ10
   clear hL h2
   simp only[hφ10,e11,e12]
   clear hφ10
   go_wp2_with fail
   refine bodyPost_ret (v:=.tuple #[.pointer (some ⟨W7.heap.size,0,none⟩),.string ⟨z.toArray⟩,.bool true]) (by simp[results,results43,go_sem]) rfl ?_
   have hz7:=hb7.size
   have Hb7:=(hb7.alloc (by omega) (.cells #[.string ⟨(63::kp:List UInt8).toArray⟩,.string ⟨#[]⟩,.slice none 0 0,.slice none 0 0] 97))
   rw[HM.o]
   refine⟨⟨W7.heap.size,rfl,?_⟩,Hb7⟩
   rw[Hsv.o]
   exact Fl.leaf (P:=fun c=>w.heap.size<=c) (kind:=63::kp) (text:=[]) (by omega)
  by_cases hc2:c=43
  ·subst hc2
   have HP:=Aa (HP.o z rfl)
   have HC:=Aa (fun W hW=>HC.o z (by simp at hs;omega) W hW)
   clear hc
   go_enter func43,ntmps43
   go_wp2_with fail
   refine Ge [53,54,55,56,57,58,59,60,52,61,62,63,11,12,13]
    (fun ix v W=>match ix with|0=>v=.agg #[xv]|1=>v=.string ⟨(43::z:List UInt8).toArray⟩|2=>v=.string ⟨(z:List UInt8).toArray⟩|3=>v=.string ⟨(63::kp:List UInt8).toArray⟩|4=>v=.string ⟨(kp:List UInt8).toArray⟩|5=>v=.int .i64 dd|6=>v=.int .i64 (d:Int)|_=>True)
    (fun L U W=>Gh (SrQ (w.alloc (.cells #[xv] 92)).drew S k.part (An S 20 d k.part z)) ((w.alloc (.cells #[xv] 92)).drew) (L 7) (L 8) (L 9) (L 10) (L 11) (L 12) (L 13) (L 14) (U 7) (U 8) (U 9) (U 10) (U 11) (U 12) (U 13) (U 14) W) (⟨fun _=>rfl,fun h=>Bool.noConfusion h⟩) ?_ ?_
   ·repeat (first|exact Ah.nil|(refine Ah.cons ?_ ?_;rotate_left))
    all_goals
     rintro L U W hL hpre HR Hdep K hK
     first|(simp[Region.binds]at hpre;done)|simp[Region.binds]at hpre|clear hpre
    ·have h7:L 7=false:=Ax Hdep.o 7 0 rfl hL
     have hW:=HR.o.no h7
     subst hW
     go_simp
     exact kE hK HR.o
    ·go_simp
     exact kE hK HR.o
    ·go_simp
     rw[if_pos (by omega)]
     go_simp
     exact hK (.string ⟨z.toArray⟩) _ _ rfl Ac HR.o (by simp[Act.put,hpre])
    ·go_simp
     exact kE hK HR.o
    ·go_simp
     rw[if_pos (by omega)]
     go_simp
     exact hK (.string ⟨kp.toArray⟩) _ _ rfl Ac HR.o (by simp[Act.put,hpre])
    ·go_simp
     exact kE hK HR.o
    ·go_simp
     exact hK (.int .i64 (d:Int)) _ _ rfl Ac HR.o (by simp[Act.put,hpre,hwd])
    ·have h8:L 8=false:=Ax Hdep.o 8 7 rfl hL
     have h9:L 9=false:=Ax Hdep.o 9 8 rfl h8
     have h10:L 10=false:=Ax Hdep.o 10 8 rfl h8
     have h11:L 11=false:=Ax Hdep.o 11 8 rfl h8
     have h12:L 12=false:=Ax Hdep.o 12 9 rfl h9
     have h13:L 13=false:=Ax Hdep.o 13 10 rfl h10
     have h14:L 14=false:=Ax Hdep.o 14 11 rfl h11
     have hW:=HR.o.no hL
     subst hW
     go_simp
     refine(HC.o _ HW.o).mono ?_
     rintro e w5 hp
     obtain⟨vp,vr,vk,rfl,hq5⟩:=hp.q
     go_simp
     refine hK (.tuple #[vp,vr,vk]) _ _ Ac Ac ⟨fun h=>by simp at h,fun _=>⟨vp,vr,vk,hq5,rfl,?_,?_,?_,?_,?_,?_,?_⟩⟩ (by simp[Act.put,hpre])
     all_goals (intro h;simp_all)
    ·have l7:=hpre
     obtain⟨vp,vr,vk,q1,q2,q3,q4,q5,q6,q7,q8,q9⟩:=HR.o.yes l7
     go_simp
     exact hK (U 7) _ _ Ac Ac ⟨fun h=>absurd (l7.symm.trans h) (by decide),fun _=>⟨vp,vr,vk,q1,q2,fun _=>q2,q4,q5,q6,q7,q8,q9⟩⟩ (by simp[Act.put,hpre,q2])
    ·have l8:=hpre
     have l7:L 7=true:=Jx (Ax Hdep.o 8 7 rfl) l8
     obtain⟨vp,vr,vk,q1,q2,q3,q4,q5,q6,q7,q8,q9⟩:=HR.o.yes l7
     have u7:=q3 l8
     simp only[u7]
     go_simp
     exact hK vp _ _ Ac Ac ⟨fun h=>absurd (l7.symm.trans h) (by decide),fun _=>⟨vp,vr,vk,q1,q2,q3,fun _=>rfl,q5,q6,q7,q8,q9⟩⟩ (by simp[Act.put,hpre,u7,q2])
    ·have l8:=hpre
     have l7:L 7=true:=Jx (Ax Hdep.o 8 7 rfl) l8
     obtain⟨vp,vr,vk,q1,q2,q3,q4,q5,q6,q7,q8,q9⟩:=HR.o.yes l7
     have u7:=q3 l8
     simp only[u7]
     go_simp
     exact hK vr _ _ Ac Ac ⟨fun h=>absurd (l7.symm.trans h) (by decide),fun _=>⟨vp,vr,vk,q1,q2,q3,q4,fun _=>rfl,q6,q7,q8,q9⟩⟩ (by simp[Act.put,hpre,u7,q2])
    ·have l8:=hpre
     have l7:L 7=true:=Jx (Ax Hdep.o 8 7 rfl) l8
     obtain⟨vp,vr,vk,q1,q2,q3,q4,q5,q6,q7,q8,q9⟩:=HR.o.yes l7
     have u7:=q3 l8
     simp only[u7]
     go_simp
     exact hK vk _ _ Ac Ac ⟨fun h=>absurd (l7.symm.trans h) (by decide),fun _=>⟨vp,vr,vk,q1,q2,q3,q4,q5,fun _=>rfl,q7,q8,q9⟩⟩ (by simp[Act.put,hpre,u7,q2])
    ·have l9:=hpre.1
     have l8:L 8=true:=Jx (Ax Hdep.o 9 8 rfl) l9
     have l7:L 7=true:=Jx (Ax Hdep.o 8 7 rfl) l8
     obtain⟨vp,vr,vk,q1,q2,q3,q4,q5,q6,q7,q8,q9⟩:=HR.o.yes l7
     go_simp
     exact hK (U 9) _ _ Ac Ac ⟨fun h=>absurd (l7.symm.trans h) (by decide),fun _=>⟨vp,vr,vk,q1,q2,q3,q4,q5,q6,fun _=>q4 l9,q8,q9⟩⟩ (by simp[Act.put,hpre,q2,q3 l8,q4,q5,q6,q7,q8,q9,l9])
    ·have l10:=hpre.1
     have l8:L 8=true:=Jx (Ax Hdep.o 10 8 rfl) l10
     have l7:L 7=true:=Jx (Ax Hdep.o 8 7 rfl) l8
     obtain⟨vp,vr,vk,q1,q2,q3,q4,q5,q6,q7,q8,q9⟩:=HR.o.yes l7
     go_simp
     exact hK (U 10) _ _ Ac Ac ⟨fun h=>absurd (l7.symm.trans h) (by decide),fun _=>⟨vp,vr,vk,q1,q2,q3,q4,q5,q6,q7,fun _=>q5 l10,q9⟩⟩ (by simp[Act.put,hpre,q2,q3 l8,q4,q5,q6,q7,q8,q9,l10])
    ·have l11:=hpre.1
     have l8:L 8=true:=Jx (Ax Hdep.o 11 8 rfl) l11
     have l7:L 7=true:=Jx (Ax Hdep.o 8 7 rfl) l8
     obtain⟨vp,vr,vk,q1,q2,q3,q4,q5,q6,q7,q8,q9⟩:=HR.o.yes l7
     go_simp
     exact hK (U 11) _ _ Ac Ac ⟨fun h=>absurd (l7.symm.trans h) (by decide),fun _=>⟨vp,vr,vk,q1,q2,q3,q4,q5,q6,q7,q8,fun _=>q6 l11⟩⟩ (by simp[Act.put,hpre,q2,q3 l8,q4,q5,q6,q7,q8,q9,l11])
   rintro L U W hL hφ hR
   clear hφ
   obtain⟨vp,vr,vk,hq5,_,_,_,_,_,q7,q8,q9⟩:=hR.yes (hL 7 (by decide))
   have u11:=q7 (hL 12 (by decide))
   have u12:=q8 (hL 13 (by decide))
   have u13:=q9 (hL 14 (by decide))
   simp only[u11,u12,u13]
   clear hR hL q7 q8 q9 u11 u12 u13
   obtain⟨hb5,hm⟩:=hq5
   have Hb5:=Aa (show Below w.heap.size w W from((Aq w.heap.size w).alloc (Ap _) (.cells #[xv] 92)).drew.trans (hb5.mono (by simp)))
   have hz5:=Hb5.o.size
   generalize An S 20 d k.part z=o at *
   have HP:=HP
   cases o with
   |none=>
    have HN:=Aa (HP.o)
    obtain⟨⟨q0,rfl⟩,⟨r0,rfl⟩,rfl⟩:=hm
    clear hb5 HP
    go_wp2_with fail
    refine bodyPost_ret (v:=.tuple #[.pointer (some ⟨W.heap.size+1,0,none⟩),.string r0,.bool false]) (by simp[results,results43,go_sem]) rfl ?_
    exact Bl.no HN.o rfl ((Hb5.o.alloc Hb5.o.size _).alloc (by simp;omega) _)
   |some y=>
    obtain⟨v,r⟩:=y
    obtain⟨⟨b,rfl,hsv⟩,rfl,rfl⟩:=hm
    have HY:=Aa (show q=some (.mk 63 [] 0 [v],r)from HP.o)
    have Hsv5:=Aa (hsv.mono (Q:=fun c=>w.heap.size<=c) fun c1 hc _=>Nat.le_trans (by simp) hc)
    clear hb5 HP hsv
    go_wp2_with fail
    refine bodyPost_ret (v:=.tuple #[.pointer (some ⟨W.heap.size+1,0,none⟩),.string ⟨r.toArray⟩,.bool true]) (by simp[results,results43,go_sem]) rfl ?_
    rw[HY.o]
    refine⟨⟨W.heap.size+1,rfl,?_⟩,((Hb5.o.alloc Hb5.o.size _).alloc (by simp;omega) _)⟩
    rw[Hsv.o]
    refine .mk (63::kp) [] [] none (some ⟨W.heap.size,0,none⟩) 0 1 [(b,Cq S k.part v)] rfl (by simp) (by show w.heap.size<=W.heap.size+1;omega) (by go_simp) (by go_simp) (by go_simp) (by go_simp) ⟨rfl,Nat.zero_le _,fun h=>absurd h (by simp)⟩ ⟨rfl,by simp[maxLen],fun _=>⟨W.heap.size,0,rfl,by simp;omega,fun j u hu=>?_⟩⟩ (by simp) (by simp) (fun _ _ h=>absurd h (by simp)) (fun g o _ e=>?_) (fun x hx=>?_)
    ·match j,hu with
     |0,hu=>
      simp[Do]at hu
      subst hu
      go_simp
     |j+1,hu=>simp[Do]at hu
    ·injection e with e;injection e with e;subst e;exact hz5
    simp at hx
    subst hx
    exact Hsv5.o.after (((Aq _ _).alloc (Ap _) _).alloc (by simp) _)
  have HN:=Aa (HN.o (Di hc z) (Di hc2 z))
  have hcn:((c.toNat:Int) == 45)=false:=by have:=Am hc;simpa using this
  have hcn2:((c.toNat:Int) != 43)=true:=by have:=Am hc2;simpa using this
  clear hc hc2
  go_enter func43,ntmps43
  go_wp2_with fail
  refine bodyPost_ret (v:=.tuple #[.pointer none,.string ⟨(c::z:List UInt8).toArray⟩,.bool false]) (by simp[results,results43,go_sem]) rfl ?_
  exact Bl.no HN.o rfl ((Aq _ _).alloc (Ap _) _)
theorem Xf(S:List Ty)(m d:Nat)(k:Kd)(hs0:k.signs=[])(hb:k.base=[64]):An S m (d+1) k []=none:=by
 unfold An
 rw[hs0,hb]
 simp only[]
 rw[if_neg (by decide),if_neg (by decide),if_neg (by decide)]
 cases Bp S k.name with
 |none=>rfl
 |some t=>simp[Ju,Ar]
theorem Qeu(w0:World)(S:List Ty)(xv:Value)(hxv:xv.oneCell'=true)(k:Kd)(hs0:k.signs=[])(hb:k.base=[64])(hkl:k.name.length<=100)(d:Nat)(hd:d<=1000)(s:List UInt8)(w:World)(hw:Below w0.heap.size w0 w)(hs:s.length<=1000000)
  (H:∀W,Below w0.heap.size w0 W->s≠[]->Calls prog 68 #[.agg #[xv],.string ⟨s.toArray⟩,.string ⟨(Bj k).toArray⟩,.int .i64 ((d+1:Nat):Int)] W (Bl S k (An S 20 (d+1) k s) W)):
  Calls prog 43 #[.agg #[xv],.string ⟨s.toArray⟩,.string ⟨(Bj k).toArray⟩,.int .i64 ((d+1:Nat):Int)] w (Bl S k (An S 20 (d+1) k s) w):=by
 have HN:=Aa (Xf S 20 d k hs0 hb)
 have hkb:Bj k=64::(k.name++[59]):=by unfold Bj Bs;rw[hs0,hb];rfl
 have d1:¬((((d+1:Nat):Int))<1):=by omega
 have d2:(((d+1:Nat):Int))<=1001:=by omega
 have HW:=Aa (show Below w0.heap.size w0 (w.alloc (.cells #[xv] 92))from hw.alloc hw.size _)
 have HH:=Aa H
 rw[hkb]at HH ⊢
 generalize hnm:k.name++[59]=kn at *
 have hkn:kn.length<=101:=by rw[<-hnm];simp;omega
 by_cases hne:s=[]
 ·subst hne
  generalize An S 20 (d+1) k []=q at *
  generalize (((d+1:Nat):Int))=dd at *
  clear H hb hs0 hkb hnm HH hw
  go_enter func43,ntmps43
  go_wp2_with fail
  refine bodyPost_ret (v:=.tuple #[.pointer none,.string ⟨#[]⟩,.bool false]) (by simp[results,results43,go_sem]) rfl ?_
  exact Bl.no HN.o rfl ((Aq _ _).alloc (Ap _) _)
 have he:s.isEmpty=false:=by cases s with|nil=>exact absurd rfl hne|cons c z=>rfl
 have HP:=Aa (fun W hW=>HH.o W hW hne)
 generalize An S 20 (d+1) k s=q at *
 generalize (((d+1:Nat):Int))=dd at *
 clear H hb hs0 hkb hnm hne HH hw
 go_enter func43,ntmps43
 go_wp2_with fail
 refine(HP.o _ HW.o).mono ?_
 rintro e w5 hp
 obtain⟨vp,vr,vk,rfl,hq5⟩:=hp.q
 have Hq5:=Aa hq5
 clear hq5 hp
 go_wp2_with fail
 refine bodyPost_ret (v:=.tuple #[vp,vr,vk]) (by simp[results,results43,go_sem]) rfl ?_
 exact Hq5.o.post ((Aq _ _).alloc (Ap _) _)
theorem Qbt(S:List Ty)(xv:Value)(hxv:xv.oneCell'=true)(k:Kd)(hkl:(Bj k).length<=100)(s:List UInt8)(w:World)(hs:s.length<=1000000):
  Calls prog 43 #[.agg #[xv],.string ⟨s.toArray⟩,.string ⟨(Bj k).toArray⟩,.int .i64 ((0:Nat):Int)] w (Bl S k (An S 20 0 k s) w):=by
 have HN:=Aa (show An S 20 0 k s=none from rfl)
 generalize Bj k=kb at *
 generalize An S 20 0 k s=q at *
 by_cases hne:s=[]
 ·subst hne
  go_enter func43,ntmps43
  go_wp2_with fail
  refine bodyPost_ret (v:=.tuple #[.pointer none,.string ⟨#[]⟩,.bool false]) (by simp[results,results43,go_sem]) rfl ?_
  exact Bl.no HN.o rfl ((Aq _ _).alloc (Ap _) _)
 have he:s.isEmpty=false:=by cases s with|nil=>exact absurd rfl hne|cons c z=>rfl
 clear hne
 go_enter func43,ntmps43
 go_wp2_with fail
 refine bodyPost_ret (v:=.tuple #[.pointer none,.string ⟨s.toArray⟩,.bool false]) (by simp[results,results43,go_sem]) rfl ?_
 exact Bl.no HN.o rfl ((Aq _ _).alloc (Ap _) _)
def NmC(w0:World)(S:List Ty)(xv:Value):Prop:=∀d,d<=1000->(∀k,Cw k->SrC w0 S xv k d)->∀k,Cw k->k.signs=[]->k.base=[64]->∀(s:List UInt8),s.length<=1000000->∀W,Below w0.heap.size w0 W->s≠[] ->
 Calls prog 68 #[.agg #[xv],.string ⟨s.toArray⟩,.string ⟨(Bj k).toArray⟩,.int .i64 ((d+1:Nat):Int)] W (Bl S k (An S 20 (d+1) k s) W)
theorem Qew(w0:World)(S:List Ty)(hS:∀t∈S,Ep t)(xv:Value)(hxv:xv.oneCell'=true)(HNm:NmC w0 S xv):∀d,d<=1001->∀k,Cw k->SrC w0 S xv k d:=by
 intro d
 induction d with
 |zero=>
  intro _ k hk s W hW hs
  exact Qbt S xv hxv k (by have:=hk.2.2;omega) s W hs
 |succ d ih=>
  intro hd k hk s W hW hs
  have ih:=ih (by omega)
  have hkl:=hk.2.2
  have hp:=(Jl hk).1
  obtain⟨h1,h2,h3⟩:=hk
  cases hsg:k.signs with
  |cons c sg=>
   rw[hsg]at h1
   simp only[List.all_cons,Bool.and_eq_true,Bo,Bool.or_eq_true,beq_iff_eq]at h1
   rcases h1.1 with rfl|rfl
   ·exact Qea w0 S xv hxv k sg hsg (by omega) d (by omega) s W hW hs (ih _ hp) (fun s v r h=>(Fr hS 20 d k.part s v r hp h).2)
   exact Qdu w0 S xv hxv k sg hsg (by omega) d (by omega) s W hW hs (ih _ hp)
  |nil=>
   rcases h2 with⟨hb,hn⟩|⟨hb,_⟩
   ·exact Qeu w0 S xv hxv k hsg hb (by have:=hn;rw[Dk]at this;have:=this.2.1;omega) d (by omega) s W hW hs (fun W' hW' hne=>HNm d (by omega) ih k ⟨h1,.inl ⟨hb,hn⟩,h3⟩ hsg hb s hs W' hW' hne)
   exact Qbd S xv hxv k hsg (by rcases hb with h|h|h<;>simp[h]) d (by omega) s W hs
def Pa(s d x:List UInt8)(w:World)(e:Ending)(w':World):Prop:=Below w.heap.size w w'/\match Bn s d with
 |none=>∃v q,e=.returned (.tuple #[v,.pointer q,.bool false])
 |some y=>match G7 y.1 y.2 x with
  |none=>∃v q,e=.returned (.tuple #[v,.pointer q,.bool false])
  |some v=>∃xv xs b,e=.returned (.tuple #[xv,.pointer (some ⟨b,0,none⟩),.bool true])/\Af xs=y.1/\Jq w' xv xs/\Fl (fun c=>w.heap.size<=c) w' b (Cq y.1 y.2 v)
theorem Pa.no{s d x:List UInt8}{w w':World}{v:Value}{q:Option Addr}(hb:Below w.heap.size w w')(h:∀y,Bn s d=some y->G7 y.1 y.2 x=none):Pa s d x w (.returned (.tuple #[v,.pointer q,.bool false])) w':=by
 refine⟨hb,?_⟩
 cases hy:Bn s d with
 |none=>exact⟨v,q,rfl⟩
 |some y=>simp only;rw[h y hy];exact⟨v,q,rfl⟩
theorem Qfa(HNm:∀(w0:World) (xs:List (Ty × Value)) (xv:Value),Jq w0 xv xs->Jc (Af xs)->NmC w0 (Af xs) xv)(s d x:List UInt8)(w:World)(hs:s.length<=4000000)(hd:d.length<=4000000)(hx:x.length<=4000000):
  Calls prog 26 #[.string ⟨s.toArray⟩,.string ⟨d.toArray⟩,.string ⟨x.toArray⟩] w (Pa s d x w):=by
 have Hk:=Aa (fun W=>Sd s d W hs hd)
 go_enter func26,ntmps26
 go_wp2_with fail
 refine(Hk.o _).mono ?_
 rintro e w1 ⟨hm,hb1⟩
 have Hb1:=Aa hb1
 clear hb1
 cases hbo:Bn s d with
 |none=>
  have HB:=Aa hbo
  rw[hbo]at hm
  obtain⟨A,n,c,rfl⟩:=hm
  clear hbo
  go_wp2_with fail
  refine bodyPost_ret (v:=.tuple #[.slice none 0 0,.pointer none,.bool false]) (by simp[results,results26,go_sem]) rfl ?_
  exact Pa.no Hb1.o fun y hy=>by rw[HB.o]at hy;cases hy
 |some y=>
  obtain⟨S,k⟩:=y
  have HB:=Aa hbo
  rw[hbo]at hm
  obtain⟨xv,xs,rfl,hty,hsc⟩:=hm
  obtain⟨g1,_,_,g4,g5,_⟩:=Du hbo
  obtain⟨A9,c9,rfl,hl9,_⟩:=hsc
  have Hsc:=Aa (show Jq w1 (.slice A9 xs.length c9) xs from⟨A9,c9,rfl,hl9,by assumption⟩)
  clear hbo
  by_cases h400:400<x.length
  ·have t4:decide ((400:Int)<(x.length:Int))=true:=decide_eq_true (by omega)
   have t5:(400:Int)<(x.length:Int):=by omega
   have HV:=Aa (show G7 S k x=none from by unfold G7;rw[if_pos h400])
   clear h400 g1 g4 g5
   go_wp2_with fail
   refine bodyPost_ret (v:=.tuple #[.slice none 0 0,.pointer none,.bool false]) (by simp[results,results26,go_sem]) rfl ?_
   exact Pa.no Hb1.o fun y hy=>by rw[HB.o]at hy;injection hy with hy;subst hy;exact HV.o
  have t5:¬((400:Int)<(x.length:Int)):=by omega
  have hr:Calls prog 43 #[.agg #[.slice A9 xs.length c9],.string ⟨x.toArray⟩,.string ⟨(Bj k).toArray⟩,.int .i64 ((12:Nat):Int)] w1 (Bl S k (An S 20 12 k x) w1):=by
   have:=Qew w1 (Af xs) (by rw[hty];exact g1.1.1) (.slice A9 xs.length c9) rfl (HNm w1 xs _ Hsc.o (by rw[hty];exact g1)) 12 (by omega) k g4 x w1 (Aq _ _) (by omega)
   rw[hty]at this
   exact this
  rw[g5,show (((12:Nat)):Int)=12 from rfl]at hr
  have HR:=Aa hr
  have HV:=Aa (show G7 S k x=match An S 20 12 k x with|some (v,[])=>some v|_=>none from by unfold G7;rw[if_neg h400];rfl)
  have Hty:=Aa hty
  generalize An S 20 12 k x=o at *
  clear h400 g1 g4 g5 hr hty
  go_wp2_with fail
  refine HR.o.mono ?_
  rintro e w5 hp
  obtain⟨vp,vr,vk,rfl,hb5,hm⟩:=hp.q
  have Hb5:=Aa (Hb1.o.trans (hb5.mono Hb1.o.size))
  have Hsc5:=Aa (Hsc.o.below hb5)
  have hz:=Hb1.o.size
  clear hb5 hp
  cases o with
  |none=>
   obtain⟨⟨q0,rfl⟩,⟨r0,rfl⟩,rfl⟩:=hm
   go_wp2_with fail
   refine bodyPost_ret (v:=.tuple #[.slice A9 xs.length c9,.pointer q0,.bool false]) (by simp[results,results26,go_sem]) rfl ?_
   exact Pa.no Hb5.o fun y hy=>by rw[HB.o]at hy;injection hy with hy;subst hy;exact HV.o
  |some y=>
   obtain⟨v,r⟩:=y
   obtain⟨⟨b,rfl,hsv⟩,rfl,rfl⟩:=hm
   have Hsv:=Aa hsv
   clear hsv
   cases r with
   |nil=>
    go_wp2_with fail
    refine bodyPost_ret (v:=.tuple #[.slice A9 xs.length c9,.pointer (some ⟨b,0,none⟩),.bool true]) (by simp[results,results26,go_sem]) rfl ?_
    refine⟨Hb5.o,?_⟩
    rw[HB.o]
    simp only
    rw[HV.o]
    exact⟨_,xs,b,rfl,Hty.o,Hsc5.o,Hsv.o.mono fun c1 hc _=>Nat.le_trans hz hc⟩
   |cons c z=>
    go_wp2_with fail
    refine bodyPost_ret (v:=.tuple #[.slice A9 xs.length c9,.pointer (some ⟨b,0,none⟩),.bool false]) (by simp[results,results26,go_sem]) rfl ?_
    exact Pa.no Hb5.o fun y hy=>by rw[HB.o]at hy;injection hy with hy;subst hy;exact HV.o
def Mf(o:Option (Fd × List UInt8))(s:List UInt8)(w:World)(e:Ending)(w':World):Prop:=
 ∃(n:Nat) (a b c r:List UInt8),e=.returned (.tuple #[.agg #[.int .i64 (n:Int),.string ⟨a.toArray⟩,.string ⟨b.toArray⟩,.string ⟨c.toArray⟩],.string ⟨r.toArray⟩,.bool o.isSome])/\Below w.heap.size w w'/\r.length<=s.length/\n<=1000000000 /\
  ∀f q,o=some (f,q)->n=f.tag/\a=f.name/\b=Bj f.kind/\c=f.given/\r=q
theorem Qhp(fs:List Fd)(s:List UInt8):Fq fs s=if Dp (s.takeWhile Bh) 200 then(match Cn (s.takeWhile Bh)with|some n=>(Au fs n).map (fun f=>(f,s.dropWhile Bh))|none=>none)else none:=by
 unfold Fq Qg Dp
 cases h:Cn (s.takeWhile Bh)with
 |none=>rfl
 |some n=>
  simp only
  by_cases hn:n<=200
  ·simp only[hn,if_true,decide_true]
   cases Au fs n<;>rfl
  simp[hn]
theorem Vw(xv st nm fv:Value)(hxv:xv.oneCell'=true)(hst:st.oneCell'=true)(hnm:nm.oneCell'=true)(fs:List Fd)(s:List UInt8)(w:World)(h:Er w fv fs)(htg:∀f∈fs,f.tag<=200)(hs:s.length<=4000000):
  Calls prog 92 #[.agg #[xv],.string ⟨s.toArray⟩,.agg #[st,nm,fv]] w (Mf (Fq fs s) s w):=by
 obtain⟨A9,c9,rfl,hl9,hr9⟩:=h
 have Hfs:=Aa (show Er w (.slice A9 fs.length c9) fs from⟨A9,c9,rfl,hl9,hr9⟩)
 have HQ:=Aa (Qhp fs s)
 obtain⟨e1,e2,hle⟩:=Qx Bh s
 have Hd:=Aa (fun W=>Sj s W hs)
 have Hn:=Aa (fun W=>Dg (s.takeWhile Bh) 200 W (by omega) (by decide))
 have E1:=Aa e1
 have E2:=Aa e2
 have k1:((s.takeWhile Bh).length:Int)<=(s.length:Int):=by omega
 have Hdl:=Aa (show (s.dropWhile Bh).length<=s.length by rw[<-e2];simp)
 generalize (s.takeWhile Bh).length=n at *
 generalize s.takeWhile Bh=tw at *
 generalize s.dropWhile Bh=dw at *
 have k2:(0:Int)<=(n:Int):=by omega
 have k3:((n:Int)).toNat=n:=by omega
 have hn8:n<=4000000:=by omega
 have Htg:=Aa htg
 clear e1 e2 hr9 htg
 go_enter func92,ntmps92
 go_wp2_with fail
 refine(Hd.o _).mono ?_
 rintro e w1 ⟨rfl,rfl⟩
 go_wp2_with fail
 rw[E1.o]
 refine(Hn.o _).mono ?_
 rintro e w2 ⟨m,hm,rfl,hdm,hb2⟩
 have Hdm:=Aa hdm
 have Hb2:=Aa ((((Aq w.heap.size w).alloc (Ap _) (.cells #[xv] 92)).alloc (by simp) (.cells #[st,nm,.slice A9 fs.length c9] 100)).alloc (by simp;omega) (.cells #[.int .i64 0,.string ⟨#[]⟩,.string ⟨#[]⟩,.string ⟨#[]⟩] 104) |>.trans (hb2.mono (by simp;omega)))
 obtain⟨hc2,hfz2,hzz2⟩:=By hb2
 have hz2:=hb2.size
 simp only[World.size_alloc]at hz2
 have Hf2:=Aa (fun W (hW:Below w.heap.size w W)=>Qd st nm (.slice A9 fs.length c9) fs m W (Hfs.o.below hW) (by omega))
 generalize hok0:Dp tw 200=ok at *
 have Hok:=Aa hok0
 clear hok0
 clear hdm hb2
 go_wp2_with fail
 refine(Hf2.o _ Hb2.o).mono ?_
 rintro e w3 ⟨rfl,hb3⟩
 have Hb3:=Aa (Hb2.o.trans (hb3.mono Hb2.o.size))
 obtain⟨hc3,hfz3,hzz3⟩:=By hb3
 have hz3:=hb3.size
 have hcc:∀b o,b<w.heap.size+3->w3.cell? ⟨b,o,none⟩=w2.cell? ⟨b,o,none⟩:=fun b o h=>hc3 b o (by omega)
 clear hb3 Hf2 hzz2 hzz3
 obtain⟨n0,a,b,c,is,hsf,hn0,his,hfd⟩:∃(n0:Nat) (a b c:List UInt8) (is:Bool),sfR (Au fs m)=.tuple #[.agg #[.int .i64 (n0:Int),.string ⟨a.toArray⟩,.string ⟨b.toArray⟩,.string ⟨c.toArray⟩],.bool is]/\n0<=1000000000/\(Au fs m).isSome=is/\∀f,Au fs m=some f->n0=f.tag/\a=f.name/\b=Bj f.kind/\c=f.given:=by
  cases hf:Au fs m with
  |none=>exact⟨0,[],[],[],false,rfl,by omega,rfl,fun f h=>by cases h⟩
  |some f=>exact⟨f.tag,f.name,Bj f.kind,f.given,true,rfl,by have:=Htg.o f (List.mem_of_find?_eq_some hf);omega,rfl,fun g h=>by injection h with h;subst h;exact⟨rfl,rfl,rfl,rfl⟩⟩
 rw[hsf]
 have Hfd:=Aa (And.intro his hfd)
 clear hsf his hfd
 go_wp2_with fail
 have F0:w3.cell? ⟨w.heap.size+1+1,0,none⟩=some (.int .i64 0):=by rw[hcc _ _ (by omega),hc2 _ _ (by simp)];go_simp
 have F1:w3.cell? ⟨w.heap.size+1+1,1,none⟩=some (.string ⟨#[]⟩):=by rw[hcc _ _ (by omega),hc2 _ _ (by simp)];go_simp
 have F2:w3.cell? ⟨w.heap.size+1+1,2,none⟩=some (.string ⟨#[]⟩):=by rw[hcc _ _ (by omega),hc2 _ _ (by simp)];go_simp
 have F3:w3.cell? ⟨w.heap.size+1+1,3,none⟩=some (.string ⟨#[]⟩):=by rw[hcc _ _ (by omega),hc2 _ _ (by simp)];go_simp
 have Z0:w3.frozen? ⟨w.heap.size+1+1,0,none⟩=false:=by rw[hfz3 _ _ (by omega),hfz2 _ _ (by simp)];go_simp
 have Z1:w3.frozen? ⟨w.heap.size+1+1,1,none⟩=false:=by rw[hfz3 _ _ (by omega),hfz2 _ _ (by simp)];go_simp
 have Z2:w3.frozen? ⟨w.heap.size+1+1,2,none⟩=false:=by rw[hfz3 _ _ (by omega),hfz2 _ _ (by simp)];go_simp
 have Z3:w3.frozen? ⟨w.heap.size+1+1,3,none⟩=false:=by rw[hfz3 _ _ (by omega),hfz2 _ _ (by simp)];go_simp
 have hb6:w.heap.size+1+1<w3.heap.size:=by omega
 clear hc2 hfz2 hc3 hfz3 hcc
 cases ok with
 |true=>
  refine Ge [29,30,31,32,33,34,35,36,999,7,8]
   (fun ix v W=>match ix with|0=>v=.agg #[.int .i64 (n0:Int),.string ⟨a.toArray⟩,.string ⟨b.toArray⟩,.string ⟨c.toArray⟩]|1=>v=.string ⟨(s:List UInt8).toArray⟩|2=>v=.int .i64 (n:Int)|3=>v=.string ⟨(dw:List UInt8).toArray⟩|4=>v=.bool true|5=>v=.bool true|6=>v=.bool is|7=>v=.bool is|9=>v=.string ⟨(dw:List UInt8).toArray⟩|10=>v=.bool is|_=>True)
   (fun L U W=>(L 8=false->W=(w3.alloc (.cells #[.int .i64 (n0:Int),.string ⟨a.toArray⟩,.string ⟨b.toArray⟩,.string ⟨c.toArray⟩] 104)).drew)/\(L 8=true->Below w.heap.size w W/\W.cell? ⟨w.heap.size+1+1,0,none⟩=some (.int .i64 (n0:Int))/\W.cell? ⟨w.heap.size+1+1,1,none⟩=some (.string ⟨a.toArray⟩)/\W.cell? ⟨w.heap.size+1+1,2,none⟩=some (.string ⟨b.toArray⟩)/\W.cell? ⟨w.heap.size+1+1,3,none⟩=some (.string ⟨c.toArray⟩))) (⟨fun _=>rfl,fun h=>Bool.noConfusion h⟩) ?_ ?_
  ·repeat (first|exact Ah.nil|(refine Ah.cons ?_ ?_;rotate_left))
   all_goals
    rintro L U W hL hpre HR Hdep K hK
    first|(simp[Region.binds]at hpre;done)|simp[Region.binds]at hpre|clear hpre
   ·have h8:L 8=false:=Ax Hdep.o 8 0 rfl hL
    have hW:=HR.o.1 h8
    subst hW
    go_simp
    exact hK _ _ _ rfl Ac HR.o (by first|rfl|simp[Act.put,hpre])
   iterate 2
    ·go_simp
     first|exact hK _ _ _ rfl Ac HR.o (by first|rfl|simp[Act.put,hpre])|exact hK undef _ _ Ac Ac HR.o (by simp[Act.put,hpre])|exact hK _ _ _ Ac Ac HR.o rfl
   ·go_simp
    rw[E2.o]
    exact hK _ _ _ rfl Ac HR.o (by first|rfl|simp[Act.put,hpre])
   iterate 4
    ·go_simp
     first|exact hK _ _ _ rfl Ac HR.o (by first|rfl|simp[Act.put,hpre])|exact hK undef _ _ Ac Ac HR.o (by simp[Act.put,hpre])|exact hK _ _ _ Ac Ac HR.o rfl
   ·have hW:=HR.o.1 hL
    subst hW
    go_simp
    have HB6:=((((((Hb3.o.setCell (p:=⟨w.heap.size+1+1,0,none⟩) (by simp;omega) (.int .i64 (n0:Int))).setCell (p:=⟨w.heap.size+1+1,1,none⟩) (by simp;omega) (.string ⟨a.toArray⟩)).setCell (p:=⟨w.heap.size+1+1,2,none⟩) (by simp;omega) (.string ⟨b.toArray⟩)).setCell (p:=⟨w.heap.size+1+1,3,none⟩) (by simp;omega) (.string ⟨c.toArray⟩)).alloc (by simp;omega) (.cells #[.int .i64 (n0:Int),.string ⟨a.toArray⟩,.string ⟨b.toArray⟩,.string ⟨c.toArray⟩] 104)).drew)
    refine hK undef _ _ Ac Ac ⟨fun h=>by simp at h,fun _=>⟨HB6,?_,?_,?_,?_⟩⟩ (by simp[Act.put,hpre])
    all_goals go_simp
   iterate 2
    ·go_simp
     first|exact hK _ _ _ rfl Ac HR.o (by first|rfl|simp[Act.put,hpre])|exact hK undef _ _ Ac Ac HR.o (by simp[Act.put,hpre])|exact hK _ _ _ Ac Ac HR.o rfl
  rintro L U W hL hφ hR
  have e9:U 9=.string ⟨(dw:List UInt8).toArray⟩:=hφ 9 (by decide)
  have e10:U 10=.bool is:=hφ 10 (by decide)
  clear hφ
  obtain⟨Hbw,c0,c1,c2,c3⟩:=hR.2 (hL 8 (by decide))
  have HBW:=Aa Hbw
  clear hL hR Hbw
  simp only[e9,e10]
  go_wp2_with fail
  refine bodyPost_ret (v:=.tuple #[.agg #[.int .i64 (n0:Int),.string ⟨a.toArray⟩,.string ⟨b.toArray⟩,.string ⟨c.toArray⟩],.string ⟨dw.toArray⟩,.bool is]) (by simp[results,results92,go_sem,c0,c1,c2,c3]) rfl ?_
  obtain⟨his,hfd⟩:=Hfd.o
  have HQ:=HQ.o
  have hok:=Hok.o
  cases hdm:Cn tw with
  |none=>rw[Mr hdm]at hok;cases hok
  |some m'=>
   rw[hdm]at HQ
   simp only[if_true]at HQ
   have hm':=Hdm.o m' hdm
   subst hm'
   rw[HQ]
   refine⟨n0,a,b,c,dw,by rw[Option.isSome_map,his],HBW.o,Hdl.o,hn0,fun f q h=>?_⟩
   cases hf:Au fs m' with
   |none=>rw[hf]at h;cases h
   |some g=>
    rw[hf]at h
    injection h with h
    injection h with h1 h2
    subst h1 h2
    obtain⟨q1,q2,q3,q4⟩:=hfd g hf
    exact⟨q1,q2,q3,q4,rfl⟩
 |false=>
  refine Ge [29,30,31,32,33,34,35,36,999,7,8]
   (fun ix v W=>match ix with|0=>v=.agg #[.int .i64 (n0:Int),.string ⟨a.toArray⟩,.string ⟨b.toArray⟩,.string ⟨c.toArray⟩]|1=>v=.string ⟨(s:List UInt8).toArray⟩|2=>v=.int .i64 (n:Int)|3=>v=.string ⟨(dw:List UInt8).toArray⟩|4=>v=.bool false|5=>v=.bool false|7=>v=.bool false|9=>v=.string ⟨(dw:List UInt8).toArray⟩|10=>v=.bool false|_=>True)
   (fun L U W=>(L 8=false->W=(w3.alloc (.cells #[.int .i64 (n0:Int),.string ⟨a.toArray⟩,.string ⟨b.toArray⟩,.string ⟨c.toArray⟩] 104)).drew)/\(L 8=true->Below w.heap.size w W/\W.cell? ⟨w.heap.size+1+1,0,none⟩=some (.int .i64 (n0:Int))/\W.cell? ⟨w.heap.size+1+1,1,none⟩=some (.string ⟨a.toArray⟩)/\W.cell? ⟨w.heap.size+1+1,2,none⟩=some (.string ⟨b.toArray⟩)/\W.cell? ⟨w.heap.size+1+1,3,none⟩=some (.string ⟨c.toArray⟩))) (⟨fun _=>rfl,fun h=>Bool.noConfusion h⟩) ?_ ?_
  ·repeat (first|exact Ah.nil|(refine Ah.cons ?_ ?_;rotate_left))
   all_goals
    rintro L U W hL hpre HR Hdep K hK
    first|(simp[Region.binds]at hpre;done)|simp[Region.binds]at hpre|clear hpre
   ·have h8:L 8=false:=Ax Hdep.o 8 0 rfl hL
    have hW:=HR.o.1 h8
    subst hW
    go_simp
    exact hK _ _ _ rfl Ac HR.o (by first|rfl|simp[Act.put,hpre])
   iterate 2
    ·go_simp
     first|exact hK _ _ _ rfl Ac HR.o (by first|rfl|simp[Act.put,hpre])|exact hK undef _ _ Ac Ac HR.o (by simp[Act.put,hpre])|exact hK _ _ _ Ac Ac HR.o rfl
   ·go_simp
    rw[E2.o]
    exact hK _ _ _ rfl Ac HR.o (by first|rfl|simp[Act.put,hpre])
   iterate 4
    ·go_simp
     first|exact hK _ _ _ rfl Ac HR.o (by first|rfl|simp[Act.put,hpre])|exact hK undef _ _ Ac Ac HR.o (by simp[Act.put,hpre])|exact hK _ _ _ Ac Ac HR.o rfl
   ·have hW:=HR.o.1 hL
    subst hW
    go_simp
    have HB6:=((((((Hb3.o.setCell (p:=⟨w.heap.size+1+1,0,none⟩) (by simp;omega) (.int .i64 (n0:Int))).setCell (p:=⟨w.heap.size+1+1,1,none⟩) (by simp;omega) (.string ⟨a.toArray⟩)).setCell (p:=⟨w.heap.size+1+1,2,none⟩) (by simp;omega) (.string ⟨b.toArray⟩)).setCell (p:=⟨w.heap.size+1+1,3,none⟩) (by simp;omega) (.string ⟨c.toArray⟩)).alloc (by simp;omega) (.cells #[.int .i64 (n0:Int),.string ⟨a.toArray⟩,.string ⟨b.toArray⟩,.string ⟨c.toArray⟩] 104)).drew)
    refine hK undef _ _ Ac Ac ⟨fun h=>by simp at h,fun _=>⟨HB6,?_,?_,?_,?_⟩⟩ (by simp[Act.put,hpre])
    all_goals go_simp
   iterate 2
    ·go_simp
     first|exact hK _ _ _ rfl Ac HR.o (by first|rfl|simp[Act.put,hpre])|exact hK undef _ _ Ac Ac HR.o (by simp[Act.put,hpre])|exact hK _ _ _ Ac Ac HR.o rfl
  rintro L U W hL hφ hR
  have e9:U 9=.string ⟨(dw:List UInt8).toArray⟩:=hφ 9 (by decide)
  have e10:U 10=.bool false:=hφ 10 (by decide)
  clear hφ
  obtain⟨Hbw,c0,c1,c2,c3⟩:=hR.2 (hL 8 (by decide))
  have HBW:=Aa Hbw
  clear hL hR Hbw
  simp only[e9,e10]
  go_wp2_with fail
  refine bodyPost_ret (v:=.tuple #[.agg #[.int .i64 (n0:Int),.string ⟨a.toArray⟩,.string ⟨b.toArray⟩,.string ⟨c.toArray⟩],.string ⟨dw.toArray⟩,.bool false]) (by simp[results,results92,go_sem,c0,c1,c2,c3]) rfl ?_
  obtain⟨his,hfd⟩:=Hfd.o
  have HQ:=HQ.o
  have hok:=Hok.o
  simp only[Bool.false_eq_true,if_false]at HQ
  rw[HQ]
  exact⟨n0,a,b,c,dw,rfl,HBW.o,Hdl.o,hn0,fun f q h=>by cases h⟩
end
def enL(o:Option (Fd × List UInt8)):Option (Vl × List UInt8):=match o with|some (f,q)=>some (.mk 69 [] f.tag [],q)|none=>none
def unL(R:Kd->List UInt8->Option (Vl × List UInt8))(o:Option (Fd × List UInt8)):Option (Vl × List UInt8):=match o with
 |none=>none
 |some (f,r)=>match Ar 61 r with
  |none=>none
  |some q=>match R f.kind q with
   |none=>none
   |some (v,q)=>match Ar 62 q with|some z'=>some (.mk 85 [] f.tag [v],z')|none=>none
def StF(o:Option (Fd × List UInt8))(s:List UInt8)(n:Nat)(a b c r:List UInt8):Prop:=
 r.length<=s.length/\n<=1000000000/\∀f q,o=some (f,q)->n=f.tag/\a=f.name/\b=Bj f.kind/\c=f.given/\r=q
theorem Mf.q{o:Option (Fd × List UInt8)}{s:List UInt8}{w w':World}{e:Ending}(h:Mf o s w e w'):∃(n:Nat) (a b c r:List UInt8),e=.returned (.tuple #[.agg #[.int .i64 (n:Int),.string ⟨a.toArray⟩,.string ⟨b.toArray⟩,.string ⟨c.toArray⟩],.string ⟨r.toArray⟩,.bool o.isSome])/\StF o s n a b c r/\Below w.heap.size w w':=by
 obtain⟨n,a,b,c,r,h1,h2,h3,h4,h5⟩:=h
 exact⟨n,a,b,c,r,h1,⟨h3,h4,h5⟩,h2⟩
structure Gn(w1:World)(o:Option (Fd × List UInt8))(s:List UInt8)(l m x y z al st p q:Bool)(ul um ux uy uz ual up uq:Value)(W:World):Prop where
 be:Below w1.heap.size w1 W
 yes:l=true->∃(n:Nat) (a b c r:List UInt8),StF o s n a b c r/\ul=.tuple #[.agg #[.int .i64 (n:Int),.string ⟨a.toArray⟩,.string ⟨b.toArray⟩,.string ⟨c.toArray⟩],.string ⟨r.toArray⟩,.bool o.isSome] /\
  (m=true->um=.tuple #[.agg #[.int .i64 (n:Int),.string ⟨a.toArray⟩,.string ⟨b.toArray⟩,.string ⟨c.toArray⟩],.string ⟨r.toArray⟩,.bool o.isSome]) /\
  (x=true->ux=.agg #[.int .i64 (n:Int),.string ⟨a.toArray⟩,.string ⟨b.toArray⟩,.string ⟨c.toArray⟩])/\(y=true->uy=.string ⟨r.toArray⟩)/\(z=true->uz=.bool o.isSome)/\(p=true->up=.string ⟨r.toArray⟩)/\(q=true->uq=.bool o.isSome)
 al:al=true->∃B,ual=.pointer (some ⟨B,0,none⟩)/\w1.heap.size<=B/\B<W.heap.size/\W.there B 0 4/\(st=true->∃cs:List Value,ux=.agg cs.toArray/\W.rangeAt B 0 cs)
section
variable {w1 W W':World} {o:Option (Fd × List UInt8)} {s:List UInt8} {l m x y z al st p q:Bool} {ul um ux uy uz ual up uq:Value} {n:Nat} {a b c r:List UInt8} {B:Nat}
theorem Gn.start:Gn w1 o s false m x y z false st p q ul um ux uy uz ual up uq w1:=⟨Aq _ _,fun h=>Bool.noConfusion h,fun h=>Bool.noConfusion h⟩
theorem Gn.call(h:Gn w1 o s l m x y z al st p q ul um ux uy uz ual up uq W)(hm:m=false)(hx:x=false)(hy:y=false)(hz:z=false)(hst:st=false)(hp:p=false)(hq:q=false)(hF:StF o s n a b c r)(hb:Below W.heap.size W W'):
  Gn w1 o s true m x y z al st p q (.tuple #[.agg #[.int .i64 (n:Int),.string ⟨a.toArray⟩,.string ⟨b.toArray⟩,.string ⟨c.toArray⟩],.string ⟨r.toArray⟩,.bool o.isSome]) um ux uy uz ual up uq W':=by
 subst hm hx hy hz hst hp hq
 refine⟨h.be.trans (hb.mono h.be.size),fun _=>⟨n,a,b,c,r,hF,rfl,fun h=>Bool.noConfusion h,fun h=>Bool.noConfusion h,fun h=>Bool.noConfusion h,fun h=>Bool.noConfusion h,fun h=>Bool.noConfusion h,fun h=>Bool.noConfusion h⟩,fun ha=>?_⟩
 obtain⟨B,h1,h2,h3,h4,_⟩:=h.al ha
 exact⟨B,h1,h2,Nat.lt_of_lt_of_le h3 hb.size,Al h4 h3 hb,fun h=>Bool.noConfusion h⟩
theorem Gn.move(h:Gn w1 o s l m x y z al st p q ul um ux uy uz ual up uq W)(hl:l=true):Gn w1 o s l true x y z al st p q ul ul ux uy uz ual up uq W:=
 ⟨h.be,fun hl=>by obtain⟨n,a,b,c,r,h1,h2,_,h4⟩:=h.yes hl;exact⟨n,a,b,c,r,h1,h2,fun _=>h2,h4⟩,h.al⟩
theorem Gn.get(h:Gn w1 o s l m x y z al st p q ul um ux uy uz ual up uq W)(hl:l=true)(hm:m=true)(hst:x=false->st=false):∃(n:Nat) (a b c r:List UInt8),um=.tuple #[.agg #[.int .i64 (n:Int),.string ⟨a.toArray⟩,.string ⟨b.toArray⟩,.string ⟨c.toArray⟩],.string ⟨r.toArray⟩,.bool o.isSome] /\
  (x=false->Gn w1 o s l m true y z al st p q ul um (.agg #[.int .i64 (n:Int),.string ⟨a.toArray⟩,.string ⟨b.toArray⟩,.string ⟨c.toArray⟩]) uy uz ual up uq W)/\Gn w1 o s l m x true z al st p q ul um ux (.string ⟨r.toArray⟩) uz ual up uq W/\Gn w1 o s l m x y true al st p q ul um ux uy (.bool o.isSome) ual up uq W:=by
 obtain⟨n,a,b,c,r,h1,h2,h3,h4,h5,h6,h7⟩:=h.yes hl
 refine⟨n,a,b,c,r,h3 hm,fun hx=>⟨h.be,fun _=>⟨n,a,b,c,r,h1,h2,h3,fun _=>rfl,h5,h6,h7⟩,fun ha=>?_⟩,⟨h.be,fun _=>⟨n,a,b,c,r,h1,h2,h3,h4,fun _=>rfl,h6,h7⟩,h.al⟩,⟨h.be,fun _=>⟨n,a,b,c,r,h1,h2,h3,h4,h5,fun _=>rfl,h7⟩,h.al⟩⟩
 obtain⟨B,g1,g2,g3,g4,_⟩:=h.al ha
 exact⟨B,g1,g2,g3,g4,fun hs=>absurd ((hst hx).symm.trans hs) (by decide)⟩
theorem Gn.as1(h:Gn w1 o s l m x y z al st p q ul um ux uy uz ual up uq W)(hy:y=true):Gn w1 o s l m x y z al st true q ul um ux uy uz ual uy uq W:=
 ⟨h.be,fun hl=>by obtain⟨n,a,b,c,r,h1,h2,h3,h4,h5,h6,_,h7⟩:=h.yes hl;exact⟨n,a,b,c,r,h1,h2,h3,h4,h5,h6,fun _=>h5 hy,h7⟩,h.al⟩
theorem Gn.as2(h:Gn w1 o s l m x y z al st p q ul um ux uy uz ual up uq W)(hz:z=true):Gn w1 o s l m x y z al st p true ul um ux uy uz ual up uz W:=
 ⟨h.be,fun hl=>by obtain⟨n,a,b,c,r,h1,h2,h3,h4,h5,h6,h7,_⟩:=h.yes hl;exact⟨n,a,b,c,r,h1,h2,h3,h4,h5,h6,h7,fun _=>h6 hz⟩,h.al⟩
theorem Gn.alloc(h:Gn w1 o s l m x y z al st p q ul um ux uy uz ual up uq W)(hst:st=false)(T:TypeId):Gn w1 o s l m x y z true st p q ul um ux uy uz (.pointer (some ⟨W.heap.size,0,none⟩)) up uq (W.alloc (.cells #[.int .i64 0,.string ⟨#[]⟩,.string ⟨#[]⟩,.string ⟨#[]⟩] T)):=
 ⟨h.be.alloc h.be.size _,h.yes,fun _=>⟨_,rfl,h.be.size,by simp,Cc W [.int .i64 0,.string ⟨#[]⟩,.string ⟨#[]⟩,.string ⟨#[]⟩] T,fun h=>absurd (hst.symm.trans h) (by decide)⟩⟩
theorem Gn.store(h:Gn w1 o s l m x y z al st p q ul um ux uy uz ual up uq W)(ha:al=true)(ex:ux=.agg #[.int .i64 (n:Int),.string ⟨a.toArray⟩,.string ⟨b.toArray⟩,.string ⟨c.toArray⟩])(el:ual=.pointer (some ⟨B,0,none⟩)):
  W.there B 0 4/\Gn w1 o s l m x y z al true p q ul um ux uy uz ual up uq (W.setCells B 0 [.int .i64 (n:Int),.string ⟨a.toArray⟩,.string ⟨b.toArray⟩,.string ⟨c.toArray⟩]):=by
 obtain⟨B',g1,g2,g3,g4,_⟩:=h.al ha
 rw[el]at g1
 injection g1 with g1;injection g1 with g1;injection g1 with g1;subst g1
 exact⟨g4,Ag _ g2 _ _ _ h.be,h.yes,fun _=>⟨B,el,g2,by rw[B6];exact g3,World.there_setCells g4 _ _ _,fun _=>⟨_,ex,World.rangeAt_setCells_same _ _ _ _ g4⟩⟩⟩
theorem Gn.fin(h:Gn w1 o s l m x y z al st p q ul um ux uy uz ual up uq W)(hl:l=true)(hx:x=true)(ha:al=true)(hs:st=true)(hp:p=true)(hq:q=true):
  ∃(n:Nat) (a b c r:List UInt8) (B:Nat),StF o s n a b c r/\ual=.pointer (some ⟨B,0,none⟩)/\up=.string ⟨r.toArray⟩/\uq=.bool o.isSome/\w1.heap.size<=B/\B<W.heap.size/\W.rangeAt B 0 [.int .i64 (n:Int),.string ⟨a.toArray⟩,.string ⟨b.toArray⟩,.string ⟨c.toArray⟩]/\Below w1.heap.size w1 W:=by
 obtain⟨n,a,b,c,r,h1,h2,h3,h4,h5,h6,h7,h8⟩:=h.yes hl
 obtain⟨B,g1,g2,g3,g4,g5⟩:=h.al ha
 obtain⟨cs,e1,e2⟩:=g5 hs
 have e3:=h4 hx
 rw[e1]at e3
 injection e3 with e3
 have e4:cs=[.int .i64 (n:Int),.string ⟨a.toArray⟩,.string ⟨b.toArray⟩,.string ⟨c.toArray⟩]:=by simpa using e3
 exact⟨n,a,b,c,r,B,h1,g1,h7 hp,h8 hq,g2,g3,e4 ▸ e2,h.be⟩
end
section
variable {Q:World->Value->Value->Value->Prop} {w1 W W':World} {l m x y z a b e:Bool} {ul um ux uy uz ua ub ue vp vr vk:Value}
theorem Gh.call(hm:m=false)(hx:x=false)(hy:y=false)(hz:z=false)(ha:a=false)(hb:b=false)(he:e=false)(h:Q W vp vr vk):Gh Q w1 true m x y z a b e (.tuple #[vp,vr,vk]) um ux uy uz ua ub ue W:=by
 subst hm hx hy hz ha hb he
 exact⟨fun h=>Bool.noConfusion h,fun _=>⟨vp,vr,vk,h,rfl,fun h=>Bool.noConfusion h,fun h=>Bool.noConfusion h,fun h=>Bool.noConfusion h,fun h=>Bool.noConfusion h,fun h=>Bool.noConfusion h,fun h=>Bool.noConfusion h,fun h=>Bool.noConfusion h⟩⟩
theorem Gh.call2(hx:x=false)(hy:y=false)(hz:z=false)(ha:a=false)(hb:b=false)(he:e=false)(h:Q W vp vr vk):Gh Q w1 true true x y z a b e (.tuple #[vp,vr,vk]) (.tuple #[vp,vr,vk]) ux uy uz ua ub ue W:=by
 subst hx hy hz ha hb he
 exact⟨fun h=>Bool.noConfusion h,fun _=>⟨vp,vr,vk,h,rfl,fun _=>rfl,fun h=>Bool.noConfusion h,fun h=>Bool.noConfusion h,fun h=>Bool.noConfusion h,fun h=>Bool.noConfusion h,fun h=>Bool.noConfusion h,fun h=>Bool.noConfusion h⟩⟩
theorem Gh.move(h:Gh Q w1 l m x y z a b e ul um ux uy uz ua ub ue W)(hl:l=true):Gh Q w1 l true x y z a b e ul ul ux uy uz ua ub ue W:=
 ⟨h.no,fun hl=>by obtain⟨p,r,k,h1,h2,_,h3⟩:=h.yes hl;exact⟨p,r,k,h1,h2,fun _=>h2,h3⟩⟩
theorem Gh.get(h:Gh Q w1 l m x y z a b e ul um ux uy uz ua ub ue W)(hl:l=true)(hm:m=true):∃vp vr vk,um=.tuple #[vp,vr,vk]/\Gh Q w1 l m true y z a b e ul um vp uy uz ua ub ue W/\Gh Q w1 l m x true z a b e ul um ux vr uz ua ub ue W/\Gh Q w1 l m x y true a b e ul um ux uy vk ua ub ue W:=by
 obtain⟨p,r,k,h1,h2,h3,h4,h5,h6,h7⟩:=h.yes hl
 exact⟨p,r,k,h3 hm,⟨h.no,fun _=>⟨p,r,k,h1,h2,h3,fun _=>rfl,h5,h6,h7⟩⟩,⟨h.no,fun _=>⟨p,r,k,h1,h2,h3,h4,fun _=>rfl,h6,h7⟩⟩,⟨h.no,fun _=>⟨p,r,k,h1,h2,h3,h4,h5,fun _=>rfl,h7⟩⟩⟩
theorem Gh.as0(h:Gh Q w1 l m x y z a b e ul um ux uy uz ua ub ue W)(hx:x=true):Gh Q w1 l m x y z true b e ul um ux uy uz ux ub ue W:=
 ⟨h.no,fun hl=>by obtain⟨p,r,k,h1,h2,h3,h4,h5,h6,_,h8,h9⟩:=h.yes hl;exact⟨p,r,k,h1,h2,h3,h4,h5,h6,fun _=>h4 hx,h8,h9⟩⟩
theorem Gh.as1(h:Gh Q w1 l m x y z a b e ul um ux uy uz ua ub ue W)(hy:y=true):Gh Q w1 l m x y z a true e ul um ux uy uz ua uy ue W:=
 ⟨h.no,fun hl=>by obtain⟨p,r,k,h1,h2,h3,h4,h5,h6,h7,_,h9⟩:=h.yes hl;exact⟨p,r,k,h1,h2,h3,h4,h5,h6,h7,fun _=>h5 hy,h9⟩⟩
theorem Gh.as2(h:Gh Q w1 l m x y z a b e ul um ux uy uz ua ub ue W)(hz:z=true):Gh Q w1 l m x y z a b true ul um ux uy uz ua ub uz W:=
 ⟨h.no,fun hl=>by obtain⟨p,r,k,h1,h2,h3,h4,h5,h6,h7,h8,_⟩:=h.yes hl;exact⟨p,r,k,h1,h2,h3,h4,h5,h6,h7,h8,fun _=>h6 hz⟩⟩
theorem Gh.fin(h:Gh Q w1 l m x y z a b e ul um ux uy uz ua ub ue W)(hl:l=true)(ha:a=true)(hb:b=true)(he:e=true):∃vp vr vk,Q W vp vr vk/\ua=vp/\ub=vr/\ue=vk:=by
 obtain⟨p,r,k,h1,_,_,_,_,_,h7,h8,h9⟩:=h.yes hl
 exact⟨p,r,k,h1,h7 ha,h8 hb,h9 he⟩
end
structure Fh(w1:World)(kb:List UInt8)(n x:Nat)(l3 l5 l6 l7 l10:Bool)(u3 u5 u6 u7 u10:Value)(W:World):Prop where
 be:Below w1.heap.size w1 W
 a3:l3=true->∃B,u3=.slice (some ⟨B,0,none⟩) 1 1/\w1.heap.size<=B/\B<W.heap.size/\W.cell? ⟨B,0,none⟩=some (.int .i64 (n:Int))
 a5:l5=true->∃B,u5=.slice (some ⟨B,0,none⟩) 1 1/\w1.heap.size<=B/\B<W.heap.size/\W.cell? ⟨B,0,none⟩=some (.pointer (some ⟨x,0,none⟩))
 a6:l6=true->l3=true/\l5=true/\u6=.agg #[.string ⟨kb.toArray⟩,.string ⟨#[85]⟩,u3,u5]
 a7:l7=true->l3=true/\l5=true/\∃B,u7=.pointer (some ⟨B,0,none⟩)/\w1.heap.size<=B/\B<W.heap.size/\W.cell? ⟨B,0,none⟩=some (.string ⟨kb.toArray⟩)/\W.cell? ⟨B,1,none⟩=some (.string ⟨#[85]⟩)/\W.cell? ⟨B,2,none⟩=some u3/\W.cell? ⟨B,3,none⟩=some u5
 a10:l10=true->u10=u7
section
variable {w1 W:World} {kb:List UInt8} {n x:Nat} {l3 l5 l6 l7 l10:Bool} {u3 u5 u6 u7 u10:Value}
theorem Ez{w:World}{b o:Nat}{v:Value}{B:Obj}(hb:b<w.heap.size)(h:w.cell? ⟨b,o,none⟩=some v):(w.alloc B).cell? ⟨b,o,none⟩=some v:=
 ((Aq w.heap.size w).alloc (Ap _) B |>.cell (p:=⟨b,o,none⟩) hb).trans h
theorem Fh.start:Fh w1 kb n x false false false false false u3 u5 u6 u7 u10 w1:=
 ⟨Aq _ _,fun h=>Bool.noConfusion h,fun h=>Bool.noConfusion h,fun h=>Bool.noConfusion h,fun h=>Bool.noConfusion h,fun h=>Bool.noConfusion h⟩
theorem Fh.grow(h:Fh w1 kb n x l3 l5 l6 l7 l10 u3 u5 u6 u7 u10 W)(B:Obj):Fh w1 kb n x l3 l5 l6 l7 l10 u3 u5 u6 u7 u10 (W.alloc B):=by
 refine⟨h.be.alloc h.be.size _,fun q=>?_,fun q=>?_,h.a6,fun q=>?_,h.a10⟩
 ·obtain⟨b,e,h1,h2,h3⟩:=h.a3 q;exact⟨b,e,h1,by simp;omega,Ez h2 h3⟩
 ·obtain⟨b,e,h1,h2,h3⟩:=h.a5 q;exact⟨b,e,h1,by simp;omega,Ez h2 h3⟩
 obtain⟨q3,q5,b,e,h1,h2,c0,c1,c2,c3⟩:=h.a7 q;exact⟨q3,q5,b,e,h1,by simp;omega,Ez h2 c0,Ez h2 c1,Ez h2 c2,Ez h2 c3⟩
theorem Fh.put3(h:Fh w1 kb n x l3 l5 l6 l7 l10 u3 u5 u6 u7 u10 W)(h6:l6=false)(h7:l7=false)(T:TypeId):Fh w1 kb n x true l5 l6 l7 l10 (.slice (some ⟨W.heap.size,0,none⟩) 1 1) u5 u6 u7 u10 (W.alloc (.cells #[.int .i64 (n:Int)] T)):=by
 have g:=h.grow (.cells #[.int .i64 (n:Int)] T)
 exact⟨g.be,fun _=>⟨_,rfl,h.be.size,by simp,by simp[go_sem]⟩,g.a5,fun q=>absurd (h6.symm.trans q) (by decide),fun q=>absurd (h7.symm.trans q) (by decide),g.a10⟩
theorem Fh.put5(h:Fh w1 kb n x l3 l5 l6 l7 l10 u3 u5 u6 u7 u10 W)(h6:l6=false)(h7:l7=false)(T:TypeId):Fh w1 kb n x l3 true l6 l7 l10 u3 (.slice (some ⟨W.heap.size,0,none⟩) 1 1) u6 u7 u10 (W.alloc (.cells #[.pointer (some ⟨x,0,none⟩)] T)):=by
 have g:=h.grow (.cells #[.pointer (some ⟨x,0,none⟩)] T)
 exact⟨g.be,g.a3,fun _=>⟨_,rfl,h.be.size,by simp,by simp[go_sem]⟩,fun q=>absurd (h6.symm.trans q) (by decide),fun q=>absurd (h7.symm.trans q) (by decide),g.a10⟩
theorem Fh.put6(h:Fh w1 kb n x l3 l5 l6 l7 l10 u3 u5 u6 u7 u10 W)(h3:l3=true)(h5:l5=true){u:Value}(hu:u=.agg #[.string ⟨kb.toArray⟩,.string ⟨#[85]⟩,u3,u5]):Fh w1 kb n x l3 l5 true l7 l10 u3 u5 u u7 u10 W:=
 ⟨h.be,h.a3,h.a5,fun _=>⟨h3,h5,hu⟩,h.a7,h.a10⟩
theorem Fh.put7(h:Fh w1 kb n x l3 l5 l6 l7 l10 u3 u5 u6 u7 u10 W)(h6:l6=true)(h10:l10=false){T:TypeId}{W':World}(hW:W'=W.alloc (.cells #[.string ⟨kb.toArray⟩,.string ⟨#[85]⟩,u3,u5] T)):Fh w1 kb n x l3 l5 l6 true l10 u3 u5 u6 (.pointer (some ⟨W.heap.size,0,none⟩)) u10 W':=by
 subst hW
 have g:=h.grow (.cells #[.string ⟨kb.toArray⟩,.string ⟨#[85]⟩,u3,u5] T)
 obtain⟨h3,h5,_⟩:=h.a6 h6
 exact⟨g.be,g.a3,g.a5,g.a6,fun _=>⟨h3,h5,_,rfl,h.be.size,by simp,by simp[go_sem],by simp[go_sem],by simp[go_sem],by simp[go_sem]⟩,fun q=>absurd (h10.symm.trans q) (by decide)⟩
theorem Fh.put10(h:Fh w1 kb n x l3 l5 l6 l7 l10 u3 u5 u6 u7 u10 W):Fh w1 kb n x l3 l5 l6 l7 true u3 u5 u6 u7 u7 W:=⟨h.be,h.a3,h.a5,h.a6,h.a7,fun _=>rfl⟩
theorem Fh.fin(h:Fh w1 kb n x l3 l5 l6 l7 l10 u3 u5 u6 u7 u10 W)(h7:l7=true)(h10:l10=true){lo:Nat}(hlo:lo<=w1.heap.size){y:SV}(hy:Fl (fun c=>lo<=c) w1 x y):∃B,u10=.pointer (some ⟨B,0,none⟩)/\Fl (fun c=>lo<=c) W B (.mk kb [85] [n] [y]):=by
 obtain⟨h3,h5,B,e,h1,h2,c0,c1,c2,c3⟩:=h.a7 h7
 obtain⟨B3,e3,p1,p2,p3⟩:=h.a3 h3
 obtain⟨B5,e5,r1,r2,r3⟩:=h.a5 h5
 refine⟨B,(h.a10 h10).trans e,?_⟩
 rw[e3]at c2
 rw[e5]at c3
 refine .mk kb [85] [n] (some ⟨B3,0,none⟩) (some ⟨B5,0,none⟩) 1 1 [(x,y)] rfl h2 (Nat.le_trans hlo h1) c0 c1 c2 c3 ⟨rfl,by simp[maxLen],fun _=>⟨B3,0,rfl,p2,fun j u hu=>?_⟩⟩ ⟨rfl,by simp[maxLen],fun _=>⟨B5,0,rfl,r2,fun j u hu=>?_⟩⟩ (by simp) (by simp) (fun g o _ e=>?_) (fun g o _ e=>?_) (fun p hp=>?_)
 ·match j,hu with
  |0,hu=>simp[Ec]at hu;subst hu;simpa using p3
  |j+1,hu=>simp[Ec]at hu
 ·match j,hu with
  |0,hu=>simp[Do]at hu;subst hu;simpa using r3
  |j+1,hu=>simp[Do]at hu
 ·injection e with e;injection e with e;subst e;omega
 ·injection e with e;injection e with e;subst e;omega
 simp at hp
 subst hp
 exact hy.after h.be
end
end Go.Proofs.YtkgkoicedddkmaaGreatDoor
