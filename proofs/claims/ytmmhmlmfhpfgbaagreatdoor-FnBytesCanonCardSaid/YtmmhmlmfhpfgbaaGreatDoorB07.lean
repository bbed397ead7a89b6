/- Texts joined. Conditions: as each theorem names them. -/
import Derived.Test.YtmmhmlmfhpfgbaaGreatDoorB06
set_option maxRecDepth 100000
set_option maxHeartbeats 32000000
set_option linter.unusedVariables false
set_option linter.unusedSimpArgs false
namespace Go.Proofs.YtmmhmlmfhpfgbaaGreatDoor
open Go.RowKit Go.Proofs.Tryz
section
attribute [local go_sem] Qra Qpu Qo3 Qmi ByteArray.mk_append_mk
structure LbS(w:World)(xv h0 h1:Value)(S:List Ty)(k:Kd)(K:List UInt8->Option (Vl × List UInt8))(n:Nat)(s:List UInt8)(wr:World)(v:Value)(xs:List (Nat × SV))(vs:List Vl)(tt:List UInt8):Prop where
 bel:Below w.heap.size w wr
 st:Eg (w.heap.size+2) (w.heap.size+1) wr h0 h1 (.slice none 0 0) (.slice none 0 0) v v [] xs
 box:wr.cell? ⟨w.heap.size,0,none⟩=some xv
 len:xs.length=vs.length
 eq:xs.map (·.2)=vs.map (Bt S k.part)
 it:Df K n s=(Df K (n - vs.length) tt).map fun y=>(vs++y.1,y.2)
 le:tt.length<=s.length
theorem Qjs(w0:World)(S:List Ty)(xv:Value)(hxv:xv.oneCell'=true)(k:Kd)(sg:List UInt8)(hsg:k.signs=91::sg)(hkl:(Be k).length<=100)(d:Nat)(hd:d<=1000)(n:Nat)(hn:n<=999999)(s:List UInt8)(w:World)(hw:Below w0.heap.size w0 w)(hs:s.length<=999)
  (H:SgC w0 S xv k.part d) (q:Option (Vl × List UInt8)) (hq:q=if 20<n then none else(Df (E9 S d k.part) n s).map fun y=>(.mk 91 [] 0 y.1,y.2)):
  Calls prog 219 #[.agg #[xv],.string ⟨s.toArray⟩,.string ⟨(Be k).toArray⟩,.int .i64 (n:Int),.int .i64 ((d+1:Nat):Int)] w (Bc S k q w):=by
 have hkp:Be k=91::Be k.part:=by unfold Be Kd.part;rw[hsg];rfl
 have HQ:=Aa hq
 have HH:=Aa H
 have HW:=Aa hw
 have Hsv:=Aa (fun ks=>hkp ▸ P9 S k ks)
 have hkl2:(Be k.part).length<=100:=by rw[hkp]at hkl;simp at hkl;omega
 rw[hkp]
 generalize hkk:Be k.part=kp at *
 have Hkk:=Aa hkk
 have ed:(((d+1:Nat):Int)) - 1=(d:Int):=by omega
 have ed2:(((d+1:Nat):Int))<=1001:=by omega
 have ed3:(0:Int)<=(((d+1:Nat):Int)):=by omega
 generalize (((d+1:Nat):Int))=dd at *
 clear H hw hq hkp hkl hkk hsg
 have hb2:Below w.heap.size w ((w.alloc (.cells #[xv] 79)).alloc (.cells #[.string ⟨(91::kp:List UInt8).toArray⟩,.string ⟨#[]⟩,.slice none 0 0,.slice none 0 0] 148)):=((Aq w.heap.size w).alloc (Al _) _).alloc (by simp) _
 have Hb2:=Aa hb2
 by_cases h20:20<n
 ·have k1:(20:Int)<(n:Int):=by omega
  have HN:=Aa (show q=none from by rw[HQ.o,if_pos h20])
  clear hb2
  go_enter func219,ntmps219
  go_wp2_with fail
  go_ret3
  exact Bc.no HN.o rfl Hb2.o
 have k1:¬((20:Int)<(n:Int)):=by omega
 rw[if_neg h20]at HQ
 have Hst:=Aa (show Eg (w.heap.size+2) (w.heap.size+1) ((w.alloc (.cells #[xv] 79)).alloc (.cells #[.string ⟨(91::kp:List UInt8).toArray⟩,.string ⟨#[]⟩,.slice none 0 0,.slice none 0 0] 148)) (.string ⟨(91::kp:List UInt8).toArray⟩) (.string ⟨#[]⟩) (.slice none 0 0) (.slice none 0 0) (.slice none 0 0) (.slice none 0 0) [] []from by
  have:=Eg.new (W:=w.alloc (.cells #[xv] 79)) (T:=148) (.string ⟨(91::kp:List UInt8).toArray⟩) (.string ⟨#[]⟩)
  simpa using this)
 have hbox:((w.alloc (.cells #[xv] 79)).alloc (.cells #[.string ⟨(91::kp:List UInt8).toArray⟩,.string ⟨#[]⟩,.slice none 0 0,.slice none 0 0] 148)).cell? ⟨w.heap.size,0,none⟩=some xv:=by go_simp
 have L0:=Aa (show LbS w xv (.string ⟨(91::kp:List UInt8).toArray⟩) (.string ⟨#[]⟩) S k (E9 S d k.part) n s _ (.slice none 0 0) [] [] s from⟨hb2,Hst.o,hbox,rfl,rfl,by simp,Al _⟩)
 clear hb2 hbox Hst Hb2
 go_enter func219,ntmps219
 go_wp2_with fail
 generalize hW1:World.alloc (World.alloc _ _) _=W1
 rw[hW1]at L0
 clear hW1
 go_loopw [1,14] (fun s0 i wr=>∃(A:Option Addr) (c:Nat) (xs:List (Nat × SV)) (vs:List Vl) (tt:List UInt8),s0=.string ⟨tt.toArray⟩/\i=.int .i64 (xs.length:Int)/\xs.length<=n/\tt.length<=s.length/\Hid (LbS w xv (.string ⟨(91::kp:List UInt8).toArray⟩) (.string ⟨#[]⟩) S k (E9 S d k.part) n s wr (.slice A xs.length c) xs vs tt)) (fun _ i _=>n - (intOf i).toNat)
 case atStart=>exact⟨none,0,[],[],s,rfl,rfl,Nat.zero_le _,Al _,L0.o⟩
 case round=>
  obtain⟨A,c,xs,vs,tt,rfl,rfl,hxn,htl,HL⟩:=hrel
  have c3:=HL.o.st.c3
  have c0:=HL.o.box
  have hlt:=HL.o.st.lt
  by_cases hlt2:xs.length<n
  ·have t20i:(xs.length:Int)<(n:Int):=by omega
   have HC:=Aa (show ∀W,Below w0.heap.size w0 W->Calls prog 178 #[.agg #[xv],.string ⟨tt.toArray⟩,.string ⟨kp.toArray⟩,.int .i64 (d:Int)] W (Bc S k.part (E9 S d k.part tt) W)from fun W hW=>by have:=HH.o tt W hW (by omega);rw[Hkk.o]at this;exact this)
   have HWr:=Aa (show Below w0.heap.size w0 wr.drew from(HW.o.trans (HL.o.bel.mono HW.o.size)).drew)
   have hl0:w.heap.size<wr.heap.size:=by omega
   have d1:(0:Int)<=(d:Int):=by omega
   have d2:(d:Int)<=1000:=by omega
   have hwd:IntKind.i64.wrap (d:Int)=(d:Int):=IntWalk.i64_in _ (by omega)
   go_wp2_with fail
   refine rgT (SrQ wr.drew S k.part (E9 S d k.part tt)) 6 7 (fun W vp vr vk h=>h.1) ?_
   iterate 3 refine sq ?_
   refine sqS (.string ⟨kp.toArray⟩) ?_
   iterate 2 refine sq ?_
   refine sqK (HC.o _ HWr.o) ?_
   refine sqM ?_
   iterate 3 refine sqP ?_
   iterate 3 refine sqA ?_
   intro l u W hl _ hR
   obtain⟨vp,vr,vk,hq5,ua,ub,ue⟩:=RK.fin hR hl (by decide) (by decide)
   simp only[Nat.reduceAdd]at ua ub ue
   simp only[ua,ub,ue]
   clear hR hl ua ub ue
   obtain⟨hb5,hm⟩:=hq5
   have HB5:=Aa (show Below wr.heap.size wr W from(Aq _ _).drew.trans hb5)
   have HS5:=Aa (HL.o.st.after HB5.o)
   have Hw5:=Aa (HL.o.bel.trans (HB5.o.mono HL.o.bel.size))
   have Hx5:=Aa (show W.cell? ⟨w.heap.size,0,none⟩=some xv from(HB5.o.cell (p:=⟨w.heap.size,0,none⟩) (by show w.heap.size<wr.heap.size;omega)).trans c0)
   have hz5:=hb5.size
   have Hit:=Aa (show Df (E9 S d k.part) n s=(Df (E9 S d k.part) (n - vs.length - 1+1) tt).map (fun y=>(vs++y.1,y.2))from by rw[HL.o.it];congr 2;have:=HL.o.len;omega)
   clear c3 c0 hb5
   cases hk:E9 S d k.part tt with
   |none=>
    rw[hk]at hm
    obtain⟨⟨q0,rfl⟩,⟨r0,rfl⟩,rfl⟩:=hm
    have HN:=Aa (show q=none from by rw[HQ.o,Hit.o];unfold Df;rw[hk];rfl)
    clear hk
    go_wp2_with fail
    go_ret3
    exact Bc.no HN.o rfl Hw5.o
   |some y=>
    obtain⟨v,r⟩:=y
    rw[hk]at hm
    obtain⟨⟨b,rfl,hsv⟩,rfl,rfl⟩:=hm
    have hrl:r.length<=tt.length:=by have:=Sw d k.part tt v r hk;omega
    have Hsv5:=Aa (show En (fun c1=>w.heap.size+2<=c1/\(Value.slice A xs.length c).ownBlock≠some c1/\(Value.slice none 0 0).ownBlock≠some c1) W b (Bt S k.part v)from by
     refine hsv.mono fun c1 hc _=>⟨Nat.le_trans HL.o.st.bs hc,fun e=>?_,by simp[Value.ownBlock]⟩
     have h1:=(HL.o.st.row.lt c1 e).2
     have h2:wr.heap.size<=c1:=hc
     omega)
    have HI:=Aa (show Df (E9 S d k.part) n s=(Df (E9 S d k.part) (n - (vs++[v]).length) r).map (fun y=>((vs++[v])++y.1,y.2))from by
     rw[Hit.o]
     simp only[Df,hk,List.length_append,List.length_singleton]
     rw[show n - vs.length - 1=n - (vs.length+1)by omega]
     cases Df (E9 S d k.part) (n - (vs.length+1)) r<;>simp)
    clear hk hsv
    have s3:=HS5.o.c3
    have s4:=HS5.o.lt
    go_wp2_with (at_builtin;go_loud (refine Fg _ rfl _ _ 146 rfl (w.heap.size+2) 76 (.pointer none) 8 underlying146 Rt rfl W (.pointer (some ⟨b,0,none⟩)) rfl rfl (.slice A xs.length c) xs.length (Dr (xs.map (·.1))) rfl rfl HS5.o.row (by unfold maxLen;omega) (by omega) HS5.o.bs ?_;intro v6 w6 hown6 hg6 hwh6;obtain⟨A6,c6,e6,hS6,hb6⟩:=HS5.o.push (x:=(b,Bt S k.part v)) Hsv5.o hown6 hg6 hwh6;subst e6;have HS6:=Aa hS6;have HB6:=Aa hb6;have p3:=hS6.c3;have f3:=hS6.bk.live 3;have hz6:=hS6.lt;clear hS6 hb6 hown6 hg6 hwh6))
    have hw6:=HB6.o.mono (show w.heap.size<=w.heap.size+2 by omega)
    have Hbel:=Aa ((Hw5.o.trans hw6).setCell (p:=⟨w.heap.size+1,3,none⟩) (show w.heap.size<=w.heap.size+1 by omega) (.slice A6 (xs++[(b,Bt S k.part v)]).length c6))
    have Hst7:=Aa HS6.o.set3
    have Hbx7:=Aa ((Ai w6 (w.heap.size+1) 3 (.slice A6 (xs++[(b,Bt S k.part v)]).length c6)).cell ((HB6.o.cell (p:=⟨w.heap.size,0,none⟩) (show w.heap.size<w.heap.size+2 by omega)).trans Hx5.o) (by simp))
    have Heq7:=Aa (show (xs++[(b,Bt S k.part v)]).map (·.2)=(vs++[v]).map (Bt S k.part)from by simp[HL.o.eq])
    have el:(xs++[(b,Bt S k.part v)]).length=xs.length+1:=by simp
    rw[el]at Hbel Hst7 Hbx7
    have Hlen7:=Aa (show (xs++[(b,Bt S k.part v)]).length=(vs++[v]).length from by simp[HL.o.len])
    go_roundw
    case rel=>exact⟨A6,c6,_,vs++[v],r,rfl,by rw[el];simp,by omega,by omega,⟨Hbel.o,by rw[el];exact Hst7.o,Hbx7.o,Hlen7.o,Heq7.o,HI.o,by omega⟩⟩
    case measure=>simp[intOf]<;>omega
  ·have t20i:¬((xs.length:Int)<(n:Int)):=by omega
   have HY:=Aa (show q=some (.mk 91 [] 0 vs,tt)from by rw[HQ.o,HL.o.it,show n - vs.length=0 by have:=HL.o.len;omega];simp[Df])
   go_wp2_with fail
   go_ret3
   rw[HY.o]
   refine⟨⟨w.heap.size+1,rfl,?_⟩,HL.o.bel⟩
   rw[Hsv.o,<-HL.o.eq]
   have hd:=HL.o.st.done (kind:=91::kp) (text:=[]) (by simp) (by omega)
   exact hd.mono fun c1 hc _=>by have:w.heap.size+1<=c1:=hc;show w.heap.size<=c1;omega
theorem Qj0(w0:World)(S:List Ty)(xv:Value)(hxv:xv.oneCell'=true)(k:Kd)(sg:List UInt8)(hsg:k.signs=91::sg)(hkl:(Be k).length<=100)(d:Nat)(hd:d<=900)(s:List UInt8)(hne:s≠[])(w:World)(hw:Below w0.heap.size w0 w)(hs:s.length<=999)
  (H:SgC w0 S xv k.part d) (q:Option (Vl × List UInt8)) (hq:q=match Ag s with|none=>none|some (n,r)=>if 20<n then none else(Df (E9 S d k.part) n r).map fun y=>(.mk 91 [] 0 y.1,y.2)):
  Calls prog 178 #[.agg #[xv],.string ⟨s.toArray⟩,.string ⟨(Be k).toArray⟩,.int .i64 ((d+1:Nat):Int)] w (Bc S k q w):=by
 have hkp:Be k=91::Be k.part:=by unfold Be Kd.part;rw[hsg];rfl
 have e0:(s == [])=false:=by cases s with|nil=>exact absurd rfl hne|cons c r=>rfl
 have e1:¬(((d+1:Nat):Int)<1):=by omega
 have HN:=Aa (fun W=>Ji s W (by omega))
 have HQ:=Aa hq
 have HL:=Aa (fun n r (h:Ag s=some (n,r)) W (hW:Below w0.heap.size w0 W)=>Qjs w0 S xv hxv k sg hsg hkl d (by omega) n (Cq h).1 r W hW (by have:=(Cq h).2;omega) H _ rfl)
 rw[hkp]at HL ⊢
 have HW:=Aa hw
 generalize (((d+1:Nat):Int))=dd at *
 clear H hw hq hne hkl hkp hsg
 generalize Ag s=o at *
 have HB:=Aa (show Below w.heap.size w (w.alloc (.cells #[xv] 79))from(Aq _ _).alloc (Al _) _)
 cases o with
 |none=>
  unfold ngV at HN
  go_enter func178,ntmps178
  go_wp2_with fail
  refine(HN.o _).mono ?_
  rintro e w2 ⟨rfl,k2,rfl⟩
  go_wp2_with fail
  go_ret3
  exact .no HQ.o rfl (below_drewN HB.o k2)
 |some y=>
  obtain⟨n,r⟩:=y
  unfold ngV at HN
  have HL:=Aa (HL.o n r rfl)
  have HQ:=Aa (show q=if 20<n then none else(Df (E9 S d k.part) n r).map fun y=>(.mk 91 [] 0 y.1,y.2)from HQ.o)
  rw[<-HQ.o]at HL
  go_enter func178,ntmps178
  go_wp2_with fail
  refine(HN.o _).mono ?_
  rintro e w2 ⟨rfl,k2,rfl⟩
  have Hb2:=Aa (below_drewN HB.o k2)
  have c0:((w.alloc (.cells #[xv] 79)).drewN k2).cell? ⟨w.heap.size,0,none⟩=some xv:=by rw[World.cell?_drewN];simp
  generalize hw2:World.drewN _ k2=w2
  rw[hw2]at Hb2 c0
  clear hw2
  go_wp2_with fail
  refine(HL.o w2 (HW.o.trans (Hb2.o.mono HW.o.size))).mono ?_
  rintro e w3 ⟨ho,hb3⟩
  have Hb3:=Aa (Hb2.o.trans (hb3.mono Hb2.o.size))
  have hz:=Hb2.o.size
  clear hb3 HL HQ
  cases q with
  |none=>
   obtain⟨qa,ra,rfl⟩:=ho
   go_wp2_with fail
   go_ret3
   exact .no rfl rfl Hb3.o
  |some y=>
   obtain⟨b,rfl,hv⟩:=ho
   have HV:=Aa (hv.mono (Q:=fun c=>w.heap.size<=c) fun c hc _=>Nat.le_trans hz hc)
   clear hv
   go_wp2_with fail
   go_ret3
   exact⟨⟨b,rfl,HV.o⟩,Hb3.o⟩
theorem En.one{P:Nat->Prop}{w:World}{kind text:List UInt8}{b:Nat}{v:SV}(h:En P w b v)(hP:∀c,w.heap.size<=c->P c){T U:TypeId}:
  En P ((w.alloc (.cells #[.pointer (some ⟨b,0,none⟩)] T)).alloc (.cells #[.string ⟨kind.toArray⟩,.string ⟨text.toArray⟩,.slice none 0 0,.slice (some ⟨w.heap.size,0,none⟩) 1 1] U)) (w.heap.size+1) (.mk kind text [] [v]):=by
 have hb:Below w.heap.size w ((w.alloc (.cells #[.pointer (some ⟨b,0,none⟩)] T)).alloc (.cells #[.string ⟨kind.toArray⟩,.string ⟨text.toArray⟩,.slice none 0 0,.slice (some ⟨w.heap.size,0,none⟩) 1 1] U)):=((Aq w.heap.size w).alloc (Al _) _).alloc (by simp) _
 refine .mk kind text [] none (some ⟨w.heap.size,0,none⟩) 0 1 [(b,v)] rfl (by simp) (hP _ (by omega)) (by simp[go_sem]) (by simp[go_sem]) (by simp[go_sem]) (by simp[go_sem]) ⟨rfl,Nat.zero_le _,fun h=>absurd h (by simp)⟩ ⟨by simp[Dr],by simp[maxLen],fun _=>⟨w.heap.size,0,rfl,by simp;omega,fun j u hu=>?_⟩⟩ (by simp) (by simp) (fun _ _ h=>absurd h (by simp)) (fun g o _ e=>?_) (fun x hx=>?_)
 ·match j,hu with
  |0,hu=>simp[Dr]at hu;subst hu;simp[go_sem]
  |j+1,hu=>simp[Dr]at hu
 ·injection e with e;injection e with e;subst e;exact hP _ (Al _)
 simp at hx;subst hx;exact h.after hb
structure BxS(w:World)(v:SV)(l2 l5:Bool)(u2 u5:Value)(W:World):Prop where
 b:Below w.heap.size w W
 d:l2=true->∃b,u2=.pointer (some ⟨b,0,none⟩)/\En (fun c=>w.heap.size<=c) W b v
 e:l5=true->u5=u2
theorem Qkw(w0:World)(S:List Ty)(xv:Value)(hxv:xv.oneCell'=true)(k:Kd)(sg:List UInt8)(hsg:k.signs=63::sg)(hkl:(Be k).length<=100)(d:Nat)(hd:d<=900)(s:List UInt8)(hne:s≠[])(w:World)(hw:Below w0.heap.size w0 w)(hs:s.length<=999)
  (H:SgC w0 S xv k.part d) (q:Option (Vl × List UInt8)) (hq:q=match s with|[]=>none|x::r=>if x=0 then some (.mk 63 [] 0 [],r)else if x=1 then(E9 S d k.part r).map (fun y=>(.mk 63 [] 0 [y.1],y.2))else none):
  Calls prog 178 #[.agg #[xv],.string ⟨s.toArray⟩,.string ⟨(Be k).toArray⟩,.int .i64 ((d+1:Nat):Int)] w (Bc S k q w):=by
 have hkp:Be k=63::Be k.part:=by unfold Be Kd.part;rw[hsg];rfl
 cases s with
 |nil=>exact absurd rfl hne
 |cons c r=>
  simp only at hq
  have e1:¬(((d+1:Nat):Int)<1):=by omega
  have ed:(((d+1:Nat):Int)) - 1=(d:Int):=by omega
  have ed2:(((d+1:Nat):Int))<=1001:=by omega
  have ed3:(0:Int)<=(((d+1:Nat):Int)):=by omega
  have hlr:r.length+1<=999:=by simpa using hs
  have k5:(1:Int)<=(r.length:Int)+1:=by omega
  have HC:=Aa (fun W (hW:Below w0.heap.size w0 W)=>H r W hW (by omega))
  have HW:=Aa hw
  have HK:=Aa hkp
  have hkl2:(Be k.part).length<=100:=by rw[hkp]at hkl;simp at hkl;omega
  have Hsv:=Aa (fun ks=>hkp ▸ Mg S k ks)
  rw[hkp]
  generalize Be k.part=kp at *
  generalize (((d+1:Nat):Int))=dd at *
  have HB:=Aa (show Below w.heap.size w (w.alloc (.cells #[xv] 79))from(Aq _ _).alloc (Al _) _)
  clear H hw hne hkl hkp hsg hs
  by_cases h0:c=0
  ·subst h0
   have HQ:=Aa (show q=some (.mk 63 [] 0 [],r)from hq)
   clear hq HC
   go_enter func178,ntmps178
   go_wp2_with fail
   generalize hwg:World.alloc w _=w1
   rw[hwg]at HB
   clear hwg
   refine rgF (fun l u W=>BxS w1 (.mk (63::kp) [] [] []) (l 2) (l 5) (u 2) (u 5) W) (fun _=>True) (fun _ _ _ _=>Ae) ⟨(Aq _ _).drew,by simp,by simp⟩ ?_
   refine sq ?_
   refine Ju (fun v=>v=.agg #[.string ⟨(63::kp:List UInt8).toArray⟩,.string ⟨#[]⟩,.slice none 0 0,.slice none 0 0]) (by
    intro l u W hl hp hF hG hi K hK
    simp[Region.binds,Co]at hp
    clear hi hG
    go_simp
    exact hK (.agg #[.string ⟨(63::kp:List UInt8).toArray⟩,.string ⟨#[]⟩,.slice none 0 0,.slice none 0 0]) _ _ rfl hF.o (by simp[Act.put,hp])) ?_
   refine Ju (fun v=>∃b,v=.pointer (some ⟨b,0,none⟩)) (by
    intro l u W hl hp hF hG hi K hK
    simp[Region.binds,Co]at hp
    have h5:l 5=false:=(hi.o 5 (by rfl)).1
    have hb:=hF.o.b
    have hbs:=hb.size
    clear hi hG hF
    go_simp
    exact hK (.pointer (some ⟨W.heap.size,0,none⟩)) _ _ ⟨_,rfl⟩ ⟨hb.alloc hbs _,fun _=>⟨W.heap.size,rfl,En.leaf hbs⟩,fun h=>absurd (h5.symm.trans h) (by decide)⟩ (by simp[Act.put,hp])) ?_
   refine sq ?_
   refine Ju (fun v=>v=.string ⟨r.toArray⟩) (by
    intro l u W hl hp hF hG hi K hK
    simp[Region.binds,Co]at hp
    clear hi hG
    go_simp
    exact hK (.string ⟨r.toArray⟩) _ _ rfl hF.o (by first|rfl|(simp[Act.put,hp];done)|(simp[Act.put,hp];exact rfl))) ?_
   refine Ju (fun v=>∃b,v=.pointer (some ⟨b,0,none⟩)) (by
    intro l u W hl hp hF hG hi K hK
    simp[Region.binds,Co]at hp
    have h2:l 2=true:=by simp[hp]
    obtain⟨b,e1,e2⟩:=hF.o.d h2
    clear hi hG
    go_simp
    exact hK (u 2) _ _ ⟨b,e1⟩ ⟨hF.o.b,hF.o.d,fun _=>rfl⟩ (by simp[Act.put,hp,e1])) ?_
   iterate 2 refine sq ?_
   intro l u W hl hu hR
   obtain⟨b,e1,e2⟩:=hR.d (hl 2 (by decide))
   have e10:=(hR.e (hl 5 (by decide))).trans e1
   have Hb2:=Aa (HB.o.trans (hR.b.mono HB.o.size))
   have E2:=Aa e2
   simp only[N6,List.nil_append,List.cons_append,Nat.zero_add,Nat.reduceAdd]at hu
   have U:=Aa hu
   clear hu hl hR e2
   go_wp2_with fail
   go_ret3
   obtain⟨_,_,_,_,_,_,u6,u7,_⟩:=U.o
   rw[HQ.o]
   refine⟨⟨b,?_,?_⟩,Hb2.o⟩
   ·show Ending.returned (.tuple #[u 5,u 6,u 7])=_
    rw[e10,u6,u7]
   rw[Hsv.o]
   exact E2.o.mono fun c hc _=>Nat.le_trans HB.o.size hc
  by_cases h1:c=1
  ·subst h1
   have HQ:=Aa (show q=(E9 S d k.part r).map (fun y=>(.mk 63 [] 0 [y.1],y.2))from hq)
   clear hq h0 k5
   go_enter func178,ntmps178
   go_wp2_with fail
   have c0:(w.alloc (.cells #[xv] 79)).cell? ⟨w.heap.size,0,none⟩=some xv:=by simp
   have hl0:w.heap.size<(w.alloc (.cells #[xv] 79)).heap.size:=by simp
   generalize hwg:w.alloc (.cells #[xv] 79)=w1 at *
   clear hwg
   have hwd:IntKind.i64.wrap (d:Int)=(d:Int):=IntWalk.i64_in _ (by omega)
   have HWr:=Aa (show Below w0.heap.size w0 w1.drew from(HW.o.trans (HB.o.mono HW.o.size)).drew)
   refine rgT (SrQ w1.drew S k.part (E9 S d k.part r)) 7 8 (fun W vp vr vk h=>h.1) ?_
   iterate 2 refine sq ?_
   refine sqS (.string ⟨r.toArray⟩) ?_
   refine sq ?_
   refine sqS (.string ⟨kp.toArray⟩) ?_
   iterate 2 refine sq ?_
   refine sqK (HC.o _ HWr.o) ?_
   refine sqM ?_
   iterate 3 refine sqP ?_
   iterate 3 refine sqA ?_
   intro l u W hl _ hR
   obtain⟨vp,vr,vk,hq5,ua,ub,ue⟩:=RK.fin hR hl (by decide) (by decide)
   simp only[Nat.reduceAdd]at ua ub ue
   simp only[ua,ub,ue]
   clear hR hl ua ub ue HWr HC
   obtain⟨hb5,hm⟩:=hq5
   have HB5:=Aa (HB.o.trans (((Aq _ _).drew.trans hb5).mono HB.o.size))
   have hz5:w1.heap.size<=W.heap.size:=hb5.size
   have Hal:=Aa (fun a b=>(HB5.o.alloc HB5.o.size a).alloc (by simp;exact Nat.le_succ_of_le HB5.o.size) b)
   clear hb5 c0
   cases hk:E9 S d k.part r with
   |none=>
    rw[hk]at hm HQ
    obtain⟨⟨q0,rfl⟩,⟨r0,rfl⟩,rfl⟩:=hm
    have HQ:=Aa (show q=none from HQ.o)
    clear hk
    go_wp2_with fail
    go_ret3
    exact .no HQ.o rfl (Hal.o _ _)
   |some y=>
    obtain⟨v,z⟩:=y
    rw[hk]at hm HQ
    obtain⟨⟨b,rfl,hsv⟩,rfl,rfl⟩:=hm
    have HQ:=Aa (show q=some (.mk 63 [] 0 [v],z)from HQ.o)
    have HV:=Aa (hsv.mono (Q:=fun c=>w.heap.size<=c) fun c hc _=>by have h:w1.heap.size<=c:=hc;omega)
    clear hk hsv
    go_wp2_with fail
    go_ret3
    rw[HQ.o]
    refine⟨⟨W.heap.size+1,rfl,?_⟩,Hal.o _ _⟩
    rw[Hsv.o]
    exact HV.o.one (kind:=63::kp) (text:=[]) fun c hc=>by show w.heap.size<=c;omega
  have HQ:=Aa (show q=none from by rw[hq,if_neg h0,if_neg h1])
  have a0:((c.toNat:Int) == 0)=false:=by
   have a:c.toNat≠0:=fun e=>h0 (UInt8.toNat_inj.1 e)
   simpa using a
  have a1:((c.toNat:Int) != 1)=true:=by
   have a:c.toNat≠1:=fun e=>h1 (UInt8.toNat_inj.1 e)
   simp;omega
  have b0:¬((c.toNat:Int)=0):=by simpa using a0
  have b1:¬((c.toNat:Int)=1):=by simpa using a1
  clear hq h0 h1 HC
  go_enter func178,ntmps178
  go_wp2_with fail
  go_ret3
  exact .no HQ.o rfl HB.o
def sfR:Option Fd->Value
 |some f=>.tuple #[sfV f,.bool true]
 |none=>.tuple #[sf0,.bool false]
theorem Pm(st nm fv:Value)(fs:List Fd)(n:Nat)(w:World)(h:D8 w fv fs)(hn:n<=1000000000):
  Calls prog 171 #[.agg #[st,nm,fv],.int .i64 n] w fun e w'=>e=.returned (sfR (Ap fs n))/\Below w w w':=by
 obtain⟨A,c,rfl,hl,hr⟩:=h;have Hr:=Aa hr;clear hr;go_enter func171,ntmps171;go_wp2_with fail;go_loopw [6] (fun i wr=>∃k:Nat,i=.int .i64 k/\k<=fs.length/\wr=(w.alloc (.cells #[st,nm,.slice A fs.length c] 143)).alloc (.cells #[.int .i64 0,a6,a6,a6] 157)/\Hid (∀f∈fs.take k,decide (f.tag=n)=false)) (fun i _=>fs.length - (intOf i).toNat)
 case atStart=>exact⟨0,rfl,ag _,rfl,by intro f hf;simp at hf⟩
 case round=>
  obtain⟨k,rfl,hk,rfl,hin⟩:=hrel;by_cases hlt:k<fs.length
  ·obtain⟨b,off,rfl,hb,c0,c1,c2,c3⟩:=D8.at_ Hr.o hlt;have Hts:=Aa (Cv fs k hlt);have Hft:=Aa (Tr (p:=fun f=>decide (f.tag=n)) hlt hin.o);generalize fs[k]=f at c0 c1 c2 c3 Hts Hft;have k1:(0:Int)<=(k:Int):=aI;have k2:(k:Int)<(fs.length:Int):=aI;by_cases he:f.tag=n
   ·have t1:((f.tag:Int) == (n:Int))=true:=by simp[he]
    have Hfin:=Aa (show Ap fs n=some f by unfold Ap;rw[Hft.o,if_pos cQ]);clear he;go_wp2_with fail;exact aG (v:=.tuple #[sfV f,.bool true]) (by simp[results,results171,go_sem,sfV]) rfl ⟨by rw[Hfin.o];rfl,((Aq _ _).alloc (Al _) _).alloc aK _⟩
   have t1:((f.tag:Int) == (n:Int))=false:=cf
   have Hin:=Aa (show ∀g∈fs.take (k+1),decide (g.tag=n)=false by
    intro g hg;rw[Hts.o]at hg;rcases af.1 hg with hg|hg
    ·exact hin.o g hg
    simp at hg;subst hg;simpa using he)
   clear he;go_wp2_with fail;go_roundw
   case rel=>exact⟨k+1,by go_num,by omega,Ae,Hin.o⟩
   case measure=>simp[intOf];omega
  ·have Hfin:=@Aa (Ap fs n=none) (Ng (fun f hf=>hin.o f du));go_wp2_with fail;exact aG (v:=.tuple #[sf0,.bool false]) (by simp[results,results171,go_sem,sf0]) rfl ⟨by rw[Hfin.o];rfl,((Aq _ _).alloc (Al _) _).alloc aK _⟩
def Rv:Option (Ty × Value)->Value
 |some x=>.tuple #[Pu x.1 x.2,.bool true]
 |none=>.tuple #[Pt,.bool false]
theorem Vr(v:Value)(xs:List (Ty × Value))(n:List UInt8)(w:World)(h:Gj w v xs):
  Calls prog 98 #[v,n] w fun e w'=>e=.returned (Rv (D9 xs n))/\Below w w w':=by
 obtain⟨A,c,rfl,hl,hr,hf⟩:=h;have Hr:=Aa hr;have Hf:=Aa hf;clear hr hf;go_enter func98,ntmps98;go_wp2_with fail;go_loopw [6] (fun i wr=>∃k:Nat,i=.int .i64 k/\k<=xs.length/\wr=w.alloc (.cells #[.int .u8 0,a6,.slice none 0 0] 143)/\Hid (∀x∈xs.take k,decide (x.1.name=n)=false)) (fun i _=>xs.length - (intOf i).toNat)
 case atStart=>exact⟨0,rfl,ag _,rfl,by intro f hf;simp at hf⟩
 case round=>
  obtain⟨k,rfl,hk,rfl,hin⟩:=hrel;by_cases hlt:k<xs.length
  ·obtain⟨b,off,rfl,hb,c0,c1,c2⟩:=Gj.at_ Hr.o hlt;have Hts:=Aa (Cv xs k hlt);have Hft:=Aa (Tr (p:=fun x=>decide (x.1.name=n)) hlt hin.o);have hfx:=Hf.o _ (ae hlt);generalize xs[k]=x at c0 c1 c2 Hts Hft hfx;obtain⟨t,fv⟩:=x;simp only[]at c0 c1 c2 hfx;obtain⟨A2,d2,hfv,_⟩:=hfx;subst hfv;have k1:(0:Int)<=(k:Int):=aI;have k2:(k:Int)<(xs.length:Int):=aI;by_cases he:t.name=n
   ·have t1:(t.name == n)=true:=by simp[he]
    have Hfin:=Aa (show D9 xs n=some (t,.slice A2 t.fields.length d2)by unfold D9;rw[Hft.o,if_pos cQ]);clear he;go_wp2_with fail;refine aG (v:=.tuple #[Pu t (.slice A2 t.fields.length d2),.bool true]) (by simp[results,results98,go_sem,Pu]) rfl ?_;exact iN
   have t1:(t.name == n)=false:=cQ
   have Hin:=Aa (show ∀g∈xs.take (k+1),decide (g.1.name=n)=false by
    intro g hg;rw[Hts.o]at hg;rcases af.1 hg with hg|hg
    ·exact hin.o g hg
    simp at hg;subst hg;simpa using he)
   clear he;go_wp2_with fail;go_roundw
   case rel=>exact⟨k+1,by go_num,by omega,Ae,Hin.o⟩
   case measure=>simp[intOf];omega
  ·have Hfin:=@Aa (D9 xs n=none) (Ng (fun f hf=>hin.o f du));go_wp2_with fail;refine aG (v:=.tuple #[Pt,.bool false]) (by simp[results,results98,go_sem,Pt]) rfl ?_;exact iN
theorem Qnp{k:Kd}(h:Cw k):(k.signs=[]/\k.base=[64]/\Be k=64::(k.name++[59])/\k.name.length<=3)\/(¬(k.signs=[]/\k.base=[64])/\∃c t,Be k=c::t/\c≠64/\t.length<=12):=by
 obtain⟨h1,h2,h3⟩:=h;cases hs:k.signs with
 |cons c t=>
  refine .inr ⟨by simp,c,t++Cj k,by unfold Be;rw[hs];rfl,?_,?_⟩
  ·rw[hs]at h1;simp only[List.all_cons,ax]at h1;rintro rfl;exact absurd h1.1 aL
  unfold Be at h3;rw[hs]at h3;simp at h3 ⊢;omega
 |nil=>
  rcases h2 with⟨hb,hn⟩|⟨hb,_⟩
  ·exact .inl ⟨rfl,hb,by unfold Be Cj;rw[hs,if_pos hb];rfl,(Fc.1 hn).2.1⟩
  refine .inr ⟨?_,?_⟩
  ·rintro⟨_,h⟩;rcases hb with hb|hb|hb<;>· rw[hb]at h;revert h;decide
  have hc:Be k=k.base:=by
   unfold Be Cj;rw[hs,if_neg (by rcases hb with hb|hb|hb<;>· rw[hb];decide)];rfl
  rw[hc];rcases hb with hb|hb|hb<;>· rw[hb];exact⟨_,_,rfl,by decide,by simp⟩
theorem Fb(v:Value)(xs:List (Ty × Value))(k:Kd)(w:World)(h:Gj w v xs)(hk:Cw k):
  Calls prog 101 #[v,.string ⟨(Be k).toArray⟩] w fun e w'=>e=.returned (Rv (Jn xs k))/\Below w w w':=by
 have H:=Aa h;clear h;rcases Qnp hk with⟨h1,h2,h3,h4⟩|⟨h1,c,t,h3,h4,h5⟩
 ·have Hr:=@Aa (Jn xs k=D9 xs k.name) (if_pos ⟨h1,h2⟩);rw[h3];clear h1 h2 h3;go_enter func101,ntmps101;go_wp2_with fail;refine(Qbd k.name _ aI).mono ?_;rintro e w' ⟨rfl,rfl⟩;go_wp2_with fail;refine(Vr v xs k.name _ (H.o.below ((Aq _ _).alloc (Al _) _))).mono ?_;rintro e w2 ⟨rfl,hb⟩;cases hf:D9 xs k.name with
  |none=>
   rw[hf]at Hr;obtain⟨hc,hfz,hz⟩:=Ci hb;have Hb:=Aa (((Aq w.heap.size w).alloc (Al _) _).trans (hb.mono aK));clear hb hf;unfold Rv Pt;go_wp2_with fail;refine aG (v:=.tuple #[Pt,.bool false]) (by simp[results,results101,go_sem,Pt,hc]) rfl ?_;exact iO
  |some x=>
   obtain⟨t,fv⟩:=x;have hm:=(Cl hf).1;obtain⟨A,c,_,_,_,hfs⟩:=H.o;obtain⟨A2,d2,e2,_⟩:=hfs _ hm;simp only at e2;subst e2;rw[hf]at Hr;obtain⟨hc,hfz,hz⟩:=Ci hb;have Hb:=Aa (((Aq w.heap.size w).alloc (Al _) _).trans (hb.mono aK));clear hb hf hm hfs;unfold Rv Pu;go_wp2_with fail;refine aG (v:=.tuple #[Pu t (.slice A2 t.fields.length d2),.bool true]) (by simp[results,results101,go_sem,Pu,hc]) rfl ?_;exact iO
 have Hr:=@Aa (Jn xs k=none) (if_neg h1);rw[h3];clear h1 h3;go_enter func101,ntmps101;go_wp2_with fail;refine(Qdt c t _ h4 aI).mono ?_;rintro e w' ⟨rfl,rfl⟩;go_wp2_with fail;refine aG (v:=.tuple #[Pt,.bool false]) (by simp[results,results101,go_sem,Pt]) rfl ?_;exact⟨by rw[Hr.o];rfl,(Aq _ _).alloc (Al _) _⟩
theorem Qmm(S:List Ty)(n:Nat)(t:Ty)(h:t.sort≠85):By S (n+1) t=true:=by
 simp only[By,Gb,if_neg h]
theorem Qlm(xs:List (Ty × Value))(n:Nat)(t:Ty)(f:Fd)(fs:List Fd)(h:t.sort=85)(hf:t.fields=f::fs):
  By (Af xs) (n+1) t=(match Jn xs f.kind with|none=>true|some u=>By (Af xs) n u.1):=by
 simp only[By,Gb,if_pos h,hf,Jn];by_cases hk:f.kind.signs=[]/\f.kind.base=[64]
 ·rw[if_pos hk,if_pos hk,Jq];cases D9 xs f.kind.name<;>rfl
 rw[if_neg hk,if_neg hk]
theorem Qgi{t:Ty}(h:Ek t)(hs:t.sort=85):∃f fs,t.fields=f::fs/\Cw f.kind:=by
 obtain⟨h1,h2,h3,h4,h5⟩:=h;cases hf:t.fields with
 |nil=>have:=h5 hf;rw[hs]at this;exact absurd this aL
 |cons f fs=>
  refine⟨f,fs,rfl,?_⟩;have:=h3.1 f dF;exact(this.2.2.2.2 dJ).1
theorem Qlq{xs:List (Ty × Value)}{k:Kd}{x:Ty × Value}(h:Jn xs k=some x):x∈xs:=by
 unfold Jn at h;split at h
 ·exact(Cl h).1
 cases h
theorem Qix(v fv:Value)(xs:List (Ty × Value))(t:Ty)(w:World)(h:Gj w v xs)(ht:Ek t)(hft:D8 w fv t.fields)(hok:∀x∈xs,Ek x.1):
  Calls prog 204 #[v,Pu t fv] w fun e w'=>e=.returned (.bool (By (Af xs) (xs.length+1) t))/\Below w w w':=by
 have H:=Aa h;have Hok:=Aa hok;obtain⟨A,c,rfl,hxl,_⟩:=h;obtain⟨A1,c1,rfl,hfl,hr1⟩:=hft;have Hr1:=Aa hr1;have Ht:=Aa ht;clear hok hr1 ht;unfold Pu;go_enter func204,ntmps204;go_wp2_with fail
 go_loopw [5] (fun i wr=>∃(n:Nat) (cur:Ty) (A2:Option Addr) (c2:Nat),i=.int .i64 n/\n<=xs.length+1/\Hid (Ek cur)/\Hid (Ca w A2 (cur.fields.length*4) (cur.fields.flatMap sfc)) /\
   Hid (By (Af xs) (xs.length+1) t=By (Af xs) (xs.length+1 - n) cur)/\Hid (Below w w wr)/\w.heap.size<wr.heap.size /\
   wr.cell? (w,0)=some (.int .u8 (cur.sort.toNat:Int))/\wr.cell? (w,1)=cur.name/\wr.cell? (w,2)=some (.slice A2 cur.fields.length c2) /\
   (∀j,wr.frozen? ⟨w.heap.size,j,none⟩=false)) (fun i _=>xs.length+1 - (intOf i).toNat)
 case atStart=>exact⟨0,t,A1,c1,rfl,ag _,Ht.o,Hr1.o,rfl,(Aq _ _).alloc (Al _) _,by simp,by simp,by simp,by simp,by simp⟩
 case round=>
  obtain⟨n,cur,A2,c2,rfl,hn,hcu,hrow,heq,hb,hsz,u0,u1,u2,f1⟩:=hrel;by_cases hlt:n<=xs.length
  ·have k1:(n:Int)<=(xs.length:Int):=aI;obtain⟨m,hm⟩:∃m,xs.length+1 - n=m+1:=⟨xs.length - n,by omega⟩
   have hm2:xs.length+1 - (n+1)=m:=aI;rw[hm]at heq;have hcl:=cur.sort.toNat_lt;by_cases hs:cur.sort=85
   ·have t1:((cur.sort.toNat:Int) != 85)=false:=by have:=Bv hs;simpa using this
    have t2:((cur.sort.toNat:Int) == 85)=true:=Bv hs;obtain⟨f,fs,hfs,hkd⟩:=Qgi hcu.o hs;have Heq:=Aa (show By (Af xs) (xs.length+1) t=(match Jn xs f.kind with|none=>true|some u=>By (Af xs) m u.1)by rw[heq.o];exact Qlm xs m cur f fs hs hfs);have hlf:0<cur.fields.length:=cG;have hf0:cur.fields[0]=f:=by simp[hfs]
    obtain⟨b,off,rfl,hbl,g0,g1,g2,g3⟩:=D8.at_ (hrow.o.below hb.o) hlf;rw[hf0]at g0 g1 g2 g3;simp only[Nat.zero_mul,Nat.add_zero]at g0 g1 g2 g3;have Hkd:=Aa hkd;have l1:(0:Int)<(cur.fields.length:Int):=aI;clear hs heq hkd hf0 hfs;go_wp2_with fail;refine(Fb (.slice A xs.length c) xs f.kind _ (H.o.below hb.o) Hkd.o).mono ?_;rintro e w4 ⟨rfl,hb4⟩;obtain⟨hc4,hfz4,hz4⟩:=Ci hb4;have Hb5:=Aa (hb.o.trans (hb4.mono (Nat.le_of_lt hsz)));rw[<-hc4 _ _ hsz]at u0 u1 u2;have f1':∀j,w4.frozen? ⟨w.heap.size,j,none⟩=false:=fun j=>(hfz4 _ j hsz).trans (f1 j);have hsz4:=hz4 _ hsz;have Hrow':=Aa (fun(x:Ty × Value) (hx:x∈xs)=>((show ∀x∈xs,D8 w x.2 x.1.fields from(by obtain⟨_,_,_,_,_,hf⟩:=H.o;exact hf)) x hx));have hn1:¬(w4.heap.size=w.heap.size):=aI;have hn2:¬(w.heap.size=w4.heap.size):=aI;clear hb4 hc4 hfz4 hz4 f1 hb;cases hr:Jn xs f.kind with
    |none=>
     rw[hr]at Heq;unfold Rv Pt;go_wp2_with fail;go_ret;exact⟨by rw[Heq.o];first|rfl|trivial,bV⟩
    |some x=>
     rw[hr]at Heq;obtain⟨u,uv⟩:=x;have Hm:=Aa (Qlq hr);obtain⟨A5,c5,e5,_,hr5⟩:=Hrow'.out _ Hm.o;simp only[]at e5 hr5;subst e5;have Hr5:=Aa hr5;clear hr hr5;unfold Rv Pu;go_wp2_with fail;go_roundw
     case rel=>
      refine⟨n+1,u,A5,c5,by go_num,by omega,Hok.o _ Hm.o,Hr5.o,by rw[hm2];exact Heq.o,bV,by simp;omega,by simp[go_sem,u0,u1,u2,f1',hn1,hn2,hsz4],by simp[go_sem,u0,u1,u2,f1',hn1,hn2,hsz4],by simp[go_sem,u0,u1,u2,f1',hn1,hn2,hsz4],by intro j;simp[go_sem,f1',hn1,hn2,hsz4]⟩
     case measure=>simp[intOf];omega
   have t1:((cur.sort.toNat:Int) != 85)=true:=by have:=At hs;simpa using this
   have t2:((cur.sort.toNat:Int) == 85)=false:=At hs;have Hend:=Aa (show By (Af xs) (xs.length+1) t=true by rw[heq.o];exact Qmm _ m cur hs);clear hs heq;go_wp2_with fail;exact iP
  ·have k1:¬(n:Int)<=(xs.length:Int):=aI;have Hend:=Aa (show By (Af xs) (xs.length+1) t=false by rw[heq.o,show xs.length+1 - n=0 by omega];rfl);clear heq;go_wp2_with fail;exact iP
theorem Ru(S:List Ty)(hT:∀t∈S,Ek t):∀(n:Nat) (k:Kd),(Dq S n k).length<=6*n
 |0,_=>by simp[Dq]
 |n+1,k=>by
  unfold Dq;split
  ·simp;omega
  split
  ·simp;omega
  split
  ·simp;omega
  split
  ·simp;omega
  split
  ·simp;omega
  cases hf:B9 S k.name with
  |none=>simp
  |some t=>
   simp only;split
   ·simp;omega
   cases hfs:t.fields with
   |nil=>simp
   |cons f fs=>
    have h1:=((hT t (Bj hf).1).2.2.1.1 f cG).2.1;have h2:=C9 2 f.tag ch;have ih:=Ru S hT n f.kind;simp only;split
    ·simp;omega
    simp;omega
def Qai(b:List UInt8):List UInt8:=if b=[110]then[48]else if b=[116]then[39,39]else[110,111]
theorem Qcb(b:List UInt8)(w:World)(hb:b=[110]\/b=[116]\/b=[102]):
  Calls prog 230 #[b] w fun e w'=>e=.returned (.string ⟨(Qai b).toArray⟩)/\w=w':=by
 rcases hb with rfl|rfl|rfl
 ·exact gY
 ·exact gY
 go_enter func230,ntmps230;go_wp2_with fail;exact iq
def Qh0(c:UInt8):List UInt8:=if c=91 then[91,93]else[45]
theorem Te(v:Value)(c:UInt8)(t:List UInt8)(w:World)(hc:c=91\/c=63)(hl:t.length<=1000):
  Calls prog 205 #[v,.string ⟨(c::t).toArray⟩] w fun e w'=>e=.returned (.string ⟨(Qh0 c).toArray⟩)/\w=w':=by
 rcases hc with rfl|rfl
 ·go_enter func205,ntmps205;go_wp2_with fail;exact iq
 go_enter func205,ntmps205;go_wp2_with fail;exact iq
theorem Nm{k:Kd}(h:Cw k)(hs:k.signs=[])(hb:k.base≠[64]):Be k=k.base/\(k.base=[110]\/k.base=[116]\/k.base=[102]):=by
 refine⟨by unfold Be Cj;rw[hs,if_neg hb];rfl,?_⟩;rcases h.2.1 with h|h
 ·exact absurd h.1 hb
 exact h.1
theorem P1(v:Value)(xs:List (Ty × Value))(k:Kd)(w:World)(hsc:Gj w v xs)(hk:Cw k)(hs:k.signs=[])(hb:k.base≠[64]):
  Calls prog 205 #[v,.string ⟨(Be k).toArray⟩] w fun e w'=>e=.returned (.string ⟨(Qai k.base).toArray⟩)/\Below w w w':=by
 have Hr:=Aa (fun W h=>Fb v xs k W h hk);have hx:Jn xs k=none:=if_neg (fun h=>hb h.2);rw[hx]at Hr;obtain⟨e1,e2⟩:=Nm hk hs hb;rw[e1]at Hr ⊢;have Hsc:=Aa hsc;have Hp:=Aa (fun W=>Qcb k.base W e2);have He2:=Aa e2;unfold Rv Pt at Hr;generalize k.base=b at *;clear hs hb e1 hsc hx;obtain⟨c,hc,t1,t2⟩:∃c,b=[c]/\((c.toNat:Int) == 91)=false/\((c.toNat:Int) == 63)=false:=by
  rcases e2 with rfl|rfl|rfl
  ·exact⟨110,rfl,by decide,by decide⟩
  ·exact⟨116,rfl,by decide,by decide⟩
  exact⟨102,rfl,by decide,by decide⟩
 clear e2;subst hc;go_enter func205,ntmps205;go_wp2_with fail;refine(Hr.o _ Hsc.o).mono ?_;rintro e w1 ⟨rfl,hb1⟩;go_wp2_with fail;refine(Hp.o _).mono ?_;rintro e w2 ⟨rfl,rfl⟩;go_wp2_with fail;go_ret;exact⟨rfl,hb1.alloc hb1.size _⟩
def H4(l:List UInt8)(w:World)(e:Ending)(w':World):Prop:=e=.returned l/\Below w w w'
theorem Qcx(xv:Value)(xs:List (Ty × Value))(hok:∀x∈xs,Ek x.1)(n:Nat)(k:Kd)(w:World)(hsc:Gj w xv xs)(hk:Cw k)(hs:k.signs=[])(hb:k.base=[64])(t:Ty)(fv:Value)(hx:D9 xs k.name=some (t,fv))
  (hn:n<=9) (ih:t.sort=85->∀f fs,t.fields=f::fs->∀W,Gj W xv xs->Calls prog 205 #[xv,.string ⟨(Be f.kind).toArray⟩] W (H4 (Dq (Af xs) n f.kind) W)):
  Calls prog 205 #[xv,.string ⟨(Be k).toArray⟩] w (H4 (Dq (Af xs) (n+1) k) w):=by
 have Hr:=Aa (fun W h=>Fb xv xs k W h hk);have Hlen:=Aa (Ru (Af xs) (fun t ht=>by obtain⟨x,hx,rfl⟩:=ay.1 ht;exact hok x hx));have hrx:Jn xs k=some (t,fv):=(if_pos ⟨hs,hb⟩).trans hx
 have HF:=Aa (show Dq (Af xs) (n+1) k=if t.sort=82 then[123,125]else match t.fields with|[]=>[]|f::_=>if t.sort=69 then 35::Az f.tag else 60::(Az f.tag++61::(Dq (Af xs) n f.kind++[62]))from by
  rw[Dq,if_neg dJ,if_neg dJ,if_neg bI,if_neg bI,if_neg bI,Jq,hx];rfl)
 have hto:=hok _ (Cl hx).1;have hkb:Be k=64::(k.name++[59]):=bT;have hnl:k.name.length<=3:=by
  rcases hk.2.1 with h|h
  ·exact(Fc.1 h.2).2.1
  rw[hb]at h;exact absurd h.1 aL
 have hfd:D8 w fv t.fields:=by obtain⟨_,_,_,_,_,hf⟩:=hsc;exact hf _ (Cl hx).1
 rw[hrx]at Hr;rw[hkb]at Hr ⊢;obtain⟨A,c,rfl,hfl,hrow⟩:=hfd;have Hsc:=Aa hsc;have Hrow:=Aa hrow;have Hto:=Aa hto;have Ih:=Aa ih;unfold Rv Pu at Hr;simp only[]at hto;clear hsc hk hs hb hx hkb hrow hto hrx ih hok;by_cases h82:t.sort=82
 ·have t82:((t.sort.toNat:Int) == 82)=true:=Bv (d:=82) h82;have HF2:=Aa (HF.o.trans (if_pos h82));clear h82 HF;go_enter func205,ntmps205;go_wp2_with fail;refine(Hr.o _ Hsc.o).mono ?_;rintro e w1 ⟨rfl,hb1⟩;go_wp2_with fail;go_ret;exact⟨by rw[HF2.o];rfl,hb1.alloc hb1.size _⟩
 have t82:((t.sort.toNat:Int) == 82)=false:=At (d:=82) h82;have HF2:=Aa (HF.o.trans (if_neg h82));have hne:t.fields≠[]:=fun h=>h82 (Hto.o.2.2.2.2 h);obtain⟨f,fs,hfs⟩:∃f fs,t.fields=f::fs:=by
  cases h:t.fields with
  |nil=>exact absurd h hne
  |cons f fs=>exact⟨f,fs,rfl⟩
 have hf0:0<t.fields.length:=cG;have hge:t.fields[0]=f:=by simp[hfs]
 have hft:=Hto.o.2.2.1.1 f cG;have htag:f.tag<=200:=hft.2.1;have hdl:=C9 2 f.tag ch;have Hd:=Aa (fun W=>Gg f.tag f.tag W (Al _) aI);have hi0:(0:Int)<(t.fields.length:Int):=aI;have HF3:=@Aa (Dq (Af xs) (n+1) k=if t.sort=69 then 35::Az f.tag else 60::(Az f.tag++61::(Dq (Af xs) n f.kind++[62]))) (by rw[HF2.o,hfs]);have Hfs:=Aa hfs;have Hge:=Aa hge;obtain⟨b,off,rfl,hbl,g0,g1,g2,g3⟩:=D8.at_ Hrow.o hf0;rw[hge]at g0 g1 g2 g3;simp only[Nat.zero_mul,Nat.add_zero]at g0 g1 g2 g3;have H82:=Aa h82;clear HF2 HF h82 hne hfs hge hft g1 g3;by_cases h69:t.sort=69
 ·have t69:((t.sort.toNat:Int) == 69)=true:=Bv (d:=69) h69;have HF4:=Aa (HF3.o.trans (if_pos h69));clear h69 HF3;go_enter func205,ntmps205;go_wp2_with fail;refine(Hr.o _ Hsc.o).mono ?_;rintro e w1 ⟨rfl,hb1⟩;have g0':=(hb1.cell (p:=⟨b,off,none⟩) hbl).trans g0;have hbl1:b<w1.heap.size:=ac hbl hb1.size;have hbn:¬(b=w1.heap.size):=aI;have Hb1:=Aa hb1;clear hb1 g0 g2;go_wp2_with fail;refine(Hd.o _).mono ?_;rintro e w2 ⟨rfl,hb2⟩;go_wp2_with fail;go_ret;exact⟨by rw[HF4.o];simp,(Hb1.o.alloc Hb1.o.size _).trans (hb2.mono (by have:=Hb1.o.size;simp;omega))⟩
 have t69:((t.sort.toNat:Int) == 69)=false:=At (d:=69) h69;have HF4:=Aa (HF3.o.trans (if_neg h69));have h85:t.sort=85:=by
  rcases Hto.o.1 with h|h|h
  ·exact absurd h H82.o
  ·exact h
  exact absurd h h69
 have Ih2:=Aa (Ih.o h85 f fs Hfs.o);have hsl:=Hlen.o n f.kind;generalize Dq (Af xs) n f.kind=sl at *;generalize Be f.kind=kd at *;clear h69 HF3 h85 Ih;go_enter func205,ntmps205;go_wp2_with fail;refine(Hr.o _ Hsc.o).mono ?_;rintro e w1 ⟨rfl,hb1⟩;have g0':=(hb1.cell (p:=⟨b,off,none⟩) hbl).trans g0;have g2':=(hb1.cell (p:=⟨b,off+2,none⟩) hbl).trans g2;have hbl1:b<w1.heap.size:=ac hbl hb1.size;have hbn:¬(b=w1.heap.size):=aI;have Hb1:=Aa hb1;clear hb1 g0 g2;go_wp2_with fail;obtain⟨W0,hW0⟩:∃W0,W0=w1.alloc (.cells #[.int .u8 (t.sort.toNat:Int),t.name,.slice (some ⟨b,off,none⟩) t.fields.length c] 143):=⟨_,rfl⟩
 rw[<-hW0];have y2:W0.cell? (w1,2)=some (.slice (some ⟨b,off,none⟩) t.fields.length c):=by rw[hW0];simp
 have y0:W0.cell? ⟨b,off,none⟩=(f.tag:Int):=by rw[hW0,World.cell?_alloc_old _ _ _ hbn];exact g0'
 have y3:W0.cell? ⟨b,off+2,none⟩=kd:=by rw[hW0,World.cell?_alloc_old _ _ _ hbn];exact g2'
 have hz0:W0.heap.size=w1.heap.size+1:=by rw[hW0];simp
 have hB5:w1.heap.size<W0.heap.size:=aI;have hb5:b<W0.heap.size:=aI;have Hb0:=@Aa (Below w w W0) (by rw[hW0];exact Hb1.o.alloc Hb1.o.size _);have Hsc0:=Aa (Hsc.o.below Hb0.o);generalize w1.heap.size=B5 at *;clear hW0 hz0 g0' g2';refine Xa [39,40,41,42,43,44,45,46,47,48,49,50,51,52,53,54,55,4]
  (fun i v W=>match i with|0=>v=(B5,2)|1=>v=.slice (some ⟨b,off,none⟩) t.fields.length c|2=>v=.pointer (some ⟨b,off,none⟩)|3=>v=.pointer (some ⟨b,off,none⟩)|4=>v=(f.tag:Int)|5=>v=.string ⟨(Az f.tag).toArray⟩|6=>v=.string ⟨(60::Az f.tag).toArray⟩|7=>v=.string ⟨(60::(Az f.tag++[61])).toArray⟩|8=>v=xv|9=>v=(B5,2)|10=>v=.slice (some ⟨b,off,none⟩) t.fields.length c|11=>v=.pointer (some ⟨b,off,none⟩)|12=>v=.pointer (some ⟨b,off+2,none⟩)|13=>v=kd|14=>v=sl|15=>v=.string ⟨(60::(Az f.tag++61::sl)).toArray⟩|16=>v=.string ⟨(60::(Az f.tag++61::(sl++[62]))).toArray⟩|17=>v=.string ⟨(60::(Az f.tag++61::(sl++[62]))).toArray⟩|_=>True)
  (fun L U W=>Below W0 W0 W) ((Aq _ _).drew) ?_ ?_
 ·repeat (first|exact Bb.nil|(refine Bb.cons ?_ ?_;rotate_left))
  all_goals
   rintro L U W hL hpre HR Hdep K hK;have hB:=HR.o;have c2:=(hB.cell (p:=⟨B5,2,none⟩) hB5).trans y2;have c0:=(hB.cell (p:=⟨b,off,none⟩) hb5).trans y0;have c3:=(hB.cell (p:=⟨b,off+2,none⟩) hb5).trans y3;first|(simp[Region.binds]at hpre;done)|simp[Region.binds]at hpre|clear hpre
  iterate 5
   ·exact fP
  ·exact gL
  ·exact fV
  ·exact fV
  iterate 6
   ·exact fP
  ·exact gF
  ·exact fV
  ·exact fV
  ·exact fP
 rintro L U W hL hφ hR;have e17:U 17=.string ⟨(60::(Az f.tag++61::(sl++[62]))).toArray⟩:=hφ 17 aL;simp only[e17];clear hφ;have Hb9:=Aa (Hb0.o.trans (hR.mono Hb0.o.size));clear hR;go_wp2_with fail;go_ret;exact⟨by rw[HF4.o];rfl,Hb9.o⟩
theorem Ql(S:List Ty)(n:Nat)(k:Kd)(c:UInt8)(t:List UInt8)(h:k.signs=c::t)(hc:c=91\/c=63):Dq S (n+1) k=Qh0 c:=by
 unfold Dq Qh0;rw[h];rcases hc with rfl|rfl
 ·rfl
 rfl
theorem Nf(S:List Ty)(n:Nat)(k:Kd)(h:k.signs=[])(hb:k.base=[110]\/k.base=[116]\/k.base=[102]):Dq S (n+1) k=Qai k.base:=by
 unfold Dq Qai;rw[h];rcases hb with hb|hb|hb<;>rw[hb]<;>rfl
theorem Rz{k:Kd}(h:Cw k){c:UInt8}{t:List UInt8}(hs:k.signs=c::t):c=91\/c=63:=by
 have:=h.1;rw[hs,List.all_cons,ax]at this;have:=this.1;unfold Bi at this;simpa using this
theorem Qe2(xv:Value)(xs:List (Ty × Value))(hok:∀x∈xs,Ek x.1)(hS:G1 (Af xs)):∀(n:Nat),n<=9->∀(k:Kd) (w:World),Gj w xv xs->Cw k->Bu (Af xs) k->Ts (Af xs) n k ->
  Calls prog 205 #[xv,.string ⟨(Be k).toArray⟩] w (H4 (Dq (Af xs) (n+1) k) w):=by
 intro n;induction n with
 |zero=>
  intro _ k w hsc hk hr he;cases hs:k.signs with
  |cons c t=>
   have hc:=Rz hk hs;have hkb:Be k=c::(t++Cj k):=ct;have hl:=hk.2.2;rw[hkb]at hl ⊢;rw[Ql _ _ k c t hs hc];refine(Te xv c (t++Cj k) w hc eW).mono ?_;rintro e w' ⟨rfl,rfl⟩;exact iJ
  |nil=>
   by_cases hb:k.base=[64]
   ·obtain⟨t,_,h⟩:=he hs hb;exact absurd h (by simp[By])
   exact iQ
 |succ n ih=>
  intro hn k w hsc hk hr he;cases hs:k.signs with
  |cons c t=>
   have hc:=Rz hk hs;have hkb:Be k=c::(t++Cj k):=ct;have hl:=hk.2.2;rw[hkb]at hl ⊢;rw[Ql _ _ k c t hs hc];refine(Te xv c (t++Cj k) w hc eW).mono ?_;rintro e w' ⟨rfl,rfl⟩;exact iJ
  |nil=>
   by_cases hb:k.base=[64]
   ·have h1:=hr hb;rw[Jq]at h1;cases hx:D9 xs k.name with
    |none=>rw[hx]at h1;cases h1
    |some x=>
     obtain⟨t,fv⟩:=x;have hft:B9 (Af xs) k.name=some t:=(Cl hx).2.2;have hto:Ek t:=hok _ (Cl hx).1;refine Qcx xv xs hok (n+1) k w hsc hk hs hb t fv hx hn (fun h85 f fs hfs W hW=>?_);have hrf:Bu (Af xs) f.kind:=hS t (Bj hft).1 dA f cG;exact iR
   exact iQ
theorem Tt{S:List Ty}(h:Kt S){k:Kd}(hr:Bu S k):Ts S 9 k:=by
 intro hs hb;have h1:=hr hb;cases hf:B9 S k.name with
 |none=>rw[hf]at h1;cases h1
 |some t=>exact⟨t,rfl,h.2.2 t (Bj hf).1⟩
theorem Qej(xv:Value)(xs:List (Ty × Value))(h:Kt (Af xs))(k:Kd)(w:World)(hsc:Gj w xv xs)(hk:Cw k)(hr:Bu (Af xs) k):
  Calls prog 205 #[xv,.string ⟨(Be k).toArray⟩] w (H4 (Vt (Af xs) k) w):=
 Qe2 xv xs (fun x hx=>h.1.1 x.1 (aq hx)) h.2.1 9 (Al _) k w hsc hk hr (Tt h hr)
theorem Ry(xv:Value)(xs:List (Ty × Value))(h:Kt (Af xs))(f:Fd)(w:World)(hsc:Gj w xv xs)(hk:Cw f.kind)(hr:Bu (Af xs) f.kind)(hl:f.given.length<=1000):
  Calls prog 155 #[xv,sfV f] w (H4 (Kr (Af xs) f) w):=by
 have HF:=@Aa (Kr (Af xs) f=if f.given=[]then Vt (Af xs) f.kind else f.given) rfl;have Hs:=Aa (fun W (h1:Gj W xv xs)=>Qej xv xs h f.kind W h1 hk hr);have Hsc:=Aa hsc;unfold sfV;generalize Be f.kind=kd at *;clear h hk hr hsc;by_cases hg:f.given=[]
 ·have HF2:=Aa (HF.o.trans (if_pos hg));rw[hg];clear hg HF;go_enter func155,ntmps155;go_wp2_with fail;refine(Hs.o _ (Hsc.o.below ((Aq _ _).alloc (Al _) _))).mono ?_;rintro e w1 ⟨rfl,hb1⟩;go_wp2_with fail;go_ret;exact⟨by rw[HF2.o];rfl,((Aq _ _).alloc (Al _) _).trans (hb1.mono aK)⟩
 have HF2:=Aa (HF.o.trans (if_neg hg));have t1:f.given.isEmpty=false:=by simpa using hg
 have t2:(!f.given.isEmpty)=true:=by simp[t1]
 clear hg HF;go_enter func155,ntmps155;go_wp2_with fail;go_ret;exact⟨by rw[HF2.o];rfl,(Aq _ _).alloc (Al _) _⟩
theorem Zg(s:List UInt8)(f k:Nat)(hf:f<=k)(hk:k<s.length):(s.drop f).take (k+1 - f)=(s.drop f).take (k - f)++[s[k]]:=by
 have h1:k - f<(s.drop f).length:=aO;rw[show k+1 - f=(k - f)+1 by omega,Cv _ _ h1];simp[show f+(k - f)=k by omega]
theorem Qdz(s:List UInt8)(f k:Nat)(hf:f<=k)(hk:k<s.length):s.drop f=(s.drop f).take (k - f)++s[k]::s.drop (k+1):=by
 have e1:(s.drop f).drop (k - f)=s[k]::s.drop (k+1):=by
  rw[List.drop_drop,show f+(k - f)=k by omega];exact List.drop_eq_getElem_cons hk
 rw[<-e1,List.take_append_drop]
theorem C4(s:List UInt8)(c:UInt8)(m:Int)(hm:m=(c.toNat:Int))(w:World)(hs:s.length<=4000000):
  Calls prog 149 #[s,.int .u8 m] w fun e w'=>
   ∃v,e=.returned v/\w'.ownsRow w 9 1 v (Aj c s).length (Bz (Aj c s))/\Below w w w':=by
 have Hm:=Aa hm;have Hlen:=Aa (Jc c s);clear hm;go_enter func149,ntmps149;go_wp2_with fail
 go_loopw [5,6,7] (fun v y i wr=>∃(ps:List (List UInt8)) (f k:Nat),i=.int .i64 k/\k<=s.length/\y=.int .i64 f/\f<=k/\ps.length<=k/\Hid (Aj c s=ps++Aj c (s.drop f))/\Hid (c∉(s.drop f).take (k - f)) /\
   Hid (wr.ownsRow w 9 1 v ps.length (Bz ps))/\Hid (Below w w wr)) (fun _ _ i _=>s.length - (intOf i).toNat)
 case atStart=>exact⟨[],0,0,rfl,ag _,rfl,Al _,by simp,rfl,by simp[Hid],World.ownsRow_lit (base:=w.heap.size) (e:=9) (size:=1) w #[] 0 (Al _) (ag _) rfl,(Aq _ _).alloc (Al _) _⟩
 case round=>
  obtain⟨ps,f,k,rfl,hk,rfl,hf,hps,hsp,hno,hown,hb⟩:=hrel;by_cases hlt:k<s.length
  ·have hc:=(s[k]).toNat_lt;by_cases he:s[k]=c
   ·have t1:(((s[k]).toNat:Int) == m)=true:=by rw[Hm.o];exact Bv he
    have Hsp:=Aa (show Aj c s=(ps++[(s.drop f).take (k - f)])++Aj c (s.drop (k+1))by
     rw[hsp.o,Qdz s f k hf hlt,he,Mn c _ _ hno.o];simp only[List.append_assoc,List.singleton_append];have e2:=Qdz s f k hf hlt;rw[he]at e2;rw[<-e2])
    have Hz:=Aa hb.o.size;clear he;have k1:(0:Int)<=(f:Int):=aI;have k2:(f:Int)<=(k:Int):=aI;have k3:(k:Int)<=(s.length:Int):=aI;go_wp2_with (at_builtin;refine Kk _ rfl _ _ 57 rfl w 9 a6 16 underlying57 Yh rfl wr _ rfl rfl _ _ _ rfl rfl hown.o bc aI Hz.o ?_;intro v' w' hown' hb';have Ho:=Aa (show w'.ownsRow w 9 1 v' (ps++[(s.drop f).take (k - f)]).length (Bz (ps++[(s.drop f).take (k - f)]))by rw[Qn,ah];exact hown');have Hb:=Aa (hb.o.trans hb');clear hown' hb')
    go_roundw
    case rel=>exact⟨ps++[(s.drop f).take (k - f)],k+1,k+1,by go_num,by omega,by go_num,Al _,by rw[ah];simp;omega,Hsp.o,by simp[Hid],Ho.o,Hb.o⟩
    case measure=>simp[intOf];omega
   have t1:(((s[k]).toNat:Int) == m)=false:=by rw[Hm.o];exact At he
   have Hno:=Aa (show c∉(s.drop f).take (k+1 - f)by
    rw[Zg s f k hf hlt];simp only[af,ar,not_or];exact⟨hno.o,fun h=>he h.symm⟩)
   clear he;go_wp2_with fail;go_roundw
   case rel=>exact⟨ps,f,k+1,by go_num,by omega,rfl,by omega,by omega,hsp.o,Hno.o,hown.o,hb.o⟩
   case measure=>simp[intOf];omega
  ·obtain rfl:k=s.length:=aI
   have Hsp:=Aa (show Aj c s=ps++[s.drop f]by
    have h:=hno.o;rw[av aK]at h;rw[hsp.o,Gx c _ h])
   have Hz:=Aa hb.o.size;have k1:(0:Int)<=(f:Int):=aI;have k2:(f:Int)<=(s.length:Int):=aI;go_wp2_with (at_builtin;refine Kk _ rfl _ _ 57 rfl w 9 a6 16 underlying57 Yh rfl wr _ rfl rfl _ _ _ rfl rfl hown.o bc aI Hz.o ?_;intro v' w' hown' hb';have Ho:=Aa (show w'.ownsRow w 9 1 v' (ps++[s.drop f]).length (Bz (ps++[s.drop f]))by rw[Qn,ah];exact hown');have Hb:=Aa (hb.o.trans hb');clear hown' hb')
   go_ret;refine⟨_,rfl,?_,Hb.o⟩;rw[Hsp.o];exact Ho.o
theorem Qat{b s:List UInt8}(h1:b≠[110])(h2:b≠[116])(h3:b≠[102]):Ce b s=false:=by
 unfold Ce;rw[if_neg h1,if_neg h2,if_neg h3]
theorem Qoz(s:List UInt8):Ce [116] s=(Fq s && !(s == [39,39])):=by
 show (decide (2<s.length) && decide (s.head?=some 39) && decide (s.getLast?=some 39) && Da (s.drop 1).dropLast)=((decide (2<=s.length) && decide (s.head?=some 39) && decide (s.getLast?=some 39) && Da (s.drop 1).dropLast) && !(s == [39,39]));rcases aH 2 s.length with h|h
 ·have e1:decide (2<s.length)=true:=aU;have e2:decide (2<=s.length)=true:=aO;have e3:(s == [39,39])=false:=by
   rw[beq_eq_false_iff_ne];rintro rfl;simp at h
  rw[e1,e2,e3];simp
 have e1:decide (2<s.length)=false:=aO;rw[e1];match s,h with
 |[],_=>rfl
 |[_],_=>rfl
 |[a,b],_=>
  by_cases ha:a=39
  ·by_cases hb:b=39
   ·subst ha;subst hb;rfl
   simp[hb]
  simp[ha]
theorem Xj(b s:List UInt8)(w:World)(hs:s.length<=4000000):
  Calls prog 229 #[b,s] w fun e w'=>e=.returned (.bool (Ce b s))/\Below w w w':=by
 by_cases h1:b=[110]
 ·subst h1;have Hp:=Aa (fun W=>Dv s 999999 W hs aI);have hf:Ce [110] s=(match Cx s with|some n=>decide (0<n)|none=>false):=rfl;have hv:(Ef s 999999 && (s != [48]))=Ce [110] s:=by
   rw[hf];cases hd:Cx s with
   |none=>rw[Nk hd];rfl
   |some n=>
    obtain⟨h9,e⟩:=Bw.1 hd;rw[Nu hd];have e1:decide (n<=999999)=true:=by simpa using h9
    rw[e1,Bool.true_and];by_cases h0:n=0
    ·subst h0;rw[e,Fa aI];decide
    have hne:s≠[48]:=by
     intro h;rw[e]at h;have:Az n=Az 0:=by rw[h,Fa (n:=0) aI];decide
     exact h0 (Qkq this)
    have e2:(s != [48])=true:=by simpa using hne
    rw[e2];simp;omega
  have Hv:=Aa hv;clear hf hv;go_enter func229,ntmps229;go_wp2_with fail;refine(Hp.o _).mono ?_;rintro e w' ⟨n,hn,rfl,_,hb⟩;have Hb:=Aa hb;clear hb;rcases Bool.eq_false_or_eq_true (Ef s 999999)with ho|ho
  ·have Ho:=Aa ho;rw[ho];clear ho;go_wp2_with fail;exact iS
  have Ho:=Aa ho;rw[ho];clear ho;go_wp2_with fail;exact iS
 by_cases h2:b=[116]
 ·subst h2;have Hp:=Aa (fun W=>Sh s W hs);have Hv:=Aa (Qoz s);clear h1;go_enter func229,ntmps229;go_wp2_with fail;refine(Hp.o _).mono ?_;rintro e w' ⟨rfl,rfl⟩;rcases Bool.eq_false_or_eq_true (Fq s)with ho|ho
  ·have Ho:=Aa ho;rw[ho];clear ho;rcases Bool.eq_false_or_eq_true (s == [39,39])with hq|hq
   ·have Hq:=Aa hq;have hq2:(s != [39,39])=false:=by simp[bne,hq]
    go_wp2_with fail;exact iT
   have Hq:=Aa hq;have hq2:(s != [39,39])=true:=by simp[bne,hq]
   go_wp2_with fail;exact iT
  have Ho:=Aa ho;rw[ho];clear ho;go_wp2_with fail;go_ret;exact⟨Er (Db (by rw[Hv.o,Ho.o];rfl)),Aq _ _⟩
 by_cases h3:b=[102]
 ·subst h3;have Hv:=Aa (show Ce [102] s=(s == [121,101,115])by show decide (s=[121,101,115])=_;by_cases h:s=[121,101,115]<;>simp[h]);clear h1 h2;go_enter func229,ntmps229;go_wp2_with fail;go_ret;exact⟨Er (Db Hv.o.symm),Aq _ _⟩
 have Hv:=Aa (Qat (s:=s) h1 h2 h3);have q1:(b == [110])=false:=dU;have q2:(b == [116])=false:=dV;have q3:(b == [102])=false:=by simpa using h3
 clear h1 h2 h3;go_enter func229,ntmps229;go_wp2_with fail;go_ret;exact⟨Er (Db Hv.o.symm),Aq _ _⟩
def Dd(o:Option Fd)(w:World)(e:Ending)(w':World):Prop:=
 (match o with
  |some f=>e=.returned (.tuple #[sfV f,.bool true])
  |none=>∃(x:Int) (a b c:ByteArray),e=.returned (.tuple #[.agg #[.int .i64 x,.string a,.string b,.string c],.bool false]))/\Below w w w'
theorem Dd.no{w w':World}{e:Ending}{o:Option Fd}(ho:o=none){x:Int}{a b c:ByteArray}(he:e=.returned (.tuple #[.agg #[.int .i64 x,.string a,.string b,.string c],.bool false]))(hb:Below w w w'):Dd o w e w':=by
 rw[ho];exact⟨⟨x,a,b,c,he⟩,hb⟩
theorem Dd.yes{w w':World}{e:Ending}{o:Option Fd}{f:Fd}(ho:o=some f)(he:e=.returned (.tuple #[sfV f,.bool true]))(hb:Below w w w'):Dd o w e w':=by
 rw[ho];exact⟨he,hb⟩
theorem Pk{w:World}{base:Nat}{v:Value}{a b:List UInt8}(h:w.ownsRow base 9 1 v [a,b].length (Bz [a,b])):
  ∃g c,v=.slice (some ⟨g,0,none⟩) 2 c/\base<=g/\g<w.heap.size/\w.cell? ⟨g,0,none⟩=a/\w.cell? ⟨g,1,none⟩=b:=by
 rcases h.2 with⟨_,h0⟩|⟨g,cap,cur,rfl,hb,hh,_⟩
 ·simp at h0
 have hc:=fun j u hu=>h.cells (g:=g) rfl j u hu;have e1:∀j,(⟨g,0,none⟩:Addr).add j=⟨g,j,none⟩:=fun j=>bq;refine⟨g,cap,rfl,hb,(h.lt g rfl).2,?_,?_⟩
 ·have:=hc 0 _ rfl;rwa [e1]at this
 have:=hc 1 _ rfl;rwa [e1]at this
theorem G8{w:World}{base:Nat}{v:Value}{a b d:List UInt8}(h:w.ownsRow base 9 1 v [a,b,d].length (Bz [a,b,d])):
  ∃g c,v=.slice (some ⟨g,0,none⟩) 3 c/\base<=g/\g<w.heap.size/\w.cell? ⟨g,0,none⟩=a/\w.cell? ⟨g,1,none⟩=b/\w.cell? ⟨g,2,none⟩=d:=by
 rcases h.2 with⟨_,h0⟩|⟨g,cap,cur,rfl,hb,hh,_⟩
 ·simp at h0
 have hc:=fun j u hu=>h.cells (g:=g) rfl j u hu;have e1:∀j,(⟨g,0,none⟩:Addr).add j=⟨g,j,none⟩:=fun j=>bq;refine⟨g,cap,rfl,hb,(h.lt g rfl).2,?_,?_,?_⟩
 ·have:=hc 0 _ rfl;rwa [e1]at this
 ·have:=hc 1 _ rfl;rwa [e1]at this
 have:=hc 2 _ rfl;rwa [e1]at this
theorem Vw(st:UInt8)(s:List UInt8)(w:World)(hs:s.length<=1000)(hp:(Aj 58 s).length≠(if st=69 then 2 else 3)):
  Calls prog 203 #[s,.int .u8 (st.toNat:Int)] w (Dd (Cc st s) w):=by
 have hno:Cc st s=none:=by
  unfold Cc;by_cases h:st=69
  ·rw[if_pos h]at hp ⊢;have:Ks (Aj 58 s)=none:=by
    cases hh:Ks (Aj 58 s)with
    |none=>rfl
    |some x=>rw[(J6 (n:=x.1) (b:=x.2)).1 hh |>.1]at hp;simp at hp
   rw[this]
  rw[if_neg h]at hp ⊢;have:Ms (Aj 58 s)=none:=by
   cases hh:Ms (Aj 58 s)with
   |none=>rfl
   |some x=>rw[(G7 (n:=x.1) (b:=x.2.1) (c:=x.2.2)).1 hh |>.1]at hp;simp at hp
  rw[this]
 have Hno:=Aa hno;have Hl:=Aa (Jc 58 s);have hst:=st.toNat_lt;clear hno;have Hcut:=Aa (fun W=>C4 s 58 58 rfl W aI);generalize Aj 58 s=ps at hp Hl Hcut;by_cases h69:st=69
 ·rw[if_pos h69]at hp;have t1:((st.toNat:Int) != 69)=false:=by have:=Bv h69;simpa using this
  have t2:((st.toNat:Int) == 69)=true:=Bv h69;have t3:((ps.length:Int) != 2)=true:=dS;clear h69 hp;go_enter func203,ntmps203;go_wp2_with fail;refine(Hcut.o _).mono ?_;rintro e w1 ⟨v,rfl,ho,hb⟩;obtain⟨A,c,rfl,_⟩:=Ca.own ho;obtain⟨hc,hfz,hz⟩:=Ci hb;have Hb:=Aa (((Aq w.heap.size w).alloc (Al _) _).trans (hb.mono aK));clear hb ho;go_wp2_with fail;all_goals
   refine aG (v:=.tuple #[sf0,.bool false]) (by simp[results,results203,go_sem,sf0,hc]) rfl ?_;exact iU
 rw[if_neg h69]at hp;have t1:((st.toNat:Int) != 69)=true:=by have:=At h69;simpa using this
 have t2:((st.toNat:Int) == 69)=false:=At h69;have t3:((ps.length:Int) != 3)=true:=dS;clear h69 hp;go_enter func203,ntmps203;go_wp2_with fail;refine(Hcut.o _).mono ?_;rintro e w1 ⟨v,rfl,ho,hb⟩;obtain⟨A,c,rfl,_⟩:=Ca.own ho;obtain⟨hc,hfz,hz⟩:=Ci hb;have Hb:=Aa (((Aq w.heap.size w).alloc (Al _) _).trans (hb.mono aK));clear hb ho;go_wp2_with fail;all_goals
  refine aG (v:=.tuple #[sf0,.bool false]) (by simp[results,results203,go_sem,sf0,hc]) rfl ?_;exact iU
theorem Xe(a b:List UInt8):Ef a 200=false\/(Ef a 200=true/\Cx a=some 0)\/(∃n,Ef a 200=true/\Cx a=some n/\1<=n/\n<=200/\Bf b=false)\/(∃n,Ef a 200=true/\Cx a=some n/\1<=n/\n<=200/\Bf b=true):=by
 cases hd:Cx a with
 |none=>exact .inl (Nk hd)
 |some n=>
  rw[Nu hd];by_cases h:n<=200
  ·have e:decide (n<=200)=true:=aU;rw[e];by_cases h0:n=0
   ·subst h0;exact .inr (.inl ⟨rfl,rfl⟩)
   rcases Bool.eq_false_or_eq_true (Bf b)with hb|hb
   ·exact .inr (.inr (.inr ⟨n,rfl,rfl,by omega,h,hb⟩))
   exact .inr (.inr (.inl ⟨n,rfl,rfl,by omega,h,hb⟩))
  left;simpa using h
theorem Ze{a b:List UInt8}(h:Ef a 200=false\/Cx a=some 0\/Bf b=false):Ks [a,b]=none:=by
 cases hh:Ks [a,b]with
 |none=>rfl
 |some x=>
  obtain⟨n,c⟩:=x;obtain⟨e,h1,h2,h3⟩:=J6.1 hh;simp at e;obtain⟨rfl,rfl⟩:=e;have hd:Cx (Az n)=some n:=Bw.2 ⟨by omega,rfl⟩;rcases h with h|h|h
  ·rw[Nu hd]at h;simp at h;omega
  ·rw[hd]at h;injection h with h;omega
  rw[h3]at h;cases h
theorem Ys{a b c:List UInt8}(h:Ef a 200=false\/Cx a=some 0\/Bf b=false):Ms [a,b,c]=none:=by
 cases hh:Ms [a,b,c]with
 |none=>rfl
 |some x=>
  obtain⟨n,d,f⟩:=x;obtain⟨e,h1,h2,h3⟩:=G7.1 hh;simp at e;obtain⟨rfl,rfl,rfl⟩:=e;have hd:Cx (Az n)=some n:=Bw.2 ⟨by omega,rfl⟩;rcases h with h|h|h
  ·rw[Nu hd]at h;simp at h;omega
  ·rw[hd]at h;injection h with h;omega
  rw[h3]at h;cases h
theorem Qi2{a b:List UInt8}{n:Nat}(hd:Cx a=some n)(h1:1<=n)(h2:n<=200)(hb:Bf b=true):Ks [a,b]=some (n,b):=J6.2 ⟨by rw[(Bw.1 hd).2],h1,h2,hb⟩
theorem Kv{a b c:List UInt8}{n:Nat}(hd:Cx a=some n)(h1:1<=n)(h2:n<=200)(hb:Bf b=true):Ms [a,b,c]=some (n,b,c):=G7.2 ⟨by rw[(Bw.1 hd).2],h1,h2,hb⟩
theorem Qk4(s a b:List UInt8)(w:World)(hs:s.length<=1000)(hp:Aj 58 s=[a,b])(ho:Ef a 200=false):
  Calls prog 203 #[s,.int .u8 69] w (Dd (Cc 69 s) w):=by
 have hal:=Ao 58 s a bp;have hbl:=Ao 58 s b bp;have hF:Cc 69 s=(match Ks [a,b]with|some (n,b)=>some ⟨n,b,Kd.nil,[]⟩|none=>none):=cv;have Hcut:=Aa (fun W=>C4 s 58 58 rfl W aI);rw[hp]at Hcut;have Hnum:=Aa (fun W=>Dv a 200 W aI aI);have Hname:=Aa (fun W=>C0 b W aI);clear hp;rw[Ze (.inl ho)]at hF;have HF:=Aa hF;have Ho:=Aa ho;clear hF ho;go_enter func203,ntmps203;go_wp2_with fail;refine(Hcut.o _).mono ?_;rintro e w1 ⟨v,rfl,ho,hb⟩;obtain⟨g,c,rfl,hg1,hg2,c0,c1⟩:=Pk ho;simp at hg1;obtain⟨hc,hfz,hz⟩:=Ci hb;have Hb:=Aa (((Aq w.heap.size w).alloc (Al _) _).trans (hb.mono aK));have hzz:=hz w.heap.size aK;clear hb ho;go_wp2_with fail;refine(Hnum.o _).mono ?_;rintro e w2 ⟨n,hn,rfl,hdn,hb2⟩;rw[Ho.o];obtain⟨hc2,hfz2,hz2⟩:=Ci hb2;have Hb2:=Aa (Hb.o.trans (hb2.mono Hb.o.size));have hsz:=Hb2.o.size;have hz3:=hz2 _ hzz;clear hb2;go_wp2_with fail;refine aG (v:=.tuple #[.agg #[.int .i64 n,b,a6,a6],.bool false]) (by simp[results,results203,go_sem,hc,hc2,hzz,hz3]) rfl ?_;exact iV
theorem Qkg(s a b:List UInt8)(w:World)(hs:s.length<=1000)(hp:Aj 58 s=[a,b])(ho:Ef a 200=true)(hd:Cx a=some 0):
  Calls prog 203 #[s,.int .u8 69] w (Dd (Cc 69 s) w):=by
 have hal:=Ao 58 s a bp;have hbl:=Ao 58 s b bp;have hF:Cc 69 s=(match Ks [a,b]with|some (n,b)=>some ⟨n,b,Kd.nil,[]⟩|none=>none):=cv;have Hcut:=Aa (fun W=>C4 s 58 58 rfl W aI);rw[hp]at Hcut;have Hnum:=Aa (fun W=>Dv a 200 W aI aI);have Hname:=Aa (fun W=>C0 b W aI);clear hp;rw[Ze (.inr (.inl hd))]at hF;have HF:=Aa hF;have Ho:=Aa ho;have Hd:=Aa hd;clear hF ho hd;go_enter func203,ntmps203;go_wp2_with fail;refine(Hcut.o _).mono ?_;rintro e w1 ⟨v,rfl,ho,hb⟩;obtain⟨g,c,rfl,hg1,hg2,c0,c1⟩:=Pk ho;simp at hg1;obtain⟨hc,hfz,hz⟩:=Ci hb;have Hb:=Aa (((Aq w.heap.size w).alloc (Al _) _).trans (hb.mono aK));have hzz:=hz w.heap.size aK;clear hb ho;go_wp2_with fail;refine(Hnum.o _).mono ?_;rintro e w2 ⟨n,hn,rfl,hdn,hb2⟩;rw[Ho.o];obtain⟨hc2,hfz2,hz2⟩:=Ci hb2;have Hb2:=Aa (Hb.o.trans (hb2.mono Hb.o.size));have hsz:=Hb2.o.size;have hz3:=hz2 _ hzz;clear hb2;obtain rfl:=hdn 0 Hd.o;clear hdn;go_wp2_with fail;refine aG (v:=.tuple #[.agg #[.int .i64 0,b,a6,a6],.bool false]) (by simp[results,results203,go_sem,hc,hc2,hzz,hz3]) rfl ?_;exact iV
theorem Qll(s a b:List UInt8)(w:World)(hs:s.length<=1000)(hp:Aj 58 s=[a,b])(n0:Nat)(ho:Ef a 200=true)(hd:Cx a=some n0)(h1:1<=n0)(h2:n0<=200)(hnm:Bf b=false):
  Calls prog 203 #[s,.int .u8 69] w (Dd (Cc 69 s) w):=by
 have hal:=Ao 58 s a bp;have hbl:=Ao 58 s b bp;have hF:Cc 69 s=(match Ks [a,b]with|some (n,b)=>some ⟨n,b,Kd.nil,[]⟩|none=>none):=cv;have Hcut:=Aa (fun W=>C4 s 58 58 rfl W aI);rw[hp]at Hcut;have Hnum:=Aa (fun W=>Dv a 200 W aI aI);have Hname:=Aa (fun W=>C0 b W aI);clear hp;rw[Ze (.inr (.inr hnm))]at hF;have HF:=Aa hF;have Ho:=Aa ho;have Hd:=Aa hd;have Hnm:=Aa hnm;clear hF ho hd hnm;go_enter func203,ntmps203;go_wp2_with fail;refine(Hcut.o _).mono ?_;rintro e w1 ⟨v,rfl,ho,hb⟩;obtain⟨g,c,rfl,hg1,hg2,c0,c1⟩:=Pk ho;simp at hg1;obtain⟨hc,hfz,hz⟩:=Ci hb;have Hb:=Aa (((Aq w.heap.size w).alloc (Al _) _).trans (hb.mono aK));have hzz:=hz w.heap.size aK;clear hb ho;go_wp2_with fail;refine(Hnum.o _).mono ?_;rintro e w2 ⟨n,hn,rfl,hdn,hb2⟩;rw[Ho.o];obtain⟨hc2,hfz2,hz2⟩:=Ci hb2;have Hb2:=Aa (Hb.o.trans (hb2.mono Hb.o.size));have hsz:=Hb2.o.size;have hz3:=hz2 _ hzz;clear hb2;obtain rfl:=hdn n0 Hd.o;clear hdn;go_wp2_with fail;refine(Hname.o _).mono ?_;rintro e w3 ⟨rfl,rfl⟩;rw[Hnm.o];go_wp2_with fail;refine aG (v:=.tuple #[.agg #[.int .i64 n0,b,a6,a6],.bool false]) (by simp[results,results203,go_sem,hc,hc2,hzz,hz3]) rfl ?_;exact iV
theorem Qkd(s a b:List UInt8)(w:World)(hs:s.length<=1000)(hp:Aj 58 s=[a,b])(n0:Nat)(ho:Ef a 200=true)(hd:Cx a=some n0)(h1:1<=n0)(h2:n0<=200)(hnm:Bf b=true):
  Calls prog 203 #[s,.int .u8 69] w (Dd (Cc 69 s) w):=by
 have hal:=Ao 58 s a bp;have hbl:=Ao 58 s b bp;have hF:Cc 69 s=(match Ks [a,b]with|some (n,b)=>some ⟨n,b,Kd.nil,[]⟩|none=>none):=cv;have Hcut:=Aa (fun W=>C4 s 58 58 rfl W aI);rw[hp]at Hcut;have Hnum:=Aa (fun W=>Dv a 200 W aI aI);have Hname:=Aa (fun W=>C0 b W aI);clear hp;rw[Qi2 hd h1 h2 hnm]at hF;have HF:=Aa hF;have Ho:=Aa ho;have Hd:=Aa hd;have Hnm:=Aa hnm;clear hF ho hd hnm;go_enter func203,ntmps203;go_wp2_with fail;refine(Hcut.o _).mono ?_;rintro e w1 ⟨v,rfl,ho,hb⟩;obtain⟨g,c,rfl,hg1,hg2,c0,c1⟩:=Pk ho;simp at hg1;obtain⟨hc,hfz,hz⟩:=Ci hb;have Hb:=Aa (((Aq w.heap.size w).alloc (Al _) _).trans (hb.mono aK));have hzz:=hz w.heap.size aK;clear hb ho;go_wp2_with fail;refine(Hnum.o _).mono ?_;rintro e w2 ⟨n,hn,rfl,hdn,hb2⟩;rw[Ho.o];obtain⟨hc2,hfz2,hz2⟩:=Ci hb2;have Hb2:=Aa (Hb.o.trans (hb2.mono Hb.o.size));have hsz:=Hb2.o.size;have hz3:=hz2 _ hzz;clear hb2;obtain rfl:=hdn n0 Hd.o;clear hdn;go_wp2_with fail;refine(Hname.o _).mono ?_;rintro e w3 ⟨rfl,rfl⟩;rw[Hnm.o];go_wp2_with fail;refine aG (v:=.tuple #[sfV ⟨n0,b,Kd.nil,[]⟩,.bool true]) (by simp[results,results203,go_sem,sfV,Kd.nil,Be,Cj,hc,hc2,hzz,hz3]) rfl ?_;exact Dd.yes HF.o rfl aS
theorem X8(s a b:List UInt8)(w:World)(hs:s.length<=1000)(hp:Aj 58 s=[a,b]):
  Calls prog 203 #[s,.int .u8 69] w (Dd (Cc 69 s) w):=by
 rcases Xe a b with ho|⟨ho,hd⟩|⟨n0,ho,hd,h1,h2,hnm⟩|⟨n0,ho,hd,h1,h2,hnm⟩
 ·exact Qk4 s a b w hs hp ho
 ·exact Qkg s a b w hs hp ho hd
 ·exact Qll s a b w hs hp n0 ho hd h1 h2 hnm
 exact Qkd s a b w hs hp n0 ho hd h1 h2 hnm
theorem Qhz{w:World}{base:Nat}{v:Value}{a:List UInt8}(h:w.ownsRow base 9 1 v [a].length (Bz [a])):
  ∃g c,v=.slice (some ⟨g,0,none⟩) 1 c/\base<=g/\g<w.heap.size/\w.cell? ⟨g,0,none⟩=a:=by
 rcases h.2 with⟨_,h0⟩|⟨g,cap,cur,rfl,hb,hh,_⟩
 ·simp at h0
 have hc:=fun j u hu=>h.cells (g:=g) rfl j u hu;have e1:∀j,(⟨g,0,none⟩:Addr).add j=⟨g,j,none⟩:=fun j=>bq;refine⟨g,cap,rfl,hb,(h.lt g rfl).2,?_⟩;have:=hc 0 _ rfl;rwa [e1]at this
def Es(st:UInt8)(a b d:List UInt8):Option Fd:=
 match Ms [a,b,d]with
 |some (n,b,c)=>(match Aj 61 c with
  |[k]=>(match C5 k with|some k=>some ⟨n,b,k,[]⟩|none=>none)
  |[k,v]=>if st=82/\Ce k v=true then some ⟨n,b,⟨[],k,[]⟩,v⟩else none
  |_=>none)
 |none=>none
theorem Ep{st:UInt8}{s a b d:List UInt8}(hst:st≠69)(hp:Aj 58 s=[a,b,d]):Cc st s=Es st a b d:=by
 unfold Cc Es;rw[if_neg hst,hp];cases Ms [a,b,d]with
 |none=>rfl
 |some x=>
  obtain⟨n,b',c⟩:=x;simp only;match Aj 61 c with
  |[]=>rfl
  |[k]=>simp only;cases C5 k<;>rfl
  |[k,v]=>rfl
  |_::_::_::_=>rfl
theorem Vi{st:UInt8}{a b d:List UInt8}(h:Ms [a,b,d]=none):Es st a b d=none:=by unfold Es;rw[h]
theorem Qbk{st:UInt8}{a b d k:List UInt8}{n:Nat}(h:Ms [a,b,d]=some (n,b,d))(hq:Aj 61 d=[k]):Es st a b d=(C5 k).map fun k=>⟨n,b,k,[]⟩:=by
 unfold Es;rw[h];simp only;rw[hq];simp only;cases C5 k<;>rfl
theorem Tw{st:UInt8}{a b d k v:List UInt8}{n:Nat}(h:Ms [a,b,d]=some (n,b,d))(hq:Aj 61 d=[k,v]):Es st a b d=if st=82/\Ce k v=true then some ⟨n,b,⟨[],k,[]⟩,v⟩else none:=by
 unfold Es;rw[h];simp only;rw[hq]
theorem Qgy{st:UInt8}{a b d k v x:List UInt8}{l:List (List UInt8)}{n:Nat}(h:Ms [a,b,d]=some (n,b,d))(hq:Aj 61 d=k::v::x::l):Es st a b d=none:=by
 unfold Es;rw[h];simp only;rw[hq]
theorem Qko(st:UInt8)(hst:st≠69)(s a b d:List UInt8)(w:World)(hs:s.length<=1000)(hp:Aj 58 s=[a,b,d])(ho:Ef a 200=false):
  Calls prog 203 #[s,.int .u8 (st.toNat:Int)] w (Dd (Cc st s) w):=by
 have hal:=Ao 58 s a bp;have hbl:=Ao 58 s b bp;have hdl:=Ao 58 s d bp;have hF:Cc st s=Es st a b d:=Ep hst hp;have Hcut:=Aa (fun W=>C4 s 58 58 rfl W aI);rw[hp]at Hcut;have Hnum:=Aa (fun W=>Dv a 200 W aI aI);have Hname:=Aa (fun W=>C0 b W aI);have hsl:=st.toNat_lt;have t1:((st.toNat:Int) != 69)=true:=cr;have t2:((st.toNat:Int) == 69)=false:=At hst;clear hp hst;rw[Vi (Ys (.inl ho))]at hF;have HF:=Aa hF;have Ho:=Aa ho;clear hF ho;go_enter func203,ntmps203;go_wp2_with fail;refine(Hcut.o _).mono ?_;rintro e w1 ⟨v,rfl,ho,hb⟩;obtain⟨g,c,rfl,hg1,hg2,c0,c1,c2⟩:=G8 ho;simp at hg1;obtain⟨hc,hfz,hz⟩:=Ci hb;have Hb:=Aa (((Aq w.heap.size w).alloc (Al _) _).trans (hb.mono aK));have hzz:=hz w.heap.size aK;clear hb ho;go_wp2_with fail;refine(Hnum.o _).mono ?_;rintro e w2 ⟨n,hn,rfl,hdn,hb2⟩;rw[Ho.o];obtain⟨hc2,hfz2,hz2⟩:=Ci hb2;have Hb2:=Aa (Hb.o.trans (hb2.mono Hb.o.size));have hsz:=Hb2.o.size;have hz3:=hz2 _ hzz;clear hb2;go_wp2_with fail;refine aG (v:=.tuple #[.agg #[.int .i64 n,b,a6,a6],.bool false]) (by simp[results,results203,go_sem,hc,hc2,hzz,hz3]) rfl ?_;exact iV
theorem Qlu(st:UInt8)(hst:st≠69)(s a b d:List UInt8)(w:World)(hs:s.length<=1000)(hp:Aj 58 s=[a,b,d])(ho:Ef a 200=true)(hd:Cx a=some 0):
  Calls prog 203 #[s,.int .u8 (st.toNat:Int)] w (Dd (Cc st s) w):=by
 have hal:=Ao 58 s a bp;have hbl:=Ao 58 s b bp;have hdl:=Ao 58 s d bp;have hF:Cc st s=Es st a b d:=Ep hst hp;have Hcut:=Aa (fun W=>C4 s 58 58 rfl W aI);rw[hp]at Hcut;have Hnum:=Aa (fun W=>Dv a 200 W aI aI);have Hname:=Aa (fun W=>C0 b W aI);have hsl:=st.toNat_lt;have t1:((st.toNat:Int) != 69)=true:=cr;have t2:((st.toNat:Int) == 69)=false:=At hst;clear hp hst;rw[Vi (Ys (.inr (.inl hd)))]at hF;have HF:=Aa hF;have Ho:=Aa ho;have Hd:=Aa hd;clear hF ho hd;go_enter func203,ntmps203;go_wp2_with fail;refine(Hcut.o _).mono ?_;rintro e w1 ⟨v,rfl,ho,hb⟩;obtain⟨g,c,rfl,hg1,hg2,c0,c1,c2⟩:=G8 ho;simp at hg1;obtain⟨hc,hfz,hz⟩:=Ci hb;have Hb:=Aa (((Aq w.heap.size w).alloc (Al _) _).trans (hb.mono aK));have hzz:=hz w.heap.size aK;clear hb ho;go_wp2_with fail;refine(Hnum.o _).mono ?_;rintro e w2 ⟨n,hn,rfl,hdn,hb2⟩;rw[Ho.o];obtain⟨hc2,hfz2,hz2⟩:=Ci hb2;have Hb2:=Aa (Hb.o.trans (hb2.mono Hb.o.size));have hsz:=Hb2.o.size;have hz3:=hz2 _ hzz;clear hb2;obtain rfl:=hdn 0 Hd.o;clear hdn;go_wp2_with fail;refine aG (v:=.tuple #[.agg #[.int .i64 0,b,a6,a6],.bool false]) (by simp[results,results203,go_sem,hc,hc2,hzz,hz3]) rfl ?_;exact iV
theorem Qlj(st:UInt8)(hst:st≠69)(s a b d:List UInt8)(w:World)(hs:s.length<=1000)(hp:Aj 58 s=[a,b,d])(n0:Nat)(ho:Ef a 200=true)(hd:Cx a=some n0)(h1:1<=n0)(h2:n0<=200)(hnm:Bf b=false):
  Calls prog 203 #[s,.int .u8 (st.toNat:Int)] w (Dd (Cc st s) w):=by
 have hal:=Ao 58 s a bp;have hbl:=Ao 58 s b bp;have hdl:=Ao 58 s d bp;have hF:Cc st s=Es st a b d:=Ep hst hp;have Hcut:=Aa (fun W=>C4 s 58 58 rfl W aI);rw[hp]at Hcut;have Hnum:=Aa (fun W=>Dv a 200 W aI aI);have Hname:=Aa (fun W=>C0 b W aI);have hsl:=st.toNat_lt;have t1:((st.toNat:Int) != 69)=true:=cr;have t2:((st.toNat:Int) == 69)=false:=At hst;clear hp hst;rw[Vi (Ys (.inr (.inr hnm)))]at hF;have HF:=Aa hF;have Ho:=Aa ho;have Hd:=Aa hd;have Hnm:=Aa hnm;clear hF ho hd hnm;go_enter func203,ntmps203;go_wp2_with fail;refine(Hcut.o _).mono ?_;rintro e w1 ⟨v,rfl,ho,hb⟩;obtain⟨g,c,rfl,hg1,hg2,c0,c1,c2⟩:=G8 ho;simp at hg1;obtain⟨hc,hfz,hz⟩:=Ci hb;have Hb:=Aa (((Aq w.heap.size w).alloc (Al _) _).trans (hb.mono aK));have hzz:=hz w.heap.size aK;clear hb ho;go_wp2_with fail;refine(Hnum.o _).mono ?_;rintro e w2 ⟨n,hn,rfl,hdn,hb2⟩;rw[Ho.o];obtain⟨hc2,hfz2,hz2⟩:=Ci hb2;have Hb2:=Aa (Hb.o.trans (hb2.mono Hb.o.size));have hsz:=Hb2.o.size;have hz3:=hz2 _ hzz;clear hb2;obtain rfl:=hdn n0 Hd.o;clear hdn;go_wp2_with fail;refine(Hname.o _).mono ?_;rintro e w3 ⟨rfl,rfl⟩;rw[Hnm.o];go_wp2_with fail;refine aG (v:=.tuple #[.agg #[.int .i64 n0,b,a6,a6],.bool false]) (by simp[results,results203,go_sem,hc,hc2,hzz,hz3]) rfl ?_;exact iV
theorem Qjr(st:UInt8)(hst:st≠69)(s a b d:List UInt8)(w:World)(hs:s.length<=1000)(hp:Aj 58 s=[a,b,d])(n0:Nat)(ho:Ef a 200=true)(hd:Cx a=some n0)(h1:1<=n0)(h2:n0<=200)(hnm:Bf b=true)(k:List UInt8)(hq:Aj 61 d=[k])(hk:C5 k=none):
  Calls prog 203 #[s,.int .u8 (st.toNat:Int)] w (Dd (Cc st s) w):=by
 have hal:=Ao 58 s a bp;have hbl:=Ao 58 s b bp;have hdl:=Ao 58 s d bp;have hF:Cc st s=Es st a b d:=Ep hst hp;have Hcut:=Aa (fun W=>C4 s 58 58 rfl W aI);rw[hp]at Hcut;have Hnum:=Aa (fun W=>Dv a 200 W aI aI);have Hname:=Aa (fun W=>C0 b W aI);have hsl:=st.toNat_lt;have t1:((st.toNat:Int) != 69)=true:=cr;have t2:((st.toNat:Int) == 69)=false:=At hst;clear hp hst;have hkl:=Ao 61 d k dj;rw[Qbk (Kv hd h1 h2 hnm) hq,hk]at hF;have HF:=Aa hF;have Ho:=Aa ho;have Hd:=Aa hd;have Hnm:=Aa hnm;have Hcut2:=Aa (fun W=>C4 d 61 61 rfl W aI);rw[hq]at Hcut2;clear hF ho hd hnm hq;have hkk:=fun W=>N0 k.length k W (Al _) aI;rw[hk]at hkk;have Hk:=Aa hkk;clear hkk hk;go_enter func203,ntmps203;go_wp2_with fail;refine(Hcut.o _).mono ?_;rintro e w1 ⟨v,rfl,ho,hb⟩;obtain⟨g,c,rfl,hg1,hg2,c0,c1,c2⟩:=G8 ho;simp at hg1;obtain⟨hc,hfz,hz⟩:=Ci hb;have Hb:=Aa (((Aq w.heap.size w).alloc (Al _) _).trans (hb.mono aK));have hzz:=hz w.heap.size aK;clear hb ho;go_wp2_with fail;refine(Hnum.o _).mono ?_;rintro e w2 ⟨n,hn,rfl,hdn,hb2⟩;rw[Ho.o];obtain⟨hc2,hfz2,hz2⟩:=Ci hb2;have Hb2:=Aa (Hb.o.trans (hb2.mono Hb.o.size));have hsz:=Hb2.o.size;have hz3:=hz2 _ hzz;clear hb2;obtain rfl:=hdn n0 Hd.o;clear hdn;go_wp2_with fail;refine(Hname.o _).mono ?_;rintro e w3 ⟨rfl,rfl⟩;rw[Hnm.o];go_wp2_with fail;refine(Hcut2.o _).mono ?_;rintro e w4 ⟨v4,rfl,ho4,hb4⟩;obtain⟨g4,c4,rfl,hg4,hg5,c40⟩:=Qhz ho4;obtain⟨hc4,hfz4,hz4⟩:=Ci hb4;have hzb:=hz4 w.heap.size (Nat.lt_trans hz3 aK);have hzf:=hz4 w2.heap.size aK;have Hb4:=Aa ((Hb2.o.alloc hsz _).trans (hb4.mono (ad hsz aK)));have u0:w4.cell? (w,0)=some (.int .i64 0):=ft;have u1:w4.cell? (w,1)=a6:=fw;have u2:w4.cell? (w,2)=a6:=fy;have u3:w4.cell? (w,3)=a6:=fA;have d0:w4.cell? (w2,0)=(n0:Int):=fJ;have d1:w4.cell? (w2,1)=b:=fK;have d2:w4.cell? (w2,2)=a6:=fL;have d3:w4.cell? (w2,3)=a6:=fM;have f1:∀j,w4.frozen? ⟨w.heap.size,j,none⟩=false:=fun j=>fr;have f2:∀j,w4.frozen? ⟨w2.heap.size,j,none⟩=false:=fun j=>fD;clear hb4 ho4 hc hc2 hc4 hfz hfz2 hfz4 hz hz2 hz4;have hn1:¬(w2.heap.size=w.heap.size):=aI;have hn2:¬(w.heap.size=w2.heap.size):=aI;have hn3:¬(w4.heap.size=w.heap.size):=aI;have hn4:¬(w.heap.size=w4.heap.size):=aI;go_wp2_with fail;generalize hW0:w4.setCell ⟨w2.heap.size,2,none⟩ k=W0;have e0:W0.cell? (w2,0)=(n0:Int):=dx;have e1:W0.cell? (w2,1)=b:=dy;have e2:W0.cell? (w2,2)=k:=db;have e3:W0.cell? (w2,3)=a6:=dc;have v0:W0.cell? (w,0)=some (.int .i64 0):=cX;have v1:W0.cell? (w,1)=a6:=cY;have v2:W0.cell? (w,2)=a6:=cZ;have v3:W0.cell? (w,3)=a6:=d7;have g1:∀j,W0.frozen? ⟨w.heap.size,j,none⟩=false:=fun j=>dz;have y1:w.heap.size<W0.heap.size:=dr;have Hb5:Below w w W0:=by
  rw[<-hW0];(repeat (first|exact Hb4.o|refine Below.setCell ?_ aM _|refine Below.alloc ?_ aM _|refine Below.drew ?_))
 have Hb5:=Aa Hb5;clear hW0 u0 u1 u2 u3 d0 d1 d2 d3 f1 f2 Hb4 hzb hzf;refine H9 [83,84,85,86,87,88,89,90,91,999,5] aN aN aN (fun u=>by dsimp only[Bl,Bk,List.set])
  (fun i x W=>x=[.agg #[.int .i64 n0,.string ⟨b.toArray⟩,.string ⟨k.toArray⟩,.string ⟨#[]⟩],.slice (some ⟨g4,0,none⟩) 1 c4,.int .i64 1,.bool true,.bool true,.pointer (some ⟨w2.heap.size,2,none⟩),.string ⟨k.toArray⟩,.bool false,.bool false,undef,.bool false][i]?.getD undef)
  (fun L W=>W=if L 9=true then(((W0.drew.setCell ⟨w.heap.size,0,none⟩ (.int .i64 n0)).setCell ⟨w.heap.size,1,none⟩ b).setCell ⟨w.heap.size,2,none⟩ k).setCell ⟨w.heap.size,3,none⟩ a6 else W0.drew) (fun _ _=>True) (fun _ _ _ _ _ h=>h) rfl ?_ ?_
 ·exact gc
 rintro L u W hL hφ hR;have c10:=hφ 10 aL;simp at c10;simp only[c10];rw[if_pos (hL 9 aL)]at hR;subst hR;go_wp2_with fail;refine aG (v:=.tuple #[.agg #[.int .i64 n0,b,k,a6],.bool false]) (by simp[results,results203,go_sem,g1,y1,v0,v1,v2,v3]) rfl ?_;exact Dd.no HF.o rfl aZ
theorem Qjp(st:UInt8)(hst:st≠69)(s a b d:List UInt8)(w:World)(hs:s.length<=1000)(hp:Aj 58 s=[a,b,d])(n0:Nat)(ho:Ef a 200=true)(hd:Cx a=some n0)(h1:1<=n0)(h2:n0<=200)(hnm:Bf b=true)(k:List UInt8)(hq:Aj 61 d=[k])(kk:Kd)(hk:C5 k=some kk):
  Calls prog 203 #[s,.int .u8 (st.toNat:Int)] w (Dd (Cc st s) w):=by
 have hal:=Ao 58 s a bp;have hbl:=Ao 58 s b bp;have hdl:=Ao 58 s d bp;have hF:Cc st s=Es st a b d:=Ep hst hp;have Hcut:=Aa (fun W=>C4 s 58 58 rfl W aI);rw[hp]at Hcut;have Hnum:=Aa (fun W=>Dv a 200 W aI aI);have Hname:=Aa (fun W=>C0 b W aI);have hsl:=st.toNat_lt;have t1:((st.toNat:Int) != 69)=true:=cr;have t2:((st.toNat:Int) == 69)=false:=At hst;clear hp hst;have hkl:=Ao 61 d k dj;rw[Qbk (Kv hd h1 h2 hnm) hq,hk]at hF;have Hkb:=Aa (Fm.1 hk).2;have HF:=Aa hF;have Ho:=Aa ho;have Hd:=Aa hd;have Hnm:=Aa hnm;have Hcut2:=Aa (fun W=>C4 d 61 61 rfl W aI);rw[hq]at Hcut2;clear hF ho hd hnm hq;have hkk:=fun W=>N0 k.length k W (Al _) aI;rw[hk]at hkk;have Hk:=Aa hkk;clear hkk hk;go_enter func203,ntmps203;go_wp2_with fail;refine(Hcut.o _).mono ?_;rintro e w1 ⟨v,rfl,ho,hb⟩;obtain⟨g,c,rfl,hg1,hg2,c0,c1,c2⟩:=G8 ho;simp at hg1;obtain⟨hc,hfz,hz⟩:=Ci hb;have Hb:=Aa (((Aq w.heap.size w).alloc (Al _) _).trans (hb.mono aK));have hzz:=hz w.heap.size aK;clear hb ho;go_wp2_with fail;refine(Hnum.o _).mono ?_;rintro e w2 ⟨n,hn,rfl,hdn,hb2⟩;rw[Ho.o];obtain⟨hc2,hfz2,hz2⟩:=Ci hb2;have Hb2:=Aa (Hb.o.trans (hb2.mono Hb.o.size));have hsz:=Hb2.o.size;have hz3:=hz2 _ hzz;clear hb2;obtain rfl:=hdn n0 Hd.o;clear hdn;go_wp2_with fail;refine(Hname.o _).mono ?_;rintro e w3 ⟨rfl,rfl⟩;rw[Hnm.o];go_wp2_with fail;refine(Hcut2.o _).mono ?_;rintro e w4 ⟨v4,rfl,ho4,hb4⟩;obtain⟨g4,c4,rfl,hg4,hg5,c40⟩:=Qhz ho4;obtain⟨hc4,hfz4,hz4⟩:=Ci hb4;have hzb:=hz4 w.heap.size (Nat.lt_trans hz3 aK);have hzf:=hz4 w2.heap.size aK;have Hb4:=Aa ((Hb2.o.alloc hsz _).trans (hb4.mono (ad hsz aK)));have u0:w4.cell? (w,0)=some (.int .i64 0):=ft;have u1:w4.cell? (w,1)=a6:=fw;have u2:w4.cell? (w,2)=a6:=fy;have u3:w4.cell? (w,3)=a6:=fA;have d0:w4.cell? (w2,0)=(n0:Int):=fJ;have d1:w4.cell? (w2,1)=b:=fK;have d2:w4.cell? (w2,2)=a6:=fL;have d3:w4.cell? (w2,3)=a6:=fM;have f1:∀j,w4.frozen? ⟨w.heap.size,j,none⟩=false:=fun j=>fr;have f2:∀j,w4.frozen? ⟨w2.heap.size,j,none⟩=false:=fun j=>fD;clear hb4 ho4 hc hc2 hc4 hfz hfz2 hfz4 hz hz2 hz4;have hn1:¬(w2.heap.size=w.heap.size):=aI;have hn2:¬(w.heap.size=w2.heap.size):=aI;have hn3:¬(w4.heap.size=w.heap.size):=aI;have hn4:¬(w.heap.size=w4.heap.size):=aI;go_wp2_with fail;generalize hW0:w4.setCell ⟨w2.heap.size,2,none⟩ k=W0;have e0:W0.cell? (w2,0)=(n0:Int):=dx;have e1:W0.cell? (w2,1)=b:=dy;have e2:W0.cell? (w2,2)=k:=db;have e3:W0.cell? (w2,3)=a6:=dc;have v0:W0.cell? (w,0)=some (.int .i64 0):=cX;have v1:W0.cell? (w,1)=a6:=cY;have v2:W0.cell? (w,2)=a6:=cZ;have v3:W0.cell? (w,3)=a6:=d7;have g1:∀j,W0.frozen? ⟨w.heap.size,j,none⟩=false:=fun j=>dz;have y1:w.heap.size<W0.heap.size:=dr;have Hb5:Below w w W0:=by
  rw[<-hW0];(repeat (first|exact Hb4.o|refine Below.setCell ?_ aM _|refine Below.alloc ?_ aM _|refine Below.drew ?_))
 have Hb5:=Aa Hb5;clear hW0 u0 u1 u2 u3 d0 d1 d2 d3 f1 f2 Hb4 hzb hzf;refine H9 [83,84,85,86,87,88,89,90,91,999,5] aN aN aN (fun u=>by dsimp only[Bl,Bk,List.set])
  (fun i x W=>x=[.agg #[.int .i64 n0,.string ⟨b.toArray⟩,.string ⟨k.toArray⟩,.string ⟨#[]⟩],.slice (some ⟨g4,0,none⟩) 1 c4,.int .i64 1,.bool true,.bool true,.pointer (some ⟨w2.heap.size,2,none⟩),.string ⟨k.toArray⟩,.bool true,.bool true,undef,.bool true][i]?.getD undef)
  (fun L W=>W=if L 9=true then(((W0.drew.setCell ⟨w.heap.size,0,none⟩ (.int .i64 n0)).setCell ⟨w.heap.size,1,none⟩ b).setCell ⟨w.heap.size,2,none⟩ k).setCell ⟨w.heap.size,3,none⟩ a6 else W0.drew) (fun _ _=>True) (fun _ _ _ _ _ h=>h) rfl ?_ ?_
 ·exact gc
 rintro L u W hL hφ hR;have c10:=hφ 10 aL;simp at c10;simp only[c10];rw[if_pos (hL 9 aL)]at hR;subst hR;go_wp2_with fail;refine aG (v:=.tuple #[.agg #[.int .i64 n0,b,k,a6],.bool true]) (by simp[results,results203,go_sem,g1,y1,v0,v1,v2,v3]) rfl ?_;exact Dd.yes HF.o (by unfold sfV;rw[Hkb.o]) aZ
end
end Go.Proofs.YtmmhmlmfhpfgbaaGreatDoor
