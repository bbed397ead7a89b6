/- Texts joined. Conditions: as each theorem names them. -/
import Derived.Deep.CutRange
import Derived.Deep.DeepCutAuto
import Derived.Test.YtpjijpcemejlnaaGreatDoorR26
set_option maxRecDepth 100000
set_option maxHeartbeats 32000000
set_option linter.unusedVariables false
set_option linter.unusedSimpArgs false
namespace Go.Proofs.YtpjijpcemejlnaaGreatDoor
open Go.RowKit Go.Proofs.Tryz
section
attribute [local go_sem] Qm0 Ql8 Qlz Qj6 ByteArray.mk_append_mk
structure Jh(Q:World->Value->Value->Value->Prop)(w1:World)(c m x y z a b e:Bool)(uc um ux uy uz ua ub ue:Value)(W:World):Prop where
 no:c=false->W=w1
 yes:c=true->∃vp vr vk,Q W vp vr vk/\uc=.tuple #[vp,vr,vk]/\(m=true->um=.tuple #[vp,vr,vk])/\(x=true->ux=vp)/\(y=true->uy=vr)/\(z=true->uz=vk)/\(a=true->ua=vp)/\(b=true->ub=vr)/\(e=true->ue=vk)
def SrQ(w1:World)(S:List Ty)(k:Kd)(o:Option (Vl × List UInt8))(W:World)(vp vr vk:Value):Prop:=
 Below w1 w1 W/\match o with
  |some x=>(∃b,vp=.pointer (some ⟨b,0,none⟩)/\Fl (fun c=>w1.heap.size<=c) W b (By S k x.1))/\vr=x.2/\vk=.bool true
  |none=>(∃q,vp=.pointer q)/\(∃r,vr=.string r)/\vk=.bool false
theorem Bs.q{S:List Ty}{k:Kd}{o:Option (Vl × List UInt8)}{w w':World}{e:Ending}(h:Bs S k o w e w'):∃vp vr vk,e=.returned (.tuple #[vp,vr,vk])/\SrQ w S k o w' vp vr vk:=by
 obtain⟨h,hb⟩:=h;cases o with
 |none=>obtain⟨q,r,rfl⟩:=h;exact⟨_,_,_,rfl,hb,⟨q,rfl⟩,⟨r,rfl⟩,rfl⟩
 |some x=>obtain⟨b,rfl,hs⟩:=h;exact⟨_,_,_,rfl,hb,⟨b,rfl,hs⟩,rfl,rfl⟩
def SrC(w0:World)(S:List Ty)(xv:Value)(k:Kd)(d:Nat):Prop:=∀(s:List UInt8) (W:World),Below w0 w0 W->s.length<=1000000 ->
 Calls prog 78 #[.agg #[xv],s,.string ⟨(Bc k).toArray⟩,(d:Int)] W (Bs S k (Aq S 20 d k s) W)
def Qgx(K:List UInt8->Option (Vl × List UInt8))(s:List UInt8):Option (Vl × List UInt8):=match Av 93 s with
 |some z=>some (.mk 91 [] 0 [],z)
 |none=>match Dc K 20 s with|some (vs,z)=>some (.mk 91 [] 0 vs,z)|none=>none
structure Qmd(w:World)(xv h0 h1:Value)(S:List Ty)(k:Kd)(K:List UInt8->Option (Vl × List UInt8))(s:List UInt8)(wr:World)(v:Value)(xs:List (Nat × SV))(vs:List Vl)(tt:List UInt8):Prop where
 bel:Below w w wr
 st:D7 (w.heap.size+2) (w.heap.size+1) wr h0 h1 (.slice none 0 0) (.slice none 0 0) v v [] xs
 box:wr.cell? (w,0)=some xv
 len:xs.length=vs.length
 eq:xs.map (·.2)=vs.map (By S k.part)
 it:Dc K 20 s=Si vs (Dc K (20 - vs.length) tt)
 le:tt.length<=s.length
theorem Qg8(w0:World)(S:List Ty)(xv:Value)(hxv:xv.oneCell'=true)(k:Kd)(sg:List UInt8)(hsg:k.signs=91::sg)(hkl:(Bc k).length<=100)(d:Nat)(hd:d<=1000)(s:List UInt8)(w:World)(hw:Below w0 w0 w)(hs:s.length<=1000000)
  (H:SrC w0 S xv k.part d) (HG:∀s v r,Aq S 20 d k.part s=some (v,r)->s=Ba v++r) (q:Option (Vl × List UInt8)) (hq:q=Qgx (Aq S 20 d k.part) s):
  Calls prog 124 #[.agg #[xv],.string ⟨s.toArray⟩,.string ⟨(Bc k).toArray⟩,.int .i64 ((d+1:Nat):Int)] w (Bs S k q w):=by
 have hkp:Bc k=91::Bc k.part:=dP;have HQ:=Aa hq;have HH:=Aa H;have HG:=Aa HG;have HW:=Aa hw;have Hsv:=Aa (fun ks=>hkp ▸ Qj S k ks);have hkl2:(Bc k.part).length<=100:=by rw[hkp]at hkl;simp at hkl;omega
 rw[hkp];generalize hkk:Bc k.part=kp at *;have Hkk:=Aa hkk;have ed:(((d+1:Nat):Int)) - 1=(d:Int):=aI;have ed2:(((d+1:Nat):Int))<=1001:=aI;have ed3:(0:Int)<=(((d+1:Nat):Int)):=aI;generalize (((d+1:Nat):Int))=dd at *;clear H hw hq hkp hkl hkk hsg;by_cases h93:∃z,s=93::z
 ·obtain⟨z,rfl⟩:=h93;go_enter func124,ntmps124;go_wp2_with fail;go_quiet (fail)
  go_wp2_with fail;refine aG (v:=.tuple #[(w,1,0),.string ⟨z.toArray⟩,.bool true]) (by simp[results,results124,go_sem]) rfl ?_;rw[HQ.o,show Qgx (Aq S 20 d k.part) (93::z)=some (.mk 91 [] 0 [],z)from by simp[Qgx,Av]];have hl:=Fl.leaf (P:=fun c=>w.heap.size<=c) (w:=w.alloc (.cells #[xv] 73)) (kind:=91::kp) (text:=[]) (T:=87) aN;refine⟨⟨w.heap.size+1,rfl,?_⟩,below_drewN (((Am w.heap.size w).alloc (Ao _) _).alloc aN _) _⟩;rw[Hsv.o];have hl2:Fl (fun c=>w.heap.size<=c) ((w.alloc (.cells #[xv] 73)).alloc (.cells #[(91::kp:List UInt8),aa,.slice none 0 0,.slice none 0 0] 87)) (w.heap.size+1) (.mk (91::kp) [] [] []):=fl;exact hl2.after (below_drewN (Am _ _) _)
 have hne:Av 93 s=none:=by
  cases s with
  |nil=>rfl
  |cons c z=>exact D5 (fun e=>h93 ⟨z,by rw[e]⟩) z
 have HQ2:=@Aa (q=match Dc (Aq S 20 d k.part) 20 s with|some (vs,z)=>some (.mk 91 [] 0 vs,z)|none=>none) (by rw[HQ.o];unfold Qgx;rw[hne])
 have Hst:=Aa (show D7 (w.heap.size+2) (w.heap.size+1) ((w.alloc (.cells #[xv] 73)).alloc (.cells #[(91::kp:List UInt8),aa,.slice none 0 0,.slice none 0 0] 87)) (91::kp:List UInt8) aa (.slice none 0 0) (.slice none 0 0) (.slice none 0 0) (.slice none 0 0) [] []from by
  have:=D7.new (W:=w.alloc (.cells #[xv] 73)) (T:=87) (91::kp:List UInt8) aa;simpa using this)
 have hc0:s≠[]->∀h,((s[0]'h).toNat:Int)≠93:=by
  intro hn h e;cases s with
  |nil=>exact hn rfl
  | cons c z => exact h93 ⟨z, by have:c=93:=by apply UInt8.toNat_inj.1;simpa using(by exact_mod_cast e:c.toNat=93)
                                 rw[this]⟩
 clear h93 hne;obtain⟨W1,hW1⟩:∃W1,W1=(w.alloc (.cells #[xv] 73)).alloc (.cells #[(91::kp:List UInt8),aa,.slice none 0 0,.slice none 0 0] 87):=⟨_,rfl⟩
 have Hb1:=@Aa (Below w w W1) (by rw[hW1];exact((Am w.heap.size w).alloc (Ao _) _).alloc aN _);have Hx1:=@Aa (W1.cell? (w,0)=some xv) dJ;rw[<-hW1]at Hst;go_enter func124,ntmps124;go_upto_region 2 with fail
 rw[<-hW1];clear hW1;go_cut [1,24]from 18 to 27 (fun s0 bt wx=>s0=.string ⟨s.toArray⟩/\bt=.bool false/\wx=W1)
 case first=>
  by_cases hs0:s=[]
  ·have he:s.isEmpty=true:=by rw[hs0];rfl
   clear hs0 hc0;go_wp2_with fail;go_meet
   exact⟨rfl,rfl,rfl⟩
  ·have he:s.isEmpty=false:=by cases s with|nil=>exact absurd rfl hs0|cons c z=>rfl
   have hs1:0<s.length:=by cases s with|nil=>exact absurd rfl hs0|cons c z=>simp
   have hs2:(((s[0]'hs1).toNat:Int) == 93)=false:=by simpa using hc0 hs0 hs1
   clear hs0 hc0;go_wp2_with fail;go_meet
   exact⟨rfl,rfl,rfl⟩
 case rest=>
  clear hc0;obtain⟨rfl,rfl,rfl⟩:=hcut;have L0:=@Aa (Qmd w xv (91::kp:List UInt8) aa S k (Aq S 20 d k.part) s wc (.slice none 0 0) [] [] s) ⟨Hb1.o,Hst.o,Hx1.o,rfl,rfl,by cases h:Dc (Aq S 20 d k.part) 20 s<;>simp[Si,h],Ao _⟩;clear Hb1 Hst Hx1;go_wp2_with fail;go_loopw [1] (fun s0 wr=>∃(A:Option Addr) (c:Nat) (xs:List (Nat × SV)) (vs:List Vl) (tt:List UInt8),s0=tt/\tt.length<=s.length/\Hid (Qmd w xv (91::kp:List UInt8) aa S k (Aq S 20 d k.part) s wr (.slice A xs.length c) xs vs tt)) (fun s0 _=>Sj s0)
  case atStart=>exact⟨none,0,[],[],s,rfl,Ao _,L0.o⟩
  case round=>
   obtain⟨A,c,xs,vs,tt,rfl,htl,HL⟩:=hrel;have c3:=HL.o.st.c3;have c0:=HL.o.box;have hlt:=HL.o.st.lt;by_cases h20:xs.length<20
   ·have t20:decide ((xs.length:Int)<20)=true:=aE aI;have HC:=@Aa (∀W,Below w0 w0 W->Calls prog 78 #[.agg #[xv],tt,kp,(d:Int)] W (Bs S k.part (Aq S 20 d k.part tt) W)) (fun W hW=>by have:=HH.o tt W hW aI;rw[Hkk.o]at this;exact this);have HWr:=@Aa (Below w0 w0 wr.drew) ((HW.o.trans (HL.o.bel.mono HW.o.size)).drew);have t20i:(xs.length:Int)<20:=aI;have hx20:xs.length<=19:=aI;have d1:(0:Int)<=(d:Int):=aI;have d2:(d:Int)<=1000:=aI;have hwd:IntKind.i64.wrap (d:Int)=(d:Int):=IntWalk.i64_in _ aI;clear t20 h20;go_wp2_with fail;refine Gd [35,36,37,38,39,40,41,34,42,43,44,12,13,14]
     (fun ix v W=>match ix with|0=>v=.agg #[xv]|1=>v=(tt:List UInt8)|2=>v=(91::kp:List UInt8)|3=>v=(kp:List UInt8)|4=>v=.int .i64 dd|5=>v=(d:Int)|_=>True)
     (fun L U W=>Jh (SrQ wr.drew S k.part (Aq S 20 d k.part tt)) wr.drew (L 6) (L 7) (L 8) (L 9) (L 10) (L 11) (L 12) (L 13) (U 6) (U 7) (U 8) (U 9) (U 10) (U 11) (U 12) (U 13) W) (⟨fun _=>rfl,fun h=>Bool.noConfusion h⟩) ?_ ?_
    ·repeat (first|exact Ai.nil|(refine Ai.cons ?_ ?_;rotate_left))
     all_goals
      rintro L U W hL hpre HR Hdep K hK;first|(simp[Region.binds]at hpre;done)|simp[Region.binds]at hpre|clear hpre
     ·have h6:L 6=false:=At Hdep.o 6 0 rfl hL;have hW:=HR.o.no h6;exact mx
     iterate 2
      ·exact ii
     ·go_simp;rw[if_pos aI];go_simp;exact hK kp _ _ rfl Ab HR.o aK
     ·exact ii
     ·exact ke
     ·have h7:L 7=false:=At Hdep.o 7 6 rfl hL;have h8:L 8=false:=At Hdep.o 8 7 rfl h7;have h9:L 9=false:=At Hdep.o 9 7 rfl h7;have h10:L 10=false:=At Hdep.o 10 7 rfl h7;have h11:L 11=false:=At Hdep.o 11 8 rfl h8;have h12:L 12=false:=At Hdep.o 12 9 rfl h9;have h13:L 13=false:=At Hdep.o 13 10 rfl h10;have hW:=HR.o.no hL;subst hW;go_simp;refine(HC.o _ HWr.o).mono ?_;rintro e w5 hp;obtain⟨vp,vr,vk,rfl,hq5⟩:=hp.q;go_simp;refine hK (.tuple #[vp,vr,vk]) _ _ Ab Ab ⟨fun h=>by simp at h,fun _=>⟨vp,vr,vk,hq5,rfl,?_,?_,?_,?_,?_,?_,?_⟩⟩ aK;all_goals (intro h;simp_all)
     ·have l6:=hpre;obtain⟨vp,vr,vk,q1,q2,q3,q4,q5,q6,q7,q8,q9⟩:=HR.o.yes l6;go_simp;exact hK (U 6) _ _ Ab Ab ⟨fun h=>absurd (l6.symm.trans h) aL,fun _=>⟨vp,vr,vk,q1,q2,fun _=>q2,q4,q5,q6,q7,q8,q9⟩⟩ eY
     ·have l7:=hpre;have l6:L 6=true:=G7 (At Hdep.o 7 6 rfl) l7;obtain⟨vp,vr,vk,q1,q2,q3,q4,q5,q6,q7,q8,q9⟩:=HR.o.yes l6;have u7:=q3 l7;simp only[u7];go_simp;exact hK vp _ _ Ab Ab ⟨fun h=>absurd (l6.symm.trans h) aL,fun _=>⟨vp,vr,vk,q1,q2,q3,fun _=>rfl,q5,q6,q7,q8,q9⟩⟩ fO
     ·have l7:=hpre;have l6:L 6=true:=G7 (At Hdep.o 7 6 rfl) l7;obtain⟨vp,vr,vk,q1,q2,q3,q4,q5,q6,q7,q8,q9⟩:=HR.o.yes l6;have u7:=q3 l7;simp only[u7];go_simp;exact hK vr _ _ Ab Ab ⟨fun h=>absurd (l6.symm.trans h) aL,fun _=>⟨vp,vr,vk,q1,q2,q3,q4,fun _=>rfl,q6,q7,q8,q9⟩⟩ fO
     ·have l7:=hpre;have l6:L 6=true:=G7 (At Hdep.o 7 6 rfl) l7;obtain⟨vp,vr,vk,q1,q2,q3,q4,q5,q6,q7,q8,q9⟩:=HR.o.yes l6;have u7:=q3 l7;simp only[u7];go_simp;exact hK vk _ _ Ab Ab ⟨fun h=>absurd (l6.symm.trans h) aL,fun _=>⟨vp,vr,vk,q1,q2,q3,q4,q5,fun _=>rfl,q7,q8,q9⟩⟩ fO
     ·have l8:=hpre.1;have l7:L 7=true:=G7 (At Hdep.o 8 7 rfl) l8;have l6:L 6=true:=G7 (At Hdep.o 7 6 rfl) l7;obtain⟨vp,vr,vk,q1,q2,q3,q4,q5,q6,q7,q8,q9⟩:=HR.o.yes l6;go_simp;exact hK (U 8) _ _ Ab Ab ⟨fun h=>absurd (l6.symm.trans h) aL,fun _=>⟨vp,vr,vk,q1,q2,q3,q4,q5,q6,fun _=>q4 l8,q8,q9⟩⟩ (by simp[Act.put,hpre,q2,q3 l7,q4,q5,q6,q7,q8,q9,l8])
     ·have l9:=hpre.1;have l7:L 7=true:=G7 (At Hdep.o 9 7 rfl) l9;have l6:L 6=true:=G7 (At Hdep.o 7 6 rfl) l7;obtain⟨vp,vr,vk,q1,q2,q3,q4,q5,q6,q7,q8,q9⟩:=HR.o.yes l6;go_simp;exact hK (U 9) _ _ Ab Ab ⟨fun h=>absurd (l6.symm.trans h) aL,fun _=>⟨vp,vr,vk,q1,q2,q3,q4,q5,q6,q7,fun _=>q5 l9,q9⟩⟩ (by simp[Act.put,hpre,q2,q3 l7,q4,q5,q6,q7,q8,q9,l9])
     ·have l10:=hpre.1;have l7:L 7=true:=G7 (At Hdep.o 10 7 rfl) l10;have l6:L 6=true:=G7 (At Hdep.o 7 6 rfl) l7;obtain⟨vp,vr,vk,q1,q2,q3,q4,q5,q6,q7,q8,q9⟩:=HR.o.yes l6;go_simp;exact hK (U 10) _ _ Ab Ab ⟨fun h=>absurd (l6.symm.trans h) aL,fun _=>⟨vp,vr,vk,q1,q2,q3,q4,q5,q6,q7,q8,fun _=>q6 l10⟩⟩ (by simp[Act.put,hpre,q2,q3 l7,q4,q5,q6,q7,q8,q9,l10])
    rintro L U W hL hφ hR;clear hφ;obtain⟨vp,vr,vk,hq5,_,_,_,_,_,q7,q8,q9⟩:=hR.yes (hL 6 aL);have u11:=q7 (hL 11 aL);have u12:=q8 (hL 12 aL);have u13:=q9 (hL 13 aL);simp only[u11,u12,u13];clear hR hL q7 q8 q9 u11 u12 u13;obtain⟨hb5,hm⟩:=hq5;have HB5:=@Aa (Below wr wr W) ((Am _ _).drew.trans hb5);have HS5:=Aa (HL.o.st.after HB5.o);have Hw5:=Aa (HL.o.bel.trans (HB5.o.mono HL.o.bel.size));have Hx5:=@Aa (W.cell? (w,0)=some xv) ((HB5.o.cell (p:=⟨w.heap.size,0,none⟩) (by show w.heap.size<wr.heap.size;omega)).trans c0);have hz5:=hb5.size;have Hit:=@Aa (Dc (Aq S 20 d k.part) 20 s=Si vs (Dc (Aq S 20 d k.part) (19 - vs.length+1) tt)) (by rw[HL.o.it];congr 2;have:=HL.o.len;omega);clear c3 c0 hb5;cases hk:Aq S 20 d k.part tt with
    |none=>
     rw[hk]at hm;obtain⟨⟨q0,rfl⟩,⟨r0,rfl⟩,rfl⟩:=hm;have HN:=@Aa (q=none) (by rw[HQ2.o,Hit.o];unfold Dc;rw[hk];simp[Si]);clear hk;go_wp2_with fail;refine aG (v:=.tuple #[.pointer none,tt,.bool false]) (by simp[results,results124,go_sem]) rfl ?_;exact Bs.no HN.o rfl Hw5.o
    |some y=>
     obtain⟨v,r⟩:=y;rw[hk]at hm;obtain⟨⟨b,rfl,hsv⟩,rfl,rfl⟩:=hm;have hrl:r.length<=tt.length:=by rw[HG.o tt v r hk];simp
     have Hsv5:=Aa (show Fl (fun c1=>w.heap.size+2<=c1/\(Value.slice A xs.length c).ownBlock≠some c1/\(Value.slice none 0 0).ownBlock≠some c1) W b (By S k.part v)from by
      refine hsv.mono fun c1 hc _=>⟨ae HL.o.st.bs hc,fun e=>?_,by simp[Value.ownBlock]⟩
      have h1:=(HL.o.st.row.lt c1 e).2;have h2:wr.heap.size<=c1:=hc;omega)
     have HI:=@Aa (Dc (Aq S 20 d k.part) 20 s=Si vs (match Av 44 r with|some q=>(match Dc (Aq S 20 d k.part) (19 - vs.length) q with|some (vs,z)=>some (v::vs,z)|none=>none)|none=>match Av 93 r with|some q=>some ([v],q)|none=>none)) (by rw[Hit.o];simp only[Dc,hk];rfl);clear hk hsv;cases r with
     |nil=>
      have HN:=@Aa (q=none) (by rw[HQ2.o,HI.o];simp[Av,Si]);go_wp2_with fail;refine aG (v:=.tuple #[.pointer none,tt,.bool false]) (by simp[results,results124,go_sem]) rfl ?_;exact Bs.no HN.o rfl Hw5.o
     |cons c9 z=>
      by_cases h44:c9=44
      ·have HSV:=Hsv5;clear Hsv5;subst h44;have h9:((((44:UInt8).toNat:Nat):Int) != 44)=false:=rfl;have h8:((((44:UInt8).toNat:Nat):Int) == 93)=false:=rfl;have s3:=HS5.o.c3;have s4:=HS5.o.lt;go_wp2_with (at_builtin;go_loud (refine Em _ rfl _ _ 85 rfl (w.heap.size+2) 53 (.pointer none) 8 underlying85 P5 rfl W b rfl rfl (.slice A xs.length c) xs.length (Dr (xs.map (·.1))) rfl rfl HS5.o.row aY aI HS5.o.bs ?_;intro v6 w6 hown6 hg6 hwh6;obtain⟨A6,c6,e6,hS6,hb6⟩:=HS5.o.push (x:=(b,By S k.part v)) HSV.o hown6 hg6 hwh6;subst e6;have HS6:=Aa hS6;have HB6:=Aa hb6;have p3:=hS6.c3;have f3:=hS6.bk.live 3;have hz6:=hS6.lt;clear hS6 hb6 hown6 hg6 hwh6))
       have hw6:=HB6.o.mono (show w.heap.size<=w.heap.size+2 by omega);have Hbel:=Aa ((Hw5.o.trans hw6).setCell (p:=⟨w.heap.size+1,3,none⟩) (show w.heap.size<=w.heap.size+1 by omega) (.slice A6 (xs++[(b,By S k.part v)]).length c6));have Hst7:=Aa HS6.o.set3;have Hbx7:=Aa ((Al w6 (w.heap.size+1) 3 (.slice A6 (xs++[(b,By S k.part v)]).length c6)).cell ((HB6.o.cell (p:=⟨w.heap.size,0,none⟩) (show w.heap.size<w.heap.size+2 by omega)).trans Hx5.o) aN);have Heq7:=@Aa ((xs++[(b,By S k.part v)]).map (·.2)=(vs++[v]).map (By S k.part)) (by simp[HL.o.eq]);have el:(xs++[(b,By S k.part v)]).length=xs.length+1:=aN;rw[el]at Hbel Hst7 Hbx7
       have Hit7:=Aa (show Dc (Aq S 20 d k.part) 20 s=Si (vs++[v]) (Dc (Aq S 20 d k.part) (20 - (vs++[v]).length) z)from by
        rw[HI.o,show 20 - (vs++[v]).length=19 - vs.length by simp];simp only[Av,if_true];cases Dc (Aq S 20 d k.part) (19 - vs.length) z<;>simp[Si])
       have Hlen7:=@Aa ((xs++[(b,By S k.part v)]).length=(vs++[v]).length) (by simp[HL.o.len]);go_roundw
       case rel=>exact⟨A6,c6,_,vs++[v],z,rfl,by simp at hrl;omega,⟨Hbel.o,by rw[el];exact Hst7.o,Hbx7.o,Hlen7.o,Heq7.o,Hit7.o,by simp at hrl;omega⟩⟩
       case measure=>simp[Sj,ByteArray.size]at hrl ⊢;omega
      by_cases h93:c9=93
      ·have HSV:=Hsv5;clear Hsv5;subst h93;have h9:((((93:UInt8).toNat:Nat):Int) != 44)=true:=rfl;have h7:((((93:UInt8).toNat:Nat):Int) != 93)=false:=rfl;have h8:((((93:UInt8).toNat:Nat):Int) == 93)=true:=rfl;have s3:=HS5.o.c3;have s4:=HS5.o.lt;clear h44;go_wp2_with (at_builtin;go_loud (refine Em _ rfl _ _ 85 rfl (w.heap.size+2) 53 (.pointer none) 8 underlying85 P5 rfl W b rfl rfl (.slice A xs.length c) xs.length (Dr (xs.map (·.1))) rfl rfl HS5.o.row aY aI HS5.o.bs ?_;intro v6 w6 hown6 hg6 hwh6;obtain⟨A6,c6,e6,hS6,hb6⟩:=HS5.o.push (x:=(b,By S k.part v)) HSV.o hown6 hg6 hwh6;subst e6;have HS6:=Aa hS6;have HB6:=Aa hb6;have p3:=hS6.c3;have f3:=hS6.bk.live 3;have hz6:=hS6.lt;clear hS6 hb6 hown6 hg6 hwh6))
       have hw6:=HB6.o.mono (show w.heap.size<=w.heap.size+2 by omega);have Hbel:=Aa ((Hw5.o.trans hw6).setCell (p:=⟨w.heap.size+1,3,none⟩) (show w.heap.size<=w.heap.size+1 by omega) (.slice A6 (xs++[(b,By S k.part v)]).length c6));have Hst7:=Aa HS6.o.set3;have Hbx7:=Aa ((Al w6 (w.heap.size+1) 3 (.slice A6 (xs++[(b,By S k.part v)]).length c6)).cell ((HB6.o.cell (p:=⟨w.heap.size,0,none⟩) (show w.heap.size<w.heap.size+2 by omega)).trans Hx5.o) aN);have Heq7:=@Aa ((xs++[(b,By S k.part v)]).map (·.2)=(vs++[v]).map (By S k.part)) (by simp[HL.o.eq]);have el:(xs++[(b,By S k.part v)]).length=xs.length+1:=aN;rw[el]at Hbel Hst7 Hbx7;have HY:=@Aa (q=some (.mk 91 [] 0 (vs++[v]),z)) (by rw[HQ2.o,HI.o];simp[Av,Si]);refine aG (v:=.tuple #[(w,1,0),.string ⟨z.toArray⟩,.bool true]) (by simp[results,results124,go_sem]) rfl ?_;rw[HY.o];refine⟨⟨w.heap.size+1,rfl,?_⟩,Hbel.o⟩;rw[Hsv.o,<-Heq7.o];have hd:=Hst7.o.done (kind:=91::kp) (text:=[]) aN aO;exact hd.mono fun c1 hc _=>by have:w.heap.size+1<=c1:=hc;show w.heap.size<=c1;omega
      have HN:=@Aa (q=none) (by rw[HQ2.o,HI.o];simp[Av,Si,h44,h93]);have t44:((c9.toNat:Int) != 44)=true:=by have:=Ap h44;simpa using this
      have t93:((c9.toNat:Int) != 93)=true:=by have:=Ap h93;simpa using this
      clear h44 h93;go_wp2_with fail;refine aG (v:=.tuple #[.pointer none,tt,.bool false]) (by simp[results,results124,go_sem]) rfl ?_;exact Bs.no HN.o rfl Hw5.o
   ·have t20:decide ((xs.length:Int)<20)=false:=aD aI;go_wp2_with fail;refine aG (v:=.tuple #[.pointer none,tt,.bool false]) (by simp[results,results124,go_sem]) rfl ?_;refine Bs.no ?_ rfl HL.o.bel;have h0:=HL.o.it;rw[show 20 - vs.length=0 by have:=HL.o.len;omega]at h0;rw[HQ2.o,h0];simp[Dc,Si]
theorem SrQ.post{S:List Ty}{k:Kd}{o:Option (Vl × List UInt8)}{w w1 w':World}{vp vr vk:Value}(hb:Below w w w1)(h:SrQ w1 S k o w' vp vr vk):Bs S k o w (.returned (.tuple #[vp,vr,vk])) w':=by
 obtain⟨h1,h2⟩:=h;refine⟨?_,hb.trans (h1.mono hb.size)⟩;cases o with
 |none=>obtain⟨⟨q,rfl⟩,⟨r,rfl⟩,rfl⟩:=h2;exact⟨q,r,rfl⟩
 |some x=>obtain⟨⟨b,rfl,hs⟩,rfl,rfl⟩:=h2;exact⟨b,rfl,hs.mono fun c hc _=>ae hb.size hc⟩
theorem Qgq(S:List Ty)(m d:Nat)(k:Kd)(hs0:k.signs=[])(hb:k.base=[110]\/k.base=[116]\/k.base=[102]):Aq S m (d+1) k []=none:=by
 unfold Aq;rw[hs0];rcases hb with hb|hb|hb<;>rw[hb]<;>rfl
theorem Qc0(S:List Ty)(xv:Value)(hxv:xv.oneCell'=true)(k:Kd)(hs0:k.signs=[])(hb:k.base=[110]\/k.base=[116]\/k.base=[102])(d:Nat)(hd:d<=1000)(s:List UInt8)(w:World)(hs:s.length<=1000000):
  Calls prog 78 #[.agg #[xv],s,.string ⟨(Bc k).toArray⟩,.int .i64 ((d+1:Nat):Int)] w (Bs S k (Aq S 20 (d+1) k s) w):=by
 have HN:=Aa (Qgq S 20 d k hs0 hb);have d1:¬((((d+1:Nat):Int))<1):=aI;have d2:(((d+1:Nat):Int))<=1001:=aI;by_cases hne:s=[]
 ·subst hne;generalize hq:Aq S 20 (d+1) k []=q at *
  have hk2:∃kb:List UInt8,kb.length<=20/\Bc k=kb:=⟨_,by
   have:Bc k=k.base:=by unfold Bc Bv;rw[hs0];rcases hb with hb|hb|hb<;>rw[hb]<;>rfl
   rw[this];rcases hb with hb|hb|hb<;>rw[hb]<;>decide,rfl⟩
  obtain⟨kb,hkl,hkb⟩:=hk2;rw[hkb];generalize (((d+1:Nat):Int))=dd at *;clear hq hb hs0 hkb;go_enter func78,ntmps78;go_wp2_with fail;refine aG (v:=.tuple #[.pointer none,aa,.bool false]) (by simp[results,results78,go_sem]) rfl ?_;exact my
 have he:s.isEmpty=false:=dq;have HP:∀W,Calls prog 93 #[.agg #[xv],s,.string ⟨(Bc k).toArray⟩] W (Bs S k (Aq S 20 (d+1) k s) W):=by
  intro W;rcases hb with hb|hb|hb
  ·have hk:Bc k=[110]:=cD;rw[hk];exact Qjb S xv hxv s k hs0 hb W aI _ fQ
  ·have hk:Bc k=[116]:=cD;rw[hk];exact Qju S xv hxv s k hs0 hb W aI hne _ fQ
  have hk:Bc k=[102]:=cD;rw[hk];exact Qji S xv hxv s k hs0 hb W aI _ fQ
 have hk2:∃kb:UInt8,(kb=110\/kb=116\/kb=102)/\Bc k=[kb]:=by
  rcases hb with hb|hb|hb
  ·exact⟨110,.inl rfl,by unfold Bc Bv;rw[hs0,hb];rfl⟩
  ·exact⟨116,.inr (.inl rfl),by unfold Bc Bv;rw[hs0,hb];rfl⟩
  exact⟨102,.inr (.inr rfl),by unfold Bc Bv;rw[hs0,hb];rfl⟩
 obtain⟨kb,hkl,hkb⟩:=hk2;rw[hkb]at HP ⊢;generalize hq:Aq S 20 (d+1) k s=q at *;generalize (((d+1:Nat):Int))=dd at *;have HP:=Aa HP;clear hq hb hs0 hkb hne;rcases hkl with rfl|rfl|rfl<;>
 ·go_enter func78,ntmps78;go_wp2_with fail;refine(HP.o _).mono ?_;rintro e w5 hp;obtain⟨vp,vr,vk,rfl,hq5⟩:=hp.q;have Hq5:=Aa hq5;clear hq5 hp;go_wp2_with fail;refine aG (v:=.tuple #[vp,vr,vk]) (by simp[results,results78,go_sem]) rfl ?_;exact Hq5.o.post ((Am _ _).alloc (Ao _) _)
theorem Zg(K:List UInt8->Option (Vl × List UInt8)):∀(m:Nat) (s:List UInt8) (vs:List Vl) (q:List UInt8),Dc K m s=some (vs,q)->vs.length<=m
 |0,s,vs,q,h=>by simp[Dc]at h
 |m+1,s,vs,q,h=>by
  unfold Dc at h;cases hk:K s with
  |none=>rw[hk]at h;cases h
  |some y=>
   rw[hk]at h;simp only at h;cases h1:Av 44 y.2 with
   |some z=>
    rw[h1]at h;simp only at h;cases h2:Dc K m z with
    |none=>rw[h2]at h;cases h
    |some x=>
     rw[h2]at h;injection h with h;injection h with h _;have:=Zg K m z x.1 x.2 h2;rw[<-h];simp;omega
   |none=>
    rw[h1]at h;simp only at h;cases h2:Av 93 y.2 with
    |none=>rw[h2]at h;cases h
    |some z=>rw[h2]at h;injection h with h;injection h with h _;rw[<-h];simp
theorem Qh1(K:List UInt8->Option (Vl × List UInt8))(z:List UInt8):Xl K 20 (91::z)=Qgx K z:=by
 unfold Xl Qgx;rw[Bw];simp only;cases Av 93 z with
 |some q=>rfl
 |none=>
  simp only;cases h:Dc K 20 z with
  |none=>rfl
  |some x=>simp[Zg K 20 z x.1 x.2 h]
theorem Qg1(w0:World)(S:List Ty)(xv:Value)(hxv:xv.oneCell'=true)(k:Kd)(sg:List UInt8)(hsg:k.signs=91::sg)(hkl:(Bc k).length<=100)(d:Nat)(hd:d<=1000)(s:List UInt8)(w:World)(hw:Below w0 w0 w)(hs:s.length<=1000000)
  (H:SrC w0 S xv k.part d) (HG:∀s v r,Aq S 20 d k.part s=some (v,r)->s=Ba v++r):
  Calls prog 78 #[.agg #[xv],.string ⟨s.toArray⟩,.string ⟨(Bc k).toArray⟩,.int .i64 ((d+1:Nat):Int)] w (Bs S k (Aq S 20 (d+1) k s) w):=by
 have hq:Aq S 20 (d+1) k s=Xl (Aq S 20 d k.part) 20 s:=by unfold Aq;rw[hsg];rfl
 have HN:=@Aa (Av 91 s=none->Aq S 20 (d+1) k s=none) (fun h=>by rw[hq];unfold Xl;rw[h])
 have HC:=Aa (show ∀z,s=91::z->∀W,Below w0 w0 W->Calls prog 124 #[.agg #[xv],.string ⟨z.toArray⟩,.string ⟨(Bc k).toArray⟩,.int .i64 ((d+1:Nat):Int)] W (Bs S k (Aq S 20 (d+1) k s) W)from by
  rintro z rfl W hW;exact Qg8 w0 S xv hxv k sg hsg hkl d hd z W hW gS H HG _ (by rw[hq,Qh1]))
 have hkp:Bc k=91::Bc k.part:=dP;have d1:¬((((d+1:Nat):Int))<1):=aI;have d2:(((d+1:Nat):Int))<=1001:=aI;have HW:=@Aa (Below w0 w0 (w.alloc (.cells #[xv] 73)).drew) ((hw.alloc hw.size _).drew);rw[hkp]at HC hkl ⊢;generalize Bc k.part=kp at *;generalize Aq S 20 (d+1) k s=q at *;generalize (((d+1:Nat):Int))=dd at *;have hkl2:kp.length<=100:=dN;clear H HG hq hkp hsg hkl hw hd;cases s with
 |nil=>
  have HN:=Aa (HN.o rfl);go_enter func78,ntmps78;go_wp2_with fail;refine aG (v:=.tuple #[.pointer none,aa,.bool false]) (by simp[results,results78,go_sem]) rfl ?_;exact my
 |cons c z=>
  by_cases hc:c=91
  ·subst hc;have HC:=Aa (fun W=>HC.o z rfl W);go_enter func78,ntmps78;go_wp2_with fail;refine Gd [29,30,31,32,33,34,35,36,37,8,9,10]
    (fun ix v W=>match ix with|0=>v=.agg #[xv]|1=>v=.string ⟨(91::z:List UInt8).toArray⟩|2=>v=.string ⟨(z:List UInt8).toArray⟩|3=>v=(91::kp:List UInt8)|4=>v=.int .i64 dd|_=>True)
    (fun L U W=>Jh (SrQ (w.alloc (.cells #[xv] 73)).drew S k q) ((w.alloc (.cells #[xv] 73)).drew) (L 5) (L 5) (L 6) (L 7) (L 8) (L 9) (L 10) (L 11) (U 5) (U 5) (U 6) (U 7) (U 8) (U 9) (U 10) (U 11) W) (⟨fun _=>rfl,fun h=>Bool.noConfusion h⟩) ?_ ?_
   ·repeat (first|exact Ai.nil|(refine Ai.cons ?_ ?_;rotate_left))
    all_goals
     rintro L U W hL hpre HR Hdep K hK;first|(simp[Region.binds]at hpre;done)|simp[Region.binds]at hpre|clear hpre
    ·have h5:L 5=false:=At Hdep.o 5 0 rfl hL;have hW:=HR.o.no h5;exact mx
    ·exact ii
    ·go_simp;rw[if_pos aI];go_simp;exact hK (.string ⟨z.toArray⟩) _ _ rfl Ab HR.o aK
    iterate 2
     ·exact ii
    ·have h6:L 6=false:=At Hdep.o 6 5 rfl hL;have h7:L 7=false:=At Hdep.o 7 5 rfl hL;have h8:L 8=false:=At Hdep.o 8 5 rfl hL;have h9:L 9=false:=At Hdep.o 9 6 rfl h6;have h10:L 10=false:=At Hdep.o 10 7 rfl h7;have h11:L 11=false:=At Hdep.o 11 8 rfl h8;have hW:=HR.o.no hL;subst hW;go_simp;refine(HC.o _ HW.o).mono ?_;rintro e w5 hp;obtain⟨vp,vr,vk,rfl,hq5⟩:=hp.q;go_simp;refine hK (.tuple #[vp,vr,vk]) _ _ Ab Ab ⟨fun h=>by simp at h,fun _=>⟨vp,vr,vk,hq5,rfl,fun _=>rfl,?_,?_,?_,?_,?_,?_⟩⟩ aK;all_goals (intro h;simp_all)
    ·have l5:=hpre;obtain⟨vp,vr,vk,q1,q2,q3,q4,q5,q6,q7,q8,q9⟩:=HR.o.yes l5;simp only[q2];go_simp;exact hK vp _ _ Ab Ab ⟨fun h=>absurd (l5.symm.trans h) aL,fun _=>⟨vp,vr,vk,q1,q2,q3,fun _=>rfl,q5,q6,q7,q8,q9⟩⟩ eY
    ·have l5:=hpre;obtain⟨vp,vr,vk,q1,q2,q3,q4,q5,q6,q7,q8,q9⟩:=HR.o.yes l5;simp only[q2];go_simp;exact hK vr _ _ Ab Ab ⟨fun h=>absurd (l5.symm.trans h) aL,fun _=>⟨vp,vr,vk,q1,q2,q3,q4,fun _=>rfl,q6,q7,q8,q9⟩⟩ eY
    ·have l5:=hpre;obtain⟨vp,vr,vk,q1,q2,q3,q4,q5,q6,q7,q8,q9⟩:=HR.o.yes l5;simp only[q2];go_simp;exact hK vk _ _ Ab Ab ⟨fun h=>absurd (l5.symm.trans h) aL,fun _=>⟨vp,vr,vk,q1,q2,q3,q4,q5,fun _=>rfl,q7,q8,q9⟩⟩ eY
    ·have l6:=hpre.1;have l5:L 5=true:=G7 (At Hdep.o 6 5 rfl) l6;obtain⟨vp,vr,vk,q1,q2,q3,q4,q5,q6,q7,q8,q9⟩:=HR.o.yes l5;go_simp;exact hK (U 6) _ _ Ab Ab ⟨fun h=>absurd (l5.symm.trans h) aL,fun _=>⟨vp,vr,vk,q1,q2,q3,q4,q5,q6,fun _=>q4 l6,q8,q9⟩⟩ (by simp[Act.put,hpre,q2,q4,q5,q6,q7,q8,q9,l6])
    ·have l7:=hpre.1;have l5:L 5=true:=G7 (At Hdep.o 7 5 rfl) l7;obtain⟨vp,vr,vk,q1,q2,q3,q4,q5,q6,q7,q8,q9⟩:=HR.o.yes l5;go_simp;exact hK (U 7) _ _ Ab Ab ⟨fun h=>absurd (l5.symm.trans h) aL,fun _=>⟨vp,vr,vk,q1,q2,q3,q4,q5,q6,q7,fun _=>q5 l7,q9⟩⟩ (by simp[Act.put,hpre,q2,q4,q5,q6,q7,q8,q9,l7])
    ·have l8:=hpre.1;have l5:L 5=true:=G7 (At Hdep.o 8 5 rfl) l8;obtain⟨vp,vr,vk,q1,q2,q3,q4,q5,q6,q7,q8,q9⟩:=HR.o.yes l5;go_simp;exact hK (U 8) _ _ Ab Ab ⟨fun h=>absurd (l5.symm.trans h) aL,fun _=>⟨vp,vr,vk,q1,q2,q3,q4,q5,q6,q7,q8,fun _=>q6 l8⟩⟩ (by simp[Act.put,hpre,q2,q4,q5,q6,q7,q8,q9,l8])
   rintro L U W hL hφ hR;clear hφ;obtain⟨vp,vr,vk,hq5,_,_,_,_,_,q7,q8,q9⟩:=hR.yes (hL 5 aL);have u11:=q7 (hL 9 aL);have u12:=q8 (hL 10 aL);have u13:=q9 (hL 11 aL);simp only[u11,u12,u13];have Hq5:=Aa hq5;clear hR hL q7 q8 q9 u11 u12 u13 hq5;go_wp2_with fail;refine aG (v:=.tuple #[vp,vr,vk]) (by simp[results,results78,go_sem]) rfl ?_;exact Hq5.o.post ((Am _ _).alloc (Ao _) _).drew
  have HN:=Aa (HN.o (D5 hc z));have hcn:((c.toNat:Int) != 91)=true:=by have:=Ap hc;simpa using this
  clear hc;go_enter func78,ntmps78;go_wp2_with fail;refine aG (v:=.tuple #[.pointer none,.string ⟨(c::z:List UInt8).toArray⟩,.bool false]) (by simp[results,results78,go_sem]) rfl ?_;exact my
theorem Qhu(w0:World)(S:List Ty)(xv:Value)(hxv:xv.oneCell'=true)(k:Kd)(sg:List UInt8)(hsg:k.signs=63::sg)(hkl:(Bc k).length<=100)(d:Nat)(hd:d<=1000)(s:List UInt8)(w:World)(hw:Below w0.heap.size w0 w)(hs:s.length<=1000000)
  (H:SrC w0 S xv k.part d):
  Calls prog 78 #[.agg #[xv],.string ⟨s.toArray⟩,.string ⟨(Bc k).toArray⟩,.int .i64 ((d+1:Nat):Int)] w (Bs S k (Aq S 20 (d+1) k s) w):=by
 have hq:Aq S 20 (d+1) k s=Qdo (Aq S 20 d k.part) s:=by unfold Aq;rw[hsg];rfl
 have HN:=Aa (show Av 45 s=none->Av 43 s=none->Aq S 20 (d+1) k s=none from fun h h2=>by rw[hq];unfold Qdo;rw[h];simp only;rw[h2])
 have HM:=Aa (show ∀z,s=45::z->Aq S 20 (d+1) k s=some (.mk 63 [] 0 [],z)from by rintro z rfl;rw[hq];rfl)
 have HP:=Aa (show ∀z,s=43::z->Aq S 20 (d+1) k s=match Aq S 20 d k.part z with|some (v,q)=>some (.mk 63 [] 0 [v],q)|none=>none from by rintro z rfl;rw[hq];rfl)
 have hkp:Bc k=63::Bc k.part:=by unfold Bc Kd.part;rw[hsg];rfl
 have Hsv:=Aa (fun ks=>hkp ▸ Kl S k ks)
 have HC:=Aa (show ∀z,z.length<=1000000->∀W,Below w0.heap.size w0 W->Calls prog 78 #[.agg #[xv],.string ⟨z.toArray⟩,.string ⟨(Bc k.part).toArray⟩,.int .i64 (d:Int)] W (Bs S k.part (Aq S 20 d k.part z) W)from fun z hz W hW=>H z W hW hz)
 have d1:¬((((d+1:Nat):Int))<1):=by omega
 have d2:(((d+1:Nat):Int))<=1001:=by omega
 have d3:(((d+1:Nat):Int)) - 1=(d:Int):=by omega
 have d4:(0:Int)<=(d:Int):=by omega
 have d5:(d:Int)<=1000:=by omega
 have hwd:IntKind.i64.wrap (d:Int)=(d:Int):=IntWalk.i64_in _ (by omega)
 have HW:=Aa (show Below w0.heap.size w0 (w.alloc (.cells #[xv] 73)).drew from(hw.alloc hw.size _).drew)
 rw[hkp]at hkl ⊢
 generalize Bc k.part=kp at *
 generalize Aq S 20 (d+1) k s=q at *
 generalize (((d+1:Nat):Int))=dd at *
 have hkl2:kp.length<=100:=by simp at hkl;omega
 clear H hq hkp hsg hkl hw hd
 cases s with
 |nil=>
  have HN:=Aa (HN.o rfl rfl)
  go_enter func78,ntmps78
  go_wp2_with fail
  refine bodyPost_ret (v:=.tuple #[.pointer none,.string ⟨#[]⟩,.bool false]) (by simp[results,results78,go_sem]) rfl ?_
  exact Bs.no HN.o rfl ((Am _ _).alloc (Ao _) _)
 |cons c z=>
  by_cases hc:c=45
  ·subst hc
   have HM:=Aa (HM.o z rfl)
   go_enter func78,ntmps78
   go_wp2_with fail
   refine Gd [43,44,45,46,47,8,9,10]
    (fun ix v W=>match ix with|0=>v=.string ⟨(63::kp:List UInt8).toArray⟩|1=>v=.agg #[.string ⟨(63::kp:List UInt8).toArray⟩,.string ⟨#[]⟩,.slice none 0 0,.slice none 0 0]|2=>∃c,v=.pointer (some ⟨c,0,none⟩)|3=>v=.string ⟨(45::z:List UInt8).toArray⟩|4=>v=.string ⟨(z:List UInt8).toArray⟩|5=>∃c,v=.pointer (some ⟨c,0,none⟩)|6=>v=.string ⟨(z:List UInt8).toArray⟩|7=>v=.bool true|_=>True)
    (fun L U W=>(L 2=false->Below w.heap.size w W)/\(L 2=true->∃W7,W=W7.alloc (.cells #[.string ⟨(63::kp:List UInt8).toArray⟩,.string ⟨#[]⟩,.slice none 0 0,.slice none 0 0] 87)/\Below w.heap.size w W7/\U 2=.pointer (some ⟨W7.heap.size,0,none⟩))/\(L 5=true->U 5=U 2)) (⟨fun _=>((Am w.heap.size w).alloc (Ao _) _).drew,fun h=>Bool.noConfusion h,fun h=>Bool.noConfusion h⟩) ?_ ?_
   ·repeat (first|exact Ai.nil|(refine Ai.cons ?_ ?_;rotate_left))
    all_goals
     rintro L U W hL hpre HR Hdep K hK
     first|(simp[Region.binds]at hpre;done)|simp[Region.binds]at hpre|clear hpre
    iterate 2
     ·go_simp
      first|exact hK _ _ _ rfl Ab HR.o rfl|exact kF hK HR.o|exact hK undef _ _ Ab Ab HR.o (by simp[Act.put,hpre])|exact hK _ _ _ Ab Ab HR.o rfl|exact kF hK HR.o
    ·obtain⟨R1,R2,R3⟩:=HR.o
     have hB:=R1 hL
     have h10:L 5=false:=At Hdep.o 5 2 rfl hL
     go_simp
     exact hK (.pointer (some ⟨W.heap.size,0,none⟩)) _ _ ⟨_,rfl⟩ Ab ⟨fun h=>by simp at h,fun _=>⟨W,rfl,hB,rfl⟩,fun h=>absurd (h10.symm.trans (by simpa using h)) (by decide)⟩ (by simp[Act.put,hpre])
    ·go_simp
     first|exact hK _ _ _ rfl Ab HR.o rfl|exact kF hK HR.o|exact hK undef _ _ Ab Ab HR.o (by simp[Act.put,hpre])|exact hK _ _ _ Ab Ab HR.o rfl|exact kF hK HR.o
    ·go_simp
     rw[if_pos (by omega)]
     go_simp
     exact hK (.string ⟨z.toArray⟩) _ _ rfl Ab HR.o (by simp[Act.put,hpre])
    ·obtain⟨R1,R2,R3⟩:=HR.o
     obtain⟨c,u5⟩:=hpre.1.2
     clear R1 R2 R3
     go_simp
     obtain⟨R1,R2,R3⟩:=HR.o
     exact hK (.pointer (some ⟨c,0,none⟩)) _ _ ⟨c,rfl⟩ Ab ⟨R1,R2,fun _=>u5.symm⟩ (by simp[Act.put,hpre,u5])
    iterate 2
     ·go_simp
      first|exact hK _ _ _ rfl Ab HR.o rfl|exact kF hK HR.o|exact hK undef _ _ Ab Ab HR.o (by simp[Act.put,hpre])|exact hK _ _ _ Ab Ab HR.o rfl|exact kF hK HR.o
   rintro L U W hL hφ hR
   have hφ10:U 5=U 2:=hR.2.2 (hL 5 (by decide))
   have e11:U 6=.string ⟨(z:List UInt8).toArray⟩:=hφ 6 (by decide)
   have e12:U 7=.bool true:=hφ 7 (by decide)
   clear hφ
   obtain⟨_,h2,h3⟩:=hR
   obtain⟨W7,rfl,hb7,u5⟩:=h2 (hL 2 (by decide))
   rw[u5]at hφ10
   clear hL h2
   simp only[hφ10,e11,e12]
   clear hφ10
   go_wp2_with fail
   refine bodyPost_ret (v:=.tuple #[.pointer (some ⟨W7.heap.size,0,none⟩),.string ⟨z.toArray⟩,.bool true]) (by simp[results,results78,go_sem]) rfl ?_
   have hz7:=hb7.size
   have Hb7:=(hb7.alloc (by omega) (.cells #[.string ⟨(63::kp:List UInt8).toArray⟩,.string ⟨#[]⟩,.slice none 0 0,.slice none 0 0] 87))
   rw[HM.o]
   refine⟨⟨W7.heap.size,rfl,?_⟩,Hb7⟩
   rw[Hsv.o]
   exact Fl.leaf (P:=fun c=>w.heap.size<=c) (kind:=63::kp) (text:=[]) (by omega)
  by_cases hc2:c=43
  ·subst hc2
   have HP:=Aa (HP.o z rfl)
   have HC:=Aa (fun W hW=>HC.o z (by simp at hs;omega) W hW)
   clear hc
   go_enter func78,ntmps78
   go_wp2_with fail
   refine Gd [53,54,55,56,57,58,59,60,52,61,62,63,11,12,13]
    (fun ix v W=>match ix with|0=>v=.agg #[xv]|1=>v=.string ⟨(43::z:List UInt8).toArray⟩|2=>v=.string ⟨(z:List UInt8).toArray⟩|3=>v=.string ⟨(63::kp:List UInt8).toArray⟩|4=>v=.string ⟨(kp:List UInt8).toArray⟩|5=>v=.int .i64 dd|6=>v=.int .i64 (d:Int)|_=>True)
    (fun L U W=>Jh (SrQ (w.alloc (.cells #[xv] 73)).drew S k.part (Aq S 20 d k.part z)) ((w.alloc (.cells #[xv] 73)).drew) (L 7) (L 8) (L 9) (L 10) (L 11) (L 12) (L 13) (L 14) (U 7) (U 8) (U 9) (U 10) (U 11) (U 12) (U 13) (U 14) W) (⟨fun _=>rfl,fun h=>Bool.noConfusion h⟩) ?_ ?_
   ·repeat (first|exact Ai.nil|(refine Ai.cons ?_ ?_;rotate_left))
    all_goals
     rintro L U W hL hpre HR Hdep K hK
     first|(simp[Region.binds]at hpre;done)|simp[Region.binds]at hpre|clear hpre
    ·have h7:L 7=false:=At Hdep.o 7 0 rfl hL
     have hW:=HR.o.no h7
     subst hW
     go_simp
     first|exact hK _ _ _ rfl Ab HR.o rfl|exact kF hK HR.o
    ·go_simp
     first|exact hK _ _ _ rfl Ab HR.o rfl|exact kF hK HR.o|exact hK undef _ _ Ab Ab HR.o (by simp[Act.put,hpre])|exact hK _ _ _ Ab Ab HR.o rfl|exact kF hK HR.o
    ·go_simp
     rw[if_pos (by omega)]
     go_simp
     exact hK (.string ⟨z.toArray⟩) _ _ rfl Ab HR.o (by simp[Act.put,hpre])
    ·go_simp
     first|exact hK _ _ _ rfl Ab HR.o rfl|exact kF hK HR.o|exact hK undef _ _ Ab Ab HR.o (by simp[Act.put,hpre])|exact hK _ _ _ Ab Ab HR.o rfl|exact kF hK HR.o
    ·go_simp
     rw[if_pos (by omega)]
     go_simp
     exact hK (.string ⟨kp.toArray⟩) _ _ rfl Ab HR.o (by simp[Act.put,hpre])
    ·go_simp
     first|exact hK _ _ _ rfl Ab HR.o rfl|exact kF hK HR.o|exact hK undef _ _ Ab Ab HR.o (by simp[Act.put,hpre])|exact hK _ _ _ Ab Ab HR.o rfl|exact kF hK HR.o
    ·go_simp
     exact hK (.int .i64 (d:Int)) _ _ rfl Ab HR.o (by simp[Act.put,hpre,hwd])
    ·have h8:L 8=false:=At Hdep.o 8 7 rfl hL
     have h9:L 9=false:=At Hdep.o 9 8 rfl h8
     have h10:L 10=false:=At Hdep.o 10 8 rfl h8
     have h11:L 11=false:=At Hdep.o 11 8 rfl h8
     have h12:L 12=false:=At Hdep.o 12 9 rfl h9
     have h13:L 13=false:=At Hdep.o 13 10 rfl h10
     have h14:L 14=false:=At Hdep.o 14 11 rfl h11
     have hW:=HR.o.no hL
     subst hW
     go_simp
     refine(HC.o _ HW.o).mono ?_
     rintro e w5 hp
     obtain⟨vp,vr,vk,rfl,hq5⟩:=hp.q
     go_simp
     refine hK (.tuple #[vp,vr,vk]) _ _ Ab Ab ⟨fun h=>by simp at h,fun _=>⟨vp,vr,vk,hq5,rfl,?_,?_,?_,?_,?_,?_,?_⟩⟩ (by simp[Act.put,hpre])
     all_goals (intro h;simp_all)
    ·have l7:=hpre
     obtain⟨vp,vr,vk,q1,q2,q3,q4,q5,q6,q7,q8,q9⟩:=HR.o.yes l7
     go_simp
     exact hK (U 7) _ _ Ab Ab ⟨fun h=>absurd (l7.symm.trans h) (by decide),fun _=>⟨vp,vr,vk,q1,q2,fun _=>q2,q4,q5,q6,q7,q8,q9⟩⟩ (by simp[Act.put,hpre,q2])
    ·have l8:=hpre
     have l7:L 7=true:=G7 (At Hdep.o 8 7 rfl) l8
     obtain⟨vp,vr,vk,q1,q2,q3,q4,q5,q6,q7,q8,q9⟩:=HR.o.yes l7
     have u7:=q3 l8
     simp only[u7]
     go_simp
     exact hK vp _ _ Ab Ab ⟨fun h=>absurd (l7.symm.trans h) (by decide),fun _=>⟨vp,vr,vk,q1,q2,q3,fun _=>rfl,q5,q6,q7,q8,q9⟩⟩ (by simp[Act.put,hpre,u7,q2])
    ·have l8:=hpre
     have l7:L 7=true:=G7 (At Hdep.o 8 7 rfl) l8
     obtain⟨vp,vr,vk,q1,q2,q3,q4,q5,q6,q7,q8,q9⟩:=HR.o.yes l7
     have u7:=q3 l8
     simp only[u7]
     go_simp
     exact hK vr _ _ Ab Ab ⟨fun h=>absurd (l7.symm.trans h) (by decide),fun _=>⟨vp,vr,vk,q1,q2,q3,q4,fun _=>rfl,q6,q7,q8,q9⟩⟩ (by simp[Act.put,hpre,u7,q2])
    ·have l8:=hpre
     have l7:L 7=true:=G7 (At Hdep.o 8 7 rfl) l8
     obtain⟨vp,vr,vk,q1,q2,q3,q4,q5,q6,q7,q8,q9⟩:=HR.o.yes l7
     have u7:=q3 l8
     simp only[u7]
     go_simp
     exact hK vk _ _ Ab Ab ⟨fun h=>absurd (l7.symm.trans h) (by decide),fun _=>⟨vp,vr,vk,q1,q2,q3,q4,q5,fun _=>rfl,q7,q8,q9⟩⟩ (by simp[Act.put,hpre,u7,q2])
    ·have l9:=hpre.1
     have l8:L 8=true:=G7 (At Hdep.o 9 8 rfl) l9
     have l7:L 7=true:=G7 (At Hdep.o 8 7 rfl) l8
     obtain⟨vp,vr,vk,q1,q2,q3,q4,q5,q6,q7,q8,q9⟩:=HR.o.yes l7
     go_simp
     exact hK (U 9) _ _ Ab Ab ⟨fun h=>absurd (l7.symm.trans h) (by decide),fun _=>⟨vp,vr,vk,q1,q2,q3,q4,q5,q6,fun _=>q4 l9,q8,q9⟩⟩ (by simp[Act.put,hpre,q2,q3 l8,q4,q5,q6,q7,q8,q9,l9])
    ·have l10:=hpre.1
     have l8:L 8=true:=G7 (At Hdep.o 10 8 rfl) l10
     have l7:L 7=true:=G7 (At Hdep.o 8 7 rfl) l8
     obtain⟨vp,vr,vk,q1,q2,q3,q4,q5,q6,q7,q8,q9⟩:=HR.o.yes l7
     go_simp
     exact hK (U 10) _ _ Ab Ab ⟨fun h=>absurd (l7.symm.trans h) (by decide),fun _=>⟨vp,vr,vk,q1,q2,q3,q4,q5,q6,q7,fun _=>q5 l10,q9⟩⟩ (by simp[Act.put,hpre,q2,q3 l8,q4,q5,q6,q7,q8,q9,l10])
    ·have l11:=hpre.1
     have l8:L 8=true:=G7 (At Hdep.o 11 8 rfl) l11
     have l7:L 7=true:=G7 (At Hdep.o 8 7 rfl) l8
     obtain⟨vp,vr,vk,q1,q2,q3,q4,q5,q6,q7,q8,q9⟩:=HR.o.yes l7
     go_simp
     exact hK (U 11) _ _ Ab Ab ⟨fun h=>absurd (l7.symm.trans h) (by decide),fun _=>⟨vp,vr,vk,q1,q2,q3,q4,q5,q6,q7,q8,fun _=>q6 l11⟩⟩ (by simp[Act.put,hpre,q2,q3 l8,q4,q5,q6,q7,q8,q9,l11])
   rintro L U W hL hφ hR
   clear hφ
   obtain⟨vp,vr,vk,hq5,_,_,_,_,_,q7,q8,q9⟩:=hR.yes (hL 7 (by decide))
   have u11:=q7 (hL 12 (by decide))
   have u12:=q8 (hL 13 (by decide))
   have u13:=q9 (hL 14 (by decide))
   simp only[u11,u12,u13]
   clear hR hL q7 q8 q9 u11 u12 u13
   obtain⟨hb5,hm⟩:=hq5
   have Hb5:=Aa (show Below w.heap.size w W from((Am w.heap.size w).alloc (Ao _) (.cells #[xv] 73)).drew.trans (hb5.mono (by simp)))
   have hz5:=Hb5.o.size
   generalize Aq S 20 d k.part z=o at *
   have HP:=HP
   cases o with
   |none=>
    have HN:=Aa (HP.o)
    obtain⟨⟨q0,rfl⟩,⟨r0,rfl⟩,rfl⟩:=hm
    clear hb5 HP
    go_wp2_with fail
    refine bodyPost_ret (v:=.tuple #[.pointer (some ⟨W.heap.size+1,0,none⟩),.string r0,.bool false]) (by simp[results,results78,go_sem]) rfl ?_
    exact Bs.no HN.o rfl ((Hb5.o.alloc Hb5.o.size _).alloc (by simp;omega) _)
   |some y=>
    obtain⟨v,r⟩:=y
    obtain⟨⟨b,rfl,hsv⟩,rfl,rfl⟩:=hm
    have HY:=Aa (show q=some (.mk 63 [] 0 [v],r)from HP.o)
    have Hsv5:=Aa (hsv.mono (Q:=fun c=>w.heap.size<=c) fun c1 hc _=>Nat.le_trans (by simp) hc)
    clear hb5 HP hsv
    go_wp2_with fail
    refine bodyPost_ret (v:=.tuple #[.pointer (some ⟨W.heap.size+1,0,none⟩),.string ⟨r.toArray⟩,.bool true]) (by simp[results,results78,go_sem]) rfl ?_
    rw[HY.o]
    refine⟨⟨W.heap.size+1,rfl,?_⟩,((Hb5.o.alloc Hb5.o.size _).alloc (by simp;omega) _)⟩
    rw[Hsv.o]
    refine .mk (63::kp) [] [] none (some ⟨W.heap.size,0,none⟩) 0 1 [(b,By S k.part v)] rfl (by simp) (by show w.heap.size<=W.heap.size+1;omega) (by go_simp) (by go_simp) (by go_simp) (by go_simp) ⟨rfl,Nat.zero_le _,fun h=>absurd h (by simp)⟩ ⟨rfl,by simp[maxLen],fun _=>⟨W.heap.size,0,rfl,by simp;omega,fun j u hu=>?_⟩⟩ (by simp) (by simp) (fun _ _ h=>absurd h (by simp)) (fun g o _ e=>?_) (fun x hx=>?_)
    ·match j,hu with
     |0,hu=>
      simp[Dr]at hu
      subst hu
      go_simp
     |j+1,hu=>simp[Dr]at hu
    ·injection e with e;injection e with e;subst e;exact hz5
    simp at hx
    subst hx
    exact Hsv5.o.after (((Am _ _).alloc (Ao _) _).alloc (by simp) _)
  have HN:=Aa (HN.o (D5 hc z) (D5 hc2 z))
  have hcn:((c.toNat:Int) == 45)=false:=by have:=Ap hc;simpa using this
  have hcn2:((c.toNat:Int) != 43)=true:=by have:=Ap hc2;simpa using this
  clear hc hc2
  go_enter func78,ntmps78
  go_wp2_with fail
  refine bodyPost_ret (v:=.tuple #[.pointer none,.string ⟨(c::z:List UInt8).toArray⟩,.bool false]) (by simp[results,results78,go_sem]) rfl ?_
  exact Bs.no HN.o rfl ((Am _ _).alloc (Ao _) _)
theorem Z9(S:List Ty)(m d:Nat)(k:Kd)(hs0:k.signs=[])(hb:k.base=[64]):Aq S m (d+1) k []=none:=by
 unfold Aq;rw[hs0,hb];simp only[];rw[if_neg aL,if_neg aL,if_neg aL];cases Bp S k.name with
 |none=>rfl
 |some t=>simp[Kr,Av]
theorem Qgl(w0:World)(S:List Ty)(xv:Value)(hxv:xv.oneCell'=true)(k:Kd)(hs0:k.signs=[])(hb:k.base=[64])(hkl:k.name.length<=100)(d:Nat)(hd:d<=1000)(s:List UInt8)(w:World)(hw:Below w0 w0 w)(hs:s.length<=1000000)
  (H:∀W,Below w0 w0 W->s≠[]->Calls prog 125 #[.agg #[xv],s,.string ⟨(Bc k).toArray⟩,.int .i64 ((d+1:Nat):Int)] W (Bs S k (Aq S 20 (d+1) k s) W)):
  Calls prog 78 #[.agg #[xv],s,.string ⟨(Bc k).toArray⟩,.int .i64 ((d+1:Nat):Int)] w (Bs S k (Aq S 20 (d+1) k s) w):=by
 have HN:=Aa (Z9 S 20 d k hs0 hb);have hkb:Bc k=64::(k.name++[59]):=cD;have d1:¬((((d+1:Nat):Int))<1):=aI;have d2:(((d+1:Nat):Int))<=1001:=aI;have HW:=@Aa (Below w0 w0 (w.alloc (.cells #[xv] 73))) (hw.alloc hw.size _);have HH:=Aa H;rw[hkb]at HH ⊢;generalize hnm:k.name++[59]=kn at *;have hkn:kn.length<=101:=by rw[<-hnm];simp;omega
 by_cases hne:s=[]
 ·subst hne;generalize Aq S 20 (d+1) k []=q at *;generalize (((d+1:Nat):Int))=dd at *;clear H hb hs0 hkb hnm HH hw;go_enter func78,ntmps78;go_wp2_with fail;refine aG (v:=.tuple #[.pointer none,aa,.bool false]) (by simp[results,results78,go_sem]) rfl ?_;exact my
 have he:s.isEmpty=false:=dq;have HP:=Aa (fun W hW=>HH.o W hW hne);generalize Aq S 20 (d+1) k s=q at *;generalize (((d+1:Nat):Int))=dd at *;clear H hb hs0 hkb hnm hne HH hw;go_enter func78,ntmps78;go_wp2_with fail;refine(HP.o _ HW.o).mono ?_;rintro e w5 hp;obtain⟨vp,vr,vk,rfl,hq5⟩:=hp.q;have Hq5:=Aa hq5;clear hq5 hp;go_wp2_with fail;refine aG (v:=.tuple #[vp,vr,vk]) (by simp[results,results78,go_sem]) rfl ?_;exact Hq5.o.post ((Am _ _).alloc (Ao _) _)
theorem Qfi(S:List Ty)(xv:Value)(hxv:xv.oneCell'=true)(k:Kd)(hkl:(Bc k).length<=100)(s:List UInt8)(w:World)(hs:s.length<=1000000):
  Calls prog 78 #[.agg #[xv],s,.string ⟨(Bc k).toArray⟩,.int .i64 ((0:Nat):Int)] w (Bs S k (Aq S 20 0 k s) w):=by
 have HN:=@Aa (Aq S 20 0 k s=none) rfl;generalize Bc k=kb at *;generalize Aq S 20 0 k s=q at *;by_cases hne:s=[]
 ·subst hne;go_enter func78,ntmps78;go_wp2_with fail;refine aG (v:=.tuple #[.pointer none,aa,.bool false]) (by simp[results,results78,go_sem]) rfl ?_;exact my
 have he:s.isEmpty=false:=dq;clear hne;go_enter func78,ntmps78;go_wp2_with fail;refine aG (v:=.tuple #[.pointer none,s,.bool false]) (by simp[results,results78,go_sem]) rfl ?_;exact my
def NmC(w0:World)(S:List Ty)(xv:Value):Prop:=∀d,d<=1000->(∀k,Cm k->SrC w0 S xv k d)->∀k,Cm k->k.signs=[]->k.base=[64]->∀(s:List UInt8),s.length<=1000000->∀W,Below w0 w0 W->s≠[] ->
 Calls prog 125 #[.agg #[xv],s,.string ⟨(Bc k).toArray⟩,.int .i64 ((d+1:Nat):Int)] W (Bs S k (Aq S 20 (d+1) k s) W)
theorem Qgm(w0:World)(S:List Ty)(hS:∀t∈S,Ff t)(xv:Value)(hxv:xv.oneCell'=true)(HNm:NmC w0 S xv):∀d,d<=1001->∀k,Cm k->SrC w0 S xv k d:=by
 intro d;induction d with
 |zero=>
  intro _ k hk s W hW hs;exact Qfi S xv hxv k cm s W hs
 |succ d ih=>
  intro hd k hk s W hW hs;have ih:=ih aI;have hkl:=hk.2.2;have hp:=(J0 hk).1;obtain⟨h1,h2,h3⟩:=hk;cases hsg:k.signs with
  |cons c sg=>
   rw[hsg]at h1;simp only[List.all_cons,ax,Bn,Bool.or_eq_true,beq_iff_eq]at h1;rcases h1.1 with rfl|rfl
   ·exact Qg1 w0 S xv hxv k sg hsg aI d aI s W hW hs (ih _ hp) (fun s v r h=>(Gu hS 20 d k.part s v r hp h).2)
   exact Qhu w0 S xv hxv k sg hsg aI d aI s W hW hs (ih _ hp)
  |nil=>
   rcases h2 with⟨hb,hn⟩|⟨hb,_⟩
   ·exact Qgl w0 S xv hxv k hsg hb (by have:=hn;rw[Dm]at this;have:=this.2.1;omega) d aI s W hW hs (fun W' hW' hne=>HNm d aI ih k ⟨h1,.inl ⟨hb,hn⟩,h3⟩ hsg hb s hs W' hW' hne)
   exact Qc0 S xv hxv k hsg (by rcases hb with h|h|h<;>simp[h]) d aI s W hs
def Qb(s d x:List UInt8)(w:World)(e:Ending)(w':World):Prop:=Below w w w'/\match Az s d with
 |none=>∃v q,e=.returned (.tuple #[v,.pointer q,.bool false])
 |some y=>match Jd y.1 y.2 x with
  |none=>∃v q,e=.returned (.tuple #[v,.pointer q,.bool false])
  |some v=>∃xv xs b,e=.returned (.tuple #[xv,.pointer (some ⟨b,0,none⟩),.bool true])/\Ae xs=y.1/\Fu w' xv xs/\Fl (fun c=>w.heap.size<=c) w' b (By y.1 y.2 v)
theorem Qb.no{s d x:List UInt8}{w w':World}{v:Value}{q:Option Addr}(hb:Below w w w')(h:∀y,Az s d=some y->Jd y.1 y.2 x=none):Qb s d x w (.returned (.tuple #[v,.pointer q,.bool false])) w':=by
 refine⟨hb,?_⟩;cases hy:Az s d with
 |none=>exact⟨v,q,rfl⟩
 |some y=>simp only;rw[h y hy];exact⟨v,q,rfl⟩
theorem Qir(HNm:∀(w0:World) (xs:List (Ty × Value)) (xv:Value),Fu w0 xv xs->Je (Ae xs)->NmC w0 (Ae xs) xv)(s d x:List UInt8)(w:World)(hs:s.length<=4000000)(hd:d.length<=4000000)(hx:x.length<=4000000):
  Calls prog 39 #[s,d,x] w (Qb s d x w):=by
 have Hk:=Aa (fun W=>N8 s d W hs hd);go_enter func39,ntmps39;go_wp2_with fail;refine(Hk.o _).mono ?_;rintro e w1 ⟨hm,hb1⟩;have Hb1:=Aa hb1;clear hb1;cases hbo:Az s d with
 |none=>
  have HB:=Aa hbo;rw[hbo]at hm;obtain⟨A,n,c,rfl⟩:=hm;clear hbo;go_wp2_with fail;refine aG (v:=.tuple #[.slice none 0 0,.pointer none,.bool false]) (by simp[results,results39,go_sem]) rfl ?_;exact Qb.no Hb1.o fun y hy=>by rw[HB.o]at hy;cases hy
 |some y=>
  obtain⟨S,k⟩:=y;have HB:=Aa hbo;rw[hbo]at hm;obtain⟨xv,xs,rfl,hty,hsc⟩:=hm;obtain⟨g1,_,_,g4,g5,_⟩:=Dn hbo;obtain⟨A9,c9,rfl,hl9,_⟩:=hsc;have Hsc:=@Aa (Fu w1 (.slice A9 xs.length c9) xs) ⟨A9,c9,rfl,hl9,by assumption⟩;clear hbo;by_cases h400:400<x.length
  ·have t4:decide ((400:Int)<(x.length:Int))=true:=aE aI;have t5:(400:Int)<(x.length:Int):=aI;have HV:=@Aa (Jd S k x=none) (by unfold Jd;rw[if_pos h400]);clear h400 g1 g4 g5;go_wp2_with fail;refine aG (v:=.tuple #[.slice none 0 0,.pointer none,.bool false]) (by simp[results,results39,go_sem]) rfl ?_;exact Qb.no Hb1.o fun y hy=>dl
  have t5:¬((400:Int)<(x.length:Int)):=aI;have hr:Calls prog 78 #[.agg #[.slice A9 xs.length c9],x,.string ⟨(Bc k).toArray⟩,.int .i64 ((12:Nat):Int)] w1 (Bs S k (Aq S 20 12 k x) w1):=by
   have:=Qgm w1 (Ae xs) (by rw[hty];exact g1.1.1) (.slice A9 xs.length c9) rfl (HNm w1 xs _ Hsc.o (by rw[hty];exact g1)) 12 aI k g4 x w1 (Am _ _) aI;rw[hty]at this;exact this
  rw[g5,show (((12:Nat)):Int)=12 from rfl]at hr;have HR:=Aa hr;have HV:=@Aa (Jd S k x=match Aq S 20 12 k x with|some (v,[])=>some v|_=>none) (by unfold Jd;rw[if_neg h400];rfl);have Hty:=Aa hty;generalize Aq S 20 12 k x=o at *;clear h400 g1 g4 g5 hr hty;go_wp2_with fail;refine HR.o.mono ?_;rintro e w5 hp;obtain⟨vp,vr,vk,rfl,hb5,hm⟩:=hp.q;have Hb5:=Aa (Hb1.o.trans (hb5.mono Hb1.o.size));have Hsc5:=Aa (Hsc.o.below hb5);have hz:=Hb1.o.size;clear hb5 hp;cases o with
  |none=>
   obtain⟨⟨q0,rfl⟩,⟨r0,rfl⟩,rfl⟩:=hm;go_wp2_with fail;refine aG (v:=.tuple #[.slice A9 xs.length c9,.pointer q0,.bool false]) (by simp[results,results39,go_sem]) rfl ?_;exact Qb.no Hb5.o fun y hy=>dl
  |some y=>
   obtain⟨v,r⟩:=y;obtain⟨⟨b,rfl,hsv⟩,rfl,rfl⟩:=hm;have Hsv:=Aa hsv;clear hsv;cases r with
   |nil=>
    go_wp2_with fail;refine aG (v:=.tuple #[.slice A9 xs.length c9,b,.bool true]) (by simp[results,results39,go_sem]) rfl ?_;refine⟨Hb5.o,?_⟩;rw[HB.o];simp only;rw[HV.o];exact⟨_,xs,b,rfl,Hty.o,Hsc5.o,Hsv.o.mono fun c1 hc _=>ae hz hc⟩
   |cons c z=>
    go_wp2_with fail;refine aG (v:=.tuple #[.slice A9 xs.length c9,b,.bool false]) (by simp[results,results39,go_sem]) rfl ?_;exact Qb.no Hb5.o fun y hy=>dl
def Nl(o:Option (Fd × List UInt8))(s:List UInt8)(w:World)(e:Ending)(w':World):Prop:=
 ∃(n:Nat) (a b c r:List UInt8),e=.returned (.tuple #[.agg #[(n:Int),a,b,c],r,.bool o.isSome])/\Below w w w'/\r.length<=s.length/\n<=1000000000 /\
  ∀f q,o=some (f,q)->n=f.tag/\a=f.name/\b=Bc f.kind/\c=f.given/\r=q
theorem Qkq(fs:List Fd)(s:List UInt8):G0 fs s=if D9 (s.takeWhile Bm) 200 then(match Cw (s.takeWhile Bm)with|some n=>(Au fs n).map (fun f=>(f,s.dropWhile Bm))|none=>none)else none:=by
 unfold G0 Sr D9;cases h:Cw (s.takeWhile Bm)with
 |none=>rfl
 |some n=>
  simp only;by_cases hn:n<=200
  ·simp only[hn,if_true,decide_true];cases Au fs n<;>rfl
  simp[hn]
theorem Ys(xv st nm fv:Value)(hxv:xv.oneCell'=true)(hst:st.oneCell'=true)(hnm:nm.oneCell'=true)(fs:List Fd)(s:List UInt8)(w:World)(h:Dj w fv fs)(htg:∀f∈fs,f.tag<=200)(hs:s.length<=4000000):
  Calls prog 159 #[.agg #[xv],s,.agg #[st,nm,fv]] w (Nl (G0 fs s) s w):=by
 obtain⟨A9,c9,rfl,hl9,hr9⟩:=h;have Hfs:=@Aa (Dj w (.slice A9 fs.length c9) fs) ⟨A9,c9,rfl,hl9,hr9⟩;have HQ:=Aa (Qkq fs s);obtain⟨e1,e2,hle⟩:=S1 Bm s;have Hd:=Aa (fun W=>Vx s W hs);have Hn:=Aa (fun W=>Dx (s.takeWhile Bm) 200 W aI aL);have E1:=Aa e1;have E2:=Aa e2;have k1:((s.takeWhile Bm).length:Int)<=(s.length:Int):=aI;have Hdl:=Aa (show (s.dropWhile Bm).length<=s.length by rw[<-e2];simp);generalize (s.takeWhile Bm).length=n at *;generalize s.takeWhile Bm=tw at *;generalize s.dropWhile Bm=dw at *;have k2:(0:Int)<=(n:Int):=aI;have k3:((n:Int)).toNat=n:=aI;have hn8:n<=4000000:=aI;have Htg:=Aa htg;clear e1 e2 hr9 htg;go_enter func159,ntmps159;go_wp2_with fail;refine(Hd.o _).mono ?_;rintro e w1 ⟨rfl,rfl⟩;go_wp2_with fail;rw[E1.o];refine(Hn.o _).mono ?_;rintro e w2 ⟨m,hm,rfl,hdm,hb2⟩;have Hdm:=Aa hdm;have Hb2:=Aa ((((Am w.heap.size w).alloc (Ao _) (.cells #[xv] 73)).alloc aN (.cells #[st,nm,.slice A9 fs.length c9] 90)).alloc aO (.cells #[.int .i64 0,aa,aa,aa] 94) |>.trans (hb2.mono aO));obtain⟨hc2,hfz2,hzz2⟩:=Ci hb2;have hz2:=hb2.size;simp only[World.size_alloc]at hz2;have Hf2:=Aa (fun W (hW:Below w w W)=>Rz st nm (.slice A9 fs.length c9) fs m W (Hfs.o.below hW) aI);generalize hok0:D9 tw 200=ok at *;have Hok:=Aa hok0;clear hok0;clear hdm hb2;go_wp2_with fail;refine(Hf2.o _ Hb2.o).mono ?_;rintro e w3 ⟨rfl,hb3⟩;have Hb3:=Aa (Hb2.o.trans (hb3.mono Hb2.o.size));obtain⟨hc3,hfz3,hzz3⟩:=Ci hb3;have hz3:=hb3.size;have hcc:∀b o,b<w.heap.size+3->w3.cell? ⟨b,o,none⟩=w2.cell? ⟨b,o,none⟩:=fun b o h=>hc3 b o aI;clear hb3 Hf2 hzz2 hzz3;obtain⟨n0,a,b,c,is,hsf,hn0,his,hfd⟩:∃(n0:Nat) (a b c:List UInt8) (is:Bool),sfR (Au fs m)=.tuple #[.agg #[(n0:Int),a,.string ⟨b.toArray⟩,c],.bool is]/\n0<=1000000000/\(Au fs m).isSome=is/\∀f,Au fs m=some f->n0=f.tag/\a=f.name/\b=Bc f.kind/\c=f.given:=by
  cases hf:Au fs m with
  |none=>exact⟨0,[],[],[],false,rfl,by omega,rfl,fun f h=>by cases h⟩
  |some f=>exact⟨f.tag,f.name,Bc f.kind,f.given,true,rfl,by have:=Htg.o f (List.mem_of_find?_eq_some hf);omega,rfl,fun g h=>by injection h with h;subst h;exact⟨rfl,rfl,rfl,rfl⟩⟩
 rw[hsf];have Hfd:=Aa (And.intro his hfd);clear hsf his hfd;go_wp2_with fail;have F0:w3.cell? (w.heap.size+1+1,0)=some (.int .i64 0):=ib;have F1:w3.cell? (w.heap.size+1+1,1)=aa:=ib;have F2:w3.cell? (w.heap.size+1+1,2)=aa:=ib;have F3:w3.cell? (w.heap.size+1+1,3)=aa:=ib;have Z0:w3.frozen? (w.heap.size+1+1,0)=false:=hZ;have Z1:w3.frozen? (w.heap.size+1+1,1)=false:=hZ;have Z2:w3.frozen? (w.heap.size+1+1,2)=false:=hZ;have Z3:w3.frozen? (w.heap.size+1+1,3)=false:=hZ;have hb6:w.heap.size+1+1<w3.heap.size:=aI;clear hc2 hfz2 hc3 hfz3 hcc;cases ok with
 |true=>
  refine Gd [29,30,31,32,33,34,35,36,999,7,8]
   (fun ix v W=>match ix with|0=>v=.agg #[(n0:Int),a,.string ⟨b.toArray⟩,c]|1=>v=(s:List UInt8)|2=>v=(n:Int)|3=>v=(dw:List UInt8)|4=>v=.bool true|5=>v=.bool true|6=>v=.bool is|7=>v=.bool is|9=>v=(dw:List UInt8)|10=>v=.bool is|_=>True)
   (fun L U W=>(L 8=false->W=(w3.alloc (.cells #[(n0:Int),a,.string ⟨b.toArray⟩,c] 94)).drew)/\(L 8=true->Below w w W/\W.cell? (w.heap.size+1+1,0)=(n0:Int)/\W.cell? (w.heap.size+1+1,1)=a/\W.cell? (w.heap.size+1+1,2)=some (.string ⟨b.toArray⟩)/\W.cell? (w.heap.size+1+1,3)=c)) (⟨fun _=>rfl,fun h=>Bool.noConfusion h⟩) ?_ ?_
  ·exact iA
  rintro L U W hL hφ hR;have e9:U 9=(dw:List UInt8):=hφ 9 aL;have e10:U 10=.bool is:=hφ 10 aL;clear hφ;obtain⟨Hbw,c0,c1,c2,c3⟩:=hR.2 (hL 8 aL);have HBW:=Aa Hbw;clear hL hR Hbw;simp only[e9,e10];go_wp2_with fail;refine aG (v:=.tuple #[.agg #[(n0:Int),a,.string ⟨b.toArray⟩,c],dw,.bool is]) (by simp[results,results159,go_sem,c0,c1,c2,c3]) rfl ?_;obtain⟨his,hfd⟩:=Hfd.o;have HQ:=HQ.o;have hok:=Hok.o;cases hdm:Cw tw with
  |none=>rw[N5 hdm]at hok;cases hok
  |some m'=>
   rw[hdm]at HQ;simp only[if_true]at HQ;have hm':=Hdm.o m' hdm;subst hm';rw[HQ];refine⟨n0,a,b,c,dw,by rw[Option.isSome_map,his],HBW.o,Hdl.o,hn0,fun f q h=>?_⟩;cases hf:Au fs m' with
   |none=>rw[hf]at h;cases h
   |some g=>
    rw[hf]at h;injection h with h;injection h with h1 h2;subst h1 h2;obtain⟨q1,q2,q3,q4⟩:=hfd g hf;exact⟨q1,q2,q3,q4,rfl⟩
 |false=>
  refine Gd [29,30,31,32,33,34,35,36,999,7,8]
   (fun ix v W=>match ix with|0=>v=.agg #[(n0:Int),a,.string ⟨b.toArray⟩,c]|1=>v=(s:List UInt8)|2=>v=(n:Int)|3=>v=(dw:List UInt8)|4=>v=.bool false|5=>v=.bool false|7=>v=.bool false|9=>v=(dw:List UInt8)|10=>v=.bool false|_=>True)
   (fun L U W=>(L 8=false->W=(w3.alloc (.cells #[(n0:Int),a,.string ⟨b.toArray⟩,c] 94)).drew)/\(L 8=true->Below w w W/\W.cell? (w.heap.size+1+1,0)=(n0:Int)/\W.cell? (w.heap.size+1+1,1)=a/\W.cell? (w.heap.size+1+1,2)=some (.string ⟨b.toArray⟩)/\W.cell? (w.heap.size+1+1,3)=c)) (⟨fun _=>rfl,fun h=>Bool.noConfusion h⟩) ?_ ?_
  ·exact iA
  rintro L U W hL hφ hR;have e9:U 9=(dw:List UInt8):=hφ 9 aL;have e10:U 10=.bool false:=hφ 10 aL;clear hφ;obtain⟨Hbw,c0,c1,c2,c3⟩:=hR.2 (hL 8 aL);have HBW:=Aa Hbw;clear hL hR Hbw;simp only[e9,e10];go_wp2_with fail;refine aG (v:=.tuple #[.agg #[(n0:Int),a,.string ⟨b.toArray⟩,c],dw,.bool false]) (by simp[results,results159,go_sem,c0,c1,c2,c3]) rfl ?_;obtain⟨his,hfd⟩:=Hfd.o;have HQ:=HQ.o;have hok:=Hok.o;simp only[ap,if_false]at HQ;rw[HQ];exact⟨n0,a,b,c,dw,rfl,HBW.o,Hdl.o,hn0,fun f q h=>by cases h⟩
end
def enL(o:Option (Fd × List UInt8)):Option (Vl × List UInt8):=match o with|some (f,q)=>some (.mk 69 [] f.tag [],q)|none=>none
def unL(R:Kd->List UInt8->Option (Vl × List UInt8))(o:Option (Fd × List UInt8)):Option (Vl × List UInt8):=match o with
 |none=>none
 |some (f,r)=>match Av 61 r with
  |none=>none
  |some q=>match R f.kind q with
   |none=>none
   |some (v,q)=>match Av 62 q with|some z'=>some (.mk 85 [] f.tag [v],z')|none=>none
def StF(o:Option (Fd × List UInt8))(s:List UInt8)(n:Nat)(a b c r:List UInt8):Prop:=
 r.length<=s.length/\n<=1000000000/\∀f q,o=some (f,q)->n=f.tag/\a=f.name/\b=Bc f.kind/\c=f.given/\r=q
theorem Nl.q{o:Option (Fd × List UInt8)}{s:List UInt8}{w w':World}{e:Ending}(h:Nl o s w e w'):∃(n:Nat) (a b c r:List UInt8),e=.returned (.tuple #[.agg #[(n:Int),a,b,c],r,.bool o.isSome])/\StF o s n a b c r/\Below w w w':=by
 obtain⟨n,a,b,c,r,h1,h2,h3,h4,h5⟩:=h;exact⟨n,a,b,c,r,h1,⟨h3,h4,h5⟩,h2⟩
structure Jp(w1:World)(o:Option (Fd × List UInt8))(s:List UInt8)(l m x y z al st p q:Bool)(ul um ux uy uz ual up uq:Value)(W:World):Prop where
 be:Below w1 w1 W
 yes:l=true->∃(n:Nat) (a b c r:List UInt8),StF o s n a b c r/\ul=.tuple #[.agg #[(n:Int),a,b,c],r,.bool o.isSome] /\
  (m=true->um=.tuple #[.agg #[(n:Int),a,b,c],r,.bool o.isSome]) /\
  (x=true->ux=.agg #[(n:Int),a,b,c])/\(y=true->uy=r)/\(z=true->uz=.bool o.isSome)/\(p=true->up=r)/\(q=true->uq=.bool o.isSome)
 al:al=true->∃B,ual=.pointer (some ⟨B,0,none⟩)/\w1.heap.size<=B/\B<W.heap.size/\W.there B 0 4/\(st=true->∃cs:List Value,ux=.agg cs.toArray/\W.rangeAt B 0 cs)
section
variable {w1 W W':World} {o:Option (Fd × List UInt8)} {s:List UInt8} {l m x y z al st p q:Bool} {ul um ux uy uz ual up uq:Value} {n:Nat} {a b c r:List UInt8} {B:Nat}
theorem Jp.start:Jp w1 o s false m x y z false st p q ul um ux uy uz ual up uq w1:=⟨Am _ _,fun h=>Bool.noConfusion h,fun h=>Bool.noConfusion h⟩
theorem Jp.call(h:Jp w1 o s l m x y z al st p q ul um ux uy uz ual up uq W)(hm:m=false)(hx:x=false)(hy:y=false)(hz:z=false)(hst:st=false)(hp:p=false)(hq:q=false)(hF:StF o s n a b c r)(hb:Below W W W'):
  Jp w1 o s true m x y z al st p q (.tuple #[.agg #[(n:Int),a,b,c],r,.bool o.isSome]) um ux uy uz ual up uq W':=by
 subst hm hx hy hz hst hp hq;refine⟨h.be.trans (hb.mono h.be.size),fun _=>⟨n,a,b,c,r,hF,rfl,fun h=>Bool.noConfusion h,fun h=>Bool.noConfusion h,fun h=>Bool.noConfusion h,fun h=>Bool.noConfusion h,fun h=>Bool.noConfusion h,fun h=>Bool.noConfusion h⟩,fun ha=>?_⟩;exact mz
theorem Jp.move(h:Jp w1 o s l m x y z al st p q ul um ux uy uz ual up uq W)(hl:l=true):Jp w1 o s l true x y z al st p q ul ul ux uy uz ual up uq W:=
 ⟨h.be,fun hl=>by obtain⟨n,a,b,c,r,h1,h2,_,h4⟩:=h.yes hl;exact⟨n,a,b,c,r,h1,h2,fun _=>h2,h4⟩,h.al⟩
theorem Jp.get(h:Jp w1 o s l m x y z al st p q ul um ux uy uz ual up uq W)(hl:l=true)(hm:m=true)(hst:x=false->st=false):∃(n:Nat) (a b c r:List UInt8),um=.tuple #[.agg #[(n:Int),a,b,c],r,.bool o.isSome] /\
  (x=false->Jp w1 o s l m true y z al st p q ul um (.agg #[(n:Int),a,b,c]) uy uz ual up uq W)/\Jp w1 o s l m x true z al st p q ul um ux r uz ual up uq W/\Jp w1 o s l m x y true al st p q ul um ux uy (.bool o.isSome) ual up uq W:=by
 obtain⟨n,a,b,c,r,h1,h2,h3,h4,h5,h6,h7⟩:=h.yes hl;refine⟨n,a,b,c,r,h3 hm,fun hx=>⟨h.be,fun _=>⟨n,a,b,c,r,h1,h2,h3,fun _=>rfl,h5,h6,h7⟩,fun ha=>?_⟩,⟨h.be,fun _=>⟨n,a,b,c,r,h1,h2,h3,h4,fun _=>rfl,h6,h7⟩,h.al⟩,⟨h.be,fun _=>⟨n,a,b,c,r,h1,h2,h3,h4,h5,fun _=>rfl,h7⟩,h.al⟩⟩;exact mA
theorem Jp.as1(h:Jp w1 o s l m x y z al st p q ul um ux uy uz ual up uq W)(hy:y=true):Jp w1 o s l m x y z al st true q ul um ux uy uz ual uy uq W:=
 ⟨h.be,fun hl=>by obtain⟨n,a,b,c,r,h1,h2,h3,h4,h5,h6,_,h7⟩:=h.yes hl;exact⟨n,a,b,c,r,h1,h2,h3,h4,h5,h6,fun _=>h5 hy,h7⟩,h.al⟩
theorem Jp.as2(h:Jp w1 o s l m x y z al st p q ul um ux uy uz ual up uq W)(hz:z=true):Jp w1 o s l m x y z al st p true ul um ux uy uz ual up uz W:=
 ⟨h.be,fun hl=>by obtain⟨n,a,b,c,r,h1,h2,h3,h4,h5,h6,h7,_⟩:=h.yes hl;exact⟨n,a,b,c,r,h1,h2,h3,h4,h5,h6,h7,fun _=>h6 hz⟩,h.al⟩
theorem Jp.alloc(h:Jp w1 o s l m x y z al st p q ul um ux uy uz ual up uq W)(hst:st=false)(T:TypeId):Jp w1 o s l m x y z true st p q ul um ux uy uz W.heap.size up uq (W.alloc (.cells #[.int .i64 0,aa,aa,aa] T)):=
 ⟨h.be.alloc h.be.size _,h.yes,fun _=>⟨_,rfl,h.be.size,by simp,B9 W [.int .i64 0,aa,aa,aa] T,fun h=>absurd (hst.symm.trans h) aL⟩⟩
theorem Jp.store(h:Jp w1 o s l m x y z al st p q ul um ux uy uz ual up uq W)(ha:al=true)(ex:ux=.agg #[(n:Int),a,b,c])(el:ual=B):
  W.there B 0 4/\Jp w1 o s l m x y z al true p q ul um ux uy uz ual up uq (W.setCells B 0 [(n:Int),a,b,c]):=by
 obtain⟨B',g1,g2,g3,g4,_⟩:=h.al ha;rw[el]at g1;injection g1 with g1;injection g1 with g1;injection g1 with g1;subst g1;exact⟨g4,Aj _ g2 _ _ _ h.be,h.yes,fun _=>⟨B,el,g2,by rw[Cg];exact g3,aj g4 _ _ _,fun _=>⟨_,ex,ac _ _ _ _ g4⟩⟩⟩
theorem Jp.fin(h:Jp w1 o s l m x y z al st p q ul um ux uy uz ual up uq W)(hl:l=true)(hx:x=true)(ha:al=true)(hs:st=true)(hp:p=true)(hq:q=true):
  ∃(n:Nat) (a b c r:List UInt8) (B:Nat),StF o s n a b c r/\ual=.pointer (some ⟨B,0,none⟩)/\up=.string ⟨r.toArray⟩/\uq=.bool o.isSome/\w1.heap.size<=B/\B<W.heap.size/\W.rangeAt B 0 [.int .i64 (n:Int),.string ⟨a.toArray⟩,.string ⟨b.toArray⟩,.string ⟨c.toArray⟩]/\Below w1.heap.size w1 W:=by
 obtain⟨n,a,b,c,r,h1,h2,h3,h4,h5,h6,h7,h8⟩:=h.yes hl;obtain⟨B,g1,g2,g3,g4,g5⟩:=h.al ha;obtain⟨cs,e1,e2⟩:=g5 hs;have e3:=h4 hx;rw[e1]at e3;injection e3 with e3;have e4:cs=[.int .i64 (n:Int),.string ⟨a.toArray⟩,.string ⟨b.toArray⟩,.string ⟨c.toArray⟩]:=by simpa using e3
 exact⟨n,a,b,c,r,B,h1,g1,h7 hp,h8 hq,g2,g3,e4 ▸ e2,h.be⟩
end
section
variable {Q:World->Value->Value->Value->Prop} {w1 W W':World} {l m x y z a b e:Bool} {ul um ux uy uz ua ub ue vp vr vk:Value}
theorem Jh.call(hm:m=false)(hx:x=false)(hy:y=false)(hz:z=false)(ha:a=false)(hb:b=false)(he:e=false)(h:Q W vp vr vk):Jh Q w1 true m x y z a b e (.tuple #[vp,vr,vk]) um ux uy uz ua ub ue W:=by
 subst hm hx hy hz ha hb he;exact⟨fun h=>Bool.noConfusion h,fun _=>⟨vp,vr,vk,h,rfl,fun h=>Bool.noConfusion h,fun h=>Bool.noConfusion h,fun h=>Bool.noConfusion h,fun h=>Bool.noConfusion h,fun h=>Bool.noConfusion h,fun h=>Bool.noConfusion h,fun h=>Bool.noConfusion h⟩⟩
theorem Jh.call2(hx:x=false)(hy:y=false)(hz:z=false)(ha:a=false)(hb:b=false)(he:e=false)(h:Q W vp vr vk):Jh Q w1 true true x y z a b e (.tuple #[vp,vr,vk]) (.tuple #[vp,vr,vk]) ux uy uz ua ub ue W:=by
 subst hx hy hz ha hb he;exact⟨fun h=>Bool.noConfusion h,fun _=>⟨vp,vr,vk,h,rfl,fun _=>rfl,fun h=>Bool.noConfusion h,fun h=>Bool.noConfusion h,fun h=>Bool.noConfusion h,fun h=>Bool.noConfusion h,fun h=>Bool.noConfusion h,fun h=>Bool.noConfusion h⟩⟩
theorem Jh.move(h:Jh Q w1 l m x y z a b e ul um ux uy uz ua ub ue W)(hl:l=true):Jh Q w1 l true x y z a b e ul ul ux uy uz ua ub ue W:=
 ⟨h.no,fun hl=>by obtain⟨p,r,k,h1,h2,_,h3⟩:=h.yes hl;exact⟨p,r,k,h1,h2,fun _=>h2,h3⟩⟩
theorem Jh.get(h:Jh Q w1 l m x y z a b e ul um ux uy uz ua ub ue W)(hl:l=true)(hm:m=true):∃vp vr vk,um=.tuple #[vp,vr,vk]/\Jh Q w1 l m true y z a b e ul um vp uy uz ua ub ue W/\Jh Q w1 l m x true z a b e ul um ux vr uz ua ub ue W/\Jh Q w1 l m x y true a b e ul um ux uy vk ua ub ue W:=by
 obtain⟨p,r,k,h1,h2,h3,h4,h5,h6,h7⟩:=h.yes hl;exact⟨p,r,k,h3 hm,⟨h.no,fun _=>⟨p,r,k,h1,h2,h3,fun _=>rfl,h5,h6,h7⟩⟩,⟨h.no,fun _=>⟨p,r,k,h1,h2,h3,h4,fun _=>rfl,h6,h7⟩⟩,⟨h.no,fun _=>⟨p,r,k,h1,h2,h3,h4,h5,fun _=>rfl,h7⟩⟩⟩
theorem Jh.as0(h:Jh Q w1 l m x y z a b e ul um ux uy uz ua ub ue W)(hx:x=true):Jh Q w1 l m x y z true b e ul um ux uy uz ux ub ue W:=
 ⟨h.no,fun hl=>by obtain⟨p,r,k,h1,h2,h3,h4,h5,h6,_,h8,h9⟩:=h.yes hl;exact⟨p,r,k,h1,h2,h3,h4,h5,h6,fun _=>h4 hx,h8,h9⟩⟩
theorem Jh.as1(h:Jh Q w1 l m x y z a b e ul um ux uy uz ua ub ue W)(hy:y=true):Jh Q w1 l m x y z a true e ul um ux uy uz ua uy ue W:=
 ⟨h.no,fun hl=>by obtain⟨p,r,k,h1,h2,h3,h4,h5,h6,h7,_,h9⟩:=h.yes hl;exact⟨p,r,k,h1,h2,h3,h4,h5,h6,h7,fun _=>h5 hy,h9⟩⟩
theorem Jh.as2(h:Jh Q w1 l m x y z a b e ul um ux uy uz ua ub ue W)(hz:z=true):Jh Q w1 l m x y z a b true ul um ux uy uz ua ub uz W:=
 ⟨h.no,fun hl=>by obtain⟨p,r,k,h1,h2,h3,h4,h5,h6,h7,h8,_⟩:=h.yes hl;exact⟨p,r,k,h1,h2,h3,h4,h5,h6,h7,h8,fun _=>h6 hz⟩⟩
theorem Jh.fin(h:Jh Q w1 l m x y z a b e ul um ux uy uz ua ub ue W)(hl:l=true)(ha:a=true)(hb:b=true)(he:e=true):∃vp vr vk,Q W vp vr vk/\ua=vp/\ub=vr/\ue=vk:=by
 obtain⟨p,r,k,h1,_,_,_,_,_,h7,h8,h9⟩:=h.yes hl;exact⟨p,r,k,h1,h7 ha,h8 hb,h9 he⟩
end
structure Gn(w1:World)(kb:List UInt8)(n x:Nat)(l3 l5 l6 l7 l10:Bool)(u3 u5 u6 u7 u10:Value)(W:World):Prop where
 be:Below w1 w1 W
 a3:l3=true->∃B,u3=.slice (some ⟨B,0,none⟩) 1 1/\w1.heap.size<=B/\B<W.heap.size/\W.cell? ⟨B,0,none⟩=(n:Int)
 a5:l5=true->∃B,u5=.slice (some ⟨B,0,none⟩) 1 1/\w1.heap.size<=B/\B<W.heap.size/\W.cell? ⟨B,0,none⟩=x
 a6:l6=true->l3=true/\l5=true/\u6=.agg #[kb,.string ⟨#[85]⟩,u3,u5]
 a7:l7=true->l3=true/\l5=true/\∃B,u7=.pointer (some ⟨B,0,none⟩)/\w1.heap.size<=B/\B<W.heap.size/\W.cell? ⟨B,0,none⟩=kb/\W.cell? ⟨B,1,none⟩=some (.string ⟨#[85]⟩)/\W.cell? ⟨B,2,none⟩=some u3/\W.cell? ⟨B,3,none⟩=some u5
 a10:l10=true->u10=u7
section
variable {w1 W:World} {kb:List UInt8} {n x:Nat} {l3 l5 l6 l7 l10:Bool} {u3 u5 u6 u7 u10:Value}
theorem Fw{w:World}{b o:Nat}{v:Value}{B:Obj}(hb:b<w.heap.size)(h:w.cell? ⟨b,o,none⟩=some v):(w.alloc B).cell? ⟨b,o,none⟩=some v:=
 ((Am w.heap.size w).alloc (Ao _) B |>.cell (p:=⟨b,o,none⟩) hb).trans h
theorem Gn.start:Gn w1 kb n x false false false false false u3 u5 u6 u7 u10 w1:=
 ⟨Am _ _,fun h=>Bool.noConfusion h,fun h=>Bool.noConfusion h,fun h=>Bool.noConfusion h,fun h=>Bool.noConfusion h,fun h=>Bool.noConfusion h⟩
theorem Gn.grow(h:Gn w1 kb n x l3 l5 l6 l7 l10 u3 u5 u6 u7 u10 W)(B:Obj):Gn w1 kb n x l3 l5 l6 l7 l10 u3 u5 u6 u7 u10 (W.alloc B):=by
 refine⟨h.be.alloc h.be.size _,fun q=>?_,fun q=>?_,h.a6,fun q=>?_,h.a10⟩
 ·obtain⟨b,e,h1,h2,h3⟩:=h.a3 q;exact⟨b,e,h1,by simp;omega,Fw h2 h3⟩
 ·obtain⟨b,e,h1,h2,h3⟩:=h.a5 q;exact⟨b,e,h1,by simp;omega,Fw h2 h3⟩
 obtain⟨q3,q5,b,e,h1,h2,c0,c1,c2,c3⟩:=h.a7 q;exact⟨q3,q5,b,e,h1,by simp;omega,Fw h2 c0,Fw h2 c1,Fw h2 c2,Fw h2 c3⟩
theorem Gn.put3(h:Gn w1 kb n x l3 l5 l6 l7 l10 u3 u5 u6 u7 u10 W)(h6:l6=false)(h7:l7=false)(T:TypeId):Gn w1 kb n x true l5 l6 l7 l10 (.slice (W,0) 1 1) u5 u6 u7 u10 (W.alloc (.cells #[(n:Int)] T)):=by
 have g:=h.grow (.cells #[(n:Int)] T);exact⟨g.be,fun _=>⟨_,rfl,h.be.size,by simp,by simp[go_sem]⟩,g.a5,fun q=>absurd (h6.symm.trans q) aL,fun q=>absurd (h7.symm.trans q) aL,g.a10⟩
theorem Gn.put5(h:Gn w1 kb n x l3 l5 l6 l7 l10 u3 u5 u6 u7 u10 W)(h6:l6=false)(h7:l7=false)(T:TypeId):Gn w1 kb n x l3 true l6 l7 l10 u3 (.slice (W,0) 1 1) u6 u7 u10 (W.alloc (.cells #[x] T)):=by
 have g:=h.grow (.cells #[x] T);exact⟨g.be,g.a3,fun _=>⟨_,rfl,h.be.size,by simp,by simp[go_sem]⟩,fun q=>absurd (h6.symm.trans q) aL,fun q=>absurd (h7.symm.trans q) aL,g.a10⟩
theorem Gn.put6(h:Gn w1 kb n x l3 l5 l6 l7 l10 u3 u5 u6 u7 u10 W)(h3:l3=true)(h5:l5=true){u:Value}(hu:u=.agg #[kb,.string ⟨#[85]⟩,u3,u5]):Gn w1 kb n x l3 l5 true l7 l10 u3 u5 u u7 u10 W:=
 ⟨h.be,h.a3,h.a5,fun _=>⟨h3,h5,hu⟩,h.a7,h.a10⟩
theorem Gn.put7(h:Gn w1 kb n x l3 l5 l6 l7 l10 u3 u5 u6 u7 u10 W)(h6:l6=true)(h10:l10=false){T:TypeId}{W':World}(hW:W'=W.alloc (.cells #[kb,.string ⟨#[85]⟩,u3,u5] T)):Gn w1 kb n x l3 l5 l6 true l10 u3 u5 u6 W.heap.size u10 W':=by
 subst hW;have g:=h.grow (.cells #[kb,.string ⟨#[85]⟩,u3,u5] T);obtain⟨h3,h5,_⟩:=h.a6 h6;exact⟨g.be,g.a3,g.a5,g.a6,fun _=>⟨h3,h5,_,rfl,h.be.size,by simp,by simp[go_sem],by simp[go_sem],by simp[go_sem],by simp[go_sem]⟩,fun q=>absurd (h10.symm.trans q) aL⟩
theorem Gn.put10(h:Gn w1 kb n x l3 l5 l6 l7 l10 u3 u5 u6 u7 u10 W):Gn w1 kb n x l3 l5 l6 l7 true u3 u5 u6 u7 u7 W:=⟨h.be,h.a3,h.a5,h.a6,h.a7,fun _=>rfl⟩
theorem Gn.fin(h:Gn w1 kb n x l3 l5 l6 l7 l10 u3 u5 u6 u7 u10 W)(h7:l7=true)(h10:l10=true){lo:Nat}(hlo:lo<=w1.heap.size){y:SV}(hy:Fl (fun c=>lo<=c) w1 x y):∃B,u10=.pointer (some ⟨B,0,none⟩)/\Fl (fun c=>lo<=c) W B (.mk kb [85] [n] [y]):=by
 obtain⟨h3,h5,B,e,h1,h2,c0,c1,c2,c3⟩:=h.a7 h7;obtain⟨B3,e3,p1,p2,p3⟩:=h.a3 h3;obtain⟨B5,e5,r1,r2,r3⟩:=h.a5 h5;refine⟨B,(h.a10 h10).trans e,?_⟩;rw[e3]at c2;rw[e5]at c3;refine .mk kb [85] [n] (B3,0) (B5,0) 1 1 [(x,y)] rfl h2 (ae hlo h1) c0 c1 c2 c3 ⟨rfl,by simp[maxLen],fun _=>⟨B3,0,rfl,p2,fun j u hu=>?_⟩⟩ ⟨rfl,by simp[maxLen],fun _=>⟨B5,0,rfl,r2,fun j u hu=>?_⟩⟩ aN aN (fun g o _ e=>?_) (fun g o _ e=>?_) (fun p hp=>?_)
 ·match j,hu with
  |0,hu=>simp[Du]at hu;subst hu;simpa using p3
  |j+1,hu=>simp[Du]at hu
 ·match j,hu with
  |0,hu=>simp[Dr]at hu;subst hu;simpa using r3
  |j+1,hu=>simp[Dr]at hu
 ·injection e with e;injection e with e;subst e;omega
 ·injection e with e;injection e with e;subst e;omega
 simp at hp;subst hp;exact hy.after h.be
end
structure RS(S:List Ty)(K:Kd->List UInt8->Option (Vl × List UInt8))(fs:List Fd)(s:List UInt8)(ps:List (Fd × Vl))(last:Nat)(tt:List UInt8):Prop where
 eq:Ef S K fs 201 0 s=Qv ps (Ef S K fs (201 - ps.length) last tt)
 lo:ps.length<=last
 hi:last<=200
 la:last=(ps.map (·.1.tag)).getLastD 0
 fd:∀p∈ps,Au fs p.1.tag=some p.1
 le:tt.length<=s.length
section
variable {S:List Ty} {K:Kd->List UInt8->Option (Vl × List UInt8)} {fs:List Fd} {s tt r q z z':List UInt8} {ps:List (Fd × Vl)} {last:Nat} {f:Fd} {v:Vl}
theorem RS.init:RS S K fs s [] 0 s:=⟨by cases h:Ef S K fs 201 0 s<;>simp[Qv,h],Ao _,by omega,rfl,by simp,Ao _⟩
theorem RS.one(h:RS S K fs s ps last tt):∃m,201 - ps.length=m+1/\Ef S K fs 201 0 s=Qv ps (match De K fs tt with
  |none=>none
  |some (p,r)=>if p.1.tag<=last\/Ba p.2=Jf S p.1 then none else match Av 44 r with
   |some q=>(match Ef S K fs m p.1.tag q with|some (ps,z)=>some (p::ps,z)|none=>none)
   |none=>match Av 125 r with|some q=>some ([p],q)|none=>none):=
 ⟨200 - ps.length,by have:=h.lo;have:=h.hi;omega,by rw[h.eq,show 201 - ps.length=(200 - ps.length)+1 by have:=h.lo;have:=h.hi;omega];rfl⟩
theorem RS.tagN(h:RS S K fs s ps last tt)(h1:G0 fs tt=none):Ef S K fs 201 0 s=none:=by
 obtain⟨m,_,e⟩:=h.one;rw[e];simp[De,h1,Qv]
theorem RS.sign(h:RS S K fs s ps last tt)(h1:G0 fs tt=some (f,r))(h2:Av 61 r=none):Ef S K fs 201 0 s=none:=by
 obtain⟨m,_,e⟩:=h.one;rw[e];simp[De,h1,h2,Qv]
theorem RS.ord(h:RS S K fs s ps last tt)(h1:G0 fs tt=some (f,r))(h3:f.tag<=last):Ef S K fs 201 0 s=none:=by
 obtain⟨m,_,e⟩:=h.one;rw[e];cases h2:Av 61 r with
 |none=>simp[De,h1,h2,Qv]
 |some q=>
  cases hk:K f.kind q with
  |none=>simp[De,h1,h2,hk,Qv]
  |some x=>simp[De,h1,h2,hk,Qv,h3]
theorem RS.rd(h:RS S K fs s ps last tt)(h1:G0 fs tt=some (f,r))(h2:Av 61 r=some q)(hk:K f.kind q=none):Ef S K fs 201 0 s=none:=by
 obtain⟨m,_,e⟩:=h.one;rw[e];simp[De,h1,h2,hk,Qv]
theorem RS.sam(h:RS S K fs s ps last tt)(h1:G0 fs tt=some (f,r))(h2:Av 61 r=some q)(hk:K f.kind q=some (v,z))(h4:Ba v=Jf S f):Ef S K fs 201 0 s=none:=by
 obtain⟨m,_,e⟩:=h.one;rw[e];simp[De,h1,h2,hk,Qv,h4]
theorem RS.sep(h:RS S K fs s ps last tt)(h1:G0 fs tt=some (f,r))(h2:Av 61 r=some q)(hk:K f.kind q=some (v,z))(h5:Av 44 z=none)(h6:Av 125 z=none):Ef S K fs 201 0 s=none:=by
 obtain⟨m,_,e⟩:=h.one;rw[e];simp[De,h1,h2,hk,Qv,h5,h6]
theorem RS.go(h:RS S K fs s ps last tt)(h1:G0 fs tt=some (f,r))(h2:Av 61 r=some q)(h3:last<f.tag)(hk:K f.kind q=some (v,z))(h4:Ba v≠Jf S f)(h5:Av 44 z=some z')(hl:z'.length<=tt.length):
  RS S K fs s (ps++[(f,v)]) f.tag z':=by
 obtain⟨m,hm,e⟩:=h.one;obtain⟨g1,g2,_,_⟩:=Ke h1;refine⟨?_,by have:=h.lo;simp;omega,g1,by simp,fun p hp=>?_,ae hl h.le⟩
 ·rw[e,show 201 - (ps++[(f,v)]).length=m by simp;omega];simp only[De,h1,h2,hk,h5];rw[if_neg db];cases Ef S K fs m f.tag z'<;>simp[Qv]
 rcases ag.1 hp with hp|hp
 ·exact h.fd p hp
 rw[ar]at hp;subst hp;exact g2
theorem RS.fin(h:RS S K fs s ps last tt)(h1:G0 fs tt=some (f,r))(h2:Av 61 r=some q)(h3:last<f.tag)(hk:K f.kind q=some (v,z))(h4:Ba v≠Jf S f)(h5:Av 44 z=none)(h6:Av 125 z=some z'):
  Ef S K fs 201 0 s=some (ps++[(f,v)],z')/\∀p∈ps++[(f,v)],Au fs p.1.tag=some p.1:=by
 obtain⟨m,hm,e⟩:=h.one;obtain⟨g1,g2,_,_⟩:=Ke h1;refine⟨?_,fun p hp=>?_⟩
 ·rw[e];simp only[De,h1,h2,hk,h5,h6];rw[if_neg db];simp[Qv]
 rcases ag.1 hp with hp|hp
 ·exact h.fd p hp
 rw[ar]at hp;subst hp;exact g2
end
structure Qh3(w:World)(xv y0 y1 y2 h0 h1:Value)(S:List Ty)(K:Kd->List UInt8->Option (Vl × List UInt8))(fs:List Fd)(s:List UInt8)(wr:World)(tv kv:Value)(ps:List (Fd × Vl))(xs:List (Nat × SV))(last:Nat)(tt:List UInt8):Prop where
 bel:Below w w wr
 st:D7 (w.heap.size+3) (w.heap.size+2) wr h0 h1 tv tv kv kv (ps.map fun p=>p.1.tag) xs
 box:wr.cell? (w,0)=some xv
 b0:wr.cell? (w,1,0)=some y0
 b1:wr.cell? (w,1,1)=some y1
 b2:wr.cell? (w,1,2)=some y2
 len:xs.length=ps.length
 eq:xs.map (·.2)=ps.map fun p=>By S p.1.kind p.2
 rs:RS S K fs s ps last tt
theorem Qh3.after{w wr W:World}{xv y0 y1 y2 h0 h1:Value}{S:List Ty}{K:Kd->List UInt8->Option (Vl × List UInt8)}{fs:List Fd}{s tt:List UInt8}{tv kv:Value}{ps:List (Fd × Vl)}{xs:List (Nat × SV)}{last:Nat}
  (h:Qh3 w xv y0 y1 y2 h0 h1 S K fs s wr tv kv ps xs last tt) (hb:Below wr wr W):Qh3 w xv y0 y1 y2 h0 h1 S K fs s W tv kv ps xs last tt:=by
 have hlt:=h.st.lt;have hc:∀b o,b<w.heap.size+3->W.cell? ⟨b,o,none⟩=wr.cell? ⟨b,o,none⟩:=fun b o hb'=>hb.cell (p:=⟨b,o,none⟩) (show b<wr.heap.size by omega);exact⟨h.bel.trans (hb.mono h.bel.size),h.st.after hb,(hc _ _ aI).trans h.box,(hc _ _ aI).trans h.b0,(hc _ _ aI).trans h.b1,(hc _ _ aI).trans h.b2,h.len,h.eq,h.rs⟩
theorem D7.last{base B n c g:Nat}{W:World}{A:Option Addr}{h0 h1 tu ku kv:Value}{gs:List Nat}{xs:List (Nat × SV)}(h:D7 base B W h0 h1 tu (.slice A n c) ku kv (gs++[g]) xs):
  ∃b,A=some ⟨b,0,none⟩/\n=gs.length+1/\b<W.heap.size/\W.cell? ⟨b,gs.length,none⟩=(g:Int):=by
 have hn:=Qdz h.tags;have e:(gs++[g]).length=gs.length+1:=aN;rcases h.tags.2 with⟨e0,h0⟩|⟨b,cap,cur,e1,_⟩
 ·omega
 injection e1 with e1 _ _;subst e1;refine⟨b,rfl,by omega,(h.tags.lt b rfl).2,?_⟩;have:=h.tags.cells (g:=b) rfl gs.length (g:Int) (by simp[Du]);have e2:(⟨b,0,none⟩:Addr).add gs.length=⟨b,0+gs.length,none⟩:=bI;rw[e2]at this;simpa using this
theorem D7.none{base B n c:Nat}{W:World}{A:Option Addr}{h0 h1 tu ku kv:Value}{gs:List Nat}{xs:List (Nat × SV)}(h:D7 base B W h0 h1 tu (.slice A n c) ku kv gs xs):n=gs.length:=Qdz h.tags
def Pb(base:Nat)(tv kv:Value)(W:World)(x:Nat × SV):Prop:=Fl (fun c=>base<=c/\kv.ownBlock≠some c/\tv.ownBlock≠some c) W x.1 x.2
theorem Pb.appT{base:Nat}{W W':World}{tv tv' kv:Value}{x:Nat × SV}(h:Pb base tv kv W x)(hg:W.grownBy W' tv.ownBlock)(hwh:tv'.ownBlock=tv.ownBlock\/∃k,tv'.ownBlock=some k/\W.heap.size<=k):Pb base tv' kv W' x:=by
 refine Fl.kept h (fun b o v hb _ hv=>hg.cell hv fun e=>hb.2.2 e.symm) hg.size fun c hc hl=>⟨hc.1,hc.2.1,?_⟩
 rcases hwh with e|⟨k,e,hk⟩
 ·rw[e];exact hc.2.2
 exact m7
structure Fs(base B:Nat)(W1:World)(h0 h1:Value)(A:Option Addr)(n c:Nat)(ku:Value)(gs:List Nat)(xs ks:List (Nat × SV))(g:Nat)(l7 l8 l11:Bool)(u7 u8:Value)(W:World):Prop where
 p0:l7=false->W=W1
 p1:l7=true->l8=false->W=W1.alloc (.cells [.int .i64 (g:Int)].toArray 3)/\u7=.slice (some ⟨W1.heap.size,0,none⟩) 1 1
 p2:l8=true->l11=false->∃A6 c6,u8=.slice A6 (gs++[g]).length c6/\D7 base B W h0 h1 (.slice A n c) u8 ku ku (gs++[g]) xs/\Below base W1 W/\∀x∈ks,Pb base u8 ku W x
 p3:l11=true->∃A6 c6,D7 base B W h0 h1 (.slice A6 (gs++[g]).length c6) (.slice A6 (gs++[g]).length c6) ku ku (gs++[g]) xs/\Below B W1 W/\∀x∈ks,Pb base (.slice A6 (gs++[g]).length c6) ku W x
 p4:l11=true->∀b o,b<base->b≠B->W.cell? ⟨b,o,none⟩=W1.cell? ⟨b,o,none⟩
section
variable {base B n c g:Nat} {W1 W:World} {h0 h1 ku u7 u8:Value} {A:Option Addr} {gs:List Nat} {xs:List (Nat × SV)} {ks:List (Nat × SV)} {l7 l8 l11:Bool}
theorem Fs.start:Fs base B W1 h0 h1 A n c ku gs xs ks g false false false u7 u8 W1:=⟨fun _=>rfl,fun h=>Bool.noConfusion h,fun h=>Bool.noConfusion h,fun h=>Bool.noConfusion h,fun h=>Bool.noConfusion h⟩
theorem Fs.be(h:Fs base B W1 h0 h1 A n c ku gs xs ks g l7 l8 l11 u7 u8 W)(h8:l8=false):Below W1 W1 W:=by
 cases l7 with
 |false=>rw[h.p0 rfl];exact Am _ _
 |true=>rw[(h.p1 rfl h8).1];exact(Am _ _).alloc (Ao _) _
theorem Fs.put7(h8:l8=false)(h11:l11=false):Fs base B W1 h0 h1 A n c ku gs xs ks g true l8 l11 (.slice (W1,0) 1 1) u8 (W1.alloc (.cells #[(g:Int)] 3)):=
 ⟨fun h=>Bool.noConfusion h,fun _ _=>⟨rfl,rfl⟩,fun h=>absurd (h8.symm.trans h) aL,fun h=>absurd (h11.symm.trans h) aL,fun h=>absurd (h11.symm.trans h) aL⟩
theorem Fs.put8(h7:l7=true)(h11:l11=false){v:Value}(hS:D7 base B W1 h0 h1 (.slice A n c) (.slice A n c) ku ku gs xs)(hk:∀x∈ks,Pb base (.slice A n c) ku W1 x)
  (hown:W.ownsRow base 3 1 v (gs.length+1) (Du gs++[.int .i64 (g:Int)])) (hg:W1.grownBy W (Value.slice A n c).ownBlock) (hwh:v.ownBlock=(Value.slice A n c).ownBlock\/∃k,v.ownBlock=some k/\W1.heap.size<=k):
  Fs base B W1 h0 h1 A n c ku gs xs ks g l7 true l11 u7 v W/\∃A6 c6,v=.slice A6 (gs++[g]).length c6:=by
 obtain⟨A6,c6,e,h1,h2⟩:=hS.pushT hown hg hwh;exact⟨⟨fun h=>absurd (h7.symm.trans h) aL,fun _ h=>Bool.noConfusion h,fun _ _=>⟨A6,c6,e,h1,h2,fun x hx=>(hk x hx).appT hg hwh⟩,fun h=>absurd (h11.symm.trans h) aL,fun h=>absurd (h11.symm.trans h) aL⟩,A6,c6,e⟩
theorem Fs.put11(h:Fs base B W1 h0 h1 A n c ku gs xs ks g l7 l8 l11 u7 u8 W)(h7:l7=true)(h8:l8=true)(h11:l11=false){W':World}(hW:W'=W.setCell ⟨B,2,none⟩ u8):Fs base B W1 h0 h1 A n c ku gs xs ks g l7 l8 true u7 u8 W':=by
 subst hW;obtain⟨A6,c6,e,hS,hb,hk⟩:=h.p2 h8 h11;have hB:=hS.hB;have hk2:∀x∈ks,Pb base u8 ku (W.setCell ⟨B,2,none⟩ u8) x:=fun x hx=>Fl.grown (hk x hx) (Al W B 2 u8) fun c hc e=>by injection e with e;have:=hc.1;omega
 have hS2:=hS.set2;rw[e]at hS2 hk2 ⊢;exact⟨fun h=>absurd (h7.symm.trans h) aL,fun _ h=>absurd (h8.symm.trans h) aL,fun _ h=>Bool.noConfusion h,fun _=>⟨A6,c6,hS2,(hb.mono (Nat.le_of_lt hS.hB)).setCell (p:=⟨B,2,none⟩) (Ao B) _,hk2⟩,fun _ b o h1 h2=>((Al W B 2 _).cell_far ⟨b,o,none⟩ (ad (ad h1 hS.bs) (Ao _)) (by simp;exact h2)).trans (hb.cell (p:=⟨b,o,none⟩) h1)⟩
end
end Go.Proofs.YtpjijpcemejlnaaGreatDoor
