/- Texts joined. Conditions: as each theorem names them. -/
import Derived.Test.YtbdibdghphdcdaaGreatDoorJ20
set_option maxRecDepth 100000
set_option maxHeartbeats 32000000
set_option linter.unusedVariables false
set_option linter.unusedSimpArgs false
namespace Go.Proofs.YtbdibdghphdcdaaGreatDoor
open Go.RowKit Go.Proofs.Tryz
section
attribute [local go_sem] Qo7 Qok Qoa Ql9 ByteArray.mk_append_mk
theorem Qf0(w0:World)(p1 p2:Value)(xs ys:List PT)(hx:Tr w0 p1 xs)(hy:Tr w0 p2 ys)(n:Nat)(a b:Kd)(m:List Df)(w:World)
  (ha:Cq a) (hb:Cq b) (hra:Cc (Ag xs) a) (hrb:Cc (Ag ys) b) (hst:Fj w0 p1 p2 w m)
  (ih:∀x y W,x∈xs->y∈ys->Fj w0 p1 p2 W m ->
   Calls prog 82 #[(w0,1,0),.pointer (some ⟨x.blk,0,none⟩),.pointer (some ⟨y.blk,0,none⟩)] W (Vz w0 p1 p2 (evP (Ag xs) (Ag ys) (Kg (Ag xs) (Ag ys) n) x.ty y.ty m) W)):
  Calls prog 54 #[(w0,1,0),Et a,Et b] w (Vz w0 p1 p2 (Kg (Ag xs) (Ag ys) (n+1) a b m) w):=by
 have HF:=Aa (show Kg (Ag xs) (Ag ys) (n+1) a b m=(if a.signs≠b.signs\/a.base≠b.base then(false,m)
  else if a.base≠[64]then(true,m)
  else match Bt (Ag xs) a.name,Bt (Ag ys) b.name with
   |some t,some u=>if (a.name,b.name)∈m then(true,m)else evT (Ag xs) (Ag ys) (Kg (Ag xs) (Ag ys) n) t u (m++[(a.name,b.name)])
   |_,_=>(false,m))from by rw[Kg];rfl)
 have Hst:=Aa hst;have hna:=Kr ha;have hnb:=Kr hb;have hsz:=hst.2.1;unfold Et;by_cases hsg:a.signs=b.signs
 ·have t1:(!(a.signs == b.signs))=false:=cU;have t2:(a.signs == b.signs)=true:=cU;by_cases hbs:a.base=b.base
  ·have t3:(!(a.base == b.base))=false:=by simp[hbs]
   have t4:(a.base == b.base)=true:=by simp[hbs]
   have HF1:=Aa (HF.o.trans (if_neg (by simp[hsg,hbs])));by_cases h64:a.base=[64]
   ·have HF2:=Aa (HF1.o.trans (if_neg fe));have h64b:b.base=[64]:=hbs ▸ h64;have h1:=hra h64;have h2:=hrb h64b;rw[Jp]at h1 h2;obtain⟨x,hxf⟩:=Option.isSome_iff_exists.1 (by simpa using h1:(Fh xs a.name).isSome=true);obtain⟨y,hyf⟩:=Option.isSome_iff_exists.1 (by simpa using h2:(Fh ys b.name).isSome=true);have hxm:=Gp hxf;have hym:=Gp hyf
    have HF3:=Aa (show Kg (Ag xs) (Ag ys) (n+1) a b m=evP (Ag xs) (Ag ys) (Kg (Ag xs) (Ag ys) n) x.ty y.ty m from by
     rw[HF2.o,hxm.2.2,hym.2.2];unfold evP;rw[hxm.2.1,hym.2.1])
    have Hcall:=Aa (fun W (h:Fj w0 p1 p2 W m)=>ih x y W hxm.1 hym.1 h);obtain⟨pb1,_,_,mb1,rfl,q0,_,q2,_,q4,_,_⟩:=hx;obtain⟨pb2,_,_,mb2,rfl,s0,_,s2,_,s4,_,_⟩:=hy
    have Hl1:=Aa (fun W (h:Below w0 w0 W)=>show (Instr.lookup 118 (.map (some mb1)) a.name false).run prog W=.ok (.pointer (some ⟨x.blk,0,none⟩)) W from by
     have:=Gj (D5.below q4 h) a.name aH;rw[hxf]at this;exact this)
    have Hl2:=Aa (fun W (h:Below w0 w0 W)=>show (Instr.lookup 118 (.map (some mb2)) b.name false).run prog W=.ok (.pointer (some ⟨y.blk,0,none⟩)) W from by
     have:=Gj (D5.below s4 h) b.name aH;rw[hyf]at this;exact this)
    have P1:=Aa q0;have P2:=Aa s0;have M1:=Aa q2;have M2:=Aa s2;rw[hsg,h64,h64b];generalize evP (Ag xs) (Ag ys) (Kg (Ag xs) (Ag ys) n) x.ty y.ty m=r at *;obtain⟨r1,r2⟩:=r;clear ha hb hra hrb hst ih hsg hbs t1 t2 t3 t4 h64 h64b h1 h2 hxf hyf hxm hym q0 q2 q4 s0 s2 s4;go_enter func54,ntmps54;have t5:(!(b.signs == b.signs))=false:=aK;go_wp2_with fail;obtain⟨W2,hW2⟩:∃W2,W2=(w.alloc (.cells #[b.signs,.string ⟨#[64]⟩,a.name] 50)).alloc (.cells #[b.signs,.string ⟨#[64]⟩,b.name] 50):=⟨_,rfl⟩
    rw[<-hW2];have hb2:Below w w W2:=ik;have Hst2:=Aa (Hst.o.below hb2);have Hg2:=Aa (Cx hb2 (some w0.heap.size));have hz2:W2.heap.size=w.heap.size+2:=gy;have X41:=@Aa (W2.cell? (w,1)=some (.string ⟨#[64]⟩)) fc;have X42:=@Aa (W2.cell? (w,2)=a.name) fc;have X52:=@Aa (W2.cell? (w,1,2)=b.name) fc;have B4:=Aa (show w.heap.size<W2.heap.size by omega);have B5:=Aa (show w.heap.size+1<W2.heap.size by omega);have B4n:=@Aa (some w.heap.size≠some w0.heap.size) aM;have B5n:=@Aa (some (w.heap.size+1)≠some w0.heap.size) aM;clear hW2 hb2;refine Jo [19,20,21,22,23,24,25,26,27,28,29,30,31,32,33,34,35,36,37,38,39,40,41,42,43,44,45,6]
     (fun i v W=>match i with|0=>v=(w,1)|1=>v=.string ⟨#[64]⟩|2=>v=.bool false|3=>v=.bool false|4=>v=(w0,1,0)|5=>v=(w0,1,0)|6=>v=(w0,1,0)|7=>v=(w0,1,0)|8=>v=pb1|9=>v=pb1|10=>v=(pb1,1)|11=>v=.map (some mb1)|12=>v=(w,2)|13=>v=a.name|14=>v=.pointer (some ⟨x.blk,0,none⟩)|15=>v=(w0,1,0)|16=>v=(w0,1,0)|17=>v=(w0,1,1)|18=>v=pb2|19=>v=pb2|20=>v=(pb2,1)|21=>v=.map (some mb2)|22=>v=(w,1,2)|23=>v=b.name|24=>v=.pointer (some ⟨y.blk,0,none⟩)|25=>v=.bool r1|26=>v=.bool r1|27=>v=.bool r1|_=>True)
     (fun L U W=>∃mm,Fj w0 pb1 pb2 W mm/\W2.grownBy W (some w0.heap.size)/\(L 25=true->mm=r2)/\(L 25=false->mm=m)) (⟨m,Hst2.o.below ((Ap _ _).drew),Cx ((Ap _ _).drew) _,fun h=>Bool.noConfusion h,fun _=>rfl⟩) ?_ ?_
    ·repeat (first|exact Ak.nil|(refine Ak.cons ?_ ?_;rotate_left))
     all_goals
      rintro L U W hL hpre HR Hdep K hK;obtain⟨mm,ha9,hk9,r5,r6⟩:=HR.o;have a0:W.cell? (w0,1,0)=pb1:=ha9.2.2.1;have a1:W.cell? (w0,1,1)=pb2:=ha9.2.2.2.1;have b1:W.cell? (pb1,1)=some (.map (some mb1)):=(ha9.1.cell (p:=⟨pb1,1,none⟩) P1.o).trans M1.o;have b2:W.cell? (pb2,1)=some (.map (some mb2)):=(ha9.1.cell (p:=⟨pb2,1,none⟩) P2.o).trans M2.o;have x1:W.cell? (w,1)=some (.string ⟨#[64]⟩):=(hk9.cell_far ⟨w.heap.size,1,none⟩ B4.o B4n.o).trans X41.o;have x2:W.cell? (w,2)=a.name:=(hk9.cell_far ⟨w.heap.size,2,none⟩ B4.o B4n.o).trans X42.o;have x3:W.cell? (w,1,2)=b.name:=(hk9.cell_far ⟨w.heap.size+1,2,none⟩ B5.o B5n.o).trans X52.o;have l1:=Hl1.o W ha9.1;have l2:=Hl2.o W ha9.1;first|(simp[Region.binds]at hpre;done)|simp[Region.binds]at hpre|clear hpre
     iterate 25
      ·exact ip
     ·exact jn
     iterate 2
      ·exact ip
    rintro L U W hL hφ hR;have e27:U 27=.bool r1:=hφ 27 aJ;simp only[e27];clear hφ;obtain⟨mm,ha9,hk9,h1,_⟩:=hR;obtain rfl:=h1 (hL 25 aJ);have Ha9:=Aa ha9;have Hk9:=Aa (Hg2.o.trans hk9);clear hL ha9 hk9 h1;go_wp2_with fail;go_ret;rw[HF3.o];exact⟨rfl,Ha9.o,Hk9.o⟩
   have HF2:=Aa (HF1.o.trans (if_pos h64));have t5:(a.base == [64])=false:=by simpa using h64
   have t6:(a.base != [64])=true:=by simpa using h64
   clear ha hb hra hrb hst ih h64 hx hy;rw[<-hsg,<-hbs];clear hsg hbs t1 t2 t3 t4;go_enter func54,ntmps54;go_wp2_with fail;obtain⟨W2,hW2⟩:∃W2,W2=(w.alloc (.cells #[a.signs,a.base,a.name] 50)).alloc (.cells #[a.signs,a.base,b.name] 50):=⟨_,rfl⟩
   rw[<-hW2];have hb2:Below w w W2:=ik;have Hb2:=Aa hb2;have x1:W2.cell? (w,1)=a.base:=fc;clear hW2 hb2;refine Jo [19,20,21,22,23,24,25,26,27,28,29,30,31,32,33,34,35,36,37,38,39,40,41,42,43,44,45,6]
    (fun i v W=>match i with|0=>v=(w,1)|1=>v=a.base|2=>v=.bool true|3=>v=.bool true|4=>v=undef|5=>v=undef|6=>v=undef|7=>v=undef|8=>v=undef|9=>v=undef|10=>v=undef|11=>v=undef|12=>v=undef|13=>v=undef|14=>v=undef|15=>v=undef|16=>v=undef|17=>v=undef|18=>v=undef|19=>v=undef|20=>v=undef|21=>v=undef|22=>v=undef|23=>v=undef|24=>v=undef|25=>v=undef|26=>v=.bool true|27=>v=.bool true|_=>True)
    (fun L U W=>∃q,W=W2.drewN q) (⟨1,rfl⟩) ?_ ?_
   ·repeat (first|exact Ak.nil|(refine Ak.cons ?_ ?_;rotate_left))
    all_goals
     rintro L U W hL hpre HR Hdep K hK;obtain⟨q,rfl⟩:=HR.o;first|(simp[Region.binds]at hpre;done)|simp[Region.binds]at hpre|clear hpre
    iterate 28
     ·exact ip
   rintro L U W hL hφ hR;have e27:U 27=.bool true:=hφ 27 aJ;simp only[e27];clear hφ;obtain⟨q,rfl⟩:=hR;have Hbq:=Aa (Hb2.o.trans ((below_drewN (Ap W2.heap.size W2) q).mono Hb2.o.size));clear hL;go_wp2_with fail;go_ret;rw[HF2.o];exact⟨rfl,Hst.o.below Hbq.o,Cx Hbq.o _⟩
  have t3:(!(a.base == b.base))=true:=by simpa using hbs
  have t4:(a.base == b.base)=false:=by simpa using hbs
  have HF1:=Aa (HF.o.trans (if_pos (.inr hbs)));clear ha hb hra hrb hst ih hsg hbs hx hy;go_enter func54,ntmps54;go_wp2_with fail;exact mu
 have t1:(!(a.signs == b.signs))=true:=by simpa using hsg
 have t2:(a.signs == b.signs)=false:=by simpa using hsg
 have HF1:=Aa (HF.o.trans (if_pos (.inl hsg)));clear ha hb hra hrb hst ih hsg hx hy;go_enter func54,ntmps54;go_wp2_with fail;exact mu
end
end Go.Proofs.YtbdibdghphdcdaaGreatDoor
