/- Texts joined. Conditions: as each theorem names them. -/
import Derived.Test.YtkgkoicedddkmaaGreatDoorC26
set_option maxRecDepth 100000
set_option maxHeartbeats 32000000
set_option linter.unusedVariables false
set_option linter.unusedSimpArgs false
namespace Go.Proofs.YtkgkoicedddkmaaGreatDoor
open Go.RowKit Go.Proofs.Tryz
section
attribute [local go_sem] Qiz Qii Qib Qgw ByteArray.mk_append_mk
theorem Qc1(w0:World)(p1 p2:Value)(xs ys:List PT)(hx:Q9 w0 p1 xs)(hy:Q9 w0 p2 ys)(n:Nat)(a b:Kd)(m:List Cv)(w:World)
  (ha:Cw a) (hb:Cw b) (hra:Bx (Ae xs) a) (hrb:Bx (Ae ys) b) (hst:Eg w0 p1 p2 w m)
  (ih:∀x y W,x∈xs->y∈ys->Eg w0 p1 p2 W m ->
   Calls prog 75 #[.pointer (some ⟨w0.heap.size+1,0,none⟩),.pointer (some ⟨x.blk,0,none⟩),.pointer (some ⟨y.blk,0,none⟩)] W (Sf w0 p1 p2 (evP (Ae xs) (Ae ys) (evK (Ae xs) (Ae ys) n) x.ty y.ty m) W)):
  Calls prog 49 #[.pointer (some ⟨w0.heap.size+1,0,none⟩),D2 a,D2 b] w (Sf w0 p1 p2 (evK (Ae xs) (Ae ys) (n+1) a b m) w):=by
 have HF:=Aa (show evK (Ae xs) (Ae ys) (n+1) a b m=(if a.signs≠b.signs\/a.base≠b.base then(false,m)
  else if a.base≠[64]then(true,m)
  else match Bp (Ae xs) a.name,Bp (Ae ys) b.name with
   |some t,some u=>if (a.name,b.name)∈m then(true,m)else Yb (Ae xs) (Ae ys) (evK (Ae xs) (Ae ys) n) t u (m++[(a.name,b.name)])
   |_,_=>(false,m))from by rw[evK];rfl)
 have Hst:=Aa hst
 have hna:=H8 ha
 have hnb:=H8 hb
 have hsz:=hst.2.1
 unfold D2
 by_cases hsg:a.signs=b.signs
 ·have t1:(!(a.signs == b.signs))=false:=by simp[hsg]
  have t2:(a.signs == b.signs)=true:=by simp[hsg]
  by_cases hbs:a.base=b.base
  ·have t3:(!(a.base == b.base))=false:=by simp[hbs]
   have t4:(a.base == b.base)=true:=by simp[hbs]
   have HF1:=Aa (HF.o.trans (if_neg (by simp[hsg,hbs])))
   by_cases h64:a.base=[64]
   ·have HF2:=Aa (HF1.o.trans (if_neg (by simp[h64])))
    have h64b:b.base=[64]:=hbs ▸ h64
    have h1:=hra h64
    have h2:=hrb h64b
    rw[Gf]at h1 h2
    obtain⟨x,hxf⟩:=Option.isSome_iff_exists.1 (by simpa using h1:(Ef xs a.name).isSome=true)
    obtain⟨y,hyf⟩:=Option.isSome_iff_exists.1 (by simpa using h2:(Ef ys b.name).isSome=true)
    have hxm:=Fc hxf
    have hym:=Fc hyf
    have HF3:=Aa (show evK (Ae xs) (Ae ys) (n+1) a b m=evP (Ae xs) (Ae ys) (evK (Ae xs) (Ae ys) n) x.ty y.ty m from by
     rw[HF2.o,hxm.2.2,hym.2.2];unfold evP;rw[hxm.2.1,hym.2.1])
    have Hcall:=Aa (fun W (h:Eg w0 p1 p2 W m)=>ih x y W hxm.1 hym.1 h)
    obtain⟨pb1,_,_,mb1,rfl,q0,_,q2,_,q4,_,_⟩:=hx
    obtain⟨pb2,_,_,mb2,rfl,s0,_,s2,_,s4,_,_⟩:=hy
    have Hl1:=Aa (fun W (h:Below w0.heap.size w0 W)=>show (Instr.lookup 120 (.map (some mb1)) (.string ⟨a.name.toArray⟩) false).run prog W=.ok (.pointer (some ⟨x.blk,0,none⟩)) W from by
     have:=Ey (Dd.below q4 h) a.name (by omega);rw[hxf]at this;exact this)
    have Hl2:=Aa (fun W (h:Below w0.heap.size w0 W)=>show (Instr.lookup 120 (.map (some mb2)) (.string ⟨b.name.toArray⟩) false).run prog W=.ok (.pointer (some ⟨y.blk,0,none⟩)) W from by
     have:=Ey (Dd.below s4 h) b.name (by omega);rw[hyf]at this;exact this)
    have P1:=Aa q0
    have P2:=Aa s0
    have M1:=Aa q2
    have M2:=Aa s2
    rw[hsg,h64,h64b]
    generalize evP (Ae xs) (Ae ys) (evK (Ae xs) (Ae ys) n) x.ty y.ty m=r at *
    obtain⟨r1,r2⟩:=r
    clear ha hb hra hrb hst ih hsg hbs t1 t2 t3 t4 h64 h64b h1 h2 hxf hyf hxm hym q0 q2 q4 s0 s2 s4
    go_enter func49,ntmps49
    have t5:(!(b.signs == b.signs))=false:=by simp
    go_wp2_with fail
    obtain⟨W2,hW2⟩:∃W2,W2=(w.alloc (.cells #[.string ⟨b.signs.toArray⟩,.string ⟨#[64]⟩,.string ⟨a.name.toArray⟩] 62)).alloc (.cells #[.string ⟨b.signs.toArray⟩,.string ⟨#[64]⟩,.string ⟨b.name.toArray⟩] 62):=⟨_,rfl⟩
    rw[<-hW2]
    have hb2:Below w.heap.size w W2:=by rw[hW2];exact((Aq _ _).alloc (Ap _) _).alloc (by simp) _
    have Hst2:=Aa (Hst.o.below hb2)
    have Hg2:=Aa (Cj hb2 (some w0.heap.size))
    have hz2:W2.heap.size=w.heap.size+2:=by rw[hW2];simp
    have X41:=Aa (show W2.cell? ⟨w.heap.size,1,none⟩=some (.string ⟨#[64]⟩)from by rw[hW2];simp[go_sem])
    have X42:=Aa (show W2.cell? ⟨w.heap.size,2,none⟩=some (.string ⟨a.name.toArray⟩)from by rw[hW2];simp[go_sem])
    have X52:=Aa (show W2.cell? ⟨w.heap.size+1,2,none⟩=some (.string ⟨b.name.toArray⟩)from by rw[hW2];simp[go_sem])
    have B4:=Aa (show w.heap.size<W2.heap.size by omega)
    have B5:=Aa (show w.heap.size+1<W2.heap.size by omega)
    have B4n:=Aa (show some w.heap.size≠some w0.heap.size from by simp;omega)
    have B5n:=Aa (show some (w.heap.size+1)≠some w0.heap.size from by simp;omega)
    clear hW2 hb2
    refine Ge [19,20,21,22,23,24,25,26,27,28,29,30,31,32,33,34,35,36,37,38,39,40,41,42,43,44,45,6]
     (fun i v W=>match i with|0=>v=.pointer (some ⟨w.heap.size,1,none⟩)|1=>v=.string ⟨#[64]⟩|2=>v=.bool false|3=>v=.bool false|4=>v=.pointer (some ⟨w0.heap.size+1,0,none⟩)|5=>v=.pointer (some ⟨w0.heap.size+1,0,none⟩)|6=>v=.pointer (some ⟨w0.heap.size+1,0,none⟩)|7=>v=.pointer (some ⟨w0.heap.size+1,0,none⟩)|8=>v=.pointer (some ⟨pb1,0,none⟩)|9=>v=.pointer (some ⟨pb1,0,none⟩)|10=>v=.pointer (some ⟨pb1,1,none⟩)|11=>v=.map (some mb1)|12=>v=.pointer (some ⟨w.heap.size,2,none⟩)|13=>v=.string ⟨a.name.toArray⟩|14=>v=.pointer (some ⟨x.blk,0,none⟩)|15=>v=.pointer (some ⟨w0.heap.size+1,0,none⟩)|16=>v=.pointer (some ⟨w0.heap.size+1,0,none⟩)|17=>v=.pointer (some ⟨w0.heap.size+1,1,none⟩)|18=>v=.pointer (some ⟨pb2,0,none⟩)|19=>v=.pointer (some ⟨pb2,0,none⟩)|20=>v=.pointer (some ⟨pb2,1,none⟩)|21=>v=.map (some mb2)|22=>v=.pointer (some ⟨w.heap.size+1,2,none⟩)|23=>v=.string ⟨b.name.toArray⟩|24=>v=.pointer (some ⟨y.blk,0,none⟩)|25=>v=.bool r1|26=>v=.bool r1|27=>v=.bool r1|_=>True)
     (fun L U W=>∃mm,Eg w0 (.pointer (some ⟨pb1,0,none⟩)) (.pointer (some ⟨pb2,0,none⟩)) W mm/\W2.grownBy W (some w0.heap.size)/\(L 25=true->mm=r2)/\(L 25=false->mm=m)) (⟨m,Hst2.o.below ((Aq _ _).drew),Cj ((Aq _ _).drew) _,fun h=>Bool.noConfusion h,fun _=>rfl⟩) ?_ ?_
    ·repeat (first|exact Ah.nil|(refine Ah.cons ?_ ?_;rotate_left))
     all_goals
      rintro L U W hL hpre HR Hdep K hK
      obtain⟨mm,ha9,hk9,r5,r6⟩:=HR.o
      have a0:W.cell? ⟨w0.heap.size+1,0,none⟩=some (.pointer (some ⟨pb1,0,none⟩)):=ha9.2.2.1
      have a1:W.cell? ⟨w0.heap.size+1,1,none⟩=some (.pointer (some ⟨pb2,0,none⟩)):=ha9.2.2.2.1
      have b1:W.cell? ⟨pb1,1,none⟩=some (.map (some mb1)):=(ha9.1.cell (p:=⟨pb1,1,none⟩) P1.o).trans M1.o
      have b2:W.cell? ⟨pb2,1,none⟩=some (.map (some mb2)):=(ha9.1.cell (p:=⟨pb2,1,none⟩) P2.o).trans M2.o
      have x1:W.cell? ⟨w.heap.size,1,none⟩=some (.string ⟨#[64]⟩):=(hk9.cell_far ⟨w.heap.size,1,none⟩ B4.o B4n.o).trans X41.o
      have x2:W.cell? ⟨w.heap.size,2,none⟩=some (.string ⟨a.name.toArray⟩):=(hk9.cell_far ⟨w.heap.size,2,none⟩ B4.o B4n.o).trans X42.o
      have x3:W.cell? ⟨w.heap.size+1,2,none⟩=some (.string ⟨b.name.toArray⟩):=(hk9.cell_far ⟨w.heap.size+1,2,none⟩ B5.o B5n.o).trans X52.o
      have l1:=Hl1.o W ha9.1
      have l2:=Hl2.o W ha9.1
      first|(simp[Region.binds]at hpre;done)|simp[Region.binds]at hpre|clear hpre
     iterate 25
      ·go_simp
       exact kE hK HR.o
     ·go_simp
      obtain rfl:=r6 hL
      refine(Hcall.o W ha9).mono ?_
      rintro e w5 ⟨rfl,ha5,hk5⟩
      exact hK _ _ _ rfl Ac ⟨_,ha5,hk9.trans hk5,fun _=>rfl,fun h=>by simp at h⟩ (by simp[Act.put,hpre])
     iterate 2
      ·go_simp
       exact kE hK HR.o
    rintro L U W hL hφ hR
    have e27:U 27=.bool r1:=hφ 27 (by decide)
    simp only[e27]
    clear hφ
    obtain⟨mm,ha9,hk9,h1,_⟩:=hR
    obtain rfl:=h1 (hL 25 (by decide))
    have Ha9:=Aa ha9
    have Hk9:=Aa (Hg2.o.trans hk9)
    clear hL ha9 hk9 h1
    go_wp2_with fail
    go_ret
    rw[HF3.o]
    exact⟨rfl,Ha9.o,Hk9.o⟩
   have HF2:=Aa (HF1.o.trans (if_pos h64))
   have t5:(a.base == [64])=false:=by simpa using h64
   have t6:(a.base != [64])=true:=by simpa using h64
   clear ha hb hra hrb hst ih h64 hx hy
   rw[<-hsg,<-hbs]
   clear hsg hbs t1 t2 t3 t4
   go_enter func49,ntmps49
   go_wp2_with fail
   obtain⟨W2,hW2⟩:∃W2,W2=(w.alloc (.cells #[.string ⟨a.signs.toArray⟩,.string ⟨a.base.toArray⟩,.string ⟨a.name.toArray⟩] 62)).alloc (.cells #[.string ⟨a.signs.toArray⟩,.string ⟨a.base.toArray⟩,.string ⟨b.name.toArray⟩] 62):=⟨_,rfl⟩
   rw[<-hW2]
   have hb2:Below w.heap.size w W2:=by rw[hW2];exact((Aq _ _).alloc (Ap _) _).alloc (by simp) _
   have Hb2:=Aa hb2
   have x1:W2.cell? ⟨w.heap.size,1,none⟩=some (.string ⟨a.base.toArray⟩):=by rw[hW2];simp[go_sem]
   clear hW2 hb2
   refine Ge [19,20,21,22,23,24,25,26,27,28,29,30,31,32,33,34,35,36,37,38,39,40,41,42,43,44,45,6]
    (fun i v W=>match i with|0=>v=.pointer (some ⟨w.heap.size,1,none⟩)|1=>v=.string ⟨a.base.toArray⟩|2=>v=.bool true|3=>v=.bool true|4=>v=undef|5=>v=undef|6=>v=undef|7=>v=undef|8=>v=undef|9=>v=undef|10=>v=undef|11=>v=undef|12=>v=undef|13=>v=undef|14=>v=undef|15=>v=undef|16=>v=undef|17=>v=undef|18=>v=undef|19=>v=undef|20=>v=undef|21=>v=undef|22=>v=undef|23=>v=undef|24=>v=undef|25=>v=undef|26=>v=.bool true|27=>v=.bool true|_=>True)
    (fun L U W=>∃q,W=W2.drewN q) (⟨1,rfl⟩) ?_ ?_
   ·repeat (first|exact Ah.nil|(refine Ah.cons ?_ ?_;rotate_left))
    all_goals
     rintro L U W hL hpre HR Hdep K hK
     obtain⟨q,rfl⟩:=HR.o
     first|(simp[Region.binds]at hpre;done)|simp[Region.binds]at hpre|clear hpre
    iterate 28
     ·go_simp
      exact kE hK HR.o
   rintro L U W hL hφ hR
   have e27:U 27=.bool true:=hφ 27 (by decide)
   simp only[e27]
   clear hφ
   obtain⟨q,rfl⟩:=hR
   have Hbq:=Aa (Hb2.o.trans ((below_drewN (Aq W2.heap.size W2) q).mono Hb2.o.size))
   clear hL
   go_wp2_with fail
   go_ret
   rw[HF2.o]
   exact⟨rfl,Hst.o.below Hbq.o,Cj Hbq.o _⟩
  have t3:(!(a.base == b.base))=true:=by simpa using hbs
  have t4:(a.base == b.base)=false:=by simpa using hbs
  have HF1:=Aa (HF.o.trans (if_pos (.inr hbs)))
  clear ha hb hra hrb hst ih hsg hbs hx hy
  go_enter func49,ntmps49
  go_wp2_with fail
  go_ret
  rw[HF1.o]
  exact⟨rfl,Hst.o.below (((Aq _ _).alloc (Ap _) _).alloc (by simp) _),Cj (((Aq _ _).alloc (Ap _) _).alloc (by simp) _) _⟩
 have t1:(!(a.signs == b.signs))=true:=by simpa using hsg
 have t2:(a.signs == b.signs)=false:=by simpa using hsg
 have HF1:=Aa (HF.o.trans (if_pos (.inl hsg)))
 clear ha hb hra hrb hst ih hsg hx hy
 go_enter func49,ntmps49
 go_wp2_with fail
 go_ret
 rw[HF1.o]
 exact⟨rfl,Hst.o.below (((Aq _ _).alloc (Ap _) _).alloc (by simp) _),Cj (((Aq _ _).alloc (Ap _) _).alloc (by simp) _) _⟩
end
end Go.Proofs.YtkgkoicedddkmaaGreatDoor
