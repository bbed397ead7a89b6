/- Texts joined. Conditions: as each theorem names them. -/
import Derived.Test.YtkgkoicedddkmaaGreatDoorC43
set_option maxRecDepth 100000
set_option maxHeartbeats 32000000
set_option linter.unusedVariables false
set_option linter.unusedSimpArgs false
namespace Go.Proofs.YtkgkoicedddkmaaGreatDoor
open Go.RowKit Go.Proofs.Tryz
section
attribute [local go_sem] Qiz Qii Qib Qgw ByteArray.mk_append_mk
structure Si(w1:World)(cs:List Value)(al st:Bool)(ual:Value)(W:World):Prop where
 be:Below w1.heap.size w1 W
 a:al=true->∃B,ual=.pointer (some ⟨B,0,none⟩)/\w1.heap.size<=B/\B<W.heap.size/\W.there B 0 4/\(st=true->W.rangeAt B 0 cs)
section
variable {w1 W W':World} {cs:List Value} {al st:Bool} {ual:Value} {B:Nat}
theorem Si.start:Si w1 cs false st ual w1:=⟨Aq _ _,fun h=>Bool.noConfusion h⟩
theorem Si.grow(h:Si w1 cs al st ual W)(hb:Below W.heap.size W W'):Si w1 cs al st ual W':=
 ⟨h.be.trans (hb.mono h.be.size),fun ha=>by obtain⟨B,e,h1,h2,h3,h4⟩:=h.a ha;exact⟨B,e,h1,Nat.lt_of_lt_of_le h2 hb.size,Al h3 h2 hb,fun hs=>Aj (h4 hs) h2 hb⟩⟩
theorem Si.alloc(h:Si w1 cs al st ual W)(hst:st=false)(T:TypeId):Si w1 cs true st (.pointer (some ⟨W.heap.size,0,none⟩)) (W.alloc (.cells #[.int .i64 0,.string ⟨#[]⟩,.string ⟨#[]⟩,.string ⟨#[]⟩] T)):=
 ⟨h.be.alloc h.be.size _,fun _=>⟨_,rfl,h.be.size,by simp,Cc W [.int .i64 0,.string ⟨#[]⟩,.string ⟨#[]⟩,.string ⟨#[]⟩] T,fun h=>absurd (hst.symm.trans h) (by decide)⟩⟩
theorem Si.store(h:Si w1 cs al st ual W)(ha:al=true)(hc:cs.length=4):∃B,ual=.pointer (some ⟨B,0,none⟩)/\W.there B 0 4/\Si w1 cs al true ual (W.setCells B 0 cs):=by
 obtain⟨B,e,h1,h2,h3,_⟩:=h.a ha
 exact⟨B,e,h3,Ag _ h1 _ _ _ h.be,fun _=>⟨B,e,h1,by rw[B6];exact h2,World.there_setCells h3 _ _ _,fun _=>World.rangeAt_setCells_same _ _ _ _ (by rw[hc];exact h3)⟩⟩
end
def LnR(P:Nat->Prop)(w:World)(xv:Value)(S:List Ty)(fs:List Fd)(text:List UInt8)(ys:List SV)(i g:Nat)(r:Option (Nat × Option SV)):Prop:=
 (Au fs g=none/\r=none)\/∃f,Au fs g=some f/\f.tag<=200/\(Bj f.kind).length<=100/\((ys.length<=i/\r=some (f.tag,none))\/∃(hi:i<ys.length) (z:SV),
  (∀W bx,Below w.heap.size w W->Fl P W bx ys[i]->Calls prog 27 #[.pointer (some ⟨bx,0,none⟩),xv,.string ⟨(Bj f.kind).toArray⟩] W (Sc z W)) /\
  ((text≠[82]/\r=some (f.tag,some z))\/(text=[82]/\∃lz,(∀(Q:Nat->Prop) W b,Fl Q W b z->Calls prog 28 #[.pointer (some ⟨b,0,none⟩)] W (Gd lz W)) /\
   (∀W,Below w.heap.size w W->Calls prog 46 #[xv,.agg #[.int .i64 (f.tag:Int),.string ⟨f.name.toArray⟩,.string ⟨(Bj f.kind).toArray⟩,.string ⟨f.given.toArray⟩]] W (Gc (Jp S f) W))/\((lz=Jp S f/\r=none)\/(lz≠Jp S f/\r=some (f.tag,some z))))))
structure Qai(w:World)(base T9:Nat)(y0 y1 y2 h0 h1:Value)(rs:List (Nat × Option SV))(wr:World)(tv kv:Value)(xs:List (Nat × SV)):Prop where
 bel:Below w.heap.size w wr
 b0:wr.cell? ⟨T9,0,none⟩=some y0
 b1:wr.cell? ⟨T9,1,none⟩=some y1
 b2:wr.cell? ⟨T9,2,none⟩=some y2
 lt:T9<base
 gt:w.heap.size<T9
 st:Jr base w.heap.size wr h0 h1 tv tv kv kv (rs.map (·.1)) xs
 eq:xs.map (·.2)=rs.filterMap (·.2)
theorem Qai.after{w wr W:World}{base T9:Nat}{y0 y1 y2 h0 h1 tv kv:Value}{rs:List (Nat × Option SV)}{xs:List (Nat × SV)}(h:Qai w base T9 y0 y1 y2 h0 h1 rs wr tv kv xs)(hb:Below wr.heap.size wr W):Qai w base T9 y0 y1 y2 h0 h1 rs W tv kv xs:=by
 have hl:T9<wr.heap.size:=Nat.lt_of_lt_of_le h.lt h.st.bs
 have hc:∀o,W.cell? ⟨T9,o,none⟩=wr.cell? ⟨T9,o,none⟩:=fun o=>hb.cell (p:=⟨T9,o,none⟩) hl
 exact⟨h.bel.trans (hb.mono h.bel.size),(hc _).trans h.b0,(hc _).trans h.b1,(hc _).trans h.b2,h.lt,h.gt,h.st.after hb,h.eq⟩
theorem Qb3{base B:Nat}{W:World}{h0 h1:Value}(h:Jr base B W h0 h1 (.slice none 0 0) (.slice none 0 0) (.slice none 0 0) (.slice none 0 0) [] []):Jr W.heap.size B W h0 h1 (.slice none 0 0) (.slice none 0 0) (.slice none 0 0) (.slice none 0 0) [] []:=
 ⟨h.lt,Ap _,h.lt,h.bk,h.c0,h.c1,h.c2,h.c3,World.ownsRow_nil _ _ _ _,World.ownsRow_nil _ _ _ _,by simp⟩
theorem Qai.push{w W9 W:World}{base T9:Nat}{y0 y1 y2 h0 h1 tv' kv kv':Value}{rs:List (Nat × Option SV)}{xs xs':List (Nat × SV)}{g:Nat}{o:Option SV}(h:Qai w base T9 y0 y1 y2 h0 h1 rs W9 tv' kv xs)
  (hb:Below w.heap.size W9 W) (hc:∀o,W.cell? ⟨T9,o,none⟩=W9.cell? ⟨T9,o,none⟩) {tv:Value} (hS:Jr base w.heap.size W h0 h1 tv tv kv' kv' (rs.map (·.1)++[g]) xs') (he:xs'.map (·.2)=rs.filterMap (·.2)++o.toList):
  Qai w base T9 y0 y1 y2 h0 h1 (rs++[(g,o)]) W tv kv' xs':=
 ⟨h.bel.trans hb,(hc _).trans h.b0,(hc _).trans h.b1,(hc _).trans h.b2,h.lt,h.gt,by simpa using hS,by rw[he,List.filterMap_append];cases o<;>simp⟩
theorem Qby(P:Nat->Prop)(bv:Nat)(xv:Value)(hxv:xv.oneCell'=true)(w:World)(kr:List UInt8)(hkl:kr.length<=100)(s0:Int)(nm:List UInt8)(A9:Option Addr)(c9:Nat)(fs:List Fd)(hfs:Er w (.slice A9 fs.length c9) fs)(okr:Bool)(S:List Ty)(ka text:List UInt8)(gs:List Nat)(ys:List SV)(hgl:∀g∈gs,g<=1000)(h:Fl P w bv (.mk ka text gs ys))
  (hrf:∀W,Below w.heap.size w W->Calls prog 44 #[xv,.string ⟨(64::kr:List UInt8).toArray⟩] W fun e w'=>e=.returned (.tuple #[.agg #[.int .u8 s0,.string ⟨nm.toArray⟩,.slice A9 fs.length c9],.bool okr])/\Below W.heap.size W w')
  (res:List (Option (Nat × Option SV))) (hres:res.length=gs.length) (HK:∀i (hi:i<gs.length) (hj:i<res.length),LnR P w xv S fs text ys i gs[i] res[i]):
  Calls prog 27 #[.pointer (some ⟨bv,0,none⟩),xv,.string ⟨(64::kr:List UInt8).toArray⟩] w (Sc (.mk (64::kr) text ((res.filterMap id).map (·.1)) ((res.filterMap id).filterMap (·.2))) w):=by
 have HK:=Aa HK
 have Hres:=Aa hres
 have Hrf:=Aa hrf
 have Hfs:=Aa hfs
 have Hgl:=Aa hgl
 obtain⟨A1,A2,c1,c2,ks,hb,hP,v0,v1,v2,v3,hr1,hr2,hg1,hk1,hks,hkids⟩:=h.open_
 have Hks:=Aa hks
 have Hkids:=Aa hkids
 have Hr1:=Aa hr1
 have Hr2:=Aa hr2
 have V1:=Aa v1
 have V2:=Aa v2
 have V3:=Aa v3
 have hkl2:=Aa (show ks.length=ys.length from by rw[hks];simp)
 clear h v0 v2 v3 hr1 hr2 hks hkids hres hrf hfs hgl
 have t64:((((64:UInt8).toNat:Nat):Int) != 64)=false:=rfl
 go_enter func27,ntmps27
 go_wp2_with fail
 refine(Hrf.o _ ((Aq w.heap.size w).alloc (Ap _) _)).mono ?_
 rintro e w1 ⟨rfl,hb1⟩
 have hz1:=hb1.size
 simp only[World.size_alloc]at hz1
 have L0:=Aa (show ∀W,W=w1.alloc (.cells #[.int .u8 s0,.string ⟨nm.toArray⟩,.slice A9 fs.length c9] 100)->Qai w W.heap.size w1.heap.size (.int .u8 s0) (.string ⟨nm.toArray⟩) (.slice A9 fs.length c9) (.string ⟨(64::kr:List UInt8).toArray⟩) (.string ⟨text.toArray⟩) [] W (.slice none 0 0) (.slice none 0 0) []from by
  rintro W rfl
  have hs:=((Jr.new (W:=w) (T:=97) (.string ⟨(64::kr:List UInt8).toArray⟩) (.string ⟨text.toArray⟩)).after hb1).after ((Aq w1.heap.size w1).alloc (Ap _) (.cells #[.int .u8 s0,.string ⟨nm.toArray⟩,.slice A9 fs.length c9] 100))
  exact⟨(((Aq w.heap.size w).alloc (Ap _) _).trans (hb1.mono (by simp))).alloc (by omega) _,by go_simp,by go_simp,by go_simp,by simp,by omega,Qb3 hs,rfl⟩)
 clear hb1
 go_upto_region 9 with fail
 obtain⟨W2,hW2⟩:∃W2,W2=w1.alloc (.cells #[.int .u8 s0,.string ⟨nm.toArray⟩,.slice A9 fs.length c9] 100):=⟨_,rfl⟩
 have L1:=Aa (L0.o _ hW2)
 rw[<-hW2]
 clear hW2 L0
 generalize w1.heap.size=T9 at *
 go_wp2_with fail
 go_loopw [11] (fun ix wr=>∃(i:Nat) (A4:Option Addr) (c4:Nat) (A3:Option Addr) (c3:Nat) (rs:List (Nat × Option SV)) (xs:List (Nat × SV)),ix=.int .i64 (i:Int)/\i<=gs.length/\Hid (rs=(res.take i).filterMap id)/\rs.length<=i/\xs.length<=i/\Hid (Qai w W2.heap.size T9 (.int .u8 s0) (.string ⟨nm.toArray⟩) (.slice A9 fs.length c9) (.string ⟨(64::kr:List UInt8).toArray⟩) (.string ⟨text.toArray⟩) rs wr (.slice A4 rs.length c4) (.slice A3 xs.length c3) xs)) (fun ix _=>gs.length - (intOf ix).toNat)
 case atStart=>exact⟨0,none,0,none,0,[],[],rfl,Nat.zero_le _,rfl,Ap _,Ap _,L1.o⟩
 case round=>
  obtain⟨i,A4,c4,A3,c3,rs,xs,rfl,hi,Hrs,hrl,hxl,HL⟩:=hrel
  have i0:(0:Int)<=(i:Int):=by omega
  have p2:wr.cell? ⟨bv,2,none⟩=some (.slice A1 gs.length c1):=(HL.o.bel.cell (p:=⟨bv,2,none⟩) hb).trans V2.o
  have hbr:bv<wr.heap.size:=Nat.lt_of_lt_of_le hb HL.o.bel.size
  by_cases hlt:i<gs.length
  ·have i1:(i:Int)<(gs.length:Int):=by omega
   obtain⟨B1,o1,rfl,hBl,hc2⟩:=Hr1.o.2.2 (by omega)
   have Y2:=Aa ((HL.o.bel.cell (p:=⟨B1,o1+i,none⟩) hBl).trans (hc2 i _ (show (Ec gs)[i]?=some (.int .i64 (gs[i]:Int))from by simp[Ec,hlt])))
   have hBr:B1<wr.heap.size:=Nat.lt_of_lt_of_le hBl HL.o.bel.size
   have hrl2:i<res.length:=by have:=Hres.o;omega
   have HR:=Aa (HK.o i hlt hrl2)
   have Htk:=Aa (show res.take (i+1)=res.take i++[res[i]]from List.take_succ_eq_append_getElem hrl2)
   have hgi:=Hgl.o _ (List.getElem_mem hlt)
   generalize gs[i]=g at *
   generalize res[i]=r at *
   have HCf:=Aa (fun W (hW:Below w.heap.size w W)=>Qd (.int .u8 s0) (.string ⟨nm.toArray⟩) (.slice A9 fs.length c9) fs g W (Hfs.o.below hW) (by omega))
   clear hc2
   obtain⟨o,hoo⟩:∃o,Au fs g=o:=⟨_,rfl⟩
   rw[hoo]at HCf
   obtain⟨n0,a0,b0,d0,ok,hv,hof⟩:∃(n0:Nat) (a0 b0 d0:List UInt8) (ok:Bool),sfR o=.tuple #[.agg #[.int .i64 (n0:Int),.string ⟨a0.toArray⟩,.string ⟨b0.toArray⟩,.string ⟨d0.toArray⟩],.bool ok]/\((o=none/\ok=false)\/∃f,o=some f/\ok=true/\n0=f.tag/\a0=f.name/\b0=Bj f.kind/\d0=f.given):=by
    cases o with
    |none=>exact⟨0,[],[],[],false,rfl,.inl ⟨rfl,rfl⟩⟩
    |some f=>exact⟨f.tag,f.name,Bj f.kind,f.given,true,rfl,.inr ⟨f,rfl,rfl,rfl,rfl,rfl,rfl⟩⟩
   rw[hv]at HCf
   have Hof:=Aa hof
   have Hoo:=Aa hoo
   clear hv hof hoo
   go_wp2_with fail
   refine Ge [71,72,73,74,75,76,77,78,79,70,80,81,12,999,13]
    (fun ix v W=>match ix with|0=>v=.agg #[.int .u8 s0,.string ⟨nm.toArray⟩,.slice A9 fs.length c9]|1=>v=.pointer (some ⟨bv,0,none⟩)|2=>v=.pointer (some ⟨bv,0,none⟩)|3=>v=.pointer (some ⟨bv,2,none⟩)|4=>v=.slice (some ⟨B1,o1,none⟩) gs.length c1|5=>v=.int .i64 (i:Int)|6=>v=.pointer (some ⟨B1,o1+i,none⟩)|7=>v=.int .i64 (g:Int)|8=>v=.tuple #[.agg #[.int .i64 (n0:Int),.string ⟨a0.toArray⟩,.string ⟨b0.toArray⟩,.string ⟨d0.toArray⟩],.bool ok]|9=>v=.tuple #[.agg #[.int .i64 (n0:Int),.string ⟨a0.toArray⟩,.string ⟨b0.toArray⟩,.string ⟨d0.toArray⟩],.bool ok]|10=>v=.agg #[.int .i64 (n0:Int),.string ⟨a0.toArray⟩,.string ⟨b0.toArray⟩,.string ⟨d0.toArray⟩]|11=>v=.bool ok|14=>v=.bool ok|_=>True)
    (fun L U W=>Si wr.drew [.int .i64 (n0:Int),.string ⟨a0.toArray⟩,.string ⟨b0.toArray⟩,.string ⟨d0.toArray⟩] (L 12) (L 13) (U 12) W) (Si.start) ?_ ?_
   ·repeat (first|exact Ah.nil|(refine Ah.cons ?_ ?_;rotate_left))
    all_goals
     rintro L U W hL hpre HR Hdep K hK
     have hbe:=HR.o.be
     have t0:=(hbe.cell (p:=⟨T9,0,none⟩) (by have:=HL.o.lt;have:=HL.o.st.bs;simp;omega)).trans ((World.cell?_drew _ _).trans HL.o.b0)
     have t1:=(hbe.cell (p:=⟨T9,1,none⟩) (by have:=HL.o.lt;have:=HL.o.st.bs;simp;omega)).trans ((World.cell?_drew _ _).trans HL.o.b1)
     have t2:=(hbe.cell (p:=⟨T9,2,none⟩) (by have:=HL.o.lt;have:=HL.o.st.bs;simp;omega)).trans ((World.cell?_drew _ _).trans HL.o.b2)
     have x2:=(hbe.cell (p:=⟨bv,2,none⟩) (by simp;omega)).trans ((World.cell?_drew _ _).trans p2)
     have x3:=(hbe.cell (p:=⟨B1,o1+i,none⟩) (by simp;omega)).trans ((World.cell?_drew _ _).trans Y2.o)
     first|(simp[Region.binds]at hpre;done)|simp[Region.binds]at hpre|clear hpre
    iterate 8
     ·go_simp
      exact kE hK HR.o
    ·go_simp
     refine(HCf.o _ (HL.o.bel.drew.trans (hbe.mono (by have:=HL.o.bel.size;simp;omega)))).mono ?_
     rintro e w5 ⟨rfl,hb5⟩
     go_simp
     exact hK _ _ _ rfl Ac (HR.o.grow hb5) (by simp[Act.put,hpre])
    iterate 3
     ·go_simp
      exact kE hK HR.o
    ·have h13:L 13=false:=Ax Hdep.o 13 12 rfl hL
     go_simp
     exact hK (.pointer (some ⟨W.heap.size,0,none⟩)) _ _ Ac Ac (HR.o.alloc h13 _) (by simp[Act.put,hpre])
    ·have l12:L 12=true:=by first|exact hpre.1|exact hpre.1.1
     have u10:U 10=.agg #[.int .i64 (n0:Int),.string ⟨a0.toArray⟩,.string ⟨b0.toArray⟩,.string ⟨d0.toArray⟩]:=by first|exact hpre.2.2|exact hpre.2.1.2
     obtain⟨B,u12,ht,hn⟩:=HR.o.store l12 rfl
     rw[if_pos (by rfl)]
     refine wp_store_mid 104 _ _ rfl B 0 ([.int .i64 (n0:Int),.string ⟨a0.toArray⟩,.string ⟨b0.toArray⟩,.string ⟨d0.toArray⟩]:List Value).toArray u12 u10 ht (by kernel_rfl) (by simp[Value.oneCell']) ?_
     exact hK undef _ _ Ac Ac hn rfl
    ·go_simp
     exact kE hK HR.o
   rintro L U W hL hφ hR
   obtain⟨B12,u12,hB1,hB2,hB3,hrg⟩:∃B,U 12=.pointer (some ⟨B,0,none⟩)/\wr.heap.size<=B/\B<W.heap.size/\True/\W.rangeAt B 0 [.int .i64 (n0:Int),.string ⟨a0.toArray⟩,.string ⟨b0.toArray⟩,.string ⟨d0.toArray⟩]:=by
    obtain⟨B,e,q1,q2,_,q4⟩:=hR.a (hL 12 (by decide))
    exact⟨B,e,by simpa using q1,q2,Ac,q4 (hL 13 (by decide))⟩
   have u14:U 14=.bool ok:=hφ 14 (by decide)
   simp only[u12,u14]
   have hbW:Below wr.heap.size wr W:=(Aq _ _).drew.trans (hR.be.mono (by simp))
   have HL2:=Aa (HL.o.after hbW)
   have Hrg:=Aa hrg
   have hz2:=hbW.size
   clear hR hL hφ u12 u14 hrg hbW p2
   obtain⟨W3,rfl⟩:∃W3:World,W3=W:=⟨_,rfl⟩
   rcases HR.o with⟨hfn,hrn⟩|⟨f,hff,hf2,hfk,hrest⟩
   ·have hok:ok=false:=by
     rcases Hof.o with⟨_,h⟩|⟨f,h,_⟩
     ·exact h
     rw[Hoo.o]at hfn;rw[h]at hfn;cases hfn
    subst hok
    have Hn:=Aa (show rs=(res.take (i+1)).filterMap id from by rw[Htk.o,List.filterMap_append,<-Hrs.o,hrn];simp)
    clear hfn hrn
    go_wp2_with fail
    go_roundw
    case rel=>exact⟨i+1,A4,c4,A3,c3,rs,xs,by go_num,by omega,Hn.o,by omega,by omega,HL2.o⟩
    case measure=>simp[intOf];omega
   have hoe:ok=true/\n0=f.tag/\a0=f.name/\b0=Bj f.kind/\d0=f.given:=by
    rcases Hof.o with⟨h,_⟩|⟨f',h,h1,h2,h3,h4,h5⟩
    ·rw[Hoo.o]at hff;rw[h]at hff;cases hff
    rw[Hoo.o]at hff;rw[h]at hff;injection hff with hff;subst hff;exact⟨h1,h2,h3,h4,h5⟩
   obtain⟨rfl,rfl,rfl,rfl,rfl⟩:=hoe
   have Hrest:=Aa hrest
   clear hff hrest Hof Hoo HR
   have Hfk:=Aa (show ∃kf,kf=Bj f.kind from⟨_,rfl⟩)
   obtain⟨kf,hkf⟩:=Hfk.o
   have HKf:=Aa hkf
   rw[<-hkf]at Hrg hfk
   clear hkf Hfk
   have p3:W3.cell? ⟨bv,3,none⟩=some (.slice A2 ks.length c2):=(HL2.o.bel.cell (p:=⟨bv,3,none⟩) hb).trans V3.o
   have hb3:bv<W3.heap.size:=by omega
   rcases Hrest.o with⟨hge,hre⟩|⟨hyl,z,hlf,hway⟩
   ·have j1:¬((i:Int)<(ks.length:Int)):=by have:=hkl2.o;omega
    have Hn:=Aa (show rs++[(f.tag,none)]=(res.take (i+1)).filterMap id from by rw[Htk.o,List.filterMap_append,<-Hrs.o,hre];simp)
    have HLa:=HL2
    clear hge hre Hrest
    have Y9:=Aa (by simpa using Ab Hrg.o 0 rfl:W3.cell? ⟨B12,0,none⟩=some (.int .i64 (f.tag:Int)))
    go_upto_region 18 with fail
    refine Ge [125,126,127,128,129,130,131,132,133,134,135,999]
     (fun ix v W=>match ix with|0=>v=.pointer (some ⟨w.heap.size,0,none⟩)|1=>v=.pointer (some ⟨w.heap.size,0,none⟩)|2=>v=.pointer (some ⟨w.heap.size,0,none⟩)|3=>v=.pointer (some ⟨w.heap.size,2,none⟩)|4=>v=.slice A4 rs.length c4|5=>v=.pointer (some ⟨B12,0,none⟩)|6=>v=.int .i64 (f.tag:Int)|9=>v=.pointer (some ⟨w.heap.size,0,none⟩)|10=>v=.pointer (some ⟨w.heap.size,2,none⟩)|_=>True)
     (fun L U W=>Fo W2.heap.size w.heap.size W3.drew (.string ⟨(64::kr:List UInt8).toArray⟩) (.string ⟨text.toArray⟩) A4 rs.length c4 (.slice A3 xs.length c3) (rs.map (·.1)) xs [] f.tag (L 7) (L 8) (L 11) (U 7) (U 8) W) (Fo.start) ?_ ?_
    ·repeat (first|exact Ah.nil|(refine Ah.cons ?_ ?_;rotate_left))
     all_goals
      rintro L U W hL hpre HR Hdep K hK
      first|(simp[Region.binds]at hpre;done)|simp[Region.binds]at hpre|clear hpre
     iterate 4
      ·go_simp
       exact kE hK HR.o
     ·have h8:L 8=false:=Ax Hdep.o 8 4 rfl hL
      have x2:=((HR.o.be h8).cell (p:=⟨w.heap.size,2,none⟩) (by have:=HLa.o.st.lt;simp;omega)).trans ((World.cell?_drew _ _).trans HLa.o.st.c2)
      go_simp
      exact kE hK HR.o
     ·go_simp
      exact kE hK HR.o
     ·have h7:L 7=false:=Ax Hdep.o 7 6 rfl hL
      have hW:=HR.o.p0 h7
      subst hW
      have x2:=Y9.o
      go_simp
      exact kE hK HR.o
     ·have h8:L 8=false:=Ax Hdep.o 8 7 rfl hL
      have h11:L 11=false:=Ax Hdep.o 11 8 rfl h8
      have hW:=HR.o.p0 hL
      subst hW
      go_simp
      exact hK _ _ _ Ac Ac (Fo.put7 h8 h11) (by simp[Act.put,hpre])
     ·obtain⟨lv,uv⟩:L 4=true/\U 4=.slice A4 rs.length c4:=by
       first|exact hpre.1|exact hpre.2
      have l7:L 7=true:=by
       first|exact hpre.2|exact hpre.1
      have h11:L 11=false:=Ax Hdep.o 11 8 rfl hL
      obtain⟨hW,u7⟩:=HR.o.p1 l7 hL
      subst hW
      rw[if_pos (by rfl)]
      have HSd:=HLa.o.st.after (Aq _ _).drew
      refine Jn W3.drew (.tmp 129) (.tmp 132) 94 rfl W2.heap.size 3 (.int .i64 0) 1 8 underlying94 Qb1 rfl (by decide) [.int .i64 (f.tag:Int)] rfl (by simp[Value.oneCell']) (.slice A4 rs.length c4) rs.length (Ec (rs.map (·.1))) uv u7 (by simpa using HSd.tags) (by unfold maxLen;omega) (by omega) HSd.bs ?_
      intro v6 w6 hown hg hwh
      obtain⟨hn,A6,c6,e6⟩:=Fo.put8 (u7:=U 7) (ks:=[]) l7 h11 HSd (by simp) (by simpa using hown) hg hwh
      exact hK _ _ _ Ac Ac hn rfl
     iterate 2
      ·go_simp
       exact kE hK HR.o
     ·have l8:=hpre.2.1
      have l7:L 7=true:=Jx (Ax Hdep.o 8 7 rfl) l8
      obtain⟨A6,c6,e6,hS6,hb6,hk6⟩:=HR.o.p2 l8 hL
      have x2:=hS6.c2
      have x3:=hS6.bk.live 2
      have x4:=hS6.lt
      go_simp
      exact hK undef _ _ Ac Ac (HR.o.put11 l7 l8 hL (by rw[e6];simp)) (by simp[Act.put,hpre,e6])
    rintro L U W hL hφ hR
    clear hφ
    obtain⟨A6,c6,hS6,hb6,_⟩:=hR.p3 (hL 11 (by decide))
    have hc6:=hR.p4 (hL 11 (by decide))
    have el:(rs.map (·.1)++[f.tag]).length=(rs++[(f.tag,none)]).length:=by simp
    rw[el]at hS6
    have HLn:=Aa (HLa.o.push (o:=none) ((Aq _ _).drew.trans hb6) (fun o=>hc6 T9 o HLa.o.lt (by have:=HLa.o.gt;omega)) hS6 (by rw[HLa.o.eq];simp))
    clear hR hL hS6 hb6 hc6 el
    go_wp2_with fail
    go_roundw
    case rel=>exact⟨i+1,A6,c6,_,_,rs++[(f.tag,none)],xs,by go_num,by omega,Hn.o,by simp;omega,by first|(simp;omega)|omega,HLn.o⟩
    case measure=>simp[intOf];omega
   have j1:(i:Int)<(ks.length:Int):=by have:=hkl2.o;omega
   have hik:i<ks.length:=by omega
   obtain⟨B2,o2,rfl,hBl2,hc2⟩:=Hr2.o.2.2 (by omega)
   have q2:=hc2 i _ (show (Do (ks.map (·.1)))[i]?=some (.pointer (some ⟨ks[i].1,0,none⟩))from by simp[Do,hik])
   have Y3:=Aa ((HL2.o.bel.cell (p:=⟨B2,o2+i,none⟩) hBl2).trans q2)
   have hB2r:B2<W3.heap.size:=Nat.lt_of_lt_of_le hBl2 HL2.o.bel.size
   have hyi:(ks[i]'hik).2=ys[i]:=by have:=Hks.o;subst this;simp
   have Hk:=Aa (show Fl P w (ks[i]'hik).1 ys[i]from hyi ▸ Hkids.o _ (List.getElem_mem _))
   generalize (ks[i]'hik).1=bx at *
   have HC:=Aa (fun W (hW:Below w.heap.size w W)=>hlf W bx hW (Hk.o.after hW))
   rw[<-HKf.o]at HC
   have Hway:=Aa hway
   have hBk:bv<W3.heap.size:=hb3
   have Y12:=Aa (by simpa using Ab Hrg.o 2 rfl:W3.cell? ⟨B12,2,none⟩=some (.string ⟨kf.toArray⟩))
   have P3:=Aa p3
   clear hc2 q2 hyi hlf hway Hrest
   go_upto_region 15 with fail
   clear p3
   refine Ge [91,92,93,94,95,96,97,98,99,100,101,14]
    (fun ix v W=>match ix with|0=>v=.pointer (some ⟨bv,0,none⟩)|1=>v=.pointer (some ⟨bv,0,none⟩)|2=>v=.pointer (some ⟨bv,3,none⟩)|3=>v=.slice (some ⟨B2,o2,none⟩) ks.length c2|4=>v=.int .i64 (i:Int)|5=>v=.pointer (some ⟨B2,o2+i,none⟩)|6=>v=.pointer (some ⟨bx,0,none⟩)|7=>v=xv|8=>v=.pointer (some ⟨B12,2,none⟩)|9=>v=.string ⟨(kf:List UInt8).toArray⟩|_=>True)
    (fun L U W=>(L 10=false->W=W3.drew)/\(L 10=true->∃b5,U 10=.pointer (some ⟨b5,0,none⟩)/\Below W3.drew.heap.size W3.drew W/\Fl (fun c=>W3.drew.heap.size<=c) W b5 z/\(L 11=true->U 11=.pointer (some ⟨b5,0,none⟩)))) (⟨fun _=>rfl,fun h=>Bool.noConfusion h⟩) ?_ ?_
   ·repeat (first|exact Ah.nil|(refine Ah.cons ?_ ?_;rotate_left))
    all_goals
     rintro L U W hL hpre HR Hdep K hK
     first|(simp[Region.binds]at hpre;done)|simp[Region.binds]at hpre|clear hpre
    iterate 3
     ·go_simp
      exact kE hK HR.o
    ·have h10:L 10=false:=Ax Hdep.o 10 6 rfl (Ax Hdep.o 6 5 rfl (Ax Hdep.o 5 3 rfl hL))
     have hW:=HR.o.1 h10
     subst hW
     have x3:=P3.o
     go_simp
     exact kE hK HR.o
    iterate 2
     ·go_simp
      exact kE hK HR.o
    ·have h10:L 10=false:=Ax Hdep.o 10 6 rfl hL
     have hW:=HR.o.1 h10
     subst hW
     have x3:=Y3.o
     go_simp
     exact kE hK HR.o
    iterate 2
     ·go_simp
      exact kE hK HR.o
    ·have h10:L 10=false:=Ax Hdep.o 10 9 rfl hL
     have hW:=HR.o.1 h10
     subst hW
     have x3:=Y12.o
     go_simp
     exact kE hK HR.o
    ·have h11:L 11=false:=Ax Hdep.o 11 10 rfl hL
     have hW:=HR.o.1 hL
     subst hW
     go_simp
     refine(HC.o _ HL2.o.bel.drew).mono ?_
     rintro e w5 ⟨b5,rfl,hb5,hs5⟩
     go_simp
     exact hK _ _ _ Ac Ac ⟨fun h=>by simp at h,fun _=>⟨b5,rfl,hb5,hs5,fun h=>absurd (h11.symm.trans (by simpa using h)) (by decide)⟩⟩ (by simp[Act.put,hpre])
    ·have l10:L 10=true:=by first|exact hpre|exact hpre.1|exact hpre.2|exact hpre.2.1|exact hpre.1.1|exact hpre.2.2.1
     obtain⟨b5,u10,hb5,hs5,_⟩:=HR.o.2 l10
     go_simp
     exact hK (U 10) _ _ Ac Ac ⟨fun h=>absurd (l10.symm.trans h) (by decide),fun _=>⟨b5,u10,hb5,hs5,fun _=>u10⟩⟩ (by simp[Act.put,hpre,u10])
   rintro L U W hL hφ hR
   clear hφ
   obtain⟨b5,e5,hb5,hs5,u11⟩:=hR.2 (hL 10 (by decide))
   have u11:=u11 (hL 11 (by decide))
   simp only[u11]
   have hb35:Below W3.heap.size W3 W:=(Aq _ _).drew.trans (hb5.mono (by simp))
   have HL5:=Aa (HL2.o.after hb35)
   have Hrg5:=Aa (Aj Hrg.o hB2 hb35)
   have hz5:=hb35.size
   have Hs5:=Aa hs5
   have V15:=Aa ((HL5.o.bel.cell (p:=⟨bv,1,none⟩) hb).trans v1)
   clear hR hL u11 hb5 hs5 e5 hb35
   obtain⟨W5,rfl⟩:∃W5:World,W5=W:=⟨_,rfl⟩
   go_upto_region 16 with fail
   go_cut [114]from 102 to 115 (fun bt wx=>Hid (Below W5.heap.size W5 wx)/\((bt=.bool true/\r=none)\/(bt=.bool false/\r=some (f.tag,some z))))
   case first=>
    rcases Hway.o with⟨hnr,hrr⟩|⟨htx,lz,hO,hSt,hr⟩
    ·have x1:=V15.o
     have tR:(text == [82])=false:=by simpa using hnr
     have Hrr:=Aa hrr
     clear hnr hrr
     go_quiet (fail)
     go_wp2_with fail
     go_meet
     exact⟨below_drewN (Aq _ _) _,.inr ⟨rfl,Hrr.o⟩⟩
    ·have HO:=Aa (fun W (hW:Below W5.heap.size W5 W)=>hO _ W b5 (Hs5.o.after hW))
     have HS:=Aa (fun W (hW:Below W5.heap.size W5 W)=>hSt W (HL5.o.bel.trans (hW.mono HL5.o.bel.size)))
     rw[<-HKf.o]at HS
     have Yr:=Aa (Ab Hrg5.o)
     have Y50:=Aa (by simpa using Ab Hrg5.o 0 rfl:W5.cell? ⟨B12,0,none⟩=some (.int .i64 (f.tag:Int)))
     have Y51:=Aa (by simpa using Ab Hrg5.o 1 rfl:W5.cell? ⟨B12,1,none⟩=some (.string ⟨f.name.toArray⟩))
     have Y52:=Aa (by simpa using Ab Hrg5.o 2 rfl:W5.cell? ⟨B12,2,none⟩=some (.string ⟨kf.toArray⟩))
     have Y53:=Aa (by simpa using Ab Hrg5.o 3 rfl:W5.cell? ⟨B12,3,none⟩=some (.string ⟨f.given.toArray⟩))
     have Hr:=Aa hr
     generalize hov:Jp S f=ov at *
     have hB5:B12<W5.heap.size:=by omega
     have hb5v:bv<W5.heap.size:=by omega
     clear hO hSt hr hov Yr
     by_cases hlo:lz=ov
     ·have hpe:(lz == ov)=true:=by simpa using hlo
      have Hrn:=Aa (show r=none from by rcases Hr.o with⟨_,h⟩|⟨h,_⟩;exact h;exact absurd hlo h)
      clear hlo
      subst htx
      refine Ge [102,103,104,105,106,107,108,109,110,111,112,113,114]
       (fun ix v W=>match ix with|0=>v=.pointer (some ⟨bv,0,none⟩)|1=>v=.pointer (some ⟨bv,0,none⟩)|2=>v=.pointer (some ⟨bv,1,none⟩)|3=>v=.string ⟨([82]:List UInt8).toArray⟩|4=>v=.bool true|5=>v=.bool true|6=>v=.pointer (some ⟨b5,0,none⟩)|7=>v=.string ⟨(lz:List UInt8).toArray⟩|8=>v=xv|9=>v=.agg #[.int .i64 (f.tag:Int),.string ⟨f.name.toArray⟩,.string ⟨kf.toArray⟩,.string ⟨f.given.toArray⟩]|10=>v=.string ⟨(ov:List UInt8).toArray⟩|11=>v=.bool true|12=>v=.bool true|_=>True)
       (fun L U W=>Below W5.drew.heap.size W5.drew W) (Aq _ _) ?_ ?_
      ·repeat (first|exact Ah.nil|(refine Ah.cons ?_ ?_;rotate_left))
       all_goals
        rintro L U W hL hpre HR Hdep K hK
        first|(simp[Region.binds]at hpre;done)|simp[Region.binds]at hpre|clear hpre
       iterate 3
        ·go_simp
         first|exact hK _ _ _ rfl Ac HR.o rfl|exact hK _ _ _ rfl Ac HR.o (by simp[Act.put,hpre,hpe])|exact hK undef _ _ Ac Ac HR.o (by simp[Act.put,hpre,hpe])|exact hK _ _ _ Ac Ac HR.o rfl|exact hK _ _ _ Ac Ac HR.o (by simp[Act.put,hpre,hpe])
       ·have x1:=(HR.o.cell (p:=⟨bv,1,none⟩) (by simp;omega)).trans ((World.cell?_drew _ _).trans V15.o)
        go_simp
        exact kE hK HR.o
       iterate 3
        ·go_simp
         first|exact hK _ _ _ rfl Ac HR.o rfl|exact hK _ _ _ rfl Ac HR.o (by simp[Act.put,hpre,hpe])|exact hK undef _ _ Ac Ac HR.o (by simp[Act.put,hpre,hpe])|exact hK _ _ _ Ac Ac HR.o rfl|exact hK _ _ _ Ac Ac HR.o (by simp[Act.put,hpre,hpe])
       ·go_simp
        refine(HO.o _ ((Aq W5.heap.size W5).drew.trans (HR.o.mono (by simp)))).mono ?_
        rintro e w9 ⟨rfl,hb⟩
        go_simp
        exact hK _ _ _ rfl Ac (HR.o.trans (hb.mono HR.o.size)) (by simp[Act.put,hpre])
       ·go_simp
        first|exact hK _ _ _ rfl Ac HR.o rfl|exact hK _ _ _ rfl Ac HR.o (by simp[Act.put,hpre,hpe])|exact hK undef _ _ Ac Ac HR.o (by simp[Act.put,hpre,hpe])|exact hK _ _ _ Ac Ac HR.o rfl|exact hK _ _ _ Ac Ac HR.o (by simp[Act.put,hpre,hpe])
       ·have y0:=(HR.o.cell (p:=⟨B12,0,none⟩) (by simp;omega)).trans ((World.cell?_drew _ _).trans Y50.o)
        have y1:=(HR.o.cell (p:=⟨B12,1,none⟩) (by simp;omega)).trans ((World.cell?_drew _ _).trans Y51.o)
        have y2:=(HR.o.cell (p:=⟨B12,2,none⟩) (by simp;omega)).trans ((World.cell?_drew _ _).trans Y52.o)
        have y3:=(HR.o.cell (p:=⟨B12,3,none⟩) (by simp;omega)).trans ((World.cell?_drew _ _).trans Y53.o)
        go_simp
        exact kE hK HR.o
       ·go_simp
        refine(HS.o _ ((Aq W5.heap.size W5).drew.trans (HR.o.mono (by simp)))).mono ?_
        rintro e w9 ⟨rfl,hb⟩
        go_simp
        exact hK _ _ _ rfl Ac (HR.o.trans (hb.mono HR.o.size)) (by simp[Act.put,hpre])
       iterate 2
        ·go_simp
         first|exact hK _ _ _ rfl Ac HR.o rfl|exact hK _ _ _ rfl Ac HR.o (by simp[Act.put,hpre,hpe])|exact hK undef _ _ Ac Ac HR.o (by simp[Act.put,hpre,hpe])|exact hK _ _ _ Ac Ac HR.o rfl|exact hK _ _ _ Ac Ac HR.o (by simp[Act.put,hpre,hpe])
      rintro L U W hL hφ hR
      have e12:U 12=.bool true:=hφ 12 (by decide)
      simp only[e12]
      clear hφ
      go_wp2_with fail
      go_meet
      exact⟨(Aq _ _).drew.trans (hR.mono (by simp)),.inl ⟨rfl,Hrn.o⟩⟩
     have hpe:(lz == ov)=false:=by simpa using hlo
     have Hrn:=Aa (show r=some (f.tag,some z)from by rcases Hr.o with⟨h,_⟩|⟨_,h⟩;exact absurd h hlo;exact h)
     clear hlo
     subst htx
     refine Ge [102,103,104,105,106,107,108,109,110,111,112,113,114]
      (fun ix v W=>match ix with|0=>v=.pointer (some ⟨bv,0,none⟩)|1=>v=.pointer (some ⟨bv,0,none⟩)|2=>v=.pointer (some ⟨bv,1,none⟩)|3=>v=.string ⟨([82]:List UInt8).toArray⟩|4=>v=.bool true|5=>v=.bool true|6=>v=.pointer (some ⟨b5,0,none⟩)|7=>v=.string ⟨(lz:List UInt8).toArray⟩|8=>v=xv|9=>v=.agg #[.int .i64 (f.tag:Int),.string ⟨f.name.toArray⟩,.string ⟨kf.toArray⟩,.string ⟨f.given.toArray⟩]|10=>v=.string ⟨(ov:List UInt8).toArray⟩|11=>v=.bool false|12=>v=.bool false|_=>True)
      (fun L U W=>Below W5.drew.heap.size W5.drew W) (Aq _ _) ?_ ?_
     ·repeat (first|exact Ah.nil|(refine Ah.cons ?_ ?_;rotate_left))
      all_goals
       rintro L U W hL hpre HR Hdep K hK
       first|(simp[Region.binds]at hpre;done)|simp[Region.binds]at hpre|clear hpre
      iterate 3
       ·go_simp
        first|exact hK _ _ _ rfl Ac HR.o rfl|exact hK _ _ _ rfl Ac HR.o (by simp[Act.put,hpre,hpe])|exact hK undef _ _ Ac Ac HR.o (by simp[Act.put,hpre,hpe])|exact hK _ _ _ Ac Ac HR.o rfl|exact hK _ _ _ Ac Ac HR.o (by simp[Act.put,hpre,hpe])
      ·have x1:=(HR.o.cell (p:=⟨bv,1,none⟩) (by simp;omega)).trans ((World.cell?_drew _ _).trans V15.o)
       go_simp
       exact kE hK HR.o
      iterate 3
       ·go_simp
        first|exact hK _ _ _ rfl Ac HR.o rfl|exact hK _ _ _ rfl Ac HR.o (by simp[Act.put,hpre,hpe])|exact hK undef _ _ Ac Ac HR.o (by simp[Act.put,hpre,hpe])|exact hK _ _ _ Ac Ac HR.o rfl|exact hK _ _ _ Ac Ac HR.o (by simp[Act.put,hpre,hpe])
      ·go_simp
       refine(HO.o _ ((Aq W5.heap.size W5).drew.trans (HR.o.mono (by simp)))).mono ?_
       rintro e w9 ⟨rfl,hb⟩
       go_simp
       exact hK _ _ _ rfl Ac (HR.o.trans (hb.mono HR.o.size)) (by simp[Act.put,hpre])
      ·go_simp
       first|exact hK _ _ _ rfl Ac HR.o rfl|exact hK _ _ _ rfl Ac HR.o (by simp[Act.put,hpre,hpe])|exact hK undef _ _ Ac Ac HR.o (by simp[Act.put,hpre,hpe])|exact hK _ _ _ Ac Ac HR.o rfl|exact hK _ _ _ Ac Ac HR.o (by simp[Act.put,hpre,hpe])
      ·have y0:=(HR.o.cell (p:=⟨B12,0,none⟩) (by simp;omega)).trans ((World.cell?_drew _ _).trans Y50.o)
       have y1:=(HR.o.cell (p:=⟨B12,1,none⟩) (by simp;omega)).trans ((World.cell?_drew _ _).trans Y51.o)
       have y2:=(HR.o.cell (p:=⟨B12,2,none⟩) (by simp;omega)).trans ((World.cell?_drew _ _).trans Y52.o)
       have y3:=(HR.o.cell (p:=⟨B12,3,none⟩) (by simp;omega)).trans ((World.cell?_drew _ _).trans Y53.o)
       go_simp
       exact kE hK HR.o
      ·go_simp
       refine(HS.o _ ((Aq W5.heap.size W5).drew.trans (HR.o.mono (by simp)))).mono ?_
       rintro e w9 ⟨rfl,hb⟩
       go_simp
       exact hK _ _ _ rfl Ac (HR.o.trans (hb.mono HR.o.size)) (by simp[Act.put,hpre])
      iterate 2
       ·go_simp
        first|exact hK _ _ _ rfl Ac HR.o rfl|exact hK _ _ _ rfl Ac HR.o (by simp[Act.put,hpre,hpe])|exact hK undef _ _ Ac Ac HR.o (by simp[Act.put,hpre,hpe])|exact hK _ _ _ Ac Ac HR.o rfl|exact hK _ _ _ Ac Ac HR.o (by simp[Act.put,hpre,hpe])
     rintro L U W hL hφ hR
     have e12:U 12=.bool false:=hφ 12 (by decide)
     simp only[e12]
     clear hφ
     go_wp2_with fail
     go_meet
     exact⟨(Aq _ _).drew.trans (hR.mono (by simp)),.inr ⟨rfl,Hrn.o⟩⟩
   case rest=>
    obtain⟨Hbc,⟨rfl,hrr⟩|⟨rfl,hrr⟩⟩:=hcut
    ·have Hn:=Aa (show rs=(res.take (i+1)).filterMap id from by rw[Htk.o,List.filterMap_append,<-Hrs.o,hrr];simp)
     have HL6:=Aa (HL5.o.after Hbc.o)
     clear hrr
     go_wp2_with fail
     go_roundw
     case rel=>exact⟨i+1,A4,c4,A3,c3,rs,xs,by go_num,by omega,Hn.o,by omega,by omega,HL6.o⟩
     case measure=>simp[intOf];omega
    ·have Hn:=Aa (show rs++[(f.tag,some z)]=(res.take (i+1)).filterMap id from by rw[Htk.o,List.filterMap_append,<-Hrs.o,hrr];simp)
     obtain⟨W6,rfl⟩:∃W6:World,W6=wc:=⟨_,rfl⟩
     have HL6:=Aa (HL5.o.after Hbc.o)
     have HKd:=Aa (show P6 W2.heap.size (.slice A4 rs.length c4) (.slice A3 xs.length c3) W6 (b5,z)from by
      have h1:=(HL2.o.after (Aq _ _).drew).st.kid (Hs5.o.after Hbc.o)
      exact h1)
     have Y60:=Aa ((Hbc.o.cell (p:=⟨B12,0,none⟩) (show B12<W5.heap.size by omega)).trans (by simpa using Ab Hrg5.o 0 rfl:W5.cell? ⟨B12,0,none⟩=some (.int .i64 (f.tag:Int))))
     have hz6:=Hbc.o.size
     have s3:=HL6.o.st.c3
     have s4:=HL6.o.st.lt
     have hx5:xs.length<=1000:=by omega
     clear hrr
     go_wp2_with (at_builtin;go_loud (refine Gw _ rfl _ _ 95 rfl W2.heap.size 56 (.pointer none) 8 underlying95 Vs rfl W6 (.pointer (some ⟨b5,0,none⟩)) rfl rfl (.slice A3 xs.length c3) xs.length (Do (xs.map (·.1))) rfl rfl HL6.o.st.row (by unfold maxLen;omega) (by omega) HL6.o.st.bs ?_;intro v7 w7 hown7 hg7 hwh7;obtain⟨A7,c7,e7,hS7,hb7⟩:=HL6.o.st.push (x:=(b5,z)) HKd.o hown7 hg7 hwh7;subst e7;have HG7:=Aa hg7;have HS7:=Aa hS7;have HB7:=Aa hb7;have r3:=hS7.c3;have f3:=hS7.bk.live 3;have hz7:=hS7.lt;clear hS7 hb7 hown7 hg7 hwh7))
     have el7:(xs++[(b5,z)]).length=xs.length+1:=by simp
     obtain⟨W9,hW9⟩:∃W9,W9=w7.setCell ⟨w.heap.size,3,none⟩ (.slice A7 (xs.length+1) c7):=⟨_,rfl⟩
     rw[<-hW9]
     have hcf:∀b o,b<W2.heap.size->b≠w.heap.size->W9.cell? ⟨b,o,none⟩=W6.cell? ⟨b,o,none⟩:=fun b o h1 h2=>by
      rw[hW9]
      exact((At w7 w.heap.size 3 _).cell_far ⟨b,o,none⟩ (Nat.lt_of_lt_of_le h1 (Nat.le_trans HL6.o.st.bs HB7.o.size)) (by simp;exact h2)).trans (HB7.o.cell (p:=⟨b,o,none⟩) h1)
     have Hbw:=Aa (show Below w.heap.size W6 W9 from by rw[hW9];exact(HB7.o.mono (Nat.le_of_lt HS7.o.hB)).setCell (p:=⟨w.heap.size,3,none⟩) (Ap w.heap.size) _)
     have hS9:Jr W2.heap.size w.heap.size W9 (.string ⟨(64::kr:List UInt8).toArray⟩) (.string ⟨text.toArray⟩) (.slice A4 rs.length c4) (.slice A4 rs.length c4) (.slice A7 (xs++[(b5,z)]).length c7) (.slice A7 (xs++[(b5,z)]).length c7) (rs.map (·.1)) (xs++[(b5,z)]):=by rw[hW9,<-el7];exact HS7.o.set3
     have Y9:=Aa (show W9.cell? ⟨B12,0,none⟩=some (.int .i64 (f.tag:Int))from by
      rw[hW9]
      refine((At w7 w.heap.size 3 _).cell (HG7.o.cell Y60.o fun e=>?_) (by simp;have:=HL.o.gt;have:=HL.o.lt;have:=HL.o.st.bs;omega))
      have:=(HL.o.st.row.lt B12 e.symm).2
      omega)
     have Hcf:=Aa (fun o=>hcf T9 o HL6.o.lt (by have:=HL6.o.gt;omega))
     have hB9:B12<W9.heap.size:=by have:=Hbw.o.size;omega
     have Hs9:=Aa hS9
     clear hcf hS9 hW9
     go_upto_region 18 with fail
     refine Ge [125,126,127,128,129,130,131,132,133,134,135,999]
      (fun ix v W=>match ix with|0=>v=.pointer (some ⟨w.heap.size,0,none⟩)|1=>v=.pointer (some ⟨w.heap.size,0,none⟩)|2=>v=.pointer (some ⟨w.heap.size,0,none⟩)|3=>v=.pointer (some ⟨w.heap.size,2,none⟩)|4=>v=.slice A4 rs.length c4|5=>v=.pointer (some ⟨B12,0,none⟩)|6=>v=.int .i64 (f.tag:Int)|9=>v=.pointer (some ⟨w.heap.size,0,none⟩)|10=>v=.pointer (some ⟨w.heap.size,2,none⟩)|_=>True)
      (fun L U W=>Fo W2.heap.size w.heap.size W9.drew (.string ⟨(64::kr:List UInt8).toArray⟩) (.string ⟨text.toArray⟩) A4 rs.length c4 (.slice A7 (xs++[(b5,z)]).length c7) (rs.map (·.1)) (xs++[(b5,z)]) [] f.tag (L 7) (L 8) (L 11) (U 7) (U 8) W) (Fo.start) ?_ ?_
     ·repeat (first|exact Ah.nil|(refine Ah.cons ?_ ?_;rotate_left))
      all_goals
       rintro L U W hL hpre HR Hdep K hK
       first|(simp[Region.binds]at hpre;done)|simp[Region.binds]at hpre|clear hpre
      iterate 4
       ·go_simp
        exact kE hK HR.o
      ·have h8:L 8=false:=Ax Hdep.o 8 4 rfl hL
       have x2:=((HR.o.be h8).cell (p:=⟨w.heap.size,2,none⟩) (by have:=Hs9.o.lt;simp;omega)).trans ((World.cell?_drew _ _).trans Hs9.o.c2)
       go_simp
       exact kE hK HR.o
      ·go_simp
       exact kE hK HR.o
      ·have h7:L 7=false:=Ax Hdep.o 7 6 rfl hL
       have hW:=HR.o.p0 h7
       subst hW
       have x2:=Y9.o
       go_simp
       exact kE hK HR.o
      ·have h8:L 8=false:=Ax Hdep.o 8 7 rfl hL
       have h11:L 11=false:=Ax Hdep.o 11 8 rfl h8
       have hW:=HR.o.p0 hL
       subst hW
       go_simp
       exact hK _ _ _ Ac Ac (Fo.put7 h8 h11) (by simp[Act.put,hpre])
      ·obtain⟨lv,uv⟩:L 4=true/\U 4=.slice A4 rs.length c4:=by
        first|exact hpre.1|exact hpre.2
       have l7:L 7=true:=by
        first|exact hpre.2|exact hpre.1
       have h11:L 11=false:=Ax Hdep.o 11 8 rfl hL
       obtain⟨hW,u7⟩:=HR.o.p1 l7 hL
       subst hW
       rw[if_pos (by rfl)]
       have HSd:=Hs9.o.after (Aq _ _).drew
       refine Jn W9.drew (.tmp 129) (.tmp 132) 94 rfl W2.heap.size 3 (.int .i64 0) 1 8 underlying94 Qb1 rfl (by decide) [.int .i64 (f.tag:Int)] rfl (by simp[Value.oneCell']) (.slice A4 rs.length c4) rs.length (Ec (rs.map (·.1))) uv u7 (by simpa using HSd.tags) (by unfold maxLen;omega) (by omega) HSd.bs ?_
       intro v6 w6 hown hg hwh
       obtain⟨hn,A6,c6,e6⟩:=Fo.put8 (u7:=U 7) (ks:=[]) l7 h11 HSd (by simp) (by simpa using hown) hg hwh
       exact hK _ _ _ Ac Ac hn rfl
      iterate 2
       ·go_simp
        exact kE hK HR.o
      ·have l8:=hpre.2.1
       have l7:L 7=true:=Jx (Ax Hdep.o 8 7 rfl) l8
       obtain⟨A6,c6,e6,hS6,hb6,hk6⟩:=HR.o.p2 l8 hL
       have x2:=hS6.c2
       have x3:=hS6.bk.live 2
       have x4:=hS6.lt
       go_simp
       exact hK undef _ _ Ac Ac (HR.o.put11 l7 l8 hL (by rw[e6];simp)) (by simp[Act.put,hpre,e6])
     rintro L U W hL hφ hR
     clear hφ
     obtain⟨A6,c6,hS6,hb6,_⟩:=hR.p3 (hL 11 (by decide))
     have hc6:=hR.p4 (hL 11 (by decide))
     have el:(rs.map (·.1)++[f.tag]).length=(rs++[(f.tag,some z)]).length:=by simp
     rw[el]at hS6
     have HLn:=Aa (HL6.o.push (o:=some z) (Hbw.o.trans ((Aq _ _).drew.trans hb6)) (fun o=>(hc6 T9 o HL6.o.lt (by have:=HL6.o.gt;omega)).trans ((World.cell?_drew _ _).trans (Hcf.o o))) hS6 (by rw[List.map_append,HL6.o.eq];rfl))
     clear hR hL hS6 hb6 hc6 el
     go_wp2_with fail
     go_roundw
     case rel=>exact⟨i+1,A6,c6,_,_,rs++[(f.tag,some z)],(xs++[(b5,z)]),by go_num,by omega,Hn.o,by simp;omega,by first|(simp;omega)|omega,HLn.o⟩
     case measure=>simp[intOf];omega
  ·have i1:¬((i:Int)<(gs.length:Int)):=by omega
   go_wp2_with fail
   go_ret
   refine⟨w.heap.size,rfl,HL.o.bel,?_⟩
   have hd:=HL.o.st.done (kind:=64::kr) (text:=text) (by simp;omega) (by omega)
   rw[HL.o.eq,Hrs.o,List.take_of_length_le (by have:=Hres.o;omega)]at hd
   exact hd
end
end Go.Proofs.YtkgkoicedddkmaaGreatDoor
