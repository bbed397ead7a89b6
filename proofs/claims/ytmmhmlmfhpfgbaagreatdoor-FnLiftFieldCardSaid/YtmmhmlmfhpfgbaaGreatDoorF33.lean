/- Texts joined. Conditions: as each theorem names them. -/
import Derived.Test.YtmmhmlmfhpfgbaaGreatDoorF29
set_option maxRecDepth 100000
set_option maxHeartbeats 32000000
set_option linter.unusedVariables false
set_option linter.unusedSimpArgs false
namespace Go.Proofs.YtmmhmlmfhpfgbaaGreatDoor
open Go.RowKit Go.Proofs.Tryz
section
attribute [local go_sem] Qoe Qnf Qmu Qk2 ByteArray.mk_append_mk
def Qh1(S:List Ty)(R:Kd->List UInt8->Option (Vl × List UInt8))(fs:List Fd)(z:List UInt8):Option (Vl × List UInt8):=match Av 125 z with
 |some q=>some (.mk 82 [] 0 [],q)
 |none=>match El S R fs 201 0 z with|some (ps,q)=>some (.mk 82 [] 0 (ps.map Dk),q)|none=>none
structure Qns(w0:World)(xv:Value)(S:List Ty)(k:Kd)(R:Kd->List UInt8->Option (Vl × List UInt8))(st nm fv:Value)(fs:List Fd)(d:Int):Prop where
 tag:∀(s:List UInt8) W,Below w0 w0 W->s.length<=1000000->Calls prog 207 #[.agg #[xv],.string ⟨s.toArray⟩,.agg #[st,nm,fv]] W (Nj (G0 fs s) s W)
 fld:∀s f r,G0 fs s=some (f,r)->Ck f.kind/\(Ax f.kind).length<=100/\1<=f.tag/\f.tag<=200
 rd:∀k (s:List UInt8) W,Ck k->Below w0 w0 W->s.length<=1000000->Calls prog 105 #[.agg #[xv],.string ⟨s.toArray⟩,.string ⟨(Ax k).toArray⟩,.int .i64 d] W (Bx S k (R k s) W)
 len:∀k s v r,Ck k->R k s=some (v,r)->r.length<=s.length
 outp:∀k (s:List UInt8) v r (P:Nat->Prop) (b:Nat) W,Ck k->R k s=some (v,r)->s.length<=1000000->Fl P W b (Cd S k v)->Calls prog 48 #[b] W (Gm (Az v) W)
 sta:∀s f r W,G0 fs s=some (f,r)->Below w0 w0 W->Calls prog 155 #[xv,.agg #[(f.tag:Int),.string ⟨f.name.toArray⟩,.string ⟨(Ax f.kind).toArray⟩,.string ⟨f.given.toArray⟩]] W (Fz (G9 S f) W)
 sv:∀ps:List (Fd × Vl),(∀p∈ps,Au fs p.1.tag=some p.1)->Cd S k (.mk 82 [] 0 (ps.map Dk))=.mk (Ax k) [82] (ps.map fun p=>p.1.tag) (ps.map fun p=>Cd S p.1.kind p.2)
theorem sRec_walk(w0:World)(xv:Value)(hxv:xv.oneCell'=true)(S:List Ty)(k:Kd)(hkl:(Ax k).length<=100)(R:Kd->List UInt8->Option (Vl × List UInt8))(nm:List UInt8)(A9:Option Addr)(c9:Nat)(fs:List Fd)(d:Nat)(hd:d<=1000)
  (HR0:Qns w0 xv S k R (.int .u8 82) nm (.slice A9 fs.length c9) fs (d:Int)) (z:List UInt8) (w:World) (hw:Below w0 w0 w) (hz:z.length<=1000000) (q:Option (Vl × List UInt8)) (hq:q=Qh1 S R fs z):
  Calls prog 206 #[.agg #[xv],z,.string ⟨(Ax k).toArray⟩,.agg #[.int .u8 82,nm,.slice A9 fs.length c9],.int .i64 ((d+1:Nat):Int)] w (Bx S k q w):=by
 have HH:=Aa HR0;have HQ:=Aa hq;have HW:=Aa hw;have Hsv:=Aa HR0.sv;generalize Ax k=kb at *;have d1:(((d+1:Nat):Int)) - 1=(d:Int):=aH;have d4:(0:Int)<=(d:Int):=aH;have d5:(d:Int)<=1000:=aH;have hwd:IntKind.i64.wrap (d:Int)=(d:Int):=IntWalk.i64_in _ aH;generalize (((d+1:Nat):Int))=dd at *;clear HR0 hw hq;by_cases h125:∃z',z=125::z'
 ·obtain⟨z',rfl⟩:=h125;go_enter func206,ntmps206;go_wp2_with fail;go_quiet (fail)
  go_wp2_with fail;refine aF (v:=.tuple #[(w,2,0),.string ⟨z'.toArray⟩,.bool true]) (by simp[results,results206,go_sem]) rfl ?_;rw[HQ.o,show Qh1 S R fs (125::z')=some (.mk 82 [] 0 [],z')from by simp[Qh1,Av]];have hl:=Fl.leaf (P:=fun c=>w.heap.size<=c) (w:=(w.alloc (.cells #[xv] 79)).alloc (.cells #[.int .u8 82,nm,.slice A9 fs.length c9] 143)) (kind:=kb) (text:=[82]) (T:=148) aM;refine⟨⟨w.heap.size+2,rfl,?_⟩,below_drewN ((((Ao w.heap.size w).alloc (An _) _).alloc aK _).alloc aM _) _⟩;rw[show (Vl.mk 82 [] 0 [])=.mk 82 [] 0 (([]:List (Fd × Vl)).map Dk)from rfl,Hsv.o [] aK];have hl2:Fl (fun c=>w.heap.size<=c) (((w.alloc (.cells #[xv] 79)).alloc (.cells #[.int .u8 82,nm,.slice A9 fs.length c9] 143)).alloc (.cells #[kb,.string ⟨#[82]⟩,.slice none 0 0,.slice none 0 0] 148)) (w.heap.size+2) (.mk kb [82] [] []):=fN;exact hl2.after (below_drewN (Ao _ _) _)
 have hne:Av 125 z=none:=by
  cases z with
  |nil=>rfl
  |cons c z=>exact Dm (fun e=>h125 ⟨z,by rw[e]⟩) z
 have HQ2:=@Aa (q=match El S R fs 201 0 z with|some (ps,q)=>some (.mk 82 [] 0 (ps.map Dk),q)|none=>none) (by rw[HQ.o];unfold Qh1;rw[hne]);have hc0:z≠[]->∀h,((z[0]'h).toNat:Int)≠125:=by
  intro hn h e;cases z with
  |nil=>exact hn rfl
  | cons c z => exact h125 ⟨z, by have:c=125:=by apply UInt8.toNat_inj.1;simpa using(by exact_mod_cast e:c.toNat=125)
                                  rw[this]⟩
 clear h125 hne;obtain⟨W1,hW1⟩:∃W1,W1=((w.alloc (.cells #[xv] 79)).alloc (.cells #[.int .u8 82,nm,.slice A9 fs.length c9] 143)).alloc (.cells #[kb,.string ⟨#[82]⟩,.slice none 0 0,.slice none 0 0] 148):=⟨_,rfl⟩
 have L0:=Aa (show Qhw w xv (.int .u8 82) nm (.slice A9 fs.length c9) kb (.string ⟨#[82]⟩) S R fs z W1 (.slice none 0 0) (.slice none 0 0) [] [] 0 z from by
  have hS:=Ee.new (W:=(w.alloc (.cells #[xv] 79)).alloc (.cells #[.int .u8 82,nm,.slice A9 fs.length c9] 143)) (T:=148) kb (.string ⟨#[82]⟩);rw[hW1];exact⟨(((Ao w.heap.size w).alloc (An _) _).alloc aK _).alloc aM _,by simpa using hS,by go_simp,by go_simp,by go_simp,by go_simp,rfl,rfl,RS.init⟩)
 go_enter func206,ntmps206;go_upto_region 2 with fail
 rw[<-hW1];clear hW1;go_cut [1,29]from 23 to 32 (fun s0 bt wx=>s0=z/\bt=.bool false/\wx=W1)
 case first=>
  by_cases hs0:z=[]
  ·have he:z.isEmpty=true:=by rw[hs0];rfl
   clear hs0 hc0;go_wp2_with fail;go_meet
   exact⟨rfl,rfl,rfl⟩
  ·have he:z.isEmpty=false:=by cases z with|nil=>exact absurd rfl hs0|cons c z=>rfl
   have hs1:0<z.length:=by cases z with|nil=>exact absurd rfl hs0|cons c z=>simp
   have hs2:(((z[0]'hs1).toNat:Int) == 125)=false:=by simpa using hc0 hs0 hs1
   clear hs0 hc0;go_wp2_with fail;go_meet
   exact⟨rfl,rfl,rfl⟩
 case rest=>
  clear hc0;obtain⟨rfl,rfl,rfl⟩:=hcut;go_wp2_with fail;go_loopw [1] (fun s0 wr=>∃(A2:Option Addr) (c2:Nat) (A3:Option Addr) (c3:Nat) (ps:List (Fd × Vl)) (xs:List (Nat × SV)) (last:Nat) (tt:List UInt8),s0=tt/\tt.length<=z.length/\Hid (Qhw w xv (.int .u8 82) nm (.slice A9 fs.length c9) kb (.string ⟨#[82]⟩) S R fs z wr (.slice A2 ps.length c2) (.slice A3 xs.length c3) ps xs last tt)) (fun s0 _=>S1 s0)
  case atStart=>exact⟨none,0,none,0,[],[],0,z,rfl,An _,L0.o⟩
  case round=>
   obtain⟨A2,c2,A3,c3,ps,xs,last,tt,rfl,htl,HL⟩:=hrel;have p0:=HL.o.box;have p1:=HL.o.b0;have p2:=HL.o.b1;have p3:=HL.o.b2;have hlt:=HL.o.st.lt;have HWr:=@Aa (Below w0 w0 wr) (HW.o.trans (HL.o.bel.mono HW.o.size));have HT:=Aa (HH.o.tag tt wr HWr.o aH);have Hfld:=Aa (HH.o.fld tt);have Hsta:=Aa (HH.o.sta tt);obtain⟨o,ho⟩:∃o,G0 fs tt=o:=⟨_,rfl⟩
   rw[ho]at HT Hfld Hsta;have Ho:=Aa ho;clear ho L0;go_wp2_with fail;refine HT.o.mono ?_;rintro e w5 hp;obtain⟨n,a,b,c,r,rfl,hF,hb5⟩:=hp.q;have HF:=Aa hF;have HL5:=Aa (HL.o.after hb5);have HW5:=Aa (HWr.o.trans (hb5.mono HWr.o.size));clear hb5 hp hF p0 p1 p2 p3 hlt;go_upto_region 5 with fail
   obtain⟨W6,hW6⟩:∃W6,W6=w5.alloc (.cells #[(n:Int),a,.string ⟨b.toArray⟩,c] 157):=⟨_,rfl⟩
   rw[<-hW6];have HL6:=@Aa (Qhw w xv (.int .u8 82) nm (.slice A9 fs.length c9) kb (.string ⟨#[82]⟩) S R fs z W6 (.slice A2 ps.length c2) (.slice A3 xs.length c3) ps xs last tt) (by rw[hW6];exact HL5.o.after ((Ao _ _).alloc (An _) _));have HW6:=@Aa (Below w0 w0 W6) (by rw[hW6];exact HW5.o.alloc HW5.o.size _)
   have Hrg:=Aa (show W6.rangeAt w5 0 [(n:Int),a,.string ⟨b.toArray⟩,c]from by
    rw[hW6];intro j u hu;rw[World.cell?_alloc_new];simpa using hu)
   have hBl:w5.heap.size<W6.heap.size:=by rw[hW6];simp
   have hBb:w.heap.size+3<=w5.heap.size:=HL5.o.st.bs;clear hW6 HL5 HW5 HWr HT;generalize w5.heap.size=B at *;go_cut [76]from 41 to 77 (fun bt wx=>∃kk,wx=W6.drewN kk/\((bt=.bool true/\q=none)\/(bt=.bool false/\∃f q1,o=some (f,61::q1)/\last<f.tag)))
   case first=>
    have y0:W6.cell? (B,0)=(n:Int):=by simpa using Ab Hrg.o 0 rfl
    have c2f:=HL6.o.st.c2;have hz6:=HL6.o.st.lt;cases o with
    |none=>
     have HN:=@Aa (q=none) (by rw[HQ2.o,HL6.o.rs.tagN Ho.o]);simp only[Option.isSome_none];go_quiet (fail)
     go_wp2_with fail;go_meet
     exact lH
    |some y=>
     obtain⟨f,q0⟩:=y;obtain⟨rfl,rfl,rfl,rfl,rfl⟩:=HF.o.2.2 f q0 rfl;simp only[Option.isSome_some];have hf1:=(Hfld.o f r rfl).2.2;cases r with
     |nil=>
      have HN:=@Aa (q=none) (by rw[HQ2.o,HL6.o.rs.sign Ho.o rfl]);go_quiet (fail)
      go_wp2_with fail;go_meet
      exact lH
     |cons c9' q1=>
      by_cases h61:c9'=61
      ·subst h61;have t61:((((61:UInt8).toNat:Nat):Int) != 61)=false:=rfl;rcases List.eq_nil_or_concat ps with hps|⟨ps',p',hps⟩
       ·subst hps;have hla:=HL6.o.rs.la;go_quiet (fail)
        go_wp2_with fail;go_meet
        exact⟨_,rfl,.inr ⟨rfl,f,q1,rfl,by simp at hla;omega⟩⟩
       rw[List.concat_eq_append]at hps;subst hps;have hla:=HL6.o.rs.la;simp at hla;subst hla;obtain⟨b2,rfl,e2,hb2,x2⟩:=Ee.last (gs:=ps'.map fun p=>p.1.tag) (g:=p'.1.tag) (by simpa using HL6.o.st);simp only[List.length_map]at x2 e2;have el:(ps'++[p']).length=ps'.length+1:=aK;have hlo:=HL6.o.rs.lo;have hhi:=HL6.o.rs.hi;rw[el]at hlo c2f;try simp only[el]
       have wl:IntKind.i64.wrap (((ps'.length+1:Nat):Int) - 1)=(ps'.length:Int):=by rw[show (((ps'.length+1:Nat):Int) - 1)=(ps'.length:Int)by omega];exact IntWalk.i64_in _ aH
       by_cases hle:f.tag<=p'.1.tag
       ·have HN:=@Aa (q=none) (by rw[HQ2.o,HL6.o.rs.ord Ho.o hle]);have tle:decide ((f.tag:Int)<=(p'.1.tag:Int))=true:=aD aH;have tle2:(f.tag:Int)<=(p'.1.tag:Int):=aH;clear hle;go_quiet (fail)
        go_wp2_with fail;go_meet
        exact lH
       have tle:decide ((f.tag:Int)<=(p'.1.tag:Int))=false:=aC aH;have tle2:¬((f.tag:Int)<=(p'.1.tag:Int)):=aH;go_quiet (fail)
       go_wp2_with fail;go_meet
       exact⟨_,rfl,.inr ⟨rfl,f,q1,rfl,by omega⟩⟩
      have HN:=@Aa (q=none) (by rw[HQ2.o,HL6.o.rs.sign Ho.o (Dm h61 _)]);have t61:((c9'.toNat:Int) != 61)=true:=by have:=Ap h61;simpa using this
      clear h61;go_quiet (fail)
      go_wp2_with fail;go_meet
      exact lH
   case rest=>
    obtain⟨kk,hwx,⟨rfl,hqn⟩|⟨rfl,f,q1,ho,hlast⟩⟩:=hcut
    ·have HN:=Aa hqn;clear hqn;subst hwx;go_wp2_with fail;refine aF (v:=.tuple #[.pointer none,tt,.bool false]) (by simp[results,results206,go_sem]) rfl ?_;exact Bx.no HN.o rfl (HL6.o.bel.trans (below_drewN (Ao _ _) _))
    subst ho;obtain⟨rfl,rfl,rfl,rfl,rfl⟩:=HF.o.2.2 f _ rfl;simp only[Option.isSome_some];obtain⟨W7,rfl⟩:∃W7:World,W7=wc:=⟨_,rfl⟩
    have hbk:Below W6 W6 W7:=by rw[hwx];exact below_drewN (Ao _ _) _
    have HL7:=Aa (HL6.o.after hbk);have HW7:=Aa (HW6.o.trans (hbk.mono HW6.o.size));have Hrg7:=Aa (Ah Hrg.o hBl hbk);have hB7:=ac hBl hbk.size;clear hbk hwx HL6 HW6 Hrg hBl;obtain⟨hkf,hkfl,hf1,hf2⟩:=Hfld.o f _ rfl;have hrl:=HF.o.1;simp only[List.length_cons]at hrl;have Hhk:=Aa hkf;have HCR:=Aa (HH.o.rd f.kind q1 W7.drew hkf HW7.o.drew aH);have y2:W7.cell? (B,2)=some (.string ⟨(Ax f.kind).toArray⟩):=by simpa using Ab Hrg7.o 2 rfl
    have p0:=HL7.o.box;obtain⟨oq,hoq⟩:∃oq,R f.kind q1=oq:=⟨_,rfl⟩
    rw[hoq]at HCR;have Hoq:=Aa hoq;obtain⟨kf,hkfe⟩:∃kf,Ax f.kind=kf:=⟨_,rfl⟩
    have Hkfe:=Aa hkfe;rw[hkfe]at y2 HCR hkfl;clear hoq hkf hkfe;go_upto_region 7 with fail
    have hl0:w.heap.size<W7.heap.size:=by have:=HL7.o.st.lt;omega
    refine rgT (SrQ W7.drew S f.kind oq) 7 8 (fun W vp vr vk h=>h.1) ?_;iterate 2 refine sq ?_
    refine sqS (.string ⟨q1.toArray⟩) ?_;iterate 4 refine sq ?_
    refine sqK HCR.o ?_;refine sqM ?_;iterate 3 refine sqP ?_
    iterate 3 refine sqA ?_
    intro l u W8 hl _ hR;obtain⟨vp,vr,vk,hq5,ua,ub,ue⟩:=RK.fin hR hl aJ aJ;simp only[Nat.reduceAdd]at ua ub ue;simp only[ua,ub,ue];clear hR hl ua ub ue;clear y2 p0;have HKt:=Aa (fun c h=>(HL7.o.st.tags.lt c h).2);have HKr:=Aa (fun c h=>(HL7.o.st.row.lt c h).2);have HKb:=Aa HL7.o.st.bs;have hb8:=(Ao W7.heap.size W7).drew.trans (hq5.1.mono aK);have HL8:=Aa (HL7.o.after hb8);have HW8:=Aa (HW7.o.trans (hb8.mono HW7.o.size));have Hrg8:=Aa (Ah Hrg7.o hB7 hb8);have hB8:=ac hB7 hb8.size;have hzz:=hb8.size;obtain⟨_,hm⟩:=hq5;clear hb8 HL7 HW7 Hrg7 HCR;cases oq with
    |none=>
     obtain⟨⟨q0,rfl⟩,⟨r0,rfl⟩,rfl⟩:=hm;have HN:=@Aa (q=none) (by rw[HQ2.o,HL8.o.rs.rd Ho.o (Bv _ _) Hoq.o]);go_upto_region 8 with fail
     go_quiet (fail)
     go_wp2_with fail;refine aF (v:=.tuple #[.pointer none,tt,.bool false]) (by simp[results,results206,go_sem]) rfl ?_;exact Bx.no HN.o rfl (HL8.o.bel.trans (below_drewN (Ao _ _) _))
    |some y=>
     obtain⟨v,r1⟩:=y;obtain⟨⟨b8,rfl,hsv⟩,rfl,rfl⟩:=hm;have Hs8:=Aa hsv;have hr1:=HH.o.len _ _ _ _ Hhk.o Hoq.o;have HO:=Aa (fun W' (hb:Below W8 W8 W')=>HH.o.outp f.kind q1 v r1 _ b8 W' Hhk.o Hoq.o aH (hsv.after hb));have HS:=Aa (fun W' (hb:Below W8 W8 W')=>Hsta.o f _ W' rfl (HW8.o.trans (hb.mono HW8.o.size)));rw[Hkfe.o]at HS;have P0:=Aa HL8.o.box;have hz8:=HL8.o.st.lt;have hlw:w.heap.size<W8.heap.size:=aH;have Hrg9:=Hrg8;rw[Hkfe.o]at Hrg9;have Y0:=@Aa (W8.cell? (B,0)=(f.tag:Int)) (by simpa using Ab Hrg9.o 0 rfl);have Y1:=@Aa (W8.cell? (B,1)=some (.string ⟨f.name.toArray⟩)) (by simpa using Ab Hrg9.o 1 rfl);have Y2:=@Aa (W8.cell? (B,2)=some (.string ⟨kf.toArray⟩)) (by simpa using Ab Hrg9.o 2 rfl);have Y3:=@Aa (W8.cell? (B,3)=some (.string ⟨f.given.toArray⟩)) (by simpa using Ab Hrg9.o 3 rfl);obtain⟨pv,hpv⟩:∃pv,Az v=pv:=⟨_,rfl⟩
     obtain⟨ov,hov⟩:∃ov,G9 S f=ov:=⟨_,rfl⟩
     rw[hpv]at HO;rw[hov]at HS;have Hpv:=Aa hpv;have Hov:=Aa hov;clear hsv hpv hov Hrg9;go_upto_region 8 with fail
     go_cut [114]from 90 to 115 (fun bt wx=>Hid (Below W8 W8 wx)/\((bt=.bool true/\q=none)\/(bt=.bool false/\∃c8 z8,r1=c8::z8/\(c8=44\/c8=125)/\Az v≠G9 S f)))
     case first=>
      have y0:=Y0.o;have y1:=Y1.o;have y2:=Y2.o;have y3:=Y3.o;have p0:=P0.o;refine rgB ?_;iterate 4 refine sq ?_
      refine sqC HO.o ?_;iterate 3 refine sq ?_
      refine sqC HS.o ?_;clear y0 y1 y2 y3 p0;by_cases hpo:pv=ov
      ·have HN:=@Aa (q=none) (by rw[HQ2.o,HL8.o.rs.sam Ho.o (Bv _ _) Hoq.o (by rw[Hpv.o,Hov.o];exact hpo)]);have hpe:(pv == ov)=true:=by simpa using hpo
       clear hpo;iterate 16 refine sq ?_
       refine dnB fun wx HX=>?_;go_wp2_with fail;go_meet
       exact lI
      ·have hpe:(pv == ov)=false:=by simpa using hpo
       have Hne:=@Aa (Az v≠G9 S f) (by rw[Hpv.o,Hov.o];exact hpo);clear hpo;cases r1 with
       |nil=>
        have HN:=@Aa (q=none) (by rw[HQ2.o,HL8.o.rs.sep Ho.o (Bv _ _) Hoq.o rfl rfl]);iterate 16 refine sq ?_
        refine dnB fun wx HX=>?_;go_wp2_with fail;go_meet
        exact lI
       |cons c8 z8=>
        by_cases h44:c8=44
        ·subst h44;have t44:((((44:UInt8).toNat:Nat):Int) != 44)=false:=rfl;iterate 16 refine sq ?_
         refine dnB fun wx HX=>?_;go_wp2_with fail;go_meet
         exact⟨HX,.inr ⟨rfl,44,z8,rfl,.inl rfl,Hne.o⟩⟩
        by_cases h125:c8=125
        ·subst h125;have t44:((((125:UInt8).toNat:Nat):Int) != 44)=true:=rfl;have t125:((((125:UInt8).toNat:Nat):Int) != 125)=false:=rfl;iterate 16 refine sq ?_
         refine dnB fun wx HX=>?_;go_wp2_with fail;go_meet
         exact⟨HX,.inr ⟨rfl,125,z8,rfl,.inr rfl,Hne.o⟩⟩
        have HN:=@Aa (q=none) (by rw[HQ2.o,HL8.o.rs.sep Ho.o (Bv _ _) Hoq.o (Dm h44 _) (Dm h125 _)]);have t44:((c8.toNat:Int) != 44)=true:=by have:=Ap h44;simpa using this
        have t125:((c8.toNat:Int) != 125)=true:=by have:=Ap h125;simpa using this
        clear h44 h125;iterate 16 refine sq ?_
        refine dnB fun wx HX=>?_;go_wp2_with fail;go_meet
        exact lI
     case rest=>
      obtain⟨Hbc,⟨rfl,hqn⟩|⟨rfl,c8,z8,rfl,hc8,hne⟩⟩:=hcut
      ·have HN:=Aa hqn;clear hqn;have Hbe:=Aa (HL8.o.bel.trans (Hbc.o.mono HL8.o.bel.size));go_wp2_with fail;refine aF (v:=.tuple #[.pointer none,tt,.bool false]) (by simp[results,results206,go_sem]) rfl ?_;exact Bx.no HN.o rfl Hbe.o
      obtain⟨W9,rfl⟩:∃W9:World,W9=wc:=⟨_,rfl⟩
      have Hne:=Aa hne;have HL9:=Aa (HL8.o.after Hbc.o);have hsz9:=Hbc.o.size;have Hs9:=Aa (Hs8.o.after Hbc.o);have HL9d:=Aa (HL9.o.after (Ao _ _).drew)
      have Hk9:=Aa (show Pg (w.heap.size+3) (.slice A2 ps.length c2) (.slice A3 xs.length c3) W9.drew (b8,Cd S f.kind v)from(Hs9.o.after (Ao _ _).drew).mono fun c hc _=>by
       have h1:W7.heap.size<=c:=by simpa using hc
       exact⟨ad HKb.o h1,fun e=>by have:=HKr.o c e;omega,fun e=>by have:=HKt.o c e;omega⟩)
      have Y9:=Aa ((Hbc.o.cell (p:=⟨B,0,none⟩) hB8).trans Y0.o);clear hne HO HS P0 Y0 Y1 Y2 Y3 HL8 Hs8 Hrg8;go_upto_region 10 with fail
      refine Jd [116,117,118,119,120,121,122,123,124,125,126,999]
       (fun ix v W=>match ix with|0=>v=(w,2,0)|1=>v=(w,2,0)|2=>v=(w,2,0)|3=>v=(w,2,2)|4=>v=.slice A2 ps.length c2|5=>v=B|6=>v=(f.tag:Int)|9=>v=(w,2,0)|10=>v=(w,2,2)|_=>True)
       (fun L U W=>Fr (w.heap.size+3) (w.heap.size+2) W9.drew kb (.string ⟨#[82]⟩) A2 ps.length c2 (.slice A3 xs.length c3) (ps.map fun p=>p.1.tag) xs [(b8,Cd S f.kind v)] f.tag (L 7) (L 8) (L 11) (U 7) (U 8) W) (Fr.start) ?_ ?_
      ·repeat (first|exact Ak.nil|(refine Ak.cons ?_ ?_;rotate_left))
       all_goals
        rintro L U W hL hpre HR Hdep K hK;first|(simp[Region.binds]at hpre;done)|simp[Region.binds]at hpre|clear hpre
       iterate 4
        ·exact hD
       ·have h8:L 8=false:=Bb Hdep.o 8 4 rfl hL;have x2:=((HR.o.be h8).cell (p:=⟨w.heap.size+2,2,none⟩) (by have:=HL9.o.st.lt;simp;omega)).trans ((aB _ _).trans HL9.o.st.c2);exact kL
       ·exact hD
       ·exact iL
       ·exact iI
       ·obtain⟨lv,uv⟩:L 4=true/\U 4=.slice A2 ps.length c2:=by
         exact kY
        have l7:L 7=true:=by
         exact lE
        have h11:L 11=false:=Bb Hdep.o 11 8 rfl hL;obtain⟨hW,u7⟩:=HR.o.p1 l7 hL;subst hW;rw[if_pos cr];have hlo:=HL9.o.rs.lo;have hhi:=HL9.o.rs.hi;have hgl:(ps.map fun p=>p.1.tag).length=ps.length:=aK;refine Fp W9.drew (.tmp 120) (.tmp 123) 32 rfl (w.heap.size+3) 3 (.int .i64 0) 1 8 underlying32 Zb rfl aJ [(f.tag:Int)] rfl bh (.slice A2 ps.length c2) ps.length (De (ps.map fun p=>p.1.tag)) uv u7 (by rw[<-hgl];exact hgl ▸ HL9d.o.st.tags) aU aH HL9d.o.st.bs ?_;intro v6 w6 hown hg hwh;obtain⟨hn,A6,c6,e6⟩:=Fr.put8 (u7:=U 7) (ks:=[(b8,Cd S f.kind v)]) l7 h11 HL9d.o.st (fun x hx=>by rw[aq]at hx;subst hx;exact Hk9.o) fx hg hwh;exact lG
       iterate 2
        ·exact hD
       ·exact iy
      ·rintro L U W hL hφ hR;clear hφ;obtain⟨A6,c6,hS6,hb6,hk6⟩:=hR.p3 (hL 11 aJ);have hk6:=hk6 _ (aq.2 rfl);have eg:(ps.map fun p=>p.1.tag)++[f.tag]=(ps++[(f,v)]).map fun p=>p.1.tag:=aK;rw[eg]at hS6 hk6;simp only[List.length_map]at hS6 hk6;have HS6:=Aa hS6;have HK6:=Aa hk6;have hbw:Below (w.heap.size+2) W9 W:=(Ao _ _).drew.trans hb6;have HB6:=Aa (HL9.o.bel.trans (hbw.mono aH));have X0:=Aa ((hbw.cell (p:=⟨w.heap.size,0,none⟩) (by show w.heap.size<w.heap.size+2;omega)).trans HL9.o.box);have X1:=Aa ((hbw.cell (p:=⟨w.heap.size+1,0,none⟩) ee).trans HL9.o.b0);have X2:=Aa ((hbw.cell (p:=⟨w.heap.size+1,1,none⟩) ee).trans HL9.o.b1);have X3:=Aa ((hbw.cell (p:=⟨w.heap.size+1,2,none⟩) ee).trans HL9.o.b2);have s3:=hS6.c3;have s4:=hS6.lt;have hxl:xs.length<=200:=by have:=HL9.o.len;have:=HL9.o.rs.lo;have:=HL9.o.rs.hi;omega
       clear hR hL hb6 hS6 hk6 eg hbw Y9 Hs9;have hr8:=hr1;simp only[List.length_cons]at hr8;obtain⟨bb,h8,hbb⟩:∃bb,((c8.toNat:Int) == 125)=bb/\((bb=false/\c8=44)\/(bb=true/\c8=125)):=by
        rcases hc8 with rfl|rfl
        ·exact⟨false,rfl,.inl ⟨rfl,rfl⟩⟩
        exact⟨true,rfl,.inr ⟨rfl,rfl⟩⟩
       clear hc8;rcases hbb with⟨rfl,hc8⟩|⟨rfl,hc8⟩;all_goals
        have HC8:=Aa hc8;clear hc8;go_wp2_with (at_builtin;go_loud (refine Ff _ rfl _ _ 146 rfl (w.heap.size+3) 76 (.pointer none) 8 underlying146 So rfl W b8 rfl rfl (.slice A3 xs.length c3) xs.length (Dx (xs.map (·.1))) rfl rfl HS6.o.row aU aH HS6.o.bs ?_;intro v7 w7 hown7 hg7 hwh7;obtain⟨A7,c7,e7,hS7,hb7⟩:=HS6.o.push (x:=(b8,Cd S f.kind v)) HK6.o hown7 hg7 hwh7;subst e7;have HS7:=Aa hS7;have HB7:=Aa hb7;have r3:=hS7.c3;have f3:=hS7.bk.live 3;have hz7:=hS7.lt;clear hS7 hb7 hown7 hg7 hwh7))
        have hsc:Below (w.heap.size+2) W (w7.setCell ⟨w.heap.size+2,3,none⟩ (.slice A7 (xs++[(b8,Cd S f.kind v)]).length c7)):=(HB7.o.mono (show w.heap.size+2<=w.heap.size+3 by omega)).setCell (p:=⟨w.heap.size+2,3,none⟩) (An (w.heap.size+2)) _;have hcl:∀b o,b<w.heap.size+2->(w7.setCell ⟨w.heap.size+2,3,none⟩ (.slice A7 (xs++[(b8,Cd S f.kind v)]).length c7)).cell? ⟨b,o,none⟩=W.cell? ⟨b,o,none⟩:=fun b o hb=>hsc.cell (p:=⟨b,o,none⟩) hb;have Hbel:=Aa (HB6.o.trans (hsc.mono aH));have Z0:=Aa ((hcl _ 0 aH).trans X0.o);have Z1:=Aa ((hcl _ 0 aH).trans X1.o);have Z2:=Aa ((hcl _ 1 aH).trans X2.o);have Z3:=Aa ((hcl _ 2 aH).trans X3.o);have Hst:=Aa HS7.o.set3;have Hlen:=@Aa ((xs++[(b8,Cd S f.kind v)]).length=(ps++[(f,v)]).length) (by simp[HL9.o.len]);have Heq:=@Aa ((xs++[(b8,Cd S f.kind v)]).map (·.2)=(ps++[(f,v)]).map fun p=>Cd S p.1.kind p.2) (by simp[HL9.o.eq]);clear hsc hcl;have el:(xs++[(b8,Cd S f.kind v)]).length=xs.length+1:=aK;rw[el]at Hbel Hst Z0 Z1 Z2 Z3
       ·have Hrs:=Aa (HL9.o.rs.go Ho.o (Bv _ _) hlast Hoq.o Hne.o (show Av 44 (c8::z8)=some z8 from by rw[HC8.o];exact Bv _ _) aH);have el2:(ps++[(f,v)]).length=ps.length+1:=aK;go_roundw
        case rel=>exact⟨A6,c6,A7,c7,ps++[(f,v)],xs++[(b8,Cd S f.kind v)],f.tag,z8,rfl,by omega,⟨Hbel.o,by rw[el];exact Hst.o,Z0.o,Z1.o,Z2.o,Z3.o,Hlen.o,Heq.o,Hrs.o⟩⟩
        case measure=>simp[S1,ByteArray.size];omega
       obtain⟨hfi,hfd⟩:=HL9.o.rs.fin Ho.o (Bv _ _) hlast Hoq.o Hne.o (show Av 44 (c8::z8)=none from by rw[HC8.o];exact Dm aJ _) (show Av 125 (c8::z8)=some z8 from by rw[HC8.o];exact Bv _ _);have HY:=@Aa (q=some (.mk 82 [] 0 ((ps++[(f,v)]).map Dk),z8)) (by rw[HQ2.o,hfi]);refine aF (v:=.tuple #[(w,2,0),.string ⟨z8.toArray⟩,.bool true]) (by simp[results,results206,go_sem]) rfl ?_;rw[HY.o];refine⟨⟨w.heap.size+2,rfl,?_⟩,Hbel.o⟩;rw[Hsv.o _ hfd,<-Heq.o];have hlo:=HL9.o.rs.lo;have hhi:=HL9.o.rs.hi;have hd9:=Hst.o.done (kind:=kb) (text:=[82]) aM aM;exact hd9.mono fun c1 hc _=>by have:w.heap.size+2<=c1:=hc;show w.heap.size<=c1;omega
end
end Go.Proofs.YtmmhmlmfhpfgbaaGreatDoor
