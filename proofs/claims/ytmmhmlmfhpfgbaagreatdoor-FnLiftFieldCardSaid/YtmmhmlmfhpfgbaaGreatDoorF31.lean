/- Texts joined. Conditions: as each theorem names them. -/
import Derived.Deep.CutRange
import Derived.Deep.DeepCutAuto
import Derived.Test.YtmmhmlmfhpfgbaaGreatDoorF29
set_option maxRecDepth 100000
set_option maxHeartbeats 32000000
set_option linter.unusedVariables false
set_option linter.unusedSimpArgs false
namespace Go.Proofs.YtmmhmlmfhpfgbaaGreatDoor
open Go.RowKit Go.Proofs.Tryz
section
attribute [local go_sem] Qoe Qnf Qmu Qk2 ByteArray.mk_append_mk
structure S5(S:List Ty)(N B:Nat)(fs:List Fd)(k:Nat)(ps:List (Fd × Vl)):Prop where
 at_:∀r∈ps,∃i,i<k/\fs[i]?=some r.1
 ok:∀r∈ps,Ha S N r.1.kind r.2
 ne:∀r∈ps,Az r.2≠G9 S r.1
 le:∀r∈ps,(Az r.2).length<=B
 pw:ps.Pairwise fun a b=>a.1.tag<b.1.tag
 ln:ps.length<=k
section
variable {S:List Ty} {N B:Nat} {fs:List Fd} {k:Nat} {ps:List (Fd × Vl)}
theorem S5.nil:S5 S N B fs 0 []:=⟨by simp,by simp,by simp,by simp,.nil,by simp⟩
theorem S5.skip(h:S5 S N B fs k ps):S5 S N B fs (k+1) ps:=
 ⟨fun r hr=>by obtain⟨i,h1,h2⟩:=h.at_ r hr;exact⟨i,by omega,h2⟩,h.ok,h.ne,h.le,h.pw,by have:=h.ln;omega⟩
theorem S5.add(h:S5 S N B fs k ps)(hk:k<fs.length)(hpw:fs.Pairwise fun a b=>a.tag<b.tag){v:Vl}(h1:Ha S N fs[k].kind v)(h2:Az v≠G9 S fs[k])(h3:(Az v).length<=B):S5 S N B fs (k+1) (ps++[(fs[k],v)]):=by
 have key:∀{P:Fd × Vl->Prop},(∀r∈ps,P r)->P (fs[k],v)->∀r∈ps++[(fs[k],v)],P r:=fun ha hb r hr=>by
  rcases af.1 hr with hr|hr
  ·exact ha r hr
  rw[aq]at hr;subst hr;exact hb
 refine⟨key (fun r hr=>by obtain⟨i,h1,h2⟩:=h.at_ r hr;exact⟨i,by omega,h2⟩) ⟨k,by omega,List.getElem?_eq_getElem hk⟩,key h.ok h1,key h.ne h2,key h.le h3,?_,by have:=h.ln;simp;omega⟩;rw[List.pairwise_append];refine⟨h.pw,List.pairwise_singleton _ _,fun a ha b hb=>?_⟩;rw[aq]at hb;subst hb;obtain⟨i,hi,e⟩:=h.at_ a ha;obtain⟨hil,e⟩:=List.getElem?_eq_some_iff.1 e;have:=(List.pairwise_iff_getElem.1 hpw) i k hil hk hi;rw[e]at this;exact this
theorem S5.mem(h:S5 S N B fs k ps):∀r∈ps,r.1∈fs:=fun r hr=>by
 obtain⟨i,_,e⟩:=h.at_ r hr;obtain⟨hil,e⟩:=List.getElem?_eq_some_iff.1 e;rw[<-e];exact ae hil
theorem S5.len(h:S5 S N B fs k ps)(h200:∀f∈fs,f.tag<=200)(hk:k<=8):(Az (.mk 82 [] 0 (ps.map Dk))).length<=8*B+100:=by
 have key:∀(qs:List (Fd × Vl)),(∀r∈qs,r.1.tag<=200/\(Az r.2).length<=B)->Dh (qs.map fun r=>Az (Dk r))<=qs.length*(B+5):=by
  intro qs;induction qs with
  |nil=>intro _;simp[Dh]
  |cons r qs ih=>
   intro hq;have h1:=ih fun x hx=>hq x (by simp[hx]);obtain⟨h2,h3⟩:=hq r aK;have h4:(Ba r.1.tag).length<=3:=Da 2 _ aH;have h5:=Ja r;rw[ay,D7,List.length_cons,Nat.succ_mul];omega
 have h1:=key ps fun r hr=>⟨h200 _ (h.mem r hr),h.le r hr⟩
 have h2:ps.length*(B+5)<=8*(B+5):=Nat.mul_le_mul_right _ (by have:=h.ln;omega);rw[Kl,List.length_cons,ah,Bw];simp only[List.length_singleton];omega
end
theorem Fg.nostr{w:World}{g p b o:Nat}{x:ByteArray}(h:Fg w g p)(hc:w.cell? ⟨b,o,none⟩=some (.string x)):¬(b=g):=by
 rintro rfl;obtain⟨A,n,c,l,hh,_⟩:=h;match o with
 |0=>simp[World.cell?,hh]at hc
 |1=>simp[World.cell?,hh]at hc
 |o+2=>simp[World.cell?,hh]at hc
theorem Qcq{a b c:World}{g n:Nat}(h:a.grownBy b (some g))(hb:Below n b c)(hn:a.heap.size<=n):a.grownBy c (some g):=
 ⟨hb.os.trans h.os,hb.tape.trans h.tape,hb.output.trans h.output,ad h.size hb.size,fun k hk hne=>(hb.block k aH).trans (h.block k hk hne)⟩
theorem Qm3(xs:List (Ty × Value))(A0:Option Addr)(c0:Nat)(k:Kd)(hk:Ck k)(hsg:k.signs=[])(hbs:k.base=[64])(nm:List UInt8)(fs:List Fd)(A9:Option Addr)(c9:Nat)(hx:Dy xs k.name=some (⟨82,nm,fs⟩,.slice A9 fs.length c9))(hsco:G7 (Ad xs))(htg:∀f∈fs,Au fs f.tag=some f)(h200:∀f∈fs,f.tag<=200)(hpw:fs.Pairwise fun a b=>a.tag<b.tag)
  (hfk:∀f∈fs,Ck f.kind/\B6 (Ad xs) f.kind/\f.given.length<=1000) (hn8:fs.length<=8) (d:Int) (hd:-1000<=d) (hd2:d<=1000) (N B:Nat) (hB:100<=B) (hB2:B<=100000000) (HH:0<d->∀f∈fs,Vx xs (.slice A0 xs.length c0) f.kind (d - 1) N B):DtC xs (.slice A0 xs.length c0) k d (N+1) (8*B+100):=by
 intro g p w hsc hR hp;have hgl:=hR.lt;have HR:=Aa hR;have HSc:=Aa hsc
 have Hr:=Aa (show ∀W,Gb W (.slice A0 xs.length c0) xs->Calls prog 101 #[.slice A0 xs.length c0,.string ⟨(Ax k).toArray⟩] W fun e w'=>e=.returned (.tuple #[.agg #[.int .u8 82,nm,.slice A9 fs.length c9],.bool true])/\Below W W w' from fun W hW=>by
  have h:=Ey (.slice A0 xs.length c0) xs k W hW hk;rw[show Jq xs k=some (⟨82,nm,fs⟩,.slice A9 fs.length c9)from by unfold Jq;rw[if_pos ⟨hsg,hbs⟩];exact hx]at h;exact h)
 have HFd:=@Aa (∀W,Gb W (.slice A0 xs.length c0) xs->Dq W (.slice A9 fs.length c9) fs) (fun W hW=>by obtain⟨_,_,_,_,_,hf⟩:=hW;exact hf _ (Cp hx).1);have hft:=(Cp hx).2.2;have hkl:(Ax k).length<=100:=cd
 have Hfin:=Aa (show ∀(n:Nat) ps,S5 (Ad xs) N B fs n ps->n<=8->Ha (Ad xs) (N+1) k (.mk 82 [] 0 (ps.map Dk))/\(Az (.mk 82 [] 0 (ps.map Dk))).length<=8*B+100/\Cd (Ad xs) k (.mk 82 [] 0 (ps.map Dk))=.mk (Ax k) [82] (ps.map fun r=>r.1.tag) (ps.map fun r=>Cd (Ad xs) r.1.kind r.2)from fun n ps h hn=>
  ⟨Ha.rcd hsg hbs hft rfl (fun r hr=>htg _ (h.mem r hr)) h.ok h.ne h.pw,h.len h200 hn,by
   rw[Qs];congr 1
   exact List.map_congr_left fun r hr=>by rw[Ez hft (htg _ (h.mem r hr))]⟩)
 have Hstd:=Aa (fun f (hf:f∈fs) W (hW:Gb W (.slice A0 xs.length c0) xs)=>Mr (.slice A0 xs.length c0) xs hsco f W hW (hfk f hf).1 (hfk f hf).2.1 (hfk f hf).2.2);have Hout:=Aa (fun f (hf:f∈fs) v (hv:Ha (Ad xs) N f.kind v) (hl:(Az v).length<=B) P b W (hW:Fl P W b (Cd (Ad xs) f.kind v))=>Yw hsco.1.1 P N f.kind v hv (hfk f hf).1 b W hW (ad hl aH));have Hpw:=Aa hpw;unfold Vx at HH;generalize Ax k=kb at *;obtain⟨xv,hxv⟩:∃xv:Value,xv=.slice A0 xs.length c0:=⟨_,rfl⟩
 rw[<-hxv]at HSc Hr HFd HH Hstd ⊢;have HH0:=Aa HH;clear HH hR hsc hk hsg hbs hx hft htg h200 hfk hxv hpw;have Hsco:=Aa hsco;clear hsco;go_enter func167,ntmps167;go_wp2_with fail;refine(Hr.o _ HSc.o).mono ?_;rintro e w1 ⟨rfl,hb1⟩;have HR1:=Aa (HR.o.below hb1);have Hb1:=Aa hb1;have hz1:=hb1.size;clear hb1;have hcv:=fun W=>Kz W (w1.heap.size+1) 1 82;obtain⟨W3,hW3⟩:∃W3,W3=((w1.alloc (.cells #[.int .u8 82,nm,.slice A9 fs.length c9] 143)).alloc (.cells #[.int .u8 82] 5)).alloc (.cells #[kb,([82]:List UInt8),.slice none 0 0,.slice none 0 0] 148):=⟨_,rfl⟩
 have hz3:W3.heap.size=w1.heap.size+3:=fr;have b13:Below w1 w1 W3:=gK
 have HS3:=Aa (show Ee (w1.heap.size+3) (w1.heap.size+2) W3 kb ([82]:List UInt8) (.slice none 0 0) (.slice none 0 0) (.slice none 0 0) (.slice none 0 0) [] []from by
  have:=Ee.new (W:=(w1.alloc (.cells #[.int .u8 82,nm,.slice A9 fs.length c9] 143)).alloc (.cells #[.int .u8 82] 5)) (T:=148) kb ([82]:List UInt8);rw[<-hW3]at this;simpa using this)
 have HR3:=Aa (HR1.o.below b13);have Hg3:=@Aa (w.grownBy W3 (some g)) (Cc (Hb1.o.trans (b13.mono Hb1.o.size)) _);have HX3:=@Aa (Gb W3 xv xs) (HSc.o.below (Hb1.o.trans (b13.mono Hb1.o.size)));have X2:=@Aa (W3.cell? (w1,2)=some (.slice A9 fs.length c9)) fD;have Hw3:=Aa hW3;clear hW3 b13 HR1;go_upto_region 14 with fail
 rw[<-Hw3.o];clear hcv Hw3;go_wp2_with fail;go_loopw [13] (fun i wr=>∃(n q:Nat) (A2:Option Addr) (c2:Nat) (A3:Option Addr) (c3:Nat) (ps:List (Fd × Vl)) (xk:List (Nat × SV)),i=(n:Int)/\n<=fs.length/\q<=p+n*(B+1)/\Hid (S5 (Ad xs) N B fs n ps)/\Hid (xk.map (·.2)=ps.map fun r=>Cd (Ad xs) r.1.kind r.2)/\Hid (Fg wr g q)/\Hid (w.grownBy wr (some g))/\Hid (Ee (w1.heap.size+3) (w1.heap.size+2) wr kb ([82]:List UInt8) (.slice A2 ps.length c2) (.slice A2 ps.length c2) (.slice A3 xk.length c3) (.slice A3 xk.length c3) (ps.map fun r=>r.1.tag) xk)/\Hid (wr.cell? (w1,2)=some (.slice A9 fs.length c9))) (fun i _=>fs.length - (intOf i).toNat)
 case atStart=>exact⟨0,p,none,0,none,0,[],[],rfl,ag _,by omega,S5.nil,rfl,HR3.o,Hg3.o,HS3.o,X2.o⟩
 case round=>
  obtain⟨n,q,A2,c2,A3,c3,ps,xk,rfl,hn,hq,hvs,heq,hRr,hgr,hSr,hx2⟩:=hrel;have hXr:=Aa (HSc.o.grown HR.o hgr.o);have hn0:(0:Int)<=(n:Int):=aH;have hqm:n*(B+1)<=8*(B+1):=Nat.mul_le_mul_right _ aH;have hqm7:n<fs.length->n*(B+1)<=7*(B+1):=fun h=>Nat.mul_le_mul_right _ aH;have hxp:xk.length=ps.length:=by have:=congrArg List.length heq.o;simpa using this
  have hpl:=hvs.o.ln;have hxk8:xk.length<=8:=aH;have Hxp:=Aa hxp;clear hxp;have hzr:w1.heap.size+3<=wr.heap.size:=hSr.o.bs;have x2:=hx2.o;by_cases hlt:n<fs.length;rotate_left
  ·have tt:decide ((n:Int)<(fs.length:Int))=false:=aC aH
   have HQ:=Aa (show Jt (Ad xs) k (N+1) (8*B+100) w g p (.returned (w1,2,0)) wr from by
    obtain⟨f1,f2,f3⟩:=Hfin.o n ps hvs.o aH;refine⟨w1.heap.size+2,_,q,rfl,f1,f2,by omega,?_,hRr.o,hgr.o⟩;rw[f3,<-heq.o];exact(hSr.o.done (kind:=kb) (text:=[82]) aM aH).mono fun c hc _=>by omega)
   go_wp2_with fail;exact aF (v:=(w1,2,0)) (by simp[results,results167,go_sem]) rfl HQ.o
  have tt:decide ((n:Int)<(fs.length:Int))=true:=aD aH;by_cases hdp:0<d;rotate_left
  ·have td:decide ((0:Int)<d)=false:=aC hdp
   have HQ:=Aa (show Jt (Ad xs) k (N+1) (8*B+100) w g p (.returned (w1,2,0)) wr from by
    obtain⟨f1,f2,f3⟩:=Hfin.o n ps hvs.o aH;refine⟨w1.heap.size+2,_,q,rfl,f1,f2,by omega,?_,hRr.o,hgr.o⟩;rw[f3,<-heq.o];exact(hSr.o.done (kind:=kb) (text:=[82]) aM aH).mono fun c hc _=>by omega)
   go_wp2_with fail;exact aF (v:=(w1,2,0)) (by simp[results,results167,go_sem]) rfl HQ.o
  have td:decide ((0:Int)<d)=true:=aD hdp;obtain⟨A5,cc5,e5,hl5,hr5⟩:=HFd.o wr hXr.o;injection e5 with e5 _ e6;subst e5 e6;obtain⟨b5,o5,rfl,hb5,x50,x51,x52,x53⟩:=Dq.at_ hr5 hlt;have Hfm:=Aa (ae hlt);have Hadd:=Aa (fun v=>hvs.o.add (v:=v) hlt Hpw.o);have Hmn:=Aa (HH0.o hdp);have hqm8:=hqm7 hlt;have hwd:IntKind.i64.wrap (d - 1)=d - 1:=IntWalk.i64_in _ aH;have hni:(n:Int)<(fs.length:Int):=aH;have Hfe0:=@Aa (∃f,f=fs[n]) ⟨_,rfl⟩;obtain⟨f,hf⟩:=Hfe0.o;have Hfe:=Aa hf.symm;rw[<-hf]at x50 x51 x52 x53 Hfm Hadd;clear hf Hfe0;clear hr5;go_wp2_with fail;refine(Hmn.o f Hfm.o g q wr hXr.o hRr.o aH).mono ?_;rintro e w5 ⟨b6,v6,q6,rfl,k1,k2,k3,k4,k5,k6⟩;have hgB:g<w1.heap.size+2:=aH;have hz5:=k6.size;have HS5:=Aa (hSr.o.gr k6 hgB);have Hg5:=Aa (Ae hgr.o k6);have HX5:=Aa (HSc.o.grown HR.o Hg5.o);have K1:=Aa k1;have K2:=Aa k2;have K4:=Aa k4;have K5:=Aa k5;have HK5:=@Aa (Pg (w1.heap.size+3) (.slice A2 ps.length c2) (.slice A3 xk.length c3) w5 (b6,Cd (Ad xs) f.kind v6)) (k4.mono fun c hc _=>⟨by omega,fun e=>by have:=(hSr.o.row.lt c e).2;omega,fun e=>by have:=(hSr.o.tags.lt c e).2;omega⟩);have X25:=@Aa (w5.cell? (w1,2)=some (.slice (some ⟨b5,o5,none⟩) fs.length c9)) (k6.cell hx2.o (fun e=>by injection e with e;simp only at e;omega));have Hft5:=Aa (HFd.o w5 HX5.o);clear k1 k2 k4 k5 k6 x50 x51 x52 x53 x2;go_upto_region 18 with fail
  go_cut [118]from 82 to 143 (fun b14 wx=>∃bb:Bool,b14=.bool bb/\(bb=true->Az v6≠G9 (Ad xs) f)/\Hid (Fg wx g (q6+1))/\Hid (w5.grownBy wx (some g)))
  case first=>
   obtain⟨code,hRL⟩:=K5.o.known;have HPk:=Aa (fun W (h:N5 W g q6 code)=>Qcv g q6 code 3 W h aH aH aH);have x2:=X25.o;obtain⟨A7,c7,e7,hl7,hr7⟩:=Hft5.o;injection e7 with e7 _ e8;subst e7 e8;obtain⟨b7,o7,eA7,hb7,x50,x51,x52,x53⟩:=Dq.at_ hr7 hlt;injection eA7 with eA7;injection eA7 with e7 e8;subst e7 e8;rw[Hfe.o]at x50 x51 x52 x53;have hbg:=K5.o.nostr x51;have hwg:¬(w1.heap.size=g):=aH;have hw5:w1.heap.size<w5.heap.size:=aH;have HO:=Aa (fun W (hg:w5.grownBy W (some g))=>Hout.o f Hfm.o v6 K1.o K2.o _ b6 W (Fl.grown K4.o hg fun c hc e=>by injection e with e;have:wr.heap.size<=c:=hc;omega));have HS:=Aa (fun W (hg:w5.grownBy W (some g))=>Hstd.o f Hfm.o W (HX5.o.grown K5.o hg));unfold Gm at HO;unfold Fz at HS;have Hne:=@Aa ((Az v6 == G9 (Ad xs) f)=false->Az v6≠G9 (Ad xs) f) (fun h=>by simpa using h);generalize Az v6=pv at *;generalize G9 (Ad xs) f=ov at *;obtain⟨be,hbe⟩:∃be,(pv == ov)=be:=⟨_,rfl⟩
   rw[hbe]at Hne;generalize Xb code q6 3=y at *;clear hl7 hr7;by_cases hy:0<y
   ·have ty:decide ((0:Int)<(y:Int))=true:=aD aH;have tyi:(0:Int)<(y:Int):=aH;refine rgQ 1 hRL ?_;refine sq ?_;refine Qnt HPk.o ?_;iterate 3 refine sq ?_
    refine sqQ HO.o ?_;iterate 6 refine sq ?_
    refine sqQ HS.o ?_;iterate 2 refine sq ?_
    refine dnQ (fun W hW=>?_) aJ;go_wp2_with fail;go_meet
    exact⟨!be,rfl,fun h=>Hne.o aR,hW.o.rd.any,hW.o.gr⟩
   ·have ty:decide ((0:Int)<(y:Int))=false:=aC aH;have tyi:¬(0:Int)<(y:Int):=aH;refine rgQ 1 hRL ?_;refine sq ?_;refine Qnt HPk.o ?_;iterate 13 refine sq ?_
    refine dnQ (fun W hW=>?_) aJ;go_wp2_with fail;go_meet
    exact⟨false,rfl,fun h=>Bool.noConfusion h,hW.o.rd.any,hW.o.gr⟩
  case rest=>
   obtain⟨b14,rfl,hne,hR7,hgd⟩:=hcut;obtain⟨W,rfl⟩:∃W:World,W=wc:=⟨_,rfl⟩
   have hR7:=hR7.o;have hgd:=hgd.o;have hz7:=hgd.size;have HR7:=Aa hR7;have Hg7:=Aa (Ae Hg5.o hgd);have HS7:=Aa (HS5.o.gr hgd hgB);have HX7:=Aa (HSc.o.grown HR.o Hg7.o);have HK7:=@Aa (Pg (w1.heap.size+3) (.slice A2 ps.length c2) (.slice A3 xk.length c3) W (b6,Cd (Ad xs) f.kind v6)) (Fl.grown HK5.o hgd fun c hc e=>by injection e with e;have:=hc.1;omega);have X27:=Aa (hgd.cell X25.o (fun e=>by injection e with e;simp only at e;omega));have Hft7:=Aa (HFd.o W HX7.o);have hq7:q6+1<=p+(n+1)*(B+1):=by rw[Nat.succ_mul];omega
   clear hR7 hgd;cases b14 with
   |false=>
    go_wp2_with fail;go_roundw
    case rel=>exact⟨n+1,q6+1,A2,c2,A3,c3,ps,xk,by go_num,by omega,hq7,hvs.o.skip,heq.o,HR7.o,Hg7.o,HS7.o,X27.o⟩
    case measure=>simp[intOf];omega
   |true=>
    have Hne:=Aa (hne rfl);have Hvs9:=Aa (Hadd.o v6 K1.o Hne.o K2.o);clear hne;go_upto_region 19 with fail
    have HS7d:=Aa (HS7.o.after (Ao _ _).drew);have HK7d:=@Aa (Pg (w1.heap.size+3) (.slice A2 ps.length c2) (.slice A3 xk.length c3) W.drew (b6,Cd (Ad xs) f.kind v6)) (Fl.after HK7.o (Ao _ _).drew);obtain⟨A7,c7,e7,hl7,hr7⟩:=Hft7.o;injection e7 with e7 _ e8;subst e7 e8;obtain⟨b7,o7,eA7,_,y0,_,_,_⟩:=Dq.at_ hr7 hlt;injection eA7 with eA7;injection eA7 with e7 e8;subst e7 e8;rw[Hfe.o]at y0;have Hcel7:=Aa y0;clear y0 hl7 hr7;refine Bp [119,120,121,122,123,124,125,126,127,128,129,130,131,132,133,999] aN aN aN (fun u=>by dsimp only[Bt,Bq,List.set,am,Nat.reduceAdd])
     (fun ix v W=>match ix with|0=>v=(w1,2,0)|1=>v=(w1,2,0)|2=>v=(w1,2,0)|3=>v=(w1,2,2)|4=>v=.slice A2 ps.length c2|5=>v=(w1,2)|6=>v=.slice (some ⟨b5,o5,none⟩) fs.length c9|7=>v=(n:Int)|8=>v=.pointer (some ⟨b5,o5+n*4,none⟩)|9=>v=.pointer (some ⟨b5,o5+n*4,none⟩)|10=>v=(f.tag:Int)|13=>v=(w1,2,0)|14=>v=(w1,2,2)|_=>True)
     (fun L U W_=>Fr (w1.heap.size+3) (w1.heap.size+2) W.drew kb ([82]:List UInt8) A2 ps.length c2 (.slice A3 xk.length c3) (ps.map fun p=>p.1.tag) xk [(b6,Cd (Ad xs) f.kind v6)] f.tag (L 11) (L 12) (L 15) (U 11) (U 12) W_) (fun _ _=>True) (fun _ _ _ _ _ h=>h) (Fr.start) ?_ ?_
    ·repeat (first|exact Ak.nil|(refine Ak.cons ?_ ?_;rotate_left))
     all_goals
      rintro L U V hL hpre hR hun hdep K hK;have HR:=Aa hR;have Hdep:=Aa hdep;clear hun hdep hR;first|(simp[Region.binds]at hpre;done)|simp[Region.binds]at hpre|clear hpre
     iterate 4
      ·exact hD
     ·have h12:L 12=false:=(Bb Hdep.o 12 4 rfl hL)
      have x2:=((HR.o.be h12).cell (p:=⟨w1.heap.size+2,2,none⟩) (by have:=HS7.o.lt;simp;omega)).trans ((aB _ _).trans HS7.o.c2);exact kL
     ·exact hD
     ·have hW:=HR.o.p0 (Bb Hdep.o 11 10 rfl (Bb Hdep.o 10 9 rfl (Bb Hdep.o 9 8 rfl (Bb Hdep.o 8 6 rfl hL))));subst hW;have x2:=X27.o;exact kL
     ·exact hD
     ·obtain⟨u6,u7⟩:U 6=.slice (some ⟨b5,o5,none⟩) fs.length c9/\U 7=(n:Int):=by first|exact⟨hpre.1.2,hpre.2.2⟩|exact⟨hpre.2.2,hpre.1.2⟩|exact hpre|exact⟨hpre.1,hpre.2⟩
      simp only[u6,u7];go_simp;exact hK _ _ _ rfl Ac HR.o (by simp[Act.put,hpre,u6,u7])
     ·exact hD
     ·have hW:=HR.o.p0 (Bb Hdep.o 11 10 rfl hL);subst hW;have x2:=Hcel7.o;exact kL
     ·have h12:L 12=false:=(Bb Hdep.o 12 11 rfl hL)
      have h15:L 15=false:=(Bb Hdep.o 15 12 rfl h12)
      have hW:=HR.o.p0 hL;subst hW;go_simp;exact hK _ _ _ Ac Ac (Fr.put7 h12 h15) aI
     ·obtain⟨lv,uv⟩:L 4=true/\U 4=.slice A2 ps.length c2:=by
       exact kY
      have l11:L 11=true:=by
       exact lE
      have h15:L 15=false:=(Bb Hdep.o 15 12 rfl hL)
      obtain⟨hW,u11⟩:=HR.o.p1 l11 hL;subst hW;rw[if_pos cr];have hgl:(ps.map fun p=>p.1.tag).length=ps.length:=aK;refine Fp W.drew (.tmp 123) (.tmp 130) 32 rfl (w1.heap.size+3) 3 (.int .i64 0) 1 8 underlying32 Zb rfl aJ [(f.tag:Int)] rfl bh (.slice A2 ps.length c2) ps.length (De (ps.map fun p=>p.1.tag)) uv u11 (by rw[<-hgl];exact hgl ▸ HS7d.o.tags) aU aH HS7d.o.bs ?_;intro v8 w8 hown hg hwh;obtain⟨hn,A6,c6,e6⟩:=Fr.put8 (u7:=U 11) (ks:=[(b6,Cd (Ad xs) f.kind v6)]) l11 h15 HS7d.o (fun x hx=>by rw[aq]at hx;subst hx;exact HK7d.o) fx hg hwh;exact lG
     iterate 2
      ·exact hD
     ·have l12:L 12=true:=by first|exact hpre|exact hpre.1|exact hpre.2|exact hpre.1.1|exact hpre.1.2|exact hpre.2.1|exact hpre.2.2|exact hpre.2.1.1|exact hpre.2.1.2|exact hpre.2.2.1|exact hpre.2.2.2|exact hpre.2.2.2.1|exact hpre.2.2.2.2
      have l11:L 11=true:=Np (Bb Hdep.o 12 11 rfl) l12;obtain⟨A6,c6,e6,hS6,hb6,hk6⟩:=HR.o.p2 l12 hL;have x2:=hS6.c2;have x3:=hS6.bk.live 2;have x4:=hS6.lt;go_simp;exact hK undef _ _ Ac Ac (HR.o.put11 l11 l12 hL fA) cB
    rintro L U W6 hL hφ hR;clear hφ;obtain⟨A6,c6,hS6,hb6,hk6⟩:=hR.p3 (hL 15 aJ);have hc6:=hR.p4 (hL 15 aJ);have hk6:=hk6 _ (aq.2 rfl);have eg:(ps.map fun p=>p.1.tag)++[f.tag]=(ps++[(f,v6)]).map fun p=>p.1.tag:=aK;rw[eg]at hS6 hk6;simp only[List.length_map]at hS6 hk6;have hbw:Below (w1.heap.size+2) W W6:=(Ao _ _).drew.trans hb6;have HS6:=Aa hS6;have HK6:=Aa hk6;have HR6:=@Aa (Fg W6 g (q6+1)) (HR7.o.belowg (hbw.mono aH) hbw.size);have Hbw:=Aa hbw;have s3:=hS6.c3;have s4:=hS6.lt;have hxl:xk.length<=200:=aH;clear hR hL hb6 hS6 hk6 eg hbw hc6;go_wp2_with (at_builtin;go_loud (refine Ff _ rfl _ _ 146 rfl (w1.heap.size+3) 76 (.pointer none) 8 underlying146 So rfl W6 b6 rfl rfl (.slice A3 xk.length c3) xk.length (Dx (xk.map (·.1))) rfl rfl HS6.o.row aU aH HS6.o.bs ?_;intro v7 w7 hown7 hg7 hwh7;obtain⟨A7,c7,e7,hS7,hb7⟩:=HS6.o.push (x:=(b6,Cd (Ad xs) f.kind v6)) HK6.o hown7 hg7 hwh7;subst e7;have HS7:=Aa hS7;have HB7:=Aa hb7;have r3:=hS7.c3;have f3:=hS7.bk.live 3;have hz7:=hS7.lt;clear hS7 hb7 hown7 hg7 hwh7))
    have el:(xk++[(b6,Cd (Ad xs) f.kind v6)]).length=xk.length+1:=aK;have el2:(ps++[(f,v6)]).length=ps.length+1:=aK;have hsc:Below (w1.heap.size+2) W6 (w7.setCell ⟨w1.heap.size+2,3,none⟩ (.slice A7 (xk++[(b6,Cd (Ad xs) f.kind v6)]).length c7)):=(HB7.o.mono (show w1.heap.size+2<=w1.heap.size+3 by omega)).setCell (p:=⟨w1.heap.size+2,3,none⟩) (An (w1.heap.size+2)) _;have HRf:=Aa (HR6.o.belowg (hsc.mono aH) hsc.size);have Hbf:=Aa (Hbw.o.trans hsc);have Hgf:=Aa (Qcq Hg7.o Hbf.o aH);have Hst:=Aa HS7.o.set3;have Heq:=@Aa ((xk++[(b6,Cd (Ad xs) f.kind v6)]).map (·.2)=(ps++[(f,v6)]).map fun r=>Cd (Ad xs) r.1.kind r.2) (by simp[heq.o]);rw[el]at HRf Hgf Hbf Hst;go_roundw
    case rel=>exact⟨n+1,q6+1,A6,c6,A7,c7,ps++[(f,v6)],xk++[(b6,Cd (Ad xs) f.kind v6)],by go_num,by omega,hq7,Hvs9.o,Heq.o,HRf.o,Hgf.o,by rw[el];exact Hst.o,(Hbf.o.cell (p:=⟨w1.heap.size,2,none⟩) (show w1.heap.size<w1.heap.size+2 by omega)).trans X27.o⟩
    case measure=>simp[intOf];omega
theorem Ha.mono{S:List Ty}{n m:Nat}{k:Kd}{v:Vl}(h:Ha S n k v)(hm:n<=m):Ha S m k v:=(Gz S n k v h m).2 (ad ((Gz S n k v h n).1 h) hm)
theorem Vx.mono{xs:List (Ty × Value)}{xv:Value}{k:Kd}{d:Int}{N B N' B':Nat}(h:Vx xs xv k d N B)(hN:N<=N')(hB:B<=B'):Vx xs xv k d N' B':=fun g p W h1 h2 hp=>
 (h g p W h1 h2 aH).mono (by rintro e w' ⟨b,v,q,e1,k1,k2,k3,k4,k5,k6⟩;exact⟨b,v,q,e1,k1.mono hN,by omega,by omega,k4,k5,k6⟩)
theorem Qb0(xs:List (Ty × Value))(A0:Option Addr)(c0:Nat)(k:Kd)(hsg:k.signs=[])(hbs:k.base=[64])(d:Int)(N B:Nat)(H:DtC xs (.slice A0 xs.length c0) k d N B):Vx xs (.slice A0 xs.length c0) k d N B:=by
 intro g p w hsc hR hp;have HR:=Aa hR;have HSc:=Aa hsc;obtain⟨r,hr⟩:∃r,Ax k=64::r:=⟨k.name++[59],by unfold Ax Bu;rw[hsg,if_pos hbs];rfl⟩
 unfold DtC at H;rw[hr]at H ⊢;have HC:=Aa H;obtain⟨xv,hxv⟩:∃xv:Value,xv=.slice A0 xs.length c0:=⟨_,rfl⟩
 rw[<-hxv]at HSc HC ⊢;clear H hR hsc hr hxv;go_enter func113,ntmps113;go_wp2_with fail;have hb:Below w w (w.alloc (.cells #[.string ⟨(64::r:List UInt8).toArray⟩,a6,.slice none 0 0,.slice none 0 0] 148)):=(Ao _ _).alloc (An _) _;refine(HC.o g p _ (HSc.o.below hb) (HR.o.below hb) hp).mono ?_;rintro e w2 ⟨b,v,q,rfl,k1,k2,k3,k4,k5,k6⟩;have HF:=@Aa (Jt (Ad xs) k N B w g p (.returned b) w2) ⟨b,v,q,rfl,k1,k2,k3,k4.mono fun c hc _=>by simp at hc;omega,k5,Ae (Cc hb _) k6⟩;clear k1 k2 k3 k4 k5 k6 hb;go_wp2_with fail;exact aF (v:=b) (by simp[results,results113,go_sem]) rfl HF.o
theorem Yu(xs:List (Ty × Value))(xv:Value)(k:Kd)(hsg:k.signs=[])(hbs:k.base=[110]\/k.base=[116]\/k.base=[102])(d:Int)(N:Nat):Vx xs xv k d (N+1) 100:=fun g p W _ hR hp=>by
 rcases hbs with h|h|h
 ·exact Qof _ k hsg h xv d N g p W hR aH
 ·exact Qom _ k hsg h xv d N g p W hR aH
 exact Qos _ k hsg h xv d N g p W hR aH
theorem Qbt{xs:List (Ty × Value)}(hsco:G7 (Ad xs))(hv:∀x∈xs,∃A c,x.2=.slice A x.1.fields.length c){n:List UInt8}{t:Ty}(h:Bk (Ad xs) n=some t):
  Fi t/\∃A c,Dy xs n=some (t,.slice A t.fields.length c):=by
 cases hx:Dy xs n with
 |none=>rw[G6,hx]at h;cases h
 |some x=>
  rw[G6,hx]at h;injection h with h;obtain⟨A,c,e⟩:=hv x (Cp hx).1;subst h;exact⟨hsco.1.1 _ (ap (Cp hx).1),A,c,by rw[<-e]⟩
section
variable (xs:List (Ty × Value)) (A0:Option Addr) (c0:Nat) (hsco:G7 (Ad xs)) (hv:∀x∈xs,∃A c,x.2=.slice A x.1.fields.length c)
include hsco hv
theorem Qn2{k:Kd}(hk:Ck k)(hsg:k.signs=[])(hbs:k.base=[64]){t:Ty}(ht:Bk (Ad xs) k.name=some t)(h9:t.sort=69)(d:Int)(hd:-1000<=d)(hd2:d<=1000)(N:Nat):Vx xs (.slice A0 xs.length c0) k d (N+1) 100:=by
 obtain⟨ty,A,c,hx⟩:=Qbt hsco hv ht;obtain⟨st,nm,fs⟩:=t;simp only at h9;subst h9;refine Qb0 xs A0 c0 k hsg hbs d _ _ (Qmr xs A0 c0 k hk hsg hbs nm fs A c hx (fun f hf=>Qu ty.2.2.1.2 hf) (fun f hf=>(ty.2.2.1.1 f hf).2.1) (fun f hf=>by rw[((ty.2.2.1.1 f hf).2.2.2.1 rfl).1];decide) (Nat.pos_of_ne_zero fun e=>?_) ty.2.2.2.1 d hd hd2 N);exact absurd (ty.2.2.2.2 (List.eq_nil_of_length_eq_zero e)) (show ¬(69:UInt8)=82 by decide)
theorem Qnr{k:Kd}(hk:Ck k)(hsg:k.signs=[])(hbs:k.base=[64]){t:Ty}(ht:Bk (Ad xs) k.name=some t)(h5:t.sort=85)(d:Int)(hd:-1000<=d)(hd2:d<=1000)(N B:Nat)(H:∀f∈t.fields,0<d\/t.fields.head?=some f->Vx xs (.slice A0 xs.length c0) f.kind (d - 1) N B):Vx xs (.slice A0 xs.length c0) k d (N+1) (B+100):=by
 obtain⟨ty,A,c,hx⟩:=Qbt hsco hv ht;obtain⟨st,nm,fs⟩:=t;simp only at h5;subst h5;have hne:0<fs.length:=Nat.pos_of_ne_zero fun e=>absurd (ty.2.2.2.2 (List.eq_nil_of_length_eq_zero e)) (show ¬(85:UInt8)=82 by decide);have h1:∀f∈fs,Au fs f.tag=some f:=fun f hf=>Qu ty.2.2.1.2 hf;have h2:∀f∈fs,f.tag<=200:=fun f hf=>(ty.2.2.1.1 f hf).2.1;have h3:∀f∈fs,(Ax f.kind).length<=20:=fun f hf=>ad ((ty.2.2.1.1 f hf).2.2.2.2 (by show ¬(85:UInt8)=69;decide)).1.2.2 aJ;by_cases h0:0<d
 ·exact Qb0 xs A0 c0 k hsg hbs d _ _ (Qlg xs A0 c0 k hk hsg hbs nm fs A c hx h1 h2 h3 hne ty.2.2.2.1 d hd hd2 N B (fun f hf=>H f hf (.inl h0)) h0)
 exact Qb0 xs A0 c0 k hsg hbs d _ _ (Ql5 xs A0 c0 k hk hsg hbs nm fs A c hx h1 h2 h3 hne ty.2.2.2.1 d hd hd2 N B (H _ (ae hne) (.inr (by cases fs with|nil=>exact absurd hne aJ|cons f r=>rfl))) h0)
theorem Qn7{k:Kd}(hk:Ck k)(hsg:k.signs=[])(hbs:k.base=[64]){t:Ty}(ht:Bk (Ad xs) k.name=some t)(h2:t.sort=82)(d:Int)(hd:-1000<=d)(hd2:d<=1000)(N B:Nat)(hB:100<=B)(hB2:B<=100000000)(H:0<d->∀f∈t.fields,Vx xs (.slice A0 xs.length c0) f.kind (d - 1) N B):Vx xs (.slice A0 xs.length c0) k d (N+1) (8*B+100):=by
 obtain⟨ty,A,c,hx⟩:=Qbt hsco hv ht;have hmem:=(Cf ht).1;obtain⟨st,nm,fs⟩:=t;simp only at h2;subst h2;have h69:¬(82:UInt8)=69:=aJ;exact Qb0 xs A0 c0 k hsg hbs d _ _ (Qm3 xs A0 c0 k hk hsg hbs nm fs A c hx hsco (fun f hf=>Qu ty.2.2.1.2 hf) (fun f hf=>(ty.2.2.1.1 f hf).2.1) (ty.2.2.1.2.imp fun h=>h.2) (fun f hf=>⟨((ty.2.2.1.1 f hf).2.2.2.2 h69).1,hsco.2.1 _ hmem h69 f hf,ad (Fq (ty.2.2.1.1 f hf)) aJ⟩) ty.2.2.2.1 d hd hd2 N B hB hB2 H)
theorem Qm9:∀(m:Nat) (k:Kd) (d:Int),-990+(m:Int)<=d->d<=0->Ck k->B6 (Ad xs) k->Tu (Ad xs) m k->Vx xs (.slice A0 xs.length c0) k d (m+2) (900+100*m):=by
 intro m;induction m with
 |zero=>
  intro k d hd h0 hk hr he;cases hs:k.signs with
  |cons c r=>
   rcases Nz hk hs with rfl|rfl
   ·exact Qfw xs A0 c0 k r hs hk d aH aH 1 100 (fun h=>absurd h aH) (An _)
   exact Qe7 xs A0 c0 k r hs hk d aH aH 1 100 (fun h=>absurd h aH) (An _)
  |nil=>
   rcases hk.2.1 with⟨hb,_⟩|⟨hb,_⟩
   ·obtain⟨t,_,e⟩:=he hs hb;cases e
   exact(Yu xs _ k hs hb d 1).mono (An _) aH
 |succ m ih=>
  intro k d hd h0 hk hr he;cases hs:k.signs with
  |cons c r=>
   rcases Nz hk hs with rfl|rfl
   ·exact(Qfw xs A0 c0 k r hs hk d aH aH 1 100 (fun h=>absurd h aH) (An _)).mono aH aH
   exact(Qe7 xs A0 c0 k r hs hk d aH aH 1 100 (fun h=>absurd h aH) (An _)).mono aH aH
  |nil=>
   rcases hk.2.1 with⟨hb,_⟩|⟨hb,_⟩
   ·obtain⟨t,ht,e⟩:=he hs hb;have hmem:=(Cf ht).1;have ty:=hsco.1.1 t hmem;rcases ty.1 with h2|h5|h9
    ·exact(Qn7 xs A0 c0 hsco hv hk hs hb ht h2 d aH aH 1 100 (An _) aH (fun h=>absurd h aH)).mono aH aH
    ·have h69:t.sort≠69:=dH;refine(Qnr xs A0 c0 hsco hv hk hs hb ht h5 d aH aH (m+2) (900+100*m) fun f hf hor=>?_).mono aH aH;rcases hor with h|h
     ·exact absurd h aH
     refine ih f.kind (d - 1) aH aH ((ty.2.2.1.1 f hf).2.2.2.2 h69).1 (hsco.2.1 t hmem h69 f hf) fun hs1 hb1=>?_;unfold Ca Fy at e;rw[if_pos h5]at e;cases hfs:t.fields with
     |nil=>rw[hfs]at h;cases h
     |cons f0 r=>
      rw[hfs]at h e;injection h with h;subst h;simp only at e;rw[if_pos ⟨hs1,hb1⟩]at e;cases hu:Bk (Ad xs) f0.kind.name with
      |none=>have:=hsco.2.1 t hmem h69 f0 hf hb1;rw[hu]at this;cases this
      |some u=>rw[hu]at e;exact⟨u,rfl,e⟩
    exact(Qn2 xs A0 c0 hsco hv hk hs hb ht h9 d aH aH 1).mono aH aH
   exact(Yu xs _ k hs hb d 1).mono aH aH
end
def hiB:Nat->Nat
 |0=>1800
 |j+1=>8*hiB j+100
theorem Qkz:∀j,1800<=hiB j
 |0=>An _
 |j+1=>by have:=Qkz j;show 1800<=8*hiB j+100;omega
theorem Qfl:∀j,j<=4->hiB j<=8000000:=by
 intro j hj;rcases(show j=0\/j=1\/j=2\/j=3\/j=4 by omega)with rfl|rfl|rfl|rfl|rfl<;>decide
theorem Qgk(xs:List (Ty × Value))(A0:Option Addr)(c0:Nat)(hsco:G7 (Ad xs))(hv:∀x∈xs,∃A c,x.2=.slice A x.1.fields.length c):∀(j:Nat) (k:Kd),j<=4->Ck k->B6 (Ad xs) k->Vx xs (.slice A0 xs.length c0) k (j:Int) (12+j) (hiB j):=by
 intro j;induction j with
 |zero=>intro k _ hk hr;exact(Qm9 xs A0 c0 hsco hv 9 k 0 aH aH hk hr (Tr hsco hr)).mono aH aJ
 |succ j ih=>
  intro k hj hk hr;have e1:(((j+1:Nat):Int) - 1)=(j:Int):=aH;have hg:=Qkz j;have hl:=Qfl j aH;have hh:hiB (j+1)=8*hiB j+100:=rfl;have ih2:∀k,Ck k->B6 (Ad xs) k->Vx xs (.slice A0 xs.length c0) k (((j+1:Nat):Int) - 1) (12+j) (hiB j):=fun k h1 h2=>by rw[e1];exact ih k aH h1 h2
  rw[hh];cases hs:k.signs with
  |cons c r=>
   have hp:Ck k.part:=(Js hk).1;rcases Nz hk hs with rfl|rfl
   ·exact Qfw xs A0 c0 k r hs hk _ aH aH (12+j) (hiB j) (fun _=>ih2 _ hp hr) aH
   exact Qe7 xs A0 c0 k r hs hk _ aH aH (12+j) (hiB j) (fun _=>ih2 _ hp hr) aH
  |nil=>
   rcases hk.2.1 with⟨hb,_⟩|⟨hb,_⟩
   ·have hr1:=hr hb;cases ht:Bk (Ad xs) k.name with
    |none=>rw[ht]at hr1;cases hr1
    |some t=>
     have hmem:=(Cf ht).1;have ty:=hsco.1.1 t hmem;rcases ty.1 with h2|h5|h9
     ·have h69:t.sort≠69:=cW;exact Qn7 xs A0 c0 hsco hv hk hs hb ht h2 _ aH aH (12+j) (hiB j) aH aH (fun _ f hf=>ih2 _ ((ty.2.2.1.1 f hf).2.2.2.2 h69).1 (hsco.2.1 t hmem h69 f hf))
     ·have h69:t.sort≠69:=dH;exact(Qnr xs A0 c0 hsco hv hk hs hb ht h5 _ aH aH (12+j) (hiB j) fun f hf _=>ih2 _ ((ty.2.2.1.1 f hf).2.2.2.2 h69).1 (hsco.2.1 t hmem h69 f hf)).mono aH aH
     exact(Qn2 xs A0 c0 hsco hv hk hs hb ht h9 _ aH aH 1).mono aH aH
   exact(Yu xs _ k hs hb _ 1).mono aH aH
theorem Gb.forms{W:World}{v:Value}{xs:List (Ty × Value)}(h:Gb W v xs):∀x∈xs,∃A c,x.2=.slice A x.1.fields.length c:=fun x hx=>by
 obtain⟨_,_,_,_,_,hf⟩:=h;obtain⟨A,c,e,_⟩:=hf x hx;exact⟨A,c,e⟩
def Yo:List (List UInt8):=[[],[48],[44],[125],[45]]
theorem Qg5(g p:Nat)(s kd:List UInt8)(w:World)(h:Fg w g p)(hp:p<=1000000)(hs:s.length<=1000000)(hkd:kd.length<=1000000):
  Calls prog 52 #[g,s,kd] w (Tv (fun l=>l.length<=20000) w g p 40000000):=by
 have hgl:=h.lt;have HR:=Aa h;have Hk:=Aa (fun W=>Pe s kd W aH aH);have Hgood:=Aa (fun S k (e:Bm s kd=some (S,k))=>Dd e);obtain⟨o,ho⟩:∃o,Bm s kd=o:=⟨_,rfl⟩
 rw[ho]at Hk Hgood;clear ho h;go_enter func52,ntmps52;go_wp2_with fail;refine(Hk.o _).mono ?_;rintro e w1 ⟨hm,hb1⟩;have HR1:=Aa (HR.o.below hb1);have Hg1:=Aa (Cc hb1 (some g));clear hb1;cases o with
 |none=>
  obtain⟨A,n,c,rfl⟩:=hm;go_wp2_with fail;go_ret;exact⟨[53],p,rfl,by decide,by omega,HR1.o,Hg1.o⟩
 |some x=>
  obtain⟨v,xs,rfl,hxs,hsc⟩:=hm;obtain⟨S,k⟩:=x;simp only at hxs;subst hxs;obtain⟨g1,_,_,g2,g3,g4⟩:=Hgood.o _ k rfl;subst g3;have hform:=hsc.forms;have HSc:=Aa hsc;obtain⟨A0,c0,rfl,_⟩:=hsc;have HD:=Aa (fun(j:Nat) hj=>Qgk xs A0 c0 g1 hform j k hj g2 g4);have HD4:=@Aa (Vx xs (.slice A0 xs.length c0) k 4 16 8000000) ((Qgk xs A0 c0 g1 hform 4 k (An _) g2 g4).mono (An _) (Qfl 4 (An _)));have Hout:=Aa (fun N v (hv:Ha (Ad xs) N k v) (hl:(Az v).length<=8000000) P b W (hW:Fl P W b (Cd (Ad xs) k v))=>Yw g1.1.1 P N k v hv g2 b W hW (ad hl aJ));have Hne:=Aa (fun N v (hv:Ha (Ad xs) N k v)=>show 1<=(Az v).length from by obtain⟨c,r,e,_⟩:=Qeo hv;rw[e];simp);unfold Vx at HD HD4;generalize Ax k=kb at *;have HB:=Aa Qfl;obtain⟨xv,hxv⟩:∃xv:Value,xv=.slice A0 xs.length c0:=⟨_,rfl⟩
  rw[<-hxv]at HSc HD HD4 ⊢;clear hform g1 g2 g4 hxv Hk Hgood;go_wp2_with fail;refine(HD4.o g p w1 HSc.o HR1.o aH).mono ?_;rintro e w2 ⟨b,v,q,rfl,k1,k2,k3,k4,k5,k6⟩;have Hg2:=Aa k6;have HR2:=Aa k5;have Hs2:=Aa k4;have hv1:=Hne.o _ v k1;have Hok:=Aa k1;clear k1 k4 k5 k6;go_wp2_with fail;refine(Hout.o _ v Hok.o aH _ b w2 Hs2.o).mono ?_;rintro e w3 ⟨rfl,hb3⟩;have HR3:=Aa (HR2.o.below hb3);have Hg3:=Aa (Ae Hg2.o (Cc hb3 _));clear hb3 Hok Hs2 HR2 Hg2;generalize Az v=t0 at *;go_wp2_with fail;go_loopw [9,10] (fun tv dv wr=>∃(t:List UInt8) (j q:Nat),tv=t/\dv=(j:Int)/\j<=3/\1<=t.length/\t.length<=8000000/\Hid (j=0->t.length<=14500)/\q<=p+8000000*(4 - j)/\Hid (Fg wr g q)/\Hid (w1.grownBy wr (some g))) (fun _ dv _=>(intOf dv).toNat)
  case atStart=>exact⟨t0,3,q,rfl,rfl,An _,hv1,k2,fun h=>by omega,by omega,HR3.o,Hg3.o⟩
  case round=>
   obtain⟨t,j,q,rfl,rfl,hj,ht1,ht2,ht3,hq,hRr,hgr⟩:=hrel;have hj0:(0:Int)<=(j:Int):=aH;by_cases hgo:150<t.length/\0<j
   ·obtain⟨hlong,hj1⟩:=hgo;have hli:(150:Int)<(t.length:Int):=aH;have hji:(0:Int)<(j:Int):=aH;have hBj:=HB.o j aH;have HSr:=@Aa (Gb wr xv xs) (HSc.o.grown HR1.o hgr.o);go_wp2_with fail;refine(HD.o j aH g q wr HSr.o hRr.o aH).mono ?_;rintro e w4 ⟨b4,v4,q4,rfl,k1,k2,k3,k4,k5,k6⟩;have Hg4:=Aa (Ae hgr.o k6);have HR4:=Aa k5;have Hs4:=Aa k4;have hv4:=Hne.o _ v4 k1;have Hok4:=Aa k1;clear k1 k4 k5 k6;go_wp2_with fail;refine(Hout.o _ v4 Hok4.o aH _ b4 w4 Hs4.o).mono ?_;rintro e w5 ⟨rfl,hb5⟩;have HR5:=Aa (HR4.o.below hb5);have Hg5:=Aa (Ae Hg4.o (Cc hb5 _));clear hb5 Hok4 Hs4 HR4 Hg4;generalize Az v4=t4 at *;have hwd:IntKind.i64.wrap ((j:Int) - 1)=(j:Int) - 1:=IntWalk.i64_in _ aH;go_wp2_with fail;go_roundw
    case rel=>exact⟨t4,j - 1,q4,rfl,by go_num,by omega,hv4,by omega,(fun h=>ad (show t4.length<=hiB 1 from(show j=1 by omega) ▸ k2) aJ),by omega,HR5.o,Hg5.o⟩
    case measure=>simp[intOf];omega
   ·have hlt:t.length<=14500:=by
     by_cases h150:150<t.length
     ·have:j=0:=aH;exact ht3.o this
     omega
    have hdec:(decide ((150:Int)<(t.length:Int))=false)\/(decide ((150:Int)<(t.length:Int))=true/\j=0):=by
     by_cases h150:150<t.length
     ·exact .inr ⟨aD aH,by omega⟩
     exact .inl (aC aH)
    have hti:(t.length:Int)<=14500:=aH;clear hgo ht3;obtain⟨W6,rfl⟩:∃W6:World,W6=wr:=⟨_,rfl⟩
    rcases hdec with hd1|⟨hd1,rfl⟩<;>
    ·go_wp2_with fail;refine(Bs g q 24 _ hRr.o aH aH aH).mono ?_;rintro e w8 ⟨z,rfl,hz1,_,hR8,hg8⟩;have HR8:=Aa hR8;have Hg8:=Aa (Ae Hg1.o (Ae hgr.o hg8));have hg8l:=hR8.lt;clear hR8 hg8 hz1;by_cases hz0:z=0
     ·subst hz0;go_wp2_with fail;refine(Bs g (q+1) _ _ HR8.o aH aH aH).mono ?_;rintro e w9 ⟨k,rfl,hk1,_,hR9,hg9⟩;have hk1:=hk1 aH;have hk:k<t.length:=aH;have i5:(0:Int)<=(k:Int):=aH;have i6:(k:Int)<(t.length:Int):=aH;obtain⟨q9,hq9,HR9⟩:∃q9,q9<=q+2/\Hid (Fg w9 g q9):=⟨_,by omega,Aa hR9⟩
      have Hg9:=Aa (Ae Hg8.o hg9);clear hR9 hg9 HR8 Hg8;have hwr:IntKind.i64.wrap ((k:Int)+1)=(k:Int)+1:=IntWalk.i64_in _ aH;go_wp2_with fail;refine Jd [47,48,49,50,51,52,53,54,55,56,57,58,59,60,6]
       (fun ix v W=>match ix with|0=>v=(t:List UInt8)|1=>v=(k:Int)|2=>v=(t.take k:List UInt8)|3=>∃b,v=.slice (some ⟨b,0,none⟩) 5 5|4=>v=g|5=>∃y:Nat,v=(y:Int)/\y<5|6=>∃b y,v=.pointer (some ⟨b,y,none⟩)|7=>∃i,i∈Yo/\v=.string ⟨i.toArray⟩|8=>∃i,i∈Yo/\v=.string ⟨(t.take k++i).toArray⟩|9=>v=(t:List UInt8)|10=>v=(k:Int)|11=>v=.int .i64 ((k:Int)+1)|12=>v=.string ⟨(t.drop (k+1):List UInt8).toArray⟩|13=>∃i,i∈Yo/\v=.string ⟨(t.take k++(i++t.drop (k+1))).toArray⟩|14=>∃i,i∈Yo/\v=.string ⟨(t.take k++(i++t.drop (k+1))).toArray⟩|_=>True)
       (fun L U W=>Fg W g (if L 5=true then q9+1 else q9)/\w.grownBy W (some g)/\(L 3=true->∃b,U 3=.slice (some ⟨b,0,none⟩) 5 5/\b≠g/\J1 W b Yo)/\(L 6=true->∃b y,U 6=.pointer (some ⟨b,y,none⟩)/\b≠g/\y<5/\J1 W b Yo)) (⟨by simpa using HR9.o.ddrew,Gx Hg9.o,fun h=>Bool.noConfusion h,fun h=>Bool.noConfusion h⟩) ?_ ?_
      ·repeat (first|exact Ak.nil|(refine Ak.cons ?_ ?_;rotate_left))
       all_goals
        rintro L U W hL hpre HR Hdep K hK;obtain⟨hR0,hG0,R3,R6⟩:=HR.o;first|(simp[Region.binds]at hpre;done)|simp[Region.binds]at hpre|clear hpre
       iterate 2
        ·exact iK
       ·exact iN
       ·have hgl:=hR0.lt;go_simp;exact hK _ _ _ ⟨_,rfl⟩ Ac ⟨by simpa using hR0.dalloc _,Ae hG0 (World.grownBy_alloc W _ _),fun _=>⟨W.heap.size,rfl,by omega,J1.new W Yo⟩,fun h=>by obtain⟨b,y,q1,q2,q3,q4⟩:=R6 aR;exact⟨b,y,by simpa using q1,q2,q3,q4.grown (World.grownBy_alloc W _ (some g)) q2⟩⟩ rfl
       ·exact iK
       ·go_simp;have hR1:Fg W g q9:=by simpa [hL]using hR0
        refine(Bs g q9 5 W hR1 aH aH aH).mono ?_;rintro e w' ⟨y,rfl,hy1,_,hRy,hgy⟩;exact hK _ _ _ ⟨y,rfl,by omega⟩ Ac ⟨by simpa using hRy,Ae hG0 hgy,fun h=>by obtain⟨b,q1,q2,q3⟩:=R3 aR;exact⟨b,by simpa using q1,q2,q3.grown hgy q2⟩,fun h=>by obtain⟨b,y,q1,q2,q3,q4⟩:=R6 aR;exact⟨b,y,by simpa using q1,q2,q3,q4.grown hgy q2⟩⟩ aI
       ·obtain⟨⟨l3,_⟩,l5,y,u5,hy⟩:=hpre;obtain⟨b,u3,hb,hT⟩:=R3 l3;have y1:(0:Int)<=(y:Int):=aH;have y2:(y:Int)<5:=aH;go_simp;exact hK _ _ _ ⟨b,y,rfl⟩ Ac ⟨by simpa using hR0,hG0,fun h=>by obtain⟨b,q1,q2,q3⟩:=R3 aR;exact⟨b,by simpa using q1,q2,q3⟩,fun _=>⟨b,y,rfl,hb,hy,hT⟩⟩ (by simp[Act.put,u3,u5])
       ·obtain⟨l6,_⟩:=hpre;obtain⟨b,y,u6,hb,hy,hT⟩:=R6 l6;obtain⟨s7,hm7,hc7⟩:=hT.cell (show y<Yo.length from hy);go_simp;exact hK _ _ _ ⟨s7,hm7,rfl⟩ Ac ⟨by simpa using hR0,hG0,fun h=>by obtain⟨b,q1,q2,q3⟩:=R3 aR;exact⟨b,by simpa using q1,q2,q3⟩,fun h=>by obtain⟨b,y,q1,q2,q3,q4⟩:=R6 aR;exact⟨b,y,by simpa using q1,q2,q3,q4⟩⟩ (by simp[Act.put,u6])
       ·obtain⟨⟨_,u2⟩,_,i,hi,u7⟩:=hpre;have hil:i.length<=1:=(show ∀i∈Yo,i.length<=1 by decide) i hi;go_simp;rw[if_neg aM];go_simp;exact hK _ _ _ ⟨i,hi,rfl⟩ Ac ⟨by simpa using hR0,hG0,fun h=>by obtain⟨b,q1,q2,q3⟩:=R3 aR;exact⟨b,by simpa using q1,q2,q3⟩,fun h=>by obtain⟨b,y,q1,q2,q3,q4⟩:=R6 aR;exact⟨b,y,by simpa using q1,q2,q3,q4⟩⟩ (by simp[Act.put,u2,u7])
       iterate 3
        ·exact iK
       ·exact iN
       ·obtain⟨⟨_,i,hi,u8⟩,_,u12⟩:=hpre;have hil:i.length<=1:=(show ∀i∈Yo,i.length<=1 by decide) i hi;go_simp;rw[if_neg aM];go_simp;exact hK _ _ _ ⟨i,hi,rfl⟩ Ac ⟨by simpa using hR0,hG0,fun h=>by obtain⟨b,q1,q2,q3⟩:=R3 aR;exact⟨b,by simpa using q1,q2,q3⟩,fun h=>by obtain⟨b,y,q1,q2,q3,q4⟩:=R6 aR;exact⟨b,y,by simpa using q1,q2,q3,q4⟩⟩ (by simp[Act.put,u8,u12])
       ·obtain⟨⟨_,i,hi,u13⟩,hrest⟩:=hpre;go_simp;exact hK _ _ _ ⟨i,hi,rfl⟩ Ac ⟨by simpa using hR0,hG0,fun h=>by obtain⟨b,q1,q2,q3⟩:=R3 aR;exact⟨b,by simpa using q1,q2,q3⟩,fun h=>by obtain⟨b,y,q1,q2,q3,q4⟩:=R6 aR;exact⟨b,y,by simpa using q1,q2,q3,q4⟩⟩ (by simp[Act.put,u13,hrest])
      rintro L U W hL hφ hR;obtain⟨i,hi,e14⟩:=hφ 14 aJ;simp only[e14];have hR0:Fg W g (q9+1):=by simpa [hL 5 aJ]using hR.1
      have hG0:=hR.2.1;clear hφ hL hR;go_wp2_with fail;go_ret;have hil:i.length<=1:=(show ∀i∈Yo,i.length<=1 by decide) i hi;exact⟨_,q9+1,rfl,by simp;omega,by omega,hR0,hG0⟩
     have tz:((z:Int) == 0)=false:=aM;clear hz0;go_wp2_with fail;go_ret;exact⟨t,q+1,rfl,by omega,by omega,HR8.o,Hg8.o⟩
def Qm8(w:World)(e:Ending)(w':World):Prop:=∃a b c d s:List UInt8,e=.returned (.tuple #[a,b,c,d,s])/\a.length<=100000/\b.length<=100000/\c.length<=100000/\d.length<=100000/\s.length<=100000/\Below w w w'
theorem S6(A:Option Addr)(n c:Nat)(l:List UInt8)(w:World)(h:B0 w A n (Ep l))(hc:n<=c)(hcm:c<=maxLen):
  Calls prog 15 #[.slice A n c] w (Qm8 w):=by
 go_enter func15,ntmps15;go_wp2_with fail;refine(Qe3 A n c l w h hc hcm).mono ?_;rintro e w0 ⟨g,rfl,hR,hgb,hb0⟩;have HR:=Aa hR;have Hb0:=Aa hb0;clear hR h hb0;go_wp2_with fail;refine(Qco g 0 _ HR.o aH).mono ?_;rintro e w1 ⟨a,b,c',d,q,rfl,ha,hb,hc',hd,hq,hR1,hg1⟩;have HR1:=Aa hR1;have Hg1:=Aa hg1;clear hg1 hR1;go_wp2_with fail;refine(Qg5 g q c' d _ HR1.o aH aH aH).mono ?_;rintro e w2 ⟨s,q2,rfl,hs,_,_,hg2⟩;have Hb2:=Aa (Qbx Hb0.o (Ae Hg1.o hg2) hgb);clear hg2;go_wp2_with fail;refine aF (v:=.tuple #[a,b,c',d,s]) (by simp[results,results15,go_sem]) rfl ?_;exact⟨a,b,c',d,s,rfl,ha,by omega,by omega,by omega,by omega,Hb2.o⟩
def Xr(o:Option (List Ty × Kd))(x:List UInt8):Option Vl:=match o with
 |some y=>Gs y.1 y.2 x
 |none=>none
theorem Qa5{s d x:List UInt8}{v:Vl}(h:Xr (Bm s d) x=some v):∃S k,Bm s d=some (S,k)/\G7 S/\Ck k/\B6 S k/\Ax k=d/\Ha S 12 k v/\Az v=x/\x.length<=400:=by
 cases hb:Bm s d with
 |none=>rw[hb]at h;cases h
 |some y=>
  obtain⟨S,k⟩:=y;rw[hb]at h;obtain⟨g1,_,_,g4,g5,g6⟩:=Dd hb;obtain⟨h1,h2,h3⟩:=(Gk g1.1.1 g4).1 h;exact⟨S,k,rfl,g1,g4,g6,g5,h1,h2,h3⟩
end
structure Vf(W1:World)(vk vt x3 x5:Value)(l3 l5 l6 l7 l10:Bool)(u3 u5 u6 u7 u10:Value)(W:World):Prop where
 be:Below W1.heap.size W1 W
 s3:l3=true->∃B,u3=.slice (some ⟨B,0,none⟩) 1 1/\W1.heap.size<=B/\B<W.heap.size/\W.cell? ⟨B,0,none⟩=some x3
 s5:l5=true->∃B,u5=.slice (some ⟨B,0,none⟩) 1 1/\W1.heap.size<=B/\B<W.heap.size/\W.cell? ⟨B,0,none⟩=some x5
 s6:l6=true->u6=.agg #[vk,vt,u3,u5]/\l3=true/\l5=true
 s7:l7=true->l6=true/\∃B,u7=.pointer (some ⟨B,0,none⟩)/\W1.heap.size<=B/\B<W.heap.size/\W.cell? ⟨B,0,none⟩=some vk/\W.cell? ⟨B,1,none⟩=some vt/\W.cell? ⟨B,2,none⟩=some u3/\W.cell? ⟨B,3,none⟩=some u5
 s10:l10=true->u10=u7/\l7=true
section
variable {W1 W W':World} {vk vt x3 x5 u3 u5 u6 u7 u10:Value} {l3 l5 l6 l7 l10:Bool}
theorem Vf.after(h:Vf W1 vk vt x3 x5 l3 l5 l6 l7 l10 u3 u5 u6 u7 u10 W)(hb:Below W.heap.size W W'):Vf W1 vk vt x3 x5 l3 l5 l6 l7 l10 u3 u5 u6 u7 u10 W':=by
 have hc:∀b o,b<W.heap.size->W'.cell? ⟨b,o,none⟩=W.cell? ⟨b,o,none⟩:=fun b o hb'=>hb.cell (p:=⟨b,o,none⟩) hb'
 refine⟨h.be.trans (hb.mono h.be.size),fun e=>?_,fun e=>?_,h.s6,fun e=>?_,h.s10⟩
 ·obtain⟨B,e1,e2,e3,e4⟩:=h.s3 e;exact⟨B,e1,e2,Nat.lt_of_lt_of_le e3 hb.size,(hc _ _ e3).trans e4⟩
 ·obtain⟨B,e1,e2,e3,e4⟩:=h.s5 e;exact⟨B,e1,e2,Nat.lt_of_lt_of_le e3 hb.size,(hc _ _ e3).trans e4⟩
 obtain⟨e0,B,e1,e2,e3,e4,e5,e6,e7⟩:=h.s7 e;exact⟨e0,B,e1,e2,Nat.lt_of_lt_of_le e3 hb.size,(hc _ _ e3).trans e4,(hc _ _ e3).trans e5,(hc _ _ e3).trans e6,(hc _ _ e3).trans e7⟩
theorem Vf.start:Vf W1 vk vt x3 x5 false false false false false u3 u5 u6 u7 u10 W1.drew:=
 ⟨(Ao _ _).drew,fun h=>Bool.noConfusion h,fun h=>Bool.noConfusion h,fun h=>Bool.noConfusion h,fun h=>Bool.noConfusion h,fun h=>Bool.noConfusion h⟩
theorem Vf.no3(h:Vf W1 vk vt x3 x5 l3 l5 l6 l7 l10 u3 u5 u6 u7 u10 W)(e:l3=false\/l5=false\/l6=false):l6=false/\l7=false:=by
 have h6:l6=false:=by
  cases l6 with
  |false=>rfl
  |true=>
   obtain⟨_,a,b⟩:=h.s6 rfl
   subst a b
   rcases e with e|e|e<;>cases e
 refine⟨h6,?_⟩
 cases l7 with
 |false=>rfl
 |true=>exact absurd (h6.symm.trans (h.s7 rfl).1) (by decide)
theorem Vf.put3(h:Vf W1 vk vt x3 x5 false l5 l6 l7 l10 u3 u5 u6 u7 u10 W)(T:TypeId):Vf W1 vk vt x3 x5 true l5 l6 l7 l10 (.slice (some ⟨W.heap.size,0,none⟩) 1 1) u5 u6 u7 u10 (W.alloc (.cells #[x3] T)):=by
 obtain⟨h6,h7⟩:=h.no3 (.inl rfl)
 subst h6 h7
 have ha:=h.after ((Ao _ _).alloc (An _) (.cells #[x3] T))
 exact⟨ha.be,fun _=>⟨_,rfl,h.be.size,by simp,by simp[go_sem]⟩,ha.s5,fun h=>Bool.noConfusion h,fun h=>Bool.noConfusion h,fun e=>absurd (ha.s10 e).2 (by decide)⟩
theorem Vf.put5(h:Vf W1 vk vt x3 x5 l3 false l6 l7 l10 u3 u5 u6 u7 u10 W)(T:TypeId):Vf W1 vk vt x3 x5 l3 true l6 l7 l10 u3 (.slice (some ⟨W.heap.size,0,none⟩) 1 1) u6 u7 u10 (W.alloc (.cells #[x5] T)):=by
 obtain⟨h6,h7⟩:=h.no3 (.inr (.inl rfl))
 subst h6 h7
 have ha:=h.after ((Ao _ _).alloc (An _) (.cells #[x5] T))
 exact⟨ha.be,ha.s3,fun _=>⟨_,rfl,h.be.size,by simp,by simp[go_sem]⟩,fun h=>Bool.noConfusion h,fun h=>Bool.noConfusion h,fun e=>absurd (ha.s10 e).2 (by decide)⟩
theorem Vf.put6(h:Vf W1 vk vt x3 x5 l3 l5 false l7 l10 u3 u5 u6 u7 u10 W)(h3:l3=true)(h5:l5=true){v:Value}(hv:Value.agg #[vk,vt,u3,u5]=v):Vf W1 vk vt x3 x5 l3 l5 true l7 l10 u3 u5 v u7 u10 W:=by
 subst hv
 obtain⟨_,h7⟩:=h.no3 (.inr (.inr rfl))
 subst h7
 exact⟨h.be,h.s3,h.s5,fun _=>⟨rfl,h3,h5⟩,fun h=>Bool.noConfusion h,h.s10⟩
theorem Vf.put7(h:Vf W1 vk vt x3 x5 l3 l5 l6 false l10 u3 u5 u6 u7 u10 W)(h6:l6=true)(T:TypeId){o:Obj}(ho:Obj.cells #[vk,vt,u3,u5] T=o):Vf W1 vk vt x3 x5 l3 l5 l6 true l10 u3 u5 u6 (.pointer (some ⟨W.heap.size,0,none⟩)) u10 (W.alloc o):=by
 subst ho
 have ha:=h.after ((Ao _ _).alloc (An _) (.cells #[vk,vt,u3,u5] T))
 exact⟨ha.be,ha.s3,ha.s5,ha.s6,fun _=>⟨h6,_,rfl,h.be.size,by simp,by simp[go_sem],by simp[go_sem],by simp[go_sem],by simp[go_sem]⟩,fun e=>absurd (ha.s10 e).2 (by decide)⟩
theorem Vf.put10(h:Vf W1 vk vt x3 x5 l3 l5 l6 l7 l10 u3 u5 u6 u7 u10 W)(h7:l7=true):Vf W1 vk vt x3 x5 l3 l5 l6 l7 true u3 u5 u6 u7 u7 W:=⟨h.be,h.s3,h.s5,h.s6,h.s7,fun _=>⟨rfl,h7⟩⟩
theorem Vf.at_{kind text:List UInt8}{g b:Nat}{sv:SV}{P:Nat->Prop}(h:Vf W1 (.string ⟨kind.toArray⟩) (.string ⟨text.toArray⟩) (.int .i64 (g:Int)) (.pointer (some ⟨b,0,none⟩)) l3 l5 l6 l7 l10 u3 u5 u6 u7 u10 W)(h10:l10=true)(hP:∀c,W1.heap.size<=c->P c)(hs:Fl P W1 b sv):
  ∃B,u10=.pointer (some ⟨B,0,none⟩)/\Fl P W B (.mk kind text [g] [sv]):=by
 obtain⟨e10,h7⟩:=h.s10 h10
 obtain⟨h6,B,e1,e2,e3,e4,e5,e6,e7⟩:=h.s7 h7
 obtain⟨_,h3,h5⟩:=h.s6 h6
 obtain⟨B3,f1,f2,f3,f4⟩:=h.s3 h3
 obtain⟨B5,g1,g2,g3,g4⟩:=h.s5 h5
 refine⟨B,e10.trans e1,?_⟩
 rw[f1]at e6
 rw[g1]at e7
 refine .mk kind text [g] (some ⟨B3,0,none⟩) (some ⟨B5,0,none⟩) 1 1 [(b,sv)] rfl e3 (hP _ e2) e4 e5 e6 e7 ⟨by simp[De],by simp[maxLen],fun _=>⟨B3,0,rfl,f3,fun j u hu=>?_⟩⟩ ⟨by simp[Dx],by simp[maxLen],fun _=>⟨B5,0,rfl,g3,fun j u hu=>?_⟩⟩ (by simp) (by simp) (fun g o _ e=>?_) (fun g o _ e=>?_) (fun x hx=>?_)
 ·match j,hu with
  |0,hu=>simp[De]at hu;subst hu;simpa using f4
  |j+1,hu=>simp[De]at hu
 ·match j,hu with
  |0,hu=>simp[Dx]at hu;subst hu;simpa using g4
  |j+1,hu=>simp[Dx]at hu
 ·injection e with e;injection e with e;subst e;exact hP _ f2
 ·injection e with e;injection e with e;subst e;exact hP _ g2
 simp at hx;subst hx;exact hs.after h.be
end
def RU(w1:World)(kb:List UInt8)(g b:Nat)(l:Nat->Bool)(u:Nat->Value)(W:World):Prop:=Vf w1 (.string ⟨kb.toArray⟩) (.string ⟨#[85]⟩) (.int .i64 (g:Int)) (.pointer (some ⟨b,0,none⟩)) (l 3) (l 5) (l 6) (l 7) (l 10) (u 3) (u 5) (u 6) (u 7) (u 10) W
theorem RU.to{w1 W:World}{kb:List UInt8}{g b:Nat}{l:Nat->Bool}{u:Nat->Value}(h:RU w1 kb g b l u W):Vf w1 (.string ⟨kb.toArray⟩) (.string ⟨#[85]⟩) (.int .i64 (g:Int)) (.pointer (some ⟨b,0,none⟩)) (l 3) (l 5) (l 6) (l 7) (l 10) (u 3) (u 5) (u 6) (u 7) (u 10) W:=h
section
variable {P:Program} {ops:Array Oper} {Q:Exit->Act->World->Prop} {a:Act} {mk:(Nat->Value)->Act} {G:World->Prop} {w1:World} {kb:List UInt8} {g b:Nat}
theorem rgU{id:Nat}(kb:List UInt8)(g b:Nat){w:World}(h:Sq P ops Q a mk (RU w kb g b) (Jz w) ops.toList 0 [])
  (hc:(P.follows .mixedOrders && (List.range ops.size).all (fun i=>((ops[i]?).map fun o=>o.after.all fun e=>!Region.binds .any e || decide (e.on<i)).getD true) && Gc a.tmps.size ops.toList (Di ops.toList))=true:=by kernel_rfl)
  (hmk:∀u,Bt a (Di ops.toList) u=mk u:=by intro u;dsimp only[Bt,Di,Bq,List.set,Nat.zero_add,Nat.reduceAdd,List.length_cons,List.length_nil]):(Code.region id ops true).wp P Q a w:=
 rgF (RU w kb g b) (Jz w) (fun _ _ _ h=>Zg h.be) Vf.start h hc hmk
variable {o:Oper} {os:List Oper} {i:Nat} {ps:List (Value->Prop)}
theorem Qot(k:Sq P ops Q a mk (RU w1 kb g b) G os (i+1) (ps++[fun _=>True]))(h:St P ops Q a mk (RU w1 kb g b) G i o ps (fun _=>True):=by
  intro l u W' hl hp hF hG hi K9 hK
  have h:=RU.to hF.o
  rw[hl]at h
  have hn:=Aa (fun T=>h.put3 T)
  simp[Region.binds,Fb]at hp
  clear hG hi hF h
  go_simp
  exact hK _ _ _ True.intro (hn.o _) (by simp[Act.put,hp])):Sq P ops Q a mk (RU w1 kb g b) G (o::os) i ps:=⟨_,h,k⟩
theorem Qog(k:Sq P ops Q a mk (RU w1 kb g b) G os (i+1) (ps++[fun _=>True]))(h:St P ops Q a mk (RU w1 kb g b) G i o ps (fun _=>True):=by
  intro l u W' hl hp hF hG hi K9 hK
  have h:=RU.to hF.o
  rw[hl]at h
  have hn:=Aa (fun T=>h.put5 T)
  simp[Region.binds,Fb]at hp
  clear hG hi hF h
  go_simp
  exact hK _ _ _ True.intro (hn.o _) (by simp[Act.put,hp])):Sq P ops Q a mk (RU w1 kb g b) G (o::os) i ps:=⟨_,h,k⟩
theorem Qok(k:Sq P ops Q a mk (RU w1 kb g b) G os (i+1) (ps++[fun _=>True]))(h:St P ops Q a mk (RU w1 kb g b) G i o ps (fun _=>True):=by
  intro l u W' hl hp hF hG hi K9 hK
  have h:=RU.to hF.o
  rw[hl]at h
  simp[Region.binds,Fb]at hp
  obtain⟨B3,e3,_⟩:=h.s3 (by simp[hp])
  obtain⟨B5,e5,_⟩:=h.s5 (by simp[hp])
  have hn:=h.put6 (by simp[hp]) (by simp[hp]) (by rw[e3,e5])
  have hn:=Aa hn
  clear hG hi hF h
  go_simp
  exact hK _ _ _ True.intro hn.o (by simp[Act.put,hp,e3,e5])):Sq P ops Q a mk (RU w1 kb g b) G (o::os) i ps:=⟨_,h,k⟩
theorem Qoi(k:Sq P ops Q a mk (RU w1 kb g b) G os (i+1) (ps++[fun _=>True]))(h:St P ops Q a mk (RU w1 kb g b) G i o ps (fun _=>True):=by
  intro l u W' hl hp hF hG hi K9 hK
  have h:=RU.to hF.o
  rw[hl]at h
  simp[Region.binds,Fb]at hp
  obtain⟨e6,h3,h5⟩:=h.s6 (by simp[hp])
  obtain⟨B3,e3,_⟩:=h.s3 h3
  obtain⟨B5,e5,_⟩:=h.s5 h5
  rw[e3,e5]at e6
  have hn:=Aa (fun T=>h.put7 (by simp[hp]) T (by rw[e3,e5]))
  clear hG hi hF h
  go_simp
  exact hK _ _ _ True.intro (hn.o _) (by simp[Act.put,hp,e6,e3,e5])):Sq P ops Q a mk (RU w1 kb g b) G (o::os) i ps:=⟨_,h,k⟩
theorem Qn6(k:Sq P ops Q a mk (RU w1 kb g b) G os (i+1) (ps++[fun _=>True]))(h:St P ops Q a mk (RU w1 kb g b) G i o ps (fun _=>True):=by
  intro l u W' hl hp hF hG hi K9 hK
  have h:=RU.to hF.o
  simp[Region.binds,Fb]at hp
  have hn:=Aa (h.put10 (by simp[hp]))
  clear hG hi hF h
  go_simp
  exact hK _ _ _ True.intro hn.o (by simp[Act.put,hp])):Sq P ops Q a mk (RU w1 kb g b) G (o::os) i ps:=⟨_,h,k⟩
end
end Go.Proofs.YtmmhmlmfhpfgbaaGreatDoor
