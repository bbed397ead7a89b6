/- Texts joined. Conditions: as each theorem names them. -/
import Derived.Deep.CutRange
import Derived.Deep.DeepCutAuto
import Derived.Test.YtbdibdghphdcdaaGreatDoorJ29
set_option maxRecDepth 100000
set_option maxHeartbeats 32000000
set_option linter.unusedVariables false
set_option linter.unusedSimpArgs false
namespace Go.Proofs.YtbdibdghphdcdaaGreatDoor
open Go.RowKit Go.Proofs.Tryz
section
attribute [local go_sem] Qo7 Qok Qoa Ql9 ByteArray.mk_append_mk
structure S6(S:List Ty)(N B:Nat)(fs:List Fd)(k:Nat)(ps:List (Fd × Vl)):Prop where
 at_:∀r∈ps,∃i,i<k/\fs[i]?=some r.1
 ok:∀r∈ps,Jf S N r.1.kind r.2
 ne:∀r∈ps,Bc r.2≠J4 S r.1
 le:∀r∈ps,(Bc r.2).length<=B
 pw:ps.Pairwise fun a b=>a.1.tag<b.1.tag
 ln:ps.length<=k
section
variable {S:List Ty} {N B:Nat} {fs:List Fd} {k:Nat} {ps:List (Fd × Vl)}
theorem S6.nil:S6 S N B fs 0 []:=⟨by simp,by simp,by simp,by simp,.nil,by simp⟩
theorem S6.skip(h:S6 S N B fs k ps):S6 S N B fs (k+1) ps:=
 ⟨fun r hr=>by obtain⟨i,h1,h2⟩:=h.at_ r hr;exact⟨i,by omega,h2⟩,h.ok,h.ne,h.le,h.pw,by have:=h.ln;omega⟩
theorem S6.add(h:S6 S N B fs k ps)(hk:k<fs.length)(hpw:fs.Pairwise fun a b=>a.tag<b.tag){v:Vl}(h1:Jf S N fs[k].kind v)(h2:Bc v≠J4 S fs[k])(h3:(Bc v).length<=B):S6 S N B fs (k+1) (ps++[(fs[k],v)]):=by
 have key:∀{P:Fd × Vl->Prop},(∀r∈ps,P r)->P (fs[k],v)->∀r∈ps++[(fs[k],v)],P r:=fun ha hb r hr=>by
  rcases af.1 hr with hr|hr
  ·exact ha r hr
  rw[aq]at hr;subst hr;exact hb
 refine⟨key (fun r hr=>by obtain⟨i,h1,h2⟩:=h.at_ r hr;exact⟨i,by omega,h2⟩) ⟨k,by omega,List.getElem?_eq_getElem hk⟩,key h.ok h1,key h.ne h2,key h.le h3,?_,by have:=h.ln;simp;omega⟩;rw[List.pairwise_append];refine⟨h.pw,List.pairwise_singleton _ _,fun a ha b hb=>?_⟩;rw[aq]at hb;subst hb;obtain⟨i,hi,e⟩:=h.at_ a ha;obtain⟨hil,e⟩:=List.getElem?_eq_some_iff.1 e;have:=(List.pairwise_iff_getElem.1 hpw) i k hil hk hi;rw[e]at this;exact this
theorem S6.mem(h:S6 S N B fs k ps):∀r∈ps,r.1∈fs:=fun r hr=>by
 obtain⟨i,_,e⟩:=h.at_ r hr;obtain⟨hil,e⟩:=List.getElem?_eq_some_iff.1 e;rw[<-e];exact ae hil
theorem S6.len(h:S6 S N B fs k ps)(h200:∀f∈fs,f.tag<=200)(hk:k<=8):(Bc (.mk 82 [] 0 (ps.map Dr))).length<=8*B+100:=by
 have key:∀(qs:List (Fd × Vl)),(∀r∈qs,r.1.tag<=200/\(Bc r.2).length<=B)->Dq (qs.map fun r=>Bc (Dr r))<=qs.length*(B+5):=by
  intro qs;induction qs with
  |nil=>intro _;simp[Dq]
  |cons r qs ih=>
   intro hq;have h1:=ih fun x hx=>hq x gG;obtain⟨h2,h3⟩:=hq r aK;have h4:(Bb r.1.tag).length<=3:=Dk 2 _ aH;have h5:=Jv r;rw[ay,El,List.length_cons,Nat.succ_mul];omega
 have h1:=key ps fun r hr=>⟨h200 _ (h.mem r hr),h.le r hr⟩
 have h2:ps.length*(B+5)<=8*(B+5):=Nat.mul_le_mul_right _ (by have:=h.ln;omega);rw[Mu,List.length_cons,ah,Bz];simp only[List.length_singleton];omega
end
theorem Fg.nostr{w:World}{g p b o:Nat}{x:ByteArray}(h:Fg w g p)(hc:w.cell? ⟨b,o,none⟩=some (.string x)):¬(b=g):=by
 rintro rfl;obtain⟨A,n,c,l,hh,_⟩:=h;match o with
 |0=>simp[World.cell?,hh]at hc
 |1=>simp[World.cell?,hh]at hc
 |o+2=>simp[World.cell?,hh]at hc
theorem Qcs{a b c:World}{g n:Nat}(h:a.grownBy b (some g))(hb:Below n b c)(hn:a.heap.size<=n):a.grownBy c (some g):=
 ⟨hb.os.trans h.os,hb.tape.trans h.tape,hb.output.trans h.output,ad h.size hb.size,fun k hk hne=>(hb.block k aH).trans (h.block k hk hne)⟩
theorem Qn4(xs:List (Ty × Value))(A0:Option Addr)(c0:Nat)(k:Kd)(hk:Cq k)(hsg:k.signs=[])(hbs:k.base=[64])(nm:List UInt8)(fs:List Fd)(A9:Option Addr)(c9:Nat)(hx:D8 xs k.name=some (⟨82,nm,fs⟩,.slice A9 fs.length c9))(hsco:Gy (Af xs))(htg:∀f∈fs,Av fs f.tag=some f)(h200:∀f∈fs,f.tag<=200)(hpw:fs.Pairwise fun a b=>a.tag<b.tag)
  (hfk:∀f∈fs,Cq f.kind/\Cc (Af xs) f.kind/\f.given.length<=1000) (hn8:fs.length<=8) (d:Int) (hd:-1000<=d) (hd2:d<=1000) (N B:Nat) (hB:100<=B) (hB2:B<=100000000) (HH:0<d->∀f∈fs,Vs xs (.slice A0 xs.length c0) f.kind (d - 1) N B):DtC xs (.slice A0 xs.length c0) k d (N+1) (8*B+100):=by
 intro g p w hsc hR hp;have hgl:=hR.lt;have HR:=Aa hR;have HSc:=Aa hsc
 have Hr:=Aa (show ∀W,Gl W (.slice A0 xs.length c0) xs->Calls prog 75 #[.slice A0 xs.length c0,.string ⟨(Be k).toArray⟩] W fun e w'=>e=.returned (.tuple #[.agg #[.int .u8 82,nm,.slice A9 fs.length c9],.bool true])/\Below W W w' from fun W hW=>by
  have h:=Fb (.slice A0 xs.length c0) xs k W hW hk;rw[show J6 xs k=some (⟨82,nm,fs⟩,.slice A9 fs.length c9)from by unfold J6;rw[if_pos ⟨hsg,hbs⟩];exact hx]at h;exact h)
 have HFd:=@Aa (∀W,Gl W (.slice A0 xs.length c0) xs->Dv W (.slice A9 fs.length c9) fs) (fun W hW=>by obtain⟨_,_,_,_,_,hf⟩:=hW;exact hf _ (Cu hx).1);have hft:=(Cu hx).2.2;have hkl:(Be k).length<=100:=cj
 have Hfin:=Aa (show ∀(n:Nat) ps,S6 (Af xs) N B fs n ps->n<=8->Jf (Af xs) (N+1) k (.mk 82 [] 0 (ps.map Dr))/\(Bc (.mk 82 [] 0 (ps.map Dr))).length<=8*B+100/\Ci (Af xs) k (.mk 82 [] 0 (ps.map Dr))=.mk (Be k) [82] (ps.map fun r=>r.1.tag) (ps.map fun r=>Ci (Af xs) r.1.kind r.2)from fun n ps h hn=>
  ⟨Jf.rcd hsg hbs hft rfl (fun r hr=>htg _ (h.mem r hr)) h.ok h.ne h.pw,h.len h200 hn,by
   rw[Rm];congr 1
   exact List.map_congr_left fun r hr=>by rw[Fc hft (htg _ (h.mem r hr))]⟩)
 have Hstd:=Aa (fun f (hf:f∈fs) W (hW:Gl W (.slice A0 xs.length c0) xs)=>Nh (.slice A0 xs.length c0) xs hsco f W hW (hfk f hf).1 (hfk f hf).2.1 (hfk f hf).2.2);have Hout:=Aa (fun f (hf:f∈fs) v (hv:Jf (Af xs) N f.kind v) (hl:(Bc v).length<=B) P b W (hW:Fv P W b (Ci (Af xs) f.kind v))=>Zx hsco.1.1 P N f.kind v hv (hfk f hf).1 b W hW (ad hl aH));have Hpw:=Aa hpw;unfold Vs at HH;generalize Be k=kb at *;obtain⟨xv,hxv⟩:∃xv:Value,xv=.slice A0 xs.length c0:=⟨_,rfl⟩
 rw[<-hxv]at HSc Hr HFd HH Hstd ⊢;have HH0:=Aa HH;clear HH hR hsc hk hsg hbs hx hft htg h200 hfk hxv hpw;have Hsco:=Aa hsco;clear hsco;go_enter func48,ntmps48;go_wp2_with fail;refine(Hr.o _ HSc.o).mono ?_;rintro e w1 ⟨rfl,hb1⟩;have HR1:=Aa (HR.o.below hb1);have Hb1:=Aa hb1;have hz1:=hb1.size;clear hb1;have hcv:=fun W=>Mo W (w1.heap.size+1) 1 82;obtain⟨W3,hW3⟩:∃W3,W3=((w1.alloc (.cells #[.int .u8 82,nm,.slice A9 fs.length c9] 86)).alloc (.cells #[.int .u8 82] 5)).alloc (.cells #[kb,([82]:List UInt8),.slice none 0 0,.slice none 0 0] 99):=⟨_,rfl⟩
 have hz3:W3.heap.size=w1.heap.size+3:=ee;have b13:Below w1 w1 W3:=hH
 have HS3:=Aa (show Ej (w1.heap.size+3) (w1.heap.size+2) W3 kb ([82]:List UInt8) (.slice none 0 0) (.slice none 0 0) (.slice none 0 0) (.slice none 0 0) [] []from by
  have:=Ej.new (W:=(w1.alloc (.cells #[.int .u8 82,nm,.slice A9 fs.length c9] 86)).alloc (.cells #[.int .u8 82] 5)) (T:=99) kb ([82]:List UInt8);rw[<-hW3]at this;simpa using this)
 have HR3:=Aa (HR1.o.below b13);have Hg3:=@Aa (w.grownBy W3 (some g)) (By (Hb1.o.trans (b13.mono Hb1.o.size)) _);have HX3:=@Aa (Gl W3 xv xs) (HSc.o.below (Hb1.o.trans (b13.mono Hb1.o.size)));have X2:=@Aa (W3.cell? (w1,2)=some (.slice A9 fs.length c9)) fP;have Hw3:=Aa hW3;clear hW3 b13 HR1;go_upto_region 14 with fail
 rw[<-Hw3.o];clear hcv Hw3;go_wp2_with fail;go_loopw [13] (fun i wr=>∃(n q:Nat) (A2:Option Addr) (c2:Nat) (A3:Option Addr) (c3:Nat) (ps:List (Fd × Vl)) (xk:List (Nat × SV)),i=(n:Int)/\n<=fs.length/\q<=p+n*(B+1)/\Hid (S6 (Af xs) N B fs n ps)/\Hid (xk.map (·.2)=ps.map fun r=>Ci (Af xs) r.1.kind r.2)/\Hid (Fg wr g q)/\Hid (w.grownBy wr (some g))/\Hid (Ej (w1.heap.size+3) (w1.heap.size+2) wr kb ([82]:List UInt8) (.slice A2 ps.length c2) (.slice A2 ps.length c2) (.slice A3 xk.length c3) (.slice A3 xk.length c3) (ps.map fun r=>r.1.tag) xk)/\Hid (wr.cell? (w1,2)=some (.slice A9 fs.length c9))) (fun i _=>fs.length - (intOf i).toNat)
 case atStart=>exact⟨0,p,none,0,none,0,[],[],rfl,ag _,by omega,S6.nil,rfl,HR3.o,Hg3.o,HS3.o,X2.o⟩
 case round=>
  obtain⟨n,q,A2,c2,A3,c3,ps,xk,rfl,hn,hq,hvs,heq,hRr,hgr,hSr,hx2⟩:=hrel;have hXr:=Aa (HSc.o.grown HR.o hgr.o);have hn0:(0:Int)<=(n:Int):=aH;have hqm:n*(B+1)<=8*(B+1):=Nat.mul_le_mul_right _ aH;have hqm7:n<fs.length->n*(B+1)<=7*(B+1):=fun h=>Nat.mul_le_mul_right _ aH;have hxp:xk.length=ps.length:=by have:=congrArg List.length heq.o;simpa using this
  have hpl:=hvs.o.ln;have hxk8:xk.length<=8:=aH;have Hxp:=Aa hxp;clear hxp;have hzr:w1.heap.size+3<=wr.heap.size:=hSr.o.bs;have x2:=hx2.o;by_cases hlt:n<fs.length;rotate_left
  ·have tt:decide ((n:Int)<(fs.length:Int))=false:=aC aH
   have HQ:=Aa (show Ka (Af xs) k (N+1) (8*B+100) w g p (.returned (w1,2,0)) wr from by
    obtain⟨f1,f2,f3⟩:=Hfin.o n ps hvs.o aH;refine⟨w1.heap.size+2,_,q,rfl,f1,f2,by omega,?_,hRr.o,hgr.o⟩;rw[f3,<-heq.o];exact(hSr.o.done (kind:=kb) (text:=[82]) aM aH).mono fun c hc _=>by omega)
   go_wp2_with fail;exact aF (v:=(w1,2,0)) (by simp[results,results48,go_sem]) rfl HQ.o
  have tt:decide ((n:Int)<(fs.length:Int))=true:=aD aH;by_cases hdp:0<d;rotate_left
  ·have td:decide ((0:Int)<d)=false:=aC hdp
   have HQ:=Aa (show Ka (Af xs) k (N+1) (8*B+100) w g p (.returned (w1,2,0)) wr from by
    obtain⟨f1,f2,f3⟩:=Hfin.o n ps hvs.o aH;refine⟨w1.heap.size+2,_,q,rfl,f1,f2,by omega,?_,hRr.o,hgr.o⟩;rw[f3,<-heq.o];exact(hSr.o.done (kind:=kb) (text:=[82]) aM aH).mono fun c hc _=>by omega)
   go_wp2_with fail;exact aF (v:=(w1,2,0)) (by simp[results,results48,go_sem]) rfl HQ.o
  have td:decide ((0:Int)<d)=true:=aD hdp;obtain⟨A5,cc5,e5,hl5,hr5⟩:=HFd.o wr hXr.o;injection e5 with e5 _ e6;subst e5 e6;obtain⟨b5,o5,rfl,hb5,x50,x51,x52,x53⟩:=Dv.at_ hr5 hlt;have Hfm:=Aa (ae hlt);have Hadd:=Aa (fun v=>hvs.o.add (v:=v) hlt Hpw.o);have Hmn:=Aa (HH0.o hdp);have hqm8:=hqm7 hlt;have hwd:IntKind.i64.wrap (d - 1)=d - 1:=IntWalk.i64_in _ aH;have hni:(n:Int)<(fs.length:Int):=aH;have Hfe0:=@Aa (∃f,f=fs[n]) ⟨_,rfl⟩;obtain⟨f,hf⟩:=Hfe0.o;have Hfe:=Aa hf.symm;rw[<-hf]at x50 x51 x52 x53 Hfm Hadd;clear hf Hfe0;clear hr5;go_wp2_with fail;refine(Hmn.o f Hfm.o g q wr hXr.o hRr.o aH).mono ?_;rintro e w5 ⟨b6,v6,q6,rfl,k1,k2,k3,k4,k5,k6⟩;have hgB:g<w1.heap.size+2:=aH;have hz5:=k6.size;have HS5:=Aa (hSr.o.gr k6 hgB);have Hg5:=Aa (Ae hgr.o k6);have HX5:=Aa (HSc.o.grown HR.o Hg5.o);have K1:=Aa k1;have K2:=Aa k2;have K4:=Aa k4;have K5:=Aa k5;have HK5:=@Aa (Px (w1.heap.size+3) (.slice A2 ps.length c2) (.slice A3 xk.length c3) w5 (b6,Ci (Af xs) f.kind v6)) (k4.mono fun c hc _=>⟨by omega,fun e=>by have:=(hSr.o.row.lt c e).2;omega,fun e=>by have:=(hSr.o.tags.lt c e).2;omega⟩);have X25:=@Aa (w5.cell? (w1,2)=some (.slice (some ⟨b5,o5,none⟩) fs.length c9)) (k6.cell hx2.o (fun e=>by injection e with e;simp only at e;omega));have Hft5:=Aa (HFd.o w5 HX5.o);clear k1 k2 k4 k5 k6 x50 x51 x52 x53 x2;go_upto_region 18 with fail
  go_cut [118]from 82 to 143 (fun b14 wx=>∃bb:Bool,b14=.bool bb/\(bb=true->Bc v6≠J4 (Af xs) f)/\Hid (Fg wx g (q6+1))/\Hid (w5.grownBy wx (some g)))
  case first=>
   obtain⟨code,hRL⟩:=K5.o.known;have HPk:=Aa (fun W (h:Pz W g q6 code)=>Qcp g q6 code 3 W h aH aH aH);have x2:=X25.o;obtain⟨A7,c7,e7,hl7,hr7⟩:=Hft5.o;injection e7 with e7 _ e8;subst e7 e8;obtain⟨b7,o7,eA7,hb7,x50,x51,x52,x53⟩:=Dv.at_ hr7 hlt;injection eA7 with eA7;injection eA7 with e7 e8;subst e7 e8;rw[Hfe.o]at x50 x51 x52 x53;have hbg:=K5.o.nostr x51;have hwg:¬(w1.heap.size=g):=aH;have hw5:w1.heap.size<w5.heap.size:=aH;have HO:=Aa (fun W (hg:w5.grownBy W (some g))=>Hout.o f Hfm.o v6 K1.o K2.o _ b6 W (Fv.grown K4.o hg fun c hc e=>by injection e with e;have:wr.heap.size<=c:=hc;omega));have HS:=Aa (fun W (hg:w5.grownBy W (some g))=>Hstd.o f Hfm.o W (HX5.o.grown K5.o hg));unfold Gu at HO;unfold Ja at HS;have Hne:=@Aa ((Bc v6 == J4 (Af xs) f)=false->Bc v6≠J4 (Af xs) f) (fun h=>by simpa using h);generalize Bc v6=pv at *;generalize J4 (Af xs) f=ov at *;obtain⟨be,hbe⟩:∃be,(pv == ov)=be:=⟨_,rfl⟩
   rw[hbe]at Hne;generalize Xy code q6 3=y at *;clear hl7 hr7;by_cases hy:0<y
   ·have ty:decide ((0:Int)<(y:Int))=true:=aD aH;have tyi:(0:Int)<(y:Int):=aH;refine rgQ 1 hRL ?_;refine sq ?_;refine Qo2 HPk.o ?_;iterate 3 refine sq ?_
    refine sqQ HO.o ?_;iterate 6 refine sq ?_
    refine sqQ HS.o ?_;iterate 2 refine sq ?_
    refine dnQ (fun W hW=>?_) aJ;go_wp2_with fail;go_meet
    exact⟨!be,rfl,fun h=>Hne.o aQ,hW.o.rd.any,hW.o.gr⟩
   ·have ty:decide ((0:Int)<(y:Int))=false:=aC aH;have tyi:¬(0:Int)<(y:Int):=aH;refine rgQ 1 hRL ?_;refine sq ?_;refine Qo2 HPk.o ?_;iterate 13 refine sq ?_
    refine dnQ (fun W hW=>?_) aJ;go_wp2_with fail;go_meet
    exact⟨false,rfl,fun h=>Bool.noConfusion h,hW.o.rd.any,hW.o.gr⟩
  case rest=>
   obtain⟨b14,rfl,hne,hR7,hgd⟩:=hcut;obtain⟨W,rfl⟩:∃W:World,W=wc:=⟨_,rfl⟩
   have hR7:=hR7.o;have hgd:=hgd.o;have hz7:=hgd.size;have HR7:=Aa hR7;have Hg7:=Aa (Ae Hg5.o hgd);have HS7:=Aa (HS5.o.gr hgd hgB);have HX7:=Aa (HSc.o.grown HR.o Hg7.o);have HK7:=@Aa (Px (w1.heap.size+3) (.slice A2 ps.length c2) (.slice A3 xk.length c3) W (b6,Ci (Af xs) f.kind v6)) (Fv.grown HK5.o hgd fun c hc e=>by injection e with e;have:=hc.1;omega);have X27:=Aa (hgd.cell X25.o (fun e=>by injection e with e;simp only at e;omega));have Hft7:=Aa (HFd.o W HX7.o);have hq7:q6+1<=p+(n+1)*(B+1):=by rw[Nat.succ_mul];omega
   clear hR7 hgd;cases b14 with
   |false=>
    go_wp2_with fail;go_roundw
    case rel=>exact⟨n+1,q6+1,A2,c2,A3,c3,ps,xk,by go_num,by omega,hq7,hvs.o.skip,heq.o,HR7.o,Hg7.o,HS7.o,X27.o⟩
    case measure=>simp[intOf];omega
   |true=>
    have Hne:=Aa (hne rfl);have Hvs9:=Aa (Hadd.o v6 K1.o Hne.o K2.o);clear hne;go_upto_region 19 with fail
    have HS7d:=Aa (HS7.o.after (Ap _ _).drew);have HK7d:=@Aa (Px (w1.heap.size+3) (.slice A2 ps.length c2) (.slice A3 xk.length c3) W.drew (b6,Ci (Af xs) f.kind v6)) (Fv.after HK7.o (Ap _ _).drew);obtain⟨A7,c7,e7,hl7,hr7⟩:=Hft7.o;injection e7 with e7 _ e8;subst e7 e8;obtain⟨b7,o7,eA7,_,y0,_,_,_⟩:=Dv.at_ hr7 hlt;injection eA7 with eA7;injection eA7 with e7 e8;subst e7 e8;rw[Hfe.o]at y0;have Hcel7:=Aa y0;clear y0 hl7 hr7;refine Bq [119,120,121,122,123,124,125,126,127,128,129,130,131,132,133,999] aL aL aL (fun u=>by dsimp only[Bv,Bs,List.set,am,Nat.reduceAdd])
     (fun ix v W=>match ix with|0=>v=(w1,2,0)|1=>v=(w1,2,0)|2=>v=(w1,2,0)|3=>v=(w1,2,2)|4=>v=.slice A2 ps.length c2|5=>v=(w1,2)|6=>v=.slice (some ⟨b5,o5,none⟩) fs.length c9|7=>v=(n:Int)|8=>v=.pointer (some ⟨b5,o5+n*4,none⟩)|9=>v=.pointer (some ⟨b5,o5+n*4,none⟩)|10=>v=(f.tag:Int)|13=>v=(w1,2,0)|14=>v=(w1,2,2)|_=>True)
     (fun L U W_=>Gc (w1.heap.size+3) (w1.heap.size+2) W.drew kb ([82]:List UInt8) A2 ps.length c2 (.slice A3 xk.length c3) (ps.map fun p=>p.1.tag) xk [(b6,Ci (Af xs) f.kind v6)] f.tag (L 11) (L 12) (L 15) (U 11) (U 12) W_) (fun _ _=>True) (fun _ _ _ _ _ h=>h) (Gc.start) ?_ ?_
    ·repeat (first|exact Ak.nil|(refine Ak.cons ?_ ?_;rotate_left))
     all_goals
      rintro L U V hL hpre hR hun hdep K hK;have HR:=Aa hR;have Hdep:=Aa hdep;clear hun hdep hR;first|(simp[Region.binds]at hpre;done)|simp[Region.binds]at hpre|clear hpre
     iterate 4
      ·exact ip
     ·have h12:L 12=false:=(Az Hdep.o 12 4 rfl hL)
      have x2:=((HR.o.be h12).cell (p:=⟨w1.heap.size+2,2,none⟩) (by have:=HS7.o.lt;simp;omega)).trans ((aB _ _).trans HS7.o.c2);exact lq
     ·exact ip
     ·have hW:=HR.o.p0 (Az Hdep.o 11 10 rfl (Az Hdep.o 10 9 rfl (Az Hdep.o 9 8 rfl (Az Hdep.o 8 6 rfl hL))));subst hW;have x2:=X27.o;exact lq
     ·exact ip
     ·obtain⟨u6,u7⟩:U 6=.slice (some ⟨b5,o5,none⟩) fs.length c9/\U 7=(n:Int):=by first|exact⟨hpre.1.2,hpre.2.2⟩|exact⟨hpre.2.2,hpre.1.2⟩|exact hpre|exact⟨hpre.1,hpre.2⟩
      simp only[u6,u7];go_simp;exact hK _ _ _ rfl Ac HR.o (by simp[Act.put,hpre,u6,u7])
     ·exact ip
     ·have hW:=HR.o.p0 (Az Hdep.o 11 10 rfl hL);subst hW;have x2:=Hcel7.o;exact lq
     ·have h12:L 12=false:=(Az Hdep.o 12 11 rfl hL)
      have h15:L 15=false:=(Az Hdep.o 15 12 rfl h12)
      have hW:=HR.o.p0 hL;subst hW;go_simp;exact hK _ _ _ Ac Ac (Gc.put7 h12 h15) aI
     ·obtain⟨lv,uv⟩:L 4=true/\U 4=.slice A2 ps.length c2:=by
       exact lZ
      have l11:L 11=true:=by
       exact mi
      have h15:L 15=false:=(Az Hdep.o 15 12 rfl hL)
      obtain⟨hW,u11⟩:=HR.o.p1 l11 hL;subst hW;rw[if_pos cx];have hgl:(ps.map fun p=>p.1.tag).length=ps.length:=aK;refine Fl W.drew (.tmp 123) (.tmp 130) 96 rfl (w1.heap.size+3) 3 (.int .i64 0) 1 8 underlying96 Qdm rfl aJ [(f.tag:Int)] rfl bh (.slice A2 ps.length c2) ps.length (D4 (ps.map fun p=>p.1.tag)) uv u11 (by rw[<-hgl];exact hgl ▸ HS7d.o.tags) aU aH HS7d.o.bs ?_;intro v8 w8 hown hg hwh;obtain⟨hn,A6,c6,e6⟩:=Gc.put8 (u7:=U 11) (ks:=[(b6,Ci (Af xs) f.kind v6)]) l11 h15 HS7d.o (fun x hx=>by rw[aq]at hx;subst hx;exact HK7d.o) fI hg hwh;exact mj
     iterate 2
      ·exact ip
     ·have l12:L 12=true:=by first|exact hpre|exact hpre.1|exact hpre.2|exact hpre.1.1|exact hpre.1.2|exact hpre.2.1|exact hpre.2.2|exact hpre.2.1.1|exact hpre.2.1.2|exact hpre.2.2.1|exact hpre.2.2.2|exact hpre.2.2.2.1|exact hpre.2.2.2.2
      have l11:L 11=true:=Pc (Az Hdep.o 12 11 rfl) l12;obtain⟨A6,c6,e6,hS6,hb6,hk6⟩:=HR.o.p2 l12 hL;have x2:=hS6.c2;have x3:=hS6.bk.live 2;have x4:=hS6.lt;go_simp;exact hK undef _ _ Ac Ac (HR.o.put11 l11 l12 hL fL) cH
    rintro L U W6 hL hφ hR;clear hφ;obtain⟨A6,c6,hS6,hb6,hk6⟩:=hR.p3 (hL 15 aJ);have hc6:=hR.p4 (hL 15 aJ);have hk6:=hk6 _ (aq.2 rfl);have eg:(ps.map fun p=>p.1.tag)++[f.tag]=(ps++[(f,v6)]).map fun p=>p.1.tag:=aK;rw[eg]at hS6 hk6;simp only[List.length_map]at hS6 hk6;have hbw:Below (w1.heap.size+2) W W6:=(Ap _ _).drew.trans hb6;have HS6:=Aa hS6;have HK6:=Aa hk6;have HR6:=@Aa (Fg W6 g (q6+1)) (HR7.o.belowg (hbw.mono aH) hbw.size);have Hbw:=Aa hbw;have s3:=hS6.c3;have s4:=hS6.lt;have hxl:xk.length<=200:=aH;clear hR hL hb6 hS6 hk6 eg hbw hc6;go_wp2_with (at_builtin;go_loud (refine Fk _ rfl _ _ 97 rfl (w1.heap.size+3) 62 (.pointer none) 8 underlying97 Tm rfl W6 b6 rfl rfl (.slice A3 xk.length c3) xk.length (D7 (xk.map (·.1))) rfl rfl HS6.o.row aU aH HS6.o.bs ?_;intro v7 w7 hown7 hg7 hwh7;obtain⟨A7,c7,e7,hS7,hb7⟩:=HS6.o.push (x:=(b6,Ci (Af xs) f.kind v6)) HK6.o hown7 hg7 hwh7;subst e7;have HS7:=Aa hS7;have HB7:=Aa hb7;have r3:=hS7.c3;have f3:=hS7.bk.live 3;have hz7:=hS7.lt;clear hS7 hb7 hown7 hg7 hwh7))
    have el:(xk++[(b6,Ci (Af xs) f.kind v6)]).length=xk.length+1:=aK;have el2:(ps++[(f,v6)]).length=ps.length+1:=aK;have hsc:Below (w1.heap.size+2) W6 (w7.setCell ⟨w1.heap.size+2,3,none⟩ (.slice A7 (xk++[(b6,Ci (Af xs) f.kind v6)]).length c7)):=(HB7.o.mono (show w1.heap.size+2<=w1.heap.size+3 by omega)).setCell (p:=⟨w1.heap.size+2,3,none⟩) (An (w1.heap.size+2)) _;have HRf:=Aa (HR6.o.belowg (hsc.mono aH) hsc.size);have Hbf:=Aa (Hbw.o.trans hsc);have Hgf:=Aa (Qcs Hg7.o Hbf.o aH);have Hst:=Aa HS7.o.set3;have Heq:=@Aa ((xk++[(b6,Ci (Af xs) f.kind v6)]).map (·.2)=(ps++[(f,v6)]).map fun r=>Ci (Af xs) r.1.kind r.2) (by simp[heq.o]);rw[el]at HRf Hgf Hbf Hst;go_roundw
    case rel=>exact⟨n+1,q6+1,A6,c6,A7,c7,ps++[(f,v6)],xk++[(b6,Ci (Af xs) f.kind v6)],by go_num,by omega,hq7,Hvs9.o,Heq.o,HRf.o,Hgf.o,by rw[el];exact Hst.o,(Hbf.o.cell (p:=⟨w1.heap.size,2,none⟩) (show w1.heap.size<w1.heap.size+2 by omega)).trans X27.o⟩
    case measure=>simp[intOf];omega
theorem Jf.mono{S:List Ty}{n m:Nat}{k:Kd}{v:Vl}(h:Jf S n k v)(hm:n<=m):Jf S m k v:=(G8 S n k v h m).2 (ad ((G8 S n k v h n).1 h) hm)
theorem Vs.mono{xs:List (Ty × Value)}{xv:Value}{k:Kd}{d:Int}{N B N' B':Nat}(h:Vs xs xv k d N B)(hN:N<=N')(hB:B<=B'):Vs xs xv k d N' B':=fun g p W h1 h2 hp=>
 (h g p W h1 h2 aH).mono (by rintro e w' ⟨b,v,q,e1,k1,k2,k3,k4,k5,k6⟩;exact⟨b,v,q,e1,k1.mono hN,by omega,by omega,k4,k5,k6⟩)
theorem Qcu(xs:List (Ty × Value))(A0:Option Addr)(c0:Nat)(k:Kd)(hsg:k.signs=[])(hbs:k.base=[64])(d:Int)(N B:Nat)(H:DtC xs (.slice A0 xs.length c0) k d N B):Vs xs (.slice A0 xs.length c0) k d N B:=by
 intro g p w hsc hR hp;have HR:=Aa hR;have HSc:=Aa hsc;obtain⟨r,hr⟩:∃r,Be k=64::r:=⟨k.name++[59],by unfold Be B6;rw[hsg,if_pos hbs];rfl⟩
 unfold DtC at H;rw[hr]at H ⊢;have HC:=Aa H;obtain⟨xv,hxv⟩:∃xv:Value,xv=.slice A0 xs.length c0:=⟨_,rfl⟩
 rw[<-hxv]at HSc HC ⊢;clear H hR hsc hr hxv;go_enter func23,ntmps23;go_wp2_with fail;have hb:Below w w (w.alloc (.cells #[.string ⟨(64::r:List UInt8).toArray⟩,a6,.slice none 0 0,.slice none 0 0] 99)):=(Ap _ _).alloc (An _) _;refine(HC.o g p _ (HSc.o.below hb) (HR.o.below hb) hp).mono ?_;rintro e w2 ⟨b,v,q,rfl,k1,k2,k3,k4,k5,k6⟩;have HF:=@Aa (Ka (Af xs) k N B w g p (.returned b) w2) ⟨b,v,q,rfl,k1,k2,k3,k4.mono fun c hc _=>by simp at hc;omega,k5,Ae (By hb _) k6⟩;clear k1 k2 k3 k4 k5 k6 hb;go_wp2_with fail;exact aF (v:=b) (by simp[results,results23,go_sem]) rfl HF.o
theorem Qaj(xs:List (Ty × Value))(xv:Value)(k:Kd)(hsg:k.signs=[])(hbs:k.base=[110]\/k.base=[116]\/k.base=[102])(d:Int)(N:Nat):Vs xs xv k d (N+1) 100:=fun g p W _ hR hp=>by
 rcases hbs with h|h|h
 ·exact Qpb _ k hsg h xv d N g p W hR aH
 ·exact Qpq _ k hsg h xv d N g p W hR aH
 exact Qps _ k hsg h xv d N g p W hR aH
theorem Qc0{xs:List (Ty × Value)}(hsco:Gy (Af xs))(hv:∀x∈xs,∃A c,x.2=.slice A x.1.fields.length c){n:List UInt8}{t:Ty}(h:Bt (Af xs) n=some t):
  Ft t/\∃A c,D8 xs n=some (t,.slice A t.fields.length c):=by
 cases hx:D8 xs n with
 |none=>rw[Jc,hx]at h;cases h
 |some x=>
  rw[Jc,hx]at h;injection h with h;obtain⟨A,c,e⟩:=hv x (Cu hx).1;subst h;exact⟨hsco.1.1 _ (ap (Cu hx).1),A,c,by rw[<-e]⟩
section
variable (xs:List (Ty × Value)) (A0:Option Addr) (c0:Nat) (hsco:Gy (Af xs)) (hv:∀x∈xs,∃A c,x.2=.slice A x.1.fields.length c)
include hsco hv
theorem Qo0{k:Kd}(hk:Cq k)(hsg:k.signs=[])(hbs:k.base=[64]){t:Ty}(ht:Bt (Af xs) k.name=some t)(h9:t.sort=69)(d:Int)(hd:-1000<=d)(hd2:d<=1000)(N:Nat):Vs xs (.slice A0 xs.length c0) k d (N+1) 100:=by
 obtain⟨ty,A,c,hx⟩:=Qc0 hsco hv ht;obtain⟨st,nm,fs⟩:=t;simp only at h9;subst h9;refine Qcu xs A0 c0 k hsg hbs d _ _ (Qnx xs A0 c0 k hk hsg hbs nm fs A c hx (fun f hf=>Q5 ty.2.2.1.2 hf) (fun f hf=>(ty.2.2.1.1 f hf).2.1) (fun f hf=>by rw[((ty.2.2.1.1 f hf).2.2.2.1 rfl).1];decide) (Nat.pos_of_ne_zero fun e=>?_) ty.2.2.2.1 d hd hd2 N);exact absurd (ty.2.2.2.2 (List.eq_nil_of_length_eq_zero e)) (show ¬(69:UInt8)=82 by decide)
theorem Qoo{k:Kd}(hk:Cq k)(hsg:k.signs=[])(hbs:k.base=[64]){t:Ty}(ht:Bt (Af xs) k.name=some t)(h5:t.sort=85)(d:Int)(hd:-1000<=d)(hd2:d<=1000)(N B:Nat)(H:∀f∈t.fields,0<d\/t.fields.head?=some f->Vs xs (.slice A0 xs.length c0) f.kind (d - 1) N B):Vs xs (.slice A0 xs.length c0) k d (N+1) (B+100):=by
 obtain⟨ty,A,c,hx⟩:=Qc0 hsco hv ht;obtain⟨st,nm,fs⟩:=t;simp only at h5;subst h5;have hne:0<fs.length:=Nat.pos_of_ne_zero fun e=>absurd (ty.2.2.2.2 (List.eq_nil_of_length_eq_zero e)) (show ¬(85:UInt8)=82 by decide);have h1:∀f∈fs,Av fs f.tag=some f:=fun f hf=>Q5 ty.2.2.1.2 hf;have h2:∀f∈fs,f.tag<=200:=fun f hf=>(ty.2.2.1.1 f hf).2.1;have h3:∀f∈fs,(Be f.kind).length<=20:=fun f hf=>ad ((ty.2.2.1.1 f hf).2.2.2.2 (by show ¬(85:UInt8)=69;decide)).1.2.2 aJ;by_cases h0:0<d
 ·exact Qcu xs A0 c0 k hsg hbs d _ _ (Qml xs A0 c0 k hk hsg hbs nm fs A c hx h1 h2 h3 hne ty.2.2.2.1 d hd hd2 N B (fun f hf=>H f hf (.inl h0)) h0)
 exact Qcu xs A0 c0 k hsg hbs d _ _ (Qmm xs A0 c0 k hk hsg hbs nm fs A c hx h1 h2 h3 hne ty.2.2.2.1 d hd hd2 N B (H _ (ae hne) (.inr (by cases fs with|nil=>exact absurd hne aJ|cons f r=>rfl))) h0)
theorem Qo3{k:Kd}(hk:Cq k)(hsg:k.signs=[])(hbs:k.base=[64]){t:Ty}(ht:Bt (Af xs) k.name=some t)(h2:t.sort=82)(d:Int)(hd:-1000<=d)(hd2:d<=1000)(N B:Nat)(hB:100<=B)(hB2:B<=100000000)(H:0<d->∀f∈t.fields,Vs xs (.slice A0 xs.length c0) f.kind (d - 1) N B):Vs xs (.slice A0 xs.length c0) k d (N+1) (8*B+100):=by
 obtain⟨ty,A,c,hx⟩:=Qc0 hsco hv ht;have hmem:=(Cp ht).1;obtain⟨st,nm,fs⟩:=t;simp only at h2;subst h2;have h69:¬(82:UInt8)=69:=aJ;exact Qcu xs A0 c0 k hsg hbs d _ _ (Qn4 xs A0 c0 k hk hsg hbs nm fs A c hx hsco (fun f hf=>Q5 ty.2.2.1.2 hf) (fun f hf=>(ty.2.2.1.1 f hf).2.1) (ty.2.2.1.2.imp fun h=>h.2) (fun f hf=>⟨((ty.2.2.1.1 f hf).2.2.2.2 h69).1,hsco.2.1 _ hmem h69 f hf,ad (Jm (ty.2.2.1.1 f hf)) aJ⟩) ty.2.2.2.1 d hd hd2 N B hB hB2 H)
theorem Qnz:∀(m:Nat) (k:Kd) (d:Int),-990+(m:Int)<=d->d<=0->Cq k->Cc (Af xs) k->Xi (Af xs) m k->Vs xs (.slice A0 xs.length c0) k d (m+2) (900+100*m):=by
 intro m;induction m with
 |zero=>
  intro k d hd h0 hk hr he;cases hs:k.signs with
  |cons c r=>
   rcases Ro hk hs with rfl|rfl
   ·exact Qge xs A0 c0 k r hs hk d aH aH 1 100 (fun h=>absurd h aH) (An _)
   exact Qgq xs A0 c0 k r hs hk d aH aH 1 100 (fun h=>absurd h aH) (An _)
  |nil=>
   rcases hk.2.1 with⟨hb,_⟩|⟨hb,_⟩
   ·obtain⟨t,_,e⟩:=he hs hb;cases e
   exact(Qaj xs _ k hs hb d 1).mono (An _) aH
 |succ m ih=>
  intro k d hd h0 hk hr he;cases hs:k.signs with
  |cons c r=>
   rcases Ro hk hs with rfl|rfl
   ·exact(Qge xs A0 c0 k r hs hk d aH aH 1 100 (fun h=>absurd h aH) (An _)).mono aH aH
   exact(Qgq xs A0 c0 k r hs hk d aH aH 1 100 (fun h=>absurd h aH) (An _)).mono aH aH
  |nil=>
   rcases hk.2.1 with⟨hb,_⟩|⟨hb,_⟩
   ·obtain⟨t,ht,e⟩:=he hs hb;have hmem:=(Cp ht).1;have ty:=hsco.1.1 t hmem;rcases ty.1 with h2|h5|h9
    ·exact(Qo3 xs A0 c0 hsco hv hk hs hb ht h2 d aH aH 1 100 (An _) aH (fun h=>absurd h aH)).mono aH aH
    ·have h69:t.sort≠69:=dS;refine(Qoo xs A0 c0 hsco hv hk hs hb ht h5 d aH aH (m+2) (900+100*m) fun f hf hor=>?_).mono aH aH;rcases hor with h|h
     ·exact absurd h aH
     refine ih f.kind (d - 1) aH aH ((ty.2.2.1.1 f hf).2.2.2.2 h69).1 (hsco.2.1 t hmem h69 f hf) fun hs1 hb1=>?_;unfold Cg Gg at e;rw[if_pos h5]at e;cases hfs:t.fields with
     |nil=>rw[hfs]at h;cases h
     |cons f0 r=>
      rw[hfs]at h e;injection h with h;subst h;simp only at e;rw[if_pos ⟨hs1,hb1⟩]at e;cases hu:Bt (Af xs) f0.kind.name with
      |none=>have:=hsco.2.1 t hmem h69 f0 hf hb1;rw[hu]at this;cases this
      |some u=>rw[hu]at e;exact⟨u,rfl,e⟩
    exact(Qo0 xs A0 c0 hsco hv hk hs hb ht h9 d aH aH 1).mono aH aH
   exact(Qaj xs _ k hs hb d 1).mono aH aH
end
def hiB:Nat->Nat
 |0=>1800
 |j+1=>8*hiB j+100
theorem Qli:∀j,1800<=hiB j
 |0=>An _
 |j+1=>by have:=Qli j;show 1800<=8*hiB j+100;omega
theorem Qhb:∀j,j<=4->hiB j<=8000000:=by
 intro j hj;rcases(show j=0\/j=1\/j=2\/j=3\/j=4 by omega)with rfl|rfl|rfl|rfl|rfl<;>decide
theorem Qhy(xs:List (Ty × Value))(A0:Option Addr)(c0:Nat)(hsco:Gy (Af xs))(hv:∀x∈xs,∃A c,x.2=.slice A x.1.fields.length c):∀(j:Nat) (k:Kd),j<=4->Cq k->Cc (Af xs) k->Vs xs (.slice A0 xs.length c0) k (j:Int) (12+j) (hiB j):=by
 intro j;induction j with
 |zero=>intro k _ hk hr;exact(Qnz xs A0 c0 hsco hv 9 k 0 aH aH hk hr (Xe hsco hr)).mono aH aJ
 |succ j ih=>
  intro k hj hk hr;have e1:(((j+1:Nat):Int) - 1)=(j:Int):=aH;have hg:=Qli j;have hl:=Qhb j aH;have hh:hiB (j+1)=8*hiB j+100:=rfl;have ih2:∀k,Cq k->Cc (Af xs) k->Vs xs (.slice A0 xs.length c0) k (((j+1:Nat):Int) - 1) (12+j) (hiB j):=fun k h1 h2=>by rw[e1];exact ih k aH h1 h2
  rw[hh];cases hs:k.signs with
  |cons c r=>
   have hp:Cq k.part:=(Kc hk).1;rcases Ro hk hs with rfl|rfl
   ·exact Qge xs A0 c0 k r hs hk _ aH aH (12+j) (hiB j) (fun _=>ih2 _ hp hr) aH
   exact Qgq xs A0 c0 k r hs hk _ aH aH (12+j) (hiB j) (fun _=>ih2 _ hp hr) aH
  |nil=>
   rcases hk.2.1 with⟨hb,_⟩|⟨hb,_⟩
   ·have hr1:=hr hb;cases ht:Bt (Af xs) k.name with
    |none=>rw[ht]at hr1;cases hr1
    |some t=>
     have hmem:=(Cp ht).1;have ty:=hsco.1.1 t hmem;rcases ty.1 with h2|h5|h9
     ·have h69:t.sort≠69:=da;exact Qo3 xs A0 c0 hsco hv hk hs hb ht h2 _ aH aH (12+j) (hiB j) aH aH (fun _ f hf=>ih2 _ ((ty.2.2.1.1 f hf).2.2.2.2 h69).1 (hsco.2.1 t hmem h69 f hf))
     ·have h69:t.sort≠69:=dS;exact(Qoo xs A0 c0 hsco hv hk hs hb ht h5 _ aH aH (12+j) (hiB j) fun f hf _=>ih2 _ ((ty.2.2.1.1 f hf).2.2.2.2 h69).1 (hsco.2.1 t hmem h69 f hf)).mono aH aH
     exact(Qo0 xs A0 c0 hsco hv hk hs hb ht h9 _ aH aH 1).mono aH aH
   exact(Qaj xs _ k hs hb _ 1).mono aH aH
theorem Gl.forms{W:World}{v:Value}{xs:List (Ty × Value)}(h:Gl W v xs):∀x∈xs,∃A c,x.2=.slice A x.1.fields.length c:=fun x hx=>by
 obtain⟨_,_,_,_,_,hf⟩:=h;obtain⟨A,c,e,_⟩:=hf x hx;exact⟨A,c,e⟩
def Qah:List (List UInt8):=[[],[48],[44],[125],[45]]
theorem Qjl(g p:Nat)(s kd:List UInt8)(w:World)(h:Fg w g p)(hp:p<=1000000)(hs:s.length<=1000000)(hkd:kd.length<=1000000):
  Calls prog 12 #[g,s,kd] w (Vx (fun l=>l.length<=20000) w g p 40000000):=by
 have hgl:=h.lt;have HR:=Aa h;have Hk:=Aa (fun W=>Pm s kd W aH aH);have Hgood:=Aa (fun S k (e:At s kd=some (S,k))=>Cs e);obtain⟨o,ho⟩:∃o,At s kd=o:=⟨_,rfl⟩
 rw[ho]at Hk Hgood;clear ho h;go_enter func12,ntmps12;go_wp2_with fail;refine(Hk.o _).mono ?_;rintro e w1 ⟨hm,hb1⟩;have HR1:=Aa (HR.o.below hb1);have Hg1:=Aa (By hb1 (some g));clear hb1;cases o with
 |none=>
  obtain⟨A,n,c,rfl⟩:=hm;go_wp2_with fail;go_ret;exact⟨[53],p,rfl,by decide,by omega,HR1.o,Hg1.o⟩
 |some x=>
  obtain⟨v,xs,rfl,hxs,hsc⟩:=hm;obtain⟨S,k⟩:=x;simp only at hxs;subst hxs;obtain⟨g1,_,_,g2,g3,g4⟩:=Hgood.o _ k rfl;subst g3;have hform:=hsc.forms;have HSc:=Aa hsc;obtain⟨A0,c0,rfl,_⟩:=hsc;have HD:=Aa (fun(j:Nat) hj=>Qhy xs A0 c0 g1 hform j k hj g2 g4);have HD4:=@Aa (Vs xs (.slice A0 xs.length c0) k 4 16 8000000) ((Qhy xs A0 c0 g1 hform 4 k (An _) g2 g4).mono (An _) (Qhb 4 (An _)));have Hout:=Aa (fun N v (hv:Jf (Af xs) N k v) (hl:(Bc v).length<=8000000) P b W (hW:Fv P W b (Ci (Af xs) k v))=>Zx g1.1.1 P N k v hv g2 b W hW (ad hl aJ));have Hne:=Aa (fun N v (hv:Jf (Af xs) N k v)=>show 1<=(Bc v).length from by obtain⟨c,r,e,_⟩:=Qek hv;rw[e];simp);unfold Vs at HD HD4;generalize Be k=kb at *;have HB:=Aa Qhb;obtain⟨xv,hxv⟩:∃xv:Value,xv=.slice A0 xs.length c0:=⟨_,rfl⟩
  rw[<-hxv]at HSc HD HD4 ⊢;clear hform g1 g2 g4 hxv Hk Hgood;go_wp2_with fail;refine(HD4.o g p w1 HSc.o HR1.o aH).mono ?_;rintro e w2 ⟨b,v,q,rfl,k1,k2,k3,k4,k5,k6⟩;have Hg2:=Aa k6;have HR2:=Aa k5;have Hs2:=Aa k4;have hv1:=Hne.o _ v k1;have Hok:=Aa k1;clear k1 k4 k5 k6;go_wp2_with fail;refine(Hout.o _ v Hok.o aH _ b w2 Hs2.o).mono ?_;rintro e w3 ⟨rfl,hb3⟩;have HR3:=Aa (HR2.o.below hb3);have Hg3:=Aa (Ae Hg2.o (By hb3 _));clear hb3 Hok Hs2 HR2 Hg2;generalize Bc v=t0 at *;go_wp2_with fail;go_loopw [9,10] (fun tv dv wr=>∃(t:List UInt8) (j q:Nat),tv=t/\dv=(j:Int)/\j<=3/\1<=t.length/\t.length<=8000000/\Hid (j=0->t.length<=14500)/\q<=p+8000000*(4 - j)/\Hid (Fg wr g q)/\Hid (w1.grownBy wr (some g))) (fun _ dv _=>(intOf dv).toNat)
  case atStart=>exact⟨t0,3,q,rfl,rfl,An _,hv1,k2,fun h=>by omega,by omega,HR3.o,Hg3.o⟩
  case round=>
   obtain⟨t,j,q,rfl,rfl,hj,ht1,ht2,ht3,hq,hRr,hgr⟩:=hrel;have hj0:(0:Int)<=(j:Int):=aH;by_cases hgo:150<t.length/\0<j
   ·obtain⟨hlong,hj1⟩:=hgo;have hli:(150:Int)<(t.length:Int):=aH;have hji:(0:Int)<(j:Int):=aH;have hBj:=HB.o j aH;have HSr:=@Aa (Gl wr xv xs) (HSc.o.grown HR1.o hgr.o);go_wp2_with fail;refine(HD.o j aH g q wr HSr.o hRr.o aH).mono ?_;rintro e w4 ⟨b4,v4,q4,rfl,k1,k2,k3,k4,k5,k6⟩;have Hg4:=Aa (Ae hgr.o k6);have HR4:=Aa k5;have Hs4:=Aa k4;have hv4:=Hne.o _ v4 k1;have Hok4:=Aa k1;clear k1 k4 k5 k6;go_wp2_with fail;refine(Hout.o _ v4 Hok4.o aH _ b4 w4 Hs4.o).mono ?_;rintro e w5 ⟨rfl,hb5⟩;have HR5:=Aa (HR4.o.below hb5);have Hg5:=Aa (Ae Hg4.o (By hb5 _));clear hb5 Hok4 Hs4 HR4 Hg4;generalize Bc v4=t4 at *;have hwd:IntKind.i64.wrap ((j:Int) - 1)=(j:Int) - 1:=IntWalk.i64_in _ aH;go_wp2_with fail;go_roundw
    case rel=>exact⟨t4,j - 1,q4,rfl,by go_num,by omega,hv4,by omega,(fun h=>ad (show t4.length<=hiB 1 from(show j=1 by omega) ▸ k2) aJ),by omega,HR5.o,Hg5.o⟩
    case measure=>simp[intOf];omega
   ·have hlt:t.length<=14500:=by
     by_cases h150:150<t.length
     ·have:j=0:=aH;exact ht3.o this
     omega
    have hdec:(decide ((150:Int)<(t.length:Int))=false)\/(decide ((150:Int)<(t.length:Int))=true/\j=0):=by
     by_cases h150:150<t.length
     ·exact .inr ⟨aD aH,by omega⟩
     exact .inl (aC aH)
    have hti:(t.length:Int)<=14500:=aH;clear hgo ht3;obtain⟨W6,rfl⟩:∃W6:World,W6=wr:=⟨_,rfl⟩
    rcases hdec with hd1|⟨hd1,rfl⟩<;>
    ·go_wp2_with fail;refine(Bp g q 24 _ hRr.o aH aH aH).mono ?_;rintro e w8 ⟨z,rfl,hz1,_,hR8,hg8⟩;have HR8:=Aa hR8;have Hg8:=Aa (Ae Hg1.o (Ae hgr.o hg8));have hg8l:=hR8.lt;clear hR8 hg8 hz1;by_cases hz0:z=0
     ·subst hz0;go_wp2_with fail;refine(Bp g (q+1) _ _ HR8.o aH aH aH).mono ?_;rintro e w9 ⟨k,rfl,hk1,_,hR9,hg9⟩;have hk1:=hk1 aH;have hk:k<t.length:=aH;have i5:(0:Int)<=(k:Int):=aH;have i6:(k:Int)<(t.length:Int):=aH;obtain⟨q9,hq9,HR9⟩:∃q9,q9<=q+2/\Hid (Fg w9 g q9):=⟨_,by omega,Aa hR9⟩
      have Hg9:=Aa (Ae Hg8.o hg9);clear hR9 hg9 HR8 Hg8;have hwr:IntKind.i64.wrap ((k:Int)+1)=(k:Int)+1:=IntWalk.i64_in _ aH;go_wp2_with fail;refine Jo [47,48,49,50,51,52,53,54,55,56,57,58,59,60,6]
       (fun ix v W=>match ix with|0=>v=(t:List UInt8)|1=>v=(k:Int)|2=>v=(t.take k:List UInt8)|3=>∃b,v=.slice (some ⟨b,0,none⟩) 5 5|4=>v=g|5=>∃y:Nat,v=(y:Int)/\y<5|6=>∃b y,v=.pointer (some ⟨b,y,none⟩)|7=>∃i,i∈Qah/\v=.string ⟨i.toArray⟩|8=>∃i,i∈Qah/\v=.string ⟨(t.take k++i).toArray⟩|9=>v=(t:List UInt8)|10=>v=(k:Int)|11=>v=.int .i64 ((k:Int)+1)|12=>v=.string ⟨(t.drop (k+1):List UInt8).toArray⟩|13=>∃i,i∈Qah/\v=.string ⟨(t.take k++(i++t.drop (k+1))).toArray⟩|14=>∃i,i∈Qah/\v=.string ⟨(t.take k++(i++t.drop (k+1))).toArray⟩|_=>True)
       (fun L U W=>Fg W g (if L 5=true then q9+1 else q9)/\w.grownBy W (some g)/\(L 3=true->∃b,U 3=.slice (some ⟨b,0,none⟩) 5 5/\b≠g/\Kh W b Qah)/\(L 6=true->∃b y,U 6=.pointer (some ⟨b,y,none⟩)/\b≠g/\y<5/\Kh W b Qah)) (⟨by simpa using HR9.o.ddrew,Jd Hg9.o,fun h=>Bool.noConfusion h,fun h=>Bool.noConfusion h⟩) ?_ ?_
      ·repeat (first|exact Ak.nil|(refine Ak.cons ?_ ?_;rotate_left))
       all_goals
        rintro L U W hL hpre HR Hdep K hK;obtain⟨hR0,hG0,R3,R6⟩:=HR.o;first|(simp[Region.binds]at hpre;done)|simp[Region.binds]at hpre|clear hpre
       iterate 2
        ·exact j5
       ·exact j8
       ·have hgl:=hR0.lt;go_simp;exact hK _ _ _ ⟨_,rfl⟩ Ac ⟨by simpa using hR0.dalloc _,Ae hG0 (World.grownBy_alloc W _ _),fun _=>⟨W.heap.size,rfl,by omega,Kh.new W Qah⟩,fun h=>by obtain⟨b,y,q1,q2,q3,q4⟩:=R6 aQ;exact⟨b,y,by simpa using q1,q2,q3,q4.grown (World.grownBy_alloc W _ (some g)) q2⟩⟩ rfl
       ·exact j5
       ·go_simp;have hR1:Fg W g q9:=by simpa [hL]using hR0
        refine(Bp g q9 5 W hR1 aH aH aH).mono ?_;rintro e w' ⟨y,rfl,hy1,_,hRy,hgy⟩;exact hK _ _ _ ⟨y,rfl,by omega⟩ Ac ⟨by simpa using hRy,Ae hG0 hgy,fun h=>by obtain⟨b,q1,q2,q3⟩:=R3 aQ;exact⟨b,by simpa using q1,q2,q3.grown hgy q2⟩,fun h=>by obtain⟨b,y,q1,q2,q3,q4⟩:=R6 aQ;exact⟨b,y,by simpa using q1,q2,q3,q4.grown hgy q2⟩⟩ aI
       ·obtain⟨⟨l3,_⟩,l5,y,u5,hy⟩:=hpre;obtain⟨b,u3,hb,hT⟩:=R3 l3;have y1:(0:Int)<=(y:Int):=aH;have y2:(y:Int)<5:=aH;go_simp;exact hK _ _ _ ⟨b,y,rfl⟩ Ac ⟨by simpa using hR0,hG0,fun h=>by obtain⟨b,q1,q2,q3⟩:=R3 aQ;exact⟨b,by simpa using q1,q2,q3⟩,fun _=>⟨b,y,rfl,hb,hy,hT⟩⟩ (by simp[Act.put,u3,u5])
       ·obtain⟨l6,_⟩:=hpre;obtain⟨b,y,u6,hb,hy,hT⟩:=R6 l6;obtain⟨s7,hm7,hc7⟩:=hT.cell (show y<Qah.length from hy);go_simp;exact hK _ _ _ ⟨s7,hm7,rfl⟩ Ac ⟨by simpa using hR0,hG0,fun h=>by obtain⟨b,q1,q2,q3⟩:=R3 aQ;exact⟨b,by simpa using q1,q2,q3⟩,fun h=>by obtain⟨b,y,q1,q2,q3,q4⟩:=R6 aQ;exact⟨b,y,by simpa using q1,q2,q3,q4⟩⟩ (by simp[Act.put,u6])
       ·obtain⟨⟨_,u2⟩,_,i,hi,u7⟩:=hpre;have hil:i.length<=1:=(show ∀i∈Qah,i.length<=1 by decide) i hi;go_simp;rw[if_neg aM];go_simp;exact hK _ _ _ ⟨i,hi,rfl⟩ Ac ⟨by simpa using hR0,hG0,fun h=>by obtain⟨b,q1,q2,q3⟩:=R3 aQ;exact⟨b,by simpa using q1,q2,q3⟩,fun h=>by obtain⟨b,y,q1,q2,q3,q4⟩:=R6 aQ;exact⟨b,y,by simpa using q1,q2,q3,q4⟩⟩ (by simp[Act.put,u2,u7])
       iterate 3
        ·exact j5
       ·exact j8
       ·obtain⟨⟨_,i,hi,u8⟩,_,u12⟩:=hpre;have hil:i.length<=1:=(show ∀i∈Qah,i.length<=1 by decide) i hi;go_simp;rw[if_neg aM];go_simp;exact hK _ _ _ ⟨i,hi,rfl⟩ Ac ⟨by simpa using hR0,hG0,fun h=>by obtain⟨b,q1,q2,q3⟩:=R3 aQ;exact⟨b,by simpa using q1,q2,q3⟩,fun h=>by obtain⟨b,y,q1,q2,q3,q4⟩:=R6 aQ;exact⟨b,y,by simpa using q1,q2,q3,q4⟩⟩ (by simp[Act.put,u8,u12])
       ·obtain⟨⟨_,i,hi,u13⟩,hrest⟩:=hpre;go_simp;exact hK _ _ _ ⟨i,hi,rfl⟩ Ac ⟨by simpa using hR0,hG0,fun h=>by obtain⟨b,q1,q2,q3⟩:=R3 aQ;exact⟨b,by simpa using q1,q2,q3⟩,fun h=>by obtain⟨b,y,q1,q2,q3,q4⟩:=R6 aQ;exact⟨b,y,by simpa using q1,q2,q3,q4⟩⟩ (by simp[Act.put,u13,hrest])
      rintro L U W hL hφ hR;obtain⟨i,hi,e14⟩:=hφ 14 aJ;simp only[e14];have hR0:Fg W g (q9+1):=by simpa [hL 5 aJ]using hR.1
      have hG0:=hR.2.1;clear hφ hL hR;go_wp2_with fail;go_ret;have hil:i.length<=1:=(show ∀i∈Qah,i.length<=1 by decide) i hi;exact⟨_,q9+1,rfl,by simp;omega,by omega,hR0,hG0⟩
     have tz:((z:Int) == 0)=false:=aM;clear hz0;go_wp2_with fail;go_ret;exact⟨t,q+1,rfl,by omega,by omega,HR8.o,Hg8.o⟩
def Qkq(w:World)(e:Ending)(w':World):Prop:=∃(vs:List Fw) (gb cc x:Nat) (t:List UInt8),e=.returned (.tuple #[.agg #[.slice (gb,0) vs.length cc],(x:Int),t])/\Gz w' (.slice (gb,0) vs.length cc) vs/\Ta vs/\1<=vs.length/\vs.length<=3/\x<=5/\t.length<=20000/\Below w w w'
theorem Qhj{W W':World}{gb n c g:Nat}{vs:List Fw}(h:Gz W (.slice (gb,0) n c) vs)(hg:W.grownBy W' (some g))(hne:gb≠g):Gz W' (.slice (gb,0) n c) vs:=by
 obtain⟨A,c2,e,h1,h2,h3⟩:=h;injection e with e1 e2 e3;subst e1 e2 e3;refine⟨_,_,rfl,h1,h2,fun hp=>?_⟩;obtain⟨b,off,e,hb,hc⟩:=h3 hp;injection e with e;injection e with e4 e5;subst e4 e5;exact⟨gb,0,rfl,ac hb hg.size,fun j x hx=>(World.cell?_of_block (a:=⟨gb,0+j,none⟩) (hg.block gb hb (fun e=>by injection e with e;exact hne e))).trans (hc j x hx)⟩
structure Qu(Br B9 gb cc n:Nat)(W0 W:World)(vs:List Fw):Prop where
 bel:Below Br W0 W
 row:Gz W (.slice (gb,0) n cc) vs
 reg:W.cell? (B9,0)=some (.slice (gb,0) n cc)
 rf:W.frozen? (Br,0)=false
 rc:∃u,W.cell? (Br,0)=some u
 lt:Br<B9/\B9<W.heap.size/\Br<gb
theorem Qu.below{Br B9 gb cc n:Nat}{W0 W W':World}{vs:List Fw}(h:Qu Br B9 gb cc n W0 W vs)(hb:Below W W W'):Qu Br B9 gb cc n W0 W' vs:=by
 obtain⟨l1,l2,l3⟩:=h.lt;obtain⟨hc,hf,hz⟩:=Cj hb;refine⟨h.bel.trans (hb.mono aH),h.row.below hb,(hc _ _ l2).trans h.reg,(hf _ _ aH).trans h.rf,?_,⟨l1,hz _ l2,l3⟩⟩;obtain⟨u,hu⟩:=h.rc;exact⟨u,(hc _ _ aH).trans hu⟩
theorem Qu.setR{Br B9 gb cc n:Nat}{W0 W:World}{vs:List Fw}(h:Qu Br B9 gb cc n W0 W vs)(u:Value):Qu Br B9 gb cc n W0 (W.setCell ⟨Br,0,none⟩ u) vs:=by
 obtain⟨l1,l2,l3⟩:=h.lt;obtain⟨u0,hu⟩:=h.rc;refine⟨h.bel.setCell (An _) _,Qkc h.row aH u,?_,by simpa using h.rf,⟨u,World.cell?_setCell_same _ _ _ (by rw[hu])⟩,⟨l1,by simpa using l2,l3⟩⟩;rw[World.cell?_setCell_other _ _ _ _ bQ];exact h.reg
theorem Qu.turn{Br B9 gb cc n g:Nat}{W0 W W':World}{vs:List Fw}(h:Qu Br B9 gb cc n W0 W vs)(hg:W.grownBy W' (some g))(h1:Br<g)(h2:g<B9)(h3:g≠gb):Qu Br B9 gb cc n W0 W' vs:=by
 obtain⟨l1,l2,l3⟩:=h.lt;have hz:=hg.size;obtain⟨a1,a2⟩:=Ma (b:=Br) (o:=0) aH hg (fun e=>by injection e with e;omega);obtain⟨b1,_⟩:=Ma (b:=B9) (o:=0) l2 hg (fun e=>by injection e with e;omega);obtain⟨u,hu⟩:=h.rc;exact⟨h.bel.grown hg aH (fun k hk=>by injection hk with hk;omega),Qhj h.row hg (fun e=>h3 e.symm),b1.trans h.reg,a2.trans h.rf,⟨u,a1.trans hu⟩,⟨l1,by omega,l3⟩⟩
theorem Rn(A:Option Addr)(n c:Nat)(l:List UInt8)(w:World)(h:Cd w A n (Ew l))(hc:n<=c)(hcm:c<=maxLen):
  Calls prog 4 #[.slice A n c] w (Qkq w):=by
 go_enter func4,ntmps4;go_wp2_with fail;refine(Qg4 A n c l _ (h.alloc _) hc hcm).mono ?_;rintro e w0 ⟨g,rfl,hR,hgb,hb0⟩;have HR:=Aa hR;have hz0:w.heap.size<w0.heap.size:=by have:=hb0.size;simp at this;omega
 have hgb':w.heap.size+1<=g:=by simpa using hgb
 have Hb0:=Aa (((Ap w.heap.size w).alloc (An _) (.cells #[.slice none 0 0] 25)).trans (hb0.mono aK));have r0:w0.cell? (w,0)=some (.slice none 0 0):=(hb0.cell (p:=⟨w.heap.size,0,none⟩) aK).trans gB;have r1:w0.frozen? (w,0)=false:=((Cj hb0).2.1 w 0 aK).trans gB;have Rr:=Aa (And.intro r0 r1);clear hR h hb0 r0 r1 hgb;go_wp2_with fail;refine(Yf g 0 _ HR.o aH).mono ?_;rintro e w2 ⟨vs,v,q,rfl,hv,⟨gb,cc,rfl,hgb2⟩,hsv,hp,hle,hq,hR2,hg2⟩;have hst:Qu w.heap.size w2.heap.size gb cc vs.length w (w2.alloc (.cells #[.slice (gb,0) vs.length cc] 25)) vs:=by
  obtain⟨r0,r1⟩:=Rr.o;have hzz:=hg2.size;obtain⟨a1,a2⟩:=Ma (b:=w.heap.size) (o:=0) aH hg2 (fun e=>by injection e with e;omega);have hba:Below w2 w2 (w2.alloc (.cells #[.slice (gb,0) vs.length cc] 25)):=(Ap _ _).alloc (An _) _;obtain⟨hcc,hff,_⟩:=Cj hba;refine⟨(Hb0.o.grown hg2 Hb0.o.size (fun k hk=>by injection hk with hk;omega)).trans (hba.mono aH),hv.below hba,by simp,(hff _ _ aH).trans (a2.trans r1),⟨_,(hcc _ _ aH).trans (a1.trans r0)⟩,⟨by omega,by simp,by omega⟩⟩
 have HSt:=Aa hst;have HR3:=Aa (hR2.below ((Ap _ _).alloc (An _) (.cells #[.slice (gb,0) vs.length cc] 25)));have Hsv:=Aa hsv;have hg9:g<w2.heap.size:=hR2.lt;have hgne:g≠gb:=by have:=HR.o.lt;omega
 clear hst hR2 hg2 hv HR Hb0 Rr hsv;obtain⟨nv,hnv⟩:∃nv,nv=vs.length:=⟨_,rfl⟩
 rw[<-hnv]at HSt HR3;have Hnv:=Aa hnv;rw[<-hnv]at hp hle ⊢;clear hnv;have hwn:IntKind.i64.wrap ((nv:Int)+2)=(nv:Int)+2:=IntWalk.i64_in _ aH;go_wp2_with fail;refine(Bp g q ((nv:Int)+2) _ HR3.o aH aH aH).mono ?_;rintro e w4 ⟨x,rfl,hx1,_,hR4,hg4⟩;have hx5:x<nv+2:=by have:=hx1 aH;omega
 have HS:=Aa (HSt.o.turn hg4 aH hg9 hgne);have HR4:=Aa hR4;have hz4:w2.heap.size<w4.heap.size:=by have:=hg4.size;simp at this;omega
 clear hR4 hg4 hx1 HSt HR3 hwn;have z0:w4.cell? (w2,0)=some (.slice (gb,0) nv cc):=HS.o.reg;by_cases hin:1<=x/\x<=nv;rotate_left
 ·have hdec:decide ((x:Int)<1)=true\/(decide ((x:Int)<1)=false/\decide (nv<x)=true):=by
   by_cases h1:1<=x
   ·exact .inr ⟨aC aH,aD aH⟩
   exact .inl (aD aH)
  obtain⟨u,hu⟩:=HS.o.rc;have hf:=HS.o.rf;have hfin:=Aa (HS.o.setR (.slice (gb,0) nv cc));clear hin;rcases hdec with hd1|⟨hd1,hd2⟩<;>
  ·try have hd3:decide ((nv:Int)<(x:Int))=true:=by simpa using hd2
   go_wp2_with fail;refine aF (v:=.tuple #[.agg #[.slice (gb,0) nv cc],(x:Int),([53]:List UInt8)]) (by simp[results,results4,go_sem,hu,hf]) rfl ?_;exact⟨vs,gb,cc,x,[53],by rw[Hnv.o],(by have:=hfin.o.row;rw[Hnv.o]at this ⊢;exact this),Hsv.o,by have:=Hnv.o;omega,by have:=Hnv.o;omega,by omega,by decide,hfin.o.bel⟩
 obtain⟨hx1,hxn⟩:=hin;have hd1:decide ((x:Int)<1)=false:=aC aH;have hd2:decide ((nv:Int)<(x:Int))=false:=aC aH;have hd3:decide (nv<x)=false:=aC aH;obtain⟨y,hy⟩:∃y:Fw,vs[x - 1]'(by have:=Hnv.o;omega)=y:=⟨_,rfl⟩
 have hym:y∈vs:=by rw[<-hy];exact ae _
 have Hys:=Aa (Hsv.o y hym);have hwx:IntKind.i64.wrap ((x:Int) - 1)=((x - 1:Nat):Int):=im;have hBr:=HS.o.lt.1;have hj0:(0:Int)<=(x:Int) - 1:=aH;have hj1:(x:Int) - 1<(nv:Int):=aH;have hj2:((x:Int) - 1).toNat=x - 1:=aH;have hi0:(0:Int)<=((x - 1:Nat):Int):=aH;have hi1:((x - 1:Nat):Int)<(nv:Int):=aH;obtain⟨A2,c2,e2,_,_,hcc⟩:=HS.o.row;injection e2 with e3 e4 e5;obtain⟨b',o',e9,hb',v0,v1⟩:=Gz.at_ (e3 ▸ hcc) (show x - 1<vs.length by have:=Hnv.o;omega);injection e9 with e9;injection e9 with e10 e11;subst e10 e11;rw[hy]at v0 v1;simp only[am]at v0 v1;clear e3 e4 e5 hcc hym hy;go_upto_region 7 with fail
 obtain⟨W6,hW6⟩:∃W6,W6=w4.alloc (.cells #[y.1,y.2] 31):=⟨_,rfl⟩
 rw[<-hW6];have hz6:W6.heap.size=w4.heap.size+1:=gz;have hb6:Below w4 w4 W6:=di;have HS6:=Aa ((HS.o.below hb6).below (Ap _ _).drew);have HR6:=Aa ((HR4.o.below hb6).below (Ap _ _).drew);have HY6:=@Aa (W6.drew.rangeAt w4 0 (Mq y)) (Ah (show W6.rangeAt w4 0 (Mq y)by rw[hW6];exact Bk w4 (Mq y) _) (show w4.heap.size<W6.heap.size by omega) (Ap _ _).drew);clear hW6 hb6 z0 v0 v1;refine Jo [36,37,38,39,40,41,42,43,999,3,4]
  (fun ix v W=>match ix with|0=>v=.agg #[.slice (gb,0) nv cc]|1=>v=(x:Int)|2=>v=g|3=>v=w4.heap.size|4=>v=y.1|5=>v=(w4,1)|6=>v=y.2|7=>∃t:List UInt8,v=t/\t.length<=20000|9=>v=(x:Int)|10=>∃t:List UInt8,v=t/\t.length<=20000|_=>True)
  (fun L U W=>Qu w.heap.size w2.heap.size gb cc nv w W vs/\W.rangeAt w4 0 (Mq y)/\(L 7=false->Fg W g (q+1))/\(L 8=true->W.cell? (w,0)=some (.slice (gb,0) nv cc))/\w4.heap.size<W.heap.size) (⟨HS6.o,HY6.o,fun _=>HR6.o,fun h=>Bool.noConfusion h,by show w4.heap.size<W6.heap.size;omega⟩) ?_ ?_
 ·repeat (first|exact Ak.nil|(refine Ak.cons ?_ ?_;rotate_left))
  all_goals
   rintro L U W hL hpre HR Hdep K hK;obtain⟨hst,hry,h7,h8,hlt⟩:=HR.o;have a9:W.cell? (w2,0)=some (.slice (gb,0) nv cc):=hst.reg;have y0:=Ab hry 0 rfl;have y1:=Ab hry 1 rfl;simp only[am]at y0 y1;first|(simp[Region.binds]at hpre;done)|simp[Region.binds]at hpre|clear hpre
  iterate 7
   ·exact ip
  ·have u2:U 2=g:=bH;have u4:U 4=y.1:=bH;have u6:U 6=y.2:=bH;have hys:=Hys.o;simp only[u2,u4,u6];go_simp;refine(Qjl g (q+1) y.1 y.2 W (h7 hL) aH aH aH).mono ?_;rintro e w7 ⟨t,q2,rfl,ht,_,hR7,hg7⟩;exact hK _ _ _ ⟨t,rfl,ht⟩ Ac ⟨hst.turn hg7 aH hg9 hgne,Cz hry hg7 (fun e=>by injection e with e;omega),fun h=>by simp at h,fun h=>by have h8':=h8 aQ;exact(Ma aH hg7 (fun e=>by injection e with e;omega)).1.trans h8',by have:=hg7.size;omega⟩ (by simp[Act.put,hpre,u2,u4,u6])
  ·have u0:U 0=.agg #[.slice (gb,0) nv cc]:=by first|exact hpre.2|exact hpre.1.2|exact hpre.2.1.2|exact hpre.2.2|exact hpre.1
   have l7:L 7=true:=hpre.2.1.1;obtain⟨u,hu⟩:=hst.rc;have hf:=hst.rf;have hq:=hst.setR (.slice (gb,0) nv cc);have hc9:(W.setCell ⟨w.heap.size,0,none⟩ (.slice (gb,0) nv cc)).cell? (w,0)=some (.slice (gb,0) nv cc):=World.cell?_setCell_same _ _ _ (by rw[hu]);have hgs:=Jj W ⟨w.heap.size,0,none⟩ (.slice (gb,0) nv cc);simp only[u0];go_simp;exact hK undef _ _ Ac Ac ⟨hq,Cz hry hgs (fun e=>by injection e with e;simp at e;omega),fun h=>by simp[l7]at h,fun _=>hc9,by simpa using hlt⟩ (by simp[Act.put,hpre,u0])
  ·exact ip
  ·obtain⟨t,u7,ht⟩:∃t:List UInt8,U 7=t/\t.length<=20000:=bH;simp only[u7];go_simp;exact hK _ _ _ ⟨t,rfl,ht⟩ Ac HR.o gf
 rintro L U W hL hφ hR;obtain⟨t10,e10,ht10⟩:=hφ 10 aJ;have e9:U 9=(x:Int):=hφ 9 aJ;simp only[e9,e10];have k8:=hR.2.2.2.1 (hL 8 aJ);have Hst:=Aa hR.1;clear hφ hL hR;go_wp2_with fail;refine aF (v:=.tuple #[.agg #[.slice (gb,0) nv cc],(x:Int),t10]) (by simp[results,results4,go_sem,k8]) rfl ?_;exact⟨vs,gb,cc,x,t10,by rw[Hnv.o],(by have:=Hst.o.row;rwa [Hnv.o]at this),Hsv.o,by have:=Hnv.o;omega,by have:=Hnv.o;omega,by omega,ht10,Hst.o.bel⟩
theorem Qkd{K:Vl->Vl × Bool}{ks:List Vl}(h:∀x∈ks,K x=(x,false)):(ks.map fun x=>(K x).1)=ks/\(ks.any fun x=>(K x).2)=false:=by
 induction ks with
 |nil=>exact⟨rfl,rfl⟩
 |cons x ks ih=>
  obtain⟨i1,i2⟩:=ih fun y hy=>h y fy;simp[h x aK,i1,i2]
theorem Qi8{S:List Ty}{K:Kd->Vl->Vl × Bool}{fs:List Fd}{p:Fd × Vl}(hf:Av fs p.1.tag=some p.1)(hk:K p.1.kind p.2=(p.2,false))(hn:Bc p.2≠J4 S p.1):Mi S K fs (Dr p)=([Dr p],false):=by
 have e1:Mi S K fs (Dr p)=match Av fs p.1.tag with|none=>([],true)|some f=>if Bc (K f.kind p.2).1=J4 S f then([],true)else([.mk 61 [] p.1.tag [(K f.kind p.2).1]],(K f.kind p.2).2):=rfl
 rw[e1,hf];simp only;rw[hk,if_neg hn];rfl
theorem Qiq{S:List Ty}{K:Kd->Vl->Vl × Bool}{fs:List Fd}{ps:List (Fd × Vl)}(h:∀p∈ps,Mi S K fs (Dr p)=([Dr p],false)):((ps.map Dr).flatMap fun y=>(Mi S K fs y).1)=ps.map Dr/\((ps.map Dr).any fun y=>(Mi S K fs y).2)=false:=by
 induction ps with
 |nil=>exact⟨rfl,rfl⟩
 |cons p ps ih=>
  obtain⟨i1,i2⟩:=ih fun y hy=>h y fy;simp[h p aK]at i1 i2 ⊢;exact⟨i1,i2⟩
theorem Qlt{S:List Ty}:∀(d:Nat) (a:Kd) (v:Vl),Jf S d a v->Dj S d a v=(v,false):=by
 intro d;induction d with
 |zero=>intro a v h;cases h
 |succ d ih=>
  intro a v h;cases h with
  |@n _ _ m hs hb h=>rw[C7,if_neg dB,if_pos bL]
  |@t _ _ s hs hb h=>rw[C7,if_neg dB,if_pos bL]
  |@f _ _ x hs hb=>rw[C7,if_neg dB,if_pos bL]
  |@lst _ _ r ks hs hl h=>
   rw[C7,if_pos dB];obtain⟨m1,m2⟩:=Qkd (K:=Dj S d a.part) (ks:=ks) fun x hx=>ih _ _ (h x hx);rw[m1,m2]
  |@non _ _ r hs=>rw[C7,if_pos dB];rfl
  |@som _ _ r x hs h=>
   rw[C7,if_pos dB];simp[ih _ _ h]
  |@enm _ _ u g hs hb ht h9 hf=>
   rw[C7,if_neg dB,if_neg (by rw[hb];simp),ht];simp only;rw[if_neg (show ¬(69:UInt8)=85 by decide),if_neg (show ¬(69:UInt8)=82 by decide)]
  |@uni _ _ u g x hs hb ht h5 hf h=>
   rw[C7,if_neg dB,if_neg (by rw[hb];simp),ht];simp only;rw[if_pos Ac,hf];simp[ih _ _ h]
  |@rcd _ _ u ps hs hb ht h82 hf h hn hp=>
   rw[C7,if_neg dB,if_neg (by rw[hb];simp),ht];simp only;rw[if_neg (show ¬(82:UInt8)=85 by decide),if_pos Ac];obtain⟨m1,m2⟩:=Qiq (S:=S) (K:=Dj S d) (fs:=u.fields) (ps:=ps) fun p hp=>Qi8 (hf p hp) (ih _ _ (h p hp)) (hn p hp);rw[m1,m2]
end
structure Xc(W1:World)(vk vt x3 x5:Value)(l3 l5 l6 l7 l10:Bool)(u3 u5 u6 u7 u10:Value)(W:World):Prop where
 be:Below W1 W1 W
 s3:l3=true->∃B,u3=.slice (some ⟨B,0,none⟩) 1 1/\W1.heap.size<=B/\B<W.heap.size/\W.cell? ⟨B,0,none⟩=some x3
 s5:l5=true->∃B,u5=.slice (some ⟨B,0,none⟩) 1 1/\W1.heap.size<=B/\B<W.heap.size/\W.cell? ⟨B,0,none⟩=some x5
 s6:l6=true->u6=.agg #[vk,vt,u3,u5]/\l3=true/\l5=true
 s7:l7=true->l6=true/\∃B,u7=.pointer (some ⟨B,0,none⟩)/\W1.heap.size<=B/\B<W.heap.size/\W.cell? ⟨B,0,none⟩=some vk/\W.cell? ⟨B,1,none⟩=some vt/\W.cell? ⟨B,2,none⟩=some u3/\W.cell? ⟨B,3,none⟩=some u5
 s10:l10=true->u10=u7/\l7=true
section
variable {W1 W W':World} {vk vt x3 x5 u3 u5 u6 u7 u10:Value} {l3 l5 l6 l7 l10:Bool}
theorem Xc.after(h:Xc W1 vk vt x3 x5 l3 l5 l6 l7 l10 u3 u5 u6 u7 u10 W)(hb:Below W W W'):Xc W1 vk vt x3 x5 l3 l5 l6 l7 l10 u3 u5 u6 u7 u10 W':=by
 have hc:∀b o,b<W.heap.size->W'.cell? ⟨b,o,none⟩=W.cell? ⟨b,o,none⟩:=fun b o hb'=>hb.cell (p:=⟨b,o,none⟩) hb';refine⟨h.be.trans (hb.mono h.be.size),fun e=>?_,fun e=>?_,h.s6,fun e=>?_,h.s10⟩
 ·obtain⟨B,e1,e2,e3,e4⟩:=h.s3 e;exact ml
 ·obtain⟨B,e1,e2,e3,e4⟩:=h.s5 e;exact ml
 obtain⟨e0,B,e1,e2,e3,e4,e5,e6,e7⟩:=h.s7 e;exact⟨e0,B,e1,e2,ac e3 hb.size,(hc _ _ e3).trans e4,(hc _ _ e3).trans e5,(hc _ _ e3).trans e6,(hc _ _ e3).trans e7⟩
theorem Xc.start:Xc W1 vk vt x3 x5 false false false false false u3 u5 u6 u7 u10 W1.drew:=
 ⟨(Ap _ _).drew,fun h=>Bool.noConfusion h,fun h=>Bool.noConfusion h,fun h=>Bool.noConfusion h,fun h=>Bool.noConfusion h,fun h=>Bool.noConfusion h⟩
theorem Xc.no3(h:Xc W1 vk vt x3 x5 l3 l5 l6 l7 l10 u3 u5 u6 u7 u10 W)(e:l3=false\/l5=false\/l6=false):l6=false/\l7=false:=by
 have h6:l6=false:=by
  cases l6 with
  |false=>rfl
  |true=>
   obtain⟨_,a,b⟩:=h.s6 rfl;subst a b;rcases e with e|e|e<;>cases e
 refine⟨h6,?_⟩;cases l7 with
 |false=>rfl
 |true=>exact absurd (h6.symm.trans (h.s7 rfl).1) aJ
theorem Xc.put3(h:Xc W1 vk vt x3 x5 false l5 l6 l7 l10 u3 u5 u6 u7 u10 W)(T:TypeId):Xc W1 vk vt x3 x5 true l5 l6 l7 l10 (.slice (W,0) 1 1) u5 u6 u7 u10 (W.alloc (.cells #[x3] T)):=by
 obtain⟨h6,h7⟩:=h.no3 (.inl rfl);subst h6 h7;have ha:=h.after ((Ap _ _).alloc (An _) (.cells #[x3] T));exact⟨ha.be,fun _=>⟨_,rfl,h.be.size,by simp,by simp[go_sem]⟩,ha.s5,fun h=>Bool.noConfusion h,fun h=>Bool.noConfusion h,fun e=>absurd (ha.s10 e).2 aJ⟩
theorem Xc.put5(h:Xc W1 vk vt x3 x5 l3 false l6 l7 l10 u3 u5 u6 u7 u10 W)(T:TypeId):Xc W1 vk vt x3 x5 l3 true l6 l7 l10 u3 (.slice (W,0) 1 1) u6 u7 u10 (W.alloc (.cells #[x5] T)):=by
 obtain⟨h6,h7⟩:=h.no3 (.inr (.inl rfl));subst h6 h7;have ha:=h.after ((Ap _ _).alloc (An _) (.cells #[x5] T));exact⟨ha.be,ha.s3,fun _=>⟨_,rfl,h.be.size,by simp,by simp[go_sem]⟩,fun h=>Bool.noConfusion h,fun h=>Bool.noConfusion h,fun e=>absurd (ha.s10 e).2 aJ⟩
theorem Xc.put6(h:Xc W1 vk vt x3 x5 l3 l5 false l7 l10 u3 u5 u6 u7 u10 W)(h3:l3=true)(h5:l5=true){v:Value}(hv:Value.agg #[vk,vt,u3,u5]=v):Xc W1 vk vt x3 x5 l3 l5 true l7 l10 u3 u5 v u7 u10 W:=by
 subst hv;obtain⟨_,h7⟩:=h.no3 (.inr (.inr rfl));subst h7;exact⟨h.be,h.s3,h.s5,fun _=>⟨rfl,h3,h5⟩,fun h=>Bool.noConfusion h,h.s10⟩
theorem Xc.put7(h:Xc W1 vk vt x3 x5 l3 l5 l6 false l10 u3 u5 u6 u7 u10 W)(h6:l6=true)(T:TypeId){o:Obj}(ho:Obj.cells #[vk,vt,u3,u5] T=o):Xc W1 vk vt x3 x5 l3 l5 l6 true l10 u3 u5 u6 W.heap.size u10 (W.alloc o):=by
 subst ho;have ha:=h.after ((Ap _ _).alloc (An _) (.cells #[vk,vt,u3,u5] T));exact⟨ha.be,ha.s3,ha.s5,ha.s6,fun _=>⟨h6,_,rfl,h.be.size,by simp,by simp[go_sem],by simp[go_sem],by simp[go_sem],by simp[go_sem]⟩,fun e=>absurd (ha.s10 e).2 aJ⟩
theorem Xc.put10(h:Xc W1 vk vt x3 x5 l3 l5 l6 l7 l10 u3 u5 u6 u7 u10 W)(h7:l7=true):Xc W1 vk vt x3 x5 l3 l5 l6 l7 true u3 u5 u6 u7 u7 W:=⟨h.be,h.s3,h.s5,h.s6,h.s7,fun _=>⟨rfl,h7⟩⟩
theorem Xc.at_{kind text:List UInt8}{g b:Nat}{sv:SV}{P:Nat->Prop}(h:Xc W1 kind text (g:Int) b l3 l5 l6 l7 l10 u3 u5 u6 u7 u10 W)(h10:l10=true)(hP:∀c,W1.heap.size<=c->P c)(hs:Fv P W1 b sv):
  ∃B,u10=.pointer (some ⟨B,0,none⟩)/\Fv P W B (.mk kind text [g] [sv]):=by
 obtain⟨e10,h7⟩:=h.s10 h10;obtain⟨h6,B,e1,e2,e3,e4,e5,e6,e7⟩:=h.s7 h7;obtain⟨_,h3,h5⟩:=h.s6 h6;obtain⟨B3,f1,f2,f3,f4⟩:=h.s3 h3;obtain⟨B5,g1,g2,g3,g4⟩:=h.s5 h5;refine⟨B,e10.trans e1,?_⟩;rw[f1]at e6;rw[g1]at e7;refine .mk kind text [g] (B3,0) (B5,0) 1 1 [(b,sv)] rfl e3 (hP _ e2) e4 e5 e6 e7 ⟨by simp[D4],by simp[maxLen],fun _=>⟨B3,0,rfl,f3,fun j u hu=>?_⟩⟩ ⟨by simp[D7],by simp[maxLen],fun _=>⟨B5,0,rfl,g3,fun j u hu=>?_⟩⟩ aK aK (fun g o _ e=>?_) (fun g o _ e=>?_) (fun x hx=>?_)
 ·match j,hu with
  |0,hu=>simp[D4]at hu;subst hu;simpa using f4
  |j+1,hu=>simp[D4]at hu
 ·match j,hu with
  |0,hu=>simp[D7]at hu;subst hu;simpa using g4
  |j+1,hu=>simp[D7]at hu
 ·injection e with e;injection e with e;subst e;exact hP _ f2
 ·injection e with e;injection e with e;subst e;exact hP _ g2
 simp at hx;subst hx;exact hs.after h.be
end
def RU(w1:World)(kb:List UInt8)(g b:Nat)(l:Nat->Bool)(u:Nat->Value)(W:World):Prop:=Xc w1 kb (.string ⟨#[85]⟩) (g:Int) b (l 3) (l 5) (l 6) (l 7) (l 10) (u 3) (u 5) (u 6) (u 7) (u 10) W
theorem RU.to{w1 W:World}{kb:List UInt8}{g b:Nat}{l:Nat->Bool}{u:Nat->Value}(h:RU w1 kb g b l u W):Xc w1 kb (.string ⟨#[85]⟩) (g:Int) b (l 3) (l 5) (l 6) (l 7) (l 10) (u 3) (u 5) (u 6) (u 7) (u 10) W:=h
section
variable {P:Program} {ops:Array Oper} {Q:Exit->Act->World->Prop} {a:Act} {mk:(Nat->Value)->Act} {G:World->Prop} {w1:World} {kb:List UInt8} {g b:Nat}
theorem rgU{id:Nat}(kb:List UInt8)(g b:Nat){w:World}(h:Sq P ops Q a mk (RU w kb g b) (Ms w) ops.toList 0 [])
  (hc:(P.follows .mixedOrders && (List.range ops.size).all (fun i=>((ops[i]?).map fun o=>o.after.all fun e=>!Region.binds .any e || decide (e.on<i)).getD true) && Ge a.tmps.size ops.toList (Dn ops.toList))=true:=by kernel_rfl)
  (hmk:∀u,Bv a (Dn ops.toList) u=mk u:=by intro u;dsimp only[Bv,Dn,Bs,List.set,am,Nat.reduceAdd,List.length_cons,List.length_nil]):(Code.region id ops true).wp P Q a w:=
 rgF (RU w kb g b) (Ms w) (fun _ _ _ h=>Zi h.be) Xc.start h hc hmk
variable {o:Oper} {os:List Oper} {i:Nat} {ps:List (Value->Prop)}
theorem Qpl(k:Sq P ops Q a mk (RU w1 kb g b) G os (i+1) (ps++[fun _=>True]))(h:St P ops Q a mk (RU w1 kb g b) G i o ps (fun _=>True):=by
  intro l u W' hl hp hF hG hi K9 hK;have h:=RU.to hF.o;rw[hl]at h;have hn:=Aa (fun T=>h.put3 T);simp[Region.binds,Ga]at hp;clear hG hi hF h;go_simp;exact hK _ _ _ True.intro (hn.o _) gU):Sq P ops Q a mk (RU w1 kb g b) G (o::os) i ps:=⟨_,h,k⟩
theorem Qo8(k:Sq P ops Q a mk (RU w1 kb g b) G os (i+1) (ps++[fun _=>True]))(h:St P ops Q a mk (RU w1 kb g b) G i o ps (fun _=>True):=by
  intro l u W' hl hp hF hG hi K9 hK;have h:=RU.to hF.o;rw[hl]at h;have hn:=Aa (fun T=>h.put5 T);simp[Region.binds,Ga]at hp;clear hG hi hF h;go_simp;exact hK _ _ _ True.intro (hn.o _) gU):Sq P ops Q a mk (RU w1 kb g b) G (o::os) i ps:=⟨_,h,k⟩
theorem Qpm(k:Sq P ops Q a mk (RU w1 kb g b) G os (i+1) (ps++[fun _=>True]))(h:St P ops Q a mk (RU w1 kb g b) G i o ps (fun _=>True):=by
  intro l u W' hl hp hF hG hi K9 hK;have h:=RU.to hF.o;rw[hl]at h;simp[Region.binds,Ga]at hp;obtain⟨B3,e3,_⟩:=h.s3 dH;obtain⟨B5,e5,_⟩:=h.s5 dH;have hn:=h.put6 dH dH (by rw[e3,e5]);have hn:=Aa hn;clear hG hi hF h;go_simp;exact hK _ _ _ True.intro hn.o (by simp[Act.put,hp,e3,e5])):Sq P ops Q a mk (RU w1 kb g b) G (o::os) i ps:=⟨_,h,k⟩
theorem Qpe(k:Sq P ops Q a mk (RU w1 kb g b) G os (i+1) (ps++[fun _=>True]))(h:St P ops Q a mk (RU w1 kb g b) G i o ps (fun _=>True):=by
  intro l u W' hl hp hF hG hi K9 hK;have h:=RU.to hF.o;rw[hl]at h;simp[Region.binds,Ga]at hp;obtain⟨e6,h3,h5⟩:=h.s6 dH;obtain⟨B3,e3,_⟩:=h.s3 h3;obtain⟨B5,e5,_⟩:=h.s5 h5;rw[e3,e5]at e6;have hn:=Aa (fun T=>h.put7 dH T (by rw[e3,e5]));clear hG hi hF h;go_simp;exact hK _ _ _ True.intro (hn.o _) (by simp[Act.put,hp,e6,e3,e5])):Sq P ops Q a mk (RU w1 kb g b) G (o::os) i ps:=⟨_,h,k⟩
theorem Qov(k:Sq P ops Q a mk (RU w1 kb g b) G os (i+1) (ps++[fun _=>True]))(h:St P ops Q a mk (RU w1 kb g b) G i o ps (fun _=>True):=by
  intro l u W' hl hp hF hG hi K9 hK;have h:=RU.to hF.o;simp[Region.binds,Ga]at hp;have hn:=Aa (h.put10 dH);clear hG hi hF h;go_simp;exact hK _ _ _ True.intro hn.o gU):Sq P ops Q a mk (RU w1 kb g b) G (o::os) i ps:=⟨_,h,k⟩
end
end Go.Proofs.YtbdibdghphdcdaaGreatDoor
