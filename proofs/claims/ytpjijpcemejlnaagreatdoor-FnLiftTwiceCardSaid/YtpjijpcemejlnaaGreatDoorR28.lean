/- Texts joined. Conditions: as each theorem names them. -/
import Derived.Test.YtpjijpcemejlnaaGreatDoorRows
import Derived.ProofKit
import Derived.OpenShut
import Derived.ShutString
import Derived.ChangeOld
import Derived.SliceStrings
import Derived.Test.YtpjijpcemejlnaaGreatDoorR27
import Derived.Test.YtpjijpcemejlnaaGreatDoorR32
import Derived.Test.YtpjijpcemejlnaaGreatDoorR39
set_option maxRecDepth 100000
set_option maxHeartbeats 32000000
set_option linter.unusedVariables false
set_option linter.unusedSimpArgs false
namespace Go.Proofs.YtpjijpcemejlnaaGreatDoor
open Go.RowKit Go.Proofs.Tryz
section
attribute [local go_sem] Qm0 Ql8 Qlz Qj6 ByteArray.mk_append_mk
structure Sd(S:List Ty)(N B:Nat)(fs:List Fd)(k:Nat)(ps:List (Fd × Vl)):Prop where
 at_:∀r∈ps,∃i,i<k/\fs[i]?=some r.1
 ok:∀r∈ps,Gp S N r.1.kind r.2
 ne:∀r∈ps,Ba r.2≠Jf S r.1
 le:∀r∈ps,(Ba r.2).length<=B
 pw:ps.Pairwise fun a b=>a.1.tag<b.1.tag
 ln:ps.length<=k
section
variable {S:List Ty} {N B:Nat} {fs:List Fd} {k:Nat} {ps:List (Fd × Vl)}
theorem Sd.nil:Sd S N B fs 0 []:=⟨by simp,by simp,by simp,by simp,.nil,by simp⟩
theorem Sd.skip(h:Sd S N B fs k ps):Sd S N B fs (k+1) ps:=
 ⟨fun r hr=>by obtain⟨i,h1,h2⟩:=h.at_ r hr;exact⟨i,by omega,h2⟩,h.ok,h.ne,h.le,h.pw,by have:=h.ln;omega⟩
theorem Sd.add(h:Sd S N B fs k ps)(hk:k<fs.length)(hpw:fs.Pairwise fun a b=>a.tag<b.tag){v:Vl}(h1:Gp S N fs[k].kind v)(h2:Ba v≠Jf S fs[k])(h3:(Ba v).length<=B):Sd S N B fs (k+1) (ps++[(fs[k],v)]):=by
 have key:∀{P:Fd × Vl->Prop},(∀r∈ps,P r)->P (fs[k],v)->∀r∈ps++[(fs[k],v)],P r:=fun ha hb r hr=>by
  rcases ag.1 hr with hr|hr
  ·exact ha r hr
  rw[ar]at hr;subst hr;exact hb
 refine⟨key (fun r hr=>by obtain⟨i,h1,h2⟩:=h.at_ r hr;exact⟨i,by omega,h2⟩) ⟨k,by omega,List.getElem?_eq_getElem hk⟩,key h.ok h1,key h.ne h2,key h.le h3,?_,by have:=h.ln;simp;omega⟩;rw[List.pairwise_append];refine⟨h.pw,List.pairwise_singleton _ _,fun a ha b hb=>?_⟩;rw[ar]at hb;subst hb;obtain⟨i,hi,e⟩:=h.at_ a ha;obtain⟨hil,e⟩:=List.getElem?_eq_some_iff.1 e;have:=(List.pairwise_iff_getElem.1 hpw) i k hil hk hi;rw[e]at this;exact this
theorem Sd.mem(h:Sd S N B fs k ps):∀r∈ps,r.1∈fs:=fun r hr=>by
 obtain⟨i,_,e⟩:=h.at_ r hr;obtain⟨hil,e⟩:=List.getElem?_eq_some_iff.1 e;rw[<-e];exact af hil
theorem Sd.len(h:Sd S N B fs k ps)(h200:∀f∈fs,f.tag<=200)(hk:k<=8):(Ba (.mk 82 [] 0 (ps.map Df))).length<=8*B+100:=by
 have key:∀(qs:List (Fd × Vl)),(∀r∈qs,r.1.tag<=200/\(Ba r.2).length<=B)->Dh (qs.map fun r=>Ba (Df r))<=qs.length*(B+5):=by
  intro qs;induction qs with
  |nil=>intro _;simp[Dh]
  |cons r qs ih=>
   intro hq;have h1:=ih fun x hx=>hq x (by simp[hx]);obtain⟨h2,h3⟩:=hq r aN;have h4:(Bb r.1.tag).length<=3:=Db 2 _ aI;have h5:=Jn r;rw[az,D8,List.length_cons,Nat.succ_mul];omega
 have h1:=key ps fun r hr=>⟨h200 _ (h.mem r hr),h.le r hr⟩
 have h2:ps.length*(B+5)<=8*(B+5):=Nat.mul_le_mul_right _ (by have:=h.ln;omega);rw[Mb,List.length_cons,ai,Bt];simp only[List.length_singleton];omega
end
structure Rj(g q:Nat)(W1:World)(V:Nat->Value)(ne:Prop)(L:Nat->Bool)(U:Nat->Value)(W:World):Prop where
 s0:L 1=false->W=W1
 s1:L 1=true->Et W g (q+1)/\W1.grownBy W (some g)
 vs:∀j,4<=j->j<14->L j=true->U 3=.bool true->U j=V j
 fin:L 14=true->U 14=.bool true->ne
 bo:L 14=true->∃b:Bool,U 14=.bool b
section
variable {g q:Nat} {W1 W W':World} {V:Nat->Value} {ne:Prop} {L:Nat->Bool} {U:Nat->Value}
theorem orB{v:Value}(h:v=.bool false\/v=.bool true):∃b:Bool,v=.bool b:=by rcases h with h|h<;>exact⟨_,h⟩
theorem boB(b:Bool):(.bool b:Value)=.bool false\/(.bool b:Value)=.bool true:=by cases b<;>simp
theorem Rj.start(U:Nat->Value):Rj g q W1 V ne (fun _=>false) U W1:=⟨fun _=>rfl,fun h=>Bool.noConfusion h,fun _ _ _ h=>Bool.noConfusion h,fun h=>Bool.noConfusion h,fun h=>Bool.noConfusion h⟩
theorem Rj.low(h:Rj g q W1 V ne L U W){i:Nat}(v:Value)(hi:i<4)(h1:i≠1)(hL:i=3->∀j,4<=j->j<14->L j=false):Rj g q W1 V ne (fun j=>if j=i then true else L j) (fun j=>if j=i then v else U j) W:=by
 have n14:¬14=i:=aI;refine⟨fun e=>h.s0 ?_,fun e=>h.s1 ?_,fun j h4 h14 e e3=>?_,fun e e14=>h.fin ?_ ?_,fun e=>by simpa [n14]using h.bo (by simpa [n14]using e)⟩
 ·simpa [Ne.symm h1]using e
 ·simpa [Ne.symm h1]using e
 ·have hj:¬j=i:=aI;simp only[hj,if_false]at e ⊢;by_cases h3:i=3
  ·rw[hL h3 j h4 h14]at e;cases e
  have:¬3=i:=fun x=>h3 x.symm;simp only[this,if_false]at e3;exact h.vs j h4 h14 e e3
 ·have:¬14=i:=aI;simpa [this]using e
 have:¬14=i:=aI;simpa [this]using e14
theorem Rj.pick(h:Rj g q W1 V ne L U W)(v:Value)(hL:∀j,4<=j->j<15->L j=false)(hR:Et W' g (q+1))(hg:W1.grownBy W' (some g)):Rj g q W1 V ne (fun j=>if j=1 then true else L j) (fun j=>if j=1 then v else U j) W':=by
 refine⟨fun e=>by simp at e,fun _=>⟨hR,hg⟩,fun j h4 h14 e=>?_,fun e=>?_,fun e=>?_⟩
 ·have hj:¬j=1:=aI;simp only[hj,if_false]at e;rw[hL j h4 aI]at e;cases e
 all_goals
  have:=hL 14 aI aI;simp[this]at e
theorem Rj.put(h:Rj g q W1 V ne L U W){i:Nat}(v:Value)(hi:4<=i)(hi2:i<14)(l1:L 1=true)(hv:U 3=.bool true->v=V i)(hb:Below W W W'):Rj g q W1 V ne (fun j=>if j=i then true else L j) (fun j=>if j=i then v else U j) W':=by
 have n1:¬1=i:=aI;have n3:¬3=i:=aI;have n14:¬14=i:=aI;obtain⟨hR,hg⟩:=h.s1 l1;refine⟨fun e=>?_,fun _=>⟨hR.below hb,Ad hg (Ce hb _)⟩,fun j h4 h14 e e3=>?_,fun e e14=>h.fin ?_ ?_,fun e=>by simpa [n14]using h.bo (by simpa [n14]using e)⟩
 ·simp only[n1,if_false]at e;rw[l1]at e;cases e
 ·simp only[n3,if_false]at e3;by_cases hj:j=i
  ·subst hj;simpa using hv e3
  simp only[hj,if_false]at e ⊢;exact h.vs j h4 h14 e e3
 ·simpa [n14]using e
 simpa [n14]using e14
theorem Rj.last(h:Rj g q W1 V ne L U W)(b:Bool)(hv:b=true->ne):Rj g q W1 V ne (fun j=>if j=14 then true else L j) (fun j=>if j=14 then .bool b else U j) W:=by
 refine⟨fun e=>h.s0 dD,fun e=>h.s1 dD,fun j h4 h14 e e3=>?_,fun _ e=>hv dD,fun _=>⟨b,by simp⟩⟩;have hj:¬j=14:=aI;simp only[hj,if_false]at e ⊢;exact h.vs j h4 h14 e (by simpa using e3)
end
theorem Qby{a b c:World}{g n:Nat}(h:a.grownBy b (some g))(hb:Below n b c)(hn:a.heap.size<=n):a.grownBy c (some g):=
 ⟨hb.os.trans h.os,hb.tape.trans h.tape,hb.output.trans h.output,ae h.size hb.size,fun k hk hne=>(hb.block k aI).trans (h.block k hk hne)⟩
theorem Qlx(xs:List (Ty × Value))(A0:Option Addr)(c0:Nat)(k:Kd)(hk:Cm k)(hsg:k.signs=[])(hbs:k.base=[64])(nm:List UInt8)(fs:List Fd)(A9:Option Addr)(c9:Nat)(hx:Ds xs k.name=some (⟨82,nm,fs⟩,.slice A9 fs.length c9))(hsco:Je (Ae xs))(htg:∀f∈fs,Au fs f.tag=some f)(h200:∀f∈fs,f.tag<=200)(hpw:fs.Pairwise fun a b=>a.tag<b.tag)
  (hfk:∀f∈fs,Cm f.kind/\B0 (Ae xs) f.kind/\f.given.length<=1000) (hn8:fs.length<=8) (d:Int) (hd:-1000<=d) (hd2:d<=1000) (N B:Nat) (hB:100<=B) (hB2:B<=100000000) (HH:0<d->∀f∈fs,Tx xs (.slice A0 xs.length c0) f.kind (d - 1) N B):DtC xs (.slice A0 xs.length c0) k d (N+1) (8*B+100):=by
 intro g p w hsc hR hp;have hgl:=hR.lt;have HR:=Aa hR;have HSc:=Aa hsc
 have Hr:=Aa (show ∀W,Fu W (.slice A0 xs.length c0) xs->Calls prog 56 #[.slice A0 xs.length c0,.string ⟨(Bc k).toArray⟩] W fun e w'=>e=.returned (.tuple #[.agg #[.int .u8 82,nm,.slice A9 fs.length c9],.bool true])/\Below W W w' from fun W hW=>by
  have h:=E7 (.slice A0 xs.length c0) xs k W hW hk;rw[show Jw xs k=some (⟨82,nm,fs⟩,.slice A9 fs.length c9)from by unfold Jw;rw[if_pos ⟨hsg,hbs⟩];exact hx]at h;exact h)
 have HFd:=@Aa (∀W,Fu W (.slice A0 xs.length c0) xs->Dj W (.slice A9 fs.length c9) fs) (fun W hW=>by obtain⟨_,_,_,_,_,hf⟩:=hW;exact hf _ (Cp hx).1);have hft:=(Cp hx).2.2;have hkl:(Bc k).length<=100:=cm
 have Hfin:=Aa (show ∀(n:Nat) ps,Sd (Ae xs) N B fs n ps->n<=8->Gp (Ae xs) (N+1) k (.mk 82 [] 0 (ps.map Df))/\(Ba (.mk 82 [] 0 (ps.map Df))).length<=8*B+100/\By (Ae xs) k (.mk 82 [] 0 (ps.map Df))=.mk (Bc k) [82] (ps.map fun r=>r.1.tag) (ps.map fun r=>By (Ae xs) r.1.kind r.2)from fun n ps h hn=>
  ⟨Gp.rcd hsg hbs hft rfl (fun r hr=>htg _ (h.mem r hr)) h.ok h.ne h.pw,h.len h200 hn,by
   rw[Qc];congr 1
   exact List.map_congr_left fun r hr=>by rw[E8 hft (htg _ (h.mem r hr))]⟩)
 have Hstd:=Aa (fun f (hf:f∈fs) W (hW:Fu W (.slice A0 xs.length c0) xs)=>Mz (.slice A0 xs.length c0) xs hsco f W hW (hfk f hf).1 (hfk f hf).2.1 (hfk f hf).2.2);have Hout:=Aa (fun f (hf:f∈fs) v (hv:Gp (Ae xs) N f.kind v) (hl:(Ba v).length<=B) P b W (hW:Fl P W b (By (Ae xs) f.kind v))=>Zd hsco.1.1 P N f.kind v hv (hfk f hf).1 b W hW (ae hl aI));have Hpw:=Aa hpw;unfold Tx at HH;generalize Bc k=kb at *;obtain⟨xv,hxv⟩:∃xv:Value,xv=.slice A0 xs.length c0:=⟨_,rfl⟩
 rw[<-hxv]at HSc Hr HFd HH Hstd ⊢;have HH0:=Aa HH;clear HH hR hsc hk hsg hbs hx hft htg h200 hfk hxv hpw;have Hsco:=Aa hsco;clear hsco;go_enter func118,ntmps118;go_wp2_with fail;refine(Hr.o _ HSc.o).mono ?_;rintro e w1 ⟨rfl,hb1⟩;have HR1:=Aa (HR.o.below hb1);have Hb1:=Aa hb1;have hz1:=hb1.size;clear hb1;have hcv:=fun W=>Kx W (w1.heap.size+1) 1 82;obtain⟨W3,hW3⟩:∃W3,W3=((w1.alloc (.cells #[.int .u8 82,nm,.slice A9 fs.length c9] 90)).alloc (.cells #[.int .u8 82] 5)).alloc (.cells #[kb,([82]:List UInt8),.slice none 0 0,.slice none 0 0] 87):=⟨_,rfl⟩
 have hz3:W3.heap.size=w1.heap.size+3:=gA;have b13:Below w1 w1 W3:=gY
 have HS3:=Aa (show D7 (w1.heap.size+3) (w1.heap.size+2) W3 kb ([82]:List UInt8) (.slice none 0 0) (.slice none 0 0) (.slice none 0 0) (.slice none 0 0) [] []from by
  have:=D7.new (W:=(w1.alloc (.cells #[.int .u8 82,nm,.slice A9 fs.length c9] 90)).alloc (.cells #[.int .u8 82] 5)) (T:=87) kb ([82]:List UInt8);rw[<-hW3]at this;simpa using this)
 have HR3:=Aa (HR1.o.below b13);have Hg3:=@Aa (w.grownBy W3 (some g)) (Ce (Hb1.o.trans (b13.mono Hb1.o.size)) _);have HX3:=@Aa (Fu W3 xv xs) (HSc.o.below (Hb1.o.trans (b13.mono Hb1.o.size)));have X2:=@Aa (W3.cell? (w1,2)=some (.slice A9 fs.length c9)) fR;have Hw3:=Aa hW3;clear hW3 b13 HR1;go_upto_region 14 with fail
 rw[<-Hw3.o];clear hcv Hw3;go_wp2_with fail;go_loopw [13] (fun i wr=>∃(n q:Nat) (A2:Option Addr) (c2:Nat) (A3:Option Addr) (c3:Nat) (ps:List (Fd × Vl)) (xk:List (Nat × SV)),i=(n:Int)/\n<=fs.length/\q<=p+n*(B+1)/\Hid (Sd (Ae xs) N B fs n ps)/\Hid (xk.map (·.2)=ps.map fun r=>By (Ae xs) r.1.kind r.2)/\Hid (Et wr g q)/\Hid (w.grownBy wr (some g))/\Hid (D7 (w1.heap.size+3) (w1.heap.size+2) wr kb ([82]:List UInt8) (.slice A2 ps.length c2) (.slice A2 ps.length c2) (.slice A3 xk.length c3) (.slice A3 xk.length c3) (ps.map fun r=>r.1.tag) xk)/\Hid (wr.cell? (w1,2)=some (.slice A9 fs.length c9))) (fun i _=>fs.length - (intOf i).toNat)
 case atStart=>exact⟨0,p,none,0,none,0,[],[],rfl,ah _,by omega,Sd.nil,rfl,HR3.o,Hg3.o,HS3.o,X2.o⟩
 case round=>
  obtain⟨n,q,A2,c2,A3,c3,ps,xk,rfl,hn,hq,hvs,heq,hRr,hgr,hSr,hx2⟩:=hrel;have hXr:=Aa (HSc.o.grown HR.o hgr.o);have hn0:(0:Int)<=(n:Int):=aI;have hqm:n*(B+1)<=8*(B+1):=Nat.mul_le_mul_right _ aI;have hqm7:n<fs.length->n*(B+1)<=7*(B+1):=fun h=>Nat.mul_le_mul_right _ aI;have hxp:xk.length=ps.length:=by have:=congrArg List.length heq.o;simpa using this
  have hpl:=hvs.o.ln;have hxk8:xk.length<=8:=aI;have Hxp:=Aa hxp;clear hxp;have hzr:w1.heap.size+3<=wr.heap.size:=hSr.o.bs;have x2:=hx2.o;by_cases hlt:n<fs.length;rotate_left
  ·have tt:decide ((n:Int)<(fs.length:Int))=false:=aD aI
   have HQ:=Aa (show J1 (Ae xs) k (N+1) (8*B+100) w g p (.returned (w1,2,0)) wr from by
    obtain⟨f1,f2,f3⟩:=Hfin.o n ps hvs.o aI;refine⟨w1.heap.size+2,_,q,rfl,f1,f2,by omega,?_,hRr.o,hgr.o⟩;rw[f3,<-heq.o];exact(hSr.o.done (kind:=kb) (text:=[82]) aO aI).mono fun c hc _=>by omega)
   go_wp2_with fail;exact aG (v:=(w1,2,0)) (by simp[results,results118,go_sem]) rfl HQ.o
  have tt:decide ((n:Int)<(fs.length:Int))=true:=aE aI;by_cases hdp:0<d;rotate_left
  ·have td:decide ((0:Int)<d)=false:=aD hdp
   have HQ:=Aa (show J1 (Ae xs) k (N+1) (8*B+100) w g p (.returned (w1,2,0)) wr from by
    obtain⟨f1,f2,f3⟩:=Hfin.o n ps hvs.o aI;refine⟨w1.heap.size+2,_,q,rfl,f1,f2,by omega,?_,hRr.o,hgr.o⟩;rw[f3,<-heq.o];exact(hSr.o.done (kind:=kb) (text:=[82]) aO aI).mono fun c hc _=>by omega)
   go_wp2_with fail;exact aG (v:=(w1,2,0)) (by simp[results,results118,go_sem]) rfl HQ.o
  have td:decide ((0:Int)<d)=true:=aE hdp;obtain⟨A5,cc5,e5,hl5,hr5⟩:=HFd.o wr hXr.o;injection e5 with e5 _ e6;subst e5 e6;obtain⟨b5,o5,rfl,hb5,x50,x51,x52,x53⟩:=Dj.at_ hr5 hlt;have Hfm:=Aa (af hlt);have Hadd:=Aa (fun v=>hvs.o.add (v:=v) hlt Hpw.o);have Hmn:=Aa (HH0.o hdp);have hqm8:=hqm7 hlt;have hwd:IntKind.i64.wrap (d - 1)=d - 1:=IntWalk.i64_in _ aI;have hni:(n:Int)<(fs.length:Int):=aI;have Hfe0:=@Aa (∃f,f=fs[n]) ⟨_,rfl⟩;obtain⟨f,hf⟩:=Hfe0.o;have Hfe:=Aa hf.symm;rw[<-hf]at x50 x51 x52 x53 Hfm Hadd;clear hf Hfe0;clear hr5;go_wp2_with fail;refine(Hmn.o f Hfm.o g q wr hXr.o hRr.o aI).mono ?_;rintro e w5 ⟨b6,v6,q6,rfl,k1,k2,k3,k4,k5,k6⟩;have hgB:g<w1.heap.size+2:=aI;have hz5:=k6.size;have HS5:=Aa (hSr.o.gr k6 hgB);have Hg5:=Aa (Ad hgr.o k6);have HX5:=Aa (HSc.o.grown HR.o Hg5.o);have K1:=Aa k1;have K2:=Aa k2;have K4:=Aa k4;have K5:=Aa k5;have HK5:=@Aa (Pb (w1.heap.size+3) (.slice A2 ps.length c2) (.slice A3 xk.length c3) w5 (b6,By (Ae xs) f.kind v6)) (k4.mono fun c hc _=>⟨by omega,fun e=>by have:=(hSr.o.row.lt c e).2;omega,fun e=>by have:=(hSr.o.tags.lt c e).2;omega⟩);have X25:=@Aa (w5.cell? (w1,2)=some (.slice (some ⟨b5,o5,none⟩) fs.length c9)) (k6.cell hx2.o (fun e=>by injection e with e;simp only at e;omega));have Hft5:=Aa (HFd.o w5 HX5.o);clear k1 k2 k4 k5 k6 x50 x51 x52 x53 x2;go_upto_region 18 with fail
  refine Gd [104,105,106,107,108,109,110,111,112,113,114,115,116,117,118]
   (fun ix v W=>match ix with|0=>v=g|1=>∃x:Nat,v=(x:Int)|2=>v=.bool false\/v=.bool true|3=>v=.bool false\/v=.bool true|14=>v=.bool false\/v=.bool true|_=>True)
   (fun L U W=>Rj g q6 w5.drew (fun j=>match j with|4=>.pointer (b6,0)|5=>.string ⟨(Ba v6).toArray⟩|6=>xv|7=>.pointer (w1,2)|8=>.slice (some ⟨b5,o5,none⟩) fs.length c9|9=>.int .i64 (n:Int)|10=>.pointer (some ⟨b5,o5+n*4,none⟩)|11=>sfV f|12=>.string ⟨(Jf (Ae xs) f).toArray⟩|13=>.bool (Ba v6 != Jf (Ae xs) f)|_=>undef) (Ba v6≠Jf (Ae xs) f) L U W) (Rj.start _) ?_ ?_
  ·repeat (first|exact Ai.nil|(refine Ai.cons ?_ ?_;rotate_left))
   all_goals
    rintro L U W hL hpre HR Hdep K hK;have D3:L 3=false->∀j,4<=j->j<14->L j=false:=fun h3 j h1 h2=>by rcases(show j=4\/j=5\/j=6\/j=7\/j=8\/j=9\/j=10\/j=11\/j=12\/j=13 by omega)with rfl|rfl|rfl|rfl|rfl|rfl|rfl|rfl|rfl|rfl<;>exact Hdep.o _ _ rfl {on:=3,ground:=Ground.guard} aN cC h3
    have D4:L 3=false->L 14=false:=fun h3=>At Hdep.o 14 3 rfl h3;have D1:L 1=false->L 3=false:=fun h=>At Hdep.o 3 2 rfl (At Hdep.o 2 1 rfl h);first|(simp[Region.binds]at hpre;done)|simp[Region.binds]at hpre|clear hpre
   ·go_simp;exact hK _ _ _ rfl Ab (HR.o.low _ aI aI (fun h=>by omega)) rfl
   ·have hW:=HR.o.s0 hL;subst hW;have hall:∀j,4<=j->j<15->L j=false:=fun j h1 h2=>by
     by_cases hj:j=14
     ·subst hj;exact D4 (D1 hL)
     exact D3 (D1 hL) j h1 aI
    go_simp;refine(Bj g q6 3 _ (K5.o.below (Am _ _).drew) aI aI aI).mono ?_;rintro e w7 ⟨x,rfl,hx1,_,hR7,hg7⟩;exact hK _ _ _ ⟨x,rfl⟩ Ab (HR.o.pick _ hall hR7 hg7) aK
   ·obtain⟨x,u1⟩:∃x:Nat,U 1=(x:Int):=aJ;simp only[u1];go_simp;exact hK (.bool (decide ((0:Int)<(x:Int)))) _ _ (boB _) Ab (HR.o.low _ aI aI (fun h=>by omega)) (by simp[Act.put,hpre,u1])
   ·obtain⟨bb,u2⟩:∃bb:Bool,U 2=.bool bb:=orB aJ;simp only[u2];go_simp;exact hK (.bool bb) _ _ (boB _) Ab (HR.o.low _ aI aI (fun _=>D3 hL)) (by simp[Act.put,hpre,u2])
   ·exact iE
   ·have l3:L 3=true:=aJ;obtain⟨bb,u3⟩:∃bb:Bool,U 3=.bool bb:=orB aJ;have l1:L 1=true:=by cases h:L 1 with|true=>rfl|false=>rw[D1 h]at l3;cases l3
    cases bb with
    |false=>
     exact mB
    |true=>
     have u4:U 4=b6:=HR.o.vs 4 aI aI aJ u3;have hsat:=(K4.o.after (Am _ _).drew).kept (fun b o v hb hl hv=>(HR.o.s1 l1).2.cell hv (fun e=>by have e2:b=g:=(by injection e);have hb2:wr.heap.size<=b:=hb;omega)) (HR.o.s1 l1).2.size fun c hc _=>hc;simp only[u3,u4];go_simp;refine(Hout.o f Hfm.o v6 K1.o K2.o _ b6 W hsat).mono ?_;rintro e w7 ⟨rfl,hb7⟩;exact hK _ _ _ Ab Ab (HR.o.put _ aI aI l1 (fun _=>rfl) hb7) (by simp[Act.put,hpre,u3,u4])
   ·exact iE
   ·exact iE
   ·have l3:L 3=true:=aJ;obtain⟨bb,u3⟩:∃bb:Bool,U 3=.bool bb:=orB aJ;have l1:L 1=true:=by cases h:L 1 with|true=>rfl|false=>rw[D1 h]at l3;cases l3
    cases bb with
    |false=>
     exact mB
    |true=>
     have u7:U 7=(w1,2):=HR.o.vs 7 aI aI aJ u3;have x2:W.cell? (w1,2)=some (.slice (some ⟨b5,o5,none⟩) fs.length c9):=(HR.o.s1 l1).2.cell ((aC _ _).trans X25.o) (fun e=>by injection e with e;simp only at e;omega);simp only[u3,u7];go_simp;exact hK _ _ _ Ab Ab (HR.o.put _ aI aI l1 (fun _=>rfl) (Am _ _)) (by simp[Act.put,hpre,u3,u7])
   ·exact iE
   ·have l3:L 3=true:=aJ;obtain⟨bb,u3⟩:∃bb:Bool,U 3=.bool bb:=orB aJ;have l1:L 1=true:=by cases h:L 1 with|true=>rfl|false=>rw[D1 h]at l3;cases l3
    cases bb with
    |false=>
     exact mB
    |true=>
     have u8:U 8=.slice (some ⟨b5,o5,none⟩) fs.length c9:=HR.o.vs 8 aI aI aJ u3;have u9:U 9=(n:Int):=HR.o.vs 9 aI aI aJ u3;simp only[u3,u8,u9];go_simp;exact hK _ _ _ Ab Ab (HR.o.put _ aI aI l1 (fun _=>rfl) (Am _ _)) (by simp[Act.put,hpre,u3,u8,u9])
   ·have l3:L 3=true:=aJ;obtain⟨bb,u3⟩:∃bb:Bool,U 3=.bool bb:=orB aJ;have l1:L 1=true:=by cases h:L 1 with|true=>rfl|false=>rw[D1 h]at l3;cases l3
    cases bb with
    |false=>
     exact mB
    |true=>
     have u10:U 10=.pointer (some ⟨b5,o5+n*4,none⟩):=HR.o.vs 10 aI aI aJ u3;obtain⟨A7,c7,e7,hl7,hr7⟩:=(Hft5.o.below (Am _ _).drew).grown (K5.o.below (Am _ _).drew) (HR.o.s1 l1).2;injection e7 with e7 _ e8;subst e7 e8;obtain⟨b7,o7,eA7,_,y0,y1,y2,y3⟩:=Dj.at_ hr7 hlt;injection eA7 with eA7;injection eA7 with e7 e8;subst e7 e8;rw[Hfe.o]at y0 y1 y2 y3;simp only[u3,u10];go_simp;exact hK _ _ _ Ab Ab (HR.o.put _ aI aI l1 (fun _=>rfl) (Am _ _)) (by simp[Act.put,hpre,u3,u10,sfV])
   ·have l3:L 3=true:=aJ;obtain⟨bb,u3⟩:∃bb:Bool,U 3=.bool bb:=orB aJ;have l1:L 1=true:=by cases h:L 1 with|true=>rfl|false=>rw[D1 h]at l3;cases l3
    cases bb with
    |false=>
     exact mB
    |true=>
     have u6:U 6=xv:=HR.o.vs 6 aI aI aJ u3;have u11:U 11=sfV f:=HR.o.vs 11 aI aI aJ u3;have hxw:=(HX5.o.below (Am _ _).drew).grown (K5.o.below (Am _ _).drew) (HR.o.s1 l1).2;simp only[u3,u6,u11];go_simp;refine(Hstd.o f Hfm.o W hxw).mono ?_;rintro e w7 ⟨rfl,hb7⟩;exact hK _ _ _ Ab Ab (HR.o.put _ aI aI l1 (fun _=>rfl) hb7) (by simp[Act.put,hpre,u3,u6,u11])
   ·have l3:L 3=true:=aJ;obtain⟨bb,u3⟩:∃bb:Bool,U 3=.bool bb:=orB aJ;have l1:L 1=true:=by cases h:L 1 with|true=>rfl|false=>rw[D1 h]at l3;cases l3
    cases bb with
    |false=>
     exact mB
    |true=>
     have u5:U 5=.string ⟨(Ba v6).toArray⟩:=HR.o.vs 5 aI aI aJ u3;have u12:U 12=.string ⟨(Jf (Ae xs) f).toArray⟩:=HR.o.vs 12 aI aI aJ u3;simp only[u3,u5,u12];go_simp;exact hK (.bool (Ba v6 != Jf (Ae xs) f)) _ _ Ab Ab (HR.o.put _ aI aI l1 (fun _=>rfl) (Am _ _)) (by simp[Act.put,hpre,u3,u5,u12,bne])
   ·obtain⟨bb,u3⟩:∃bb:Bool,U 3=.bool bb:=orB aJ;cases bb with
    |false=>
     simp only[u3];go_simp;exact hK (.bool false) _ _ (boB _) Ab (HR.o.last false (fun e=>by cases e)) bL
    |true=>
     have u13:U 13=.bool (Ba v6 != Jf (Ae xs) f):=HR.o.vs 13 aI aI aJ u3;simp only[u3,u13];go_simp;exact hK (.bool (Ba v6 != Jf (Ae xs) f)) _ _ (boB _) Ab (HR.o.last _ (fun e=>bne_iff_ne.1 e)) (by simp[Act.put,hpre,u3,u13])
  ·rintro L U W hL hφ hR;clear hφ;obtain⟨b14,e14⟩:=hR.bo (hL 14 aL);have hne:=hR.fin (hL 14 aL);obtain⟨hR7,hg7⟩:=hR.s1 (hL 1 aL);simp only[e14];rw[e14]at hne;have hgd:w5.grownBy W (some g):=Ad (Ce (Am _ _).drew _) hg7;have hz7:=hgd.size;have HR7:=Aa hR7;have Hg7:=Aa (Ad Hg5.o hgd);have HS7:=Aa (HS5.o.gr hgd hgB);have HX7:=Aa (HSc.o.grown HR.o Hg7.o);have HK7:=@Aa (Pb (w1.heap.size+3) (.slice A2 ps.length c2) (.slice A3 xk.length c3) W (b6,By (Ae xs) f.kind v6)) (Fl.grown HK5.o hgd fun c hc e=>by injection e with e;have:=hc.1;omega);have X27:=Aa (hgd.cell X25.o (fun e=>by injection e with e;simp only at e;omega));have Hft7:=Aa (HFd.o W HX7.o);have hq7:q6+1<=p+(n+1)*(B+1):=by rw[Nat.succ_mul];omega
   clear hR hL hR7 hg7 hgd e14;cases b14 with
   |false=>
    go_wp2_with fail;go_roundw
    case rel=>exact⟨n+1,q6+1,A2,c2,A3,c3,ps,xk,by go_num,by omega,hq7,hvs.o.skip,heq.o,HR7.o,Hg7.o,HS7.o,X27.o⟩
    case measure=>simp[intOf];omega
   |true=>
    have Hne:=Aa (hne rfl);have Hvs9:=Aa (Hadd.o v6 K1.o Hne.o K2.o);clear hne;go_upto_region 19 with fail
    have HS7d:=Aa (HS7.o.after (Am _ _).drew);have HK7d:=@Aa (Pb (w1.heap.size+3) (.slice A2 ps.length c2) (.slice A3 xk.length c3) W.drew (b6,By (Ae xs) f.kind v6)) (Fl.after HK7.o (Am _ _).drew);obtain⟨A7,c7,e7,hl7,hr7⟩:=Hft7.o;injection e7 with e7 _ e8;subst e7 e8;obtain⟨b7,o7,eA7,_,y0,_,_,_⟩:=Dj.at_ hr7 hlt;injection eA7 with eA7;injection eA7 with e7 e8;subst e7 e8;rw[Hfe.o]at y0;have Hcel7:=Aa y0;clear y0 hl7 hr7;refine Bo [119,120,121,122,123,124,125,126,127,128,129,130,131,132,133,999] aP aP aP (fun u=>by dsimp only[Cd,Bu,List.set,ao,Nat.reduceAdd])
     (fun ix v W=>match ix with|0=>v=(w1,2,0)|1=>v=(w1,2,0)|2=>v=(w1,2,0)|3=>v=(w1,2,2)|4=>v=.slice A2 ps.length c2|5=>v=(w1,2)|6=>v=.slice (some ⟨b5,o5,none⟩) fs.length c9|7=>v=(n:Int)|8=>v=.pointer (some ⟨b5,o5+n*4,none⟩)|9=>v=.pointer (some ⟨b5,o5+n*4,none⟩)|10=>v=(f.tag:Int)|13=>v=(w1,2,0)|14=>v=(w1,2,2)|_=>True)
     (fun L U W_=>Fs (w1.heap.size+3) (w1.heap.size+2) W.drew kb ([82]:List UInt8) A2 ps.length c2 (.slice A3 xk.length c3) (ps.map fun p=>p.1.tag) xk [(b6,By (Ae xs) f.kind v6)] f.tag (L 11) (L 12) (L 15) (U 11) (U 12) W_) (fun _ _=>True) (fun _ _ _ _ _ h=>h) (Fs.start) ?_ ?_
    ·repeat (first|exact Ai.nil|(refine Ai.cons ?_ ?_;rotate_left))
     all_goals
      rintro L U V hL hpre hR hun hdep K hK;have HR:=Aa hR;have Hdep:=Aa hdep;clear hun hdep hR;first|(simp[Region.binds]at hpre;done)|simp[Region.binds]at hpre|clear hpre
     iterate 4
      ·exact ii
     ·have h12:L 12=false:=(At Hdep.o 12 4 rfl hL)
      have x2:=((HR.o.be h12).cell (p:=⟨w1.heap.size+2,2,none⟩) (by have:=HS7.o.lt;simp;omega)).trans ((aC _ _).trans HS7.o.c2);exact lR
     ·exact ii
     ·have hW:=HR.o.p0 (At Hdep.o 11 10 rfl (At Hdep.o 10 9 rfl (At Hdep.o 9 8 rfl (At Hdep.o 8 6 rfl hL))));subst hW;have x2:=X27.o;exact lR
     ·exact ii
     ·obtain⟨u6,u7⟩:U 6=.slice (some ⟨b5,o5,none⟩) fs.length c9/\U 7=(n:Int):=by first|exact⟨hpre.1.2,hpre.2.2⟩|exact⟨hpre.2.2,hpre.1.2⟩|exact hpre|exact⟨hpre.1,hpre.2⟩
      simp only[u6,u7];go_simp;exact hK _ _ _ rfl Ab HR.o (by simp[Act.put,hpre,u6,u7])
     ·exact ii
     ·have hW:=HR.o.p0 (At Hdep.o 11 10 rfl hL);subst hW;have x2:=Hcel7.o;exact lR
     ·have h12:L 12=false:=(At Hdep.o 12 11 rfl hL)
      have h15:L 15=false:=(At Hdep.o 15 12 rfl h12)
      have hW:=HR.o.p0 hL;subst hW;go_simp;exact hK _ _ _ Ab Ab (Fs.put7 h12 h15) aK
     ·obtain⟨lv,uv⟩:L 4=true/\U 4=.slice A2 ps.length c2:=by
       exact mc
      have l11:L 11=true:=by
       exact mC
      have h15:L 15=false:=(At Hdep.o 15 12 rfl hL)
      obtain⟨hW,u11⟩:=HR.o.p1 l11 hL;subst hW;rw[if_pos cC];have hgl:(ps.map fun p=>p.1.tag).length=ps.length:=aN;refine Fr W.drew (.tmp 123) (.tmp 130) 57 rfl (w1.heap.size+3) 3 (.int .i64 0) 1 8 underlying57 Qbm rfl aL [(f.tag:Int)] rfl bu (.slice A2 ps.length c2) ps.length (Du (ps.map fun p=>p.1.tag)) uv u11 (by rw[<-hgl];exact hgl ▸ HS7d.o.tags) aY aI HS7d.o.bs ?_;intro v8 w8 hown hg hwh;obtain⟨hn,A6,c6,e6⟩:=Fs.put8 (u7:=U 11) (ks:=[(b6,By (Ae xs) f.kind v6)]) l11 h15 HS7d.o (fun x hx=>by rw[ar]at hx;subst hx;exact HK7d.o) fK hg hwh;exact mD
     iterate 2
      ·exact ii
     ·have l12:L 12=true:=aJ;have l11:L 11=true:=G7 (At Hdep.o 12 11 rfl) l12;obtain⟨A6,c6,e6,hS6,hb6,hk6⟩:=HR.o.p2 l12 hL;have x2:=hS6.c2;have x3:=hS6.bk.live 2;have x4:=hS6.lt;go_simp;exact hK undef _ _ Ab Ab (HR.o.put11 l11 l12 hL fN) cJ
    rintro L U W6 hL hφ hR;clear hφ;obtain⟨A6,c6,hS6,hb6,hk6⟩:=hR.p3 (hL 15 aL);have hc6:=hR.p4 (hL 15 aL);have hk6:=hk6 _ (ar.2 rfl);have eg:(ps.map fun p=>p.1.tag)++[f.tag]=(ps++[(f,v6)]).map fun p=>p.1.tag:=aN;rw[eg]at hS6 hk6;simp only[List.length_map]at hS6 hk6;have hbw:Below (w1.heap.size+2) W W6:=(Am _ _).drew.trans hb6;have HS6:=Aa hS6;have HK6:=Aa hk6;have HR6:=@Aa (Et W6 g (q6+1)) (HR7.o.belowg (hbw.mono aI) hbw.size);have Hbw:=Aa hbw;have s3:=hS6.c3;have s4:=hS6.lt;have hxl:xk.length<=200:=aI;clear hR hL hb6 hS6 hk6 eg hbw hc6;go_wp2_with (at_builtin;go_loud (refine Em _ rfl _ _ 85 rfl (w1.heap.size+3) 53 (.pointer none) 8 underlying85 P5 rfl W6 b6 rfl rfl (.slice A3 xk.length c3) xk.length (Dr (xk.map (·.1))) rfl rfl HS6.o.row aY aI HS6.o.bs ?_;intro v7 w7 hown7 hg7 hwh7;obtain⟨A7,c7,e7,hS7,hb7⟩:=HS6.o.push (x:=(b6,By (Ae xs) f.kind v6)) HK6.o hown7 hg7 hwh7;subst e7;have HS7:=Aa hS7;have HB7:=Aa hb7;have r3:=hS7.c3;have f3:=hS7.bk.live 3;have hz7:=hS7.lt;clear hS7 hb7 hown7 hg7 hwh7))
    have el:(xk++[(b6,By (Ae xs) f.kind v6)]).length=xk.length+1:=aN;have el2:(ps++[(f,v6)]).length=ps.length+1:=aN;have hsc:Below (w1.heap.size+2) W6 (w7.setCell ⟨w1.heap.size+2,3,none⟩ (.slice A7 (xk++[(b6,By (Ae xs) f.kind v6)]).length c7)):=(HB7.o.mono (show w1.heap.size+2<=w1.heap.size+3 by omega)).setCell (p:=⟨w1.heap.size+2,3,none⟩) (Ao (w1.heap.size+2)) _;have HRf:=Aa (HR6.o.belowg (hsc.mono aI) hsc.size);have Hbf:=Aa (Hbw.o.trans hsc);have Hgf:=Aa (Qby Hg7.o Hbf.o aI);have Hst:=Aa HS7.o.set3;have Heq:=@Aa ((xk++[(b6,By (Ae xs) f.kind v6)]).map (·.2)=(ps++[(f,v6)]).map fun r=>By (Ae xs) r.1.kind r.2) (by simp[heq.o]);rw[el]at HRf Hgf Hbf Hst;go_roundw
    case rel=>exact⟨n+1,q6+1,A6,c6,A7,c7,ps++[(f,v6)],xk++[(b6,By (Ae xs) f.kind v6)],by go_num,by omega,hq7,Hvs9.o,Heq.o,HRf.o,Hgf.o,by rw[el];exact Hst.o,(Hbf.o.cell (p:=⟨w1.heap.size,2,none⟩) (show w1.heap.size<w1.heap.size+2 by omega)).trans X27.o⟩
    case measure=>simp[intOf];omega
theorem Gp.mono{S:List Ty}{n m:Nat}{k:Kd}{v:Vl}(h:Gp S n k v)(hm:n<=m):Gp S m k v:=(Gq S n k v h m).2 (ae ((Gq S n k v h n).1 h) hm)
theorem Tx.mono{xs:List (Ty × Value)}{xv:Value}{k:Kd}{d:Int}{N B N' B':Nat}(h:Tx xs xv k d N B)(hN:N<=N')(hB:B<=B'):Tx xs xv k d N' B':=fun g p W h1 h2 hp=>
 (h g p W h1 h2 aI).mono (by rintro e w' ⟨b,v,q,e1,k1,k2,k3,k4,k5,k6⟩;exact⟨b,v,q,e1,k1.mono hN,by omega,by omega,k4,k5,k6⟩)
theorem Qcd(xs:List (Ty × Value))(A0:Option Addr)(c0:Nat)(k:Kd)(hsg:k.signs=[])(hbs:k.base=[64])(d:Int)(N B:Nat)(H:DtC xs (.slice A0 xs.length c0) k d N B):Tx xs (.slice A0 xs.length c0) k d N B:=by
 intro g p w hsc hR hp;have HR:=Aa hR;have HSc:=Aa hsc;obtain⟨r,hr⟩:∃r,Bc k=64::r:=⟨k.name++[59],by unfold Bc Bv;rw[hsg,if_pos hbs];rfl⟩
 unfold DtC at H;rw[hr]at H ⊢;have HC:=Aa H;obtain⟨xv,hxv⟩:∃xv:Value,xv=.slice A0 xs.length c0:=⟨_,rfl⟩
 rw[<-hxv]at HSc HC ⊢;clear H hR hsc hr hxv;go_enter func71,ntmps71;go_wp2_with fail;have hb:Below w w (w.alloc (.cells #[.string ⟨(64::r:List UInt8).toArray⟩,aa,.slice none 0 0,.slice none 0 0] 87)):=(Am _ _).alloc (Ao _) _;refine(HC.o g p _ (HSc.o.below hb) (HR.o.below hb) hp).mono ?_;rintro e w2 ⟨b,v,q,rfl,k1,k2,k3,k4,k5,k6⟩;have HF:=@Aa (J1 (Ae xs) k N B w g p (.returned b) w2) ⟨b,v,q,rfl,k1,k2,k3,k4.mono fun c hc _=>by simp at hc;omega,k5,Ad (Ce hb _) k6⟩;clear k1 k2 k3 k4 k5 k6 hb;go_wp2_with fail;exact aG (v:=b) (by simp[results,results71,go_sem]) rfl HF.o
theorem Zl(xs:List (Ty × Value))(xv:Value)(k:Kd)(hsg:k.signs=[])(hbs:k.base=[110]\/k.base=[116]\/k.base=[102])(d:Int)(N:Nat):Tx xs xv k d (N+1) 100:=fun g p W _ hR hp=>by
 rcases hbs with h|h|h
 ·exact Qms _ k hsg h xv d N g p W hR aI
 ·exact Qmv _ k hsg h xv d N g p W hR aI
 exact Qmq _ k hsg h xv d N g p W hR aI
theorem Qbc{xs:List (Ty × Value)}(hsco:Je (Ae xs))(hv:∀x∈xs,∃A c,x.2=.slice A x.1.fields.length c){n:List UInt8}{t:Ty}(h:Bp (Ae xs) n=some t):
  Ff t/\∃A c,Ds xs n=some (t,.slice A t.fields.length c):=by
 cases hx:Ds xs n with
 |none=>rw[Gt,hx]at h;cases h
 |some x=>
  rw[Gt,hx]at h;injection h with h;obtain⟨A,c,e⟩:=hv x (Cp hx).1;subst h;exact⟨hsco.1.1 _ (aq (Cp hx).1),A,c,by rw[<-e]⟩
section
variable (xs:List (Ty × Value)) (A0:Option Addr) (c0:Nat) (hsco:Je (Ae xs)) (hv:∀x∈xs,∃A c,x.2=.slice A x.1.fields.length c)
include hsco hv
theorem Qme{k:Kd}(hk:Cm k)(hsg:k.signs=[])(hbs:k.base=[64]){t:Ty}(ht:Bp (Ae xs) k.name=some t)(h9:t.sort=69)(d:Int)(hd:-1000<=d)(hd2:d<=1000)(N:Nat):Tx xs (.slice A0 xs.length c0) k d (N+1) 100:=by
 obtain⟨ty,A,c,hx⟩:=Qbc hsco hv ht;obtain⟨st,nm,fs⟩:=t;simp only at h9;subst h9;refine Qcd xs A0 c0 k hsg hbs d _ _ (Ql1 xs A0 c0 k hk hsg hbs nm fs A c hx (fun f hf=>Qu ty.2.2.1.2 hf) (fun f hf=>(ty.2.2.1.1 f hf).2.1) (fun f hf=>by rw[((ty.2.2.1.1 f hf).2.2.2.1 rfl).1];decide) (Nat.pos_of_ne_zero fun e=>?_) ty.2.2.2.1 d hd hd2 N);exact absurd (ty.2.2.2.2 (List.eq_nil_of_length_eq_zero e)) (show ¬(69:UInt8)=82 by decide)
theorem Qmh{k:Kd}(hk:Cm k)(hsg:k.signs=[])(hbs:k.base=[64]){t:Ty}(ht:Bp (Ae xs) k.name=some t)(h5:t.sort=85)(d:Int)(hd:-1000<=d)(hd2:d<=1000)(N B:Nat)(H:∀f∈t.fields,0<d\/t.fields.head?=some f->Tx xs (.slice A0 xs.length c0) f.kind (d - 1) N B):Tx xs (.slice A0 xs.length c0) k d (N+1) (B+100):=by
 obtain⟨ty,A,c,hx⟩:=Qbc hsco hv ht;obtain⟨st,nm,fs⟩:=t;simp only at h5;subst h5;have hne:0<fs.length:=Nat.pos_of_ne_zero fun e=>absurd (ty.2.2.2.2 (List.eq_nil_of_length_eq_zero e)) (show ¬(85:UInt8)=82 by decide);have h1:∀f∈fs,Au fs f.tag=some f:=fun f hf=>Qu ty.2.2.1.2 hf;have h2:∀f∈fs,f.tag<=200:=fun f hf=>(ty.2.2.1.1 f hf).2.1;have h3:∀f∈fs,(Bc f.kind).length<=20:=fun f hf=>ae ((ty.2.2.1.1 f hf).2.2.2.2 (by show ¬(85:UInt8)=69;decide)).1.2.2 aL;by_cases h0:0<d
 ·exact Qcd xs A0 c0 k hsg hbs d _ _ (Qkg xs A0 c0 k hk hsg hbs nm fs A c hx h1 h2 h3 hne ty.2.2.2.1 d hd hd2 N B (fun f hf=>H f hf (.inl h0)) h0)
 exact Qcd xs A0 c0 k hsg hbs d _ _ (Qk4 xs A0 c0 k hk hsg hbs nm fs A c hx h1 h2 h3 hne ty.2.2.2.1 d hd hd2 N B (H _ (af hne) (.inr (by cases fs with|nil=>exact absurd hne aL|cons f r=>rfl))) h0)
theorem Qma{k:Kd}(hk:Cm k)(hsg:k.signs=[])(hbs:k.base=[64]){t:Ty}(ht:Bp (Ae xs) k.name=some t)(h2:t.sort=82)(d:Int)(hd:-1000<=d)(hd2:d<=1000)(N B:Nat)(hB:100<=B)(hB2:B<=100000000)(H:0<d->∀f∈t.fields,Tx xs (.slice A0 xs.length c0) f.kind (d - 1) N B):Tx xs (.slice A0 xs.length c0) k d (N+1) (8*B+100):=by
 obtain⟨ty,A,c,hx⟩:=Qbc hsco hv ht;have hmem:=(Cq ht).1;obtain⟨st,nm,fs⟩:=t;simp only at h2;subst h2;have h69:¬(82:UInt8)=69:=aL;exact Qcd xs A0 c0 k hsg hbs d _ _ (Qlx xs A0 c0 k hk hsg hbs nm fs A c hx hsco (fun f hf=>Qu ty.2.2.1.2 hf) (fun f hf=>(ty.2.2.1.1 f hf).2.1) (ty.2.2.1.2.imp fun h=>h.2) (fun f hf=>⟨((ty.2.2.1.1 f hf).2.2.2.2 h69).1,hsco.2.1 _ hmem h69 f hf,ae (Jb (ty.2.2.1.1 f hf)) aL⟩) ty.2.2.2.1 d hd hd2 N B hB hB2 H)
theorem Qlv:∀(m:Nat) (k:Kd) (d:Int),-990+(m:Int)<=d->d<=0->Cm k->B0 (Ae xs) k->Vp (Ae xs) m k->Tx xs (.slice A0 xs.length c0) k d (m+2) (900+100*m):=by
 intro m;induction m with
 |zero=>
  intro k d hd h0 hk hr he;cases hs:k.signs with
  |cons c r=>
   rcases Qs hk hs with rfl|rfl
   ·exact Qei xs A0 c0 k r hs hk d aI aI 1 100 (fun h=>absurd h aI) (Ao _)
   exact Qez xs A0 c0 k r hs hk d aI aI 1 100 (fun h=>absurd h aI) (Ao _)
  |nil=>
   rcases hk.2.1 with⟨hb,_⟩|⟨hb,_⟩
   ·obtain⟨t,_,e⟩:=he hs hb;cases e
   exact(Zl xs _ k hs hb d 1).mono (Ao _) aI
 |succ m ih=>
  intro k d hd h0 hk hr he;cases hs:k.signs with
  |cons c r=>
   rcases Qs hk hs with rfl|rfl
   ·exact(Qei xs A0 c0 k r hs hk d aI aI 1 100 (fun h=>absurd h aI) (Ao _)).mono aI aI
   exact(Qez xs A0 c0 k r hs hk d aI aI 1 100 (fun h=>absurd h aI) (Ao _)).mono aI aI
  |nil=>
   rcases hk.2.1 with⟨hb,_⟩|⟨hb,_⟩
   ·obtain⟨t,ht,e⟩:=he hs hb;have hmem:=(Cq ht).1;have ty:=hsco.1.1 t hmem;rcases ty.1 with h2|h5|h9
    ·exact(Qma xs A0 c0 hsco hv hk hs hb ht h2 d aI aI 1 100 (Ao _) aI (fun h=>absurd h aI)).mono aI aI
    ·have h69:t.sort≠69:=d9;refine(Qmh xs A0 c0 hsco hv hk hs hb ht h5 d aI aI (m+2) (900+100*m) fun f hf hor=>?_).mono aI aI;rcases hor with h|h
     ·exact absurd h aI
     refine ih f.kind (d - 1) aI aI ((ty.2.2.1.1 f hf).2.2.2.2 h69).1 (hsco.2.1 t hmem h69 f hf) fun hs1 hb1=>?_;unfold B8 Gb at e;rw[if_pos h5]at e;cases hfs:t.fields with
     |nil=>rw[hfs]at h;cases h
     |cons f0 r=>
      rw[hfs]at h e;injection h with h;subst h;simp only at e;rw[if_pos ⟨hs1,hb1⟩]at e;cases hu:Bp (Ae xs) f0.kind.name with
      |none=>have:=hsco.2.1 t hmem h69 f0 hf hb1;rw[hu]at this;cases this
      |some u=>rw[hu]at e;exact⟨u,rfl,e⟩
    exact(Qme xs A0 c0 hsco hv hk hs hb ht h9 d aI aI 1).mono aI aI
   exact(Zl xs _ k hs hb d 1).mono aI aI
end
def hiB:Nat->Nat
 |0=>1800
 |j+1=>8*hiB j+100
theorem Qi5:∀j,1800<=hiB j
 |0=>Ao _
 |j+1=>by have:=Qi5 j;show 1800<=8*hiB j+100;omega
theorem Qfk:∀j,j<=4->hiB j<=8000000:=by
 intro j hj;rcases(show j=0\/j=1\/j=2\/j=3\/j=4 by omega)with rfl|rfl|rfl|rfl|rfl<;>decide
theorem Qf1(xs:List (Ty × Value))(A0:Option Addr)(c0:Nat)(hsco:Je (Ae xs))(hv:∀x∈xs,∃A c,x.2=.slice A x.1.fields.length c):∀(j:Nat) (k:Kd),j<=4->Cm k->B0 (Ae xs) k->Tx xs (.slice A0 xs.length c0) k (j:Int) (12+j) (hiB j):=by
 intro j;induction j with
 |zero=>intro k _ hk hr;exact(Qlv xs A0 c0 hsco hv 9 k 0 aI aI hk hr (Tu hsco hr)).mono aI aL
 |succ j ih=>
  intro k hj hk hr;have e1:(((j+1:Nat):Int) - 1)=(j:Int):=aI;have hg:=Qi5 j;have hl:=Qfk j aI;have hh:hiB (j+1)=8*hiB j+100:=rfl;have ih2:∀k,Cm k->B0 (Ae xs) k->Tx xs (.slice A0 xs.length c0) k (((j+1:Nat):Int) - 1) (12+j) (hiB j):=fun k h1 h2=>by rw[e1];exact ih k aI h1 h2
  rw[hh];cases hs:k.signs with
  |cons c r=>
   have hp:Cm k.part:=(J0 hk).1;rcases Qs hk hs with rfl|rfl
   ·exact Qei xs A0 c0 k r hs hk _ aI aI (12+j) (hiB j) (fun _=>ih2 _ hp hr) aI
   exact Qez xs A0 c0 k r hs hk _ aI aI (12+j) (hiB j) (fun _=>ih2 _ hp hr) aI
  |nil=>
   rcases hk.2.1 with⟨hb,_⟩|⟨hb,_⟩
   ·have hr1:=hr hb;cases ht:Bp (Ae xs) k.name with
    |none=>rw[ht]at hr1;cases hr1
    |some t=>
     have hmem:=(Cq ht).1;have ty:=hsco.1.1 t hmem;rcases ty.1 with h2|h5|h9
     ·have h69:t.sort≠69:=cP;exact Qma xs A0 c0 hsco hv hk hs hb ht h2 _ aI aI (12+j) (hiB j) aI aI (fun _ f hf=>ih2 _ ((ty.2.2.1.1 f hf).2.2.2.2 h69).1 (hsco.2.1 t hmem h69 f hf))
     ·have h69:t.sort≠69:=d9;exact(Qmh xs A0 c0 hsco hv hk hs hb ht h5 _ aI aI (12+j) (hiB j) fun f hf _=>ih2 _ ((ty.2.2.1.1 f hf).2.2.2.2 h69).1 (hsco.2.1 t hmem h69 f hf)).mono aI aI
     exact(Qme xs A0 c0 hsco hv hk hs hb ht h9 _ aI aI 1).mono aI aI
   exact(Zl xs _ k hs hb _ 1).mono aI aI
theorem Fu.forms{W:World}{v:Value}{xs:List (Ty × Value)}(h:Fu W v xs):∀x∈xs,∃A c,x.2=.slice A x.1.fields.length c:=fun x hx=>by
 obtain⟨_,_,_,_,_,hf⟩:=h;obtain⟨A,c,e,_⟩:=hf x hx;exact⟨A,c,e⟩
def Z4:List (List UInt8):=[[],[48],[44],[125],[45]]
theorem Qa2(g p:Nat)(s kd:List UInt8)(w:World)(h:Et w g p)(hp:p<=1000000)(hs:s.length<=1000000)(hkd:kd.length<=1000000):
  Calls prog 34 #[g,s,kd] w (To (fun l=>l.length<=20000) w g p 40000000):=by
 have hgl:=h.lt;have HR:=Aa h;have Hk:=Aa (fun W=>N8 s kd W aI aI);have Hgood:=Aa (fun S k (e:Az s kd=some (S,k))=>Dn e);obtain⟨o,ho⟩:∃o,Az s kd=o:=⟨_,rfl⟩
 rw[ho]at Hk Hgood;clear ho h;go_enter func34,ntmps34;go_wp2_with fail;refine(Hk.o _).mono ?_;rintro e w1 ⟨hm,hb1⟩;have HR1:=Aa (HR.o.below hb1);have Hg1:=Aa (Ce hb1 (some g));clear hb1;cases o with
 |none=>
  obtain⟨A,n,c,rfl⟩:=hm;go_wp2_with fail;go_ret;exact⟨[53],p,rfl,by decide,by omega,HR1.o,Hg1.o⟩
 |some x=>
  obtain⟨v,xs,rfl,hxs,hsc⟩:=hm;obtain⟨S,k⟩:=x;simp only at hxs;subst hxs;obtain⟨g1,_,_,g2,g3,g4⟩:=Hgood.o _ k rfl;subst g3;have hform:=hsc.forms;have HSc:=Aa hsc;obtain⟨A0,c0,rfl,_⟩:=hsc;have HD:=Aa (fun(j:Nat) hj=>Qf1 xs A0 c0 g1 hform j k hj g2 g4);have HD4:=@Aa (Tx xs (.slice A0 xs.length c0) k 4 16 8000000) ((Qf1 xs A0 c0 g1 hform 4 k (Ao _) g2 g4).mono (Ao _) (Qfk 4 (Ao _)));have Hout:=Aa (fun N v (hv:Gp (Ae xs) N k v) (hl:(Ba v).length<=8000000) P b W (hW:Fl P W b (By (Ae xs) k v))=>Zd g1.1.1 P N k v hv g2 b W hW (ae hl aL));have Hne:=Aa (fun N v (hv:Gp (Ae xs) N k v)=>show 1<=(Ba v).length from by obtain⟨c,r,e,_⟩:=Qc6 hv;rw[e];simp);unfold Tx at HD HD4;generalize Bc k=kb at *;have HB:=Aa Qfk;obtain⟨xv,hxv⟩:∃xv:Value,xv=.slice A0 xs.length c0:=⟨_,rfl⟩
  rw[<-hxv]at HSc HD HD4 ⊢;clear hform g1 g2 g4 hxv Hk Hgood;go_wp2_with fail;refine(HD4.o g p w1 HSc.o HR1.o aI).mono ?_;rintro e w2 ⟨b,v,q,rfl,k1,k2,k3,k4,k5,k6⟩;have Hg2:=Aa k6;have HR2:=Aa k5;have Hs2:=Aa k4;have hv1:=Hne.o _ v k1;have Hok:=Aa k1;clear k1 k4 k5 k6;go_wp2_with fail;refine(Hout.o _ v Hok.o aI _ b w2 Hs2.o).mono ?_;rintro e w3 ⟨rfl,hb3⟩;have HR3:=Aa (HR2.o.below hb3);have Hg3:=Aa (Ad Hg2.o (Ce hb3 _));clear hb3 Hok Hs2 HR2 Hg2;generalize Ba v=t0 at *;go_wp2_with fail;go_loopw [9,10] (fun tv dv wr=>∃(t:List UInt8) (j q:Nat),tv=t/\dv=(j:Int)/\j<=3/\1<=t.length/\t.length<=8000000/\Hid (j=0->t.length<=14500)/\q<=p+8000000*(4 - j)/\Hid (Et wr g q)/\Hid (w1.grownBy wr (some g))) (fun _ dv _=>(intOf dv).toNat)
  case atStart=>exact⟨t0,3,q,rfl,rfl,Ao _,hv1,k2,fun h=>by omega,by omega,HR3.o,Hg3.o⟩
  case round=>
   obtain⟨t,j,q,rfl,rfl,hj,ht1,ht2,ht3,hq,hRr,hgr⟩:=hrel;have hj0:(0:Int)<=(j:Int):=aI;by_cases hgo:150<t.length/\0<j
   ·obtain⟨hlong,hj1⟩:=hgo;have hli:(150:Int)<(t.length:Int):=aI;have hji:(0:Int)<(j:Int):=aI;have hBj:=HB.o j aI;have HSr:=@Aa (Fu wr xv xs) (HSc.o.grown HR1.o hgr.o);go_wp2_with fail;refine(HD.o j aI g q wr HSr.o hRr.o aI).mono ?_;rintro e w4 ⟨b4,v4,q4,rfl,k1,k2,k3,k4,k5,k6⟩;have Hg4:=Aa (Ad hgr.o k6);have HR4:=Aa k5;have Hs4:=Aa k4;have hv4:=Hne.o _ v4 k1;have Hok4:=Aa k1;clear k1 k4 k5 k6;go_wp2_with fail;refine(Hout.o _ v4 Hok4.o aI _ b4 w4 Hs4.o).mono ?_;rintro e w5 ⟨rfl,hb5⟩;have HR5:=Aa (HR4.o.below hb5);have Hg5:=Aa (Ad Hg4.o (Ce hb5 _));clear hb5 Hok4 Hs4 HR4 Hg4;generalize Ba v4=t4 at *;have hwd:IntKind.i64.wrap ((j:Int) - 1)=(j:Int) - 1:=IntWalk.i64_in _ aI;go_wp2_with fail;go_roundw
    case rel=>exact⟨t4,j - 1,q4,rfl,by go_num,by omega,hv4,by omega,(fun h=>ae (show t4.length<=hiB 1 from(show j=1 by omega) ▸ k2) aL),by omega,HR5.o,Hg5.o⟩
    case measure=>simp[intOf];omega
   ·have hlt:t.length<=14500:=by
     by_cases h150:150<t.length
     ·have:j=0:=aI;exact ht3.o this
     omega
    have hdec:(decide ((150:Int)<(t.length:Int))=false)\/(decide ((150:Int)<(t.length:Int))=true/\j=0):=by
     by_cases h150:150<t.length
     ·exact .inr ⟨aE aI,by omega⟩
     exact .inl (aD aI)
    have hti:(t.length:Int)<=14500:=aI;clear hgo ht3;obtain⟨W6,rfl⟩:∃W6:World,W6=wr:=⟨_,rfl⟩
    rcases hdec with hd1|⟨hd1,rfl⟩<;>
    ·go_wp2_with fail;refine(Bj g q 24 _ hRr.o aI aI aI).mono ?_;rintro e w8 ⟨z,rfl,hz1,_,hR8,hg8⟩;have HR8:=Aa hR8;have Hg8:=Aa (Ad Hg1.o (Ad hgr.o hg8));have hg8l:=hR8.lt;clear hR8 hg8 hz1;by_cases hz0:z=0
     ·subst hz0;go_wp2_with fail;refine(Bj g (q+1) _ _ HR8.o aI aI aI).mono ?_;rintro e w9 ⟨k,rfl,hk1,_,hR9,hg9⟩;have hk1:=hk1 aI;have hk:k<t.length:=aI;have i5:(0:Int)<=(k:Int):=aI;have i6:(k:Int)<(t.length:Int):=aI;obtain⟨q9,hq9,HR9⟩:∃q9,q9<=q+2/\Hid (Et w9 g q9):=⟨_,by omega,Aa hR9⟩
      have Hg9:=Aa (Ad Hg8.o hg9);clear hR9 hg9 HR8 Hg8;have hwr:IntKind.i64.wrap ((k:Int)+1)=(k:Int)+1:=IntWalk.i64_in _ aI;go_wp2_with fail;refine Gd [47,48,49,50,51,52,53,54,55,56,57,58,59,60,6]
       (fun ix v W=>match ix with|0=>v=(t:List UInt8)|1=>v=(k:Int)|2=>v=(t.take k:List UInt8)|3=>∃b,v=.slice (some ⟨b,0,none⟩) 5 5|4=>v=g|5=>∃y:Nat,v=(y:Int)/\y<5|6=>∃b y,v=.pointer (some ⟨b,y,none⟩)|7=>∃i,i∈Z4/\v=.string ⟨i.toArray⟩|8=>∃i,i∈Z4/\v=.string ⟨(t.take k++i).toArray⟩|9=>v=(t:List UInt8)|10=>v=(k:Int)|11=>v=.int .i64 ((k:Int)+1)|12=>v=.string ⟨(t.drop (k+1):List UInt8).toArray⟩|13=>∃i,i∈Z4/\v=.string ⟨(t.take k++(i++t.drop (k+1))).toArray⟩|14=>∃i,i∈Z4/\v=.string ⟨(t.take k++(i++t.drop (k+1))).toArray⟩|_=>True)
       (fun L U W=>Et W g (if L 5=true then q9+1 else q9)/\w.grownBy W (some g)/\(L 3=true->∃b,U 3=.slice (some ⟨b,0,none⟩) 5 5/\b≠g/\H9 W b Z4)/\(L 6=true->∃b y,U 6=.pointer (some ⟨b,y,none⟩)/\b≠g/\y<5/\H9 W b Z4)) (⟨by simpa using HR9.o.ddrew,Ft Hg9.o,fun h=>Bool.noConfusion h,fun h=>Bool.noConfusion h⟩) ?_ ?_
      ·repeat (first|exact Ai.nil|(refine Ai.cons ?_ ?_;rotate_left))
       all_goals
        rintro L U W hL hpre HR Hdep K hK;obtain⟨hR0,hG0,R3,R6⟩:=HR.o;first|(simp[Region.binds]at hpre;done)|simp[Region.binds]at hpre|clear hpre
       iterate 2
        ·exact iv
       ·exact iN
       ·have hgl:=hR0.lt;go_simp;exact hK _ _ _ ⟨_,rfl⟩ Ab ⟨by simpa using hR0.dalloc _,Ad hG0 (World.grownBy_alloc W _ _),fun _=>⟨W.heap.size,rfl,by omega,H9.new W Z4⟩,fun h=>by obtain⟨b,y,q1,q2,q3,q4⟩:=R6 aQ;exact⟨b,y,by simpa using q1,q2,q3,q4.grown (World.grownBy_alloc W _ (some g)) q2⟩⟩ rfl
       ·exact iv
       ·exact iG
       ·exact iI
       ·obtain⟨l6,_⟩:=hpre;obtain⟨b,y,u6,hb,hy,hT⟩:=R6 l6;obtain⟨s7,hm7,hc7⟩:=hT.cell (show y<Z4.length from hy);go_simp;exact hK _ _ _ ⟨s7,hm7,rfl⟩ Ab ⟨by simpa using hR0,hG0,fun h=>by obtain⟨b,q1,q2,q3⟩:=R3 aQ;exact⟨b,by simpa using q1,q2,q3⟩,fun h=>by obtain⟨b,y,q1,q2,q3,q4⟩:=R6 aQ;exact⟨b,y,by simpa using q1,q2,q3,q4⟩⟩ fJ
       ·obtain⟨⟨_,u2⟩,_,i,hi,u7⟩:=hpre;have hil:i.length<=1:=(show ∀i∈Z4,i.length<=1 by decide) i hi;go_simp;rw[if_neg aO];go_simp;exact hK _ _ _ ⟨i,hi,rfl⟩ Ab ⟨by simpa using hR0,hG0,fun h=>by obtain⟨b,q1,q2,q3⟩:=R3 aQ;exact⟨b,by simpa using q1,q2,q3⟩,fun h=>by obtain⟨b,y,q1,q2,q3,q4⟩:=R6 aQ;exact⟨b,y,by simpa using q1,q2,q3,q4⟩⟩ fr
       iterate 3
        ·exact iv
       ·exact iN
       ·obtain⟨⟨_,i,hi,u8⟩,_,u12⟩:=hpre;have hil:i.length<=1:=(show ∀i∈Z4,i.length<=1 by decide) i hi;go_simp;rw[if_neg aO];go_simp;exact hK _ _ _ ⟨i,hi,rfl⟩ Ab ⟨by simpa using hR0,hG0,fun h=>by obtain⟨b,q1,q2,q3⟩:=R3 aQ;exact⟨b,by simpa using q1,q2,q3⟩,fun h=>by obtain⟨b,y,q1,q2,q3,q4⟩:=R6 aQ;exact⟨b,y,by simpa using q1,q2,q3,q4⟩⟩ ff
       ·exact iK
      rintro L U W hL hφ hR;obtain⟨i,hi,e14⟩:=hφ 14 aL;simp only[e14];have hR0:Et W g (q9+1):=ig;have hG0:=hR.2.1;clear hφ hL hR;go_wp2_with fail;go_ret;have hil:i.length<=1:=(show ∀i∈Z4,i.length<=1 by decide) i hi;exact⟨_,q9+1,rfl,by simp;omega,by omega,hR0,hG0⟩
     have tz:((z:Int) == 0)=false:=aO;clear hz0;go_wp2_with fail;go_ret;exact⟨t,q+1,rfl,by omega,by omega,HR8.o,Hg8.o⟩
def Qjy(w:World)(e:Ending)(w':World):Prop:=∃a b c d s:List UInt8,e=.returned (.tuple #[a,b,c,d,s])/\a.length<=100000/\b.length<=100000/\c.length<=100000/\d.length<=100000/\s.length<=100000/\Below w w w'
theorem Sb(A:Option Addr)(n c:Nat)(l:List UInt8)(w:World)(h:Bx w A n (El l))(hc:n<=c)(hcm:c<=maxLen):
  Calls prog 12 #[.slice A n c] w (Qjy w):=by
 go_enter func12,ntmps12;go_wp2_with fail;refine(Ya A n c l w h hc hcm).mono ?_;rintro e w0 ⟨g,rfl,hR,hgb,hb0⟩;have HR:=Aa hR;have Hb0:=Aa hb0;clear hR h hb0;go_wp2_with fail;refine(Sz g 0 _ HR.o aI).mono ?_;rintro e w1 ⟨a,b,c',d,q,rfl,ha,hb,hc',hd,hq,hR1,hg1⟩;have HR1:=Aa hR1;have Hg1:=Aa hg1;clear hg1 hR1;go_wp2_with fail;refine(Qa2 g q c' d _ HR1.o aI aI aI).mono ?_;rintro e w2 ⟨s,q2,rfl,hs,_,_,hg2⟩;have Hb2:=Aa (Sx Hb0.o (Ad Hg1.o hg2) hgb);clear hg2;go_wp2_with fail;refine aG (v:=.tuple #[a,b,c',d,s]) (by simp[results,results12,go_sem]) rfl ?_;exact mE
theorem Sm(A:Option Addr)(n c:Nat)(l:List UInt8)(w:World)(h:Bx w A n (El l))(hc:n<=c)(hcm:c<=maxLen):
  Calls prog 16 #[.slice A n c] w (Qjy w):=by
 go_enter func16,ntmps16;go_wp2_with fail;refine(Ya A n c l w h hc hcm).mono ?_;rintro e w0 ⟨g,rfl,hR,hgb,hb0⟩;have HR:=Aa hR;have Hb0:=Aa hb0;clear hR h hb0;go_wp2_with fail;refine(Sz g 0 _ HR.o aI).mono ?_;rintro e w1 ⟨a,b,c',d,q,rfl,ha,hb,hc',hd,hq,hR1,hg1⟩;have HR1:=Aa hR1;have Hg1:=Aa hg1;clear hg1 hR1;go_wp2_with fail;refine(Qa2 g q c' d _ HR1.o aI aI aI).mono ?_;rintro e w2 ⟨s,q2,rfl,hs,_,_,hg2⟩;have Hb2:=Aa (Sx Hb0.o (Ad Hg1.o hg2) hgb);clear hg2;go_wp2_with fail;refine aG (v:=.tuple #[a,b,c',d,s]) (by simp[results,results16,go_sem]) rfl ?_;exact mE
theorem Qjz{K:Vl->Vl × Bool}{ks:List Vl}(h:∀x∈ks,K x=(x,false)):(ks.map fun x=>(K x).1)=ks/\(ks.any fun x=>(K x).2)=false:=by
 induction ks with
 |nil=>exact⟨rfl,rfl⟩
 |cons x ks ih=>
  obtain⟨i1,i2⟩:=ih fun y hy=>h y fB;simp[h x aN,i1,i2]
theorem Qhb{S:List Ty}{K:Kd->Vl->Vl × Bool}{fs:List Fd}{p:Fd × Vl}(hf:Au fs p.1.tag=some p.1)(hk:K p.1.kind p.2=(p.2,false))(hn:Ba p.2≠Jf S p.1):Kq S K fs (Df p)=([Df p],false):=by
 have e1:Kq S K fs (Df p)=match Au fs p.1.tag with|none=>([],true)|some f=>if Ba (K f.kind p.2).1=Jf S f then([],true)else([.mk 61 [] p.1.tag [(K f.kind p.2).1]],(K f.kind p.2).2):=rfl
 rw[e1,hf];simp only;rw[hk,if_neg hn];rfl
theorem Qhq{S:List Ty}{K:Kd->Vl->Vl × Bool}{fs:List Fd}{ps:List (Fd × Vl)}(h:∀p∈ps,Kq S K fs (Df p)=([Df p],false)):((ps.map Df).flatMap fun y=>(Kq S K fs y).1)=ps.map Df/\((ps.map Df).any fun y=>(Kq S K fs y).2)=false:=by
 induction ps with
 |nil=>exact⟨rfl,rfl⟩
 |cons p ps ih=>
  obtain⟨i1,i2⟩:=ih fun y hy=>h y fB;simp[h p aN]at i1 i2 ⊢;exact⟨i1,i2⟩
theorem Yf{S:List Ty}:∀(d:Nat) (a:Kd) (v:Vl),Gp S d a v->Cy S d a v=(v,false):=by
 intro d;induction d with
 |zero=>intro a v h;cases h
 |succ d ih=>
  intro a v h;cases h with
  |@n _ _ m hs hb h=>rw[Bz,if_neg df,if_pos bP]
  |@t _ _ s hs hb h=>rw[Bz,if_neg df,if_pos bP]
  |@f _ _ x hs hb=>rw[Bz,if_neg df,if_pos bP]
  |@lst _ _ r ks hs hl h=>
   rw[Bz,if_pos df];obtain⟨m1,m2⟩:=Qjz (K:=Cy S d a.part) (ks:=ks) fun x hx=>ih _ _ (h x hx);rw[m1,m2]
  |@non _ _ r hs=>rw[Bz,if_pos df];rfl
  |@som _ _ r x hs h=>
   rw[Bz,if_pos df];simp[ih _ _ h]
  |@enm _ _ u g hs hb ht h9 hf=>
   rw[Bz,if_neg df,if_neg (by rw[hb];simp),ht];simp only;rw[if_neg (show ¬(69:UInt8)=85 by decide),if_neg (show ¬(69:UInt8)=82 by decide)]
  |@uni _ _ u g x hs hb ht h5 hf h=>
   rw[Bz,if_neg df,if_neg (by rw[hb];simp),ht];simp only;rw[if_pos Ab,hf];simp[ih _ _ h]
  |@rcd _ _ u ps hs hb ht h82 hf h hn hp=>
   rw[Bz,if_neg df,if_neg (by rw[hb];simp),ht];simp only;rw[if_neg (show ¬(82:UInt8)=85 by decide),if_pos Ab];obtain⟨m1,m2⟩:=Qhq (S:=S) (K:=Cy S d) (fs:=u.fields) (ps:=ps) fun p hp=>Qhb (hf p hp) (ih _ _ (h p hp)) (hn p hp);rw[m1,m2]
theorem Qkz{S T:List Ty}{R:Cl->Cl->Prop}(hR:V6 S T R):∀(d:Nat) (a b:Kd) (v:Vl),Px R a b->Gp T d b v->Gp T d b (Cy S d a v).1:=by
 intro d;induction d with
 |zero=>intro a b v _ h;cases h
 |succ d ih=>
  intro a b v hk h;obtain⟨k1,k2,k3⟩:=hk;cases h with
  |@n _ _ m hs hb h=>
   rw[Bz,if_neg br,if_pos bZ];exact .n hs hb h
  |@t _ _ s hs hb h=>
   rw[Bz,if_neg br,if_pos bZ];exact .t hs hb h
  |@f _ _ x hs hb=>
   rw[Bz,if_neg br,if_pos bZ];exact .f hs hb
  |@lst _ _ r ks hs hl h=>
   rw[Bz,if_pos br];refine .lst hs fl ?_;intro x hx;obtain⟨y,hy,rfl⟩:=ay.1 hx;exact ih a.part b.part y (Gy ⟨k1,k2,k3⟩) (h y hy)
  |@non _ _ r hs=>
   rw[Bz,if_pos br];exact .non hs
  |@som _ _ r x hs h=>
   rw[Bz,if_pos br];exact .som hs (ih a.part b.part x (Gy ⟨k1,k2,k3⟩) h)
  |@enm _ _ u g hs hb ht h9 hf=>
   rw[Bz,if_neg br,if_neg cB];obtain⟨t,u2,e1,e2,e3,e4⟩:=hR _ _ (k3 (k2.trans hb));rw[e1];simp only;rw[if_neg (show ¬(69:UInt8)=85 by decide),if_neg (show ¬(69:UInt8)=82 by decide)];exact .enm hs hb ht h9 hf
  |@uni _ _ u g x hs hb ht h5 hf h=>
   rw[Bz,if_neg br,if_neg cB];obtain⟨t,u2,e1,e2,e3,e4⟩:=hR _ _ (k3 (k2.trans hb));rw[ht]at e2;injection e2 with e2;subst e2;rw[e1];simp only;rw[if_pos Ab];have:=e4 g (Ax hf).2;unfold Ns at this;cases h3:Au t.fields g.tag with
   |none=>rw[h3]at this;simp only at this;rw[h5]at this;exact absurd this aL
   |some f=>
    rw[h3]at this;simp only at this;have hkr:=(this.resolve_left d9).1;simp only;exact .uni hs hb ht h5 hf (ih f.kind g.kind x hkr h)
  |@rcd _ _ u ps hs hb ht h82 hf h hn hp=>
   rw[Bz,if_neg br,if_neg cB];obtain⟨t,u2,e1,e2,e3,e4⟩:=hR _ _ (k3 (k2.trans hb));rw[ht]at e2;injection e2 with e2;subst e2;rw[e1];simp only;rw[if_neg (show ¬(82:UInt8)=85 by decide),if_pos Ab,Vc];have key:∀(ps:List (Fd × Vl)),(∀p∈ps,Au u.fields p.1.tag=some p.1)->(∀p∈ps,Gp T d p.1.kind p.2)->(ps.Pairwise fun p q=>p.1.tag<q.1.tag) ->
     ∃qs:List (Fd × Vl),(ps.filterMap (Nm S (Cy S d) t.fields)).map Df=qs.map Df/\(∀q∈qs,Au u.fields q.1.tag=some q.1)/\(∀q∈qs,Gp T d q.1.kind q.2)/\(∀q∈qs,Ba q.2≠Jf T q.1)/\(qs.Pairwise fun p q=>p.1.tag<q.1.tag)/\(∀q∈qs,∃p∈ps,p.1=q.1):=by
    intro ps;induction ps with
    |nil=>intro _ _ _;exact⟨[],rfl,by simp,by simp,by simp,.nil,by simp⟩
    |cons p ps ihp=>
     intro h1 h2 h3;obtain⟨qs,q1,q2,q3,q4,q5,q6⟩:=ihp (fun q hq=>h1 q (by simp[hq])) (fun q hq=>h2 q (by simp[hq])) (List.pairwise_cons.1 h3).2;have hpf:=h1 p aN;have hfr:=e4 p.1 (Ax hpf).2;unfold Ns at hfr;have eP:Nm S (Cy S d) t.fields p=match Au t.fields p.1.tag with|none=>none|some f=>if Ba (Cy S d f.kind p.2).1=Jf S f then none else some (f,(Cy S d f.kind p.2).1):=rfl
     cases h4:Au t.fields p.1.tag with
     |none=>
      rw[h4]at eP;refine⟨qs,?_,q2,q3,q4,q5,fun q hq=>?_⟩
      ·rw[List.filterMap_cons,eP];exact q1
      exact mF
     |some f=>
      rw[h4]at eP hfr;simp only at eP hfr;obtain⟨hkr,hst⟩:=hfr.resolve_left (by rw[h82];decide);by_cases hc:Ba (Cy S d f.kind p.2).1=Jf S f
      ·rw[if_pos hc]at eP;refine⟨qs,?_,q2,q3,q4,q5,fun q hq=>?_⟩
       ·rw[List.filterMap_cons,eP];exact q1
       exact mF
      rw[if_neg hc]at eP;have et:=(Ax h4).1;refine⟨(p.1,(Cy S d f.kind p.2).1)::qs,?_,?_,?_,?_,?_,?_⟩
      ·rw[List.filterMap_cons,eP];simp only[az,q1];congr 1
       simp[Df,et]
      ·intro q hq;rcases aB.1 hq with rfl|hq
       ·exact hpf
       exact q2 q hq
      ·intro q hq;rcases aB.1 hq with rfl|hq
       ·exact ih f.kind p.1.kind p.2 hkr (h2 p aN)
       exact q3 q hq
      ·intro q hq;rcases aB.1 hq with rfl|hq
       ·simp only;rw[<-hst h82];exact hc
       exact q4 q hq
      ·refine List.pairwise_cons.2 ⟨fun q hq=>?_,q5⟩;obtain⟨p',hp',e⟩:=q6 q hq;have:=(List.pairwise_cons.1 h3).1 p' hp';rw[<-e];exact this
      intro q hq;rcases aB.1 hq with rfl|hq
      ·exact⟨p,by simp,rfl⟩
      exact mF
   obtain⟨qs,q1,q2,q3,q4,q5,_⟩:=key ps hf h hp;rw[q1];exact .rcd hs hb ht h82 q2 q3 q4 q5
theorem Q8{s1 d1 s2 d2 x:List UInt8}{r:Vl × Bool}(h:En (Az s1 d1) (Az s2 d2) x=some r):∃S a T b v R,Az s1 d1=some (S,a)/\Az s2 d2=some (T,b)/\Jq S T a b=true/\V6 S T R/\Px R a b /\
  Je S/\Cm a/\Je T/\Cm b/\Gp T 12 b v/\Ba v=x/\x.length<=400/\r=Cy S 12 a v/\Gp S 12 a r.1/\LOk v r:=by
 cases h1:Az s1 d1 with
 |none=>rw[h1]at h;cases h
 |some y1=>
  cases h2:Az s2 d2 with
  |none=>rw[h1,h2]at h;cases h
  |some y2=>
   obtain⟨S,a⟩:=y1;obtain⟨T,b⟩:=y2;rw[h1,h2]at h;have h':(if Jq S T a b=true then(Jd T b x).map (Cy S 12 a)else none)=some r:=h;by_cases hr:Jq S T a b=true
   ·rw[if_pos hr]at h';obtain⟨g1,_,_,g2,_⟩:=Dn h1;obtain⟨g3,_,_,g4,_⟩:=Dn h2;cases hv:Jd T b x with
    |none=>rw[hv]at h';cases h'
    |some v=>
     rw[hv]at h';injection h' with h';obtain⟨v1,v2,v3⟩:=(H8 g3.1.1 g4).1 hv;obtain⟨R,hR,hk⟩:=Pi g1.1.2.1 g3.1.2.1 hr;obtain⟨i1,i2⟩:=S4 hR 12 a b v hk v1;subst h';exact⟨S,a,T,b,v,R,rfl,rfl,hr,hR,hk,g1,g2,g3,g4,v1,v2,v3,rfl,i1,i2⟩
   rw[if_neg hr]at h';cases h'
theorem Zs{s1 d1 s2 d2 x:List UInt8}{r:Vl × Bool}(h:En (Az s1 d1) (Az s2 d2) x=some r):(Ba r.1).length<=400:=by
 obtain⟨S,a,T,b,v,R,_,_,_,_,_,_,_,_,_,_,v2,v3,_,_,i2⟩:=Q8 h;have:=i2.le;rw[v2]at this;omega
theorem LOk.eq{v:Vl}{r:Vl × Bool}(h:LOk v r)(e:Ba r.1=Ba v):r.1=v:=by
 cases hr:r.2 with
 |false=>exact h.1 hr
 |true=>have:=h.2 hr;rw[e]at this;omega
theorem Qgp{s1 d1 s2 d2 x:List UInt8}{r q:Vl × Bool}(h:En (Az s1 d1) (Az s2 d2) x=some r)(hs:Ba r.1=x)(hq:En (Az s2 d2) (Az s1 d1) (Ba r.1)=some q):Ba q.1=x:=by
 obtain⟨S,a,T,b,v,R,e1,e2,hr,hR,hk,g1,g2,g3,g4,v1,v2,v3,er,i1,i2⟩:=Q8 h;obtain⟨T',b',S',a',v',R',e3,e4,_,_,_,_,_,_,_,v1',v2',_,eq',_,_⟩:=Q8 hq;rw[e2]at e3;rw[e1]at e4;injection e3 with e3;injection e3 with e3 e5;subst e3 e5;injection e4 with e4;injection e4 with e4 e6;subst e4 e6;have hv:r.1=v:=i2.eq (hs.trans v2.symm);have hv':v'=r.1:=Qfy g1.1.1 v1' i1 v2';rw[eq',hv',hv,Yf 12 b v v1];exact v2
theorem Qd8{s1 d1 s2 d2 x:List UInt8}{r:Vl × Bool}(h:En (Az s1 d1) (Az s2 d2) x=some r)(hb:Dt (Az s2 d2) (Az s1 d1)=true):
  En (Az s2 d2) (Az s1 d1) (Ba r.1)=some (r.1,false)/\En (Az s1 d1) (Az s2 d2) (Ba r.1)=some (r.1,false):=by
 have hlen:=Zs h;obtain⟨S,a,T,b,v,R,e1,e2,hr,hR,hk,g1,g2,g3,g4,v1,v2,v3,er,i1,i2⟩:=Q8 h;have j1:Gp T 12 b r.1:=by rw[er];exact Qkz hR 12 a b v hk v1
 have k1:Jd S a (Ba r.1)=some r.1:=(H8 g1.1.1 g2).2 ⟨i1,rfl,hlen⟩;have k2:Jd T b (Ba r.1)=some r.1:=(H8 g3.1.1 g4).2 ⟨j1,rfl,hlen⟩;refine⟨?_,?_⟩
 ·rw[Ry e2 e1 hb k1,Yf 12 b _ j1]
 rw[Ry e1 e2 (by rw[e1,e2];exact hr) k2,Yf 12 a _ i1]
theorem FnLiftTwice_walk(w:World)(A:Option Addr)(n c:Nat)(l:List UInt8)(h:Bx w A n (El l))(hc:n<=c)(hcm:c<=maxLen):
  Calls prog 3 #[.slice A n c] w fun e w'=>e=.returned (.bool true)/\Below w w w':=by
 by_cases hn:n<=1048576
 ·have H0:=Aa h;clear h;go_enter func3,ntmps3;go_wp2_with fail;refine(Sb A n c l w H0.o hc hcm).mono ?_;rintro e w1 ⟨a,b,c',d,s,rfl,ha,hb,hc',hd,hs,hb1⟩;have Hb1:=Aa hb1;clear hb1;have Hi:=Aa (fun W=>Kp a b c' d s W aI aI aI aI aI);have Hs:=Aa (fun W=>Qd2 a b c' d s W aI aI aI aI aI);have Hbo:=Aa (fun W=>Xj a b c' d W aI aI aI aI);unfold Sl at Hi Hs;cases hr:En (Az a b) (Az c' d) s with
  |none=>
   rw[hr]at Hi Hs;simp only[Qac,Option.isSome_none]at Hi Hs;clear hr Hbo;go_wp2_with fail;refine(Hi.o _).mono ?_;rintro e w2 ⟨rfl,hb2⟩;have Hb2:=Aa (Hb1.o.trans (hb2.mono Hb1.o.size));clear hb2;go_wp2_with fail;refine(Hs.o _).mono ?_;rintro e w3 ⟨rfl,hb3⟩;have Hb3:=Aa (Hb2.o.trans (hb3.mono Hb2.o.size));clear hb3;go_wp2_with fail;exact ma
  |some r=>
   have hle:=Zs hr;have Htw:=Aa (fun h=>Qd8 hr h);have Hy:=Aa (fun W=>Kp c' d a b (Ba r.1) W aI aI aI aI aI);have Hz:=Aa (fun W=>Kp a b c' d (Ba r.1) W aI aI aI aI aI);unfold Sl at Hy Hz;rw[hr]at Hi Hs;simp only[Qac,Option.isSome_some]at Hi Hs;clear hr;cases hbo:(Dt (Az a b) (Az c' d) && Dt (Az c' d) (Az a b))with
   |false=>
    rw[hbo]at Hbo;clear hbo Htw Hy Hz;generalize Ba r.1=x at *;go_wp2_with fail;refine(Hi.o _).mono ?_;rintro e w2 ⟨rfl,hb2⟩;have Hb2:=Aa (Hb1.o.trans (hb2.mono Hb1.o.size));clear hb2;go_wp2_with fail;refine(Hs.o _).mono ?_;rintro e w3 ⟨rfl,hb3⟩;have Hb3:=Aa (Hb2.o.trans (hb3.mono Hb2.o.size));clear hb3;go_wp2_with fail;refine(Hbo.o _).mono ?_;rintro e w4 ⟨rfl,hb4⟩;have Hb4:=Aa (Hb3.o.trans (hb4.mono Hb3.o.size));clear hb4;go_wp2_with fail;go_ret;exact⟨rfl,Hb4.o⟩
   |true=>
    obtain⟨h1,h2⟩:=Htw.o (by simp only[ax]at hbo;exact hbo.2);rw[hbo]at Hbo;rw[h1]at Hy;rw[h2]at Hz;simp only[Qac,Option.isSome_some]at Hy Hz;clear hbo Htw h1 h2;generalize Ba r.1=x at *;go_wp2_with fail;refine(Hi.o _).mono ?_;rintro e w2 ⟨rfl,hb2⟩;have Hb2:=Aa (Hb1.o.trans (hb2.mono Hb1.o.size));clear hb2;go_wp2_with fail;refine(Hs.o _).mono ?_;rintro e w3 ⟨rfl,hb3⟩;have Hb3:=Aa (Hb2.o.trans (hb3.mono Hb2.o.size));clear hb3;go_wp2_with fail;refine(Hbo.o _).mono ?_;rintro e w4 ⟨rfl,hb4⟩;have Hb4:=Aa (Hb3.o.trans (hb4.mono Hb3.o.size));clear hb4;go_wp2_with fail;refine(Hy.o _).mono ?_;rintro e w5 ⟨rfl,hb5⟩;have Hb5:=Aa (Hb4.o.trans (hb5.mono Hb4.o.size));clear hb5;go_wp2_with fail;refine(Hz.o _).mono ?_;rintro e w6 ⟨rfl,hb6⟩;have Hb6:=Aa (Hb5.o.trans (hb6.mono Hb5.o.size));clear hb6;go_wp2_with fail;go_ret;exact⟨rfl,Hb6.o⟩
 have t1:decide ((1048576:Int)<(n:Int))=true:=aE aI;go_enter func3,ntmps3;go_wp2_with fail;exact lD
end
section
open Go.ChangeShapes Go.WideShapes Go.ChangeAt Go.RowKit
open Go.ChangeMaps (open_string shut_string)
theorem Yu{α:Type}(l:List α)(d:α){j:Nat}(h:j<l.length):l.getD j d=l[j]:=by simp[List.getD,h]
theorem own:ownKnob prog.godebug=none:=aP
theorem laidOut:laidOutB prog=true:=aP
section
variable {H:Type} {enc:TypeId × Value->H} {W:World} {base:Nat} {v:Value} {d:DataW H} {ps:List MemPlace}
theorem arg_bytes(hv:Value.okWide prog W .any base 22 v)(h:DataW.Trod enc prog W 0 (fun _=>true) true 22 v d ps)(hlt:∀x∈ps,x.block<W.heap.size):
  ∃A n c,∃l:List UInt8,v=.slice A n c/\Bx W A n (El l)/\n<=c/\c<=maxLen:=by
 obtain⟨A,n,c,rfl⟩:=okWide_slice underlying22 hv;obtain⟨fuel,hf⟩:=h;rcases open_ints underlying22 underlying5 aP hf with⟨hcs,_⟩|⟨x,n',c',zs,hcs,_,hl,hm,hz,_,hcell,hwz⟩
 ·simp[Value.cells]at hcs;obtain⟨rfl,rfl,rfl⟩:=hcs;exact⟨none,0,0,[],rfl,⟨rfl,ah _,fun h=>absurd h aI⟩,Ao _,ah _⟩
 simp[Value.cells]at hcs;obtain⟨rfl,rfl,rfl⟩:=hcs;simp at hz;refine⟨some x,n,c,(zs.take n).map fun z=>UInt8.ofNat z.toNat,rfl,⟨by simp[El];omega,ae hl hm,fun hn=>?_⟩,hl,hm⟩;have h0:=hcell 0 aI;obtain⟨b,off,spot⟩:=x;have hspot:spot=none:=by simpa [Addr.add]using World.cell?_spot h0
 subst hspot;refine⟨b,off,rfl,?_,fun j u hu=>?_⟩
 ·have:=World.block_lt_of_cell? W _ h0;simpa [Addr.add]using this
 have hj:j<n:=by
  have:=(List.getElem?_eq_some_iff.1 hu).1;simp[El]at this;omega
 have h1:=hcell j aI;have e1:(⟨b,off,none⟩:Addr).add j=⟨b,off+j,none⟩:=bI;rw[e1]at h1;rw[h1];have hw:=hwz (zs.getD j 0) (by rw[Yu _ _ aI];exact af _);have hb2:0<=zs.getD j 0/\zs.getD j 0<=255:=by
  simp[Lit.wf,IntKind.min,IntKind.max,IntKind.signed,IntKind.bits]at hw;simpa using hw
 simp only[El,List.getElem?_map,List.getElem?_take]at hu;rw[if_pos hj,List.getElem?_eq_getElem (by omega:j<zs.length)]at hu;simp at hu;rw[<-hu];rw[Yu _ _ (by omega:j<zs.length)]at hb2 ⊢;congr 2
 omega
end
end
section
attribute [local go_sem] Qm0 Ql8 Qlz Qj6 ByteArray.mk_append_mk
def Qfz(o:Option (Vl × Bool))(x:List UInt8):Bool:=match o with|some r=>Ba r.1 != x|none=>false
theorem Qel(o:Option (Vl × Bool))(x:List UInt8)(w:World):Q6 o x w=fun e w'=>e=.returned (.tuple #[.bool (Qfz o x),.bool o.isSome])/\Below w w w':=by funext e w';unfold Q6 Qfz;cases o<;>rfl
theorem FnEvolveLost_walk(w:World)(A:Option Addr)(n c:Nat)(l:List UInt8)(h:Bx w A n (El l))(hc:n<=c)(hcm:c<=maxLen):
  Calls prog 4 #[.slice A n c] w fun e w'=>e=.returned (.bool true)/\Below w w w':=by
 by_cases hn:n<=1048576
 ·have H0:=Aa h;clear h;go_enter func4,ntmps4;go_wp2_with fail;refine(Sm A n c l w H0.o hc hcm).mono ?_;rintro e w1 ⟨a,b,c',d,s,rfl,ha,hb,hc',hd,hs,hb1⟩;have Hb1:=Aa hb1;clear hb1;have Hi:=Aa (fun W=>Qd0 a b c' d s W aI aI aI aI aI);have Hs:=Aa (fun W=>Qck a b c' d s W aI aI aI aI aI);have Hl:=Aa (fun W=>Kp a b c' d s W aI aI aI aI aI);simp only[Qel]at Hi Hs;unfold Sl at Hl;cases hr:En (Az a b) (Az c' d) s with
  |none=>
   rw[hr]at Hi Hs;simp only[Qfz,Option.isSome_none]at Hi Hs;clear hr Hl;go_wp2_with fail;refine(Hi.o _).mono ?_;rintro e w2 ⟨rfl,hb2⟩;have Hb2:=Aa (Hb1.o.trans (hb2.mono Hb1.o.size));clear hb2;go_wp2_with fail;refine(Hs.o _).mono ?_;rintro e w3 ⟨rfl,hb3⟩;have Hb3:=Aa (Hb2.o.trans (hb3.mono Hb2.o.size));clear hb3;go_wp2_with fail;exact ma
  |some r=>
   have hle:=Zs hr;have Hbk:=Aa (fun q (hq:En (Az c' d) (Az a b) (Ba r.1)=some q) (hts:Ba r.1=s)=>Qgp hr hts hq);have Hy:=Aa (fun W=>Kp c' d a b (Ba r.1) W aI aI aI aI aI);unfold Sl at Hy;rw[hr]at Hi Hs Hl;simp only[Qfz,Qac,Option.isSome_some]at Hi Hs Hl;clear hr;by_cases hts:Ba r.1=s
   ·have hss:(s != s)=false:=aN;cases hq:En (Az c' d) (Az a b) (Ba r.1)with
    |none=>
     rw[hq]at Hy;rw[hts]at Hi Hs Hl Hy;simp only[Qac,Option.isSome_none,hss]at Hy Hi Hs;clear hq Hbk hts hss;go_wp2_with fail;refine(Hi.o _).mono ?_;rintro e w2 ⟨rfl,hb2⟩;have Hb2:=Aa (Hb1.o.trans (hb2.mono Hb1.o.size));clear hb2;go_wp2_with fail;refine(Hs.o _).mono ?_;rintro e w3 ⟨rfl,hb3⟩;have Hb3:=Aa (Hb2.o.trans (hb3.mono Hb2.o.size));clear hb3;go_wp2_with fail;refine(Hl.o _).mono ?_;rintro e w4 ⟨rfl,hb4⟩;have Hb4:=Aa (Hb3.o.trans (hb4.mono Hb3.o.size));clear hb4;go_wp2_with fail;refine(Hy.o _).mono ?_;rintro e w5 ⟨rfl,hb5⟩;have Hb5:=Aa (Hb4.o.trans (hb5.mono Hb4.o.size));clear hb5;go_wp2_with fail;go_ret;exact⟨rfl,Hb5.o⟩
    |some q=>
     have hqs:=Hbk.o q hq hts;rw[hq]at Hy;rw[hts]at Hi Hs Hl Hy;simp only[Qac,Option.isSome_some,hss,hqs]at Hy Hi Hs;clear hq Hbk hts hss hqs;go_wp2_with fail;refine(Hi.o _).mono ?_;rintro e w2 ⟨rfl,hb2⟩;have Hb2:=Aa (Hb1.o.trans (hb2.mono Hb1.o.size));clear hb2;go_wp2_with fail;refine(Hs.o _).mono ?_;rintro e w3 ⟨rfl,hb3⟩;have Hb3:=Aa (Hb2.o.trans (hb3.mono Hb2.o.size));clear hb3;go_wp2_with fail;refine(Hl.o _).mono ?_;rintro e w4 ⟨rfl,hb4⟩;have Hb4:=Aa (Hb3.o.trans (hb4.mono Hb3.o.size));clear hb4;go_wp2_with fail;refine(Hy.o _).mono ?_;rintro e w5 ⟨rfl,hb5⟩;have Hb5:=Aa (Hb4.o.trans (hb5.mono Hb4.o.size));clear hb5;go_wp2_with fail;go_ret;exact⟨rfl,Hb5.o⟩
   obtain⟨x,hx⟩:∃x,x=Ba r.1:=⟨_,rfl⟩
   rw[<-hx]at hts hle Hi Hs Hl Hy;have hne:(x != s)=true:=bne_iff_ne.2 hts;have h2:(x == s)=false:=beq_eq_false_iff_ne.2 hts;simp only[hne]at Hi Hs;cases hq:En (Az c' d) (Az a b) x<;>
   ·rw[hq]at Hy;simp only[Qac,Option.isSome_none,Option.isSome_some]at Hy;clear hq Hbk hx;go_wp2_with fail;refine(Hi.o _).mono ?_;rintro e w2 ⟨rfl,hb2⟩;have Hb2:=Aa (Hb1.o.trans (hb2.mono Hb1.o.size));clear hb2;go_wp2_with fail;refine(Hs.o _).mono ?_;rintro e w3 ⟨rfl,hb3⟩;have Hb3:=Aa (Hb2.o.trans (hb3.mono Hb2.o.size));clear hb3;go_wp2_with fail;refine(Hl.o _).mono ?_;rintro e w4 ⟨rfl,hb4⟩;have Hb4:=Aa (Hb3.o.trans (hb4.mono Hb3.o.size));clear hb4;go_wp2_with fail;refine(Hy.o _).mono ?_;rintro e w5 ⟨rfl,hb5⟩;have Hb5:=Aa (Hb4.o.trans (hb5.mono Hb4.o.size));clear hb5;go_wp2_with fail;all_goals go_ret
    all_goals first|exact⟨rfl,Hb5.o⟩|(exfalso;simp at hne;done)|(exfalso;exact hts rfl)
 have t1:decide ((1048576:Int)<(n:Int))=true:=aE aI;go_enter func4,ntmps4;go_wp2_with fail;exact lD
end
end Go.Proofs.YtpjijpcemejlnaaGreatDoor
