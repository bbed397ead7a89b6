/- Texts joined. Conditions: as each theorem names them. -/
import Derived.Test.YtgfmljfjgohdcaaGreatDoorL35
import Derived.Test.YtgfmljfjgohdcaaGreatDoorL37
set_option maxRecDepth 100000
set_option maxHeartbeats 32000000
set_option linter.unusedVariables false
set_option linter.unusedSimpArgs false
namespace Go.Proofs.YtgfmljfjgohdcaaGreatDoor
open Go.RowKit Go.Proofs.Tryz
section
attribute [local go_sem] Qls Qkr Qj4 Qig ByteArray.mk_append_mk
theorem Qlb(w0:World)(xs:List (Ty × Value))(xv:Value)(hxv:xv.oneCell'=true)(hsc:Jt w0 xv xs)(k:Kd)(hk:Cs k)(hsg:k.signs=[])(hbs:k.base=[64])(nm:List UInt8)(fs:List Fd)(tv:Value)(hx:D5 xs k.name=some (⟨82,nm,fs⟩,tv))(hfs:Ff w0 tv fs)(htg:∀f∈fs,f.tag<=200)
  (d:Nat) (hd:d<=1000) (z:List UInt8) (w:World) (hw:Below w0 w0 w) (hz:z.length<=1000000) (o:Option (Fd × List UInt8)) (ho:o=Fo fs z) (q:Option (Vl × List UInt8))
  (HC:∀W,Below w0 w0 W->Calls prog 221 #[.agg #[xv],z,.string ⟨(Be k).toArray⟩,.agg #[.int .u8 82,nm,tv],.int .i64 ((d+1:Nat):Int)] W (Bj (Af xs) k q W)):
  Calls prog 175 #[.agg #[xv],(123::z:List UInt8),.string ⟨(Be k).toArray⟩,.int .i64 ((d+1:Nat):Int)] w (Bj (Af xs) k q w):=by
 have hkd:True:=Ac;have d2:(((d+1:Nat):Int))<=1001:=aF;generalize (((d+1:Nat):Int))=dd at *;have HC:=Aa HC;obtain⟨A9,c9,rfl,hl9,_⟩:=hfs;have HFs:=@Aa (∀W,Below w0 w0 W->Ff W (.slice A9 fs.length c9) fs) (fun W hW=>Ff.below (show Ff w0 (.slice A9 fs.length c9) fs from⟨A9,c9,rfl,hl9,by assumption⟩) hW)
 have Hr:=Aa (show ∀W,Below w0 w0 W->Calls prog 113 #[xv,.string ⟨(Be k).toArray⟩] W fun e w'=>e=.returned (.tuple #[.agg #[.int .u8 82,nm,.slice A9 fs.length c9],.bool true])/\Below W W w' from fun W hW=>by
  have h:=Gc xv xs k W (hsc.below hW) hk;rw[show Mu xs k=some (⟨82,nm,fs⟩,.slice A9 fs.length c9)from by unfold Mu;rw[if_pos ⟨hsg,hbs⟩];exact hx]at h;exact h)
 have hkl:(Be k).length<=100:=cY;have hzl:z.length<=1000000:=hz;have Hw:=Aa hw;have Hkd:=Aa hkd;generalize Be k=kb at *;clear hw hx hsc htg ho;go_enter func175,ntmps175;go_wp2_with fail;refine(Hr.o _ (Hw.o.alloc Hw.o.size _)).mono ?_;rintro e w1 ⟨rfl,hb1⟩;have hz1:=hb1.size;simp only[World.size_alloc]at hz1;have Hb1:=Aa (((Ar w.heap.size w).alloc (Am _) _).trans (hb1.mono aH));have X0:=@Aa (w1.cell? (w,0)=some xv) dv;clear hb1;go_upto_region 3 with fail
 obtain⟨w2,hw2⟩:∃w2,w2=w1.alloc (.cells #[.int .u8 82,nm,.slice A9 fs.length c9] 153):=⟨_,rfl⟩
 have Hb2:=@Aa (Below w w w2) dm;have Hl0:=@Aa (w.heap.size<w2.drew.heap.size) eT;have Hl1:=@Aa (w1.heap.size<w2.drew.heap.size) (by rw[hw2];simp);have X0:=@Aa (w2.drew.cell? (w,0)=some xv) dB;have X1:=@Aa (w2.drew.cell? (w1,0)=some (.int .u8 82)) cv;have X2:=@Aa (w2.drew.cell? (w1,1)=nm) cv;have X3:=@Aa (w2.drew.cell? (w1,2)=some (.slice A9 fs.length c9)) cv;rw[<-hw2];clear hw2;have HC9:=Aa (HC.o w2.drew (Hw.o.trans (Hb2.o.mono Hw.o.size)).drew);have q0:=X0.o;have q1:=X1.o;have q2:=X2.o;have q3:=X3.o;have l0:=Hl0.o;have l1:=Hl1.o;simp only[az,World.size_drew]at q0 q1 q2 q3 l0 l1;refine rgT (SrQ w2.drew (Af xs) k q) 6 6 (fun W vp vr vk h=>h.1) ?_;iterate 2 refine sq ?_
 refine sqS z ?_;iterate 3 refine sq ?_
 refine Qkx HC9.o ?_;iterate 3 refine sqP ?_
 iterate 3 refine sqA ?_
 intro l u W hl _ hR;obtain⟨vp,vr,vk,hq5,ua,ub,ue⟩:=RK.fin hR hl aI aI;simp only[Nat.reduceAdd]at ua ub ue;simp only[ua,ub,ue];clear hR hl ua ub ue;go_wp2_with fail;refine aD (v:=.tuple #[vp,vr,vk]) (by simp[results,results175,go_sem]) rfl ?_;exact hq5.post Hb2.o.drew
theorem Qjv(S:List Ty)(k:Kd)(w0:World)(xv:Value)(hxv:xv.oneCell'=true)(kb:List UInt8)(hkl:kb.length<=100)(st:Int)(nm:ByteArray)(A:Option Addr)(n c:Nat)(b:Bool)(c0:UInt8)(z:List UInt8)(dd:Int)(w:World)(hw:Below w0 w0 w)(hz:z.length<=1000000)
  (hr:∀W,Below w0 w0 W->Calls prog 113 #[xv,kb] W fun e w'=>e=.returned (.tuple #[.agg #[.int .u8 st,.string nm,.slice A n c],.bool b])/\Below W W w')
  (hc:((st == 82)=true/\((c0.toNat:Int) == 123)=false/\(st == 69)=false/\(st == 85)=false)\/((st == 82)=false/\(st == 69)=true/\((c0.toNat:Int) == 35)=false/\(st == 85)=false)\/((st == 82)=false/\(st == 69)=false/\(st == 85)=true/\((c0.toNat:Int) == 60)=false)\/((st == 82)=false/\(st == 69)=false/\(st == 85)=false)):
  Calls prog 175 #[.agg #[xv],(c0::z:List UInt8),kb,.int .i64 dd] w (Bj S k none w):=by
 have Hr:=Aa hr;have Hw:=Aa hw;clear hr hw;have key:∀w1,Below (w.alloc (.cells #[xv] 86)).heap.size (w.alloc (.cells #[xv] 86)) w1->Below w w (w1.alloc (.cells #[.int .u8 st,.string nm,.slice A n c] 153)):=fun w1 hb=>by
  have h1:=((Ar w.heap.size w).alloc (Am _) (.cells #[xv] 86)).trans (hb.mono aH);exact h1.alloc h1.size _
 have Hkey:=Aa key;clear key;rcases hc with⟨h1,h2,h3,h4⟩|⟨h1,h2,h3,h4⟩|⟨h1,h2,h3,h4⟩|⟨h1,h2,h3⟩;all_goals
  go_enter func175,ntmps175;go_wp2_with fail;refine(Hr.o _ (Hw.o.alloc Hw.o.size _)).mono ?_;rintro e w1 ⟨rfl,hb1⟩;have Hb2:=Aa (Hkey.o w1 hb1);clear hb1;go_wp2_with fail;refine aD (v:=.tuple #[.pointer none,(c0::z:List UInt8),.bool false]) (by simp[results,results175,go_sem]) rfl ?_;exact Bj.no rfl rfl Hb2.o
structure RS(S:List Ty)(K:Kd->List UInt8->Option (Vl × List UInt8))(fs:List Fd)(s:List UInt8)(ps:List (Fd × Vl))(last:Nat)(tt:List UInt8):Prop where
 eq:Dz S K fs 201 0 s=N6 ps (Dz S K fs (201 - ps.length) last tt)
 lo:ps.length<=last
 hi:last<=200
 la:last=(ps.map (·.1.tag)).getLastD 0
 fd:∀p∈ps,Bl fs p.1.tag=some p.1
 le:tt.length<=s.length
section
variable {S:List Ty} {K:Kd->List UInt8->Option (Vl × List UInt8)} {fs:List Fd} {s tt r q z z':List UInt8} {ps:List (Fd × Vl)} {last:Nat} {f:Fd} {v:Vl}
theorem RS.init:RS S K fs s [] 0 s:=⟨by cases h:Dz S K fs 201 0 s<;>simp[N6,h],Am _,by omega,rfl,by simp,Am _⟩
theorem RS.one(h:RS S K fs s ps last tt):∃m,201 - ps.length=m+1/\Dz S K fs 201 0 s=N6 ps (match Cu K fs tt with
  |none=>none
  |some (p,r)=>if p.1.tag<=last\/Bi p.2=M6 S p.1 then none else match Aq 44 r with
   |some q=>(match Dz S K fs m p.1.tag q with|some (ps,z)=>some (p::ps,z)|none=>none)
   |none=>match Aq 125 r with|some q=>some ([p],q)|none=>none):=
 ⟨200 - ps.length,by have:=h.lo;have:=h.hi;omega,by rw[h.eq,show 201 - ps.length=(200 - ps.length)+1 by have:=h.lo;have:=h.hi;omega];rfl⟩
theorem RS.tagN(h:RS S K fs s ps last tt)(h1:Fo fs tt=none):Dz S K fs 201 0 s=none:=by
 obtain⟨m,_,e⟩:=h.one;rw[e];simp[Cu,h1,N6]
theorem RS.sign(h:RS S K fs s ps last tt)(h1:Fo fs tt=some (f,r))(h2:Aq 61 r=none):Dz S K fs 201 0 s=none:=by
 obtain⟨m,_,e⟩:=h.one;rw[e];simp[Cu,h1,h2,N6]
theorem RS.ord(h:RS S K fs s ps last tt)(h1:Fo fs tt=some (f,r))(h3:f.tag<=last):Dz S K fs 201 0 s=none:=by
 obtain⟨m,_,e⟩:=h.one;rw[e];cases h2:Aq 61 r with
 |none=>simp[Cu,h1,h2,N6]
 |some q=>
  cases hk:K f.kind q with
  |none=>simp[Cu,h1,h2,hk,N6]
  |some x=>simp[Cu,h1,h2,hk,N6,h3]
theorem RS.rd(h:RS S K fs s ps last tt)(h1:Fo fs tt=some (f,r))(h2:Aq 61 r=some q)(hk:K f.kind q=none):Dz S K fs 201 0 s=none:=by
 obtain⟨m,_,e⟩:=h.one;rw[e];simp[Cu,h1,h2,hk,N6]
theorem RS.sam(h:RS S K fs s ps last tt)(h1:Fo fs tt=some (f,r))(h2:Aq 61 r=some q)(hk:K f.kind q=some (v,z))(h4:Bi v=M6 S f):Dz S K fs 201 0 s=none:=by
 obtain⟨m,_,e⟩:=h.one;rw[e];simp[Cu,h1,h2,hk,N6,h4]
theorem RS.sep(h:RS S K fs s ps last tt)(h1:Fo fs tt=some (f,r))(h2:Aq 61 r=some q)(hk:K f.kind q=some (v,z))(h5:Aq 44 z=none)(h6:Aq 125 z=none):Dz S K fs 201 0 s=none:=by
 obtain⟨m,_,e⟩:=h.one;rw[e];simp[Cu,h1,h2,hk,N6,h5,h6]
theorem RS.go(h:RS S K fs s ps last tt)(h1:Fo fs tt=some (f,r))(h2:Aq 61 r=some q)(h3:last<f.tag)(hk:K f.kind q=some (v,z))(h4:Bi v≠M6 S f)(h5:Aq 44 z=some z')(hl:z'.length<=tt.length):
  RS S K fs s (ps++[(f,v)]) f.tag z':=by
 obtain⟨m,hm,e⟩:=h.one;obtain⟨g1,g2,_,_⟩:=G9 h1;refine⟨?_,by have:=h.lo;simp;omega,g1,by simp,fun p hp=>?_,aa hl h.le⟩
 ·rw[e,show 201 - (ps++[(f,v)]).length=m by simp;omega];simp only[Cu,h1,h2,hk,h5];rw[if_neg cx];cases Dz S K fs m f.tag z'<;>simp[N6]
 rcases ad.1 hp with hp|hp
 ·exact h.fd p hp
 rw[an]at hp;subst hp;exact g2
theorem RS.fin(h:RS S K fs s ps last tt)(h1:Fo fs tt=some (f,r))(h2:Aq 61 r=some q)(h3:last<f.tag)(hk:K f.kind q=some (v,z))(h4:Bi v≠M6 S f)(h5:Aq 44 z=none)(h6:Aq 125 z=some z'):
  Dz S K fs 201 0 s=some (ps++[(f,v)],z')/\∀p∈ps++[(f,v)],Bl fs p.1.tag=some p.1:=by
 obtain⟨m,hm,e⟩:=h.one;obtain⟨g1,g2,_,_⟩:=G9 h1;refine⟨?_,fun p hp=>?_⟩
 ·rw[e];simp only[Cu,h1,h2,hk,h5,h6];rw[if_neg cx];simp[N6]
 rcases ad.1 hp with hp|hp
 ·exact h.fd p hp
 rw[an]at hp;subst hp;exact g2
end
theorem Qh5(P:Nat->Prop)(b:Nat)(kr:List UInt8)(g:Nat)(w:World)(h:Fx P w b (.mk (64::kr) [69] [g] []))(hkr:kr.length<=100)(hg:g<=200):Calls prog 56 #[b] w (Dl (35::Au g) w):=by
 obtain⟨A1,A2,c1,c2,xs,hb,_,h0,ht,h2,_,hr1,_⟩:=h.open_;obtain⟨b6,o6,rfl,hb6,hc6⟩:=hr1.at_ (show 0<1 by decide);simp[Er]at hc6 h2;have Hd:=Aa (fun W=>Jf g g W (Am _) aF);have hdl:=Di 2 g bZ
 have HN:=Aa (show Calls prog 118 #[b] w (Dl (35::Au g) w)from by
  clear h h0 hr1;go_enter func118,ntmps118;go_wp2_with fail;refine(Hd.o _).mono ?_;rintro e w3 ⟨rfl,hb3⟩;have Hb3:=Aa hb3;clear hb3;go_wp2_with fail;go_ret;exact⟨rfl,Hb3.o⟩)
 clear h ht h2 hr1 Hd hc6;go_enter func56,ntmps56;go_wp2_with fail;refine HN.o.mono ?_;rintro e w3 ⟨rfl,hb3⟩;have Hb3:=Aa hb3;clear hb3;go_wp2_with fail;exact iT
theorem Qh8(P:Nat->Prop)(b:Nat)(kr:List UInt8)(g:Nat)(y:SV)(px:List UInt8)(w:World)(h:Fx P w b (.mk (64::kr) [85] [g] [y]))(hkr:kr.length<=100)(hg:g<=200)(hpl:px.length<=100000000)
  (ih:∀b W,Fx P W b y->Calls prog 56 #[.pointer (some ⟨b,0,none⟩)] W (Dl px W)):
  Calls prog 56 #[.pointer (some ⟨b,0,none⟩)] w (Dl (60::(Au g++61::(px++[62]))) w):=by
 obtain⟨A1,A2,c1,c2,xs,hb,_,h0,ht,h2,h3,hr1,hr2,_,_,hkk,hk⟩:=h.open_;obtain⟨⟨bx,y'⟩,rfl⟩:∃a,xs=[a]:=by
  cases xs with
  |nil=>simp at hkk
  |cons a l=>cases l with
   |nil=>exact⟨a,rfl⟩
   |cons b l=>simp at hkk
 obtain rfl:y=y':=by simpa using hkk
 obtain⟨b6,o6,rfl,hb6,hc6⟩:=hr1.at_ (show 0<1 by decide);obtain⟨b8,o8,rfl,hb8,hc8⟩:=hr2.at_ (show 0<1 by decide);simp[Er]at hc6 h2;simp[Et]at hc8 h3;have Hd:=Aa (fun W=>Jf g g W (Am _) aF);have hdl:=Di 2 g bZ;have HX:=Aa (fun W (hW:Below w w W)=>ih bx W ((hk (bx,y) aH).after hW));have C6:=Aa hc6;have C8:=Aa hc8;have C2:=Aa h2;have C3:=Aa h3
 have HN:=Aa (show Calls prog 118 #[.pointer (some ⟨b,0,none⟩)] w (Dl (60::(Au g++61::(px++[62]))) w)from by
  clear h h0 hr1 hr2 hk hkk ih;go_enter func118,ntmps118;go_wp2_with fail;clear h2 h3 hc6 hc8;refine M0 [11,12,13,14,15,16,17,18,19,20,21,22,23,24,25,26,27,28,2]
   (fun ix v W=>match ix with|0=>v=.pointer (some ⟨b,0,none⟩)|1=>v=.pointer (some ⟨b,0,none⟩)|2=>v=.pointer (some ⟨b,2,none⟩)|3=>v=.slice (some ⟨b6,o6,none⟩) 1 c1|4=>v=.pointer (some ⟨b6,o6,none⟩)|5=>v=(g:Int)|6=>v=(Au g:List UInt8)|7=>v=(60::Au g:List UInt8)|8=>v=.string ⟨(60::(Au g++[61]):List UInt8).toArray⟩|9=>v=.pointer (some ⟨b,0,none⟩)|10=>v=.pointer (some ⟨b,0,none⟩)|11=>v=.pointer (some ⟨b,3,none⟩)|12=>v=.slice (some ⟨b8,o8,none⟩) 1 c2|13=>v=.pointer (some ⟨b8,o8,none⟩)|14=>v=bx|15=>v=(px:List UInt8)|16=>v=.string ⟨(60::(Au g++61::px):List UInt8).toArray⟩|17=>v=.string ⟨(60::(Au g++61::(px++[62])):List UInt8).toArray⟩|18=>v=.string ⟨(60::(Au g++61::(px++[62])):List UInt8).toArray⟩|_=>True)
   (fun L U W=>Below w w W) ((Ar _ _).drew) ?_ ?_
  ·repeat (first|exact Ap.nil|(refine Ap.cons ?_ ?_;rotate_left))
   all_goals
    rintro L U W hL hpre HR Hdep K hK;have hB:=HR.o;have d2:=(hB.cell (p:=⟨b,2,none⟩) hb).trans C2.o;have d3:=(hB.cell (p:=⟨b,3,none⟩) hb).trans C3.o;have d6:=(hB.cell (p:=⟨b6,o6,none⟩) hb6).trans C6.o;have d8:=(hB.cell (p:=⟨b8,o8,none⟩) hb8).trans C8.o;first|(simp[Region.binds]at hpre;done)|simp[Region.binds]at hpre|clear hpre
   iterate 6
    ·exact fD
   ·exact gc
   ·exact fK
   ·exact fK
   iterate 6
    ·exact fD
   ·go_simp;refine(HX.o W hB).mono ?_;rintro e w3 ⟨rfl,hb3⟩;exact hK _ _ _ rfl Ac (hB.trans (hb3.mono hB.size)) aG
   ·exact fK
   ·exact fK
   ·exact fD
  rintro L U W hL hφ hR;have e18:U 18=.string ⟨(60::(Au g++61::(px++[62])):List UInt8).toArray⟩:=hφ 18 aI;simp only[e18];clear hφ;have Hb9:=Aa hR;clear hL hR;go_wp2_with fail;go_ret;exact⟨rfl,Hb9.o⟩)
 clear h ht h2 h3 hr1 hr2 Hd hc6 hc8 hk hkk ih HX C6 C8 C2 C3;go_enter func56,ntmps56;go_wp2_with fail;refine HN.o.mono ?_;rintro e w3 ⟨rfl,hb3⟩;have Hb3:=Aa hb3;clear hb3;go_wp2_with fail;exact iT
theorem Qg6(P:Nat->Prop)(b:Nat)(kr:List UInt8)(kids:List SV)(ps:List (Fd × Vl))(w:World)(h:Fx P w b (.mk (64::kr) [82] (ps.map fun p=>p.1.tag) kids))(hkr:kr.length<=100)(hl:(Bi (.mk 82 [] 0 (ps.map Ee))).length<=100000000)(hkl:kids.length=ps.length)
  (htg:∀p∈ps,p.1.tag<=200) (ih:∀(i:Nat) (hi:i<kids.length) (hi2:i<ps.length) b W,Fx P W b kids[i]->(Bi ps[i].2).length<=100000000->Calls prog 56 #[.pointer (some ⟨b,0,none⟩)] W (Dl (Bi ps[i].2) W)):
  Calls prog 56 #[.pointer (some ⟨b,0,none⟩)] w (Dl (Bi (.mk 82 [] 0 (ps.map Ee))) w):=by
 obtain⟨A1,A2,c1,c2,xs,hb,_,h0,ht,h2,h3,hr1,hr2,_,hxl,rfl,hk⟩:=h.open_;have HF:=Aa (Qo ps);have hjl:(As 44 (ps.map fun p=>Bi (Ee p))).length<=100000000:=by rw[Qo]at hl;simp at hl;omega
 rw[Cj]at hjl
 have Hjt:=Aa (fun i (hi:i<ps.length)=>(show Ef ((ps.take (i+1)).map fun p=>Bi (Ee p))<=Ef (ps.map fun p=>Bi (Ee p))/\(Bi (Ee ps[i])).length+1+Ef ((ps.take i).map fun p=>Bi (Ee p))=Ef ((ps.take (i+1)).map fun p=>Bi (Ee p))from by
  refine⟨?_,?_⟩
  ·conv=>rhs;rw[<-List.take_append_drop (i+1) ps,ax]
   exact iR
  rw[By ps i hi,ax];simp[Ef];omega))
 have hkl2:xs.length=ps.length:=eo;have Ih:=Aa ih;have Hr1:=Aa hr1;have Hr:=Aa hr2;have Hk:=Aa hk;have Hkl:=Aa hkl2;have Hlen:=Aa hjl;have Htg:=Aa htg;have C2:=Aa (show w.cell? ⟨b,2,none⟩=some (.slice A1 ps.length c1)by simpa using h2);have hle:ps.length<=xs.length:=aF
 have HN:=Aa (show Calls prog 118 #[.pointer (some ⟨b,0,none⟩)] w (Dl (Bi (.mk 82 [] 0 (ps.map Ee))) w)from by
  clear hkl hkl2 ih hr1 hr2 hk h hl hjl h0 h2 htg;go_enter func118,ntmps118;go_wp2_with fail;go_loopw [4,3] (fun i s wr=>∃m:Nat,i=.int .i64 m/\m<=xs.length/\s=.string ⟨(123::As 44 ((ps.take m).map fun p=>Bi (Ee p)):List UInt8).toArray⟩/\Hid (Below w w wr)) (fun i _ _=>xs.length - (intOf i).toNat)
  case atStart=>exact⟨0,rfl,ae _,rfl,Ar _ _⟩
  case round=>
   obtain⟨m,rfl,hm,rfl,Hbr⟩:=hrel;have m1:(0:Int)<=(m:Int):=aF;have g3:=(Hbr.o.cell (p:=⟨b,3,none⟩) hb).trans h3;have hbw:b<wr.heap.size:=cZ;have HJ:=Aa (Cj 44 ((ps.take m).map fun p=>Bi (Ee p)));by_cases hlt:m<xs.length
   ·have m2:(m:Int)<(xs.length:Int):=aF;have hltk:m<ps.length:=cw;have m2':(m:Int)<(ps.length:Int):=aF;obtain⟨b8,o8,rfl,hb8,hc8⟩:=(Hr.o.below Hbr.o).at_ hlt;rw[Na hlt]at hc8;obtain⟨b6,o6,e6,hb6,hc6⟩:=(Hr1.o.below Hbr.o).at_ (show m<(ps.map fun p=>p.1.tag).length by simpa using hltk);rw[Vj (by simpa using hltk),List.getElem_map]at hc6;subst e6;obtain⟨q1,q2⟩:=Hjt.o m hltk;have hfl:=Pq ps[m];have hjm:(As 44 ((ps.take m).map fun p=>Bi (Ee p))).length<=100000000:=by rw[HJ.o];have:=Hlen.o;omega
    have hpm:(Bi ps[m].2).length<=100000000:=by have:=Hlen.o;omega
    have HX:=Aa (fun W (hW:Below w w W)=>Ih.o m ep hltk xs[m].1 W cM hpm);have hgt:=Htg.o _ (ac hltk);have Hd:=Aa (fun W=>Jf ps[m].1.tag ps[m].1.tag W (Am _) aF);have hdl:=Di 2 ps[m].1.tag bZ
    have HP:=Aa (show As 44 ((ps.take (m+1)).map fun p=>Bi (Ee p))=(if m=0 then[]else As 44 ((ps.take m).map fun p=>Bi (Ee p))++[44])++(Au ps[m].1.tag++61::Bi ps[m].2)from by
     rw[By ps m hltk,ax,List.map_singleton,Rz];have:((ps.take m).map fun p=>Bi (Ee p)).length=m:=aL;rw[this,show Bi (Ee ps[m])=Au ps[m].1.tag++61::Bi ps[m].2 by simp[Ee,Bi,D7,H9,As]];by_cases h0:m=0
     ·rw[if_pos h0,if_pos h0];rfl
     rw[if_neg h0,if_neg h0];simp)
    have HP0:=@Aa (m=0->As 44 ((ps.take m).map fun p=>Bi (Ee p))=[]) (by rintro rfl;rfl);clear q1 q2 hfl;generalize Bi ps[m].2=pm at *;generalize As 44 ((ps.take m).map fun p=>Bi (Ee p))=jm at *;generalize xs[m].1=bm at *;generalize ps[m].1.tag=gm at *;obtain⟨acc,hacc⟩:∃acc:List UInt8,acc=if m=0 then 123::jm else 123::(jm++[44]):=⟨_,rfl⟩
    have hal:acc.length<=100000002:=by rw[hacc];split<;>simp<;>omega
    have HPn:=Aa (show (123::As 44 ((ps.take (m+1)).map fun p=>Bi (Ee p)):List UInt8)=acc++(Au gm++61::pm)from by
     rw[HP.o,hacc];by_cases h0:m=0
     ·rw[if_pos h0,if_pos h0,HP0.o h0];rfl
     rw[if_neg h0,if_neg h0];simp)
    have C8:=Aa hc8;have C6:=Aa hc6;have hzr:=Hbr.o.size;by_cases h0m:m=0
    ·have t0:¬(0<m):=aF;have t1:¬((0:Int)<(m:Int)):=aF;have hA:=hacc.trans (if_pos h0m);have HA:=Aa hA;clear h0m HP HP0 HJ hacc hA hc8 hc6;go_wp2_with fail;rw[<-HA.o];refine rgE [52,53,54,55,56,57,58,59,60,61,62,63,64,65,66,67,68,69,70,71,3]
      (fun ix v W=>match ix with|0=>v=(acc:List UInt8)|1=>v=.pointer (some ⟨b,0,none⟩)|2=>v=.pointer (some ⟨b,0,none⟩)|3=>v=.pointer (some ⟨b,2,none⟩)|4=>v=.slice (some ⟨b6,o6,none⟩) ps.length c1|5=>v=(m:Int)|6=>v=.pointer (some ⟨b6,o6+m,none⟩)|7=>v=(gm:Int)|8=>v=(Au gm:List UInt8)|9=>v=(acc++Au gm:List UInt8)|10=>v=.string ⟨(acc++(Au gm++[61]):List UInt8).toArray⟩|11=>v=.pointer (some ⟨b,0,none⟩)|12=>v=.pointer (some ⟨b,0,none⟩)|13=>v=.pointer (some ⟨b,3,none⟩)|14=>v=.slice (some ⟨b8,o8,none⟩) xs.length c2|15=>v=(m:Int)|16=>v=.pointer (some ⟨b8,o8+m,none⟩)|17=>v=bm|18=>v=(pm:List UInt8)|19=>v=.string ⟨(acc++(Au gm++61::pm):List UInt8).toArray⟩|20=>v=.string ⟨(acc++(Au gm++61::pm):List UInt8).toArray⟩|_=>True)
      (fun L U W=>Below wr wr W) ((Ar _ _).drew) ?_ ?_
     ·exact fF
     rintro L U W hL hφ hR;have e20:U 20=.string ⟨(acc++(Au gm++61::pm):List UInt8).toArray⟩:=hφ 20 aI;simp only[e20];clear hφ;have Hb9:=Aa (Hbr.o.trans (hR.mono hzr));clear hL hR;go_wp2_with fail;go_roundw
     case rel=>exact⟨m+1,by go_num,by omega,by rw[HPn.o],Hb9.o⟩
     case measure=>simp[intOf];omega
    have t0:0<m:=aF;have t1:(0:Int)<(m:Int):=aF;have hA:=hacc.trans (if_neg h0m);have HA:=Aa hA;clear h0m HP HP0 HJ hacc hA hc8 hc6;go_wp2_with fail;have HA2:=@Aa ((123::(jm++[44]):List UInt8)=acc) HA.o.symm;first|rw[HA2.o]|(simp only[ar];rw[HA2.o])
    refine rgE [52,53,54,55,56,57,58,59,60,61,62,63,64,65,66,67,68,69,70,71,3]
     (fun ix v W=>match ix with|0=>v=(acc:List UInt8)|1=>v=.pointer (some ⟨b,0,none⟩)|2=>v=.pointer (some ⟨b,0,none⟩)|3=>v=.pointer (some ⟨b,2,none⟩)|4=>v=.slice (some ⟨b6,o6,none⟩) ps.length c1|5=>v=(m:Int)|6=>v=.pointer (some ⟨b6,o6+m,none⟩)|7=>v=(gm:Int)|8=>v=(Au gm:List UInt8)|9=>v=(acc++Au gm:List UInt8)|10=>v=.string ⟨(acc++(Au gm++[61]):List UInt8).toArray⟩|11=>v=.pointer (some ⟨b,0,none⟩)|12=>v=.pointer (some ⟨b,0,none⟩)|13=>v=.pointer (some ⟨b,3,none⟩)|14=>v=.slice (some ⟨b8,o8,none⟩) xs.length c2|15=>v=(m:Int)|16=>v=.pointer (some ⟨b8,o8+m,none⟩)|17=>v=bm|18=>v=(pm:List UInt8)|19=>v=.string ⟨(acc++(Au gm++61::pm):List UInt8).toArray⟩|20=>v=.string ⟨(acc++(Au gm++61::pm):List UInt8).toArray⟩|_=>True)
     (fun L U W=>Below wr wr W) ((Ar _ _).drew) ?_ ?_
    ·exact fF
    rintro L U W hL hφ hR;have e20:U 20=.string ⟨(acc++(Au gm++61::pm):List UInt8).toArray⟩:=hφ 20 aI;simp only[e20];clear hφ;have Hb9:=Aa (Hbr.o.trans (hR.mono hzr));clear hL hR;go_wp2_with fail;go_roundw
    case rel=>exact⟨m+1,by go_num,by omega,by rw[HPn.o],Hb9.o⟩
    case measure=>simp[intOf];omega
   ·have em:m=ps.length:=cw;have HE:=Aa (show As 44 ((ps.take m).map fun p=>Bi (Ee p))=As 44 (ps.map fun p=>Bi (Ee p))by rw[em,List.take_length]);have hjm:(As 44 ((ps.take m).map fun p=>Bi (Ee p))).length<=100000000:=by rw[HE.o,Cj];exact Hlen.o
    clear em HJ;generalize As 44 ((ps.take m).map fun p=>Bi (Ee p))=jm at *;go_wp2_with fail;go_ret;exact⟨by rw[HF.o,<-HE.o];rfl,Hbr.o⟩)
 clear h ht h2 h3 hr1 hr2 hk hkl hkl2 ih Ih Hr1 Hr Hk hl hjl htg;go_enter func56,ntmps56;go_wp2_with fail;refine HN.o.mono ?_;rintro e w3 ⟨rfl,hb3⟩;have Hb3:=Aa hb3;clear hb3;go_wp2_with fail;exact iT
theorem Qh3{S:List Ty}(hT:∀t∈S,En t)(P:Nat->Prop):∀(d:Nat) (k:Kd) (v:Vl),Nm S d k v->Cs k->∀(b:Nat) (w:World),Fx P w b (De S k v)->(Bi v).length<=100000000->Calls prog 56 #[b] w (Dl (Bi v) w):=by
 intro d;induction d with
 |zero=>intro k v h;cases h
 |succ d ih=>
  intro k v h hk b w hw hl;have hkl:=hk.2.2;cases h with
  |@n _ _ m hs hb h=>
   rw[Qc9,show Be k=[110]by unfold Be Bk;rw[hs,hb];rfl]at hw;rw[show Bi (.mk 110 (Au m) 0 [])=Au m by simp[Bi,D7,H9]];exact Qg P b 110 _ w (.inl rfl) hw
  |@t _ _ s hs hb h=>
   rw[Qad,show Be k=[116]by unfold Be Bk;rw[hs,hb];rfl]at hw;rw[show Bi (.mk 116 s 0 [])=39::(s++[39])by simp[Bi,D7,H9]];exact Qg P b 116 _ w (.inr (.inl rfl)) hw
  |@f _ _ x hs hb=>
   rw[Zk,show Be k=[102]by unfold Be Bk;rw[hs,hb];rfl]at hw;rw[show Bi (.mk 102 (if x then Dy else Kh) 0 [])=(if x then Dy else Kh)by simp[Bi,D7,H9]];exact Qg P b 102 _ w (.inr (.inr rfl)) hw
  |@lst _ _ r ks hs hl2 h=>
   have e:Be k=91::(r++Bk k):=cm;rw[Vg,e]at hw;rw[e]at hkl;refine Qg2 P b _ _ ks w hw bI hl aH fun i hi hi2 b W hW hl3=>?_;rw[List.getElem_map]at hW;exact ih _ _ (h _ (ac hi2)) (M8 hk).1 b W hW hl3
  |@non _ _ r hs=>
   have e:Be k=63::(r++Bk k):=cm;rw[Nv,e]at hw;rw[e]at hkl;exact Qa9 P b _ _ none w hw bI hl rfl aH
  |@som _ _ r x hs h=>
   have e:Be k=63::(r++Bk k):=cm;rw[Nv,e]at hw;rw[e]at hkl;have hl3:(Bi x).length<=100000000:=by have:=hl;simp[Bi,D7,H9,As]at this;omega
   refine Qa9 P b _ _ (some x) w hw bI hl rfl fun y hy b W z hz hW=>?_;injection hy with hy;subst hy;simp at hz;subst hz;exact ih _ _ h (M8 hk).1 b W hW hl3
  |@enm _ _ t f hs hb ht h9 hf=>
   have e:Be k=64::(k.name++[59]):=bQ;rw[Ti,e]at hw;rw[e]at hkl;rw[show Bi (.mk 69 [] f.tag [])=35::Au f.tag by simp[Bi,D7,H9]];exact Qh5 P b _ f.tag w hw bI ((hT t (Ch ht).1).2.2.1.1 f (Ci hf).2).2.1
  |@uni _ _ t f x hs hb ht h5 hf h=>
   have e:Be k=64::(k.name++[59]):=bQ;rw[Ts,e,Jd ht hf]at hw;rw[e]at hkl;have hkf:=Sj hT ht eJ (Ci hf).2;have e2:Bi (.mk 85 [] f.tag [x])=60::(Au f.tag++61::(Bi x++[62])):=by simp[Bi,D7,H9,As]
   rw[e2]at hl ⊢;have hl3:(Bi x).length<=100000000:=by simp at hl;omega
   exact Qh8 P b _ f.tag _ (Bi x) w hw bI hkf.2 hl3 fun b W hW=>ih _ _ h hkf.1 b W hW hl3
  |@rcd _ _ t fs hs hb ht h2 hf h hn hp=>
   have e:Be k=64::(k.name++[59]):=bQ;rw[V6,e]at hw;rw[e]at hkl;have hkf:=fun p (hp:p∈fs)=>Sj hT ht dc (Ci (hf p hp)).2;refine Qg6 P b _ _ fs w hw bI hl aH (fun p hp=>(hkf p hp).2) fun i hi hi2 b W hW hl3=>?_;have hm:=ac hi2;rw[List.getElem_map,Jd ht (hf _ hm)]at hW;exact ih _ _ (h _ hm) (hkf _ hm).1 b W hW hl3
theorem Qh0{S:List Ty}(hT:∀t∈S,En t)(P:Nat->Prop):∀(d:Nat) (k:Kd) (v:Vl),Nm S d k v->Cs k->∀(b:Nat) (w:World),Fx P w b (De S k v)->(Bi v).length<=1000000->Calls prog 56 #[b] w (Dl (Bi v) w):=
 fun d k v h1 h2 b w h3 h4=>Qh3 hT P d k v h1 h2 b w h3 (aa h4 aI)
structure Qe2(w:World)(xv y0 y1 y2 h0 h1:Value)(S:List Ty)(K:Kd->List UInt8->Option (Vl × List UInt8))(fs:List Fd)(s:List UInt8)(wr:World)(tv kv:Value)(ps:List (Fd × Vl))(xs:List (Nat × SV))(last:Nat)(tt:List UInt8):Prop where
 bel:Below w w wr
 st:Mz (w.heap.size+3) (w.heap.size+2) wr h0 h1 tv tv kv kv (ps.map fun p=>p.1.tag) xs
 box:wr.cell? (w,0)=some xv
 b0:wr.cell? (w,1,0)=some y0
 b1:wr.cell? (w,1,1)=some y1
 b2:wr.cell? (w,1,2)=some y2
 len:xs.length=ps.length
 eq:xs.map (·.2)=ps.map fun p=>De S p.1.kind p.2
 rs:RS S K fs s ps last tt
theorem Qe2.after{w wr W:World}{xv y0 y1 y2 h0 h1:Value}{S:List Ty}{K:Kd->List UInt8->Option (Vl × List UInt8)}{fs:List Fd}{s tt:List UInt8}{tv kv:Value}{ps:List (Fd × Vl)}{xs:List (Nat × SV)}{last:Nat}
  (h:Qe2 w xv y0 y1 y2 h0 h1 S K fs s wr tv kv ps xs last tt) (hb:Below wr wr W):Qe2 w xv y0 y1 y2 h0 h1 S K fs s W tv kv ps xs last tt:=by
 have hlt:=h.st.lt;have hc:∀b o,b<w.heap.size+3->W.cell? ⟨b,o,none⟩=wr.cell? ⟨b,o,none⟩:=fun b o hb'=>hb.cell (p:=⟨b,o,none⟩) (show b<wr.heap.size by omega);exact⟨h.bel.trans (hb.mono h.bel.size),h.st.after hb,(hc _ _ aF).trans h.box,(hc _ _ aF).trans h.b0,(hc _ _ aF).trans h.b1,(hc _ _ aF).trans h.b2,h.len,h.eq,h.rs⟩
theorem Mz.last{base B n c g:Nat}{W:World}{A:Option Addr}{h0 h1 tu ku kv:Value}{gs:List Nat}{xs:List (Nat × SV)}(h:Mz base B W h0 h1 tu (.slice A n c) ku kv (gs++[g]) xs):
  ∃b,A=some ⟨b,0,none⟩/\n=gs.length+1/\b<W.heap.size/\W.cell? ⟨b,gs.length,none⟩=(g:Int):=by
 have hn:=Qhj h.tags;have e:(gs++[g]).length=gs.length+1:=aH;rcases h.tags.2 with⟨e0,h0⟩|⟨b,cap,cur,e1,_⟩
 ·omega
 injection e1 with e1 _ _;subst e1;refine⟨b,rfl,by omega,(h.tags.lt b rfl).2,?_⟩;have:=h.tags.cells (g:=b) rfl gs.length (g:Int) (by simp[Er]);have e2:(⟨b,0,none⟩:Addr).add gs.length=⟨b,0+gs.length,none⟩:=bn;rw[e2]at this;simpa using this
def Sx(base:Nat)(tv kv:Value)(W:World)(x:Nat × SV):Prop:=Fx (fun c=>base<=c/\kv.ownBlock≠some c/\tv.ownBlock≠some c) W x.1 x.2
theorem Sx.appT{base:Nat}{W W':World}{tv tv' kv:Value}{x:Nat × SV}(h:Sx base tv kv W x)(hg:W.grownBy W' tv.ownBlock)(hwh:tv'.ownBlock=tv.ownBlock\/∃k,tv'.ownBlock=some k/\W.heap.size<=k):Sx base tv' kv W' x:=by
 refine Fx.kept h (fun b o v hb _ hv=>hg.cell hv fun e=>hb.2.2 e.symm) hg.size fun c hc hl=>⟨hc.1,hc.2.1,?_⟩
 rcases hwh with e|⟨k,e,hk⟩
 ·rw[e];exact hc.2.2
 exact j5
structure Kg(base B:Nat)(W1:World)(h0 h1:Value)(A:Option Addr)(n c:Nat)(ku:Value)(gs:List Nat)(xs ks:List (Nat × SV))(g:Nat)(l7 l8 l11:Bool)(u7 u8:Value)(W:World):Prop where
 p0:l7=false->W=W1
 p1:l7=true->l8=false->W=W1.alloc (.cells [.int .i64 (g:Int)].toArray 3)/\u7=.slice (some ⟨W1.heap.size,0,none⟩) 1 1
 p2:l8=true->l11=false->∃A6 c6,u8=.slice A6 (gs++[g]).length c6/\Mz base B W h0 h1 (.slice A n c) u8 ku ku (gs++[g]) xs/\Below base W1 W/\∀x∈ks,Sx base u8 ku W x
 p3:l11=true->∃A6 c6,Mz base B W h0 h1 (.slice A6 (gs++[g]).length c6) (.slice A6 (gs++[g]).length c6) ku ku (gs++[g]) xs/\Below B W1 W/\∀x∈ks,Sx base (.slice A6 (gs++[g]).length c6) ku W x
 p4:l11=true->∀b o,b<base->b≠B->W.cell? ⟨b,o,none⟩=W1.cell? ⟨b,o,none⟩
section
variable {base B n c g:Nat} {W1 W:World} {h0 h1 ku u7 u8:Value} {A:Option Addr} {gs:List Nat} {xs:List (Nat × SV)} {ks:List (Nat × SV)} {l7 l8 l11:Bool}
theorem Kg.start:Kg base B W1 h0 h1 A n c ku gs xs ks g false false false u7 u8 W1:=⟨fun _=>rfl,fun h=>Bool.noConfusion h,fun h=>Bool.noConfusion h,fun h=>Bool.noConfusion h,fun h=>Bool.noConfusion h⟩
theorem Kg.be(h:Kg base B W1 h0 h1 A n c ku gs xs ks g l7 l8 l11 u7 u8 W)(h8:l8=false):Below W1 W1 W:=by
 cases l7 with
 |false=>rw[h.p0 rfl];exact Ar _ _
 |true=>rw[(h.p1 rfl h8).1];exact(Ar _ _).alloc (Am _) _
theorem Kg.put7(h8:l8=false)(h11:l11=false):Kg base B W1 h0 h1 A n c ku gs xs ks g true l8 l11 (.slice (W1,0) 1 1) u8 (W1.alloc (.cells #[(g:Int)] 3)):=
 ⟨fun h=>Bool.noConfusion h,fun _ _=>⟨rfl,rfl⟩,fun h=>absurd (h8.symm.trans h) aI,fun h=>absurd (h11.symm.trans h) aI,fun h=>absurd (h11.symm.trans h) aI⟩
theorem Kg.put8(h7:l7=true)(h11:l11=false){v:Value}(hS:Mz base B W1 h0 h1 (.slice A n c) (.slice A n c) ku ku gs xs)(hk:∀x∈ks,Sx base (.slice A n c) ku W1 x)
  (hown:W.ownsRow base 3 1 v (gs.length+1) (Er gs++[.int .i64 (g:Int)])) (hg:W1.grownBy W (Value.slice A n c).ownBlock) (hwh:v.ownBlock=(Value.slice A n c).ownBlock\/∃k,v.ownBlock=some k/\W1.heap.size<=k):
  Kg base B W1 h0 h1 A n c ku gs xs ks g l7 true l11 u7 v W/\∃A6 c6,v=.slice A6 (gs++[g]).length c6:=by
 obtain⟨A6,c6,e,h1,h2⟩:=hS.pushT hown hg hwh;exact⟨⟨fun h=>absurd (h7.symm.trans h) aI,fun _ h=>Bool.noConfusion h,fun _ _=>⟨A6,c6,e,h1,h2,fun x hx=>(hk x hx).appT hg hwh⟩,fun h=>absurd (h11.symm.trans h) aI,fun h=>absurd (h11.symm.trans h) aI⟩,A6,c6,e⟩
theorem Kg.put11(h:Kg base B W1 h0 h1 A n c ku gs xs ks g l7 l8 l11 u7 u8 W)(h7:l7=true)(h8:l8=true)(h11:l11=false){W':World}(hW:W'=W.setCell ⟨B,2,none⟩ u8):Kg base B W1 h0 h1 A n c ku gs xs ks g l7 l8 true u7 u8 W':=by
 subst hW;obtain⟨A6,c6,e,hS,hb,hk⟩:=h.p2 h8 h11;have hB:=hS.hB;have hk2:∀x∈ks,Sx base u8 ku (W.setCell ⟨B,2,none⟩ u8) x:=fun x hx=>Fx.grown (hk x hx) (A0 W B 2 u8) fun c hc e=>by injection e with e;have:=hc.1;omega
 have hS2:=hS.set2;rw[e]at hS2 hk2 ⊢;exact⟨fun h=>absurd (h7.symm.trans h) aI,fun _ h=>absurd (h8.symm.trans h) aI,fun _ h=>Bool.noConfusion h,fun _=>⟨A6,c6,hS2,(hb.mono (Nat.le_of_lt hS.hB)).setCell (p:=⟨B,2,none⟩) (Am B) _,hk2⟩,fun _ b o h1 h2=>((A0 W B 2 _).cell_far ⟨b,o,none⟩ (a8 (a8 h1 hS.bs) (Am _)) (by simp;exact h2)).trans (hb.cell (p:=⟨b,o,none⟩) h1)⟩
end
end
end Go.Proofs.YtgfmljfjgohdcaaGreatDoor
