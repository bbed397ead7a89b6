/- Texts joined. Conditions: as each theorem names them. -/
import Derived.Test.YtkgkoicedddkmaaGreatDoorC01
import Derived.Test.YtkgkoicedddkmaaGreatDoorC03
import Derived.Test.YtkgkoicedddkmaaGreatDoorC24
import Derived.Test.YtkgkoicedddkmaaGreatDoorC31
import Derived.Test.YtkgkoicedddkmaaGreatDoorC38
set_option maxRecDepth 100000
set_option maxHeartbeats 32000000
set_option linter.unusedVariables false
set_option linter.unusedSimpArgs false
namespace Go.Proofs.YtkgkoicedddkmaaGreatDoor
open Go.RowKit Go.Proofs.Tryz
section
attribute [local go_sem] Qiz Qii Qib Qgw ByteArray.mk_append_mk
theorem Qil(w0:World)(xs:List (Ty × Value))(xv:Value)(hxv:xv.oneCell'=true)(hsc:Jq w0 xv xs)(k:Kd)(hk:Cw k)(hsg:k.signs=[])(hbs:k.base=[64])(nm:List UInt8)(fs:List Fd)(tv:Value)(hx:Dq xs k.name=some (⟨82,nm,fs⟩,tv))(hfs:Er w0 tv fs)(htg:∀f∈fs,f.tag<=200)
  (d:Nat) (hd:d<=1000) (z:List UInt8) (w:World) (hw:Below w0.heap.size w0 w) (hz:z.length<=1000000) (o:Option (Fd × List UInt8)) (ho:o=Fq fs z) (q:Option (Vl × List UInt8))
  (HC:∀W,Below w0.heap.size w0 W->Calls prog 91 #[.agg #[xv],.string ⟨z.toArray⟩,.string ⟨(Bj k).toArray⟩,.agg #[.int .u8 82,.string ⟨nm.toArray⟩,tv],.int .i64 ((d+1:Nat):Int)] W (Bl (Af xs) k q W)):
  Calls prog 68 #[.agg #[xv],.string ⟨(123::z:List UInt8).toArray⟩,.string ⟨(Bj k).toArray⟩,.int .i64 ((d+1:Nat):Int)] w (Bl (Af xs) k q w):=by
 have hkd:True:=Ac
 have d2:(((d+1:Nat):Int))<=1001:=by omega
 generalize (((d+1:Nat):Int))=dd at *
 have HC:=Aa HC
 obtain⟨A9,c9,rfl,hl9,_⟩:=hfs
 have HFs:=Aa (show ∀W,Below w0.heap.size w0 W->Er W (.slice A9 fs.length c9) fs from fun W hW=>Er.below (show Er w0 (.slice A9 fs.length c9) fs from⟨A9,c9,rfl,hl9,by assumption⟩) hW)
 have Hr:=Aa (show ∀W,Below w0.heap.size w0 W->Calls prog 44 #[xv,.string ⟨(Bj k).toArray⟩] W fun e w'=>e=.returned (.tuple #[.agg #[.int .u8 82,.string ⟨nm.toArray⟩,.slice A9 fs.length c9],.bool true])/\Below W.heap.size W w' from fun W hW=>by
  have h:=Fu xv xs k W (hsc.below hW) hk
  rw[show Kz xs k=some (⟨82,nm,fs⟩,.slice A9 fs.length c9)from by unfold Kz;rw[if_pos ⟨hsg,hbs⟩];exact hx]at h
  exact h)
 have hkl:(Bj k).length<=100:=by have:=hk.2.2;omega
 have hzl:z.length<=1000000:=hz
 have Hw:=Aa hw
 have Hkd:=Aa hkd
 generalize Bj k=kb at *
 clear hw hx hsc htg ho
 go_enter func68,ntmps68
 go_wp2_with fail
 refine(Hr.o _ (Hw.o.alloc Hw.o.size _)).mono ?_
 rintro e w1 ⟨rfl,hb1⟩
 have hz1:=hb1.size
 simp only[World.size_alloc]at hz1
 have Hb1:=Aa (((Aq w.heap.size w).alloc (Ap _) _).trans (hb1.mono (by simp)))
 have X0:=Aa (show w1.cell? ⟨w.heap.size,0,none⟩=some xv from by rw[(By hb1).1 _ _ (by simp)];go_simp)
 clear hb1
 go_upto_region 3 with fail
 obtain⟨w2,hw2⟩:∃w2,w2=w1.alloc (.cells #[.int .u8 82,.string ⟨nm.toArray⟩,.slice A9 fs.length c9] 100):=⟨_,rfl⟩
 have Hb2:=Aa (show Below w.heap.size w w2 from by rw[hw2];exact Hb1.o.alloc Hb1.o.size _)
 have Hl0:=Aa (show w.heap.size<w2.drew.heap.size from by rw[hw2];simp;omega)
 have Hl1:=Aa (show w1.heap.size<w2.drew.heap.size from by rw[hw2];simp)
 have X0:=Aa (show w2.drew.cell? ⟨w.heap.size,0,none⟩=some xv from by rw[hw2,World.cell?_drew];exact Ez (by omega) X0.o)
 have X1:=Aa (show w2.drew.cell? ⟨w1.heap.size,0,none⟩=some (.int .u8 82)from by rw[hw2];go_simp)
 have X2:=Aa (show w2.drew.cell? ⟨w1.heap.size,1,none⟩=some (.string ⟨nm.toArray⟩)from by rw[hw2];go_simp)
 have X3:=Aa (show w2.drew.cell? ⟨w1.heap.size,2,none⟩=some (.slice A9 fs.length c9)from by rw[hw2];go_simp)
 rw[<-hw2]
 clear hw2
 have HC9:=Aa (HC.o w2.drew (Hw.o.trans (Hb2.o.mono Hw.o.size)).drew)
 refine Ge [38,39,40,41,42,43,44,45,46,47,8,9,10]
  (fun ix v W=>match ix with|0=>v=.agg #[xv]|1=>v=.string ⟨(123::z:List UInt8).toArray⟩|2=>v=.string ⟨(z:List UInt8).toArray⟩|3=>v=.string ⟨(kb:List UInt8).toArray⟩|4=>v=.agg #[.int .u8 82,.string ⟨nm.toArray⟩,.slice A9 fs.length c9]|5=>v=.int .i64 dd|_=>True)
  (fun L U W=>Gh (SrQ w2.drew (Af xs) k q) (w2.drew) (L 6) (L 6) (L 7) (L 8) (L 9) (L 10) (L 11) (L 12) (U 6) (U 6) (U 7) (U 8) (U 9) (U 10) (U 11) (U 12) W) (⟨fun _=>rfl,fun h=>Bool.noConfusion h⟩) ?_ ?_
 ·repeat (first|exact Ah.nil|(refine Ah.cons ?_ ?_;rotate_left))
  all_goals
   rintro L U W hL hpre HR Hdep K hK
   first|(simp[Region.binds]at hpre;done)|simp[Region.binds]at hpre|clear hpre
  ·have h6:L 6=false:=Ax Hdep.o 6 0 rfl hL
   have hW:=HR.o.no h6
   subst hW
   have q0:=X0.o
   go_simp
   exact kE hK HR.o
  ·go_simp
   exact kE hK HR.o
  ·go_simp
   rw[if_pos (by omega)]
   go_simp
   exact hK (.string ⟨(z:List UInt8).toArray⟩) _ _ rfl Ac HR.o (by simp[Act.put,hpre])
  ·go_simp
   exact kE hK HR.o
  ·have h6:L 6=false:=Ax Hdep.o 6 4 rfl hL
   have hW:=HR.o.no h6
   subst hW
   have q1:=X1.o
   have q2:=X2.o
   have q3:=X3.o
   go_simp
   exact kE hK HR.o
  ·go_simp
   exact kE hK HR.o
  ·have h7:L 7=false:=Ax Hdep.o 7 6 rfl hL
   have h8:L 8=false:=Ax Hdep.o 8 6 rfl hL
   have h9:L 9=false:=Ax Hdep.o 9 6 rfl hL
   have h10:L 10=false:=Ax Hdep.o 10 7 rfl h7
   have h11:L 11=false:=Ax Hdep.o 11 8 rfl h8
   have h12:L 12=false:=Ax Hdep.o 12 9 rfl h9
   have hW:=HR.o.no hL
   subst hW
   go_simp
   refine HC9.o.mono ?_
   rintro e w5 hp
   obtain⟨vp,vr,vk,rfl,hq⟩:=hp.q
   go_simp
   exact hK _ _ _ Ac Ac (Gh.call2 h7 h8 h9 h10 h11 h12 hq) (by simp[Act.put,hpre])
  ·have l6:L 6=true:=by first|exact hpre|exact hpre.1|exact hpre.2|exact hpre.2.1|exact hpre.1.1|exact hpre.2.2.1
   obtain⟨vp,vr,vk,um,g0,g1,g2⟩:=HR.o.get l6 l6
   simp only[um]
   go_simp
   exact hK _ _ _ Ac Ac g0 (by simp[Act.put,hpre,um])
  ·have l6:L 6=true:=by first|exact hpre|exact hpre.1|exact hpre.2|exact hpre.2.1|exact hpre.1.1|exact hpre.2.2.1
   obtain⟨vp,vr,vk,um,g0,g1,g2⟩:=HR.o.get l6 l6
   simp only[um]
   go_simp
   exact hK _ _ _ Ac Ac g1 (by simp[Act.put,hpre,um])
  ·have l6:L 6=true:=by first|exact hpre|exact hpre.1|exact hpre.2|exact hpre.2.1|exact hpre.1.1|exact hpre.2.2.1
   obtain⟨vp,vr,vk,um,g0,g1,g2⟩:=HR.o.get l6 l6
   simp only[um]
   go_simp
   exact hK _ _ _ Ac Ac g2 (by simp[Act.put,hpre,um])
  ·have l7:L 7=true:=by first|exact hpre|exact hpre.1|exact hpre.2|exact hpre.2.1|exact hpre.1.1|exact hpre.2.2.1
   go_simp
   exact hK (U 7) _ _ Ac Ac (HR.o.as0 l7) (by simp[Act.put,hpre])
  ·have l8:L 8=true:=by first|exact hpre|exact hpre.1|exact hpre.2|exact hpre.2.1|exact hpre.1.1|exact hpre.2.2.1
   go_simp
   exact hK (U 8) _ _ Ac Ac (HR.o.as1 l8) (by simp[Act.put,hpre])
  ·have l9:L 9=true:=by first|exact hpre|exact hpre.1|exact hpre.2|exact hpre.2.1|exact hpre.1.1|exact hpre.2.2.1
   go_simp
   exact hK (U 9) _ _ Ac Ac (HR.o.as2 l9) (by simp[Act.put,hpre])
 rintro L U W hL hφ hR
 clear hφ
 obtain⟨vp,vr,vk,hq,ua,ub,ue⟩:=hR.fin (hL 6 (by decide)) (hL 10 (by decide)) (hL 11 (by decide)) (hL 12 (by decide))
 simp only[ua,ub,ue]
 clear hR hL ua ub ue
 go_wp2_with fail
 refine bodyPost_ret (v:=.tuple #[vp,vr,vk]) (by simp[results,results68,go_sem]) rfl ?_
 exact hq.post Hb2.o.drew
theorem Qhx(S:List Ty)(k:Kd)(w0:World)(xv:Value)(hxv:xv.oneCell'=true)(kb:List UInt8)(hkl:kb.length<=100)(st:Int)(nm:ByteArray)(A:Option Addr)(n c:Nat)(b:Bool)(c0:UInt8)(z:List UInt8)(dd:Int)(w:World)(hw:Below w0.heap.size w0 w)(hz:z.length<=1000000)
  (hr:∀W,Below w0.heap.size w0 W->Calls prog 44 #[xv,.string ⟨kb.toArray⟩] W fun e w'=>e=.returned (.tuple #[.agg #[.int .u8 st,.string nm,.slice A n c],.bool b])/\Below W.heap.size W w')
  (hc:((st == 82)=true/\((c0.toNat:Int) == 123)=false/\(st == 69)=false/\(st == 85)=false)\/((st == 82)=false/\(st == 69)=true/\((c0.toNat:Int) == 35)=false/\(st == 85)=false)\/((st == 82)=false/\(st == 69)=false/\(st == 85)=true/\((c0.toNat:Int) == 60)=false)\/((st == 82)=false/\(st == 69)=false/\(st == 85)=false)):
  Calls prog 68 #[.agg #[xv],.string ⟨(c0::z:List UInt8).toArray⟩,.string ⟨kb.toArray⟩,.int .i64 dd] w (Bl S k none w):=by
 have Hr:=Aa hr
 have Hw:=Aa hw
 clear hr hw
 have key:∀w1,Below (w.alloc (.cells #[xv] 92)).heap.size (w.alloc (.cells #[xv] 92)) w1->Below w.heap.size w (w1.alloc (.cells #[.int .u8 st,.string nm,.slice A n c] 100)):=fun w1 hb=>by
  have h1:=((Aq w.heap.size w).alloc (Ap _) (.cells #[xv] 92)).trans (hb.mono (by simp))
  exact h1.alloc h1.size _
 have Hkey:=Aa key
 clear key
 rcases hc with⟨h1,h2,h3,h4⟩|⟨h1,h2,h3,h4⟩|⟨h1,h2,h3,h4⟩|⟨h1,h2,h3⟩
 all_goals
  go_enter func68,ntmps68
  go_wp2_with fail
  refine(Hr.o _ (Hw.o.alloc Hw.o.size _)).mono ?_
  rintro e w1 ⟨rfl,hb1⟩
  have Hb2:=Aa (Hkey.o w1 hb1)
  clear hb1
  go_wp2_with fail
  refine bodyPost_ret (v:=.tuple #[.pointer none,.string ⟨(c0::z:List UInt8).toArray⟩,.bool false]) (by simp[results,results68,go_sem]) rfl ?_
  exact Bl.no rfl rfl Hb2.o
structure RS(S:List Ty)(K:Kd->List UInt8->Option (Vl × List UInt8))(fs:List Fd)(s:List UInt8)(ps:List (Fd × Vl))(last:Nat)(tt:List UInt8):Prop where
 eq:Dy S K fs 201 0 s=N7 ps (Dy S K fs (201 - ps.length) last tt)
 lo:ps.length<=last
 hi:last<=200
 la:last=(ps.map (·.1.tag)).getLastD 0
 fd:∀p∈ps,Au fs p.1.tag=some p.1
 le:tt.length<=s.length
section
variable {S:List Ty} {K:Kd->List UInt8->Option (Vl × List UInt8)} {fs:List Fd} {s tt r q z z':List UInt8} {ps:List (Fd × Vl)} {last:Nat} {f:Fd} {v:Vl}
theorem RS.init:RS S K fs s [] 0 s:=⟨by cases h:Dy S K fs 201 0 s<;>simp[N7,h],Ap _,by omega,rfl,by simp,Ap _⟩
theorem RS.one(h:RS S K fs s ps last tt):∃m,201 - ps.length=m+1/\Dy S K fs 201 0 s=N7 ps (match Cy K fs tt with
  |none=>none
  |some (p,r)=>if p.1.tag<=last\/Bc p.2=Jp S p.1 then none else match Ar 44 r with
   |some q=>(match Dy S K fs m p.1.tag q with|some (ps,z)=>some (p::ps,z)|none=>none)
   |none=>match Ar 125 r with|some q=>some ([p],q)|none=>none):=
 ⟨200 - ps.length,by have:=h.lo;have:=h.hi;omega,by rw[h.eq,show 201 - ps.length=(200 - ps.length)+1 by have:=h.lo;have:=h.hi;omega];rfl⟩
theorem RS.tagN(h:RS S K fs s ps last tt)(h1:Fq fs tt=none):Dy S K fs 201 0 s=none:=by
 obtain⟨m,_,e⟩:=h.one;rw[e];simp[Cy,h1,N7]
theorem RS.sign(h:RS S K fs s ps last tt)(h1:Fq fs tt=some (f,r))(h2:Ar 61 r=none):Dy S K fs 201 0 s=none:=by
 obtain⟨m,_,e⟩:=h.one;rw[e];simp[Cy,h1,h2,N7]
theorem RS.ord(h:RS S K fs s ps last tt)(h1:Fq fs tt=some (f,r))(h3:f.tag<=last):Dy S K fs 201 0 s=none:=by
 obtain⟨m,_,e⟩:=h.one;rw[e]
 cases h2:Ar 61 r with
 |none=>simp[Cy,h1,h2,N7]
 |some q=>
  cases hk:K f.kind q with
  |none=>simp[Cy,h1,h2,hk,N7]
  |some x=>simp[Cy,h1,h2,hk,N7,h3]
theorem RS.rd(h:RS S K fs s ps last tt)(h1:Fq fs tt=some (f,r))(h2:Ar 61 r=some q)(hk:K f.kind q=none):Dy S K fs 201 0 s=none:=by
 obtain⟨m,_,e⟩:=h.one;rw[e];simp[Cy,h1,h2,hk,N7]
theorem RS.sam(h:RS S K fs s ps last tt)(h1:Fq fs tt=some (f,r))(h2:Ar 61 r=some q)(hk:K f.kind q=some (v,z))(h4:Bc v=Jp S f):Dy S K fs 201 0 s=none:=by
 obtain⟨m,_,e⟩:=h.one;rw[e];simp[Cy,h1,h2,hk,N7,h4]
theorem RS.sep(h:RS S K fs s ps last tt)(h1:Fq fs tt=some (f,r))(h2:Ar 61 r=some q)(hk:K f.kind q=some (v,z))(h5:Ar 44 z=none)(h6:Ar 125 z=none):Dy S K fs 201 0 s=none:=by
 obtain⟨m,_,e⟩:=h.one;rw[e];simp[Cy,h1,h2,hk,N7,h5,h6]
theorem RS.go(h:RS S K fs s ps last tt)(h1:Fq fs tt=some (f,r))(h2:Ar 61 r=some q)(h3:last<f.tag)(hk:K f.kind q=some (v,z))(h4:Bc v≠Jp S f)(h5:Ar 44 z=some z')(hl:z'.length<=tt.length):
  RS S K fs s (ps++[(f,v)]) f.tag z':=by
 obtain⟨m,hm,e⟩:=h.one
 obtain⟨g1,g2,_,_⟩:=H4 h1
 refine⟨?_,by have:=h.lo;simp;omega,g1,by simp,fun p hp=>?_,Nat.le_trans hl h.le⟩
 ·rw[e,show 201 - (ps++[(f,v)]).length=m by simp;omega]
  simp only[Cy,h1,h2,hk,h5]
  rw[if_neg (by intro h;rcases h with h|h;omega;exact h4 h)]
  cases Dy S K fs m f.tag z'<;>simp[N7]
 rcases List.mem_append.1 hp with hp|hp
 ·exact h.fd p hp
 rw[List.mem_singleton]at hp;subst hp;exact g2
theorem RS.fin(h:RS S K fs s ps last tt)(h1:Fq fs tt=some (f,r))(h2:Ar 61 r=some q)(h3:last<f.tag)(hk:K f.kind q=some (v,z))(h4:Bc v≠Jp S f)(h5:Ar 44 z=none)(h6:Ar 125 z=some z'):
  Dy S K fs 201 0 s=some (ps++[(f,v)],z')/\∀p∈ps++[(f,v)],Au fs p.1.tag=some p.1:=by
 obtain⟨m,hm,e⟩:=h.one
 obtain⟨g1,g2,_,_⟩:=H4 h1
 refine⟨?_,fun p hp=>?_⟩
 ·rw[e]
  simp only[Cy,h1,h2,hk,h5,h6]
  rw[if_neg (by intro h;rcases h with h|h;omega;exact h4 h)]
  simp[N7]
 rcases List.mem_append.1 hp with hp|hp
 ·exact h.fd p hp
 rw[List.mem_singleton]at hp;subst hp;exact g2
end
theorem Rq(c:UInt8)(p:List UInt8):∀(l:List (List UInt8)),Av c (l++[p])=if l.length=0 then p else Av c l++c::p
 |[]=>rfl
 |[q]=>by simp[Av]
 |q::r::l=>by
  have ih:=Rq c p (r::l)
  rw[List.cons_append,Qdt c q (by simp),ih,Qdt c q (by simp)]
  simp
def Gd(l:List UInt8)(w:World)(e:Ending)(w':World):Prop:=e=.returned (.string ⟨l.toArray⟩)/\Below w.heap.size w w'
theorem Fl.open_{P:Nat->Prop}{w:World}{b:Nat}{kind text:List UInt8}{tags:List Nat}{kids:List SV}(h:Fl P w b (.mk kind text tags kids)):∃(A1 A2:Option Addr) (c1 c2:Nat) (xs:List (Nat × SV)),b<w.heap.size/\P b/\w.cell? ⟨b,0,none⟩=some (.string ⟨kind.toArray⟩)/\w.cell? ⟨b,1,none⟩=some (.string ⟨text.toArray⟩) /\
  w.cell? ⟨b,2,none⟩=some (.slice A1 tags.length c1)/\w.cell? ⟨b,3,none⟩=some (.slice A2 xs.length c2)/\B9 w A1 tags.length (Ec tags)/\B9 w A2 xs.length (Do (xs.map (·.1)))/\tags.length<=1000/\xs.length<=1000/\kids=xs.map (·.2)/\∀x∈xs,Fl P w x.1 x.2:=by
 obtain⟨k,t,g,A1,A2,c1,c2,xs,hv,hb,hP,h0,h1,h2,h3,hr1,hr2,hl1,hl2,_,_,h⟩:=h
 injection hv with e1 e2 e3 e4
 subst e1 e2 e3 e4
 exact⟨A1,A2,c1,c2,xs,hb,hP,h0,h1,h2,h3,hr1,hr2,hl1,hl2,rfl,h⟩
theorem Vn{xs:List (Nat × SV)}{i:Nat}(hi:i<xs.length):(Do (xs.map (·.1)))[i]'(by simp[Do];exact hi)=.pointer (some ⟨xs[i].1,0,none⟩):=by simp[Do]
theorem Qbs{l:List Nat}{i:Nat}(hi:i<l.length):(Ec l)[i]'(by simp[Ec];exact hi)=.int .i64 (l[i]:Int):=by simp[Ec]
theorem Qj(P:Nat->Prop)(b:Nat)(c:UInt8)(tx:List UInt8)(w:World)(hc:c=110\/c=116\/c=102)(h:Fl P w b (.mk [c] tx [] [])):Calls prog 28 #[.pointer (some ⟨b,0,none⟩)] w (Gd tx w):=by
 obtain⟨_,_,_,_,_,hb,_,h0,h1,_⟩:=h.open_
 have HR:=Aa h1
 rcases hc with rfl|rfl|rfl<;>
 ·go_enter func28,ntmps28
  go_wp2_with fail
  go_ret
  exact⟨rfl,Aq _ _⟩
theorem Qfh(P:Nat->Prop)(b:Nat)(kr:List UInt8)(kids:List SV)(ks:List Vl)(w:World)(h:Fl P w b (.mk (91::kr) [] [] kids))(hkr:kr.length<=100)(hl:(Bc (.mk 91 [] 0 ks)).length<=1000000)(hkl:kids.length=ks.length)
  (ih:∀(i:Nat) (hi:i<kids.length) (hi2:i<ks.length) b W,Fl P W b kids[i]->(Bc ks[i]).length<=1000000->Calls prog 28 #[.pointer (some ⟨b,0,none⟩)] W (Gd (Bc ks[i]) W)):
  Calls prog 28 #[.pointer (some ⟨b,0,none⟩)] w (Gd (Bc (.mk 91 [] 0 ks)) w):=by
 obtain⟨A1,A2,c1,c2,xs,hb,_,h0,_,_,h3,_,hr2,_,hxl,rfl,hk⟩:=h.open_
 have HF:=Aa (G8 ks)
 have hjl:(Av 44 (ks.map Bc)).length<=1000000:=by rw[G8]at hl;simp at hl;omega
 rw[Bu]at hjl
 have Hjt:=Aa (fun i (hi:i<ks.length)=>(show Dc ((ks.take (i+1)).map Bc)<=Dc (ks.map Bc)/\(Bc ks[i]).length+1+Dc ((ks.take i).map Bc)=Dc ((ks.take (i+1)).map Bc)from by
  refine⟨?_,?_⟩
  ·conv=>rhs;rw[<-List.take_append_drop (i+1) ks,List.map_append]
   have:∀a b,Dc a<=Dc (a++b):=fun a b=>by simp[Dc]
   exact this _ _
  rw[Ch ks i hi,List.map_append];simp[Dc];omega))
 have hkl2:xs.length=ks.length:=by simpa using hkl
 have Ih:=Aa ih
 have Hr:=Aa hr2
 have Hk:=Aa hk
 have Hkl:=Aa hkl2
 have Hlen:=Aa hjl
 have hle:ks.length<=xs.length:=by omega
 clear hkl hkl2 ih hr2 hk h hl hjl
 go_enter func28,ntmps28
 go_wp2_with fail
 go_loopw [4,3] (fun i s wr=>∃m:Nat,i=.int .i64 m/\m<=xs.length/\s=.string ⟨(91::Av 44 ((ks.take m).map Bc):List UInt8).toArray⟩/\Hid (Below w.heap.size w wr)) (fun i _ _=>xs.length - (intOf i).toNat)
 case atStart=>exact⟨0,rfl,Nat.zero_le _,rfl,Aq _ _⟩
 case round=>
  obtain⟨m,rfl,hm,rfl,Hbr⟩:=hrel
  have m1:(0:Int)<=(m:Int):=by omega
  have g3:=(Hbr.o.cell (p:=⟨b,3,none⟩) hb).trans h3
  have hbw:b<wr.heap.size:=by have:=Hbr.o.size;omega
  have HJ:=Aa (Bu 44 ((ks.take m).map Bc))
  by_cases hlt:m<xs.length
  ·have m2:(m:Int)<(xs.length:Int):=by omega
   have hltk:m<ks.length:=by have:=Hkl.o;omega
   obtain⟨b8,o8,rfl,hb8,hc8⟩:=(Hr.o.below Hbr.o).at_ hlt
   rw[Vn hlt]at hc8
   have HX:=Aa (fun W (hW:Below w.heap.size w W)=>Ih.o m (by simpa using hlt) hltk xs[m].1 W (by rw[List.getElem_map];exact(Hk.o _ (List.getElem_mem hlt)).after hW) (by obtain⟨q1,q2⟩:=Hjt.o m hltk;have:=Hlen.o;omega))
   obtain⟨q1,q2⟩:=Hjt.o m hltk
   have hjm:(Av 44 ((ks.take m).map Bc)).length<=1000000:=by rw[HJ.o];have:=Hlen.o;omega
   have hpm:(Bc ks[m]).length<=1000000:=by have:=Hlen.o;omega
   have HP:=Aa (show Av 44 ((ks.take (m+1)).map Bc)=if m=0 then Bc ks[m]else Av 44 ((ks.take m).map Bc)++44::Bc ks[m]from by
    rw[Ch ks m hltk,List.map_append,List.map_singleton,Rq]
    have:((ks.take m).map Bc).length=m:=by simp;omega
    rw[this])
   have HP0:=Aa (show m=0->Av 44 ((ks.take m).map Bc)=[]from by rintro rfl;rfl)
   clear q1 q2
   generalize Bc ks[m]=pm at *
   generalize Av 44 ((ks.take m).map Bc)=jm at *
   generalize xs[m].1=bm at *
   by_cases h0m:m=0
   ·have t0:¬(0<m):=by omega
    have t1:¬((0:Int)<(m:Int)):=by omega
    have HP1:=Aa (HP.o.trans (if_pos h0m))
    have HP2:=Aa (HP0.o h0m)
    clear h0m HP HP0 HJ
    go_wp2_with fail
    refine(HX.o _ Hbr.o).mono ?_
    rintro e w3 ⟨rfl,hb3⟩
    have Hb3:=Aa (Hbr.o.trans (hb3.mono Hbr.o.size))
    clear hb3
    go_wp2_with fail
    go_roundw
    case rel=>exact⟨m+1,by go_num,by omega,by rw[HP1.o,HP2.o];rfl,Hb3.o⟩
    case measure=>simp[intOf];omega
   have t0:0<m:=by omega
   have t1:(0:Int)<(m:Int):=by omega
   have HP1:=Aa (HP.o.trans (if_neg h0m))
   clear h0m HP HP0 HJ
   go_wp2_with fail
   refine(HX.o _ Hbr.o).mono ?_
   rintro e w3 ⟨rfl,hb3⟩
   have Hb3:=Aa (Hbr.o.trans (hb3.mono Hbr.o.size))
   clear hb3
   go_wp2_with fail
   go_roundw
   case rel=>exact⟨m+1,by go_num,by omega,by rw[HP1.o]<;>simp,Hb3.o⟩
   case measure=>simp[intOf];omega
  ·have em:m=ks.length:=by have:=Hkl.o;omega
   have HE:=Aa (show Av 44 ((ks.take m).map Bc)=Av 44 (ks.map Bc)by rw[em,List.take_length])
   have hjm:(Av 44 ((ks.take m).map Bc)).length<=1000000:=by rw[HE.o,Bu];exact Hlen.o
   clear em HJ
   generalize Av 44 ((ks.take m).map Bc)=jm at *
   go_wp2_with fail
   go_ret
   exact⟨by rw[HF.o,<-HE.o];rfl,Hbr.o⟩
theorem Qam(P:Nat->Prop)(b:Nat)(kr:List UInt8)(kids:List SV)(o:Option Vl)(w:World)(h:Fl P w b (.mk (63::kr) [] [] kids))(hkr:kr.length<=100)(hl:(Bc (.mk 63 [] 0 o.toList)).length<=1000000)(hkl:kids.length=o.toList.length)
  (ih:∀x,o=some x->∀b W y,y∈kids->Fl P W b y->Calls prog 28 #[.pointer (some ⟨b,0,none⟩)] W (Gd (Bc x) W)):
  Calls prog 28 #[.pointer (some ⟨b,0,none⟩)] w (Gd (Bc (.mk 63 [] 0 o.toList)) w):=by
 obtain⟨A1,A2,c1,c2,xs,hb,_,h0,_,_,h3,_,hr2,_,hxl,rfl,hk⟩:=h.open_
 cases o with
 |none=>
  have hx0:xs=[]:=by simpa using hkl
  subst hx0
  clear hk hr2 ih h
  go_enter func28,ntmps28
  go_wp2_with fail
  go_ret
  exact⟨rfl,Aq _ _⟩
 |some x=>
  obtain⟨⟨bx,y⟩,rfl⟩:∃a,xs=[a]:=by
   cases xs with
   |nil=>simp at hkl
   |cons a l=>cases l with
    |nil=>exact⟨a,rfl⟩
    |cons b l=>simp at hkl
  have HF:=Aa (show Bc (.mk 63 [] 0 [x])=43::Bc x by simp[Bc,Dz,Gs,Av])
  have hpl:(Bc x).length<=1000000:=by have:=HF.o;simp only[Option.toList]at hl;rw[this]at hl;simp at hl;omega
  obtain⟨b8,o8,rfl,hb8,hc8⟩:=hr2.at_ (show 0<1 by decide)
  simp[Do]at hc8
  have HX:=Aa (ih x rfl bx w y (by simp) (hk (bx,y) (by simp)))
  simp only[List.length_singleton]at h3
  clear hk hr2 ih h hkl
  generalize Bc x=px at *
  go_enter func28,ntmps28
  go_wp2_with fail
  refine HX.o.mono ?_
  rintro e w3 ⟨rfl,hb3⟩
  have Hb3:=Aa hb3
  clear hb3
  go_wp2_with fail
  go_ret
  exact⟨by show _=Ending.returned (.string ⟨(Bc (.mk 63 [] 0 [x])).toArray⟩);rw[HF.o];rfl,Hb3.o⟩
end
end Go.Proofs.YtkgkoicedddkmaaGreatDoor
