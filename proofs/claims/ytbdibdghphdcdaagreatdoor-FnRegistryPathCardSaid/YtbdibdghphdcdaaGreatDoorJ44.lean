/- Texts joined. Conditions: as each theorem names them. -/
import Derived.Test.YtbdibdghphdcdaaGreatDoorRows
import Derived.ProofKit
import Derived.OpenShut
import Derived.ShutString
import Derived.ChangeOld
import Derived.SliceStrings
import Derived.Test.YtbdibdghphdcdaaGreatDoorJ42
import Derived.Test.YtbdibdghphdcdaaGreatDoorJ43
set_option maxRecDepth 100000
set_option maxHeartbeats 32000000
set_option linter.unusedVariables false
set_option linter.unusedSimpArgs false
namespace Go.Proofs.YtbdibdghphdcdaaGreatDoor
open Go.RowKit Go.Proofs.Tryz
section
attribute [local go_sem] Qo7 Qok Qoa Ql9 ByteArray.mk_append_mk
theorem FnRegistryPath_walk(w:World)(A:Option Addr)(n c:Nat)(l:List UInt8)(h:Cd w A n (Ew l))(hc:n<=c)(hcm:c<=maxLen):
  Calls prog 3 #[.slice A n c] w fun e w'=>e=.returned (.bool true)/\Below w w w':=by
 by_cases hn:n<=1048576
 ·have H0:=Aa h;clear h;go_enter func3,ntmps3;go_wp2_with fail;refine(Rn A n c l w H0.o hc hcm).mono ?_;rintro e w1 ⟨vs,gb,cc,x,s,rfl,hv,hsv,hp,hle,hx,hs,hb1⟩;have Hb1:=Aa hb1;have Hv:=Aa hv;have Hl:=@Aa (∀y∈vs,y.1.length<=4000000/\y.2.length<=4000000) (fun y hy=>by have:=hsv y hy;omega);have hn1:vs.length<=1048577:=aH;have Hi:=Aa (fun W (hW:Below w1 w1 W)=>Qit _ vs (x:Int) s W (Hv.o.below hW) hn1 Hl.o aH aH aH);have Hs:=Aa (fun W (hW:Below w1 w1 W)=>Qjd _ vs (x:Int) s W (Hv.o.below hW) hn1 Hl.o aH aH aH);unfold Qhi at Hi Hs;have Hpl:=Aa (fun r (h:J2 vs (x:Int) s=some r)=>Qkv h);obtain⟨nv,hnv⟩:∃nv,nv=vs.length:=⟨_,rfl⟩
  rw[<-hnv]at Hi Hs hp hle;have Hnv:=Aa hnv;obtain⟨W2,hW2⟩:∃W2,W2=w1.alloc (.cells #[.slice (gb,0) nv cc] 25):=⟨_,rfl⟩
  have hz2:W2.heap.size=w1.heap.size+1:=gy;have Ba:=Aa (show Below w1 w1 W2 by rw[hW2];exact(Ap _ _).alloc (An _) _);have Ca:=Aa (show W2.cell? (w1,0)=some (.slice (gb,0) nv cc)by rw[hW2];simp[go_sem]);rw[<-hnv];have HW2:=Aa hW2;clear hv hsv hb1 hn1 hW2 hnv;go_upto_region 4 with fail
  rw[<-HW2.o];have ca:=Ca.o;go_wp2_with fail;refine(Hi.o _ Ba.o).mono ?_;rintro e w3 ⟨rfl,hb3⟩;have B3:=Aa (Ba.o.trans (hb3.mono aH));have C3:=Aa ((hb3.cell (p:=⟨w1.heap.size,0,none⟩) (show w1.heap.size<W2.heap.size by omega)).trans Ca.o);have hz3:w1.heap.size<w3.heap.size:=by have:=hb3.size;omega
  have ca:=C3.o;clear hb3;go_wp2_with fail;refine(Hs.o _ B3.o).mono ?_;rintro e w4 ⟨rfl,hb4⟩;have B4:=Aa (B3.o.trans (hb4.mono aH));have C4:=Aa ((hb4.cell (p:=⟨w1.heap.size,0,none⟩) hz3).trans C3.o);have hz4:w1.heap.size<w4.heap.size:=by have:=hb4.size;omega
  have ca:=C4.o;have HB4:=Aa (Hb1.o.trans (B4.o.mono Hb1.o.size));clear hb4;cases hpr:J2 vs (x:Int) s with
  |none=>
   simp only[Option.getD_none,Option.isSome_none];clear hpr Hpl Hi Hs;go_wp2_with fail;go_ret;exact⟨rfl,HB4.o⟩
  |some r=>
   obtain⟨k,q,hxk,hk,hs4,hr4,hlq,hvo,hor⟩:=Hpl.o r hpr;simp only[Option.getD_some,Option.isSome_some];have exk:x=k+1:=aH;subst exk;clear hpr Hpl Hi Hs hxk;obtain⟨y,hy⟩:∃y:Fw,Cf vs (vs.length - 1)=y:=⟨_,rfl⟩
   obtain⟨v,hvv⟩:∃v:Fw,Cf vs k=v:=⟨_,rfl⟩
   have hnv:=Hnv.o;have hyl:=Hl.o y (by rw[<-hy,Eg (show vs.length - 1<vs.length by omega)];exact ae _);have hvl:=Hl.o v (by rw[<-hvv,Eg hk];exact ae _);rw[hy]at hlq hvo;rw[hvv]at hlq;have Hy:=Aa (fun W=>Ya y.1 y.2 v.1 v.2 s W hyl.1 hyl.2 hvl.1 hvl.2 aH);have Ho:=Aa (fun W=>Vm y.1 y.2 r W hyl.1 hyl.2 aH);unfold Qdf at Hy;rw[hlq]at Hy;rw[hvo]at Ho;simp only[Qgk,Option.isSome_some]at Hy;have hkn:k<nv:=aH;have Hrow:=Aa (fun W (hW:Below w1 w1 W)=>Hv.o.below hW);have hwl:IntKind.i64.wrap ((nv:Int) - 1)=(nv:Int) - 1:=IntWalk.i64_in _ aH;have t1:(0:Int)<=(nv:Int) - 1:=aH;have t2:(nv:Int) - 1<(nv:Int):=aH;have t3:((nv:Int) - 1).toNat=nv - 1:=aH;have t4:(0:Int)<=(k:Int):=aH;have t5:(k:Int)<(nv:Int):=aH;obtain⟨A2,c2,e2,_,_,hcc⟩:=Hv.o.below B4.o;injection e2 with e3 e4 e5;subst e3;obtain⟨b',o',e9,hb',c0,c1⟩:=Gz.at_ hcc (show vs.length - 1<vs.length by omega);injection e9 with e9;injection e9 with e10 e11;subst e10 e11;obtain⟨b2,o2,e9,_,d0,d1⟩:=Gz.at_ hcc hk;injection e9 with e9;injection e9 with e10 e11;subst e10 e11;have hye:vs[vs.length - 1]' aH=y:=by rw[<-hy,Eg aH]
   have hve:vs[k]=v:=by rw[<-hvv,Eg hk]
   rw[hye,<-hnv]at c0 c1;rw[hve]at d0 d1;simp only[am]at c0 c1 d0 d1;have ng:¬(gb=w4.heap.size):=aH;have lg:gb<w4.heap.size+1:=aH;have Hor:=Aa hor;clear e4 e5 hcc hye hve hnv hy hvv hyl hvl hlq hvo hor hk hs4 hr4;go_wp2_with fail;have hbe:Below w4 w4 ((w4.alloc (.cells #[y.1,y.2] 31)).alloc (.cells #[v.1,v.2] 31)):=((Ap _ _).alloc (An _) _).alloc aK _;refine(Hy.o _).mono ?_;rintro e w7 ⟨rfl,hb7⟩;have z0:w7.cell? (w4,0)=y.1:=(hb7.cell (p:=⟨w4.heap.size,0,none⟩) aM).trans gB;have z1:w7.cell? (w4,1)=y.2:=(hb7.cell (p:=⟨w4.heap.size,1,none⟩) aM).trans gB;have HB7:=Aa (HB4.o.trans ((hbe.trans (hb7.mono hbe.size)).mono HB4.o.size));clear hb7 hbe c0 c1 d0 d1;generalize Bc q.1=t at *;by_cases hrt:r=t
   ·subst hrt;go_wp2_with fail;refine(Ho.o _).mono ?_;rintro e w8 ⟨rfl,hb8⟩;have HB8:=Aa (HB7.o.trans (hb8.mono HB7.o.size));clear hb8;go_wp2_with fail;go_ret;exact⟨rfl,HB8.o⟩
   have hrs:=Hor.o.resolve_left hrt;have b1:(r == t)=false:=beq_eq_false_iff_ne.2 hrt;have b2:(r != s)=true:=bne_iff_ne.2 hrs;have b3:(r == s)=false:=beq_eq_false_iff_ne.2 hrs;go_wp2_with fail;refine(Ho.o _).mono ?_;rintro e w8 ⟨rfl,hb8⟩;have HB8:=Aa (HB7.o.trans (hb8.mono HB7.o.size));clear hb8;go_wp2_with fail;all_goals go_ret
   all_goals first|exact⟨rfl,HB8.o⟩|(exfalso;exact hrt rfl)|(exfalso;exact hrs rfl)
 have t1:decide ((1048576:Int)<(n:Int))=true:=aD aH;go_enter func3,ntmps3;go_wp2_with fail;exact kD
end
section
open Go.ChangeShapes Go.WideShapes Go.ChangeAt Go.RowKit
open Go.ChangeMaps (open_string shut_string)
theorem Z5{α:Type}(l:List α)(d:α){j:Nat}(h:j<l.length):l.getD j d=l[j]:=by simp[List.getD,h]
theorem own:ownKnob prog.godebug=none:=aL
theorem laidOut:laidOutB prog=true:=aL
section
variable {H:Type} {enc:TypeId × Value->H} {W:World} {base:Nat} {v:Value} {d:DataW H} {ps:List MemPlace}
theorem arg_bytes(hv:Value.okWide prog W .any base 22 v)(h:DataW.Trod enc prog W 0 (fun _=>true) true 22 v d ps)(hlt:∀x∈ps,x.block<W.heap.size):
  ∃A n c,∃l:List UInt8,v=.slice A n c/\Cd W A n (Ew l)/\n<=c/\c<=maxLen:=by
 obtain⟨A,n,c,rfl⟩:=okWide_slice underlying22 hv;obtain⟨fuel,hf⟩:=h;rcases open_ints underlying22 underlying5 aL hf with⟨hcs,_⟩|⟨x,n',c',zs,hcs,_,hl,hm,hz,_,hcell,hwz⟩
 ·simp[Value.cells]at hcs;obtain⟨rfl,rfl,rfl⟩:=hcs;exact⟨none,0,0,[],rfl,⟨rfl,ag _,fun h=>absurd h aH⟩,An _,ag _⟩
 simp[Value.cells]at hcs;obtain⟨rfl,rfl,rfl⟩:=hcs;simp at hz;refine⟨some x,n,c,(zs.take n).map fun z=>UInt8.ofNat z.toNat,rfl,⟨by simp[Ew];omega,ad hl hm,fun hn=>?_⟩,hl,hm⟩;have h0:=hcell 0 aH;obtain⟨b,off,spot⟩:=x;have hspot:spot=none:=by simpa [Addr.add]using World.cell?_spot h0
 subst hspot;refine⟨b,off,rfl,?_,fun j u hu=>?_⟩
 ·have:=World.block_lt_of_cell? W _ h0;simpa [Addr.add]using this
 have hj:j<n:=by
  have:=(List.getElem?_eq_some_iff.1 hu).1;simp[Ew]at this;omega
 have h1:=hcell j aH;have e1:(⟨b,off,none⟩:Addr).add j=⟨b,off+j,none⟩:=bD;rw[e1]at h1;rw[h1];have hw:=hwz (zs.getD j 0) (by rw[Z5 _ _ aH];exact ae _);have hb2:0<=zs.getD j 0/\zs.getD j 0<=255:=by
  simp[Lit.wf,IntKind.min,IntKind.max,IntKind.signed,IntKind.bits]at hw;simpa using hw
 simp only[Ew,List.getElem?_map,List.getElem?_take]at hu;rw[if_pos hj,List.getElem?_eq_getElem (by omega:j<zs.length)]at hu;simp at hu;rw[<-hu];rw[Z5 _ _ (by omega:j<zs.length)]at hb2 ⊢;congr 2
 omega
end
end
end Go.Proofs.YtbdibdghphdcdaaGreatDoor
