/- Texts joined. Conditions: as each theorem names them. -/
import Derived.Test.YtgfmljfjgohdcaaGreatDoorRows
import Derived.ProofKit
import Derived.OpenShut
import Derived.ShutString
import Derived.ChangeOld
import Derived.SliceStrings
import Derived.Deep.Slices
import Derived.Deep.Fields
import Derived.Test.YtgfmljfjgohdcaaGreatDoorL41
import Derived.Test.YtgfmljfjgohdcaaGreatDoorL44
set_option maxRecDepth 100000
set_option maxHeartbeats 32000000
set_option linter.unusedVariables false
set_option linter.unusedSimpArgs false
namespace Go.Proofs.YtgfmljfjgohdcaaGreatDoor
open Go.RowKit Go.Proofs.Tryz
section
attribute [local go_sem] Qls Qkr Qj4 Qig ByteArray.mk_append_mk
def bpL(o:Option (List Ty × Kd))(x:List UInt8):Option (List UInt8):=(S5 o x).bind fun v=>if 600<(Dp v).length then none else some (Dp v)
theorem Tk{o:Option (List Ty × Kd)}{x:List UInt8}(h:S5 o x=none):bpL o x=none:=by unfold bpL;rw[h];rfl
theorem Vq{o:Option (List Ty × Kd)}{x:List UInt8}{v:Vl}(h:S5 o x=some v):bpL o x=if 600<(Dp v).length then none else some (Dp v):=by unfold bpL;rw[h];rfl
theorem Qi9{o:Option (List Ty × Kd)}{x b:List UInt8}(h:bpL o x=some b):b.length<=600:=by
 cases hv:S5 o x with
 |none=>rw[Tk hv]at h;cases h
 |some v=>
  rw[Vq hv]at h;split at h
  ·cases h
  injection h with h;subst h;omega
theorem Xr(s d x:List UInt8)(w:World)(hs:s.length<=4000000)(hd:d.length<=4000000)(hx:x.length<=4000000):
  Calls prog 75 #[s,d,x] w (Qn (bpL (Bn s d) x) w):=by
 have HO:=Aa (Qk4 s d x w hs hd hx);go_enter func75,ntmps75;go_wp2_with fail;refine HO.o.mono ?_;rintro e w1 hpost;obtain⟨hb1,⟨hv,v,q,rfl⟩|⟨S,k,v,xv,xs,b,hb,hv,rfl,hxs,hsc,hat⟩⟩:=hpost.cases
 ·have HV:=Aa (Tk hv);have Hb1:=Aa hb1;clear hv hpost hb1;go_wp2_with fail;go_ret2;exact⟨by rw[HV.o];rfl,Hb1.o⟩
 obtain⟨S',k',e1,hok,hk,_,hkd,hvok,hpr,hxl⟩:=Yp hv;rw[hb]at e1;injection e1 with e1;injection e1 with e1 e2;subst e1 e2;have hS:=hok.1.1;have Hb1:=Aa hb1;have HE:=Aa (Vq hv);have hbl:=Qhu _ _ _ hvok;have hpl:(Bi v).length<=400:=by rw[hpr];exact hxl
 have HX:=Aa (fun W (hW:Below w1 w1 W)=>Qje hS _ 12 k v hvok hk b W (hat.after hW) aF);clear hpost hb1 hb hv hok hk hkd hvok hpr hS hat hsc hxs hpl;generalize Dp v=bv at *;go_wp2_with fail;refine(HX.o _ (Ar _ _)).mono ?_;rintro e w2 ⟨rfl,hb2⟩;have Hb2:=Aa hb2;clear hb2;by_cases h6:600<bv.length
 ·have h6i:(600:Int)<(bv.length:Int):=aF;have HE2:=Aa (HE.o.trans (if_pos h6));go_wp2_with fail;go_ret2;exact⟨by rw[HE2.o];rfl,Hb1.o.trans (Hb2.o.mono Hb1.o.size)⟩
 have h6i:¬(600:Int)<(bv.length:Int):=aF;have HE2:=Aa (HE.o.trans (if_neg h6));go_wp2_with fail;refine(HX.o _ Hb2.o).mono ?_;rintro e w3 ⟨rfl,hb3⟩;have Hb3:=Aa (Hb1.o.trans ((Hb2.o.trans (hb3.mono Hb2.o.size)).mono Hb1.o.size));clear hb3;go_wp2_with fail;go_ret2;exact⟨by rw[HE2.o];rfl,Hb3.o⟩
theorem Zf(v:Vl)(hv:IbC v)(hl:(Dp v).length<=999999)(P:Nat->Prop)(sl:Value)(w:World)(h:E9 P w sl v.kids):
  Calls prog 87 #[Ko v sl] w (Qn (if 600<(Dp v).length then none else some (Dp v)) w):=by
 have Hx:=Aa (fun W h=>hv P sl W h);have Hs:=Aa h;obtain⟨A,c,rfl⟩:=h.form;obtain⟨o,ho⟩:∃o,o=(if 600<(Dp v).length then none else some (Dp v)):=⟨_,rfl⟩
 rw[<-ho];have HE:=Aa ho;clear ho h hv;generalize Dp v=bv at *;unfold Ko at Hx ⊢;go_enter func87,ntmps87;go_wp2_with fail;refine(Hx.o _ (Hs.o.after ((Ar _ _).alloc (Am _) _))).mono ?_;rintro e w2 ⟨rfl,hb2⟩;have Hb2:=Aa (((Ar w.heap.size w).alloc (Am _) _).trans (hb2.mono aH));clear hb2;by_cases h6:600<bv.length
 ·have h6i:(600:Int)<(bv.length:Int):=aF;have HE2:=Aa (HE.o.trans (if_pos h6));go_wp2_with fail;go_ret2;exact⟨by rw[HE2.o];rfl,Hb2.o⟩
 have h6i:¬(600:Int)<(bv.length:Int):=aF;have HE2:=Aa (HE.o.trans (if_neg h6));go_wp2_with fail;go_ret2;exact⟨by rw[HE2.o];rfl,Hb2.o⟩
theorem Xj(s d x:List UInt8)(w:World)(hs:s.length<=4000000)(hd:d.length<=4000000)(hx:x.length<=4000000):
  Calls prog 43 #[s,d,x] w (Qn (bpL (Bn s d) x) w):=by
 have HG:=Aa (Qc6 s d x w hs hd hx);go_enter func43,ntmps43;go_wp2_with fail;refine HG.o.mono ?_;rintro e w1 ⟨⟨p,k1,k2,k3,v,sl,rfl,hs1,hy⟩,hb1⟩;obtain⟨A1,c1,rfl⟩:=hs1.form;have Hb1:=Aa hb1;have Hal:=Aa (fun a b=>(show Below w1 w1 ((w1.alloc a).alloc b)from((Ar _ _).alloc (Am _) _).alloc aH _));have Hs1:=Aa hs1;cases hv:S5 (Bn s d) x with
 |none=>
  have HV:=Aa (Tk hv);rw[Option.isSome_none];unfold Ko;clear hs1 hb1 hy hv HG;go_wp2_with fail;go_ret2;exact⟨by rw[HV.o];rfl,Hb1.o.trans ((Hal.o _ _).mono Hb1.o.size)⟩
 |some y=>
  obtain⟨rfl,_⟩:=hy y hv;obtain⟨S,k,_,hok,hk,_,_,hvok,hpr,hxl⟩:=Yp hv;have hbl:=Qhu _ _ _ hvok;have hpl:(Bi v).length<=400:=by rw[hpr];exact hxl
  have HT:=Aa (fun W h=>Zf v (Qi0 hok.1.1 12 k v hvok aF) aF (fun c=>w.heap.size<=c) (.slice A1 v.kids.length c1) W h);rw[<-Vq hv]at HT;unfold Qn at HT;rw[Option.isSome_some];generalize bpL (Bn s d) x=o at *;unfold Ko at HT ⊢;clear hs1 hb1 hy hv HG hok hk hvok hpr hpl;go_wp2_with fail;refine(HT.o _ (Hs1.o.after (Hal.o _ _))).mono ?_;rintro e w3 ⟨rfl,hb3⟩;have Hb3:=Aa (Hb1.o.trans (((Hal.o _ _).trans (hb3.mono aL)).mono Hb1.o.size));clear hb3;go_wp2_with fail;go_ret2;exact jg
def Qca(vs:List J0)(n:Int)(x:List UInt8):Option (List UInt8):=(atL vs n).bind fun v=>(bpL (Bn v.1 v.2) x).map fun b=>Dg n.toNat++b
theorem Qed{p:Prop}(h:p:=by
  go_wp2_with fail;obtain⟨W1,hW1⟩:∃W1,W1=w.alloc (.cells #[.slice A vs.length c] 31):=⟨_,rfl⟩
  rw[<-hW1];have B1:=Aa (show Below w w W1 by rw[hW1];exact(Ar _ _).alloc (Am _) _);clear hW1;refine(Ha.o W1 (Hv.o.below B1.o)).mono ?_;rintro e w2 ⟨a,b,rfl,hab,hb2⟩;have B2:=Aa (B1.o.trans (hb2.mono B1.o.size));have Hal:=Aa (fun o=>(show Below w w (w2.alloc o)from B2.o.alloc B2.o.size _));clear hb2;cases hat:atL vs n with
  |none=>
   have HN:=Aa (show Qca vs n x=none by unfold Qca;rw[hat];rfl);clear hat hab;go_wp2_with fail;go_ret2;exact⟨by rw[HN.o];rfl,Hal.o _⟩
  |some v=>
   obtain⟨rfl,rfl⟩:=hab v hat;have HP:=Aa (show Qca vs n x=(bpL (Bn v.1 v.2) x).map fun b=>Dg n.toNat++b by unfold Qca;rw[hat];rfl);obtain⟨hrok,k0,rfl,hk0,hv0⟩:=Qhr hat;have h5:=(J1.1 hrok).1;have hlv:v.1.length<=4000000/\v.2.length<=4000000:=Hl.o v (by rw[hv0,Kf hk0];exact ac hk0);have HB:=Aa (fun W=>Hput.o v.1 v.2 x W hlv.1 hlv.2 hx);unfold Qn at HB;have Hbl:=Aa (fun b (h:bpL (Bn v.1 v.2) x=some b)=>Qi9 h);have e1:((k0:Int)+1).toNat=k0+1:=aF;rw[e1]at HP;have HNm:=Aa (fun W=>Hnum.o (k0+1) W aF);have hnl:=Cb (k0+1);clear hat hab hlv hv0 e1 hrok;generalize bpL (Bn v.1 v.2) x=o at *;go_wp2_with fail;refine(HB.o _).mono ?_;rintro e w3 ⟨rfl,hb3⟩;have B3:=Aa ((Hal.o _).trans (hb3.mono (Hal.o _).size));clear hb3;cases o with
   |none=>
    simp only[Option.isSome_none];go_wp2_with fail;go_ret2;exact⟨by rw[HP.o];rfl,B3.o⟩
   |some b=>
    have hbl:=Hbl.o b rfl;simp only[Option.isSome_some,Option.getD_some];go_wp2_with fail;refine(HNm.o _).mono ?_;rintro e w4 ⟨rfl,hb4⟩;have B4:=Aa (B3.o.trans (hb4.mono B3.o.size));clear hb4;go_wp2_with fail;go_ret2;exact⟨by rw[HP.o];rfl,B4.o⟩):p:=h
theorem Vp(u:Value)(vs:List J0)(n:Int)(x:List UInt8)(w:World)(h:Fi w u vs)(hn:vs.length<=1048577)(hl:∀y∈vs,y.1.length<=4000000/\y.2.length<=4000000)(hlo:-9223372036854775808<=n)(hhi:n<=9223372036854775807)(hx:x.length<=4000000):
  Calls prog 28 #[.agg #[u],.int .i64 n,x] w (Qn (Qca vs n x) w):=by
 have Hv:=Aa h;have Hl:=Aa hl;have Ha:=Aa (fun W (hW:Fi W u vs)=>Qf4 u vs n W hW hn hl hlo hhi);have Hput:=Aa (fun s d x W hs hd hx=>Xr s d x W hs hd hx);have Hnum:=Aa (fun n W (hn:n<=999999)=>Mk n W aF);obtain⟨A,c,rfl,_,_,_⟩:=h;clear hl;go_enter func28,ntmps28;exact Qed
theorem Xg(u:Value)(vs:List J0)(n:Int)(x:List UInt8)(w:World)(h:Fi w u vs)(hn:vs.length<=1048577)(hl:∀y∈vs,y.1.length<=4000000/\y.2.length<=4000000)(hlo:-9223372036854775808<=n)(hhi:n<=9223372036854775807)(hx:x.length<=4000000):
  Calls prog 30 #[.agg #[u],.int .i64 n,x] w (Qn (Qca vs n x) w):=by
 have Hv:=Aa h;have Hl:=Aa hl;have Ha:=Aa (fun W (hW:Fi W u vs)=>Qaa u vs n W hW hn hl hlo hhi);have Hput:=Aa (fun s d x W hs hd hx=>Xj s d x W hs hd hx);have Hnum:=Aa (fun n W (hn:n<=999999)=>Gn n W hn);obtain⟨A,c,rfl,_,_,_⟩:=h;clear hl;go_enter func30,ntmps30;exact Qed
end
section
attribute [local go_sem] Qkr
theorem FnExactLetterPut_walk(w:World)(u:Value)(vs:List J0)(h:Fi w u vs)(hl:∀x∈vs,x.1.length<=maxLen/\x.2.length<=maxLen)(n:Int)(hn2:-9223372036854775808<=n/\n<=9223372036854775807)(x:List UInt8)(hx:x.length<=maxLen):
  Calls prog 6 #[.agg #[u],.int .i64 n,x] w fun e w'=>e=.returned (.bool true)/\Below w w w':=by
 have Hv:=Aa h;have Hl:=Aa hl;obtain⟨A,c,rfl,_,_,_⟩:=h;clear hl;obtain⟨hlo,hhi⟩:=hn2;unfold maxLen at hx;by_cases h20:x.length<=1048576;rotate_left
 ·have h20i:(1048576:Int)<(x.length:Int):=aF;go_enter func6,ntmps6;go_wp2_with fail;exact iH
 have h20i:¬((1048576:Int)<(x.length:Int)):=aF;have H20:=Aa h20;go_enter func6,ntmps6;go_wp2_with fail;refine(Tt _ vs _ (Hv.o.below ((Ar _ _).alloc (Am _) _)) Hl.o).mono ?_;rintro e w1 ⟨r,rfl,q1,q2,q3,hb1⟩;have Hq:=Aa q3;have Hb1:=Aa (((Ar w.heap.size w).alloc (Am _) _).trans (hb1.mono aH));have t1:w1.cell? (w,0)=some (.slice A vs.length c):=(hb1.cell (p:=⟨w.heap.size,0,none⟩) aH).trans aH;have hz1:w.heap.size<w1.heap.size:=cP;clear q3 hb1;by_cases hneg:r<0
 ·go_wp2_with fail;exact iF
 obtain⟨hn0,hl0⟩:=Hq.o aF;have hn:vs.length<=1048576:=aF;have Hl4:=@Aa (∀x∈vs,x.1.length<=4000000/\x.2.length<=4000000) (fun x hx=>by have:=hl0 x hx;exact⟨by omega,by omega⟩);clear hl0 hn0;go_wp2_with fail;refine(J6 _ vs _ (Hv.o.below Hb1.o) hn).mono ?_;rintro e w2 ⟨v2,rfl,hv2,hb2⟩;have Hb2:=Aa (Hb1.o.trans (hb2.mono Hb1.o.size));have t2:w2.cell? (w,0)=some (.slice A vs.length c):=(hb2.cell (p:=⟨w.heap.size,0,none⟩) hz1).trans t1;have hz2:w.heap.size<w2.heap.size:=dK;have Hv2:=Aa hv2;obtain⟨A2,c2,rfl,_,_,_⟩:=hv2;clear hb2 t1;go_wp2_with fail;refine(Vp _ vs n x _ Hv2.o aF Hl4.o hlo hhi (aa H20.o aI)).mono ?_;rintro e w3 ⟨rfl,hb3⟩;have Hb3:=Aa (Hb2.o.trans (hb3.mono Hb2.o.size));have t3:w3.cell? (w,0)=some (.slice A vs.length c):=(hb3.cell (p:=⟨w.heap.size,0,none⟩) hz2).trans t2;have hz3:w.heap.size<w3.heap.size:=by have:=hb3.size;omega
 clear hb3 t2 Hv2;go_wp2_with fail;refine(J6 _ vs _ (Hv.o.below Hb3.o) hn).mono ?_;rintro e w4 ⟨v4,rfl,hv4,hb4⟩;have Hb4:=Aa (Hb3.o.trans (hb4.mono Hb3.o.size));have t4:w4.cell? (w,0)=some (.slice A vs.length c):=(hb4.cell (p:=⟨w.heap.size,0,none⟩) hz3).trans t3;have hz4:w.heap.size<w4.heap.size:=by have:=hb4.size;omega
 have Hv4:=Aa hv4;obtain⟨A4,n4,rfl,_,_,_⟩:=hv4;clear hb4 t3;go_wp2_with fail;refine(Xg _ vs n x _ (Hv4.o.below ((Ar _ _).alloc (Am _) _)) aF Hl4.o hlo hhi (aa H20.o aI)).mono ?_;rintro e w5 ⟨rfl,hb5⟩;have Hb5:=Aa ((Hb4.o.alloc Hb4.o.size _).trans (hb5.mono (by have:=Hb4.o.size;simp;omega)));have t5:w5.cell? (w,0)=some (.slice A vs.length c):=(hb5.cell (p:=⟨w.heap.size,0,none⟩) aL).trans ((World.cell?_alloc_old _ _ _ (show w.heap.size≠w4.heap.size by omega)).trans t4);have t6:w5.cell? (w4,0)=some (.slice A4 vs.length n4):=(hb5.cell (p:=⟨w4.heap.size,0,none⟩) aH).trans aH;have hz5:w4.heap.size<w5.heap.size:=fe;have Hv5:=Aa ((Hv4.o.below ((Ar _ _).alloc (Am _) _)).below hb5);generalize (Qca vs n x).getD []=tx at *;generalize (Qca vs n x).isSome=ok at *;clear hb5 t4 Hv4;go_wp2_with fail;have T0:=Aa t5;have T5:=Aa t6;have Lw:=Aa (show w.heap.size<w5.heap.size by omega);have L5:=Aa hz5;clear t5 t6;refine M0 [46,47,48,49,50]
  (fun ix v W=>match ix with|0=>v=.agg #[.slice A4 vs.length n4]|1=>v=.agg #[.slice A vs.length c]|2=>∃A n c,v=.agg #[.slice A n c]|3=>v=.bool true|4=>v=.bool false|_=>True)
  (fun L U W=>Below w5 w5 W/\(L 2=true->∃v3,U 2=.agg #[v3]/\Fi W v3 vs)) (⟨(Ar _ _).drew,fun h=>Bool.noConfusion h⟩) ?_ ?_
 ·repeat (first|exact Ap.nil|(refine Ap.cons ?_ ?_;rotate_left))
  all_goals
   rintro L U W hL hpre HR Hdep K hK;obtain⟨hB,R2⟩:=HR.o;have t0:W.cell? (w,0)=some (.slice A vs.length c):=(hB.cell (p:=⟨w.heap.size,0,none⟩) Lw.o).trans T0.o;have t1:W.cell? (w4,0)=some (.slice A4 vs.length n4):=(hB.cell (p:=⟨w4.heap.size,0,none⟩) L5.o).trans T5.o;first|(simp[Region.binds]at hpre;done)|simp[Region.binds]at hpre|clear hpre
  iterate 2
   ·exact fD
  ·go_simp;refine(J6 _ vs W (Hv.o.below (Hb5.o.trans (hB.mono Hb5.o.size))) aF).mono ?_;rintro e w7 ⟨v3,rfl,hv3,hb5⟩;have hv3':=hv3;obtain⟨A3,c3,rfl,_⟩:=hv3';exact hK _ _ _ ⟨A3,_,c3,rfl⟩ Ac ⟨hB.trans (hb5.mono hB.size),fun _=>⟨_,rfl,hv3⟩⟩ aG
  ·obtain⟨⟨l0,u0⟩,l2,A3,n3,c3,u2⟩:=hpre;obtain⟨v3,hu,hv3⟩:=R2 l2;rw[u2]at hu;injection hu with hu;simp at hu;subst hu;go_simp;refine(Va _ _ vs W (Hv5.o.below hB) hv3).mono ?_;rintro e w7 ⟨rfl,hb5⟩;exact hK _ _ _ rfl Ac ⟨hB.trans (hb5.mono hB.size),fun h=>⟨_,u2,hv3.below hb5⟩⟩ (by simp[Act.put,u0,u2])
  ·exact fD
 rintro L U W hL hφ hR;have e4:U 4=.bool false:=hφ 4 aI;simp only[e4];clear hφ;have hB:=hR.1;have Hbz:=Aa (Hb5.o.trans (hB.mono Hb5.o.size));clear hL hR hB;go_wp2_with fail;go_ret;exact⟨rfl,Hbz.o⟩
end
section
open Go.ChangeShapes Go.WideShapes Go.ChangeAt Go.RowKit
open Go.ChangeMaps (open_string shut_string)
theorem own:ownKnob prog.godebug=none:=aJ
theorem laidOut:laidOutB prog=true:=aJ
section
variable {H:Type} {enc:TypeId × Value->H} {W:World} {base:Nat} {v:Value} {d:DataW H} {ps:List MemPlace}
theorem arg_string(hv:Value.okWide prog W .any base 9 v)(h:DataW.Trod enc prog W 0 (fun _=>true) true 9 v d ps):
  ∃l:List UInt8,v=l/\l.length<=maxLen:=by
 obtain⟨s,rfl,_,_,hs⟩:=open_string underlying9 hv h;exact⟨s.data.toList,by simp,by simpa using hs⟩
theorem arg_int(hv:Value.okWide prog W .any base 3 v)(h:DataW.Trod enc prog W 0 (fun _=>true) true 3 v d ps):
  ∃x:Int,v=.int .i64 x /\ -9223372036854775808<=x/\x<=9223372036854775807:=by
 obtain⟨x,rfl,_,_,w⟩:=open_int underlying3 hv h;have hw:=w;simp[Lit.wf,IntKind.min,IntKind.max,IntKind.signed,IntKind.bits]at hw;exact⟨x,rfl,by omega,by omega⟩
end
end
section
open Go.ChangeShapes Go.WideShapes Go.ChangeAt Go.RowKit Go.Deep
theorem Qgt{b off j:Nat}:(⟨b,off,none⟩:Addr).add j=⟨b,off+j,none⟩:=bn
section
variable {H:Type} {enc:TypeId × Value->H} {W:World} {base:Nat} {v:Value} {d:DataW H} {ps:List MemPlace}
theorem Qgr{sp:Nat->Bool}{b0 n:Nat}{cs:List Value}{x:DataW H × List MemPlace}(h:DataW.trod enc prog W b0 sp true n 188 cs=some x):
  ∃a b:ByteArray,cs=[.string a,.string b]/\a.size<=maxLen/\b.size<=maxLen:=by
 obtain⟨xs,m,_,hx,hl,hlen,hg⟩:=DataW.trod_struct underlying188 h;have hc:prog.cellsOf 188=2:=aJ;have hs:prog.cellsOf 9=1:=aJ;rw[hc]at hl;match cs,hl with
 |[c0,c1],_=>
  have h0:=hg 0 _ rfl;have h1:=hg 1 _ rfl;simp[hs]at h0 h1;have l0:0<xs.length:=by rw[hlen];decide
  have l1:1<xs.length:=by rw[hlen];decide
  rw[List.getElem?_eq_getElem l0]at h0;rw[List.getElem?_eq_getElem l1]at h1;obtain⟨a,ha,_,za⟩:=DataW.trod_string underlying9 h0;obtain⟨b,hb,_,zb⟩:=DataW.trod_string underlying9 h1;simp at ha hb;exact⟨a,b,by rw[ha,hb],za,zb⟩
theorem arg_registry(hv:Value.okWide prog W .any base 49 v)(h:DataW.Trod enc prog W 0 (fun _=>true) true 49 v d ps):
  ∃(u:Value) (vs:List J0),v=.agg #[u]/\Fi W u vs/\∀x∈vs,x.1.length<=maxLen/\x.2.length<=maxLen:=by
 obtain⟨cs,rfl,hsz⟩:=okWide_struct underlying49 hv;have hc1:prog.cellsOf 49=1:=aJ;have hc2:prog.cellsOf 47=1:=aJ;have hc3:prog.cellsOf 188=2:=aJ;rw[hc1]at hsz;obtain⟨c0,rfl⟩:∃c0,cs=#[c0]:=by
  obtain⟨l⟩:=cs;match l,hsz with
  |[c0],_=>exact⟨c0,rfl⟩
 obtain⟨fuel,hf⟩:=h;obtain⟨xs,n,_,hx,hl,hlen,hg⟩:=DataW.trod_struct underlying49 hf;have h0:=hg 0 _ rfl;simp[hc2,Value.cells]at h0;have l0:0<xs.length:=by rw[hlen];decide
 rw[List.getElem?_eq_getElem l0]at h0;rcases open_slice underlying47 h0 with⟨hcs,_⟩|⟨a,len,cap,m,n2,D,Pl,hcs,_,hlc,hcm,hmm,_,hi⟩
 ·simp at hcs;subst hcs;exact⟨_,[],rfl,⟨none,0,rfl,Am _,ae _,fun h=>absurd h aH⟩,fun x hx=>by cases hx⟩
 simp at hcs;subst hcs;simp at hmm;subst hmm;have hP:∀i,i<m->∃p:J0,W.cell? (a.add (i*2))=p.1/\W.cell? (a.add (i*2+1))=p.2/\p.1.length<=maxLen/\p.2.length<=maxLen:=by
  intro i him;obtain⟨cs',hcc,ht⟩:=hi i him;rw[hc3]at hcc;obtain⟨s0,s1,rfl,z0,z1⟩:=Qgr ht;obtain⟨_,_,hat⟩:=World.cells?_some hcc;have a0:=hat 0 aI;have a1:=hat 1 aI;rw[Go.Deep.add_add]at a0 a1;exact⟨(s0.data.toList,s1.data.toList),by simpa using a0,by simpa using a1,by simpa using z0,by simpa using z1⟩
 obtain⟨f,hf⟩:∃f:Nat->J0,∀i,i<m->W.cell? (a.add (i*2))=some (.string ⟨(f i).1.toArray⟩)/\W.cell? (a.add (i*2+1))=some (.string ⟨(f i).2.toArray⟩)/\(f i).1.length<=maxLen/\(f i).2.length<=maxLen:=
  ⟨fun i=>if h:i<m then Classical.choose (hP i h)else([],[]),fun i h=>by simp only[dif_pos h];exact Classical.choose_spec (hP i h)⟩
 have hvl:((List.range len).map f).length=len:=aH;refine⟨_,(List.range len).map f,rfl,⟨some a,m,by rw[hvl],by rw[hvl];exact hlc,by rw[hvl];omega,fun hn=>?_⟩,fun x hx=>?_⟩
 ·rw[Gk Kl,hvl]at hn;have hlp:0<len:=aF;have q0:=(hf 0 aF).1;obtain⟨b,off,spot⟩:=a;have hspot:spot=none:=by simpa [Addr.add]using World.cell?_spot q0
  subst hspot;refine⟨b,off,rfl,?_,fun j u hu=>?_⟩
  ·have:=World.block_lt_of_cell? W _ q0;simpa [Addr.add]using this
  have hj:j<len*2:=by
   have:=(List.getElem?_eq_some_iff.1 hu).1;rwa [Gk Kl,hvl]at this
  have hjd:j=j / 2*2+j % 2:=aF;have hjl:j / 2<((List.range len).map f).length:=by rw[hvl];omega
  rw[hjd,Jo Kl _ (j / 2) (j % 2) hjl aF]at hu;obtain⟨q1,q2,_,_⟩:=hf (j / 2) aF;rw[Qgt]at q1 q2;rw[hjd];rcases Nat.mod_two_eq_zero_or_one j with h2|h2
  ·rw[h2]at hu ⊢;simp[Qaj]at hu;rw[<-hu];exact q1
  rw[h2]at hu ⊢;simp[Qaj]at hu;rw[<-hu];exact q2
 obtain⟨i,hi',rfl⟩:=av.1 hx;rw[List.mem_range]at hi';exact⟨(hf i aF).2.2.1,(hf i aF).2.2.2⟩
end
end
end Go.Proofs.YtgfmljfjgohdcaaGreatDoor
