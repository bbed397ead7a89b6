/- Texts joined. Conditions: as each theorem names them. -/
import Derived.Test.YtmmhmlmfhpfgbaaGreatDoorB27
import Derived.Test.YtmmhmlmfhpfgbaaGreatDoorB28
set_option maxRecDepth 100000
set_option maxHeartbeats 32000000
set_option linter.unusedVariables false
set_option linter.unusedSimpArgs false
namespace Go.Proofs.YtmmhmlmfhpfgbaaGreatDoor
open Go.RowKit Go.Proofs.Tryz
section
attribute [local go_sem] Qra Qpu Qo3 Qmi ByteArray.mk_append_mk
def bpL(o:Option (List Ty × Kd))(x:List UInt8):Option (List UInt8):=(Tf o x).bind fun v=>if 600<(Dg v).length then none else some (Dg v)
theorem Yy{o:Option (List Ty × Kd)}{x:List UInt8}(h:Tf o x=none):bpL o x=none:=by unfold bpL;rw[h];rfl
theorem Pw{o:Option (List Ty × Kd)}{x:List UInt8}{v:Vl}(h:Tf o x=some v):bpL o x=if 600<(Dg v).length then none else some (Dg v):=by unfold bpL;rw[h];rfl
theorem Qng{o:Option (List Ty × Kd)}{x b:List UInt8}(h:bpL o x=some b):b.length<=600:=by
 cases hv:Tf o x with
 |none=>rw[Yy hv]at h;cases h
 |some v=>
  rw[Pw hv]at h;split at h
  ·cases h
  injection h with h;subst h;omega
theorem Qa3(s d x:List UInt8)(w:World)(hs:s.length<=4000000)(hd:d.length<=4000000)(hx:x.length<=4000000):
  Calls prog 66 #[s,d,x] w (Vs (bpL (Bq s d) x) w):=by
 have HO:=Aa (Qqf s d x w hs hd hx);go_enter func66,ntmps66;go_wp2_with fail;refine HO.o.mono ?_;rintro e w1 hpost;obtain⟨hb1,⟨hv,v,q,rfl⟩|⟨S,k,v,xv,xs,b,hb,hv,rfl,hxs,hsc,hat⟩⟩:=hpost.cases
 ·have HV:=Aa (Yy hv);have Hb1:=Aa hb1;clear hv hpost hb1;go_wp2_with fail;go_ret2;exact⟨by rw[HV.o];rfl,Hb1.o⟩
 obtain⟨S',k',e1,hok,hk,_,hkd,hvok,hpr,hxl⟩:=Qbp hv;rw[hb]at e1;injection e1 with e1;injection e1 with e1 e2;subst e1 e2;have hS:=hok.1.1;have Hb1:=Aa hb1;have HE:=Aa (Pw hv);have hbl:=Qf2 _ _ _ hvok;have hpl:(Aw v).length<=400:=by rw[hpr];exact hxl
 have HX:=Aa (fun W (hW:Below w1 w1 W)=>Qhr hS _ 12 k v hvok hk b W (hat.after hW) aI);clear hpost hb1 hb hv hok hk hkd hvok hpr hS hat hsc hxs hpl;generalize Dg v=bv at *;go_wp2_with fail;refine(HX.o _ (Aq _ _)).mono ?_;rintro e w2 ⟨rfl,hb2⟩;have Hb2:=Aa hb2;clear hb2;by_cases h6:600<bv.length
 ·have h6i:(600:Int)<(bv.length:Int):=aI;have HE2:=Aa (HE.o.trans (if_pos h6));go_wp2_with fail;go_ret2;exact⟨by rw[HE2.o];rfl,Hb1.o.trans (Hb2.o.mono Hb1.o.size)⟩
 have h6i:¬(600:Int)<(bv.length:Int):=aI;have HE2:=Aa (HE.o.trans (if_neg h6));go_wp2_with fail;refine(HX.o _ Hb2.o).mono ?_;rintro e w3 ⟨rfl,hb3⟩;have Hb3:=Aa (Hb1.o.trans ((Hb2.o.trans (hb3.mono Hb2.o.size)).mono Hb1.o.size));clear hb3;go_wp2_with fail;go_ret2;exact⟨by rw[HE2.o];rfl,Hb3.o⟩
theorem Qdk(v:Vl)(hv:IbC v)(hl:(Dg v).length<=999999)(P:Nat->Prop)(sl:Value)(w:World)(h:Eb P w sl v.kids):
  Calls prog 75 #[Gf v sl] w (Vs (if 600<(Dg v).length then none else some (Dg v)) w):=by
 have Hx:=Aa (fun W h=>hv P sl W h);have Hs:=Aa h;obtain⟨A,c,rfl⟩:=h.form;obtain⟨o,ho⟩:∃o,o=(if 600<(Dg v).length then none else some (Dg v)):=⟨_,rfl⟩
 rw[<-ho];have HE:=Aa ho;clear ho h hv;generalize Dg v=bv at *;unfold Gf at Hx ⊢;go_enter func75,ntmps75;go_wp2_with fail;refine(Hx.o _ (Hs.o.after ((Aq _ _).alloc (Al _) _))).mono ?_;rintro e w2 ⟨rfl,hb2⟩;have Hb2:=Aa (((Aq w.heap.size w).alloc (Al _) _).trans (hb2.mono aK));clear hb2;by_cases h6:600<bv.length
 ·have h6i:(600:Int)<(bv.length:Int):=aI;have HE2:=Aa (HE.o.trans (if_pos h6));go_wp2_with fail;go_ret2;exact⟨by rw[HE2.o];rfl,Hb2.o⟩
 have h6i:¬(600:Int)<(bv.length:Int):=aI;have HE2:=Aa (HE.o.trans (if_neg h6));go_wp2_with fail;go_ret2;exact⟨by rw[HE2.o];rfl,Hb2.o⟩
theorem Rg(s d x:List UInt8)(w:World)(hs:s.length<=4000000)(hd:d.length<=4000000)(hx:x.length<=4000000):
  Calls prog 35 #[s,d,x] w (Vs (bpL (Bq s d) x) w):=by
 have HG:=Aa (Qgd s d x w hs hd hx);go_enter func35,ntmps35;go_wp2_with fail;refine HG.o.mono ?_;rintro e w1 ⟨⟨p,k1,k2,k3,v,sl,rfl,hs1,hy⟩,hb1⟩;obtain⟨A1,c1,rfl⟩:=hs1.form;have Hb1:=Aa hb1;have Hal:=Aa (fun a b=>(show Below w1 w1 ((w1.alloc a).alloc b)from((Aq _ _).alloc (Al _) _).alloc aK _));have Hs1:=Aa hs1;cases hv:Tf (Bq s d) x with
 |none=>
  have HV:=Aa (Yy hv);rw[Option.isSome_none];unfold Gf;clear hs1 hb1 hy hv HG;go_wp2_with fail;go_ret2;exact⟨by rw[HV.o];rfl,Hb1.o.trans ((Hal.o _ _).mono Hb1.o.size)⟩
 |some y=>
  obtain⟨rfl,_⟩:=hy y hv;obtain⟨S,k,_,hok,hk,_,_,hvok,hpr,hxl⟩:=Qbp hv;have hbl:=Qf2 _ _ _ hvok;have hpl:(Aw v).length<=400:=by rw[hpr];exact hxl
  have HT:=Aa (fun W h=>Qdk v (Qnh hok.1.1 12 k v hvok aI) aI (fun c=>w.heap.size<=c) (.slice A1 v.kids.length c1) W h);rw[<-Pw hv]at HT;unfold Vs at HT;rw[Option.isSome_some];generalize bpL (Bq s d) x=o at *;unfold Gf at HT ⊢;clear hs1 hb1 hy hv HG hok hk hvok hpr hpl;go_wp2_with fail;refine(HT.o _ (Hs1.o.after (Hal.o _ _))).mono ?_;rintro e w3 ⟨rfl,hb3⟩;have Hb3:=Aa (Hb1.o.trans (((Hal.o _ _).trans (hb3.mono aO)).mono Hb1.o.size));clear hb3;go_wp2_with fail;go_ret2;exact jx
end
end Go.Proofs.YtmmhmlmfhpfgbaaGreatDoor
