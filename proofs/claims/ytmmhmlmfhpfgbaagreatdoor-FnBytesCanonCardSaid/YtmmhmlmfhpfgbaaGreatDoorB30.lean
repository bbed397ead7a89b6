/- Texts joined. Conditions: as each theorem names them. -/
import Derived.Test.YtmmhmlmfhpfgbaaGreatDoorB29
set_option maxRecDepth 100000
set_option maxHeartbeats 32000000
set_option linter.unusedVariables false
set_option linter.unusedSimpArgs false
namespace Go.Proofs.YtmmhmlmfhpfgbaaGreatDoor
open Go.RowKit Go.Proofs.Tryz
section
attribute [local go_sem] Qra Qpu Qo3 Qmi ByteArray.mk_append_mk
def Qax(o:Option (List Ty × Kd))(s:List UInt8):Bool:=match bgL o s with
 |none=>false
 |some v=>match bpL o (Aw v)with|none=>false|some b=>b == s
theorem Xz(a d s:List UInt8)(w:World)(ha:a.length<=4000000)(hd:d.length<=4000000)(hs:s.length<=4000000):
  Calls prog 32 #[.string ⟨a.toArray⟩,.string ⟨d.toArray⟩,.string ⟨s.toArray⟩] w fun e w'=>e=.returned (.bool (Qax (Bq a d) s))/\Below w.heap.size w w':=by
 have HG:=Aa (Rj a d s w ha hd hs)
 have HL:=Aa (fun v (h:bgL (Bq a d) s=some v)=>(show (Aw v).length<=4000000 by
  cases hb:Bq a d with
  |none=>rw[hb]at h;cases h
  |some y=>
   obtain⟨S,k⟩:=y
   rw[hb]at h
   obtain⟨g1,_,_,g4,_⟩:=Ec hb
   have:=(Vf g1.1.1 g4 h).2.1
   omega))
 have HP:=Aa (fun v (h:bgL (Bq a d) s=some v) W=>Rg a d (Aw v) W ha hd (HL.o v h))
 obtain⟨cc,hcc⟩:∃cc,cc=Qax (Bq a d) s:=⟨_,rfl⟩
 rw[<-hcc]
 unfold Qax at hcc
 have HC:=Aa hcc
 clear hcc HL
 generalize bgL (Bq a d) s=q at *
 unfold Qgk at HG
 unfold Vs at HP
 go_enter func32,ntmps32
 go_wp2_with fail
 refine HG.o.mono ?_
 rintro e w1 ⟨rfl,hb1⟩
 have Hb1:=Aa hb1
 clear hb1 HG
 cases q with
 |none=>
  go_wp2_with fail
  go_ret
  exact⟨by rw[HC.o];rfl,Hb1.o⟩
 |some v=>
  have HP:=Aa (HP.o v rfl)
  have HC:=Aa (show cc=match bpL (Bq a d) (Aw v)with|none=>false|some b=>b == s from HC.o)
  generalize bpL (Bq a d) (Aw v)=ob at *
  simp only[Option.map_some,Option.getD_some,Option.isSome_some]
  generalize Aw v=t at *
  go_wp2_with fail
  refine(HP.o _).mono ?_
  rintro e w2 ⟨rfl,hb2⟩
  have Hb2:=Aa (Hb1.o.trans (hb2.mono Hb1.o.size))
  clear hb2
  cases ob with
  |none=>
   go_wp2_with fail
   go_ret
   exact⟨by rw[HC.o];rfl,Hb2.o⟩
  |some y=>
   go_wp2_with fail
   go_ret
   exact⟨by rw[HC.o];rfl,Hb2.o⟩
def Zc(xs:List PT)(k:Kd):Option PT:=if k.signs=[]/\k.base=[64]then Fh xs k.name else none
theorem Qd4(p:Value)(xs:List PT)(k:Kd)(w:World)(h:To w p xs)(hk:k.name.length<=100)(hf:k.base=[64]->∃x,Fh xs k.name=some x):
  Calls prog 76 #[p,Fi k] w fun e w'=>e=.returned (.tuple #[Rb (Zc xs k),.bool ((Zc xs k).any fun x=>decide (x.ty.sort=82))])/\Below w.heap.size w w':=by
 obtain⟨b,mb,rfl,hb,hm,hn⟩:=h.map
 have ht:∀x∈xs,Tc w x:=by
  obtain⟨_,_,_,_,_,_,_,_,_,_,h,_⟩:=h
  exact h
 clear h
 obtain⟨w1,hw1⟩:∃w1,w1=w.alloc (.cells #[.string ⟨k.signs.toArray⟩,.string ⟨k.base.toArray⟩,.string ⟨k.name.toArray⟩] 60):=⟨_,rfl⟩
 have hb1:Below w.heap.size w w1:=by rw[hw1];exact(Aq _ _).alloc (Al _) _
 have Hb1:=Aa hb1
 have x1:w1.cell? ⟨w.heap.size,1,none⟩=some (.string ⟨k.base.toArray⟩):=by rw[hw1];simp
 have x2:w1.cell? ⟨w.heap.size,2,none⟩=some (.string ⟨k.name.toArray⟩):=by rw[hw1];simp
 have x0:w1.cell? ⟨w.heap.size,0,none⟩=some (.string ⟨k.signs.toArray⟩):=by rw[hw1];simp
 have l1:w.heap.size<w1.heap.size:=by rw[hw1];simp
 have x3:w1.cell? ⟨b,1,none⟩=some (.map (some mb)):=(hb1.cell (p:=⟨b,1,none⟩) hb).trans hm
 have l3:b<w1.heap.size:=by omega
 have HL:=Aa (fun W (hW:Below w1.heap.size w1 W)=>Fw (D5.below (D5.below hn hb1) hW) k.name (by omega))
 have Hw1:=Aa hw1
 by_cases hs:k.signs=[]
 ·by_cases hbs:k.base=[64]
  ·obtain⟨x,hx⟩:=hf hbs
   obtain⟨hy0,_,hy1,_⟩:=ht x (Gy hx).1
   have y0:w1.cell? ⟨x.blk,0,none⟩=some (.int .u8 (x.ty.sort.toNat:Int)):=(hb1.cell (p:=⟨x.blk,0,none⟩) hy0).trans hy1
   have l4:x.blk<w1.heap.size:=by omega
   have HR:=Aa (show Zc xs k=some x by unfold Zc;rw[if_pos ⟨hs,hbs⟩,hx])
   rw[hx]at HL
   unfold Rb PT.ptr at HL
   rw[HR.o,Option.any_some]
   unfold Rb PT.ptr
   have t1:(!k.signs.isEmpty)=false:=by simp[hs]
   have t1':k.signs.isEmpty=true:=by simp[hs]
   have t2:(k.base != [64])=false:=by simp[hbs]
   have t2':(k.base == [64])=true:=by simp[hbs]
   clear hf ht hs hbs hx hy0 hy1 hm hn hw1 hb1 HR
   have HZ:=Aa (show ∀z:UInt8,decide ((z.toNat:Int)=82)=decide (z=82)from fun z=>by
    rw[decide_eq_decide]
    exact⟨fun h=>UInt8.toNat_inj.1 (by show z.toNat=82;omega),fun h=>by rw[h];rfl⟩)
   generalize x.ty.sort=z at *
   unfold Fi
   go_enter func76,ntmps76
   go_wp2_with fail
   generalize hwg:World.alloc w _=wg
   obtain rfl:w1=wg:=Hw1.o.trans hwg
   clear hwg
   refine rgB ?_
   iterate 6 refine sq ?_
   refine Ju (fun v=>v=.pointer (some ⟨x.blk,0,none⟩)) ?_ ?_
   ·intro l u W hl hp hF hG hi K hK
    have hlk:=HL.o W hF.o
    unfold Gz at hG
    simp[Region.binds,Co]at hp
    go_simp
    exact hK _ _ _ rfl hF.o (by simp[Act.put,hp])
   refine sq ?_
   refine dnB fun w5 HB=>?_
   have y5:w5.cell? ⟨x.blk,0,none⟩=some (.int .u8 (z.toNat:Int)):=(HB.o.cell (p:=⟨x.blk,0,none⟩) l4).trans y0
   have l5:=Nat.lt_of_lt_of_le l4 HB.o.size
   have Hb5:=Aa (Hb1.o.trans (HB.o.mono (by omega)))
   clear HB HL x0 x1 x2 x3 y0 l1 l3 l4
   go_wp2_with fail
   refine rgB ?_
   iterate 8 refine sq ?_
   refine dnB fun w6 HB=>?_
   have Hb6:=Aa (Hb5.o.trans (HB.o.mono Hb5.o.size))
   clear HB y5 l5
   go_wp2_with fail
   go_ret2
   exact⟨by rw[<-HZ.o z];rfl,Hb6.o⟩
  have HR:=Aa (show Zc xs k=none by unfold Zc;rw[if_neg (fun h=>hbs h.2)])
  rw[HR.o,Option.any_none]
  unfold Rb
  have t1:(!k.signs.isEmpty)=false:=by simp[hs]
  have t1':k.signs.isEmpty=true:=by simp[hs]
  have t2:(k.base != [64])=true:=by simp[hbs]
  have t2':(k.base == [64])=false:=by simp[hbs]
  clear hf ht hs hbs hm hn hw1 hb1 HR HL
  unfold Fi
  go_enter func76,ntmps76
  go_wp2_with fail
  generalize hwg:World.alloc w _=wg
  obtain rfl:w1=wg:=Hw1.o.trans hwg
  clear hwg
  go_wp2_with fail
  go_ret2
  exact⟨rfl,Hb1.o⟩
 have HR:=Aa (show Zc xs k=none by unfold Zc;rw[if_neg (fun h=>hs h.1)])
 rw[HR.o,Option.any_none]
 unfold Rb
 have t1:(!k.signs.isEmpty)=true:=by simp[hs]
 have t1':k.signs.isEmpty=false:=by simp[hs]
 clear hf ht hs hm hn hw1 hb1 HR HL
 unfold Fi
 go_enter func76,ntmps76
 go_wp2_with fail
 generalize hwg:World.alloc w _=wg
 obtain rfl:w1=wg:=Hw1.o.trans hwg
 clear hwg
 go_wp2_with fail
 go_ret2
 exact⟨rfl,Hb1.o⟩
def Qop(R:Nat->Prop)(w:World)(e:Ending)(w':World):Prop:=(∃A n c ok,e=.returned (.tuple #[.slice A n c,.bool ok])/\(ok=true->R n))/\Below w.heap.size w w'
theorem Zo(a d s:List UInt8)(w:World)(ha:a.length<=4000000)(hd:d.length<=4000000)(hs:s.length<=4000000)(R:Nat->Prop)(hR:∀S k v,Bq a d=some (S,k)->Re S k s=some v->R (skN S k s)):
  Calls prog 36 #[.string ⟨a.toArray⟩,.string ⟨d.toArray⟩,.string ⟨s.toArray⟩] w (Qop R w):=by
 have HB:=Aa (Vm a d w ha hd)
 have HGo:=Aa (fun S k (h:Bq a d=some (S,k))=>Ec h)
 have HR:=Aa hR
 clear hR
 generalize Bq a d=o at *
 go_enter func36,ntmps36
 go_wp2_with fail
 refine HB.o.mono ?_
 rintro e w1 ⟨hcase,hb1⟩
 have Hb1:=Aa hb1
 cases o with
 |none=>
  obtain⟨p,a',b',c',rfl⟩:=hcase
  have Hal:=Aa (fun o=>Hb1.o.alloc Hb1.o.size o)
  clear hb1 HB HGo
  go_wp2_with fail
  go_ret2
  exact⟨⟨none,0,0,false,rfl,fun h=>absurd h (by decide)⟩,Hal.o _⟩
 |some y=>
  obtain⟨S,k⟩:=y
  obtain⟨p,xs,rfl,rfl,hsl⟩:=hcase
  obtain⟨g1,_,_,g4,_,g6⟩:=HGo.o _ k rfl
  have hsc:=hsl.isc
  have HF:=Aa (fun W (h:Below w1.heap.size w1 W)=>Qa8 p xs g1 k g4 g6 s W (hsc.below h) hs _ rfl)
  have hnm:k.name.length<=100:=by
   rcases g4.2.1 with h|⟨_,h⟩
   ·have:=(Fc.1 h.2).2.1;omega
   rw[h];simp
  have HC:=Aa (fun W (h:Below w1.heap.size w1 W)=>Qd4 p xs k W (hsc.below h) hnm (fun hb=>by have:=g6 hb;rw[Jr]at this;cases hx:Fh xs k.name with|none=>rw[hx]at this;cases this|some x=>exact⟨x,rfl⟩))
  have HR:=Aa (fun v (h:Re (Ah xs) k s=some v)=>HR.o _ _ v rfl h)
  obtain⟨pb,_,_,_,rfl,_⟩:=hsl
  generalize Re (Ah xs) k s=q at *
  generalize skN (Ah xs) k s=N at *
  have Hal:=Aa (fun o=>(show Below w1.heap.size w1 (w1.alloc o)from(Aq _ _).alloc (Al _) _))
  generalize (Zc xs k).any _=ok at *
  generalize hpr:Rb (Zc xs k)=pr at *
  obtain⟨prA,rfl⟩:∃A,pr=.pointer A:=by rw[<-hpr];cases Zc xs k<;>exact⟨_,rfl⟩
  clear hb1 HB HGo hsc g1 g4 g6 hpr hnm
  unfold Fi at *
  go_wp2_with fail
  refine(HC.o _ (Hal.o _)).mono ?_
  rintro e w2 ⟨rfl,hb2⟩
  have Hb2:=Aa ((Hal.o _).trans (hb2.mono (by simp)))
  have B2:=Aa (Hb1.o.trans (Hb2.o.mono Hb1.o.size))
  have hz2:=Hb2.o.size
  have hk:=fun i=>hb2.cell (p:=⟨w1.heap.size,i,none⟩) (by simp)
  have k0:=hk 0
  have k1:=hk 1
  have k2:=hk 2
  simp at k0 k1 k2
  clear hk hb2 HC
  cases ok with
  |false=>
   go_wp2_with fail
   go_ret2
   exact⟨⟨none,0,0,false,rfl,fun h=>absurd h (by decide)⟩,B2.o⟩
  |true=>
   go_wp2_with fail
   refine(HF.o _ Hb2.o).mono ?_
   rintro e w3 ⟨hq,hb3⟩
   have Hb3:=Aa (B2.o.trans (hb3.mono B2.o.size))
   have Hal3:=Aa (fun o=>Hb3.o.alloc Hb3.o.size o)
   clear hb3 HF k0 k1 k2
   cases q with
   |none=>
    obtain rfl:=hq
    unfold Gf
    go_wp2_with fail
    go_ret2
    exact⟨⟨none,0,0,false,rfl,fun h=>absurd h (by decide)⟩,Hal3.o _⟩
   |some v=>
    obtain⟨sl,A,c,rfl,hv⟩:=hq
    obtain⟨A7,c7,rfl⟩:=hv.form
    have HRv:=Aa (HR.o v rfl)
    unfold Gf
    clear hv HR
    go_wp2_with fail
    go_ret2
    exact⟨⟨A,N,c,true,rfl,fun _=>HRv.o⟩,Hal3.o _⟩
end
end Go.Proofs.YtmmhmlmfhpfgbaaGreatDoor
