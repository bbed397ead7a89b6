/- Texts joined. Conditions: as each theorem names them. -/
import Derived.DeepKeys4
import Derived.Test.YtmmhmlmfhpfgbaaGreatDoorB22
import Derived.Test.YtmmhmlmfhpfgbaaGreatDoorB23
set_option maxRecDepth 100000
set_option maxHeartbeats 32000000
set_option linter.unusedVariables false
set_option linter.unusedSimpArgs false
namespace Go.Proofs.YtmmhmlmfhpfgbaaGreatDoor
open Go.RowKit Go.Proofs.Tryz
section
attribute [local go_sem] Qra Qpu Qo3 Qmi ByteArray.mk_append_mk
theorem Vf{S:List Ty}(hS:∀t∈S,Ek t){k:Kd}(hk:Cw k){s:List UInt8}{v:Vl}(h:Re S k s=some v):Ge S 12 k v/\(Aw v).length<=400/\s.length<=600/\E9 S 13 k s=some (v,[]):=by
 unfold Re at h
 split at h
 ·cases h
 cases hw:Cg (E9 S 13 k) s with
 |none=>rw[hw]at h;cases h
 |some x=>
  rw[hw]at h
  simp only at h
  split at h
  ·rename_i h1 h2
   injection h with h
   subst h
   have hr:=D3 hw
   exact⟨(E7 _ _ _ _ (Mc hS 13 k s x [] hk hr) 12).2 h2.2,h2.1,by omega,hr⟩
  cases h
def bgL(o:Option (List Ty × Kd))(s:List UInt8):Option Vl:=o.bind fun x=>Re x.1 x.2 s
def Qgk(o:Option (List UInt8))(w:World)(e:Ending)(w':World):Prop:=e=.returned (.tuple #[.string ⟨(o.getD []).toArray⟩,.bool o.isSome])/\Below w.heap.size w w'
theorem Rj(a d s:List UInt8)(w:World)(ha:a.length<=4000000)(hd:d.length<=4000000)(hs:s.length<=4000000):
  Calls prog 34 #[.string ⟨a.toArray⟩,.string ⟨d.toArray⟩,.string ⟨s.toArray⟩] w (Qgk ((bgL (Bq a d) s).map Aw) w):=by
 have HB:=Aa (Vm a d w ha hd)
 have HGo:=Aa (fun S k (h:Bq a d=some (S,k))=>Ec h)
 obtain⟨q0,hq0⟩:∃q0,q0=bgL (Bq a d) s:=⟨_,rfl⟩
 rw[<-hq0]
 have HQ0:=Aa hq0
 clear hq0
 generalize Bq a d=o at *
 go_enter func34,ntmps34
 go_wp2_with fail
 refine HB.o.mono ?_
 rintro e w1 ⟨hcase,hb1⟩
 have Hb1:=Aa hb1
 cases o with
 |none=>
  obtain⟨p,a',b',c',rfl⟩:=hcase
  have Hal:=Aa (fun o=>Hb1.o.alloc Hb1.o.size o)
  clear hb1 HB HGo
  go_wp2_with fail
  go_ret2
  exact⟨by rw[HQ0.o];rfl,Hal.o _⟩
 |some y=>
  obtain⟨S,k⟩:=y
  obtain⟨p,xs,rfl,rfl,hsl⟩:=hcase
  obtain⟨g1,_,_,g4,_,g6⟩:=HGo.o _ k rfl
  have hsc:=hsl.isc
  have HF:=Aa (fun W (h:Below w1.heap.size w1 W)=>Qa8 p xs g1 k g4 g6 s W (hsc.below h) hs _ rfl)
  have HQ:=Aa (show q0=Re (Ah xs) k s from HQ0.o)
  have HS2:=Aa (fun v h=>Vf g1.1.1 g4 (s:=s) (v:=v) h)
  have HBd:=Aa (fun v (h:Ge (Ah xs) 12 k v) (hl:(Aw v).length<=400)=>Vj g1.1.1 12 k v h (by omega))
  obtain⟨pb,_,_,_,rfl,_⟩:=hsl
  generalize Re (Ah xs) k s=q at *
  generalize skN (Ah xs) k s=N at *
  have Hal:=Aa (fun o=>(show Below w1.heap.size w1 (w1.alloc o)from(Aq _ _).alloc (Al _) _))
  clear hb1 HB HGo hsc HQ0 g1 g4 g6
  unfold Fi at *
  go_wp2_with fail
  refine(HF.o _ (Hal.o _)).mono ?_
  rintro e w3 ⟨hq,hb3⟩
  have Hb3:=Aa (Hb1.o.trans (((Hal.o _).trans (hb3.mono (by simp))).mono Hb1.o.size))
  have Hal3:=Aa (fun o=>Hb3.o.alloc Hb3.o.size o)
  clear hb3 HF
  cases q with
  |none=>
   obtain rfl:=hq
   unfold Gf
   go_wp2_with fail
   go_ret2
   exact⟨by rw[HQ.o];rfl,Hal3.o _⟩
  |some v=>
   obtain⟨sl,A,c,rfl,hv⟩:=hq
   obtain⟨h1,h2,_⟩:=HS2.o v rfl
   obtain⟨A7,c7,rfl⟩:=hv.form
   have HP:=Aa (fun W (h:Below w3.heap.size w3 W)=>Pd _ (HBd.o v h1 h2) (.slice A7 v.kids.length c7) W (hv.after h))
   unfold Gf at HP ⊢
   clear hv h1 h2 HS2 HBd
   go_wp2_with fail
   refine(HP.o _ ((Aq _ _).alloc (Al _) _)).mono ?_
   rintro e w5 ⟨rfl,hb5⟩
   have Hb5:=Aa ((Hal3.o _).trans (hb5.mono (by have:=(Hal3.o (.cells #[] 0)).size;simpa using this)))
   clear hb5
   go_wp2_with fail
   go_ret2
   exact⟨by rw[HQ.o];rfl,Hb5.o⟩
theorem Bld.below{B b:Nat}{l:List UInt8}{w w':World}(h:Bld B b l w)(hb:Below w w w'):Bld B b l w':=by
 have key:∀p,Qem B b p (Cf l) w->Qem B b p (Cf l) w':=by
  rintro p ⟨hB,v,hbk,hown,hne⟩;have hlt:b<w.heap.size:=by
   rcases aH b w.heap.size with h'|h'
   ·exact h'
   simp[Array.getElem?_eq_none h']at hbk
  exact⟨hB,v,(hb.block b hlt).trans hbk,Cr hown hb,hne⟩
 rcases h with h|h
 ·exact .inl (key _ h)
 exact .inr (key _ h)
def IbC(v:Vl):Prop:=∀(P:Nat->Prop) (sl:Value) (w:World),Eb P w sl v.kids ->
 Calls prog 130 #[Gf v sl] w fun e w'=>e=.returned (.string ⟨(Dg v).toArray⟩)/\Below w w w'
theorem Qp0(m:Nat)(hm:m<=999999):IbC (.mk 110 (Az m) 0 []):=by
 intro P sl w h;obtain⟨A,c,rfl⟩:=h.form;have hd:Cx (Az m)=some m:=Bw.2 ⟨by omega,rfl⟩;have hl:=C9 6 m fe;have HL:=Aa (fun W=>(Tk (m:=999999) hd) ▸ Gc (Az m) 999999 W aI aL);have HN:=Aa (fun W=>Kn m W hm);rw[Qhn hm];unfold Gf;simp only[Vl.what,Vl.text,Vl.tag,Vl.kids,List.length_nil];clear hd h;generalize Az m=tx at *;generalize decide (m<=999999)=ok at *;go_enter func130,ntmps130;go_wp2_with fail;refine(HL.o _).mono ?_;rintro e w1 ⟨rfl,rfl⟩;go_wp2_with fail;refine(HN.o _).mono ?_;rintro e w2 ⟨rfl,hb2⟩;have Hb2:=Aa (((Aq _ _).alloc (Al _) _).trans (hb2.mono aK));clear hb2;go_wp2_with fail;exact jq
theorem Qp9(tx:List UInt8)(ht:tx.length<=999999):IbC (.mk 116 tx 0 []):=by
 intro P sl w h;obtain⟨A,c,rfl⟩:=h.form;have HN:=Aa (fun W=>Qb3 tx W ht);rw[Qdx];unfold Gf;simp only[Vl.what,Vl.text,Vl.tag,Vl.kids,List.length_nil];clear h;go_enter func130,ntmps130;go_wp2_with fail;refine(HN.o _).mono ?_;rintro e w2 ⟨rfl,hb2⟩;have Hb2:=Aa (((Aq _ _).alloc (Al _) _).trans (hb2.mono aK));clear hb2;go_wp2_with fail;exact jq
theorem Qqj(x:Bool):IbC (.mk 102 (if x then Dk else H7) 0 []):=by
 intro P sl w h;obtain⟨A,c,rfl⟩:=h.form;rw[Qho];unfold Gf;simp only[Vl.what,Vl.text,Vl.tag,Vl.kids,List.length_nil];cases x<;>
 ·simp only[Dk,H7,an,if_true,if_false];go_enter func130,ntmps130;go_wp2_with fail;exact iM
theorem Qqa(g:Nat)(hg:g<=999999):IbC (.mk 69 [] g []):=by
 intro P sl w h;obtain⟨A,c,rfl⟩:=h.form;have HN:=Aa (fun W=>Kn g W hg);rw[Yc];unfold Gf;simp only[Vl.what,Vl.text,Vl.tag,Vl.kids,List.length_nil];clear h;go_enter func130,ntmps130;go_wp2_with fail;refine(HN.o _).mono ?_;rintro e w2 ⟨rfl,hb2⟩;have Hb2:=Aa (((Aq _ _).alloc (Al _) _).trans (hb2.mono aK));clear hb2;go_wp2_with fail;exact jq
theorem Qnm:IbC (.mk 63 [] 0 []):=by
 intro P sl w h;obtain⟨A,c,rfl⟩:=h.form;rw[Ye];unfold Gf;simp only[Vl.what,Vl.text,Vl.tag,Vl.kids,List.length_nil];go_enter func130,ntmps130;go_wp2_with fail;exact iM
theorem Eb.sole{P:Nat->Prop}{w:World}{sl:Value}{x:Vl}(h:Eb P w sl [x]):∃b off c A7 c7,sl=.slice (some ⟨b,off,none⟩) 1 c/\b<w.heap.size/\w.cell? ⟨b,off,none⟩=some (.int .u8 (x.what.toNat:Int))/\w.cell? ⟨b,off+1,none⟩=x.text /\
  w.cell? ⟨b,off+2,none⟩=(x.tag:Int)/\w.cell? ⟨b,off+3,none⟩=some (.slice A7 x.kids.length c7)/\Eb P w (.slice A7 x.kids.length c7) x.kids:=by
 obtain⟨A,c,xs,rfl,hks,hlx,hr,hP,hk⟩:=h;obtain⟨⟨y,ys⟩,rfl⟩:∃a,xs=[a]:=by
  cases xs with
  |nil=>simp[Av]at hks
  |cons a l=>cases l with
   |nil=>exact⟨a,rfl⟩
   |cons b l=>simp[Av]at hks
 obtain rfl:x=y:=by simpa [Av]using hks
 have hkx:=hk (x,ys) aK;obtain⟨A7,c7,e7⟩:=hkx.form;simp only at e7;subst e7;obtain⟨b,off,rfl,hb,d0,d1,d2,d3⟩:=Eb.at_ hr (show 0<1 by decide);simp only[List.getElem_cons_zero,Nat.zero_mul,Nat.add_zero]at d0 d1 d2 d3;exact⟨b,off,c,A7,c7,rfl,hb,d0,d1,d2,d3,hkx⟩
theorem Qno(x:Vl)(ih:IbC x)(hl:(Dg x).length<=999999):IbC (.mk 63 [] 0 [x]):=by
 intro P sl w h;obtain⟨b,off,c,A7,c7,rfl,hb,d0,d1,d2,d3,hkx⟩:=h.sole;have Hkx:=Aa hkx;have Ih:=Aa (fun W h=>ih P (.slice A7 x.kids.length c7) W h);have hbn:¬(b=w.heap.size):=aI;rw[Ra];generalize Dg x=px at *;unfold Gf at Ih ⊢;clear hkx ih h;simp only[Vl.what,Vl.text,Vl.tag,Vl.kids,List.length_singleton];go_enter func130,ntmps130;go_wp2_with fail;refine(Ih.o _ (Hkx.o.after ((Aq _ _).alloc (Al _) _))).mono ?_;rintro e w1 ⟨rfl,hb1⟩;have Hb1:=Aa (((Aq w.heap.size w).alloc (Al _) _).trans (hb1.mono aK));clear hb1;go_wp2_with fail;exact ja
theorem Ql9(wh:UInt8)(hw:wh=85\/wh=61)(g:Nat)(hg:g<=999999)(x:Vl)(ih:IbC x)(hl:(Dg x).length<=999999):IbC (.mk wh [] g [x]):=by
 intro P sl w h;obtain⟨b,off,c,A7,c7,rfl,hb,d0,d1,d2,d3,hkx⟩:=h.sole;have HF:=Aa (show Dg (.mk wh [] g [x])=D1 g++Qr (Dg x)by rcases hw with rfl|rfl<;>simp[Dg,byW,Qa2]);obtain⟨w1,hw1⟩:∃w1,w1=(w.alloc (.cells #[.int .u8 (wh.toNat:Int),a6,(g:Int),.slice (some ⟨b,off,none⟩) 1 c] 68)):=⟨_,rfl⟩
 have hb1:Below w w w1:=fi;have hq:=Cz g;have hq2:=Qcs (Dg x);have HN:=Aa (fun W (_:Below w1 w1 W)=>Kn g W hg);have HS:=Aa (fun W (_:Below w1 w1 W)=>(show Calls prog 187 #[.string ⟨(Dg x).toArray⟩] W fun e w'=>e=.returned (.string ⟨(Qr (Dg x)).toArray⟩)/\Below W W w' from Qb3 (Dg x) W hl));have Ih:=Aa (fun W (hW:Below w1 w1 W)=>ih P (.slice A7 x.kids.length c7) W ((hkx.after hb1).after hW));have x2:w1.cell? (w,2)=(g:Int):=cH;have x3:w1.cell? (w,3)=some (.slice (some ⟨b,off,none⟩) 1 c):=cH;have l1:w.heap.size<w1.heap.size:=cH;have l2:b<w1.heap.size:=aI;replace d0:=(hb1.cell (p:=⟨b,off,none⟩) hb).trans d0
 replace d1:=(hb1.cell (p:=⟨b,off+1,none⟩) hb).trans d1
 replace d2:=(hb1.cell (p:=⟨b,off+2,none⟩) hb).trans d2
 replace d3:=(hb1.cell (p:=⟨b,off+3,none⟩) hb).trans d3
 have Hb1:=Aa hb1;have Hw1:=Aa hw1;have q1:¬(9223372036854775807<(D1 g).length+(Qr (Dg x)).length):=aI;rw[HF.o];generalize Qr (Dg x)=sx at *;generalize Dg x=px at *;unfold Gf at Ih ⊢;clear hkx ih h hw1 hq hq2 hb1;simp only[Vl.what,Vl.text,Vl.tag,Vl.kids,List.length_singleton];rcases hw with rfl|rfl<;>
 ·go_enter func130,ntmps130;go_wp2_with fail;generalize hwg:World.alloc w _=wg;obtain rfl:w1=wg:=Hw1.o.trans hwg;clear hwg;refine rgB ?_;iterate 2 refine sq ?_
  refine sqC HN.o ?_;iterate 4 refine sq ?_
  refine sqC Ih.o ?_;refine sqC HS.o ?_;iterate 2 refine sq ?_
  refine dnB fun W Hb=>?_;have Hb2:=Aa (Hb1.o.trans (Hb.o.mono Hb1.o.size));clear Hb;go_wp2_with fail;exact jq
theorem Qn9{p:Prop}(h:p:=by
  have m2:(m:Int)<(xs.length:Int):=aI;obtain⟨b,off,rfl,hb,d0,d1,d2,d3⟩:=Eb.at_ (Hr.o.below Hbr.o) hlt;have hkx:=(Hk.o _ (ae hlt)).after Hbr.o;have Hkx:=Aa hkx;have Hmx:=@Aa (xs[m].1∈Av xs) (aq (ae hlt));have hst:=Hacc.o;rw[List.drop_eq_getElem_cons hlt,az,List.flatten_cons,<-List.append_assoc]at hst;have hal:=congrArg List.length hst;simp only[ah]at hal;have Hst:=Aa hst;have hsz:wA.heap.size<=wr.heap.size:=Hbr.o.size;have hbn:¬(b=wr.heap.size):=aI;clear hkx hst;generalize xs[m]=x at *;obtain⟨y,ys⟩:=x;obtain⟨A7,c7,e7⟩:=Hkx.o.form;simp only at e7 d0 d1 d2 d3 Hkx Hmx Hst hal;subst e7;have Hx:=Aa (fun W h=>Ih.o y Hmx.o P (.slice A7 y.kids.length c7) W h);unfold Gf at Hx;generalize Dg y=py at *;go_wp2_with fail;refine(Hx.o _ (Hkx.o.after ((Aq _ _).alloc (Al _) _))).mono ?_;rintro e w3 ⟨rfl,hb3⟩;have Hb3:=Aa (((Aq wr.heap.size wr).alloc (Al _) _).trans (hb3.mono aK));have Ho3:=Aa (Hbl.o.below Hb3.o);have hs3:wA.heap.size<=w3.heap.size:=ad hsz Hb3.o.size;clear hb3;go_wp2_with fail;refine(Yw wA.heap.size wA.heap.size acc py w3 Ho3.o aI hs3).mono ?_;rintro e w4 ⟨rfl,hbl4,hb4⟩;have Hbl4:=Aa hbl4;have Hb4:=Aa ((Hbr.o.trans (Hb3.o.mono hsz)).trans hb4);clear hbl4 hb4;go_wp2_with fail;go_roundw
  case rel=>exact⟨m+1,_,by go_num,by omega,Hbl4.o,Hst.o,Hb4.o⟩
  case measure=>simp[intOf];omega):p:=h
theorem Qhl(wh:UInt8)(hw:wh=91\/wh=82)(ks:List Vl)(ih:∀x∈ks,IbC x)(hl:(Dg (.mk wh [] 0 ks)).length<=999999):IbC (.mk wh [] 0 ks):=by
 intro P sl w h;simp only[Vl.kids]at h;obtain⟨A,c,xs,rfl,rfl,hlx,hr,hP,hk⟩:=h;have hxl:(Av xs).length=xs.length:=eJ;have hmm:(Av xs).map Dg=xs.map fun x=>Dg x.1:=eJ;have Ih:=Aa ih;obtain⟨wA,hwA⟩:∃wA,wA=w.alloc (.cells #[.int .u8 (wh.toNat:Int),a6,.int .i64 0,.slice A xs.length c] 68):=⟨_,rfl⟩
 obtain⟨w1,hw1⟩:∃w1,w1=wA.alloc (.cells #[.pointer none,.slice none 0 0] 195):=⟨_,rfl⟩
 have hbA:Below w w wA:=by rw[hwA];exact(Aq _ _).alloc (Al _) _
 have hzA:w.heap.size+1=wA.heap.size:=by rw[hwA];simp
 have x3:w1.cell? (w,3)=some (.slice A xs.length c):=by rw[hw1,hwA];simp[go_sem]
 have HW1:=@Aa (w1=(w.alloc (.cells #[.int .u8 (wh.toNat:Int),a6,.int .i64 0,.slice A xs.length c] 68)).alloc (.cells #[.pointer none,.slice none 0 0] 195)) (by rw[hw1,hwA]);have Hbl1:=@Aa (Bld wA.heap.size wA.heap.size [] w1) (by rw[hw1];exact Qn3 wA);have Hb1:=@Aa (Below wA wA w1) fi;have hz1:w1.heap.size=wA.heap.size+1:=cH;have HbA:=Aa hbA;have Hr:=Aa (hr.below hbA);have Hk:=Aa (fun x hx=>(hk x hx).after hbA);have HN:=Aa (fun W=>Kn xs.length W aI)
 have HF:=Aa (show Dg (.mk wh [] 0 (Av xs))=(if wh=91 then D1 xs.length else[])++(xs.map fun(x:Vl × Value)=>Dg x.1).flatten++(if wh=91 then[]else[0])from by
  rcases hw with rfl|rfl<;>simp[Dg,byW,Sx,hmm,hxl])
 rw[HF.o]at hl ⊢;simp only[ah]at hl;unfold Gf;simp only[Vl.what,Vl.text,Vl.tag,Vl.kids,hxl];clear ih hr hP hk hw1 hwA hbA hmm hxl HF;rcases hw with rfl|rfl
 ·simp only[if_true]at hl ⊢;have HF:=@Aa (([]++D1 xs.length)++((xs.drop 0).map fun(x:Vl × Value)=>Dg x.1).flatten=D1 xs.length++(xs.map fun(x:Vl × Value)=>Dg x.1).flatten++[]) aK;have hlF:(D1 xs.length++(xs.map fun(x:Vl × Value)=>Dg x.1).flatten++[]).length<=999999:=eM;generalize D1 xs.length++(xs.map fun(x:Vl × Value)=>Dg x.1).flatten++[]=F at HF hlF ⊢;clear hl;go_enter func130,ntmps130;go_wp2_with fail;generalize hwg:World.alloc (World.alloc w _) _=wg;obtain rfl:w1=wg:=HW1.o.trans hwg;clear hwg;refine(HN.o _).mono ?_;rintro e w2 ⟨rfl,hb2⟩;have hs2:=hb2.size;have Hbl2:=Aa (Hbl1.o.below hb2);have Hb2:=Aa (Hb1.o.trans (hb2.mono aI));have y3:=(hb2.cell (p:=⟨w.heap.size,3,none⟩) (show w.heap.size<w1.heap.size by omega)).trans x3;clear hb2;go_wp2_with fail;refine(Yw wA.heap.size wA.heap.size [] (D1 xs.length) w2 Hbl2.o (by have:=Cz xs.length;simp;omega) aI).mono ?_;rintro e w3 ⟨rfl,hbl3,hb3⟩;have Hbl3:=Aa hbl3;have Hb3:=Aa (Hb2.o.trans hb3);replace y3:=(hb3.cell (p:=⟨w.heap.size,3,none⟩) (show w.heap.size<wA.heap.size by omega)).trans y3
  clear hbl3 hb3;go_wp2_with fail;go_loopw [43] (fun i wr=>∃(m:Nat) (acc:List UInt8),i=.int .i64 m/\m<=xs.length/\Hid (Bld wA.heap.size wA.heap.size acc wr)/\Hid (acc++((xs.drop m).map fun(x:Vl × Value)=>Dg x.1).flatten=F)/\Hid (Below wA wA wr)) (fun i _=>xs.length - (intOf i).toNat)
  case atStart=>exact⟨0,_,rfl,ag _,Hbl3.o,HF.o,Hb3.o⟩
  case round=>
   obtain⟨m,acc,rfl,hm,Hbl,Hacc,Hbr⟩:=hrel;have m1:(0:Int)<=(m:Int):=aI;by_cases hlt:m<xs.length
   ·exact Qn9
   ·have HE:=@Aa (acc=F) cW;have HS:=Aa (Xl wA.heap.size wA.heap.size acc wr Hbl.o Hbr.o.size);go_wp2_with fail;refine HS.o.mono ?_;rintro e w6 ⟨rfl,hb6⟩;have Hb6:=Aa (HbA.o.trans ((Hbr.o.trans hb6).mono aI));clear hb6;go_wp2_with fail;go_ret;exact⟨by rw[HE.o];rfl,Hb6.o⟩
 simp only[show ¬((82:UInt8)=91)by decide,if_false,List.nil_append,List.length_nil]at hl ⊢;rw[show (((82:UInt8).toNat:Nat):Int)=82 from rfl,show ((0:Nat):Int)=0 from rfl];have HF:=@Aa ([]++((xs.drop 0).map fun(x:Vl × Value)=>Dg x.1).flatten=(xs.map fun(x:Vl × Value)=>Dg x.1).flatten) aK;have hlF:(xs.map fun(x:Vl × Value)=>Dg x.1).flatten.length<=999999:=aI;generalize (xs.map fun(x:Vl × Value)=>Dg x.1).flatten=F at HF hlF ⊢;clear hl;go_enter func130,ntmps130;go_wp2_with fail;generalize hwg:World.alloc (World.alloc w _) _=wg;obtain rfl:w1=wg:=HW1.o.trans hwg;clear hwg;go_loopw [85] (fun i wr=>∃(m:Nat) (acc:List UInt8),i=.int .i64 m/\m<=xs.length/\Hid (Bld wA.heap.size wA.heap.size acc wr)/\Hid (acc++((xs.drop m).map fun(x:Vl × Value)=>Dg x.1).flatten=F)/\Hid (Below wA wA wr)) (fun i _=>xs.length - (intOf i).toNat)
 case atStart=>exact⟨0,_,rfl,ag _,Hbl1.o,HF.o,Hb1.o⟩
 case round=>
  obtain⟨m,acc,rfl,hm,Hbl,Hacc,Hbr⟩:=hrel;have m1:(0:Int)<=(m:Int):=aI;by_cases hlt:m<xs.length
  ·exact Qn9
  ·have HE:=@Aa (acc=F) cW;have HS:=Aa (Xl wA.heap.size wA.heap.size acc wr Hbl.o Hbr.o.size);have hal:acc.length<=999999:=by rw[HE.o];exact hlF
   go_wp2_with fail;refine HS.o.mono ?_;rintro e w6 ⟨rfl,hb6⟩;have Hb6:=Aa (HbA.o.trans ((Hbr.o.trans hb6).mono aI));clear hb6;go_wp2_with fail;go_ret;exact⟨by rw[HE.o];rfl,Hb6.o⟩
theorem Qnh{S:List Ty}(hT:∀t∈S,Ek t):∀(d:Nat) (k:Kd) (v:Vl),Ge S d k v->(Dg v).length<=999999->IbC v:=by
 intro d;induction d with
 |zero=>intro k v h;cases h
 |succ d ih=>
  intro k v h hl;cases h with
  |n hs hb h=>exact Qp0 _ h
  |t hs hb h=>exact Qp9 _ (by rw[Qdx]at hl;simp[Qr]at hl;omega)
  |f hs hb=>exact Qqj _
  |lst hs hl2 h=>
   refine Qhl 91 (.inl rfl) _ (fun x hx=>ih _ _ (h x hx) ?_) hl;rw[Yj,ah]at hl;have:=Qdu hx;omega
  |non hs=>exact Qnm
  |som hs h=>
   have h2:=hl;rw[Ra,List.length_cons]at h2;exact Qno _ (ih _ _ h aI) aI
  |@enm _ _ t f hs hb ht h9 hf=>exact Qqa _ eu
  |@uni _ _ t f x hs hb ht h5 hf h=>
   rw[Yp]at hl;simp only[Qr,ah]at hl;exact Ql9 85 (.inl rfl) _ eu _ (ih _ _ h aI) aI
  |@rcd _ _ t fs hs hb ht h2 hf h hn hp=>
   refine Qhl 82 (.inr rfl) _ (fun x hx=>?_) hl;obtain⟨p,hq,rfl⟩:=ay.1 hx;have h3:=Qcg hq;rw[Q6,ah]at hl;exact Ql9 61 (.inr rfl) _ (by have:=((hT t (Bj ht).1).2.2.1.1 p.1 (Ay (hf p hq)).2).2.1;omega) _ (ih _ _ (h p hq) aI) aI
def Qhd(p:Gm):List UInt8:=keyBytes [.string p.1,.string p.2]
def Qak(m:List Gm)(l:Lit):Value:=.bool (m.any fun p=>l.sameKey (.string (Qhd p)))
theorem Qd0(m:List Gm)(p:Gm)(l:Lit):(if l.sameKey (.string (Qhd p))=true then .bool true else Qak m l)=Qak (m++[p]) l:=by
 unfold Qak;rw[List.any_append];cases h:l.sameKey (.string (Qhd p))<;>simp[h]
def Pz(w0:World)(p1 p2:Value)(w:World)(m:List Gm):Prop:=
 Below w0 w0 w/\w0.heap.size+2<=w.heap.size/\w.cell? (w0,1,0)=some p1/\w.cell? (w0,1,1)=some p2/\w.cell? (w0,1,2)=some (.map (some w0.heap.size)) /\
  D5 prog 271 (.bool false) w w0.heap.size m.length (Qak m)
theorem Pz.below{w0 w w':World}{p1 p2:Value}{m:List Gm}(h:Pz w0 p1 p2 w m)(hb:Below w w w'):Pz w0 p1 p2 w' m:=by
 obtain⟨h1,h2,h3,h4,h5,h6⟩:=h
 exact⟨h1.trans (hb.mono aI),ad h2 hb.size,(hb.cell (p:=⟨w0.heap.size+1,0,none⟩) (show w0.heap.size+1<_ by omega)).trans h3,(hb.cell (p:=⟨w0.heap.size+1,1,none⟩) (show w0.heap.size+1<_ by omega)).trans h4,
  (hb.cell (p:=⟨w0.heap.size+1,2,none⟩) (show w0.heap.size+1<_ by omega)).trans h5,h6.below hb⟩
theorem Pz.push{w0 w w5:World}{p1 p2:Value}{m:List Gm}{p:Gm}(h:Pz w0 p1 p2 w m)(hg:w.grownBy w5 (some w0.heap.size))(hf:D5 prog 271 (.bool false) w5 w0.heap.size (m.length+1) (fun l=>if l.sameKey (.string (Qhd p))=true then .bool true else Qak m l)):Pz w0 p1 p2 w5 (m++[p]):=by
 obtain⟨h1,h2,h3,h4,h5,h6⟩:=h;have hc:∀j,w5.cell? ⟨w0.heap.size+1,j,none⟩=w.cell? ⟨w0.heap.size+1,j,none⟩:=fun j=>hg.cell_far ⟨w0.heap.size+1,j,none⟩ (show w0.heap.size+1<_ by omega) aK;refine⟨h1.grown hg aI (fun k hk=>by injection hk with hk;omega),ad h2 hg.size,(hc 0).trans h3,(hc 1).trans h4,(hc 2).trans h5,?_⟩;rw[ah];exact hf.of_eq (fun l hl=>Qd0 m p l)
theorem Rx.mono{lo lo':Nat}{w:World}{p:Value}{xs:List PT}(h:Rx lo w p xs)(hle:lo'<=lo):Rx lo' w p xs:=by
 obtain⟨b,A,c,mb,q0,q1,q2,q3,q4,q5,q6,q7,l1,l2,l3,l4⟩:=h;exact⟨b,A,c,mb,q0,q1,q2,q3,q4,q5,q6,q7,by omega,by omega,fun g o h1 h2=>by have:=l3 g o h1 h2;omega,fun x hx=>⟨by have:=(l4 x hx).1;omega,fun k h1 h2=>by have:=(l4 x hx).2 k h1 h2;omega⟩⟩
theorem Pa.form{o:Option (List Ty × Kd)}{w w':World}{e:Ending}(h:Pa o w e w'):
  ∃(q:Option Addr) (a b c:ByteArray),e=.returned (.tuple #[.pointer q,.agg #[.string a,.string b,.string c],.bool o.isSome])/\Below w w w' /\
   ∀S k,o=some (S,k)->∃xs,Ah xs=S/\a=⟨k.signs.toArray⟩/\b=⟨k.base.toArray⟩/\c=⟨k.name.toArray⟩/\Rx w.heap.size w' (.pointer q) xs:=by
 obtain⟨h1,hb⟩:=h;cases o with
 |none=>
  obtain⟨p,a,b,c,e⟩:=h1;exact⟨p,a,b,c,e,hb,fun S k h=>by cases h⟩
 |some x=>
  obtain⟨S,k⟩:=x;obtain⟨p,xs,hx,e,hs⟩:=h1;obtain⟨pb,_,_,_,rfl,_⟩:=hs.isc;exact⟨_,_,_,_,e,hb,fun S' k' h=>by cases h;exact⟨xs,hx,rfl,rfl,rfl,hs⟩⟩
section
variable {P:Program}
end
theorem Qi4{B:Nat}{a b:World}(h:Below B a b)(p:Addr)(u:Value):Below B (a.setCell p u) (b.setCell p u):=
 ⟨h.os,h.tape,h.output,by simp[World.setCell];exact h.size,fun k hk=>by
  simp only[World.setCell,Array.getElem?_modify];rw[h.block k hk]⟩
theorem Yr{B:Nat}(k:Nat):∀(vs:List Value) (o:Nat) {a b:World},Below B a b->Below B (a.setCells k o vs) (b.setCells k o vs)
 |[],_,_,_,h=>h
 |v::r,o,a,b,h=>Yr k r (o+1) (Qi4 h ⟨k,o,none⟩ v)
structure Qd5(w:World)(p1 p2:Value)(xs ys:List PT)(N B13 B16:Nat)(ka kb:List Value)(w0 W:World)(mm:List Gm):Prop where
 sz:w0.heap.size=N
 i1:Rx (w.heap.size+2) w0 p1 xs
 i2:Rx (w.heap.size+2) w0 p2 ys
 be:Below w w w0
 t9':w0.there w 0 3
 t10':w0.there (w.heap.size+1) 0 3
 x13':w0.rangeAt B13 0 ka
 x16':w0.rangeAt B16 0 kb
 l13:B13<N
 l16:B16<N
 lw:w.heap.size+2<=N
 st:Pz w0 p1 p2 W mm
theorem Qd5.t9{w:World}{p1 p2:Value}{xs ys:List PT}{N B13 B16:Nat}{ka kb:List Value}{w0 W:World}{mm:List Gm}(h:Qd5 w p1 p2 xs ys N B13 B16 ka kb w0 W mm):W.there w 0 3:=An h.t9' (by have:=h.lw;have:=h.sz;omega) h.st.1
theorem Qd5.drew{w:World}{p1 p2:Value}{xs ys:List PT}{N B13 B16:Nat}{ka kb:List Value}{w0 W:World}{mm:List Gm}(h:Qd5 w p1 p2 xs ys N B13 B16 ka kb w0 W mm):Qd5 w p1 p2 xs ys N B13 B16 ka kb w0 W.drew mm:=
 {h with st:=h.st.below (Aq _ _).drew}
theorem Qd5.store{w:World}{p1 p2:Value}{xs ys:List PT}{N B13 B16:Nat}{ka kb:List Value}{w0 W:World}{mm:List Gm}(h:Qd5 w p1 p2 xs ys N B13 B16 ka kb w0 W mm){b:Nat}(cs:List Value)
  (h1:w.heap.size<=b) (h2:b<w.heap.size+2) (h3:B13≠b) (h4:B16≠b):Qd5 w p1 p2 xs ys N B13 B16 ka kb (w0.setCells b 0 cs) (W.setCells b 0 cs) mm:=by
 have hlw:=h.lw;have hsz:=h.sz
 refine⟨by rw[Ch];exact h.sz,h.i1.far (Do _ _ _ w0) h2,h.i2.far (Do _ _ _ w0) h2,Ak _ h1 _ _ _ h.be,ai h.t9' _ _ _,ai h.t10' _ _ _,
  ak h.x13' _ _ _ (.inl h3),ak h.x16' _ _ _ (.inl h4),h.l13,h.l16,h.lw,?_⟩
 obtain⟨s1,s2,s3,s4,s5,s6⟩:=h.st;have hg:=Do b cs 0 W;have hc:∀j,(W.setCells b 0 cs).cell? ⟨w0.heap.size+1,j,none⟩=W.cell? ⟨w0.heap.size+1,j,none⟩:=fun j=>hg.cell_far ⟨w0.heap.size+1,j,none⟩ (show w0.heap.size+1<_ by omega) aO;unfold Pz;rw[Ch,Ch];exact⟨Yr b cs 0 s1,s2,(hc 0).trans s3,(hc 1).trans s4,(hc 2).trans s5,s6.kept hg aO⟩
def Qkv(o1 o2:Option (List Ty × Kd))(w:World)(e:Ending)(w':World):Prop:=
 ∃(q:Option Addr) (a1 b1 c1 a2 b2 c2:ByteArray),e=.returned (.tuple #[.pointer q,.agg #[.string a1,.string b1,.string c1],.agg #[.string a2,.string b2,.string c2],.bool (Yg o1 o2)])/\Below w w w' /\
  (Yg o1 o2=true->∃(S T:List Ty) (a b:Kd) (xs ys:List PT) (eb:Nat) (p1 p2:Option Addr),o1=some (S,a)/\o2=some (T,b)/\Ah xs=S/\Ah ys=T/\q=some ⟨eb,0,none⟩/\a1=⟨a.signs.toArray⟩/\b1=⟨a.base.toArray⟩/\c1=⟨a.name.toArray⟩/\a2=⟨b.signs.toArray⟩/\b2=⟨b.base.toArray⟩/\c2=⟨b.name.toArray⟩ /\
   w.heap.size<=eb/\eb<w'.heap.size/\w'.cell? (eb,0)=some (.pointer p1)/\w'.cell? (eb,1)=some (.pointer p2)/\Rx w.heap.size w' (.pointer p1) xs/\Rx w.heap.size w' (.pointer p2) ys)
theorem Qkv.kinds{o1 o2:Option (List Ty × Kd)}{w w':World}{e:Ending}(h:Qkv o1 o2 w e w'):∃(q:Option Addr) (a1 b1 c1 a2 b2 c2:ByteArray),e=.returned (.tuple #[.pointer q,.agg #[.string a1,.string b1,.string c1],.agg #[.string a2,.string b2,.string c2],.bool (Yg o1 o2)])/\Below w w w':=by
 obtain⟨q,a1,b1,c1,a2,b2,c2,h1,h2,_⟩:=h;exact⟨q,a1,b1,c1,a2,b2,c2,h1,h2⟩
end
end Go.Proofs.YtmmhmlmfhpfgbaaGreatDoor
