/- Texts joined. Conditions: as each theorem names them. -/
import Derived.Test.YtpjijpcemejlnaaGreatDoorN20
set_option maxRecDepth 100000
set_option maxHeartbeats 32000000
set_option linter.unusedVariables false
set_option linter.unusedSimpArgs false
namespace Go.Proofs.YtpjijpcemejlnaaGreatDoor
open Go.RowKit Go.Proofs.Tryz
section
attribute [local go_sem] Qhn Qg5 Qgq Qe7 ByteArray.mk_append_mk
def Gl(B:Nat)(w:World)(v:Value):Option Fd->Prop
 |none=>v=.pointer none
 |some f=>∃b o,v=.pointer (some ⟨b,o,none⟩)/\b<B/\w.rangeAt b o (Qm f)
theorem Gl.below{B:Nat}{w w':World}{v:Value}{o:Option Fd}(h:Gl B w v o)(hb:Below B w w'):Gl B w' v o:=by
 cases o with
 |none=>exact h
 |some f=>obtain⟨b,o,e,h1,h2⟩:=h;exact⟨b,o,e,h1,Au h2 h1 hb⟩
def Qf2(B:Nat)(o:Option Fd)(w:World)(e:Ending)(w':World):Prop:=∃v,e=.returned v/\Gl B w v o/\w=w'
theorem Rq(w0:World)(x:PT)(hx:Pw w0 x)(n:Nat)(w:World)(hb:Below w0 w0 w)(hn:n<=1000000000):
  Calls prog 62 #[x.blk,.int .i64 n] w (Qf2 w0.heap.size (Bc x.ty.fields n) w):=by
 obtain⟨z0,_,_,_,z3,_,A,c,hfv,hl,hr⟩:=hx;rw[hfv]at z3;have c2:w.cell? (x.blk,2)=some (.slice A x.ty.fields.length c):=(hb.cell (p:=⟨x.blk,2,none⟩) z0).trans z3;have Hr:=Aa hr;have Hb:=Aa hb;clear hr hfv z3 hb;go_enter func62,ntmps62;go_wp2_with fail;go_loop [11] (fun i=>∃k:Nat,i=.int .i64 k/\k<=x.ty.fields.length/\Hid (∀f∈x.ty.fields.take k,decide (f.tag=n)=false)) (fun i=>x.ty.fields.length - (intOf i).toNat)
 case atStart=>exact⟨0,rfl,ag _,by intro f hf;simp at hf⟩
 case round=>
  obtain⟨k,rfl,hk,hin⟩:=hrel;by_cases hlt:k<x.ty.fields.length
  ·obtain⟨b,off,rfl,hbl,hrg⟩:=Qi.range Hr.o hlt;have hrw:=Au hrg hbl Hb.o;have Hts:=Aa (Bn x.ty.fields k hlt);have Hft:=Aa (P5 (p:=fun f=>decide (f.tag=n)) hlt hin.o);generalize x.ty.fields[k]=f at hrg hrw Hts Hft;have c0:w.cell? ⟨b,off+k*6,none⟩=(f.tag:Int):=by simpa using Ac hrw 0 rfl
   have Hrw:=Aa hrw;clear hrw hrg;have k1:(0:Int)<=(k:Int):=aG;have k2:(k:Int)<(x.ty.fields.length:Int):=aG;by_cases he:f.tag=n
   ·have t1:((f.tag:Int) == (n:Int))=true:=by simp[he]
    have Hfin:=Aa (show Bc x.ty.fields n=some f by unfold Bc;rw[Hft.o,if_pos cD]);clear he;go_wp2_with fail;go_ret;exact⟨_,rfl,by rw[Hfin.o];exact⟨b,off+k*6,rfl,hbl,Hrw.o⟩,rfl⟩
   have t1:((f.tag:Int) == (n:Int))=false:=bS
   have Hin:=Aa (show ∀g∈x.ty.fields.take (k+1),decide (g.tag=n)=false by
    intro g hg;rw[Hts.o]at hg;rcases af.1 hg with hg|hg
    ·exact hin.o g hg
    simp at hg;subst hg;simpa using he)
   clear he;go_wp2_with fail;go_round
   case rel=>exact⟨k+1,by go_num,by omega,Hin.o⟩
   case measure=>simp[intOf];omega
  ·have Hfin:=@Aa (Bc x.ty.fields n=none) (Kc (fun f hf=>hin.o f cY));go_wp2_with fail;go_ret;exact⟨_,rfl,by rw[Hfin.o];rfl,rfl⟩
theorem Gj(b nm:ByteArray)(w:World):Calls prog 98 #[.agg #[a8,.string b,.string nm]] w fun e w'=>e=.returned (.int .u8 0)/\Below w w w':=by
 go_enter func98,ntmps98;go_wp2_with fail;go_ret;exact⟨rfl,(At _ _).alloc (Ao _) _⟩
theorem Jq(c:UInt8)(t:List UInt8)(hl:t.length<=1000)(b nm:ByteArray)(w:World):Calls prog 98 #[.agg #[.string ⟨(c::t).toArray⟩,.string b,.string nm]] w fun e w'=>e=.returned (.int .u8 (c.toNat:Int))/\Below w w w':=by
 go_enter func98,ntmps98;go_wp2_with fail;go_ret;exact⟨rfl,(At _ _).alloc (Ao _) _⟩
theorem Vp(p:Value)(c:UInt8)(t:List UInt8)(b nm:ByteArray)(w:World)(hc:c=91\/c=63)(hl:t.length<=1000):
  Calls prog 155 #[p,.agg #[.string ⟨(c::t).toArray⟩,.string b,.string nm]] w (Fz (Qbm c) w):=by
 rcases hc with rfl|rfl
 ·go_enter func155,ntmps155;go_wp2_with fail;refine(Jq 91 t hl _ _ _).mono ?_;rintro e w1 ⟨rfl,hb1⟩;go_wp2_with fail;exact ii
 go_enter func155,ntmps155;go_wp2_with fail;refine(Jq 63 t hl _ _ _).mono ?_;rintro e w1 ⟨rfl,hb1⟩;go_wp2_with fail;exact ii
theorem Sm(p:Value)(b:List UInt8)(nm:ByteArray)(w:World)(hb:b=[110]\/b=[116]\/b=[102]):
  Calls prog 155 #[p,.agg #[a8,b,.string nm]] w (Fz (Rn b) w):=by
 rcases hb with rfl|rfl|rfl<;>
 ·go_enter func155,ntmps155;go_wp2_with fail;refine(Gj _ _ _).mono ?_;rintro e w1 ⟨rfl,hb1⟩;obtain⟨hc1,_,_⟩:=Bs hb1;have y1:=hc1 w 1 aK;simp at y1;clear hc1;have Hb1:=Aa (((At w.heap.size w).alloc (Ao _) _).trans (hb1.mono aK));clear hb1;go_wp2_with fail;go_ret;exact⟨rfl,Hb1.o⟩
def kcs(k:Kd):List Value:=[k.signs,k.base,k.name]
def Gf(v:Vl)(sl:Value):List Value:=[.int .u8 (v.what.toNat:Int),v.text,(v.tag:Int),sl]
def Jf(w:World)(b:Nat)(p:Value)(k:Kd)(t:List UInt8)(bad:Bool)(W:World):Prop:=
 Cw w b p t bad W/\W.rangeAt w 0 (kcs k)/\W.there (w.heap.size+1) 0 4/\w.heap.size+1<W.heap.size
theorem Jf.init{w:World}{b:Nat}{p:Value}{k:Kd}{t:List UInt8}{bad:Bool}(h:E7 w b p t bad){T U:TypeId}:Jf w b p k t bad ((w.alloc (.cells #[k.signs,k.base,k.name] T)).alloc (.cells #[.int .u8 0,a8,.int .i64 0,.slice none 0 0] U)):=by
 have h1:Below w w ((w.alloc (.cells #[k.signs,k.base,k.name] T)).alloc (.cells #[.int .u8 0,a8,.int .i64 0,.slice none 0 0] U)):=((At _ _).alloc (Ao _) _).alloc aK _;refine⟨⟨h.grow h1,Cm h1 _⟩,?_,?_,by simp⟩
 ·have:=Au (Cg w (kcs k) T) (show w.heap.size<(w.alloc (.cells (kcs k).toArray T)).heap.size by simp) ((At _ _).alloc (Ao _) (.cells #[.int .u8 0,a8,.int .i64 0,.slice none 0 0] U));exact this
 have:=Cq (w.alloc (.cells #[k.signs,k.base,k.name] T)) [.int .u8 0,a8,.int .i64 0,.slice none 0 0] U;simpa using this
theorem Jf.post{w W W':World}{b:Nat}{p:Value}{k:Kd}{t:List UInt8}{bad:Bool}(h:Jf w b p k t bad W)(hb:Below W W W'):Jf w b p k t bad W':=
 ⟨h.1.post hb,Au h.2.1 (by have:=h.2.2.2;omega) hb,Ar h.2.2.1 h.2.2.2 hb,ac h.2.2.2 hb.size⟩
theorem Jf.step{w W W':World}{b:Nat}{p:Value}{k:Kd}{t t':List UInt8}{bad bad':Bool}(h:Jf w b p k t bad W)(hb:b<w.heap.size)(hs:Cw W b p t' bad' W'):Jf w b p k t' bad' W':=
 ⟨h.1.trans hs,Fh h.2.1 hs.2 aN,Fv h.2.2.1 hs.2 h.2.2.2 aN,ac h.2.2.2 hs.2.size⟩
theorem Jf.fin{w W w9:World}{b N:Nat}{p:Value}{k:Kd}{t t':List UInt8}{bad':Bool}{v:Vl}{sl:Value}{r:Option (Vl × List UInt8)}(F:Jf w b p k t' bad' W)(hb:b<w.heap.size)(HS:w9=W.setCells (w.heap.size+1) 0 (Gf v sl))
  (hv:En (fun c=>w.heap.size+2<=c) W sl v.kids) (hr:bad'=r.isNone) (hx:∀x,r=some x->v=x.1/\t'=x.2) (hB:Bd v) (hl:t'.length<=t.length) (hn:(Bh v).length+t'.length<=t.length+8*N):
  Je w b p t N r (.returned (.agg (Gf v sl).toArray)) w9/\w9.rangeAt (w.heap.size+1) 0 (Gf v sl):=by
 subst HS hr;exact⟨⟨v,sl,t',rfl,(hv.set (B:=w.heap.size+1) aG _).mono fun c hc _=>by omega,F.1.set aG aG _,hx,hB,hl,hn⟩,aa _ _ _ _ F.2.2.1⟩
theorem Rz(b N:Nat)(p:Value)(t:List UInt8)(k:Kd)(w:World)(h:E7 w b p t true):
  Calls prog 102 #[b,H4 k] w (Je w b p t N none):=by
 have HS:=Aa h;obtain⟨h0,h1,h2,h3,h4⟩:=h;have hbn:¬(b=w.heap.size):=aG;have hbn2:¬(b=w.heap.size+1):=aG;unfold H4;clear h1 h2 h3;go_enter func102,ntmps102;go_wp2_with fail;have F:=(Jf.init (k:=k) HS.o (T:=62) (U:=47)).1;refine aE (v:=.agg (Gf Ev (.slice none 0 0)).toArray) ?_ rfl ⟨Ev,.slice none 0 0,t,rfl,En.nil _ _,F,aK,Ec aJ aJ,Ao _,by simp[Ev,Bh,D7,H9]⟩;refine Ax results102 _ _ (w.heap.size+1) _ _ rfl ?_ underlying47 rfl aM;have:=Cg (w.alloc (.cells #[k.signs,k.base,k.name] 62)) [.int .u8 0,a8,.int .i64 0,.slice none 0 0] 47;simpa [Gf,Ev,Vl.what,Vl.text,Vl.tag]using this
theorem Zq(t:List UInt8):Pc t=if Fg 999999 t then some (Ga t,t.dropWhile Az)else none:=by
 unfold Pc Fg Ga;cases h:Cc (t.takeWhile Az)with
 |none=>simp
 |some n=>simp[(Bt.1 h).1]
theorem Vu(t:List UInt8):Ga t<=999999:=by
 unfold Ga;cases h:Cc (t.takeWhile Az)with
 |none=>simp
 |some n=>exact(Bt.1 h).1
theorem Vr(p:UInt8->Bool)(t:List UInt8):(t.dropWhile p).length<=t.length:=(Pu p t).2
theorem Qei(b N:Nat)(p:Value)(t:List UInt8)(k:Kd)(w:World)(h:E7 w b p t false)(hl:t.length<=900)(hs:k.signs=[])(hb:k.base=[110])(q:Option (Vl × List UInt8))(hq:q=match Pc t with|some (n,r)=>some (.mk 110 (Aw n) 0 [],r)|none=>none):
  Calls prog 102 #[b,H4 k] w (Je w b p t (N+1) q):=by
 have HQ:=Aa hq;have HS:=Aa h;have hb0:=h.1;have hbn:¬(b=w.heap.size):=aG;have hbn2:¬(b=w.heap.size+1):=aG;have c2:=h.2.2.2.2;clear hq;obtain⟨sg,bs,nm⟩:=k;simp only at hs hb;have HN:=Aa (Zq t);have hnn:=Vu t;have Hn:=Aa (fun W (h:E7 W b p t false)=>M2 b 999999 p t false W h aG aJ);have Hd:=Aa (fun W=>M9 (Ga t) (Ga t) W (Ao _) aG);have hdl:=Dh 5 (Ga t) cw;have hdr:=Vr Az t;generalize Ga t=n at *;generalize Fg 999999 t=ok at *;generalize t.dropWhile Az=r at *;subst hs hb;unfold H4;simp only;clear h;go_enter func102,ntmps102;go_wp2_with fail;refine(Gj _ _ _).mono ?_;rintro e w2 ⟨rfl,hb2⟩;have F2:=Aa ((Jf.init (k:=⟨[],[110],nm⟩) HS.o).post hb2);clear hb2 c2;have k0:=Ac F2.o.2.1 0 rfl;have k1:=Ac F2.o.2.1 1 rfl;have k2:=Ac F2.o.2.1 2 rfl;simp only[am]at k0 k1 k2;have s2:=F2.o.1.1.2.2.2.2;go_wp2_with fail;refine(Hn.o _ F2.o.1.1).mono ?_;rintro e w3 ⟨rfl,hs3⟩;have F3:=Aa (F2.o.step hb0 hs3);clear hs3 k0 k1 k2 s2;go_wp2_with fail;refine(Hd.o _).mono ?_;rintro e w4 ⟨rfl,hb4⟩;have F4:=Aa (F3.o.post hb4);clear hb4;go_wp2_with ((with_reducible refine Ad (op:=⟨none,.store 47 _ _,_,_,_,none⟩) rfl 47 _ _ rfl (w.heap.size+1) 0 [.int .u8 110,.string ⟨(Aw n).toArray⟩,.int .i64 0,.slice none 0 0] ?_ ?_ ?_ ?_ ?_ ?_);rfl;rfl;(exact F4.o.2.2.1);kernel_rfl;(simp[Value.oneCell']);intro w9 HS9)
 have HQ:=HQ.o;rw[HN.o]at HQ;have Z:=Jf.fin (t:=t) (N:=N+1) (v:=.mk 110 (Aw n) 0 []) (sl:=.slice none 0 0) (r:=q) F4.o hb0 HS9.o (En.nil _ _) (by rw[HQ];cases ok<;>rfl)
  (by rw[HQ];cases ok<;>simp) (Ec aJ aG) hdr ee
 exact aE (v:=.agg (Gf (.mk 110 (Aw n) 0 []) (.slice none 0 0)).toArray) (Ax results102 _ _ (w.heap.size+1) _ _ rfl Z.2 underlying47 rfl aM) rfl Z.1
theorem Qek(b N:Nat)(p:Value)(t:List UInt8)(k:Kd)(w:World)(h:E7 w b p t false)(hl:t.length<=900)(hs:k.signs=[])(hb:k.base=[116])(q:Option (Vl × List UInt8))(hq:q=match Ki t with|some (x,r)=>some (.mk 116 x 0 [],r)|none=>none):
  Calls prog 102 #[b,H4 k] w (Je w b p t (N+1) q):=by
 have HQ:=Aa hq;have HS:=Aa h;have hb0:=h.1;have hbn:¬(b=w.heap.size):=aG;have hbn2:¬(b=w.heap.size+1):=aG;have c2:=h.2.2.2.2;clear hq;obtain⟨sg,bs,nm⟩:=k;simp only at hs hb;have Hn:=Aa (fun W (h:E7 W b p t false)=>Qai b p t false W h aG);subst hs hb;unfold H4;simp only;clear h;go_enter func102,ntmps102;go_wp2_with fail;refine(Gj _ _ _).mono ?_;rintro e w2 ⟨rfl,hb2⟩;have F2:=Aa ((Jf.init (k:=⟨[],[116],nm⟩) HS.o).post hb2);clear hb2 c2;have k0:=Ac F2.o.2.1 0 rfl;have k1:=Ac F2.o.2.1 1 rfl;have k2:=Ac F2.o.2.1 2 rfl;simp only[am]at k0 k1 k2;have s2:=F2.o.1.1.2.2.2.2;go_wp2_with fail;refine(Hn.o _ F2.o.1.1).mono ?_;rintro e w3 ⟨x,r,bad,rfl,hs3,hx,hxl⟩;have F3:=Aa (F2.o.step hb0 hs3);have Hx:=Aa hx;clear hs3 hx k0 k1 k2 s2;go_wp2_with ((with_reducible refine Ad (op:=⟨none,.store 47 _ _,_,_,_,none⟩) rfl 47 _ _ rfl (w.heap.size+1) 0 [.int .u8 116,x,.int .i64 0,.slice none 0 0] ?_ ?_ ?_ ?_ ?_ ?_);rfl;rfl;(exact F3.o.2.2.1);kernel_rfl;(simp[Value.oneCell']);intro w9 HS9)
 have HQ:=HQ.o;rw[show Ki t=if bad then none else some (x,r)from Hx.o]at HQ;have Z:=Jf.fin (t:=t) (N:=N+1) (v:=.mk 116 x 0 []) (sl:=.slice none 0 0) (r:=q) F3.o hb0 HS9.o (En.nil _ _) (by rw[HQ];cases bad<;>rfl)
  (by rw[HQ];cases bad<;>simp) (Ec aJ aG) aG ee
 exact aE (v:=.agg (Gf (.mk 116 x 0 []) (.slice none 0 0)).toArray) (Ax results102 _ _ (w.heap.size+1) _ _ rfl Z.2 underlying47 rfl aM) rfl Z.1
theorem Qd6(b N:Nat)(p:Value)(t:List UInt8)(k:Kd)(w:World)(h:E7 w b p t false)(hl:t.length<=900)(hs:k.signs=[])(hb:k.base=[102])(q:Option (Vl × List UInt8))(hq:q=match Mp t with|some (x,r)=>some (.mk 102 (if x then D4 else Kw) 0 [],r)|none=>none):
  Calls prog 102 #[b,H4 k] w (Je w b p t (N+1) q):=by
 have HQ:=Aa hq;have HS:=Aa h;have hb0:=h.1;have hbn:¬(b=w.heap.size):=aG;have hbn2:¬(b=w.heap.size+1):=aG;have c2:=h.2.2.2.2;clear hq;obtain⟨sg,bs,nm⟩:=k;simp only at hs hb;have HFL:=@Aa (Mp t=(match Av D4 t false with|some r=>some (true,r)|none=>match Av Kw t false with|some r=>some (false,r)|none=>none)) rfl;have Hy:=Aa (fun W (h:E7 W b p t false)=>Gs b p t D4 false W h aG);have Hw:=Aa (fun W (h:E7 W b p t false)=>Cv b p t Kw false W h aG);have Hl1:=Aa (fun r (h:Av D4 t false=some r)=>(Ey (p:=D4)).1 h);have Hl2:=Aa (fun r (h:Av Kw t false=some r)=>(Ey (p:=Kw)).1 h);subst hs hb;unfold H4;simp only;clear h;rcases hy:Av D4 t false with _|r
 ·rw[hy]at Hy HFL;unfold D4 at Hy;unfold Kw at Hw
  have HL:=Aa (show ((Av Kw t false).getD t).length<=t.length from by
   cases h:Av Kw t false with
   |none=>exact Ao _
   |some r=>rw[Hl2.o r h];simp)
  clear hy;go_enter func102,ntmps102;go_wp2_with fail;refine(Gj _ _ _).mono ?_;rintro e w2 ⟨rfl,hb2⟩;have F2:=Aa ((Jf.init (k:=⟨[],[102],nm⟩) HS.o).post hb2);clear hb2 c2;have k0:=Ac F2.o.2.1 0 rfl;have k1:=Ac F2.o.2.1 1 rfl;have k2:=Ac F2.o.2.1 2 rfl;simp only[am]at k0 k1 k2;have s2:=F2.o.1.1.2.2.2.2;go_wp2_with fail;refine(Hy.o _ F2.o.1.1).mono ?_;rintro e w3 ⟨rfl,hs3⟩;simp only[Option.getD_none]at hs3;have F3:=Aa (F2.o.step hb0 hs3);clear hs3 k0 k1 k2 s2;go_wp2_with fail;refine(Hw.o _ F3.o.1.1).mono ?_;rintro e w4 ⟨rfl,hs4⟩;have F4:=Aa (F3.o.step hb0 hs4);clear hs4;go_wp2_with ((with_reducible refine Ad (op:=⟨none,.store 47 _ _,_,_,_,none⟩) rfl 47 _ _ rfl (w.heap.size+1) 0 [.int .u8 102,.string ⟨#[110,111]⟩,.int .i64 0,.slice none 0 0] ?_ ?_ ?_ ?_ ?_ ?_);rfl;rfl;(exact F4.o.2.2.1);kernel_rfl;(simp[Value.oneCell']);intro w9 HS9)
  have HQ:=HQ.o;rw[HFL.o]at HQ;have hl2:=HL.o;have Z:=Jf.fin (t:=t) (N:=N+1) (v:=.mk 102 Kw 0 []) (sl:=.slice none 0 0) (r:=q) F4.o hb0 HS9.o (En.nil _ _) (by rw[HQ];unfold Kw;cases Av [110,111] t false<;>rfl)
   (by rw[HQ];unfold Kw;cases Av [110,111] t false<;>simp) (Ec aJ aJ) hl2 (by unfold Kw at hl2 ⊢;simp[Bh,D7,H9];omega)
  exact aE (v:=.agg (Gf (.mk 102 Kw 0 []) (.slice none 0 0)).toArray) (Ax results102 _ _ (w.heap.size+1) _ _ rfl Z.2 underlying47 rfl aM) rfl Z.1
 rw[hy]at Hy HFL;unfold D4 at Hy;have hlr:=Hl1.o r hy;have hlr2:t.length=3+r.length:=by rw[hlr];simp[D4];omega
 clear hy hlr;go_enter func102,ntmps102;go_wp2_with fail;refine(Gj _ _ _).mono ?_;rintro e w2 ⟨rfl,hb2⟩;have F2:=Aa ((Jf.init (k:=⟨[],[102],nm⟩) HS.o).post hb2);clear hb2 c2;have k0:=Ac F2.o.2.1 0 rfl;have k1:=Ac F2.o.2.1 1 rfl;have k2:=Ac F2.o.2.1 2 rfl;simp only[am]at k0 k1 k2;have s2:=F2.o.1.1.2.2.2.2;go_wp2_with fail;refine(Hy.o _ F2.o.1.1).mono ?_;rintro e w3 ⟨rfl,hs3⟩;simp only[Option.getD_some]at hs3;have F3:=Aa (F2.o.step hb0 hs3);clear hs3 k0 k1 k2 s2;go_wp2_with ((with_reducible refine Ad (op:=⟨none,.store 47 _ _,_,_,_,none⟩) rfl 47 _ _ rfl (w.heap.size+1) 0 [.int .u8 102,.string ⟨#[121,101,115]⟩,.int .i64 0,.slice none 0 0] ?_ ?_ ?_ ?_ ?_ ?_);rfl;rfl;(exact F3.o.2.2.1);kernel_rfl;(simp[Value.oneCell']);intro w9 HS9)
 have HQ:=HQ.o;rw[HFL.o]at HQ;have Z:=Jf.fin (t:=t) (N:=N+1) (v:=.mk 102 D4 0 []) (sl:=.slice none 0 0) (r:=q) F3.o hb0 HS9.o (En.nil _ _) (by rw[HQ];rfl)
  (by rw[HQ];simp) (Ec aJ aJ) aG (by unfold D4;simp[Bh,D7,H9];omega)
 exact aE (v:=.agg (Gf (.mk 102 D4 0 []) (.slice none 0 0)).toArray) (Ax results102 _ _ (w.heap.size+1) _ _ rfl Z.2 underlying47 rfl aM) rfl Z.1
def IvC(w0:World)(b:Nat)(p:Value)(S:List Ty)(N:Nat)(k:Kd):Prop:=
 ∀(t:List UInt8) (bad:Bool) (w:World),Below w0 w0 w->E7 w b p t bad->t.length<=900->(bad=false->t.length<N) ->
  Calls prog 102 #[b,H4 k] w (Je w b p t N (if bad then none else Aj S 1000 N k t))
theorem En.one{P Q:Nat->Prop}{w:World}{v:Vl}{sl:Value}{T:TypeId}(h:En P w sl v.kids)(hQ:∀b,P b->b<w.heap.size->Q b)(hn:Q w.heap.size):
  En Q (w.alloc (.cells #[.int .u8 (v.what.toNat:Int),v.text,(v.tag:Int),sl] T)) (.slice (w,0) 1 1) [v]:=by
 have hb:Below w w (w.alloc (.cells #[.int .u8 (v.what.toNat:Int),v.text,(v.tag:Int),sl] T)):=(At _ _).alloc (Ao _) _;refine .mk (w,0) 1 [(v,sl)] rfl rfl aK ⟨rfl,(show 4<=maxLen by decide),fun _=>⟨w.heap.size,0,rfl,by simp,fun j u hj=>?_⟩⟩ (fun g o _ e=>by injection e with e;injection e with e;subst e;exact hn) (fun x hx=>?_)
 ·rw[World.cell?_alloc_new];simpa [H3]using hj
 rw[ap]at hx;subst hx;exact(h.mono hQ).after hb
theorem Dy(c:UInt8)(t:List UInt8)(bad:Bool):((Av [c] t bad).getD t).length<=t.length:=ev
theorem G6{c:UInt8}{t r:List UInt8}{bad:Bool}(h:Av [c] t bad=some r):r.length+1=t.length:=by
 rw[Bw]at h;cases bad with
 |true=>cases h
 |false=>rw[if_neg aJ,Bx]at h;subst h;rfl
theorem Qab(w0:World)(b N:Nat)(p:Value)(S:List Ty)(t:List UInt8)(k:Kd)(w:World)(hw:Below w0 w0 w)(hb:w0.heap.size<=b)(h:E7 w b p t false)(hl:t.length<=900)(hN:t.length<=N)(hN2:N<=2000)(sg:List UInt8)(hs:k.signs=63::sg)(hsl:sg.length<=100)
  (H:IvC w0 b p S N k.part) (q:Option (Vl × List UInt8)) (hq:q=Yh (Aj S 1000 N k.part) t):
  Calls prog 102 #[b,H4 k] w (Je w b p t (N+1) q):=by
 have HQ:=Aa hq;have HH:=Aa H;have HP:=Aa (fun W=>Vc k W 63 sg hs aG);have HS:=Aa h;have HW:=Aa hw;have hb0:=h.1;have hbn:¬(b=w.heap.size):=aG;have hbn2:¬(b=w.heap.size+1):=aG;have c2:=h.2.2.2.2;have hm:=Dy 43 t false;have Hlt:=Aa (fun r (h:Av [43] t false=some r)=>G6 h);have Hlt2:=Aa (fun r (h:Av [45] t false=some r)=>G6 h);have Htk:=Aa (fun W (h:E7 W b p t false)=>Gs b p t [45] false W h aG);have Hwt:=Aa (fun W (h:E7 W b p t false)=>Cv b p t [43] false W h aG)
 have HQ2:=Aa (show Yh (Aj S 1000 N k.part) t=(match Av [45] t false with|some q=>some (.mk 63 [] 0 [],q)|none=>match Av [43] t false with|none=>none|some r=>match Aj S 1000 N k.part r with|some (v,q)=>some (.mk 63 [] 0 [v],q)|none=>none)from by
  rw[Bw,Bw];rfl)
 generalize Yh (Aj S 1000 N k.part) t=q0 at *;have Hkp:=Aa (rfl:H4 k=H4 k);obtain⟨sg',bs,nm⟩:=k;simp only at hs;subst hs;generalize hkp:(⟨63::sg,bs,nm⟩:Kd).part=kp at *;unfold H4 at HP ⊢;simp only at HP ⊢;clear h hq hw H Hkp hkp;rcases hy:Av [45] t false with _|r
 ·rw[hy]at Htk HQ2;obtain⟨t1,ht1⟩:∃t1,t1=(Av [43] t false).getD t:=⟨_,rfl⟩
  obtain⟨b1,hb1⟩:∃b1,b1=(Av [43] t false).isNone:=⟨_,rfl⟩
  have HQ3:=Aa (show q=if b1 then none else match Aj S 1000 N kp t1 with|some (v,q)=>some (.mk 63 [] 0 [v],q)|none=>none from by
   rw[HQ.o,HQ2.o,ht1,hb1];cases Av [43] t false<;>rfl)
  have HL1:=Aa (show b1=false->t1.length<N from by
   intro h;rw[hb1]at h;cases hr:Av [43] t false with
   |none=>rw[hr]at h;cases h
   |some r=>have:=Hlt.o r hr;rw[ht1,hr];simp;omega)
  rw[<-ht1]at hm;rw[<-ht1,<-hb1]at Hwt;clear hy ht1 hb1 HQ2 HQ;go_enter func102,ntmps102;go_wp2_with fail;refine(Jq 63 sg aG _ _ _).mono ?_;rintro e w2 ⟨rfl,hb2⟩;have F2:=Aa ((Jf.init (k:=⟨63::sg,bs,nm⟩) HS.o).post hb2);clear hb2 c2;go_wp2_with fail;refine(Htk.o _ F2.o.1.1).mono ?_;rintro e w3 ⟨rfl,hs3⟩;simp only[Option.getD_none]at hs3;have F3:=Aa (F2.o.step hb0 hs3);clear hs3;go_wp2_with fail;refine(Hwt.o _ F3.o.1.1).mono ?_;rintro e w4 ⟨rfl,hs4⟩;have F4:=Aa (F3.o.step hb0 hs4);clear hs4;have k0:=Ac F4.o.2.1 0 rfl;have k1:=Ac F4.o.2.1 1 rfl;have k2:=Ac F4.o.2.1 2 rfl;simp only[am]at k0 k1 k2;go_wp2_with fail;refine(HP.o _).mono ?_;rintro e w5 ⟨rfl,hb5⟩;have F5:=Aa (F4.o.post hb5);clear hb5 k0 k1 k2;go_wp2_with fail;refine(HH.o t1 b1 _ (F5.o.1.env HW.o hb) F5.o.1.1 aG HL1.o).mono ?_;rintro e w6 ⟨v,sl,t',rfl,hk,hs6,hx,hB,hl6,hn6⟩;obtain⟨A7,c7,rfl⟩:=hk.form;have F6:=Aa (F5.o.step hb0 hs6);have hz5:=F5.o.2.2.2;have Hk:=Aa hk;have Hx:=Aa hx;have HB:=Aa hB;clear hs6 hk hx hB;unfold Ml;have F7:=Aa (fun o=>F6.o.post ((At _ _).alloc (Ao _) o));go_wp2_with ((with_reducible refine Ad (op:=⟨none,.store 47 _ _,_,_,_,none⟩) rfl 47 _ _ rfl (w.heap.size+1) 0 [.int .u8 63,a8,.int .i64 0,.slice (w6,0) 1 1] ?_ ?_ ?_ ?_ ?_ ?_);rfl;rfl;(exact(Aa (F7.o _)).o.2.2.1);kernel_rfl;(simp[Value.oneCell']);intro w9 HS9)
  have hz6:=F6.o.2.2.2;have Z:=Jf.fin (t:=t) (N:=N+1) (v:=.mk 63 [] 0 [v]) (sl:=.slice (w6,0) 1 1) (r:=q) (F7.o _) hb0 HS9.o (Hk.o.one (fun c hc _=>by omega) aG)
   (by rw[HQ3.o];cases b1 with
    |true=>rfl
    |false=>simp only[an,if_false];cases Aj S 1000 N kp t1 with
     |none=>rfl
     |some y=>rfl)
   (by rw[HQ3.o];cases b1 with
    |true=>simp
    |false=>
     simp only[an,if_false];have hx2:=Hx.o;simp only[an,if_false]at hx2;cases hr:Aj S 1000 N kp t1 with
     |none=>simp
     |some y=>obtain⟨e1,e2⟩:=hx2 y hr;rintro x hxx;injection hxx with hxx;subst hxx;exact⟨by rw[e1],e2⟩)
   (.mk aJ (by simp[Du];omega) aK (fun x hx=>by rw[ap]at hx;subst hx;exact HB.o)) aG (by simp[Bh,D7,H9,Ap];omega)
  exact aE (v:=.agg (Gf (.mk 63 [] 0 [v]) (.slice (w6,0) 1 1)).toArray) (Ax results102 _ _ (w.heap.size+1) _ _ rfl Z.2 underlying47 rfl aM) rfl Z.1
 rw[hy]at Htk HQ2;have hlt:=Hlt2.o r hy;clear hy;go_enter func102,ntmps102;go_wp2_with fail;refine(Jq 63 sg aG _ _ _).mono ?_;rintro e w2 ⟨rfl,hb2⟩;have F2:=Aa ((Jf.init (k:=⟨63::sg,bs,nm⟩) HS.o).post hb2);clear hb2 c2;go_wp2_with fail;refine(Htk.o _ F2.o.1.1).mono ?_;rintro e w3 ⟨rfl,hs3⟩;simp only[Option.getD_some]at hs3;have F3:=Aa (F2.o.step hb0 hs3);clear hs3;go_wp2_with ((with_reducible refine Ad (op:=⟨none,.store 47 _ _,_,_,_,none⟩) rfl 47 _ _ rfl (w.heap.size+1) 0 [.int .u8 63,a8,.int .i64 0,.slice none 0 0] ?_ ?_ ?_ ?_ ?_ ?_);rfl;rfl;(exact F3.o.2.2.1);kernel_rfl;(simp[Value.oneCell']);intro w9 HS9)
 have HQ:=HQ.o;rw[HQ2.o]at HQ;have Z:=Jf.fin (t:=t) (N:=N+1) (v:=.mk 63 [] 0 []) (sl:=.slice none 0 0) (r:=q) F3.o hb0 HS9.o (En.nil _ _) (by rw[HQ];rfl)
  (by rw[HQ];simp) (Ec aJ aJ) aG ee
 exact aE (v:=.agg (Gf (.mk 63 [] 0 []) (.slice none 0 0)).toArray) (Ax results102 _ _ (w.heap.size+1) _ _ rfl Z.2 underlying47 rfl aM) rfl Z.1
end
theorem Qbd:(prog.info? 47).map (fun i=>(i.zero,i.size,i.bytes))=some (some (.agg #[.int .u8 0,a8,.int .i64 0,.slice none 0 0]),4,56):=aM
structure Sn(base B:Nat)(W:World)(h0 h1 h2 u rv:Value)(xs:List (Vl × Value)):Prop where
 lt:B<W.heap.size
 bs:base<=W.heap.size
 hB:B<base
 bk:N4 W B
 c0:W.cell? (B,0)=some h0
 c1:W.cell? (B,1)=some h1
 c2:W.cell? (B,2)=some h2
 c3:W.cell? (B,3)=some u
 row:W.ownsRow base 47 4 rv xs.length (xs.flatMap H3)
 kids:∀x∈xs,En (fun c=>base<=c/\rv.ownBlock≠some c) W x.2 x.1.kids
theorem Sn.after{base B:Nat}{W W':World}{h0 h1 h2 u rv:Value}{xs:List (Vl × Value)}(h:Sn base B W h0 h1 h2 u rv xs)(hb:Below W W W'):Sn base B W' h0 h1 h2 u rv xs:=by
 obtain⟨hc,_,hz⟩:=Bs hb;exact⟨hz _ h.lt,ad h.bs hb.size,h.hB,h.bk.belowAt h.lt hb,(hc _ _ h.lt).trans h.c0,(hc _ _ h.lt).trans h.c1,(hc _ _ h.lt).trans h.c2,(hc _ _ h.lt).trans h.c3,Be h.row hb,fun x hx=>(h.kids x hx).after hb⟩
theorem Sn.step{base B b:Nat}{W W':World}{h0 h1 h2 u rv:Value}{xs:List (Vl × Value)}(h:Sn base B W h0 h1 h2 u rv xs)(hg:W.grownBy W' (some b))(hb:b<base)(hne:b≠B):Sn base B W' h0 h1 h2 u rv xs:=by
 have hn:some B≠some b:=fun e=>by injection e with e;omega
 exact⟨ac h.lt hg.size,ad h.bs hg.size,h.hB,h.bk.grown h.lt hg hn,hg.cell h.c0 hn,hg.cell h.c1 hn,hg.cell h.c2 hn,hg.cell h.c3 hn,
  h.row.kept hg (by
   cases hr:rv.ownBlock with
   |none=>cases rv with
    |slice A a b=>cases A with
     |none=>exact .inl rfl
     |some x=>simp[Value.ownBlock]at hr
    |_=>exact .inl rfl
   |some k=>have:=(h.row.lt k hr).1;exact .inr bX),
  fun x hx=>(h.kids x hx).grown hg fun c hc e=>by injection e with e;omega⟩
theorem Sn.store{base B:Nat}{W:World}{h0 h1 h2 u rv:Value}{xs:List (Vl × Value)}(h:Sn base B W h0 h1 h2 u rv xs):Sn base B (W.setCell ⟨B,3,none⟩ rv) h0 h1 h2 rv rv xs:=by
 have hg:=A0 W B 3 rv;have hf:=h.bk.live 3;refine⟨by simpa using h.lt,by simpa using h.bs,h.hB,h.bk.set _,by simp[go_sem,h.c0],by simp[go_sem,h.c1],by simp[go_sem,h.c2],by simp[go_sem,h.c3,hf],h.row.kept hg ?_,fun x hx=>(h.kids x hx).grown hg fun c hc e=>by injection e with e;have:=h.hB;omega⟩;cases hr:rv.ownBlock with
 |none=>cases rv with
  |slice A a b=>cases A with
   |none=>exact .inl rfl
   |some x=>simp[Value.ownBlock]at hr
  |_=>exact .inl rfl
 |some k=>have:=(h.row.lt k hr).1;have:=h.hB;exact .inr bX
theorem Sn.app{base B:Nat}{W W':World}{h0 h1 h2 u rv rv':Value}{xs:List (Vl × Value)}{x:Vl × Value}(h:Sn base B W h0 h1 h2 u rv xs)(hx:En (fun c=>base<=c/\rv.ownBlock≠some c) W x.2 x.1.kids)
  (hown:W'.ownsRow base 47 4 rv' (xs.length+1) (xs.flatMap H3++H3 x)) (hg:W.grownBy W' rv.ownBlock) (hwh:rv'.ownBlock=rv.ownBlock\/∃k,rv'.ownBlock=some k/\W.heap.size<=k):Sn base B W' h0 h1 h2 u rv' (xs++[x]):=by
 have hn:some B≠rv.ownBlock:=fun e=>dU;refine⟨ac h.lt hg.size,ad h.bs hg.size,h.hB,h.bk.grown h.lt hg hn,hg.cell h.c0 hn,hg.cell h.c1 hn,hg.cell h.c2 hn,hg.cell h.c3 hn,by simpa using hown,fun y hy=>?_⟩;have hy':En (fun c=>base<=c/\rv.ownBlock≠some c) W y.2 y.1.kids:=by
  rcases af.1 hy with hy|hy
  ·exact h.kids y hy
  rw[ap]at hy;subst hy;exact hx
 refine hy'.kept (fun b o v hb _ hv=>hg.cell hv fun e=>hb.2 e.symm) hg.size fun c hc hl=>⟨hc.1,?_⟩
 rcases hwh with e|⟨k,e,hk⟩
 ·rw[e];exact hc.2
 exact ij
theorem Sn.done{base B:Nat}{W:World}{h0 h1 h2 u rv:Value}{xs:List (Vl × Value)}(h:Sn base B W h0 h1 h2 u rv xs)(hl:xs.length<=1000):En (fun c=>base<=c) W rv (Ay xs):=by
 rcases h.row.2 with⟨rfl,h0⟩|⟨g,cap,cur,rfl,hbg,hh,hnc,hcm,hcs,htk⟩
 ·obtain rfl:xs=[]:=List.eq_nil_of_length_eq_zero h0;exact En.nil _ _
 refine .mk (g,0) cap xs rfl rfl hl ⟨G1 Xk xs,by unfold maxLen;omega,fun hn=>⟨g,0,rfl,(h.row.lt g rfl).2,fun j u hu=>?_⟩⟩ (fun g' o _ e=>by injection e with e;injection e with e;subst e;exact hbg) fun x hx=>(h.kids x hx).mono fun c hc _=>hc.1;have:=h.row.cells (g:=g) rfl j u hu;have e1:(⟨g,0,none⟩:Addr).add j=⟨g,0+j,none⟩:=bp;rwa [e1]at this
theorem J1{w:World}{base k n m c:Nat}{e:TypeId}{A:Option Addr}{xs:List Value}(h:w.ownsRow base e k (.slice A m c) n xs):m=n:=by
 rcases h.2 with⟨e,h0⟩|⟨g,cap,cur,e,_⟩
 ·injection e with _ e1 e2;omega
 injection e with _ e1 e2
theorem Jf.app{w W W':World}{b:Nat}{p:Value}{k:Kd}{t:List UInt8}{bad:Bool}{row:Option Nat}(h:Jf w b p k t bad W)(hb:b<w.heap.size)(hg:W.grownBy W' row)(hr:∀k,row=some k->w.heap.size+2<=k):Jf w b p k t bad W':=by
 have hn:∀c,c<w.heap.size+2->some c≠row:=fun c hc e=>by have:=hr c e.symm;omega
 obtain⟨⟨⟨h0,h1,h2,h3,h4⟩,hg0⟩,k1,k2,k3⟩:=h
 exact⟨⟨⟨ac h0 hg.size,h1.grown h0 hg (hn b aG),hg.cell h2 (hn b aG),hg.cell h3 (hn b aG),hg.cell h4 (hn b aG)⟩,⟨hg.os.trans hg0.os,hg.tape.trans hg0.tape,hg.output.trans hg0.output,ad hg0.size hg.size,fun k hk hne=>(hg.block k (ac hk hg0.size) (hn k aG)).trans (hg0.block k hk hne)⟩⟩,
  Fh k1 hg (hn _ aG),Fv k2 hg k3 (hn _ aG),ac k3 hg.size⟩
theorem Jf.put{w W:World}{b B o:Nat}{p:Value}{k:Kd}{t:List UInt8}{bad:Bool}(h:Jf w b p k t bad W)(hb:b<w.heap.size)(hB:w.heap.size+2<=B)(v:Value):Jf w b p k t bad (W.setCell ⟨B,o,none⟩ v):=
 h.app hb (A0 W B o v) fun k e=>by injection e with e;omega
theorem Qbk(x:Vl × Value)(h:x.2.oneCell'=true):∀u∈H3 x,u.oneCell'=true:=by
 intro u hu;simp[H3]at hu;rcases hu with rfl|rfl|rfl|rfl
 ·rfl
 ·rfl
 ·rfl
 exact h
def N6(vs:List Vl):Option (List Vl × List UInt8)->Option (List Vl × List UInt8)
 |some (us,z)=>some (vs++us,z)
 |none=>none
def LI(K:List UInt8->Option (Vl × List UInt8))(t1:List UInt8)(b1:Bool)(vs:List Vl)(tt:List UInt8):Prop:=
 (b1=true->vs=[])/\(b1=false->Cl K 1000 t1=N6 vs (Cl K (1000 - vs.length) tt))/\Du (vs.map Bh)+tt.length<=t1.length/\∀x∈vs,Bd x
def LE(K:List UInt8->Option (Vl × List UInt8))(t1:List UInt8)(b1:Bool)(vs:List Vl)(tt:List UInt8)(bb:Bool)(N:Nat):Prop:=
 (if b1 then none else Cl K 1000 t1)=(if bb then none else match Al 93 tt with|some z=>some (vs,z)|none=>none)/\Du (vs.map Bh)+tt.length<=t1.length+8*N+1/\∀x∈vs,Bd x
theorem LI.init(K:List UInt8->Option (Vl × List UInt8))(t1:List UInt8)(b1:Bool):LI K t1 b1 [] t1:=
 ⟨fun _=>rfl,fun _=>by cases h:Cl K 1000 t1<;>simp[N6,h],by simp[Du],by simp⟩
theorem J5(a b:List (List UInt8)):Du (a++b)=Du a+Du b:=ep
theorem LI.len{K:List UInt8->Option (Vl × List UInt8)}{t1 tt:List UInt8}{b1:Bool}{vs:List Vl}(h:LI K t1 b1 vs tt):vs.length+tt.length<=t1.length:=by
 have h1:=Qbc (vs.map Bh);have h2:=h.2.2.1;simp at h1;omega
theorem LI.step{K:List UInt8->Option (Vl × List UInt8)}{t1 tt t' t'':List UInt8}{vs:List Vl}{v:Vl}(h:LI K t1 false vs tt)(hK:K tt=some (v,t'))(hg:tt.length=(Bh v).length+t'.length)(hc:Al 44 t'=some t'')(hB:Bd v)(hl:t1.length<=900):LI K t1 false (vs++[v]) t'':=by
 have hlen:=h.len;obtain⟨_,h2,h3,h4⟩:=h;have e:t'=44::t'':=Bx.1 hc;refine⟨fun h=>Bool.noConfusion h,fun _=>?_,?_,?_⟩
 ·rw[h2 rfl];obtain⟨m,hm⟩:∃m,1000 - vs.length=m+1:=⟨999 - vs.length,by omega⟩
  rw[hm,show 1000 - (vs++[v]).length=m by simp;omega];conv=>lhs;unfold Cl
  rw[hK];simp only[hc];cases Cl K m t''<;>simp[N6]
 ·rw[ay,J5];simp[Fw,Du]at h3 ⊢;rw[e]at hg;simp at hg;omega
 intro x hx;rcases af.1 hx with hx|hx
 ·exact h4 x hx
 rw[ap]at hx;subst hx;exact hB
theorem LI.brk{K:List UInt8->Option (Vl × List UInt8)}{t1 tt t':List UInt8}{vs:List Vl}{v:Vl}{N:Nat}(h:LI K t1 false vs tt)(hx:∀x,K tt=some x->v=x.1/\t'=x.2)(hc:Av [44] t' (K tt).isNone=none)(hB:Bd v)(hl:t1.length<=900)
  (hn:(Bh v).length+t'.length<=tt.length+8*N):LE K t1 false (vs++[v]) t' (K tt).isNone N:=by
 have hlen:=h.len;obtain⟨_,h2,h3,h4⟩:=h;refine⟨?_,?_,?_⟩
 ·rw[if_neg aJ,h2 rfl];obtain⟨m,hm⟩:∃m,1000 - vs.length=m+1:=⟨999 - vs.length,by omega⟩
  rw[hm];unfold Cl;cases hk:K tt with
  |none=>rfl
  |some y=>
   obtain⟨e1,e2⟩:=hx y hk;obtain⟨y1,y2⟩:=y;simp only at e1 e2;subst e1 e2;rw[hk,Bw]at hc;simp only[Option.isNone_some,an,if_false]at hc ⊢;rw[hc];simp only;cases Al 93 t'<;>simp[N6]
 ·rw[ay,J5];simp[Fw,Du]at h3 ⊢;omega
 intro x hx;rcases af.1 hx with hx|hx
 ·exact h4 x hx
 rw[ap]at hx;subst hx;exact hB
theorem LI.bad{K:List UInt8->Option (Vl × List UInt8)}{t1 tt:List UInt8}{vs:List Vl}{N:Nat}(h:LI K t1 true vs tt):LE K t1 true vs tt true N:=⟨by simp,by have:=h.2.2.1;omega,h.2.2.2⟩
theorem LE.fin{K:List UInt8->Option (Vl × List UInt8)}{t t1 tt:List UInt8}{b1 bb:Bool}{vs:List Vl}{N:Nat}(h:LE K t1 b1 vs tt bb N)(h1:t1=(Av [91] t false).getD t)(hb1:b1=(Av [91] t false).isNone)(h2:Av [93] t1 b1=none):
  Q7 K 1000 t=if (Av [93] tt bb).isNone || decide (20<vs.length)then none else some (.mk 91 [] 0 vs,(Av [93] tt bb).getD tt):=by
 obtain⟨h3,_,_⟩:=h;rw[Bw]at h1 hb1 h2 ⊢;simp only[an,if_false]at h1 hb1;unfold Q7;cases hy:Al 91 t with
 |none=>
  rw[hy]at hb1;simp only[Option.isNone_none]at hb1;subst hb1;simp only[if_true]at h3;simp only;cases bb with
  |true=>simp
  |false=>
   simp only[an,if_false]at h3 ⊢;cases hz:Al 93 tt with
   |none=>simp
   |some z=>rw[hz]at h3;cases h3
 |some r=>
  rw[hy]at h1 hb1;simp only[Option.isNone_some,Option.getD_some]at h1 hb1;subst h1 hb1;simp only[an,if_false]at h2 h3;simp only;rw[h2];simp only;rw[h3];cases bb with
  |true=>simp
  |false=>
   simp only[an,if_false];cases Al 93 tt with
   |none=>simp
   |some z=>
    simp only[Option.isNone_some,Bool.false_or,decide_eq_true_eq,Option.getD_some];by_cases h:vs.length<=20
    ·rw[if_pos h,if_neg aG]
    rw[if_neg h,if_pos aG]
section
attribute [local go_sem] Qhn Qg5 Qgq Qe7 ByteArray.mk_append_mk
def Rd(tt:List UInt8)(N:Nat)(r:Option (Vl × List UInt8))(v:Vl)(t':List UInt8):Prop:=
 (∀x,r=some x->v=x.1/\t'=x.2)/\Bd v/\t'.length<=tt.length/\(Bh v).length+t'.length<=tt.length+8*N
structure Qhk(w:World)(b B:Nat)(p:Value)(k:Kd)(h0 h1 h2 rv:Value)(xs:List (Vl × Value))(tt:List UInt8)(bb:Bool)(N:Nat)(r:Option (Vl × List UInt8))(c s a d:Bool)(uc us ua:Value)(W:World):Prop where
 r1:∃t2 bad2,Jf w b p k t2 bad2 W/\(c=false->t2=tt/\bad2=bb)
 r2:a=false->Sn (B+1) B W h0 h1 h2 rv rv xs
 r3:c=true->∃v sl t',uc=Ml v sl/\Rd tt N r v t'/\Jf w b p k t' r.isNone W/\(a=false->En (fun c=>B+1<=c/\rv.ownBlock≠some c) W sl v.kids) /\
  (s=true->a=false->∃W7,W=W7.alloc (.cells (H3 (v,sl)).toArray 47)/\us=.slice (some ⟨W7.heap.size,0,none⟩) 1 1/\Sn (B+1) B W7 h0 h1 h2 rv rv xs/\En (fun c=>B+1<=c/\rv.ownBlock≠some c) W7 sl v.kids/\Jf w b p k t' r.isNone W7) /\
  (a=true->d=false->∃A n c,ua=.slice A n c/\Sn (B+1) B W h0 h1 h2 rv ua (xs++[(v,sl)])) /\
  (d=true->∃A n c,ua=.slice A n c/\Sn (B+1) B W h0 h1 h2 ua ua (xs++[(v,sl)]))
theorem Qcc(w0:World)(b N:Nat)(p:Value)(S:List Ty)(t:List UInt8)(k:Kd)(w:World)(hw:Below w0 w0 w)(hb:w0.heap.size<=b)(h:E7 w b p t false)(hl:t.length<=900)(hN:t.length<=N)(hN2:N<=2000)
  (H:IvC w0 b p S N k) (HG:∀s v r,Aj S 1000 N k s=some (v,r)->s=Bh v++r) (q:Option (Vl × List UInt8)) (hq:q=Q7 (Aj S 1000 N k) 1000 t):
  Calls prog 142 #[b,H4 k] w (Je w b p t (N+1) q):=by
 have HQ:=Aa hq;have HH:=Aa H;have HG:=Aa HG;have HS:=Aa h;have HW:=Aa hw;have hb0:=h.1;have hbn:¬(b=w.heap.size):=aG;have hbn2:¬(b=w.heap.size+1):=aG;have hbn3:¬(b=w.heap.size+2):=aG;have hm:=Dy 91 t false;have Hwt:=Aa (fun W (h:E7 W b p t false)=>Cv b p t [91] false W h aG);have Hlt0:=Aa (fun r (h:Av [91] t false=some r)=>G6 h);obtain⟨t1,ht1⟩:∃t1,t1=(Av [91] t false).getD t:=⟨_,rfl⟩
 obtain⟨b1,hb1⟩:∃b1,b1=(Av [91] t false).isNone:=⟨_,rfl⟩
 have Ht1:=Aa ht1;have Hb1:=Aa hb1
 have HL1:=Aa (show b1=false->t1.length<N from by
  intro h;rw[hb1]at h;cases hr:Av [91] t false with
  |none=>rw[hr]at h;cases h
  |some r=>have:=Hlt0.o r hr;rw[ht1,hr];simp;omega)
 rw[<-ht1]at hm;rw[<-ht1,<-hb1]at Hwt;have Htk:=Aa (fun W (h:E7 W b p t1 b1)=>Gs b p t1 [93] b1 W h aG);have HK:=Aa (fun s=>(rfl:Aj S 1000 N k s=Aj S 1000 N k s));clear h hw H hq ht1 hb1 HK;have HF0:=Aa (Jf.init (k:=k) HS.o (T:=62) (U:=47));unfold H4;go_enter func142,ntmps142;go_wp2_with fail;obtain⟨W1,hW1⟩:∃W1,W1=((w.alloc (.cells #[k.signs,k.base,k.name] 62)).alloc (.cells #[.int .u8 0,a8,.int .i64 0,.slice none 0 0] 47)).alloc (.cells #[.int .u8 91,a8,.int .i64 0,.slice none 0 0] 47):=⟨_,rfl⟩
 rw[<-hW1];have hz1:W1.heap.size=w.heap.size+3:=by rw[hW1];simp
 have F1:=@Aa (Jf w b p k t false W1) (by rw[hW1];exact HF0.o.post ((At _ _).alloc (Ao _) _))
 have K1:=Aa (show Sn (w.heap.size+2+1) (w.heap.size+2) W1 (.int .u8 91) a8 (.int .i64 0) (.slice none 0 0) (.slice none 0 0) []from by
  have hbk:N4 W1 (w.heap.size+2):=by rw[hW1];have:=N4.new ((w.alloc (.cells #[k.signs,k.base,k.name] 62)).alloc (.cells #[.int .u8 0,a8,.int .i64 0,.slice none 0 0] 47)) #[.int .u8 91,a8,.int .i64 0,.slice none 0 0] 47;simpa using this
  exact⟨by omega,by omega,by omega,hbk,by rw[hW1];simp[go_sem],by rw[hW1];simp[go_sem],by rw[hW1];simp[go_sem],by rw[hW1];simp[go_sem],World.ownsRow_nil _ _ _ _,by simp⟩)
 clear hW1 HF0;refine(Hwt.o _ F1.o.1.1).mono ?_;rintro e W2 ⟨rfl,hs2⟩;have F2:=Aa (F1.o.step hb0 hs2);have K2:=Aa (K1.o.step hs2.2 aG aG);clear hs2 F1 K1;go_wp2_with fail;refine(Htk.o _ F2.o.1.1).mono ?_;rcases hy:Av [93] t1 b1 with _|r
 ·have Hy:=Aa hy;clear hy;rintro e W3 ⟨rfl,hs3⟩;simp only[Option.getD_none]at hs3;have F3:=Aa (F2.o.step hb0 hs3);have K3:=Aa (K2.o.step hs3.2 aG aG);clear hs3 F2 K2;go_wp2_with fail;go_loopw [] (fun wr=>∃(xs:List (Vl × Value)) (A:Option Addr) (n c:Nat) (tt:List UInt8),tt.length<=t1.length/\wr.cell? (b,1)=tt/\Hid (Jf w b p k tt b1 wr)/\Hid (Sn (w.heap.size+2+1) (w.heap.size+2) wr (.int .u8 91) a8 (.int .i64 0) (.slice A n c) (.slice A n c) xs)/\Hid (LI (Aj S 1000 N k) t1 b1 (Ay xs) tt))
   (fun wr=>match wr.cell? (b,1)with|some (.string s)=>s.size|_=>0)
  case atStart=>exact⟨[],none,0,0,t1,Ao _,F3.o.1.1.2.2.2.1,F3.o,K3.o,LI.init _ _ _⟩
  case round=>
   obtain⟨xs,A,n,c,tt,htl,c1,F,K,hI⟩:=hrel;have s2:=F.o.1.1.2.2.2.2;have hxl:xs.length<=900:=by have:=hI.o.len;simp[Ay]at this;omega
   cases b1 with
   |true=>
    go_wp2_with fail;have Hw9:=Aa (fun W (h:E7 W b p tt true)=>Cv b p tt [93] true W h aG);refine(Hw9.o _ F.o.1.1).mono ?_;rintro e W7 ⟨rfl,hs7⟩;have F7:=Aa (F.o.step hb0 hs7);have K7:=Aa (K.o.step hs7.2 aG aG);have hfin:=Aa (HQ.o.trans ((Aa (hI.o.bad (N:=N))).o.fin Ht1.o Hb1.o Hy.o));have hle9:=Dy 93 tt true;have hE9:=(Aa (hI.o.bad (N:=N))).o.2.1;obtain⟨t4,ht4⟩:∃t4,t4=(Av [93] tt true).getD tt:=⟨_,rfl⟩
    obtain⟨b4,hb4⟩:∃b4,b4=(Av [93] tt true).isNone:=⟨_,rfl⟩
    rw[<-ht4]at F7 hfin hle9;rw[<-hb4]at F7 hfin;have e7:(Ay xs).length=(xs).length:=by simp[Ay]
    obtain⟨ys,hys⟩:∃ys,ys=xs:=⟨_,rfl⟩
    rw[<-hys]at K7 hfin hE9 e7;have HB9:=Aa (Aa (hI.o.bad (N:=N))).o.2.2;rw[<-hys]at HB9;have hyl:ys.length<=1000:=by rw[hys];omega
    have d0:=K7.o.c0;have d1:=K7.o.c1;have d2:=K7.o.c2;have d3:=K7.o.c3;have s7:=F7.o.1.1.2.1.live 2;have s8:=F7.o.1.1.2.2.2.2;have q7:=F7.o.1.1.1;have hn7:n=ys.length:=J1 K7.o.row;subst hn7;clear hs7 ht4 hb4 hys;by_cases h20:ys.length<=20
    ·have t20:decide ((20:Int)<(ys.length:Int))=false:=aB aG;go_wp2_with ((with_reducible refine Ad (op:=⟨none,.store 47 _ _,_,_,_,none⟩) rfl 47 _ _ rfl (w.heap.size+1) 0 [.int .u8 91,a8,.int .i64 0,.slice A ys.length c] ?_ ?_ ?_ ?_ ?_ ?_);rfl;rfl;(exact F7.o.2.2.1);kernel_rfl;(simp[Value.oneCell']);intro w9 HS9)
     have Z:=Jf.fin (t:=t) (N:=N+1) (v:=.mk 91 [] 0 (Ay ys)) (sl:=.slice A ys.length c) (r:=q) F7.o hb0 HS9.o ((K7.o.done hyl).mono fun c hc _=>by omega) cH
      cH (.mk aJ aG aK HB9.o) aG dq
     exact ik
    have t20:decide ((20:Int)<(ys.length:Int))=true:=aC aG;have F8:=Aa (F7.o.step hb0 ⟨F7.o.1.1.setBad true,A0 _ b 2 (.bool true)⟩);have K8:=Aa (K7.o.step (A0 _ b 2 (.bool true)) aG aG);go_wp2_with ((with_reducible refine Ad (op:=⟨none,.store 47 _ _,_,_,_,none⟩) rfl 47 _ _ rfl (w.heap.size+1) 0 [.int .u8 91,a8,.int .i64 0,.slice A ys.length c] ?_ ?_ ?_ ?_ ?_ ?_);rfl;rfl;(exact F8.o.2.2.1);kernel_rfl;(simp[Value.oneCell']);intro w9 HS9)
    have Z:=Jf.fin (t:=t) (N:=N+1) (v:=.mk 91 [] 0 (Ay ys)) (sl:=.slice A ys.length c) (r:=q) F8.o hb0 HS9.o ((K8.o.done hyl).mono fun c hc _=>by omega) dh
     dh (.mk aJ aG aK HB9.o) aG dq
    exact ik
   |false=>
    have h1N:=HL1.o rfl;go_wp2_with fail;refine N7 [17,18,19,20,21,22,23,24,999]
     (fun ix v W=>match ix with|0=>v=(w,2,3)|1=>v=.slice A n c|2=>v=b|3=>v=H4 k|4=>∃x s,v=Ml x s|5=>∃g,v=.slice (some ⟨g,0,none⟩) 1 1|6=>∃A n c,v=.slice A n c|7=>v=(w,2,3)|_=>True)
     (fun L U W=>Qhk w b (w.heap.size+2) p k (.int .u8 91) a8 (.int .i64 0) (.slice A n c) xs tt false N (Aj S 1000 N k tt) (L 4) (L 5) (L 6) (L 8) (U 4) (U 5) (U 6) W) (⟨⟨tt,false,F.o.post (At _ _).drew,fun _=>⟨rfl,rfl⟩⟩,fun _=>K.o.after (At _ _).drew,fun h=>Bool.noConfusion h⟩) ?_ ?_
    ·repeat (first|exact Aq.nil|(refine Aq.cons ?_ ?_;rotate_left))
     all_goals
      rintro L U W hL hpre HR Hdep K hK;obtain⟨⟨t2,bad2,hF2,hF2'⟩,R2,R3⟩:=HR.o;have k0:=Ac hF2.2.1 0 rfl;have k1:=Ac hF2.2.1 1 rfl;have k2:=Ac hF2.2.1 2 rfl;simp only[am]at k0 k1 k2;first|(simp[Region.binds]at hpre;done)|simp[Region.binds]at hpre|clear hpre
     ·exact eW
     ·have h6:L 6=false:=Bu Hdep.o 6 1 rfl hL;have g3:=(R2 h6).c3;exact il
     ·exact eW
     ·go_simp;first|exact hK (H4 k) _ _ rfl Ab HR.o rfl|exact hK (H4 k) _ _ rfl Ab HR.o aH
     ·have h5:L 5=false:=Bu Hdep.o 5 4 rfl hL;have h6:L 6=false:=Bu Hdep.o 6 5 rfl h5;have h8:L 8=false:=Bu Hdep.o 8 6 rfl h6;obtain⟨rfl,rfl⟩:=hF2' hL;go_simp;refine(HH.o t2 false _ (hF2.1.env HW.o hb) hF2.1.1 aG (fun _=>by omega)).mono ?_;rintro e w5 ⟨v,sl,t',rfl,hk5,hs5,hx5,hB5,hl5,hn5⟩;simp only[an,if_false]at hx5 hs5;have hF5:=hF2.step hb0 hs5;have hK5:=(R2 h6).step hs5.2 aG aG;have hks:En (fun g=>w.heap.size+2+1<=g/\(Value.slice A n c).ownBlock≠some g) w5 sl v.kids:=hk5.mono fun c hc _=>⟨by have:=(R2 h6).bs;omega,fun e=>by have:=((R2 h6).row.lt c e).2;omega⟩
      exact hK (Ml v sl) _ _ ⟨v,sl,rfl⟩ Ab ⟨⟨t',_,hF5,fun h=>by simp at h⟩,fun _=>hK5,fun _=>⟨v,sl,t',rfl,⟨hx5,hB5,hl5,hn5⟩,hF5,fun _=>hks,fun h=>absurd (h5.symm.trans bg) aJ,fun h=>absurd (h6.symm.trans bg) aJ,fun h=>absurd (h8.symm.trans bg) aJ⟩⟩ aH
     ·have h6:L 6=false:=Bu Hdep.o 6 5 rfl hL;have h8:L 8=false:=Bu Hdep.o 8 6 rfl h6;obtain⟨v,sl,t',u4,hrd,hF3,hks,_,_,_⟩:=R3 hpre.1;obtain⟨A7,c7,rfl⟩:=(hks h6).form;have hba:Below W W (W.alloc (.cells (H3 (v,.slice A7 v.kids.length c7)).toArray 47)):=(At _ _).alloc (Ao _) _;unfold Ml at u4;go_simp;exact hK (.slice (W,0) 1 1) _ _ ⟨W.heap.size,rfl⟩ Ab ⟨⟨t',_,hF3.post hba,fun h=>absurd (hpre.1.symm.trans bg) aJ⟩,fun _=>(R2 h6).after hba,fun _=>⟨v,_,t',u4,hrd,hF3.post hba,fun _=>(hks h6).after hba,fun _ _=>⟨W,rfl,rfl,R2 h6,hks h6,hF3⟩,fun h=>absurd (h6.symm.trans bg) aJ,fun h=>absurd (h8.symm.trans bg) aJ⟩⟩ (by simp[Act.put,u4])
     ·have h8:L 8=false:=Bu Hdep.o 8 6 rfl hL;obtain⟨lv,uv⟩:=hpre.1;have ls:L 5=true:=hpre.2.1.1;have lc:L 4=true:=hpre.2.2.1;obtain⟨v,sl,t',u4,hrd,hF3,hks,hs,_,_⟩:=R3 lc;obtain⟨W7,rfl,u5,hK7,hk7,hF7⟩:=hs ls hL;obtain⟨A7,c7,e7⟩:=hk7.form;have hlen7:=hK7.row;rw[if_pos dx];refine S5 W7 (.tmp 18) (.tmp 22) 45 rfl (w.heap.size+2+1) 47 (.agg #[.int .u8 0,a8,.int .i64 0,.slice none 0 0]) 4 56 underlying45 Qbd rfl aJ (H3 (v,sl)) rfl (Qbk _ (by rw[e7];rfl)) (.slice A n c) xs.length (xs.flatMap H3) uv u5 hK7.row bj aG hK7.bs ?_;intro v' w' hown hg hwh;obtain⟨A5',n5',c5',rfl⟩:=Md hown;have hKa:=hK7.app (x:=(v,sl)) hk7 hown hg hwh;have hFa:Jf w b p k t' (Aj S 1000 N k tt).isNone w':=hF7.app hb0 hg (fun c e=>by have:=(hK7.row.lt c e).1;omega);exact hK _ _ _ ⟨A5',n5',c5',rfl⟩ Ab ⟨⟨t',_,hFa,fun h=>absurd (lc.symm.trans bg) aJ⟩,fun h=>by simp at h,fun _=>⟨v,sl,t',u4,hrd,hFa,fun h=>by simp at h,fun _ h=>by simp at h,fun _ _=>⟨A5',n5',c5',rfl,hKa⟩,fun h=>absurd (h8.symm.trans bg) aJ⟩⟩ rfl
     ·exact eW
     ·obtain⟨la,A5',n5',c5',ua⟩:=hpre.2.1;have up:=hpre.1.2;have ls:L 5=true:=by
       cases h5:L 5 with
       |true=>rfl
       |false=>exact absurd (la.symm.trans (Bu Hdep.o 6 5 rfl h5)) aJ
      have lc:L 4=true:=by
       cases h4:L 4 with
       |true=>rfl
       |false=>exact absurd (ls.symm.trans (Bu Hdep.o 5 4 rfl h4)) aJ
      obtain⟨v,sl,t',u4,hrd,hF3,_,_,ha,_⟩:=R3 lc;obtain⟨A6',n6',c6',ua',hKa⟩:=ha la hL;rw[ua]at hKa;have hcell:=hKa.c3;have hfz:=hKa.bk.live 3;have hst:=hKa.store;have hst2:Sn (w.heap.size+2+1) (w.heap.size+2) (W.setCell ⟨w.heap.size+2,3,none⟩ (.slice A5' n5' c5')) (.int .u8 91) a8 (.int .i64 0) (U 6) (U 6) (xs++[(v,sl)]):=by rw[ua];exact hst
      have hFs:Jf w b p k t' (Aj S 1000 N k tt).isNone (W.setCell ⟨w.heap.size+2,3,none⟩ (.slice A5' n5' c5')):=hF3.put hb0 aG _;go_simp;exact hK undef _ _ Ab Ab ⟨⟨t',_,hFs,fun h=>absurd (lc.symm.trans bg) aJ⟩,fun h=>absurd (la.symm.trans bg) aJ,fun _=>⟨v,sl,t',u4,hrd,hFs,fun h=>absurd (la.symm.trans bg) aJ,fun _ h=>absurd (la.symm.trans bg) aJ,fun _ h=>by simp at h,fun _=>⟨A5',n5',c5',ua,hst2⟩⟩⟩ (by simp[Act.put,hpre,up,ua,u4])
    rintro L U W hL hφ hR;clear hφ;obtain⟨_,_,h3⟩:=hR;obtain⟨v,sl,t',_,hrd,hF,_,_,_,hd⟩:=h3 (hL 4 aJ);obtain⟨A5,n5,c5,e5,hK5⟩:=hd (hL 8 aJ);rw[e5]at hK5;have F5:=Aa hF;have K5:=Aa hK5;have Rd5:=Aa hrd;have ht5:=hrd.2.2.1;clear hL h3 hd hF hK5 hrd;have Htk5:=Aa (fun W (h:E7 W b p t' (Aj S 1000 N k tt).isNone)=>Gs b p t' [44] (Aj S 1000 N k tt).isNone W h aG);go_wp2_with fail;refine(Htk5.o _ F5.o.1.1).mono ?_;rcases hc:Av [44] t' (Aj S 1000 N k tt).isNone with _|r
    ·have Hc:=Aa hc;clear hc;rintro e W6 ⟨rfl,hs6⟩;simp only[Option.getD_none]at hs6;have F6:=Aa (F5.o.step hb0 hs6);have K6:=Aa (K5.o.step hs6.2 aG aG)
     have E6:=Aa (show LE (Aj S 1000 N k) t1 false (Ay (xs++[(v,sl)])) t' (Aj S 1000 N k tt).isNone N from by
      have:=hI.o.brk (N:=N) Rd5.o.1 Hc.o Rd5.o.2.1 aG Rd5.o.2.2.2;simpa [Ay]using this)
     clear hs6 F5 K5 Hc;go_wp2_with fail;have Hw9:=Aa (fun W (h:E7 W b p t' (Aj S 1000 N k tt).isNone)=>Cv b p t' [93] (Aj S 1000 N k tt).isNone W h aG);refine(Hw9.o _ F6.o.1.1).mono ?_;rintro e W7 ⟨rfl,hs7⟩;have F7:=Aa (F6.o.step hb0 hs7);have K7:=Aa (K6.o.step hs7.2 aG aG);have hfin:=Aa (HQ.o.trans (E6.o.fin Ht1.o Hb1.o Hy.o));have hle9:=Dy 93 t' (Aj S 1000 N k tt).isNone;have hE9:=E6.o.2.1;obtain⟨t4,ht4⟩:∃t4,t4=(Av [93] t' (Aj S 1000 N k tt).isNone).getD t':=⟨_,rfl⟩
     obtain⟨b4,hb4⟩:∃b4,b4=(Av [93] t' (Aj S 1000 N k tt).isNone).isNone:=⟨_,rfl⟩
     rw[<-ht4]at F7 hfin hle9;rw[<-hb4]at F7 hfin;have e7:(Ay (xs++[(v,sl)])).length=((xs++[(v,sl)])).length:=by simp[Ay]
     obtain⟨ys,hys⟩:∃ys,ys=(xs++[(v,sl)]):=⟨_,rfl⟩
     rw[<-hys]at K7 hfin hE9 e7;have HB9:=Aa E6.o.2.2;rw[<-hys]at HB9;have hyl:ys.length<=1000:=by rw[hys];simp;omega
     have d0:=K7.o.c0;have d1:=K7.o.c1;have d2:=K7.o.c2;have d3:=K7.o.c3;have s7:=F7.o.1.1.2.1.live 2;have s8:=F7.o.1.1.2.2.2.2;have q7:=F7.o.1.1.1;have hn7:n5=ys.length:=J1 K7.o.row;subst hn7;clear hs7 ht4 hb4 hys;by_cases h20:ys.length<=20
     ·have t20:decide ((20:Int)<(ys.length:Int))=false:=aB aG;go_wp2_with ((with_reducible refine Ad (op:=⟨none,.store 47 _ _,_,_,_,none⟩) rfl 47 _ _ rfl (w.heap.size+1) 0 [.int .u8 91,a8,.int .i64 0,.slice A5 ys.length c5] ?_ ?_ ?_ ?_ ?_ ?_);rfl;rfl;(exact F7.o.2.2.1);kernel_rfl;(simp[Value.oneCell']);intro w9 HS9)
      have Z:=Jf.fin (t:=t) (N:=N+1) (v:=.mk 91 [] 0 (Ay ys)) (sl:=.slice A5 ys.length c5) (r:=q) F7.o hb0 HS9.o ((K7.o.done hyl).mono fun c hc _=>by omega) cH
       cH (.mk aJ aG aK HB9.o) aG dq
      exact im
     have t20:decide ((20:Int)<(ys.length:Int))=true:=aC aG;have F8:=Aa (F7.o.step hb0 ⟨F7.o.1.1.setBad true,A0 _ b 2 (.bool true)⟩);have K8:=Aa (K7.o.step (A0 _ b 2 (.bool true)) aG aG);go_wp2_with ((with_reducible refine Ad (op:=⟨none,.store 47 _ _,_,_,_,none⟩) rfl 47 _ _ rfl (w.heap.size+1) 0 [.int .u8 91,a8,.int .i64 0,.slice A5 ys.length c5] ?_ ?_ ?_ ?_ ?_ ?_);rfl;rfl;(exact F8.o.2.2.1);kernel_rfl;(simp[Value.oneCell']);intro w9 HS9)
     have Z:=Jf.fin (t:=t) (N:=N+1) (v:=.mk 91 [] 0 (Ay ys)) (sl:=.slice A5 ys.length c5) (r:=q) F8.o hb0 HS9.o ((K8.o.done hyl).mono fun c hc _=>by omega) dh
      dh (.mk aJ aG aK HB9.o) aG dq
     exact im
    have Hc:=Aa hc;have hcl:=G6 hc;clear hc;rintro e W6 ⟨rfl,hs6⟩;simp only[Option.getD_some]at hs6;cases hk:Aj S 1000 N k tt with
    |none=>rw[hk,Bw]at Hc;exact absurd Hc.o aK
    |some y=>
     have Hk:=Aa hk;rw[hk]at hs6 F5 Rd5;have F6:=Aa (F5.o.step hb0 hs6);have K6:=Aa (K5.o.step hs6.2 aG aG)
     have I6:=Aa (show LI (Aj S 1000 N k) t1 false (Ay (xs++[(v,sl)])) r from by
      obtain⟨e1,e2⟩:=Rd5.o.1 y rfl;have hg:=HG.o tt y.1 y.2 (by rw[Hk.o]);have h44:Al 44 t'=some r:=by have:=Hc.o;rw[Hk.o,Bw]at this;simpa using this
      have:=hI.o.step (v:=v) (t':=t') (by rw[Hk.o,e1,e2]) (by rw[hg,e1,e2];simp) h44 Rd5.o.2.1 aG;simpa [Ay]using this)
     have c6:=F6.o.1.1.2.2.2.1;clear hs6 F5 K5 hk;go_wp2_with fail;go_roundw
     case rel=>exact⟨xs++[(v,sl)],A5,n5,c5,r,by omega,c6,F6.o,K6.o,I6.o⟩
     case measure=>simp[c1,c6,ByteArray.size];omega
 have Hy:=Aa hy;have hlt:=G6 hy;clear hy;rintro e W3 ⟨rfl,hs3⟩;simp only[Option.getD_some]at hs3;have F3:=Aa (F2.o.step hb0 hs3);have K3:=Aa (K2.o.step hs3.2 aG aG);clear hs3 F2 K2;have d0:=K3.o.c0;have d1:=K3.o.c1;have d2:=K3.o.c2;have d3:=K3.o.c3;go_wp2_with ((with_reducible refine Ad (op:=⟨none,.store 47 _ _,_,_,_,none⟩) rfl 47 _ _ rfl (w.heap.size+1) 0 [.int .u8 91,a8,.int .i64 0,.slice none 0 0] ?_ ?_ ?_ ?_ ?_ ?_);rfl;rfl;(exact F3.o.2.2.1);kernel_rfl;(simp[Value.oneCell']);intro w9 HS9)
 have hq2:q=some (.mk 91 [] 0 [],r):=by
  have h1:=Ht1.o;have h2:=Hb1.o;have h3:=Hy.o;rw[HQ.o];rw[Bw]at h1 h2 h3;unfold Q7;simp only[an,if_false]at h1 h2;cases h9:Al 91 t with
  |none=>rw[h9]at h2;simp at h2;subst h2;simp at h3
  |some z=>
   rw[h9]at h1 h2;simp at h1 h2;subst h1 h2;simp only[an,if_false]at h3;simp only[h3]
 have Z:=Jf.fin (t:=t) (N:=N+1) (v:=.mk 91 [] 0 []) (sl:=.slice none 0 0) (r:=q) F3.o hb0 HS9.o (En.nil _ _) (by rw[hq2];cases b1;rfl;have:=Hy.o;rw[Bw]at this;simp at this)
  (by rw[hq2];simp) (Ec aJ aJ) aG (by simp[Bh,D7,H9,Ap];omega)
 exact aE (v:=.agg (Gf (.mk 91 [] 0 []) (.slice none 0 0)).toArray) (Ax results142 _ _ (w.heap.size+1) _ _ rfl Z.2 underlying47 rfl aM) rfl Z.1
theorem Vz(p:Value)(xs:List PT)(hok:∀y∈xs,D5 y.ty)(n:Nat)(k:Kd)(w:World)(hsc:Sw w p xs)(hk:C9 k)(hs:k.signs=[])(hb:k.base=[64])(x:PT)(hx:Ed xs k.name=some x)
  (hn:n<=9) (ih:x.ty.sort=85->∀f fs,x.ty.fields=f::fs->∀W,Sw W p xs->Calls prog 155 #[p,H4 f.kind] W (Fz (Cs (Ag xs) n f.kind) W)):
  Calls prog 155 #[p,H4 k] w (Fz (Cs (Ag xs) (n+1) k) w):=by
 have Hlen:=Aa (N3 (Ag xs) (fun t ht=>by obtain⟨y,hy,rfl⟩:=aw.1 ht;exact hok y hy))
 have HF:=Aa (show Cs (Ag xs) (n+1) k=if x.ty.sort=82 then[123,125]else match x.ty.fields with|[]=>[]|f::_=>if x.ty.sort=69 then 35::Aw f.tag else 60::(Aw f.tag++61::(Cs (Ag xs) n f.kind++[62]))from by
  rw[Cs,if_neg di,if_neg di,if_neg bE,if_neg bE,if_neg bE,G7,hx];rfl)
 have hxm:=(Fu hx).1;have Hto:=Aa (hok _ hxm);have hnl:=Ju hk;have Hsc:=Aa hsc;obtain⟨pb,A,cc,mb,rfl,q0,q1,q2,q3,q4,htys,_⟩:=hsc;obtain⟨z0,_,z1,z2,z3,z4,A8,c,hz8,hl8',hrow8⟩:=htys x hxm;rw[hz8]at z3;have Hrow:=Aa hrow8;have Ih:=Aa ih
 have Hlk:=Aa (fun W (h:Below w w W)=>show (Instr.lookup 156 (.map (some mb)) k.name false).run prog W=.ok x.blk W from by
  have:=Gr (Da.below q4 h) k.name aG;rw[hx]at this;exact this)
 have hmb:=q4.lt;unfold H4;rw[hs,hb];clear hk hs hb hx q1 q3 q4 htys hrow8 ih hok hz8 z2 z4 hxm;go_enter func155,ntmps155;go_wp2_with fail;refine(Gj _ _ _).mono ?_;rintro e w1 ⟨rfl,hb1⟩;obtain⟨hc1,_,hzz⟩:=Bs hb1;have y1:w1.cell? (w,1)=some (.string ⟨#[64]⟩):=(hc1 w 1 aK).trans aK;have y2:w1.cell? (w,2)=k.name:=(hc1 w 2 aK).trans aK;have Hb1:=@Aa (Below w w w1) (((At w.heap.size w).alloc (Ao _) _).trans (hb1.mono aK));have hz1:w.heap.size<w1.heap.size:=eD;have m1:w1.cell? (pb,1)=some (.map (some mb)):=(Hb1.o.cell (p:=⟨pb,1,none⟩) q0).trans q2;have u0:w1.cell? (x.blk,0)=some (.int .u8 (x.ty.sort.toNat:Int)):=(Hb1.o.cell (p:=⟨x.blk,0,none⟩) z0).trans z1;have u2:w1.cell? (x.blk,2)=some (.slice A8 x.ty.fields.length c):=(Hb1.o.cell (p:=⟨x.blk,2,none⟩) z0).trans z3;have Hlook:=Aa (fun q=>Hlk.o (w1.drewN q) (Hb1.o.trans ((below_drewN (At _ _) q).mono Hb1.o.size)));clear hc1 hzz hb1 q2 z1 z3;go_wp2_with fail;refine N7 [20,21,22,23,24,25,26,5]
  (fun i v W=>match i with|0=>v=pb|1=>v=pb|2=>v=(pb,1)|3=>v=.map (some mb)|4=>v=(w,2)|5=>v=k.name|6=>v=x.blk|7=>v=x.blk|_=>True)
  (fun L U W=>∃q,W=w1.drewN q) (⟨1,rfl⟩) ?_ ?_
 ·repeat (first|exact Aq.nil|(refine Aq.cons ?_ ?_;rotate_left))
  all_goals
   rintro L U W hL hpre HR Hdep K hK;obtain⟨q,rfl⟩:=HR.o;have hlq:=Hlook.o q;first|(simp[Region.binds]at hpre;done)|simp[Region.binds]at hpre|clear hpre
  iterate 8
   ·exact eW
 rintro L U W hL hφ hR;have e7:U 7=x.blk:=hφ 7 aJ;simp only[e7];clear hφ;obtain⟨q,rfl⟩:=hR;have Hbq:=Aa (Hb1.o.trans ((below_drewN (At w1.heap.size w1) q).mono Hb1.o.size));clear hL y1 y2 m1;by_cases h82:x.ty.sort=82
 ·have t82:((x.ty.sort.toNat:Int) == 82)=true:=Bk (d:=82) h82;have HF2:=Aa (HF.o.trans (if_pos h82));clear h82 HF;go_wp2_with fail;go_ret;exact⟨by rw[HF2.o];rfl,Hbq.o⟩
 have t82:((x.ty.sort.toNat:Int) == 82)=false:=Am (d:=82) h82;have HF2:=Aa (HF.o.trans (if_neg h82));have hne:x.ty.fields≠[]:=fun h=>h82 (Hto.o.2.2.2.2 h);obtain⟨f,fs,hfs⟩:∃f fs,x.ty.fields=f::fs:=by
  cases h:x.ty.fields with
  |nil=>exact absurd h hne
  |cons f fs=>exact⟨f,fs,rfl⟩
 have hf0:0<x.ty.fields.length:=cr;have hge:x.ty.fields[0]=f:=by simp[hfs]
 have hft:=Hto.o.2.2.1.1 f cr;have htag:f.tag<=200:=hft.2.1;have hdl:=Dh 2 f.tag bV;have Hd:=Aa (fun W=>M9 f.tag f.tag W (Ao _) aG);have hi0:(0:Int)<(x.ty.fields.length:Int):=aG;have HF3:=@Aa (Cs (Ag xs) (n+1) k=if x.ty.sort=69 then 35::Aw f.tag else 60::(Aw f.tag++61::(Cs (Ag xs) n f.kind++[62]))) (by rw[HF2.o,hfs]);have Hfs:=Aa hfs;obtain⟨b,off,rfl,hbl,hrg⟩:=Qi.range Hrow.o hf0;rw[hge]at hrg;have hrq:=Au hrg hbl Hbq.o;simp only[Nat.zero_mul,Nat.add_zero]at hrq;have g0:(w1.drewN q).cell? ⟨b,off,none⟩=(f.tag:Int):=by simpa using Ac hrq 0 rfl
 have G2:=Aa (Ac hrq 2 rfl);have G3:=Aa (Ac hrq 3 rfl);have G4:=Aa (Ac hrq 4 rfl);have H82:=Aa h82;clear HF2 HF h82 hne hfs hge hft hrg hrq;by_cases h69:x.ty.sort=69
 ·have t69:((x.ty.sort.toNat:Int) == 69)=true:=Bk (d:=69) h69;have HF4:=Aa (HF3.o.trans (if_pos h69));clear h69 HF3;go_wp2_with fail;refine(Hd.o _).mono ?_;rintro e w2 ⟨rfl,hb2⟩;go_wp2_with fail;go_ret;exact⟨by rw[HF4.o];simp,Hbq.o.trans (hb2.mono Hbq.o.size)⟩
 have t69:((x.ty.sort.toNat:Int) == 69)=false:=Am (d:=69) h69;have HF4:=Aa (HF3.o.trans (if_neg h69));have h85:x.ty.sort=85:=by
  rcases Hto.o.1 with h|h|h
  ·exact absurd h H82.o
  ·exact h
  exact absurd h h69
 have Ih2:=Aa (Ih.o h85 f fs Hfs.o);unfold H4 at Ih2;have hsl:=Hlen.o n f.kind;generalize Cs (Ag xs) n f.kind=sl at *;clear h69 HF3 h85 Ih;go_wp2_with fail;obtain⟨W0,hW0⟩:∃W0,W0=w1.drewN q:=⟨_,rfl⟩
 rw[<-hW0]at Hbq g0 G2 G3 G4 ⊢;have Y2:=@Aa (W0.cell? (x.blk,2)=some (.slice (some ⟨b,off,none⟩) x.ty.fields.length c)) (by rw[hW0];exact u2);have Y0:=Aa g0;have Y3:=@Aa (W0.cell? ⟨b,off+2,none⟩=some (.string ⟨f.kind.signs.toArray⟩)) G2.o;have Y4:=@Aa (W0.cell? ⟨b,off+3,none⟩=some (.string ⟨f.kind.base.toArray⟩)) G3.o;have Y5:=@Aa (W0.cell? ⟨b,off+4,none⟩=some (.string ⟨f.kind.name.toArray⟩)) G4.o;have Hx5:=@Aa (x.blk<W0.heap.size) (ac z0 Hbq.o.size);have Hb5:=@Aa (b<W0.heap.size) (ac hbl Hbq.o.size);have Hsc0:=Aa (Hsc.o.below Hbq.o);clear hW0 g0 u0 u2;refine N7 [44,45,46,47,48,49,50,51,52,53,54,55,56,57,58,59,60,61,62,63,64,4]
  (fun i v W=>match i with|0=>v=x.blk|1=>v=x.blk|2=>v=(x.blk,2)|3=>v=.slice (some ⟨b,off,none⟩) x.ty.fields.length c|4=>v=.pointer (some ⟨b,off,none⟩)|5=>v=.pointer (some ⟨b,off,none⟩)|6=>v=(f.tag:Int)|7=>v=.string ⟨(Aw f.tag).toArray⟩|8=>v=.string ⟨(60::Aw f.tag).toArray⟩|9=>v=.string ⟨(60::(Aw f.tag++[61])).toArray⟩|10=>v=pb|11=>v=x.blk|12=>v=x.blk|13=>v=(x.blk,2)|14=>v=.slice (some ⟨b,off,none⟩) x.ty.fields.length c|15=>v=.pointer (some ⟨b,off,none⟩)|16=>v=.pointer (some ⟨b,off+2,none⟩)|17=>v=.agg #[.string ⟨f.kind.signs.toArray⟩,.string ⟨f.kind.base.toArray⟩,.string ⟨f.kind.name.toArray⟩]|18=>v=.string ⟨(sl).toArray⟩|19=>v=.string ⟨(60::(Aw f.tag++61::sl)).toArray⟩|20=>v=.string ⟨(60::(Aw f.tag++61::(sl++[62]))).toArray⟩|21=>v=.string ⟨(60::(Aw f.tag++61::(sl++[62]))).toArray⟩|_=>True)
  (fun L U W=>Below W0 W0 W) ((At _ _).drew) ?_ ?_
 ·repeat (first|exact Aq.nil|(refine Aq.cons ?_ ?_;rotate_left))
  all_goals
   rintro L U W hL hpre HR Hdep K hK;have hB:=HR.o;have c2:=(hB.cell (p:=⟨x.blk,2,none⟩) Hx5.o).trans Y2.o;have c0:=(hB.cell (p:=⟨b,off,none⟩) Hb5.o).trans Y0.o;have c3:=(hB.cell (p:=⟨b,off+2,none⟩) Hb5.o).trans Y3.o;have c4:=(hB.cell (p:=⟨b,off+3,none⟩) Hb5.o).trans Y4.o;have c5:=(hB.cell (p:=⟨b,off+4,none⟩) Hb5.o).trans Y5.o;have c4':W.cell? ⟨b,off+2+1,none⟩=_:=c4;have c5':W.cell? ⟨b,off+2+1+1,none⟩=_:=c5;have c5'':W.cell? ⟨b,off+2+2,none⟩=_:=c5;first|(simp[Region.binds]at hpre;done)|simp[Region.binds]at hpre|clear hpre
  iterate 7
   ·exact eW
  ·exact fW
  ·exact fc
  ·exact fc
  iterate 8
   ·exact eW
  ·exact fR
  ·exact fc
  ·exact fc
  ·exact eW
 rintro L U W hL hφ hR;have e21:U 21=.string ⟨(60::(Aw f.tag++61::(sl++[62]))).toArray⟩:=hφ 21 aJ;simp only[e21];clear hφ;have Hb9:=Aa (Hbq.o.trans (hR.mono Hbq.o.size));clear hR;go_wp2_with fail;go_ret;exact⟨by rw[HF4.o];rfl,Hb9.o⟩
theorem Pp(p:Value)(S:List Ty)(n:Nat)(k:Kd)(w:World)(hk:C9 k)(h:¬(k.signs=[]/\k.base=[64])):
  Calls prog 155 #[p,H4 k] w (Fz (Cs S (n+1) k) w):=by
 unfold H4;cases hs:k.signs with
 |cons c t=>
  have hc:=N5 hk hs;have hl:=hk.2.2;unfold Br at hl;rw[hs]at hl;rw[Ms _ _ k c t hs hc];exact Vp p c t _ _ w hc (by simp at hl;omega)
 |nil=>
  have hb:k.base≠[64]:=fun hb=>h ⟨hs,hb⟩;rw[Kb _ _ k hs (Kp hk hs hb).2];exact Sm p k.base _ w (Kp hk hs hb).2
theorem Xv(p:Value)(xs:List PT)(hok:∀x∈xs,D5 x.ty)(hS:Fa (Ag xs)):∀(n:Nat),n<=9->∀(k:Kd) (w:World),Sw w p xs->C9 k->B0 (Ag xs) k->S4 (Ag xs) n k ->
  Calls prog 155 #[p,H4 k] w (Fz (Cs (Ag xs) (n+1) k) w):=by
 intro n;induction n with
 |zero=>
  intro _ k w hsc hk hr he;refine Pp p _ 0 k w hk (fun h=>?_);obtain⟨t,_,h2⟩:=he h.1 h.2;exact absurd h2 (by simp[Bm])
 |succ n ih=>
  intro hn k w hsc hk hr he;by_cases hsb:k.signs=[]/\k.base=[64]
  ·obtain⟨hs,hb⟩:=hsb;have h1:=hr hb;rw[G7]at h1;cases hx:Ed xs k.name with
   |none=>rw[hx]at h1;cases h1
   |some x=>
    have hft:By (Ag xs) k.name=some x.ty:=(Fu hx).2.2;have hto:D5 x.ty:=hok _ (Fu hx).1;refine Vz p xs hok (n+1) k w hsc hk hs hb x hx hn (fun h85 f fs hfs W hW=>?_);have hrf:B0 (Ag xs) f.kind:=hS x.ty (B6 hft).1 da f cr;exact hD
  exact Pp p _ (n+1) k w hk hsb
theorem Zd(p:Value)(xs:List PT)(h:Ps (Ag xs))(k:Kd)(w:World)(hsc:Sw w p xs)(hk:C9 k)(hr:B0 (Ag xs) k):
  Calls prog 155 #[p,H4 k] w (Fz (Qd (Ag xs) k) w):=
 Xv p xs (fun x hx=>h.1.1 x.ty (ao hx)) h.2.1 9 (Ao _) k w hsc hk hr (Tt h hr)
theorem Qfl(p:Value)(xs:List PT)(h:Ps (Ag xs))(f:Fd)(b o:Nat)(w:World)(hsc:Sw w p xs)(hf:w.rangeAt b o (Qm f))(hk:C9 f.kind)(hr:B0 (Ag xs) f.kind)(hl:f.given.length<=1000):
  Calls prog 121 #[p,.pointer (some ⟨b,o,none⟩)] w (Fz (P1 (Ag xs) f) w):=by
 have HF:=@Aa (P1 (Ag xs) f=if f.given=[]then Qd (Ag xs) f.kind else f.given) rfl;have Hs:=Aa (fun W (h1:Sw W p xs)=>Zd p xs h f.kind W h1 hk hr);have Hsc:=Aa hsc;unfold H4 at Hs;have c2:w.cell? ⟨b,o+2,none⟩=f.kind.signs:=Ac hf 2 rfl;have c3:w.cell? ⟨b,o+3,none⟩=f.kind.base:=Ac hf 3 rfl;have c4:w.cell? ⟨b,o+4,none⟩=f.kind.name:=Ac hf 4 rfl;have c5:w.cell? ⟨b,o+5,none⟩=f.given:=Ac hf 5 rfl;have c3':w.cell? ⟨b,o+2+1,none⟩=f.kind.base:=c3;have c4':w.cell? ⟨b,o+2+1+1,none⟩=f.kind.name:=c4;have c4'':w.cell? ⟨b,o+2+2,none⟩=f.kind.name:=c4;clear h hk hr hsc hf;by_cases hg:f.given=[]
 ·have HF2:=Aa (HF.o.trans (if_pos hg));rw[hg]at c5;clear hg HF;go_enter func121,ntmps121;go_wp2_with fail;refine(Hs.o _ Hsc.o).mono ?_;rintro e w1 ⟨rfl,hb1⟩;go_wp2_with fail;go_ret;exact⟨by rw[HF2.o];rfl,hb1⟩
 have HF2:=Aa (HF.o.trans (if_neg hg));have t1:f.given.isEmpty=false:=by simpa using hg
 have t2:(!f.given.isEmpty)=true:=by simp[t1]
 clear hg HF;go_enter func121,ntmps121;go_wp2_with fail;go_ret;exact⟨by rw[HF2.o];rfl,At _ _⟩
def Nc(w:World)(b:Nat)(p:Value)(R:Nat)(t:List UInt8)(bad:Bool)(W:World):Prop:=Cw w b p t bad W/\W.there R 0 4/\w.heap.size<=R/\R<W.heap.size
theorem Nc.post{w W W':World}{b R:Nat}{p:Value}{t:List UInt8}{bad:Bool}(h:Nc w b p R t bad W)(hb:Below W W W'):Nc w b p R t bad W':=
 ⟨h.1.post hb,Ar h.2.1 h.2.2.2 hb,h.2.2.1,ac h.2.2.2 hb.size⟩
theorem Nc.step{w W W':World}{b R:Nat}{p:Value}{t t':List UInt8}{bad bad':Bool}(h:Nc w b p R t bad W)(hb:b<w.heap.size)(hs:Cw W b p t' bad' W'):Nc w b p R t' bad' W':=
 ⟨h.1.trans hs,Fv h.2.1 hs.2 h.2.2.2 (by have:=h.2.2.1;simp;omega),h.2.2.1,ac h.2.2.2 hs.2.size⟩
theorem Cw.app{w W W':World}{b:Nat}{p:Value}{t:List UInt8}{bad:Bool}{row:Option Nat}(h:Cw w b p t bad W)(hb:b<w.heap.size)(hg:W.grownBy W' row)(hr:∀k,row=some k->w.heap.size<=k):Cw w b p t bad W':=by
 have hn:∀c,c<w.heap.size->some c≠row:=fun c hc e=>by have:=hr c e.symm;omega
 obtain⟨⟨h0,h1,h2,h3,h4⟩,hg0⟩:=h;exact⟨⟨ac h0 hg.size,h1.grown h0 hg (hn b hb),hg.cell h2 (hn b hb),hg.cell h3 (hn b hb),hg.cell h4 (hn b hb)⟩,⟨hg.os.trans hg0.os,hg.tape.trans hg0.tape,hg.output.trans hg0.output,ad hg0.size hg.size,fun k hk hne=>(hg.block k (ac hk hg0.size) (hn k hk)).trans (hg0.block k hk hne)⟩⟩
theorem Nc.app{w W W':World}{b R:Nat}{p:Value}{t:List UInt8}{bad:Bool}{row:Option Nat}(h:Nc w b p R t bad W)(hb:b<w.heap.size)(hg:W.grownBy W' row)(hr:∀k,row=some k->R<k):Nc w b p R t bad W':=
 ⟨h.1.app hb hg fun k e=>by have:=hr k e;have:=h.2.2.1;omega,Fv h.2.1 hg h.2.2.2 (fun e=>by have:=hr R e.symm;omega),h.2.2.1,ac h.2.2.2 hg.size⟩
theorem Nc.fin{w W w9:World}{b R:Nat}{p:Value}{t:List UInt8}{bad:Bool}{v:Vl}{sl:Value}(F:Nc w b p R t bad W)(hb:b<w.heap.size)(HS:w9=W.setCells R 0 (Gf v sl))(hv:En (fun c=>R<c) W sl v.kids):
  En (fun c=>w.heap.size<=c) w9 sl v.kids/\Cw w b p t bad w9/\w9.rangeAt R 0 (Gf v sl):=by
 subst HS;have:=F.2.2.1;exact⟨(hv.set (B:=R) aG _).mono fun c hc _=>by omega,F.1.set aG aG _,aa _ _ _ _ F.2.1⟩
def Qgn(w0 w:World)(b:Nat)(p:Value)(t:List UInt8)(N:Nat)(fs:List Fd)(r:Option ((Fd × Vl) × List UInt8))(e:Ending)(w':World):Prop:=
 ∃(v:Vl) (sl fp:Value) (t':List UInt8),e=.returned (.tuple #[Ml v sl,fp])/\En (fun c=>w.heap.size<=c) w' sl v.kids/\Cw w b p t' r.isNone w'/\Bd v/\t'.length<=t.length/\(Bh v).length+t'.length<=t.length+8*N /\
  ((fp=.pointer none/\r=none)\/∃g x,Gl w0.heap.size w' fp (some g)/\v=Dm (g,x)/\Bc fs g.tag=some g/\Bd x/\∀y,r=some y->y=((g,x),t'))
theorem Gl.via{B:Nat}{w0 W W':World}{v:Value}{o:Option Fd}(h:Gl B W v o)(h1:Below B w0 W)(h2:Below B w0 W'):Gl B W' v o:=by
 cases o with
 |none=>exact h
 |some f=>
  obtain⟨b,o,e,hb,hr⟩:=h;exact⟨b,o,e,hb,fun j u hu=>(h2.cell (p:=⟨b,o+j,none⟩) hb).trans ((h1.cell (p:=⟨b,o+j,none⟩) hb).symm.trans (hr j u hu))⟩
theorem Zj(fs:List Fd)(t:List UInt8):E0 fs t=if Fg 200 t then(Bc fs (Ga t)).map (fun f=>(f,t.dropWhile Az))else none:=by
 unfold E0;rw[Zq];unfold Fg Ga;cases h:Cc (t.takeWhile Az)with
 |none=>simp
 |some n=>
  have:=(Bt.1 h).1;simp only[decide_eq_true_eq,this,if_true,Option.getD_some];by_cases h2:n<=200
  ·rw[if_pos h2,if_pos h2];cases Bc fs n<;>rfl
  rw[if_neg h2,if_neg h2]
theorem Qck(K:Kd->List UInt8->Option (Vl × List UInt8))(fs:List Fd)(t:List UInt8):Cn K fs t=match Bc fs (Ga t)with
  |none=>none
  |some f=>match Av [61] (t.dropWhile Az) (!Fg 200 t)with
   |none=>none
   |some q=>match K f.kind q with|some (v,z)=>some ((f,v),z)|none=>none:=by
 unfold Cn;rw[Zj];simp only[Bw];cases Fg 200 t<;>cases Bc fs (Ga t)<;>simp
 rfl
theorem Qgd(t:List UInt8)(h:Fg 200 t=true):(Aw (Ga t)).length+(t.dropWhile Az).length=t.length:=by
 unfold Fg at h;unfold Ga;cases hd:Cc (t.takeWhile Az)with
 |none=>rw[hd]at h;cases h
 |some n=>
  have e:=(Bt.1 hd).2;simp only[Option.getD_some];rw[<-e,<-ah,List.takeWhile_append_dropWhile]
theorem Yp(w0:World)(b N:Nat)(p:Value)(S:List Ty)(x:PT)(hx:Pw w0 x)(t:List UInt8)(w:World)(hw:Below w0 w0 w)(hb:w0.heap.size<=b)(bad:Bool)(h:E7 w b p t bad)(hl:t.length<=900)(hN:bad=false->t.length<=N)(hN2:N<=2000)
  (htg:∀f∈x.ty.fields,f.tag<=200) (H:∀f∈x.ty.fields,IvC w0 b p S N f.kind) (q:Option ((Fd × Vl) × List UInt8)) (hq:q=if bad then none else Cn (Aj S 1000 N) x.ty.fields t):
  Calls prog 176 #[b,x.blk] w (Qgn w0 w b p t N x.ty.fields q):=by
 have HQ:=Aa (hq.trans (by rw[Qck]));have Hnl:=Aa (Qgd t);have HS:=Aa h;have HW:=Aa hw;have hb0:=h.1;have hbn:¬(b=w.heap.size):=aG;have hnn:=Vu t;have hdr:=Vr Az t;have Hn:=Aa (fun W (h:E7 W b p t bad)=>M2 b 200 p t bad W h aG aJ);have Hf:=Aa (fun W (hW:Below w0 w0 W)=>Rq w0 x hx (Ga t) W hW aG);have hxb:x.blk<w0.heap.size:=hx.1;clear h hw hq;obtain⟨b1,hb1⟩:∃b1,b1=(bad || !Fg 200 t):=⟨_,rfl⟩
 have Hb1:=Aa hb1;rw[<-hb1]at Hn;generalize t.dropWhile Az=t1 at *;have hm:=Dy 61 t1 b1;have Hwt:=Aa (fun W (h:E7 W b p t1 b1)=>Cv b p t1 [61] b1 W h aG);have Hlt0:=Aa (fun r (h:Av [61] t1 b1=some r)=>G6 h);clear hb1;cases hfo:Bc x.ty.fields (Ga t)with
 |none=>
  rw[hfo]at Hf HQ;have hq0:=@Aa (q=none) (by have:=HQ.o;cases bad<;>simpa using this);generalize Ga t=n at *;generalize (Av [61] t1 b1).getD t1=t2 at *;generalize (Av [61] t1 b1).isNone=b2 at *;clear hfo HQ Hnl;go_enter func176,ntmps176;go_wp2_with fail;have F0:=@Aa (Nc w b p w.heap.size t bad (w.alloc (.cells #[.int .u8 0,a8,.int .i64 0,.slice none 0 0] 47))) ⟨⟨HS.o.grow ((At _ _).alloc (Ao _) _),Cm ((At _ _).alloc (Ao _) _) _⟩,Cq w [.int .u8 0,a8,.int .i64 0,.slice none 0 0] _,Ao _,by simp⟩;refine(Hn.o _ F0.o.1.1).mono ?_;rintro e w2 ⟨rfl,hs2⟩;have F2:=Aa (F0.o.step hb0 hs2);clear hs2;go_wp2_with fail;refine(Hf.o _ (F2.o.1.env HW.o hb)).mono ?_;rintro e w3 ⟨fp,rfl,hfp,rfl⟩;have hfp':fp=.pointer none:=hfp;subst hfp';go_wp2_with fail;refine(Hwt.o _ F2.o.1.1).mono ?_;rintro e w4 ⟨rfl,hs4⟩;have F4:=Aa (F2.o.step hb0 hs4);clear hs4;have sb:=F4.o.1.1.2.1.live 2;have s0:=F4.o.1.1.1;have s2:=F4.o.1.1.2.2.2.2;have F5:=Aa (F4.o.step hb0 ⟨F4.o.1.1.setBad true,A0 _ b 2 (.bool true)⟩);go_wp2_with ((with_reducible refine Ad (op:=⟨none,.store 47 _ _,_,_,_,none⟩) rfl 47 _ _ rfl w 0 [.int .u8 0,a8,.int .i64 0,.slice none 0 0] ?_ ?_ ?_ ?_ ?_ ?_);rfl;rfl;(exact F5.o.2.1);kernel_rfl;(simp[Value.oneCell']);intro w9 HS9)
  have Z:=Nc.fin (v:=Ev) (sl:=.slice none 0 0) F5.o hb0 HS9.o (En.nil _ _);refine aE (v:=.tuple #[.agg (Gf Ev (.slice none 0 0)).toArray,.pointer none]) (An results176 _ _ w.heap.size _ _ _ rfl rfl Z.2.2 underlying47 rfl aM) rfl ?_;exact⟨Ev,.slice none 0 0,.pointer none,t2,rfl,Z.1,by rw[hq0.o];exact Z.2.1,Ec aJ aJ,by omega,by simp[Ev,Bh,D7,H9];omega,.inl ⟨rfl,hq0.o⟩⟩
 |some g=>
  obtain⟨hgt,hgm⟩:=Cb hfo;have hg2:=htg g hgm;have Hfg:=Aa (show Bc x.ty.fields g.tag=some g by rw[hgt];exact hfo);rw[hfo]at Hf HQ;simp only at HQ;have HH:=Aa (H g hgm);cases hc:Av [61] t1 b1 with
  |none=>
   have hq0:=Aa (show q=none from by
    rw[HQ.o];cases bad with
    |true=>rfl
    |false=>rw[if_neg aJ];rw[show Av [61] t1 (!Fg 200 t)=none by have:=Hb1.o;rw[Bool.false_or]at this;rw[<-this];exact hc])
   rw[hc]at Hwt;simp only[Option.isNone_none,Option.getD_none]at Hwt;generalize Ga t=n at *;clear hfo HQ Hnl hc hm;subst hgt;obtain⟨b2,hb2⟩:∃b2,b2=true:=⟨_,rfl⟩
   rw[<-hb2]at Hwt;go_enter func176,ntmps176;go_wp2_with fail;have F0:=@Aa (Nc w b p w.heap.size t bad (w.alloc (.cells #[.int .u8 0,a8,.int .i64 0,.slice none 0 0] 47))) ⟨⟨HS.o.grow ((At _ _).alloc (Ao _) _),Cm ((At _ _).alloc (Ao _) _) _⟩,Cq w [.int .u8 0,a8,.int .i64 0,.slice none 0 0] _,Ao _,by simp⟩;refine(Hn.o _ F0.o.1.1).mono ?_;rintro e w2 ⟨rfl,hs2⟩;have F2:=Aa (F0.o.step hb0 hs2);clear hs2;go_wp2_with fail;refine(Hf.o _ (F2.o.1.env HW.o hb)).mono ?_;rintro e w3 ⟨fp,rfl,hfp,rfl⟩;obtain⟨fb,fo,rfl,hfb,hfr⟩:=hfp;go_wp2_with fail;refine(Hwt.o _ F2.o.1.1).mono ?_;rintro e w4 ⟨rfl,hs4⟩;have F4:=Aa (F2.o.step hb0 hs4);clear hs4;have sb:=F4.o.1.1.2.1.live 2;have s0:=F4.o.1.1.1;have s2:=F4.o.1.1.2.2.2.2;have F5:=Aa (F4.o.step hb0 ⟨F4.o.1.1.setBad true,A0 _ b 2 (.bool true)⟩);subst hb2;go_wp2_with ((with_reducible refine Ad (op:=⟨none,.store 47 _ _,_,_,_,none⟩) rfl 47 _ _ rfl w 0 [.int .u8 0,a8,.int .i64 0,.slice none 0 0] ?_ ?_ ?_ ?_ ?_ ?_);rfl;rfl;(exact F5.o.2.1);kernel_rfl;(simp[Value.oneCell']);intro w9 HS9)
   have Z:=Nc.fin (v:=Ev) (sl:=.slice none 0 0) F5.o hb0 HS9.o (En.nil _ _);refine aE (v:=.tuple #[.agg (Gf Ev (.slice none 0 0)).toArray,.pointer none]) (An results176 _ _ w.heap.size _ _ _ rfl rfl Z.2.2 underlying47 rfl aM) rfl ?_;exact⟨Ev,.slice none 0 0,.pointer none,t1,rfl,Z.1,by rw[hq0.o];exact Z.2.1,Ec aJ aJ,by omega,by simp[Ev,Bh,D7,H9];omega,.inl ⟨rfl,hq0.o⟩⟩
  |some t2=>
   have hlt:=Hlt0.o t2 hc;have hbb:bad=false/\b1=false/\Fg 200 t=true:=by
    have h1:b1=false:=by
     cases b1 with
     |false=>rfl
     |true=>rw[Bw]at hc;simp at hc
    have h2:=Hb1.o;rw[h1]at h2;cases bad<;>cases hnb:Fg 200 t<;>simp[hnb]at h2 ⊢
    exact h1
   obtain⟨rfl,rfl,hnb⟩:=hbb;have hnl:=Hnl.o hnb;rw[hgt.symm]at hnl
   have hq0:=Aa (show q=(match Aj S 1000 N g.kind t2 with|some (v,z)=>some ((g,v),z)|none=>none)from by
    rw[HQ.o,if_neg aJ,hnb];show (match Av [61] t1 false with|none=>none|some q=>match Aj S 1000 N g.kind q with|some (v,z)=>some ((g,v),z)|none=>none)=_;rw[hc])
   rw[hc]at Hwt;simp only[Option.isNone_some,Option.getD_some]at Hwt;have h2N:t2.length<N:=by have:=hN rfl;omega
   generalize Ga t=n at *;clear hfo HQ Hnl hc hm Hb1 hnb Hlt0;subst hgt;go_enter func176,ntmps176;go_wp2_with fail;have F0:=@Aa (Nc w b p w.heap.size t false (w.alloc (.cells #[.int .u8 0,a8,.int .i64 0,.slice none 0 0] 47))) ⟨⟨HS.o.grow ((At _ _).alloc (Ao _) _),Cm ((At _ _).alloc (Ao _) _) _⟩,Cq w [.int .u8 0,a8,.int .i64 0,.slice none 0 0] _,Ao _,by simp⟩;refine(Hn.o _ F0.o.1.1).mono ?_;rintro e w2 ⟨rfl,hs2⟩;have F2:=Aa (F0.o.step hb0 hs2);clear hs2;go_wp2_with fail;refine(Hf.o _ (F2.o.1.env HW.o hb)).mono ?_;rintro e w3 ⟨fp,rfl,hfp,rfl⟩;obtain⟨fb,fo,rfl,hfb,hfr⟩:=hfp;go_wp2_with fail;refine(Hwt.o _ F2.o.1.1).mono ?_;rintro e w4 ⟨rfl,hs4⟩;have F4:=Aa (F2.o.step hb0 hs4);clear hs4;have HFR:=@Aa (Gl w0.heap.size w4 (.pointer (some ⟨fb,fo,none⟩)) (some g)) (Gl.via ⟨fb,fo,rfl,hfb,hfr⟩ (F2.o.1.env HW.o hb) (F4.o.1.env HW.o hb));have G4:=@Aa (w4.rangeAt fb fo (Qm g)) (by obtain⟨a1,a2,a3,_,a5⟩:=HFR.o;injection a3 with a3;injection a3 with a3;injection a3 with a3 a4;subst a3 a4;exact a5);have s2:=F4.o.1.1.2.2.2.2;have g2:=Ac G4.o 2 rfl;have g3:=Ac G4.o 3 rfl;have g4:=Ac G4.o 4 rfl;have g3':w4.cell? ⟨fb,fo+2+1,none⟩=g.kind.base:=g3;have g4':w4.cell? ⟨fb,fo+2+1+1,none⟩=g.kind.name:=g4;have g4'':w4.cell? ⟨fb,fo+2+2,none⟩=g.kind.name:=g4;clear hfr;have HV:=Aa (fun W (h1:Below w0 w0 W) (h2:E7 W b p t2 false)=>HH.o t2 false W h1 h2 aG (fun _=>h2N));unfold H4 at HV;simp only[an,if_false]at HV;go_wp2_with fail;refine(HV.o _ (F4.o.1.env HW.o hb) F4.o.1.1).mono ?_;rintro e w5 ⟨v,sl,t',rfl,hk5,hs5,hx5,hB5,hl5,hn5⟩;obtain⟨A7,c7,rfl⟩:=hk5.form;have F5:=Aa (F4.o.step hb0 hs5);have Hk5:=Aa hk5;have Hx5:=Aa hx5;have HB5:=Aa hB5;have hz4:=F4.o.2.2.2;clear hs5 hk5 hx5 hB5 g2 g3 g4 g3' g4' g4'' s2;unfold Ml;go_wp2_with fail;obtain⟨W6,hW6⟩:∃W6,W6=w5.alloc (.cells #[.int .u8 (v.what.toNat:Int),v.text,(v.tag:Int),.slice A7 v.kids.length c7] 47):=⟨_,rfl⟩
   rw[<-hW6];have hb6:Below w5 w5 W6:=by rw[hW6];exact(At _ _).alloc (Ao _) _
   have F6:=Aa (F5.o.post hb6);have HP6:=Aa (HFR.o.via (F4.o.1.env HW.o hb) (F6.o.1.env HW.o hb));have X6:=@Aa (W6.rangeAt w5 0 [.int .u8 (v.what.toNat:Int),v.text,(v.tag:Int),.slice A7 v.kids.length c7]) (by rw[hW6];exact Cg w5 [.int .u8 (v.what.toNat:Int),v.text,(v.tag:Int),.slice A7 v.kids.length c7] _);have Hk6:=Aa (Hk5.o.after hb6);have hz6:w5.heap.size<W6.heap.size:=by rw[hW6];simp
   have HW6:=Aa (F6.o.1.env HW.o hb);have hz5:=F5.o.2.2.2;generalize w5.heap.size=B7 at *;clear hW6 hb6;have D0:=@Aa (W6.cell? ⟨fb,fo,none⟩=(g.tag:Int)) (by obtain⟨a1,a2,a3,_,a5⟩:=HP6.o;injection a3 with a3;injection a3 with a3;injection a3 with a3 a4;subst a3 a4;simpa using Ac a5 0 rfl);refine Ba [32,33,34,35,36,37,38,39,999,5] aM aM aM (fun u=>by dsimp only[Bj,Bb,List.set,am,Nat.reduceAdd])
    (fun ix u W=>match ix with|0=>u=.pointer (some ⟨fb,fo,none⟩)|1=>u=.pointer (some ⟨fb,fo,none⟩)|2=>u=.pointer (some ⟨fb,fo,none⟩)|3=>u=(g.tag:Int)|4=>u=.agg #[.int .u8 (v.what.toNat:Int),v.text,(v.tag:Int),.slice A7 v.kids.length c7]|5=>∃c,u=.slice (some ⟨c,0,none⟩) 1 1|6=>∃c,u=.agg #[.int .u8 61,a8,(g.tag:Int),.slice (some ⟨c,0,none⟩) 1 1]|7=>u=.pointer (some ⟨fb,fo,none⟩)|9=>u=.pointer (some ⟨fb,fo,none⟩)|_=>True)
    (fun L U W=>(L 8=false->Below W6 W6 W)/\(L 5=true->L 8=false->∃W7,W=W7.alloc (.cells (H3 (v,.slice A7 v.kids.length c7)).toArray 47)/\U 5=.slice (some ⟨W7.heap.size,0,none⟩) 1 1/\Below W6 W6 W7)/\(L 6=true->U 6=.agg #[.int .u8 61,a8,(g.tag:Int),U 5]) /\
  (L 8=true->∃W7,W=(W7.alloc (.cells (H3 (v,.slice A7 v.kids.length c7)).toArray 47)).setCells w 0 [.int .u8 61,a8,(g.tag:Int),.slice (some ⟨W7.heap.size,0,none⟩) 1 1]/\Below W6 W6 W7)) (fun _ _=>True) (fun _ _ _ _ _ h=>h) (⟨fun _=>(At _ _).drew,fun h=>Bool.noConfusion h,fun h=>Bool.noConfusion h,fun h=>Bool.noConfusion h⟩) ?_ ?_
   ·repeat (first|exact Aq.nil|(refine Aq.cons ?_ ?_;rotate_left))
    all_goals
     rintro L U W hL hpre hR hun hdep K hK;have HR:=Aa hR;obtain⟨R1,R2,R3,R4⟩:=HR.o;have Hdep:=Aa hdep;clear hun hdep hR;first|(simp[Region.binds]at hpre;done)|simp[Region.binds]at hpre|clear hpre
    iterate 3
     ·exact eW
    ·have h6:L 6=false:=Bu Hdep.o 6 3 rfl hL;have h8:L 8=false:=Bu Hdep.o 8 6 rfl h6;have m0:=((R1 h8).cell (p:=⟨fb,fo,none⟩) (by have:=HW6.o.size;show fb<_;omega)).trans D0.o;exact il
    ·have h5:L 5=false:=Bu Hdep.o 5 4 rfl hL;have h6:L 6=false:=Bu Hdep.o 6 5 rfl h5;have h8:L 8=false:=Bu Hdep.o 8 6 rfl h6;have m0:=((R1 h8).cell (p:=⟨B7,0,none⟩) hz6).trans (X6.o 0 _ rfl);have m1:=((R1 h8).cell (p:=⟨B7,1,none⟩) hz6).trans (X6.o 1 _ rfl);have m2:=((R1 h8).cell (p:=⟨B7,2,none⟩) hz6).trans (X6.o 2 _ rfl);have m3:=((R1 h8).cell (p:=⟨B7,3,none⟩) hz6).trans (X6.o 3 _ rfl);exact il
    ·have h6:L 6=false:=Bu Hdep.o 6 5 rfl hL;have h8:L 8=false:=Bu Hdep.o 8 6 rfl h6;have hba:Below W W (W.alloc (.cells (H3 (v,.slice A7 v.kids.length c7)).toArray 47)):=(At _ _).alloc (Ao _) _;have u4:=hpre.2;go_simp;exact hK (.slice (W,0) 1 1) _ _ ⟨W.heap.size,rfl⟩ Ab ⟨fun _=>(R1 h8).trans (hba.mono (R1 h8).size),fun _ _=>⟨W,rfl,rfl,R1 h8⟩,fun h=>absurd (h6.symm.trans bg) aJ,fun h=>absurd (h8.symm.trans bg) aJ⟩ aH
    ·obtain⟨c,u5⟩:=hpre.2.2;have u3:=hpre.1.2;go_simp;exact hK (.agg #[.int .u8 61,a8,(g.tag:Int),U 5]) _ _ ⟨c,by rw[u5]⟩ Ab ⟨R1,R2,fun _=>rfl,fun h=>R4 bg⟩ (by simp[Act.put,u3,u5])
    ·exact eW
    ·obtain⟨⟨l6,_⟩,_⟩:=hpre;have u6:=R3 l6;have l5:L 5=true:=by
      cases h5:L 5 with
      |true=>rfl
      |false=>exact absurd (l6.symm.trans (Bu Hdep.o 6 5 rfl h5)) aJ
     obtain⟨W7,rfl,u5,hb7⟩:=R2 l5 hL;rw[u5]at u6;rw[if_pos dx];refine wp_store_mid 47 _ _ rfl w 0 ([.int .u8 61,a8,(g.tag:Int),.slice (some ⟨W7.heap.size,0,none⟩) 1 1]:List Value).toArray rfl u6 ((F6.o.post hb7).post ((At _ _).alloc (Ao _) _)).2.1 aM bU ?_;exact hK undef _ _ Ab Ab ⟨fun h=>by simp at h,fun _ h=>by simp at h,fun _=>by show U 6=.agg #[.int .u8 61,a8,(g.tag:Int),U 5];rw[u5];exact u6,fun _=>⟨W7,rfl,hb7⟩⟩ rfl
    ·clear R1 R2 R3 R4;go_simp;exact hK (.pointer (some ⟨fb,fo,none⟩)) _ _ rfl Ab HR.o aH
   rintro L U W hL hφ hR;have hφ9:=hφ 9 aJ;clear hφ;have e9:U 9=.pointer (some ⟨fb,fo,none⟩):=hφ9;obtain⟨_,_,_,h4⟩:=hR;obtain⟨W7,rfl,hb7⟩:=h4 (hL 8 aJ);clear hL h4;simp only[e9];clear hφ9;go_wp2_with fail;have F7:=Aa (F6.o.post hb7);have Hk7:=Aa (Hk6.o.after hb7);have hz7:=F7.o.2.2.2;have Z:=Nc.fin (v:=Dm (g,v)) (sl:=.slice (some ⟨W7.heap.size,0,none⟩) 1 1) (F7.o.post ((At _ _).alloc (Ao _) (.cells (H3 (v,.slice A7 v.kids.length c7)).toArray 47))) hb0 rfl (Hk7.o.one (T:=47) (fun c hc _=>by omega) aG);have HPz:=HP6.o.via (F6.o.1.env HW.o hb) (Z.2.1.env HW.o hb);refine aE (v:=.tuple #[.agg (Gf (Dm (g,v)) (.slice (some ⟨W7.heap.size,0,none⟩) 1 1)).toArray,.pointer (some ⟨fb,fo,none⟩)]) (An results176 _ _ w.heap.size _ _ _ rfl rfl Z.2.2 underlying47 rfl aM) rfl ?_;have hx9:=Hx5.o;refine⟨Dm (g,v),_,_,t',rfl,Z.1,?_,.mk (show g.tag<=1000000000 by omega) (by simp[Du];omega) aK (fun y hy=>by rw[ap]at hy;subst hy;exact HB5.o),by omega,by rw[Rb];simp only;omega,.inr ⟨g,v,HPz,rfl,Hfg.o,HB5.o,?_⟩⟩
   ·have e:q.isNone=(Aj S 1000 N g.kind t2).isNone:=by rw[hq0.o];cases Aj S 1000 N g.kind t2<;>rfl
    rw[e];exact Z.2.1
   intro y hy;rw[hq0.o]at hy;cases hr:Aj S 1000 N g.kind t2 with
   |none=>rw[hr]at hy;cases hy
   |some z=>
    obtain⟨z1,z2⟩:=z;rw[hr]at hy;simp only[aj]at hy;obtain⟨e1,e2⟩:=hx9 _ hr;simp only at e1 e2;rw[<-hy,e1,e2]
end
end Go.Proofs.YtpjijpcemejlnaaGreatDoor
