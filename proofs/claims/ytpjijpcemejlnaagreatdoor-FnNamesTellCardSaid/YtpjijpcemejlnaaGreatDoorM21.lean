/- Texts joined. Conditions: as each theorem names them. -/
import Derived.Test.YtpjijpcemejlnaaGreatDoorM10
import Derived.Test.YtpjijpcemejlnaaGreatDoorM20
set_option maxRecDepth 100000
set_option maxHeartbeats 32000000
set_option linter.unusedVariables false
set_option linter.unusedSimpArgs false
namespace Go.Proofs.YtpjijpcemejlnaaGreatDoor
open Go.RowKit Go.Proofs.Tryz
section
attribute [local go_sem] Qkk Qj0 Qjm Qhu ByteArray.mk_append_mk
def Jg(B:Nat)(w:World)(v:Value):Option Fd->Prop
 |none=>v=.pointer none
 |some f=>∃b o,v=.pointer (some ⟨b,o,none⟩)/\b<B/\w.rangeAt b o (S5 f)
theorem Jg.below{B:Nat}{w w':World}{v:Value}{o:Option Fd}(h:Jg B w v o)(hb:Below B w w'):Jg B w' v o:=by
 cases o with
 |none=>exact h
 |some f=>obtain⟨b,o,e,h1,h2⟩:=h;exact⟨b,o,e,h1,Ax h2 h1 hb⟩
def Qi2(B:Nat)(o:Option Fd)(w:World)(e:Ending)(w':World):Prop:=∃v,e=.returned v/\Jg B w v o/\w=w'
theorem V9(w0:World)(x:PT)(hx:Rg w0 x)(n:Nat)(w:World)(hb:Below w0 w0 w)(hn:n<=1000000000):
  Calls prog 62 #[x.blk,.int .i64 n] w (Qi2 w0.heap.size (Bf x.ty.fields n) w):=by
 obtain⟨z0,_,_,_,z3,_,A,c,hfv,hl,hr⟩:=hx;rw[hfv]at z3;have c2:w.cell? (x.blk,2)=some (.slice A x.ty.fields.length c):=(hb.cell (p:=⟨x.blk,2,none⟩) z0).trans z3;have Hr:=Aa hr;have Hb:=Aa hb;clear hr hfv z3 hb;go_enter func62,ntmps62;go_wp2_with fail;go_loop [11] (fun i=>∃k:Nat,i=.int .i64 k/\k<=x.ty.fields.length/\Hid (∀f∈x.ty.fields.take k,decide (f.tag=n)=false)) (fun i=>x.ty.fields.length - (intOf i).toNat)
 case atStart=>exact⟨0,rfl,ah _,by intro f hf;simp at hf⟩
 case round=>
  obtain⟨k,rfl,hk,hin⟩:=hrel;by_cases hlt:k<x.ty.fields.length
  ·obtain⟨b,off,rfl,hbl,hrg⟩:=Rm.range Hr.o hlt;have hrw:=Ax hrg hbl Hb.o;have Hts:=Aa (Bt x.ty.fields k hlt);have Hft:=Aa (Rn (p:=fun f=>decide (f.tag=n)) hlt hin.o);generalize x.ty.fields[k]=f at hrg hrw Hts Hft;have c0:w.cell? ⟨b,off+k*6,none⟩=(f.tag:Int):=by simpa using Ac hrw 0 rfl
   have Hrw:=Aa hrw;clear hrw hrg;have k1:(0:Int)<=(k:Int):=aH;have k2:(k:Int)<(x.ty.fields.length:Int):=aH;by_cases he:f.tag=n
   ·have t1:((f.tag:Int) == (n:Int))=true:=by simp[he]
    have Hfin:=Aa (show Bf x.ty.fields n=some f by unfold Bf;rw[Hft.o,if_pos cP]);clear he;go_wp2_with fail;go_ret;exact⟨_,rfl,by rw[Hfin.o];exact⟨b,off+k*6,rfl,hbl,Hrw.o⟩,rfl⟩
   have t1:((f.tag:Int) == (n:Int))=false:=cf
   have Hin:=Aa (show ∀g∈x.ty.fields.take (k+1),decide (g.tag=n)=false by
    intro g hg;rw[Hts.o]at hg;rcases ag.1 hg with hg|hg
    ·exact hin.o g hg
    simp at hg;subst hg;simpa using he)
   clear he;go_wp2_with fail;go_round
   case rel=>exact⟨k+1,by go_num,by omega,Hin.o⟩
   case measure=>simp[intOf];omega
  ·have Hfin:=@Aa (Bf x.ty.fields n=none) (Mi (fun f hf=>hin.o f dp));go_wp2_with fail;go_ret;exact⟨_,rfl,by rw[Hfin.o];rfl,rfl⟩
theorem Jb(b nm:ByteArray)(w:World):Calls prog 98 #[.agg #[aa,.string b,.string nm]] w fun e w'=>e=.returned (.int .u8 0)/\Below w w w':=by
 go_enter func98,ntmps98;go_wp2_with fail;go_ret;exact⟨rfl,(At _ _).alloc (Ao _) _⟩
theorem Kk(c:UInt8)(t:List UInt8)(hl:t.length<=1000)(b nm:ByteArray)(w:World):Calls prog 98 #[.agg #[.string ⟨(c::t).toArray⟩,.string b,.string nm]] w fun e w'=>e=.returned (.int .u8 (c.toNat:Int))/\Below w w w':=by
 go_enter func98,ntmps98;go_wp2_with fail;go_ret;exact⟨rfl,(At _ _).alloc (Ao _) _⟩
theorem Yz(p:Value)(c:UInt8)(t:List UInt8)(b nm:ByteArray)(w:World)(hc:c=91\/c=63)(hl:t.length<=1000):
  Calls prog 155 #[p,.agg #[.string ⟨(c::t).toArray⟩,.string b,.string nm]] w (G6 (Qd1 c) w):=by
 rcases hc with rfl|rfl
 ·go_enter func155,ntmps155;go_wp2_with fail;refine(Kk 91 t hl _ _ _).mono ?_;rintro e w1 ⟨rfl,hb1⟩;go_wp2_with fail;exact jp
 go_enter func155,ntmps155;go_wp2_with fail;refine(Kk 63 t hl _ _ _).mono ?_;rintro e w1 ⟨rfl,hb1⟩;go_wp2_with fail;exact jp
theorem Xi(p:Value)(b:List UInt8)(nm:ByteArray)(w:World)(hb:b=[110]\/b=[116]\/b=[102]):
  Calls prog 155 #[p,.agg #[aa,b,.string nm]] w (G6 (V0 b) w):=by
 rcases hb with rfl|rfl|rfl<;>
 ·go_enter func155,ntmps155;go_wp2_with fail;refine(Jb _ _ _).mono ?_;rintro e w1 ⟨rfl,hb1⟩;obtain⟨hc1,_,_⟩:=By hb1;have y1:=hc1 w 1 aM;simp at y1;clear hc1;have Hb1:=Aa (((At w.heap.size w).alloc (Ao _) _).trans (hb1.mono aM));clear hb1;go_wp2_with fail;go_ret;exact⟨rfl,Hb1.o⟩
def kcs(k:Kd):List Value:=[k.signs,k.base,k.name]
def Ha(v:Vl)(sl:Value):List Value:=[.int .u8 (v.what.toNat:Int),v.text,(v.tag:Int),sl]
def Kh(w:World)(b:Nat)(p:Value)(k:Kd)(t:List UInt8)(bad:Bool)(W:World):Prop:=
 De w b p t bad W/\W.rangeAt w 0 (kcs k)/\W.there (w.heap.size+1) 0 4/\w.heap.size+1<W.heap.size
theorem Kh.init{w:World}{b:Nat}{p:Value}{k:Kd}{t:List UInt8}{bad:Bool}(h:Fw w b p t bad){T U:TypeId}:Kh w b p k t bad ((w.alloc (.cells #[k.signs,k.base,k.name] T)).alloc (.cells #[.int .u8 0,aa,.int .i64 0,.slice none 0 0] U)):=by
 have h1:Below w w ((w.alloc (.cells #[k.signs,k.base,k.name] T)).alloc (.cells #[.int .u8 0,aa,.int .i64 0,.slice none 0 0] U)):=((At _ _).alloc (Ao _) _).alloc aM _;refine⟨⟨h.grow h1,Cs h1 _⟩,?_,?_,by simp⟩
 ·have:=Ax (Cj w (kcs k) T) (show w.heap.size<(w.alloc (.cells (kcs k).toArray T)).heap.size by simp) ((At _ _).alloc (Ao _) (.cells #[.int .u8 0,aa,.int .i64 0,.slice none 0 0] U));exact this
 have:=Ct (w.alloc (.cells #[k.signs,k.base,k.name] T)) [.int .u8 0,aa,.int .i64 0,.slice none 0 0] U;simpa using this
theorem Kh.post{w W W':World}{b:Nat}{p:Value}{k:Kd}{t:List UInt8}{bad:Bool}(h:Kh w b p k t bad W)(hb:Below W W W'):Kh w b p k t bad W':=
 ⟨h.1.post hb,Ax h.2.1 (by have:=h.2.2.2;omega) hb,Au h.2.2.1 h.2.2.2 hb,ad h.2.2.2 hb.size⟩
theorem Kh.step{w W W':World}{b:Nat}{p:Value}{k:Kd}{t t':List UInt8}{bad bad':Bool}(h:Kh w b p k t bad W)(hb:b<w.heap.size)(hs:De W b p t' bad' W'):Kh w b p k t' bad' W':=
 ⟨h.1.trans hs,Gh h.2.1 hs.2 aN,Gv h.2.2.1 hs.2 h.2.2.2 aN,ad h.2.2.2 hs.2.size⟩
theorem Kh.fin{w W w9:World}{b N:Nat}{p:Value}{k:Kd}{t t':List UInt8}{bad':Bool}{v:Vl}{sl:Value}{r:Option (Vl × List UInt8)}(F:Kh w b p k t' bad' W)(hb:b<w.heap.size)(HS:w9=W.setCells (w.heap.size+1) 0 (Ha v sl))
  (hv:Fb (fun c=>w.heap.size+2<=c) W sl v.kids) (hr:bad'=r.isNone) (hx:∀x,r=some x->v=x.1/\t'=x.2) (hB:Bd v) (hl:t'.length<=t.length) (hn:(Bh v).length+t'.length<=t.length+8*N):
  Kc w b p t N r (.returned (.agg (Ha v sl).toArray)) w9/\w9.rangeAt (w.heap.size+1) 0 (Ha v sl):=by
 subst HS hr;exact⟨⟨v,sl,t',rfl,(hv.set (B:=w.heap.size+1) aH _).mono fun c hc _=>by omega,F.1.set aH aH _,hx,hB,hl,hn⟩,ac _ _ _ _ F.2.2.1⟩
theorem V8(b N:Nat)(p:Value)(t:List UInt8)(k:Kd)(w:World)(h:Fw w b p t true):
  Calls prog 102 #[b,J2 k] w (Kc w b p t N none):=by
 have HS:=Aa h;obtain⟨h0,h1,h2,h3,h4⟩:=h;have hbn:¬(b=w.heap.size):=aH;have hbn2:¬(b=w.heap.size+1):=aH;unfold J2;clear h1 h2 h3;go_enter func102,ntmps102;go_wp2_with fail;have F:=(Kh.init (k:=k) HS.o (T:=62) (U:=47)).1;refine aF (v:=.agg (Ha Fq (.slice none 0 0)).toArray) ?_ rfl ⟨Fq,.slice none 0 0,t,rfl,Fb.nil _ _,F,aM,Eu aL aL,Ao _,by simp[Fq,Bh,Dz,H6]⟩;refine Az results102 _ _ (w.heap.size+1) _ _ rfl ?_ underlying47 rfl aP;have:=Cj (w.alloc (.cells #[k.signs,k.base,k.name] 62)) [.int .u8 0,aa,.int .i64 0,.slice none 0 0] 47;simpa [Ha,Fq,Vl.what,Vl.text,Vl.tag]using this
theorem Qak(t:List UInt8):Ql t=if Gf 999999 t then some (G7 t,t.dropWhile Ba)else none:=by
 unfold Ql Gf G7;cases h:Ci (t.takeWhile Ba)with
 |none=>simp
 |some n=>simp[(B0.1 h).1]
theorem Zd(t:List UInt8):G7 t<=999999:=by
 unfold G7;cases h:Ci (t.takeWhile Ba)with
 |none=>simp
 |some n=>exact(B0.1 h).1
theorem Ze(p:UInt8->Bool)(t:List UInt8):(t.dropWhile p).length<=t.length:=(Q4 p t).2
theorem Qgo(b N:Nat)(p:Value)(t:List UInt8)(k:Kd)(w:World)(h:Fw w b p t false)(hl:t.length<=900)(hs:k.signs=[])(hb:k.base=[110])(q:Option (Vl × List UInt8))(hq:q=match Ql t with|some (n,r)=>some (.mk 110 (Aw n) 0 [],r)|none=>none):
  Calls prog 102 #[b,J2 k] w (Kc w b p t (N+1) q):=by
 have HQ:=Aa hq;have HS:=Aa h;have hb0:=h.1;have hbn:¬(b=w.heap.size):=aH;have hbn2:¬(b=w.heap.size+1):=aH;have c2:=h.2.2.2.2;clear hq;obtain⟨sg,bs,nm⟩:=k;simp only at hs hb;have HN:=Aa (Qak t);have hnn:=Zd t;have Hn:=Aa (fun W (h:Fw W b p t false)=>Nz b 999999 p t false W h aH aL);have Hd:=Aa (fun W=>Pa (G7 t) (G7 t) W (Ao _) aH);have hdl:=Cv 5 (G7 t) cJ;have hdr:=Ze Ba t;generalize G7 t=n at *;generalize Gf 999999 t=ok at *;generalize t.dropWhile Ba=r at *;subst hs hb;unfold J2;simp only;clear h;go_enter func102,ntmps102;go_wp2_with fail;refine(Jb _ _ _).mono ?_;rintro e w2 ⟨rfl,hb2⟩;have F2:=Aa ((Kh.init (k:=⟨[],[110],nm⟩) HS.o).post hb2);clear hb2 c2;have k0:=Ac F2.o.2.1 0 rfl;have k1:=Ac F2.o.2.1 1 rfl;have k2:=Ac F2.o.2.1 2 rfl;simp only[an]at k0 k1 k2;have s2:=F2.o.1.1.2.2.2.2;go_wp2_with fail;refine(Hn.o _ F2.o.1.1).mono ?_;rintro e w3 ⟨rfl,hs3⟩;have F3:=Aa (F2.o.step hb0 hs3);clear hs3 k0 k1 k2 s2;go_wp2_with fail;refine(Hd.o _).mono ?_;rintro e w4 ⟨rfl,hb4⟩;have F4:=Aa (F3.o.post hb4);clear hb4;go_wp2_with ((with_reducible refine Ae (op:=⟨none,.store 47 _ _,_,_,_,none⟩) rfl 47 _ _ rfl (w.heap.size+1) 0 [.int .u8 110,.string ⟨(Aw n).toArray⟩,.int .i64 0,.slice none 0 0] ?_ ?_ ?_ ?_ ?_ ?_);rfl;rfl;(exact F4.o.2.2.1);kernel_rfl;(simp[Value.oneCell']);intro w9 HS9)
 have HQ:=HQ.o;rw[HN.o]at HQ;have Z:=Kh.fin (t:=t) (N:=N+1) (v:=.mk 110 (Aw n) 0 []) (sl:=.slice none 0 0) (r:=q) F4.o hb0 HS9.o (Fb.nil _ _) (by rw[HQ];cases ok<;>rfl)
  (by rw[HQ];cases ok<;>simp) (Eu aL aH) hdr eV
 exact aF (v:=.agg (Ha (.mk 110 (Aw n) 0 []) (.slice none 0 0)).toArray) (Az results102 _ _ (w.heap.size+1) _ _ rfl Z.2 underlying47 rfl aP) rfl Z.1
theorem Qf5(b N:Nat)(p:Value)(t:List UInt8)(k:Kd)(w:World)(h:Fw w b p t false)(hl:t.length<=900)(hs:k.signs=[])(hb:k.base=[116])(q:Option (Vl × List UInt8))(hq:q=match Mx t with|some (x,r)=>some (.mk 116 x 0 [],r)|none=>none):
  Calls prog 102 #[b,J2 k] w (Kc w b p t (N+1) q):=by
 have HQ:=Aa hq;have HS:=Aa h;have hb0:=h.1;have hbn:¬(b=w.heap.size):=aH;have hbn2:¬(b=w.heap.size+1):=aH;have c2:=h.2.2.2.2;clear hq;obtain⟨sg,bs,nm⟩:=k;simp only at hs hb;have Hn:=Aa (fun W (h:Fw W b p t false)=>Qcl b p t false W h aH);subst hs hb;unfold J2;simp only;clear h;go_enter func102,ntmps102;go_wp2_with fail;refine(Jb _ _ _).mono ?_;rintro e w2 ⟨rfl,hb2⟩;have F2:=Aa ((Kh.init (k:=⟨[],[116],nm⟩) HS.o).post hb2);clear hb2 c2;have k0:=Ac F2.o.2.1 0 rfl;have k1:=Ac F2.o.2.1 1 rfl;have k2:=Ac F2.o.2.1 2 rfl;simp only[an]at k0 k1 k2;have s2:=F2.o.1.1.2.2.2.2;go_wp2_with fail;refine(Hn.o _ F2.o.1.1).mono ?_;rintro e w3 ⟨x,r,bad,rfl,hs3,hx,hxl⟩;have F3:=Aa (F2.o.step hb0 hs3);have Hx:=Aa hx;clear hs3 hx k0 k1 k2 s2;go_wp2_with ((with_reducible refine Ae (op:=⟨none,.store 47 _ _,_,_,_,none⟩) rfl 47 _ _ rfl (w.heap.size+1) 0 [.int .u8 116,x,.int .i64 0,.slice none 0 0] ?_ ?_ ?_ ?_ ?_ ?_);rfl;rfl;(exact F3.o.2.2.1);kernel_rfl;(simp[Value.oneCell']);intro w9 HS9)
 have HQ:=HQ.o;rw[show Mx t=if bad then none else some (x,r)from Hx.o]at HQ;have Z:=Kh.fin (t:=t) (N:=N+1) (v:=.mk 116 x 0 []) (sl:=.slice none 0 0) (r:=q) F3.o hb0 HS9.o (Fb.nil _ _) (by rw[HQ];cases bad<;>rfl)
  (by rw[HQ];cases bad<;>simp) (Eu aL aH) aH eV
 exact aF (v:=.agg (Ha (.mk 116 x 0 []) (.slice none 0 0)).toArray) (Az results102 _ _ (w.heap.size+1) _ _ rfl Z.2 underlying47 rfl aP) rfl Z.1
theorem Qgu(b N:Nat)(p:Value)(t:List UInt8)(k:Kd)(w:World)(h:Fw w b p t false)(hl:t.length<=900)(hs:k.signs=[])(hb:k.base=[102])(q:Option (Vl × List UInt8))(hq:q=match N0 t with|some (x,r)=>some (.mk 102 (if x then Ea else Ks) 0 [],r)|none=>none):
  Calls prog 102 #[b,J2 k] w (Kc w b p t (N+1) q):=by
 have HQ:=Aa hq;have HS:=Aa h;have hb0:=h.1;have hbn:¬(b=w.heap.size):=aH;have hbn2:¬(b=w.heap.size+1):=aH;have c2:=h.2.2.2.2;clear hq;obtain⟨sg,bs,nm⟩:=k;simp only at hs hb;have HFL:=@Aa (N0 t=(match Ay Ea t false with|some r=>some (true,r)|none=>match Ay Ks t false with|some r=>some (false,r)|none=>none)) rfl;have Hy:=Aa (fun W (h:Fw W b p t false)=>Jc b p t Ea false W h aH);have Hw:=Aa (fun W (h:Fw W b p t false)=>Dd b p t Ks false W h aH);have Hl1:=Aa (fun r (h:Ay Ea t false=some r)=>(Fh (p:=Ea)).1 h);have Hl2:=Aa (fun r (h:Ay Ks t false=some r)=>(Fh (p:=Ks)).1 h);subst hs hb;unfold J2;simp only;clear h;rcases hy:Ay Ea t false with _|r
 ·rw[hy]at Hy HFL;unfold Ea at Hy;unfold Ks at Hw
  have HL:=Aa (show ((Ay Ks t false).getD t).length<=t.length from by
   cases h:Ay Ks t false with
   |none=>exact Ao _
   |some r=>rw[Hl2.o r h];simp)
  clear hy;go_enter func102,ntmps102;go_wp2_with fail;refine(Jb _ _ _).mono ?_;rintro e w2 ⟨rfl,hb2⟩;have F2:=Aa ((Kh.init (k:=⟨[],[102],nm⟩) HS.o).post hb2);clear hb2 c2;have k0:=Ac F2.o.2.1 0 rfl;have k1:=Ac F2.o.2.1 1 rfl;have k2:=Ac F2.o.2.1 2 rfl;simp only[an]at k0 k1 k2;have s2:=F2.o.1.1.2.2.2.2;go_wp2_with fail;refine(Hy.o _ F2.o.1.1).mono ?_;rintro e w3 ⟨rfl,hs3⟩;simp only[Option.getD_none]at hs3;have F3:=Aa (F2.o.step hb0 hs3);clear hs3 k0 k1 k2 s2;go_wp2_with fail;refine(Hw.o _ F3.o.1.1).mono ?_;rintro e w4 ⟨rfl,hs4⟩;have F4:=Aa (F3.o.step hb0 hs4);clear hs4;go_wp2_with ((with_reducible refine Ae (op:=⟨none,.store 47 _ _,_,_,_,none⟩) rfl 47 _ _ rfl (w.heap.size+1) 0 [.int .u8 102,.string ⟨#[110,111]⟩,.int .i64 0,.slice none 0 0] ?_ ?_ ?_ ?_ ?_ ?_);rfl;rfl;(exact F4.o.2.2.1);kernel_rfl;(simp[Value.oneCell']);intro w9 HS9)
  have HQ:=HQ.o;rw[HFL.o]at HQ;have hl2:=HL.o;have Z:=Kh.fin (t:=t) (N:=N+1) (v:=.mk 102 Ks 0 []) (sl:=.slice none 0 0) (r:=q) F4.o hb0 HS9.o (Fb.nil _ _) (by rw[HQ];unfold Ks;cases Ay [110,111] t false<;>rfl)
   (by rw[HQ];unfold Ks;cases Ay [110,111] t false<;>simp) (Eu aL aL) hl2 (by unfold Ks at hl2 ⊢;simp[Bh,Dz,H6];omega)
  exact aF (v:=.agg (Ha (.mk 102 Ks 0 []) (.slice none 0 0)).toArray) (Az results102 _ _ (w.heap.size+1) _ _ rfl Z.2 underlying47 rfl aP) rfl Z.1
 rw[hy]at Hy HFL;unfold Ea at Hy;have hlr:=Hl1.o r hy;have hlr2:t.length=3+r.length:=by rw[hlr];simp[Ea];omega
 clear hy hlr;go_enter func102,ntmps102;go_wp2_with fail;refine(Jb _ _ _).mono ?_;rintro e w2 ⟨rfl,hb2⟩;have F2:=Aa ((Kh.init (k:=⟨[],[102],nm⟩) HS.o).post hb2);clear hb2 c2;have k0:=Ac F2.o.2.1 0 rfl;have k1:=Ac F2.o.2.1 1 rfl;have k2:=Ac F2.o.2.1 2 rfl;simp only[an]at k0 k1 k2;have s2:=F2.o.1.1.2.2.2.2;go_wp2_with fail;refine(Hy.o _ F2.o.1.1).mono ?_;rintro e w3 ⟨rfl,hs3⟩;simp only[Option.getD_some]at hs3;have F3:=Aa (F2.o.step hb0 hs3);clear hs3 k0 k1 k2 s2;go_wp2_with ((with_reducible refine Ae (op:=⟨none,.store 47 _ _,_,_,_,none⟩) rfl 47 _ _ rfl (w.heap.size+1) 0 [.int .u8 102,.string ⟨#[121,101,115]⟩,.int .i64 0,.slice none 0 0] ?_ ?_ ?_ ?_ ?_ ?_);rfl;rfl;(exact F3.o.2.2.1);kernel_rfl;(simp[Value.oneCell']);intro w9 HS9)
 have HQ:=HQ.o;rw[HFL.o]at HQ;have Z:=Kh.fin (t:=t) (N:=N+1) (v:=.mk 102 Ea 0 []) (sl:=.slice none 0 0) (r:=q) F3.o hb0 HS9.o (Fb.nil _ _) (by rw[HQ];rfl)
  (by rw[HQ];simp) (Eu aL aL) aH (by unfold Ea;simp[Bh,Dz,H6];omega)
 exact aF (v:=.agg (Ha (.mk 102 Ea 0 []) (.slice none 0 0)).toArray) (Az results102 _ _ (w.heap.size+1) _ _ rfl Z.2 underlying47 rfl aP) rfl Z.1
def IvC(w0:World)(b:Nat)(p:Value)(S:List Ty)(N:Nat)(k:Kd):Prop:=
 ∀(t:List UInt8) (bad:Bool) (w:World),Below w0 w0 w->Fw w b p t bad->t.length<=900->(bad=false->t.length<N) ->
  Calls prog 102 #[b,J2 k] w (Kc w b p t N (if bad then none else Al S 1000 N k t))
theorem Fb.one{P Q:Nat->Prop}{w:World}{v:Vl}{sl:Value}{T:TypeId}(h:Fb P w sl v.kids)(hQ:∀b,P b->b<w.heap.size->Q b)(hn:Q w.heap.size):
  Fb Q (w.alloc (.cells #[.int .u8 (v.what.toNat:Int),v.text,(v.tag:Int),sl] T)) (.slice (w,0) 1 1) [v]:=by
 have hb:Below w w (w.alloc (.cells #[.int .u8 (v.what.toNat:Int),v.text,(v.tag:Int),sl] T)):=(At _ _).alloc (Ao _) _;refine .mk (w,0) 1 [(v,sl)] rfl rfl aM ⟨rfl,(show 4<=maxLen by decide),fun _=>⟨w.heap.size,0,rfl,by simp,fun j u hj=>?_⟩⟩ (fun g o _ e=>by injection e with e;injection e with e;subst e;exact hn) (fun x hx=>?_)
 ·rw[World.cell?_alloc_new];simpa [Jx]using hj
 rw[aq]at hx;subst hx;exact(h.mono hQ).after hb
theorem Ej(c:UInt8)(t:List UInt8)(bad:Bool):((Ay [c] t bad).getD t).length<=t.length:=fc
theorem Jw{c:UInt8}{t r:List UInt8}{bad:Bool}(h:Ay [c] t bad=some r):r.length+1=t.length:=by
 rw[Cc]at h;cases bad with
 |true=>cases h
 |false=>rw[if_neg aL,Ce]at h;subst h;rfl
theorem Qcf(w0:World)(b N:Nat)(p:Value)(S:List Ty)(t:List UInt8)(k:Kd)(w:World)(hw:Below w0 w0 w)(hb:w0.heap.size<=b)(h:Fw w b p t false)(hl:t.length<=900)(hN:t.length<=N)(hN2:N<=2000)(sg:List UInt8)(hs:k.signs=63::sg)(hsl:sg.length<=100)
  (H:IvC w0 b p S N k.part) (q:Option (Vl × List UInt8)) (hq:q=Qal (Al S 1000 N k.part) t):
  Calls prog 102 #[b,J2 k] w (Kc w b p t (N+1) q):=by
 have HQ:=Aa hq;have HH:=Aa H;have HP:=Aa (fun W=>Ye k W 63 sg hs aH);have HS:=Aa h;have HW:=Aa hw;have hb0:=h.1;have hbn:¬(b=w.heap.size):=aH;have hbn2:¬(b=w.heap.size+1):=aH;have c2:=h.2.2.2.2;have hm:=Ej 43 t false;have Hlt:=Aa (fun r (h:Ay [43] t false=some r)=>Jw h);have Hlt2:=Aa (fun r (h:Ay [45] t false=some r)=>Jw h);have Htk:=Aa (fun W (h:Fw W b p t false)=>Jc b p t [45] false W h aH);have Hwt:=Aa (fun W (h:Fw W b p t false)=>Dd b p t [43] false W h aH)
 have HQ2:=Aa (show Qal (Al S 1000 N k.part) t=(match Ay [45] t false with|some q=>some (.mk 63 [] 0 [],q)|none=>match Ay [43] t false with|none=>none|some r=>match Al S 1000 N k.part r with|some (v,q)=>some (.mk 63 [] 0 [v],q)|none=>none)from by
  rw[Cc,Cc];rfl)
 generalize Qal (Al S 1000 N k.part) t=q0 at *;have Hkp:=Aa (rfl:J2 k=J2 k);obtain⟨sg',bs,nm⟩:=k;simp only at hs;subst hs;generalize hkp:(⟨63::sg,bs,nm⟩:Kd).part=kp at *;unfold J2 at HP ⊢;simp only at HP ⊢;clear h hq hw H Hkp hkp;rcases hy:Ay [45] t false with _|r
 ·rw[hy]at Htk HQ2;obtain⟨t1,ht1⟩:∃t1,t1=(Ay [43] t false).getD t:=⟨_,rfl⟩
  obtain⟨b1,hb1⟩:∃b1,b1=(Ay [43] t false).isNone:=⟨_,rfl⟩
  have HQ3:=Aa (show q=if b1 then none else match Al S 1000 N kp t1 with|some (v,q)=>some (.mk 63 [] 0 [v],q)|none=>none from by
   rw[HQ.o,HQ2.o,ht1,hb1];cases Ay [43] t false<;>rfl)
  have HL1:=Aa (show b1=false->t1.length<N from by
   intro h;rw[hb1]at h;cases hr:Ay [43] t false with
   |none=>rw[hr]at h;cases h
   |some r=>have:=Hlt.o r hr;rw[ht1,hr];simp;omega)
  rw[<-ht1]at hm;rw[<-ht1,<-hb1]at Hwt;clear hy ht1 hb1 HQ2 HQ;go_enter func102,ntmps102;go_wp2_with fail;refine(Kk 63 sg aH _ _ _).mono ?_;rintro e w2 ⟨rfl,hb2⟩;have F2:=Aa ((Kh.init (k:=⟨63::sg,bs,nm⟩) HS.o).post hb2);clear hb2 c2;go_wp2_with fail;refine(Htk.o _ F2.o.1.1).mono ?_;rintro e w3 ⟨rfl,hs3⟩;simp only[Option.getD_none]at hs3;have F3:=Aa (F2.o.step hb0 hs3);clear hs3;go_wp2_with fail;refine(Hwt.o _ F3.o.1.1).mono ?_;rintro e w4 ⟨rfl,hs4⟩;have F4:=Aa (F3.o.step hb0 hs4);clear hs4;have k0:=Ac F4.o.2.1 0 rfl;have k1:=Ac F4.o.2.1 1 rfl;have k2:=Ac F4.o.2.1 2 rfl;simp only[an]at k0 k1 k2;go_wp2_with fail;refine(HP.o _).mono ?_;rintro e w5 ⟨rfl,hb5⟩;have F5:=Aa (F4.o.post hb5);clear hb5 k0 k1 k2;go_wp2_with fail;refine(HH.o t1 b1 _ (F5.o.1.env HW.o hb) F5.o.1.1 aH HL1.o).mono ?_;rintro e w6 ⟨v,sl,t',rfl,hk,hs6,hx,hB,hl6,hn6⟩;obtain⟨A7,c7,rfl⟩:=hk.form;have F6:=Aa (F5.o.step hb0 hs6);have hz5:=F5.o.2.2.2;have Hk:=Aa hk;have Hx:=Aa hx;have HB:=Aa hB;clear hs6 hk hx hB;unfold Np;have F7:=Aa (fun o=>F6.o.post ((At _ _).alloc (Ao _) o));go_wp2_with ((with_reducible refine Ae (op:=⟨none,.store 47 _ _,_,_,_,none⟩) rfl 47 _ _ rfl (w.heap.size+1) 0 [.int .u8 63,aa,.int .i64 0,.slice (w6,0) 1 1] ?_ ?_ ?_ ?_ ?_ ?_);rfl;rfl;(exact(Aa (F7.o _)).o.2.2.1);kernel_rfl;(simp[Value.oneCell']);intro w9 HS9)
  have hz6:=F6.o.2.2.2;have Z:=Kh.fin (t:=t) (N:=N+1) (v:=.mk 63 [] 0 [v]) (sl:=.slice (w6,0) 1 1) (r:=q) (F7.o _) hb0 HS9.o (Hk.o.one (fun c hc _=>by omega) aH)
   (by rw[HQ3.o];cases b1 with
    |true=>rfl
    |false=>simp only[ao,if_false];cases Al S 1000 N kp t1 with
     |none=>rfl
     |some y=>rfl)
   (by rw[HQ3.o];cases b1 with
    |true=>simp
    |false=>
     simp only[ao,if_false];have hx2:=Hx.o;simp only[ao,if_false]at hx2;cases hr:Al S 1000 N kp t1 with
     |none=>simp
     |some y=>obtain⟨e1,e2⟩:=hx2 y hr;rintro x hxx;injection hxx with hxx;subst hxx;exact⟨by rw[e1],e2⟩)
   (.mk aL (by simp[Dx];omega) aM (fun x hx=>by rw[aq]at hx;subst hx;exact HB.o)) aH (by simp[Bh,Dz,H6,Ar];omega)
  exact aF (v:=.agg (Ha (.mk 63 [] 0 [v]) (.slice (w6,0) 1 1)).toArray) (Az results102 _ _ (w.heap.size+1) _ _ rfl Z.2 underlying47 rfl aP) rfl Z.1
 rw[hy]at Htk HQ2;have hlt:=Hlt2.o r hy;clear hy;go_enter func102,ntmps102;go_wp2_with fail;refine(Kk 63 sg aH _ _ _).mono ?_;rintro e w2 ⟨rfl,hb2⟩;have F2:=Aa ((Kh.init (k:=⟨63::sg,bs,nm⟩) HS.o).post hb2);clear hb2 c2;go_wp2_with fail;refine(Htk.o _ F2.o.1.1).mono ?_;rintro e w3 ⟨rfl,hs3⟩;simp only[Option.getD_some]at hs3;have F3:=Aa (F2.o.step hb0 hs3);clear hs3;go_wp2_with ((with_reducible refine Ae (op:=⟨none,.store 47 _ _,_,_,_,none⟩) rfl 47 _ _ rfl (w.heap.size+1) 0 [.int .u8 63,aa,.int .i64 0,.slice none 0 0] ?_ ?_ ?_ ?_ ?_ ?_);rfl;rfl;(exact F3.o.2.2.1);kernel_rfl;(simp[Value.oneCell']);intro w9 HS9)
 have HQ:=HQ.o;rw[HQ2.o]at HQ;have Z:=Kh.fin (t:=t) (N:=N+1) (v:=.mk 63 [] 0 []) (sl:=.slice none 0 0) (r:=q) F3.o hb0 HS9.o (Fb.nil _ _) (by rw[HQ];rfl)
  (by rw[HQ];simp) (Eu aL aL) aH eV
 exact aF (v:=.agg (Ha (.mk 63 [] 0 []) (.slice none 0 0)).toArray) (Az results102 _ _ (w.heap.size+1) _ _ rfl Z.2 underlying47 rfl aP) rfl Z.1
end
theorem Qd6:(prog.info? 47).map (fun i=>(i.zero,i.size,i.bytes))=some (some (.agg #[.int .u8 0,aa,.int .i64 0,.slice none 0 0]),4,56):=aP
structure Tu(base B:Nat)(W:World)(h0 h1 h2 u rv:Value)(xs:List (Vl × Value)):Prop where
 lt:B<W.heap.size
 bs:base<=W.heap.size
 hB:B<base
 bk:Qb W B
 c0:W.cell? (B,0)=some h0
 c1:W.cell? (B,1)=some h1
 c2:W.cell? (B,2)=some h2
 c3:W.cell? (B,3)=some u
 row:W.ownsRow base 47 4 rv xs.length (xs.flatMap Jx)
 kids:∀x∈xs,Fb (fun c=>base<=c/\rv.ownBlock≠some c) W x.2 x.1.kids
theorem Tu.after{base B:Nat}{W W':World}{h0 h1 h2 u rv:Value}{xs:List (Vl × Value)}(h:Tu base B W h0 h1 h2 u rv xs)(hb:Below W W W'):Tu base B W' h0 h1 h2 u rv xs:=by
 obtain⟨hc,_,hz⟩:=By hb;exact⟨hz _ h.lt,ae h.bs hb.size,h.hB,h.bk.belowAt h.lt hb,(hc _ _ h.lt).trans h.c0,(hc _ _ h.lt).trans h.c1,(hc _ _ h.lt).trans h.c2,(hc _ _ h.lt).trans h.c3,Bl h.row hb,fun x hx=>(h.kids x hx).after hb⟩
theorem Tu.step{base B b:Nat}{W W':World}{h0 h1 h2 u rv:Value}{xs:List (Vl × Value)}(h:Tu base B W h0 h1 h2 u rv xs)(hg:W.grownBy W' (some b))(hb:b<base)(hne:b≠B):Tu base B W' h0 h1 h2 u rv xs:=by
 have hn:some B≠some b:=fun e=>eC
 exact⟨ad h.lt hg.size,ae h.bs hg.size,h.hB,h.bk.grown h.lt hg hn,hg.cell h.c0 hn,hg.cell h.c1 hn,hg.cell h.c2 hn,hg.cell h.c3 hn,
  h.row.kept hg (by
   cases hr:rv.ownBlock with
   |none=>cases rv with
    |slice A a b=>cases A with
     |none=>exact .inl rfl
     |some x=>simp[Value.ownBlock]at hr
    |_=>exact .inl rfl
   |some k=>have:=(h.row.lt k hr).1;exact .inr ck),
  fun x hx=>(h.kids x hx).grown hg fun c hc e=>by injection e with e;omega⟩
theorem Tu.store{base B:Nat}{W:World}{h0 h1 h2 u rv:Value}{xs:List (Vl × Value)}(h:Tu base B W h0 h1 h2 u rv xs):Tu base B (W.setCell ⟨B,3,none⟩ rv) h0 h1 h2 rv rv xs:=by
 have hg:=Am W B 3 rv;have hf:=h.bk.live 3;refine⟨by simpa using h.lt,by simpa using h.bs,h.hB,h.bk.set _,by simp[go_sem,h.c0],by simp[go_sem,h.c1],by simp[go_sem,h.c2],by simp[go_sem,h.c3,hf],h.row.kept hg ?_,fun x hx=>(h.kids x hx).grown hg fun c hc e=>by injection e with e;have:=h.hB;omega⟩;cases hr:rv.ownBlock with
 |none=>cases rv with
  |slice A a b=>cases A with
   |none=>exact .inl rfl
   |some x=>simp[Value.ownBlock]at hr
  |_=>exact .inl rfl
 |some k=>have:=(h.row.lt k hr).1;have:=h.hB;exact .inr ck
theorem Tu.app{base B:Nat}{W W':World}{h0 h1 h2 u rv rv':Value}{xs:List (Vl × Value)}{x:Vl × Value}(h:Tu base B W h0 h1 h2 u rv xs)(hx:Fb (fun c=>base<=c/\rv.ownBlock≠some c) W x.2 x.1.kids)
  (hown:W'.ownsRow base 47 4 rv' (xs.length+1) (xs.flatMap Jx++Jx x)) (hg:W.grownBy W' rv.ownBlock) (hwh:rv'.ownBlock=rv.ownBlock\/∃k,rv'.ownBlock=some k/\W.heap.size<=k):Tu base B W' h0 h1 h2 u rv' (xs++[x]):=by
 have hn:some B≠rv.ownBlock:=fun e=>eO;refine⟨ad h.lt hg.size,ae h.bs hg.size,h.hB,h.bk.grown h.lt hg hn,hg.cell h.c0 hn,hg.cell h.c1 hn,hg.cell h.c2 hn,hg.cell h.c3 hn,by simpa using hown,fun y hy=>?_⟩;have hy':Fb (fun c=>base<=c/\rv.ownBlock≠some c) W y.2 y.1.kids:=by
  rcases ag.1 hy with hy|hy
  ·exact h.kids y hy
  rw[aq]at hy;subst hy;exact hx
 refine hy'.kept (fun b o v hb _ hv=>hg.cell hv fun e=>hb.2 e.symm) hg.size fun c hc hl=>⟨hc.1,?_⟩
 rcases hwh with e|⟨k,e,hk⟩
 ·rw[e];exact hc.2
 exact jq
theorem Tu.done{base B:Nat}{W:World}{h0 h1 h2 u rv:Value}{xs:List (Vl × Value)}(h:Tu base B W h0 h1 h2 u rv xs)(hl:xs.length<=1000):Fb (fun c=>base<=c) W rv (Bb xs):=by
 rcases h.row.2 with⟨rfl,h0⟩|⟨g,cap,cur,rfl,hbg,hh,hnc,hcm,hcs,htk⟩
 ·obtain rfl:xs=[]:=List.eq_nil_of_length_eq_zero h0;exact Fb.nil _ _
 refine .mk (g,0) cap xs rfl rfl hl ⟨Jv Zy xs,by unfold maxLen;omega,fun hn=>⟨g,0,rfl,(h.row.lt g rfl).2,fun j u hu=>?_⟩⟩ (fun g' o _ e=>by injection e with e;injection e with e;subst e;exact hbg) fun x hx=>(h.kids x hx).mono fun c hc _=>hc.1;have:=h.row.cells (g:=g) rfl j u hu;have e1:(⟨g,0,none⟩:Addr).add j=⟨g,0+j,none⟩:=bv;rwa [e1]at this
theorem K0{w:World}{base k n m c:Nat}{e:TypeId}{A:Option Addr}{xs:List Value}(h:w.ownsRow base e k (.slice A m c) n xs):m=n:=by
 rcases h.2 with⟨e,h0⟩|⟨g,cap,cur,e,_⟩
 ·injection e with _ e1 e2;omega
 injection e with _ e1 e2
theorem Kh.app{w W W':World}{b:Nat}{p:Value}{k:Kd}{t:List UInt8}{bad:Bool}{row:Option Nat}(h:Kh w b p k t bad W)(hb:b<w.heap.size)(hg:W.grownBy W' row)(hr:∀k,row=some k->w.heap.size+2<=k):Kh w b p k t bad W':=by
 have hn:∀c,c<w.heap.size+2->some c≠row:=fun c hc e=>by have:=hr c e.symm;omega
 obtain⟨⟨⟨h0,h1,h2,h3,h4⟩,hg0⟩,k1,k2,k3⟩:=h
 exact⟨⟨⟨ad h0 hg.size,h1.grown h0 hg (hn b aH),hg.cell h2 (hn b aH),hg.cell h3 (hn b aH),hg.cell h4 (hn b aH)⟩,⟨hg.os.trans hg0.os,hg.tape.trans hg0.tape,hg.output.trans hg0.output,ae hg0.size hg.size,fun k hk hne=>(hg.block k (ad hk hg0.size) (hn k aH)).trans (hg0.block k hk hne)⟩⟩,
  Gh k1 hg (hn _ aH),Gv k2 hg k3 (hn _ aH),ad k3 hg.size⟩
theorem Kh.put{w W:World}{b B o:Nat}{p:Value}{k:Kd}{t:List UInt8}{bad:Bool}(h:Kh w b p k t bad W)(hb:b<w.heap.size)(hB:w.heap.size+2<=B)(v:Value):Kh w b p k t bad (W.setCell ⟨B,o,none⟩ v):=
 h.app hb (Am W B o v) fun k e=>eC
theorem Qdr(x:Vl × Value)(h:x.2.oneCell'=true):∀u∈Jx x,u.oneCell'=true:=by
 intro u hu;simp[Jx]at hu;rcases hu with rfl|rfl|rfl|rfl
 ·rfl
 ·rfl
 ·rfl
 exact h
def P8(vs:List Vl):Option (List Vl × List UInt8)->Option (List Vl × List UInt8)
 |some (us,z)=>some (vs++us,z)
 |none=>none
def LI(K:List UInt8->Option (Vl × List UInt8))(t1:List UInt8)(b1:Bool)(vs:List Vl)(tt:List UInt8):Prop:=
 (b1=true->vs=[])/\(b1=false->Cr K 1000 t1=P8 vs (Cr K (1000 - vs.length) tt))/\Dx (vs.map Bh)+tt.length<=t1.length/\∀x∈vs,Bd x
def LE(K:List UInt8->Option (Vl × List UInt8))(t1:List UInt8)(b1:Bool)(vs:List Vl)(tt:List UInt8)(bb:Bool)(N:Nat):Prop:=
 (if b1 then none else Cr K 1000 t1)=(if bb then none else match Ap 93 tt with|some z=>some (vs,z)|none=>none)/\Dx (vs.map Bh)+tt.length<=t1.length+8*N+1/\∀x∈vs,Bd x
theorem LI.init(K:List UInt8->Option (Vl × List UInt8))(t1:List UInt8)(b1:Bool):LI K t1 b1 [] t1:=
 ⟨fun _=>rfl,fun _=>by cases h:Cr K 1000 t1<;>simp[P8,h],by simp[Dx],by simp⟩
theorem Mf(a b:List (List UInt8)):Dx (a++b)=Dx a+Dx b:=f8
theorem LI.len{K:List UInt8->Option (Vl × List UInt8)}{t1 tt:List UInt8}{b1:Bool}{vs:List Vl}(h:LI K t1 b1 vs tt):vs.length+tt.length<=t1.length:=by
 have h1:=Qd2 (vs.map Bh);have h2:=h.2.2.1;simp at h1;omega
theorem LI.step{K:List UInt8->Option (Vl × List UInt8)}{t1 tt t' t'':List UInt8}{vs:List Vl}{v:Vl}(h:LI K t1 false vs tt)(hK:K tt=some (v,t'))(hg:tt.length=(Bh v).length+t'.length)(hc:Ap 44 t'=some t'')(hB:Bd v)(hl:t1.length<=900):LI K t1 false (vs++[v]) t'':=by
 have hlen:=h.len;obtain⟨_,h2,h3,h4⟩:=h;have e:t'=44::t'':=Ce.1 hc;refine⟨fun h=>Bool.noConfusion h,fun _=>?_,?_,?_⟩
 ·rw[h2 rfl];obtain⟨m,hm⟩:∃m,1000 - vs.length=m+1:=⟨999 - vs.length,by omega⟩
  rw[hm,show 1000 - (vs++[v]).length=m by simp;omega];conv=>lhs;unfold Cr
  rw[hK];simp only[hc];cases Cr K m t''<;>simp[P8]
 ·rw[az,Mf];simp[Fs,Dx]at h3 ⊢;rw[e]at hg;simp at hg;omega
 intro x hx;rcases ag.1 hx with hx|hx
 ·exact h4 x hx
 rw[aq]at hx;subst hx;exact hB
theorem LI.brk{K:List UInt8->Option (Vl × List UInt8)}{t1 tt t':List UInt8}{vs:List Vl}{v:Vl}{N:Nat}(h:LI K t1 false vs tt)(hx:∀x,K tt=some x->v=x.1/\t'=x.2)(hc:Ay [44] t' (K tt).isNone=none)(hB:Bd v)(hl:t1.length<=900)
  (hn:(Bh v).length+t'.length<=tt.length+8*N):LE K t1 false (vs++[v]) t' (K tt).isNone N:=by
 have hlen:=h.len;obtain⟨_,h2,h3,h4⟩:=h;refine⟨?_,?_,?_⟩
 ·rw[if_neg aL,h2 rfl];obtain⟨m,hm⟩:∃m,1000 - vs.length=m+1:=⟨999 - vs.length,by omega⟩
  rw[hm];unfold Cr;cases hk:K tt with
  |none=>rfl
  |some y=>
   obtain⟨e1,e2⟩:=hx y hk;obtain⟨y1,y2⟩:=y;simp only at e1 e2;subst e1 e2;rw[hk,Cc]at hc;simp only[Option.isNone_some,ao,if_false]at hc ⊢;rw[hc];simp only;cases Ap 93 t'<;>simp[P8]
 ·rw[az,Mf];simp[Fs,Dx]at h3 ⊢;omega
 intro x hx;rcases ag.1 hx with hx|hx
 ·exact h4 x hx
 rw[aq]at hx;subst hx;exact hB
theorem LI.bad{K:List UInt8->Option (Vl × List UInt8)}{t1 tt:List UInt8}{vs:List Vl}{N:Nat}(h:LI K t1 true vs tt):LE K t1 true vs tt true N:=⟨by simp,by have:=h.2.2.1;omega,h.2.2.2⟩
theorem LE.fin{K:List UInt8->Option (Vl × List UInt8)}{t t1 tt:List UInt8}{b1 bb:Bool}{vs:List Vl}{N:Nat}(h:LE K t1 b1 vs tt bb N)(h1:t1=(Ay [91] t false).getD t)(hb1:b1=(Ay [91] t false).isNone)(h2:Ay [93] t1 b1=none):
  S7 K 1000 t=if (Ay [93] tt bb).isNone || decide (20<vs.length)then none else some (.mk 91 [] 0 vs,(Ay [93] tt bb).getD tt):=by
 obtain⟨h3,_,_⟩:=h;rw[Cc]at h1 hb1 h2 ⊢;simp only[ao,if_false]at h1 hb1;unfold S7;cases hy:Ap 91 t with
 |none=>
  rw[hy]at hb1;simp only[Option.isNone_none]at hb1;subst hb1;simp only[if_true]at h3;simp only;cases bb with
  |true=>simp
  |false=>
   simp only[ao,if_false]at h3 ⊢;cases hz:Ap 93 tt with
   |none=>simp
   |some z=>rw[hz]at h3;cases h3
 |some r=>
  rw[hy]at h1 hb1;simp only[Option.isNone_some,Option.getD_some]at h1 hb1;subst h1 hb1;simp only[ao,if_false]at h2 h3;simp only;rw[h2];simp only;rw[h3];cases bb with
  |true=>simp
  |false=>
   simp only[ao,if_false];cases Ap 93 tt with
   |none=>simp
   |some z=>
    simp only[Option.isNone_some,Bool.false_or,decide_eq_true_eq,Option.getD_some];by_cases h:vs.length<=20
    ·rw[if_pos h,if_neg aH]
    rw[if_neg h,if_pos aH]
section
attribute [local go_sem] Qkk Qj0 Qjm Qhu ByteArray.mk_append_mk
def Rd(tt:List UInt8)(N:Nat)(r:Option (Vl × List UInt8))(v:Vl)(t':List UInt8):Prop:=
 (∀x,r=some x->v=x.1/\t'=x.2)/\Bd v/\t'.length<=tt.length/\(Bh v).length+t'.length<=tt.length+8*N
structure Qkn(w:World)(b B:Nat)(p:Value)(k:Kd)(h0 h1 h2 rv:Value)(xs:List (Vl × Value))(tt:List UInt8)(bb:Bool)(N:Nat)(r:Option (Vl × List UInt8))(c s a d:Bool)(uc us ua:Value)(W:World):Prop where
 r1:∃t2 bad2,Kh w b p k t2 bad2 W/\(c=false->t2=tt/\bad2=bb)
 r2:a=false->Tu (B+1) B W h0 h1 h2 rv rv xs
 r3:c=true->∃v sl t',uc=Np v sl/\Rd tt N r v t'/\Kh w b p k t' r.isNone W/\(a=false->Fb (fun c=>B+1<=c/\rv.ownBlock≠some c) W sl v.kids) /\
  (s=true->a=false->∃W7,W=W7.alloc (.cells (Jx (v,sl)).toArray 47)/\us=.slice (some ⟨W7.heap.size,0,none⟩) 1 1/\Tu (B+1) B W7 h0 h1 h2 rv rv xs/\Fb (fun c=>B+1<=c/\rv.ownBlock≠some c) W7 sl v.kids/\Kh w b p k t' r.isNone W7) /\
  (a=true->d=false->∃A n c,ua=.slice A n c/\Tu (B+1) B W h0 h1 h2 rv ua (xs++[(v,sl)])) /\
  (d=true->∃A n c,ua=.slice A n c/\Tu (B+1) B W h0 h1 h2 ua ua (xs++[(v,sl)]))
theorem Qer(w0:World)(b N:Nat)(p:Value)(S:List Ty)(t:List UInt8)(k:Kd)(w:World)(hw:Below w0 w0 w)(hb:w0.heap.size<=b)(h:Fw w b p t false)(hl:t.length<=900)(hN:t.length<=N)(hN2:N<=2000)
  (H:IvC w0 b p S N k) (HG:∀s v r,Al S 1000 N k s=some (v,r)->s=Bh v++r) (q:Option (Vl × List UInt8)) (hq:q=S7 (Al S 1000 N k) 1000 t):
  Calls prog 142 #[b,J2 k] w (Kc w b p t (N+1) q):=by
 have HQ:=Aa hq;have HH:=Aa H;have HG:=Aa HG;have HS:=Aa h;have HW:=Aa hw;have hb0:=h.1;have hbn:¬(b=w.heap.size):=aH;have hbn2:¬(b=w.heap.size+1):=aH;have hbn3:¬(b=w.heap.size+2):=aH;have hm:=Ej 91 t false;have Hwt:=Aa (fun W (h:Fw W b p t false)=>Dd b p t [91] false W h aH);have Hlt0:=Aa (fun r (h:Ay [91] t false=some r)=>Jw h);obtain⟨t1,ht1⟩:∃t1,t1=(Ay [91] t false).getD t:=⟨_,rfl⟩
 obtain⟨b1,hb1⟩:∃b1,b1=(Ay [91] t false).isNone:=⟨_,rfl⟩
 have Ht1:=Aa ht1;have Hb1:=Aa hb1
 have HL1:=Aa (show b1=false->t1.length<N from by
  intro h;rw[hb1]at h;cases hr:Ay [91] t false with
  |none=>rw[hr]at h;cases h
  |some r=>have:=Hlt0.o r hr;rw[ht1,hr];simp;omega)
 rw[<-ht1]at hm;rw[<-ht1,<-hb1]at Hwt;have Htk:=Aa (fun W (h:Fw W b p t1 b1)=>Jc b p t1 [93] b1 W h aH);have HK:=Aa (fun s=>(rfl:Al S 1000 N k s=Al S 1000 N k s));clear h hw H hq ht1 hb1 HK;have HF0:=Aa (Kh.init (k:=k) HS.o (T:=62) (U:=47));unfold J2;go_enter func142,ntmps142;go_wp2_with fail;obtain⟨W1,hW1⟩:∃W1,W1=((w.alloc (.cells #[k.signs,k.base,k.name] 62)).alloc (.cells #[.int .u8 0,aa,.int .i64 0,.slice none 0 0] 47)).alloc (.cells #[.int .u8 91,aa,.int .i64 0,.slice none 0 0] 47):=⟨_,rfl⟩
 rw[<-hW1];have hz1:W1.heap.size=w.heap.size+3:=cM;have F1:=@Aa (Kh w b p k t false W1) (by rw[hW1];exact HF0.o.post ((At _ _).alloc (Ao _) _))
 have K1:=Aa (show Tu (w.heap.size+2+1) (w.heap.size+2) W1 (.int .u8 91) aa (.int .i64 0) (.slice none 0 0) (.slice none 0 0) []from by
  have hbk:Qb W1 (w.heap.size+2):=by rw[hW1];have:=Qb.new ((w.alloc (.cells #[k.signs,k.base,k.name] 62)).alloc (.cells #[.int .u8 0,aa,.int .i64 0,.slice none 0 0] 47)) #[.int .u8 91,aa,.int .i64 0,.slice none 0 0] 47;simpa using this
  exact⟨by omega,by omega,by omega,hbk,by rw[hW1];simp[go_sem],by rw[hW1];simp[go_sem],by rw[hW1];simp[go_sem],by rw[hW1];simp[go_sem],World.ownsRow_nil _ _ _ _,by simp⟩)
 clear hW1 HF0;refine(Hwt.o _ F1.o.1.1).mono ?_;rintro e W2 ⟨rfl,hs2⟩;have F2:=Aa (F1.o.step hb0 hs2);have K2:=Aa (K1.o.step hs2.2 aH aH);clear hs2 F1 K1;go_wp2_with fail;refine(Htk.o _ F2.o.1.1).mono ?_;rcases hy:Ay [93] t1 b1 with _|r
 ·have Hy:=Aa hy;clear hy;rintro e W3 ⟨rfl,hs3⟩;simp only[Option.getD_none]at hs3;have F3:=Aa (F2.o.step hb0 hs3);have K3:=Aa (K2.o.step hs3.2 aH aH);clear hs3 F2 K2;go_wp2_with fail;go_loopw [] (fun wr=>∃(xs:List (Vl × Value)) (A:Option Addr) (n c:Nat) (tt:List UInt8),tt.length<=t1.length/\wr.cell? (b,1)=tt/\Hid (Kh w b p k tt b1 wr)/\Hid (Tu (w.heap.size+2+1) (w.heap.size+2) wr (.int .u8 91) aa (.int .i64 0) (.slice A n c) (.slice A n c) xs)/\Hid (LI (Al S 1000 N k) t1 b1 (Bb xs) tt))
   (fun wr=>match wr.cell? (b,1)with|some (.string s)=>s.size|_=>0)
  case atStart=>exact⟨[],none,0,0,t1,Ao _,F3.o.1.1.2.2.2.1,F3.o,K3.o,LI.init _ _ _⟩
  case round=>
   obtain⟨xs,A,n,c,tt,htl,c1,F,K,hI⟩:=hrel;have s2:=F.o.1.1.2.2.2.2;have hxl:xs.length<=900:=by have:=hI.o.len;simp[Bb]at this;omega
   cases b1 with
   |true=>
    go_wp2_with fail;have Hw9:=Aa (fun W (h:Fw W b p tt true)=>Dd b p tt [93] true W h aH);refine(Hw9.o _ F.o.1.1).mono ?_;rintro e W7 ⟨rfl,hs7⟩;have F7:=Aa (F.o.step hb0 hs7);have K7:=Aa (K.o.step hs7.2 aH aH);have hfin:=Aa (HQ.o.trans ((Aa (hI.o.bad (N:=N))).o.fin Ht1.o Hb1.o Hy.o));have hle9:=Ej 93 tt true;have hE9:=(Aa (hI.o.bad (N:=N))).o.2.1;obtain⟨t4,ht4⟩:∃t4,t4=(Ay [93] tt true).getD tt:=⟨_,rfl⟩
    obtain⟨b4,hb4⟩:∃b4,b4=(Ay [93] tt true).isNone:=⟨_,rfl⟩
    rw[<-ht4]at F7 hfin hle9;rw[<-hb4]at F7 hfin;have e7:(Bb xs).length=(xs).length:=by simp[Bb]
    obtain⟨ys,hys⟩:∃ys,ys=xs:=⟨_,rfl⟩
    rw[<-hys]at K7 hfin hE9 e7;have HB9:=Aa (Aa (hI.o.bad (N:=N))).o.2.2;rw[<-hys]at HB9;have hyl:ys.length<=1000:=by rw[hys];omega
    have d0:=K7.o.c0;have d1:=K7.o.c1;have d2:=K7.o.c2;have d3:=K7.o.c3;have s7:=F7.o.1.1.2.1.live 2;have s8:=F7.o.1.1.2.2.2.2;have q7:=F7.o.1.1.1;have hn7:n=ys.length:=K0 K7.o.row;subst hn7;clear hs7 ht4 hb4 hys;by_cases h20:ys.length<=20
    ·have t20:decide ((20:Int)<(ys.length:Int))=false:=aC aH;go_wp2_with ((with_reducible refine Ae (op:=⟨none,.store 47 _ _,_,_,_,none⟩) rfl 47 _ _ rfl (w.heap.size+1) 0 [.int .u8 91,aa,.int .i64 0,.slice A ys.length c] ?_ ?_ ?_ ?_ ?_ ?_);rfl;rfl;(exact F7.o.2.2.1);kernel_rfl;(simp[Value.oneCell']);intro w9 HS9)
     have Z:=Kh.fin (t:=t) (N:=N+1) (v:=.mk 91 [] 0 (Bb ys)) (sl:=.slice A ys.length c) (r:=q) F7.o hb0 HS9.o ((K7.o.done hyl).mono fun c hc _=>by omega) cT
      cT (.mk aL aH aM HB9.o) aH dL
     exact jr
    have t20:decide ((20:Int)<(ys.length:Int))=true:=aD aH;have F8:=Aa (F7.o.step hb0 ⟨F7.o.1.1.setBad true,Am _ b 2 (.bool true)⟩);have K8:=Aa (K7.o.step (Am _ b 2 (.bool true)) aH aH);go_wp2_with ((with_reducible refine Ae (op:=⟨none,.store 47 _ _,_,_,_,none⟩) rfl 47 _ _ rfl (w.heap.size+1) 0 [.int .u8 91,aa,.int .i64 0,.slice A ys.length c] ?_ ?_ ?_ ?_ ?_ ?_);rfl;rfl;(exact F8.o.2.2.1);kernel_rfl;(simp[Value.oneCell']);intro w9 HS9)
    have Z:=Kh.fin (t:=t) (N:=N+1) (v:=.mk 91 [] 0 (Bb ys)) (sl:=.slice A ys.length c) (r:=q) F8.o hb0 HS9.o ((K8.o.done hyl).mono fun c hc _=>by omega) dD
     dD (.mk aL aH aM HB9.o) aH dL
    exact jr
   |false=>
    have h1N:=HL1.o rfl;go_wp2_with fail;refine M4 [17,18,19,20,21,22,23,24,999]
     (fun ix v W=>match ix with|0=>v=(w,2,3)|1=>v=.slice A n c|2=>v=b|3=>v=J2 k|4=>∃x s,v=Np x s|5=>∃g,v=.slice (some ⟨g,0,none⟩) 1 1|6=>∃A n c,v=.slice A n c|7=>v=(w,2,3)|_=>True)
     (fun L U W=>Qkn w b (w.heap.size+2) p k (.int .u8 91) aa (.int .i64 0) (.slice A n c) xs tt false N (Al S 1000 N k tt) (L 4) (L 5) (L 6) (L 8) (U 4) (U 5) (U 6) W) (⟨⟨tt,false,F.o.post (At _ _).drew,fun _=>⟨rfl,rfl⟩⟩,fun _=>K.o.after (At _ _).drew,fun h=>Bool.noConfusion h⟩) ?_ ?_
    ·repeat (first|exact An.nil|(refine An.cons ?_ ?_;rotate_left))
     all_goals
      rintro L U W hL hpre HR Hdep K hK;obtain⟨⟨t2,bad2,hF2,hF2'⟩,R2,R3⟩:=HR.o;have k0:=Ac hF2.2.1 0 rfl;have k1:=Ac hF2.2.1 1 rfl;have k2:=Ac hF2.2.1 2 rfl;simp only[an]at k0 k1 k2;first|(simp[Region.binds]at hpre;done)|simp[Region.binds]at hpre|clear hpre
     ·exact fK
     ·have h6:L 6=false:=Bi Hdep.o 6 1 rfl hL;have g3:=(R2 h6).c3;exact ju
     ·exact fK
     ·go_simp;first|exact hK (J2 k) _ _ rfl Ab HR.o rfl|exact hK (J2 k) _ _ rfl Ab HR.o aJ
     ·have h5:L 5=false:=Bi Hdep.o 5 4 rfl hL;have h6:L 6=false:=Bi Hdep.o 6 5 rfl h5;have h8:L 8=false:=Bi Hdep.o 8 6 rfl h6;obtain⟨rfl,rfl⟩:=hF2' hL;go_simp;refine(HH.o t2 false _ (hF2.1.env HW.o hb) hF2.1.1 aH (fun _=>by omega)).mono ?_;rintro e w5 ⟨v,sl,t',rfl,hk5,hs5,hx5,hB5,hl5,hn5⟩;simp only[ao,if_false]at hx5 hs5;have hF5:=hF2.step hb0 hs5;have hK5:=(R2 h6).step hs5.2 aH aH;have hks:Fb (fun g=>w.heap.size+2+1<=g/\(Value.slice A n c).ownBlock≠some g) w5 sl v.kids:=hk5.mono fun c hc _=>⟨by have:=(R2 h6).bs;omega,fun e=>by have:=((R2 h6).row.lt c e).2;omega⟩
      exact hK (Np v sl) _ _ ⟨v,sl,rfl⟩ Ab ⟨⟨t',_,hF5,fun h=>by simp at h⟩,fun _=>hK5,fun _=>⟨v,sl,t',rfl,⟨hx5,hB5,hl5,hn5⟩,hF5,fun _=>hks,fun h=>absurd (h5.symm.trans aS) aL,fun h=>absurd (h6.symm.trans aS) aL,fun h=>absurd (h8.symm.trans aS) aL⟩⟩ aJ
     ·have h6:L 6=false:=Bi Hdep.o 6 5 rfl hL;have h8:L 8=false:=Bi Hdep.o 8 6 rfl h6;obtain⟨v,sl,t',u4,hrd,hF3,hks,_,_,_⟩:=R3 hpre.1;obtain⟨A7,c7,rfl⟩:=(hks h6).form;have hba:Below W W (W.alloc (.cells (Jx (v,.slice A7 v.kids.length c7)).toArray 47)):=(At _ _).alloc (Ao _) _;unfold Np at u4;go_simp;exact hK (.slice (W,0) 1 1) _ _ ⟨W.heap.size,rfl⟩ Ab ⟨⟨t',_,hF3.post hba,fun h=>absurd (hpre.1.symm.trans aS) aL⟩,fun _=>(R2 h6).after hba,fun _=>⟨v,_,t',u4,hrd,hF3.post hba,fun _=>(hks h6).after hba,fun _ _=>⟨W,rfl,rfl,R2 h6,hks h6,hF3⟩,fun h=>absurd (h6.symm.trans aS) aL,fun h=>absurd (h8.symm.trans aS) aL⟩⟩ (by simp[Act.put,u4])
     ·have h8:L 8=false:=Bi Hdep.o 8 6 rfl hL;obtain⟨lv,uv⟩:=hpre.1;have ls:L 5=true:=hpre.2.1.1;have lc:L 4=true:=hpre.2.2.1;obtain⟨v,sl,t',u4,hrd,hF3,hks,hs,_,_⟩:=R3 lc;obtain⟨W7,rfl,u5,hK7,hk7,hF7⟩:=hs ls hL;obtain⟨A7,c7,e7⟩:=hk7.form;have hlen7:=hK7.row;rw[if_pos di];refine Mn W7 (.tmp 18) (.tmp 22) 45 rfl (w.heap.size+2+1) 47 (.agg #[.int .u8 0,aa,.int .i64 0,.slice none 0 0]) 4 56 underlying45 Qd6 rfl aL (Jx (v,sl)) rfl (Qdr _ (by rw[e7];rfl)) (.slice A n c) xs.length (xs.flatMap Jx) uv u5 hK7.row bh aH hK7.bs ?_;intro v' w' hown hg hwh;obtain⟨A5',n5',c5',rfl⟩:=M6 hown;have hKa:=hK7.app (x:=(v,sl)) hk7 hown hg hwh;have hFa:Kh w b p k t' (Al S 1000 N k tt).isNone w':=hF7.app hb0 hg (fun c e=>by have:=(hK7.row.lt c e).1;omega);exact hK _ _ _ ⟨A5',n5',c5',rfl⟩ Ab ⟨⟨t',_,hFa,fun h=>absurd (lc.symm.trans aS) aL⟩,fun h=>by simp at h,fun _=>⟨v,sl,t',u4,hrd,hFa,fun h=>by simp at h,fun _ h=>by simp at h,fun _ _=>⟨A5',n5',c5',rfl,hKa⟩,fun h=>absurd (h8.symm.trans aS) aL⟩⟩ rfl
     ·exact fK
     ·obtain⟨la,A5',n5',c5',ua⟩:=hpre.2.1;have up:=hpre.1.2;have ls:L 5=true:=by
       cases h5:L 5 with
       |true=>rfl
       |false=>exact absurd (la.symm.trans (Bi Hdep.o 6 5 rfl h5)) aL
      have lc:L 4=true:=by
       cases h4:L 4 with
       |true=>rfl
       |false=>exact absurd (ls.symm.trans (Bi Hdep.o 5 4 rfl h4)) aL
      obtain⟨v,sl,t',u4,hrd,hF3,_,_,ha,_⟩:=R3 lc;obtain⟨A6',n6',c6',ua',hKa⟩:=ha la hL;rw[ua]at hKa;have hcell:=hKa.c3;have hfz:=hKa.bk.live 3;have hst:=hKa.store;have hst2:Tu (w.heap.size+2+1) (w.heap.size+2) (W.setCell ⟨w.heap.size+2,3,none⟩ (.slice A5' n5' c5')) (.int .u8 91) aa (.int .i64 0) (U 6) (U 6) (xs++[(v,sl)]):=by rw[ua];exact hst
      have hFs:Kh w b p k t' (Al S 1000 N k tt).isNone (W.setCell ⟨w.heap.size+2,3,none⟩ (.slice A5' n5' c5')):=hF3.put hb0 aH _;go_simp;exact hK undef _ _ Ab Ab ⟨⟨t',_,hFs,fun h=>absurd (lc.symm.trans aS) aL⟩,fun h=>absurd (la.symm.trans aS) aL,fun _=>⟨v,sl,t',u4,hrd,hFs,fun h=>absurd (la.symm.trans aS) aL,fun _ h=>absurd (la.symm.trans aS) aL,fun _ h=>by simp at h,fun _=>⟨A5',n5',c5',ua,hst2⟩⟩⟩ (by simp[Act.put,hpre,up,ua,u4])
    rintro L U W hL hφ hR;clear hφ;obtain⟨_,_,h3⟩:=hR;obtain⟨v,sl,t',_,hrd,hF,_,_,_,hd⟩:=h3 (hL 4 aL);obtain⟨A5,n5,c5,e5,hK5⟩:=hd (hL 8 aL);rw[e5]at hK5;have F5:=Aa hF;have K5:=Aa hK5;have Rd5:=Aa hrd;have ht5:=hrd.2.2.1;clear hL h3 hd hF hK5 hrd;have Htk5:=Aa (fun W (h:Fw W b p t' (Al S 1000 N k tt).isNone)=>Jc b p t' [44] (Al S 1000 N k tt).isNone W h aH);go_wp2_with fail;refine(Htk5.o _ F5.o.1.1).mono ?_;rcases hc:Ay [44] t' (Al S 1000 N k tt).isNone with _|r
    ·have Hc:=Aa hc;clear hc;rintro e W6 ⟨rfl,hs6⟩;simp only[Option.getD_none]at hs6;have F6:=Aa (F5.o.step hb0 hs6);have K6:=Aa (K5.o.step hs6.2 aH aH)
     have E6:=Aa (show LE (Al S 1000 N k) t1 false (Bb (xs++[(v,sl)])) t' (Al S 1000 N k tt).isNone N from by
      have:=hI.o.brk (N:=N) Rd5.o.1 Hc.o Rd5.o.2.1 aH Rd5.o.2.2.2;simpa [Bb]using this)
     clear hs6 F5 K5 Hc;go_wp2_with fail;have Hw9:=Aa (fun W (h:Fw W b p t' (Al S 1000 N k tt).isNone)=>Dd b p t' [93] (Al S 1000 N k tt).isNone W h aH);refine(Hw9.o _ F6.o.1.1).mono ?_;rintro e W7 ⟨rfl,hs7⟩;have F7:=Aa (F6.o.step hb0 hs7);have K7:=Aa (K6.o.step hs7.2 aH aH);have hfin:=Aa (HQ.o.trans (E6.o.fin Ht1.o Hb1.o Hy.o));have hle9:=Ej 93 t' (Al S 1000 N k tt).isNone;have hE9:=E6.o.2.1;obtain⟨t4,ht4⟩:∃t4,t4=(Ay [93] t' (Al S 1000 N k tt).isNone).getD t':=⟨_,rfl⟩
     obtain⟨b4,hb4⟩:∃b4,b4=(Ay [93] t' (Al S 1000 N k tt).isNone).isNone:=⟨_,rfl⟩
     rw[<-ht4]at F7 hfin hle9;rw[<-hb4]at F7 hfin;have e7:(Bb (xs++[(v,sl)])).length=((xs++[(v,sl)])).length:=by simp[Bb]
     obtain⟨ys,hys⟩:∃ys,ys=(xs++[(v,sl)]):=⟨_,rfl⟩
     rw[<-hys]at K7 hfin hE9 e7;have HB9:=Aa E6.o.2.2;rw[<-hys]at HB9;have hyl:ys.length<=1000:=by rw[hys];simp;omega
     have d0:=K7.o.c0;have d1:=K7.o.c1;have d2:=K7.o.c2;have d3:=K7.o.c3;have s7:=F7.o.1.1.2.1.live 2;have s8:=F7.o.1.1.2.2.2.2;have q7:=F7.o.1.1.1;have hn7:n5=ys.length:=K0 K7.o.row;subst hn7;clear hs7 ht4 hb4 hys;by_cases h20:ys.length<=20
     ·have t20:decide ((20:Int)<(ys.length:Int))=false:=aC aH;go_wp2_with ((with_reducible refine Ae (op:=⟨none,.store 47 _ _,_,_,_,none⟩) rfl 47 _ _ rfl (w.heap.size+1) 0 [.int .u8 91,aa,.int .i64 0,.slice A5 ys.length c5] ?_ ?_ ?_ ?_ ?_ ?_);rfl;rfl;(exact F7.o.2.2.1);kernel_rfl;(simp[Value.oneCell']);intro w9 HS9)
      have Z:=Kh.fin (t:=t) (N:=N+1) (v:=.mk 91 [] 0 (Bb ys)) (sl:=.slice A5 ys.length c5) (r:=q) F7.o hb0 HS9.o ((K7.o.done hyl).mono fun c hc _=>by omega) cT
       cT (.mk aL aH aM HB9.o) aH dL
      exact jv
     have t20:decide ((20:Int)<(ys.length:Int))=true:=aD aH;have F8:=Aa (F7.o.step hb0 ⟨F7.o.1.1.setBad true,Am _ b 2 (.bool true)⟩);have K8:=Aa (K7.o.step (Am _ b 2 (.bool true)) aH aH);go_wp2_with ((with_reducible refine Ae (op:=⟨none,.store 47 _ _,_,_,_,none⟩) rfl 47 _ _ rfl (w.heap.size+1) 0 [.int .u8 91,aa,.int .i64 0,.slice A5 ys.length c5] ?_ ?_ ?_ ?_ ?_ ?_);rfl;rfl;(exact F8.o.2.2.1);kernel_rfl;(simp[Value.oneCell']);intro w9 HS9)
     have Z:=Kh.fin (t:=t) (N:=N+1) (v:=.mk 91 [] 0 (Bb ys)) (sl:=.slice A5 ys.length c5) (r:=q) F8.o hb0 HS9.o ((K8.o.done hyl).mono fun c hc _=>by omega) dD
      dD (.mk aL aH aM HB9.o) aH dL
     exact jv
    have Hc:=Aa hc;have hcl:=Jw hc;clear hc;rintro e W6 ⟨rfl,hs6⟩;simp only[Option.getD_some]at hs6;cases hk:Al S 1000 N k tt with
    |none=>rw[hk,Cc]at Hc;exact absurd Hc.o aM
    |some y=>
     have Hk:=Aa hk;rw[hk]at hs6 F5 Rd5;have F6:=Aa (F5.o.step hb0 hs6);have K6:=Aa (K5.o.step hs6.2 aH aH)
     have I6:=Aa (show LI (Al S 1000 N k) t1 false (Bb (xs++[(v,sl)])) r from by
      obtain⟨e1,e2⟩:=Rd5.o.1 y rfl;have hg:=HG.o tt y.1 y.2 (by rw[Hk.o]);have h44:Ap 44 t'=some r:=by have:=Hc.o;rw[Hk.o,Cc]at this;simpa using this
      have:=hI.o.step (v:=v) (t':=t') (by rw[Hk.o,e1,e2]) (by rw[hg,e1,e2];simp) h44 Rd5.o.2.1 aH;simpa [Bb]using this)
     have c6:=F6.o.1.1.2.2.2.1;clear hs6 F5 K5 hk;go_wp2_with fail;go_roundw
     case rel=>exact⟨xs++[(v,sl)],A5,n5,c5,r,by omega,c6,F6.o,K6.o,I6.o⟩
     case measure=>simp[c1,c6,ByteArray.size];omega
 have Hy:=Aa hy;have hlt:=Jw hy;clear hy;rintro e W3 ⟨rfl,hs3⟩;simp only[Option.getD_some]at hs3;have F3:=Aa (F2.o.step hb0 hs3);have K3:=Aa (K2.o.step hs3.2 aH aH);clear hs3 F2 K2;have d0:=K3.o.c0;have d1:=K3.o.c1;have d2:=K3.o.c2;have d3:=K3.o.c3;go_wp2_with ((with_reducible refine Ae (op:=⟨none,.store 47 _ _,_,_,_,none⟩) rfl 47 _ _ rfl (w.heap.size+1) 0 [.int .u8 91,aa,.int .i64 0,.slice none 0 0] ?_ ?_ ?_ ?_ ?_ ?_);rfl;rfl;(exact F3.o.2.2.1);kernel_rfl;(simp[Value.oneCell']);intro w9 HS9)
 have hq2:q=some (.mk 91 [] 0 [],r):=by
  have h1:=Ht1.o;have h2:=Hb1.o;have h3:=Hy.o;rw[HQ.o];rw[Cc]at h1 h2 h3;unfold S7;simp only[ao,if_false]at h1 h2;cases h9:Ap 91 t with
  |none=>rw[h9]at h2;simp at h2;subst h2;simp at h3
  |some z=>
   rw[h9]at h1 h2;simp at h1 h2;subst h1 h2;simp only[ao,if_false]at h3;simp only[h3]
 have Z:=Kh.fin (t:=t) (N:=N+1) (v:=.mk 91 [] 0 []) (sl:=.slice none 0 0) (r:=q) F3.o hb0 HS9.o (Fb.nil _ _) (by rw[hq2];cases b1;rfl;have:=Hy.o;rw[Cc]at this;simp at this)
  (by rw[hq2];simp) (Eu aL aL) aH (by simp[Bh,Dz,H6,Ar];omega)
 exact aF (v:=.agg (Ha (.mk 91 [] 0 []) (.slice none 0 0)).toArray) (Az results142 _ _ (w.heap.size+1) _ _ rfl Z.2 underlying47 rfl aP) rfl Z.1
theorem Zk(p:Value)(xs:List PT)(hok:∀y∈xs,Ek y.ty)(n:Nat)(k:Kd)(w:World)(hsc:Xc w p xs)(hk:Cu k)(hs:k.signs=[])(hb:k.base=[64])(x:PT)(hx:Ex xs k.name=some x)
  (hn:n<=9) (ih:x.ty.sort=85->∀f fs,x.ty.fields=f::fs->∀W,Xc W p xs->Calls prog 155 #[p,J2 f.kind] W (G6 (C5 (Ai xs) n f.kind) W)):
  Calls prog 155 #[p,J2 k] w (G6 (C5 (Ai xs) (n+1) k) w):=by
 have Hlen:=Aa (Qe (Ai xs) (fun t ht=>by obtain⟨y,hy,rfl⟩:=ax.1 ht;exact hok y hy))
 have HF:=Aa (show C5 (Ai xs) (n+1) k=if x.ty.sort=82 then[123,125]else match x.ty.fields with|[]=>[]|f::_=>if x.ty.sort=69 then 35::Aw f.tag else 60::(Aw f.tag++61::(C5 (Ai xs) n f.kind++[62]))from by
  rw[C5,if_neg dE,if_neg dE,if_neg bJ,if_neg bJ,if_neg bJ,Jt,hx];rfl)
 have hxm:=(Gx hx).1;have Hto:=Aa (hok _ hxm);have hnl:=Kr hk;have Hsc:=Aa hsc;obtain⟨pb,A,cc,mb,rfl,q0,q1,q2,q3,q4,htys,_⟩:=hsc;obtain⟨z0,_,z1,z2,z3,z4,A8,c,hz8,hl8',hrow8⟩:=htys x hxm;rw[hz8]at z3;have Hrow:=Aa hrow8;have Ih:=Aa ih
 have Hlk:=Aa (fun W (h:Below w w W)=>show (Instr.lookup 156 (.map (some mb)) k.name false).run prog W=.ok x.blk W from by
  have:=Je (Dm.below q4 h) k.name aH;rw[hx]at this;exact this)
 have hmb:=q4.lt;unfold J2;rw[hs,hb];clear hk hs hb hx q1 q3 q4 htys hrow8 ih hok hz8 z2 z4 hxm;go_enter func155,ntmps155;go_wp2_with fail;refine(Jb _ _ _).mono ?_;rintro e w1 ⟨rfl,hb1⟩;obtain⟨hc1,_,hzz⟩:=By hb1;have y1:w1.cell? (w,1)=some (.string ⟨#[64]⟩):=(hc1 w 1 aM).trans aM;have y2:w1.cell? (w,2)=k.name:=(hc1 w 2 aM).trans aM;have Hb1:=@Aa (Below w w w1) (((At w.heap.size w).alloc (Ao _) _).trans (hb1.mono aM));have hz1:w.heap.size<w1.heap.size:=fj;have m1:w1.cell? (pb,1)=some (.map (some mb)):=(Hb1.o.cell (p:=⟨pb,1,none⟩) q0).trans q2;have u0:w1.cell? (x.blk,0)=some (.int .u8 (x.ty.sort.toNat:Int)):=(Hb1.o.cell (p:=⟨x.blk,0,none⟩) z0).trans z1;have u2:w1.cell? (x.blk,2)=some (.slice A8 x.ty.fields.length c):=(Hb1.o.cell (p:=⟨x.blk,2,none⟩) z0).trans z3;have Hlook:=Aa (fun q=>Hlk.o (w1.drewN q) (Hb1.o.trans ((below_drewN (At _ _) q).mono Hb1.o.size)));clear hc1 hzz hb1 q2 z1 z3;go_wp2_with fail;refine M4 [20,21,22,23,24,25,26,5]
  (fun i v W=>match i with|0=>v=pb|1=>v=pb|2=>v=(pb,1)|3=>v=.map (some mb)|4=>v=(w,2)|5=>v=k.name|6=>v=x.blk|7=>v=x.blk|_=>True)
  (fun L U W=>∃q,W=w1.drewN q) (⟨1,rfl⟩) ?_ ?_
 ·repeat (first|exact An.nil|(refine An.cons ?_ ?_;rotate_left))
  all_goals
   rintro L U W hL hpre HR Hdep K hK;obtain⟨q,rfl⟩:=HR.o;have hlq:=Hlook.o q;first|(simp[Region.binds]at hpre;done)|simp[Region.binds]at hpre|clear hpre
  iterate 8
   ·exact fK
 rintro L U W hL hφ hR;have e7:U 7=x.blk:=hφ 7 aL;simp only[e7];clear hφ;obtain⟨q,rfl⟩:=hR;have Hbq:=Aa (Hb1.o.trans ((below_drewN (At w1.heap.size w1) q).mono Hb1.o.size));clear hL y1 y2 m1;by_cases h82:x.ty.sort=82
 ·have t82:((x.ty.sort.toNat:Int) == 82)=true:=Bq (d:=82) h82;have HF2:=Aa (HF.o.trans (if_pos h82));clear h82 HF;go_wp2_with fail;go_ret;exact⟨by rw[HF2.o];rfl,Hbq.o⟩
 have t82:((x.ty.sort.toNat:Int) == 82)=false:=Aq (d:=82) h82;have HF2:=Aa (HF.o.trans (if_neg h82));have hne:x.ty.fields≠[]:=fun h=>h82 (Hto.o.2.2.2.2 h);obtain⟨f,fs,hfs⟩:∃f fs,x.ty.fields=f::fs:=by
  cases h:x.ty.fields with
  |nil=>exact absurd h hne
  |cons f fs=>exact⟨f,fs,rfl⟩
 have hf0:0<x.ty.fields.length:=cF;have hge:x.ty.fields[0]=f:=by simp[hfs]
 have hft:=Hto.o.2.2.1.1 f cF;have htag:f.tag<=200:=hft.2.1;have hdl:=Cv 2 f.tag ci;have Hd:=Aa (fun W=>Pa f.tag f.tag W (Ao _) aH);have hi0:(0:Int)<(x.ty.fields.length:Int):=aH;have HF3:=@Aa (C5 (Ai xs) (n+1) k=if x.ty.sort=69 then 35::Aw f.tag else 60::(Aw f.tag++61::(C5 (Ai xs) n f.kind++[62]))) (by rw[HF2.o,hfs]);have Hfs:=Aa hfs;obtain⟨b,off,rfl,hbl,hrg⟩:=Rm.range Hrow.o hf0;rw[hge]at hrg;have hrq:=Ax hrg hbl Hbq.o;simp only[Nat.zero_mul,Nat.add_zero]at hrq;have g0:(w1.drewN q).cell? ⟨b,off,none⟩=(f.tag:Int):=by simpa using Ac hrq 0 rfl
 have G2:=Aa (Ac hrq 2 rfl);have G3:=Aa (Ac hrq 3 rfl);have G4:=Aa (Ac hrq 4 rfl);have H82:=Aa h82;clear HF2 HF h82 hne hfs hge hft hrg hrq;by_cases h69:x.ty.sort=69
 ·have t69:((x.ty.sort.toNat:Int) == 69)=true:=Bq (d:=69) h69;have HF4:=Aa (HF3.o.trans (if_pos h69));clear h69 HF3;go_wp2_with fail;refine(Hd.o _).mono ?_;rintro e w2 ⟨rfl,hb2⟩;go_wp2_with fail;go_ret;exact⟨by rw[HF4.o];simp,Hbq.o.trans (hb2.mono Hbq.o.size)⟩
 have t69:((x.ty.sort.toNat:Int) == 69)=false:=Aq (d:=69) h69;have HF4:=Aa (HF3.o.trans (if_neg h69));have h85:x.ty.sort=85:=by
  rcases Hto.o.1 with h|h|h
  ·exact absurd h H82.o
  ·exact h
  exact absurd h h69
 have Ih2:=Aa (Ih.o h85 f fs Hfs.o);unfold J2 at Ih2;have hsl:=Hlen.o n f.kind;generalize C5 (Ai xs) n f.kind=sl at *;clear h69 HF3 h85 Ih;go_wp2_with fail;obtain⟨W0,hW0⟩:∃W0,W0=w1.drewN q:=⟨_,rfl⟩
 rw[<-hW0]at Hbq g0 G2 G3 G4 ⊢;have Y2:=@Aa (W0.cell? (x.blk,2)=some (.slice (some ⟨b,off,none⟩) x.ty.fields.length c)) (by rw[hW0];exact u2);have Y0:=Aa g0;have Y3:=@Aa (W0.cell? ⟨b,off+2,none⟩=some (.string ⟨f.kind.signs.toArray⟩)) G2.o;have Y4:=@Aa (W0.cell? ⟨b,off+3,none⟩=some (.string ⟨f.kind.base.toArray⟩)) G3.o;have Y5:=@Aa (W0.cell? ⟨b,off+4,none⟩=some (.string ⟨f.kind.name.toArray⟩)) G4.o;have Hx5:=@Aa (x.blk<W0.heap.size) (ad z0 Hbq.o.size);have Hb5:=@Aa (b<W0.heap.size) (ad hbl Hbq.o.size);have Hsc0:=Aa (Hsc.o.below Hbq.o);clear hW0 g0 u0 u2;refine M4 [44,45,46,47,48,49,50,51,52,53,54,55,56,57,58,59,60,61,62,63,64,4]
  (fun i v W=>match i with|0=>v=x.blk|1=>v=x.blk|2=>v=(x.blk,2)|3=>v=.slice (some ⟨b,off,none⟩) x.ty.fields.length c|4=>v=.pointer (some ⟨b,off,none⟩)|5=>v=.pointer (some ⟨b,off,none⟩)|6=>v=(f.tag:Int)|7=>v=.string ⟨(Aw f.tag).toArray⟩|8=>v=.string ⟨(60::Aw f.tag).toArray⟩|9=>v=.string ⟨(60::(Aw f.tag++[61])).toArray⟩|10=>v=pb|11=>v=x.blk|12=>v=x.blk|13=>v=(x.blk,2)|14=>v=.slice (some ⟨b,off,none⟩) x.ty.fields.length c|15=>v=.pointer (some ⟨b,off,none⟩)|16=>v=.pointer (some ⟨b,off+2,none⟩)|17=>v=.agg #[.string ⟨f.kind.signs.toArray⟩,.string ⟨f.kind.base.toArray⟩,.string ⟨f.kind.name.toArray⟩]|18=>v=.string ⟨(sl).toArray⟩|19=>v=.string ⟨(60::(Aw f.tag++61::sl)).toArray⟩|20=>v=.string ⟨(60::(Aw f.tag++61::(sl++[62]))).toArray⟩|21=>v=.string ⟨(60::(Aw f.tag++61::(sl++[62]))).toArray⟩|_=>True)
  (fun L U W=>Below W0 W0 W) ((At _ _).drew) ?_ ?_
 ·repeat (first|exact An.nil|(refine An.cons ?_ ?_;rotate_left))
  all_goals
   rintro L U W hL hpre HR Hdep K hK;have hB:=HR.o;have c2:=(hB.cell (p:=⟨x.blk,2,none⟩) Hx5.o).trans Y2.o;have c0:=(hB.cell (p:=⟨b,off,none⟩) Hb5.o).trans Y0.o;have c3:=(hB.cell (p:=⟨b,off+2,none⟩) Hb5.o).trans Y3.o;have c4:=(hB.cell (p:=⟨b,off+3,none⟩) Hb5.o).trans Y4.o;have c5:=(hB.cell (p:=⟨b,off+4,none⟩) Hb5.o).trans Y5.o;have c4':W.cell? ⟨b,off+2+1,none⟩=_:=c4;have c5':W.cell? ⟨b,off+2+1+1,none⟩=_:=c5;have c5'':W.cell? ⟨b,off+2+2,none⟩=_:=c5;first|(simp[Region.binds]at hpre;done)|simp[Region.binds]at hpre|clear hpre
  iterate 7
   ·exact fK
  ·exact hY
  ·exact fW
  ·exact fW
  iterate 8
   ·exact fK
  ·exact hC
  ·exact fW
  ·exact fW
  ·exact fK
 rintro L U W hL hφ hR;have e21:U 21=.string ⟨(60::(Aw f.tag++61::(sl++[62]))).toArray⟩:=hφ 21 aL;simp only[e21];clear hφ;have Hb9:=Aa (Hbq.o.trans (hR.mono Hbq.o.size));clear hR;go_wp2_with fail;go_ret;exact⟨by rw[HF4.o];rfl,Hb9.o⟩
theorem Qr(p:Value)(S:List Ty)(n:Nat)(k:Kd)(w:World)(hk:Cu k)(h:¬(k.signs=[]/\k.base=[64])):
  Calls prog 155 #[p,J2 k] w (G6 (C5 S (n+1) k) w):=by
 unfold J2;cases hs:k.signs with
 |cons c t=>
  have hc:=Qc hk hs;have hl:=hk.2.2;unfold Bn at hl;rw[hs]at hl;rw[N5 _ _ k c t hs hc];exact Yz p c t _ _ w hc (by simp at hl;omega)
 |nil=>
  have hb:k.base≠[64]:=fun hb=>h ⟨hs,hb⟩;rw[Mh _ _ k hs (Mr hk hs hb).2];exact Xi p k.base _ w (Mr hk hs hb).2
theorem Qbd(p:Value)(xs:List PT)(hok:∀x∈xs,Ek x.ty)(hS:Fy (Ai xs)):∀(n:Nat),n<=9->∀(k:Kd) (w:World),Xc w p xs->Cu k->B9 (Ai xs) k->Sj (Ai xs) n k ->
  Calls prog 155 #[p,J2 k] w (G6 (C5 (Ai xs) (n+1) k) w):=by
 intro n;induction n with
 |zero=>
  intro _ k w hsc hk hr he;refine Qr p _ 0 k w hk (fun h=>?_);obtain⟨t,_,h2⟩:=he h.1 h.2;exact absurd h2 (by simp[Bs])
 |succ n ih=>
  intro hn k w hsc hk hr he;by_cases hsb:k.signs=[]/\k.base=[64]
  ·obtain⟨hs,hb⟩:=hsb;have h1:=hr hb;rw[Jt]at h1;cases hx:Ex xs k.name with
   |none=>rw[hx]at h1;cases h1
   |some x=>
    have hft:Bw (Ai xs) k.name=some x.ty:=(Gx hx).2.2;have hto:Ek x.ty:=hok _ (Gx hx).1;refine Zk p xs hok (n+1) k w hsc hk hs hb x hx hn (fun h85 f fs hfs W hW=>?_);have hrf:B9 (Ai xs) f.kind:=hS x.ty (Bv hft).1 dy f cF;exact ja
  exact Qr p _ (n+1) k w hk hsb
theorem Qa1(p:Value)(xs:List PT)(h:Nn (Ai xs))(k:Kd)(w:World)(hsc:Xc w p xs)(hk:Cu k)(hr:B9 (Ai xs) k):
  Calls prog 155 #[p,J2 k] w (G6 (Sd (Ai xs) k) w):=
 Qbd p xs (fun x hx=>h.1.1 x.ty (ap hx)) h.2.1 9 (Ao _) k w hsc hk hr (Rp h hr)
theorem Qix(p:Value)(xs:List PT)(h:Nn (Ai xs))(f:Fd)(b o:Nat)(w:World)(hsc:Xc w p xs)(hf:w.rangeAt b o (S5 f))(hk:Cu f.kind)(hr:B9 (Ai xs) f.kind)(hl:f.given.length<=1000):
  Calls prog 121 #[p,.pointer (some ⟨b,o,none⟩)] w (G6 (Nq (Ai xs) f) w):=by
 have HF:=@Aa (Nq (Ai xs) f=if f.given=[]then Sd (Ai xs) f.kind else f.given) rfl;have Hs:=Aa (fun W (h1:Xc W p xs)=>Qa1 p xs h f.kind W h1 hk hr);have Hsc:=Aa hsc;unfold J2 at Hs;have c2:w.cell? ⟨b,o+2,none⟩=f.kind.signs:=Ac hf 2 rfl;have c3:w.cell? ⟨b,o+3,none⟩=f.kind.base:=Ac hf 3 rfl;have c4:w.cell? ⟨b,o+4,none⟩=f.kind.name:=Ac hf 4 rfl;have c5:w.cell? ⟨b,o+5,none⟩=f.given:=Ac hf 5 rfl;have c3':w.cell? ⟨b,o+2+1,none⟩=f.kind.base:=c3;have c4':w.cell? ⟨b,o+2+1+1,none⟩=f.kind.name:=c4;have c4'':w.cell? ⟨b,o+2+2,none⟩=f.kind.name:=c4;clear h hk hr hsc hf;by_cases hg:f.given=[]
 ·have HF2:=Aa (HF.o.trans (if_pos hg));rw[hg]at c5;clear hg HF;go_enter func121,ntmps121;go_wp2_with fail;refine(Hs.o _ Hsc.o).mono ?_;rintro e w1 ⟨rfl,hb1⟩;go_wp2_with fail;go_ret;exact⟨by rw[HF2.o];rfl,hb1⟩
 have HF2:=Aa (HF.o.trans (if_neg hg));have t1:f.given.isEmpty=false:=by simpa using hg
 have t2:(!f.given.isEmpty)=true:=by simp[t1]
 clear hg HF;go_enter func121,ntmps121;go_wp2_with fail;go_ret;exact⟨by rw[HF2.o];rfl,At _ _⟩
def Pt(w:World)(b:Nat)(p:Value)(R:Nat)(t:List UInt8)(bad:Bool)(W:World):Prop:=De w b p t bad W/\W.there R 0 4/\w.heap.size<=R/\R<W.heap.size
theorem Pt.post{w W W':World}{b R:Nat}{p:Value}{t:List UInt8}{bad:Bool}(h:Pt w b p R t bad W)(hb:Below W W W'):Pt w b p R t bad W':=
 ⟨h.1.post hb,Au h.2.1 h.2.2.2 hb,h.2.2.1,ad h.2.2.2 hb.size⟩
theorem Pt.step{w W W':World}{b R:Nat}{p:Value}{t t':List UInt8}{bad bad':Bool}(h:Pt w b p R t bad W)(hb:b<w.heap.size)(hs:De W b p t' bad' W'):Pt w b p R t' bad' W':=
 ⟨h.1.trans hs,Gv h.2.1 hs.2 h.2.2.2 (by have:=h.2.2.1;simp;omega),h.2.2.1,ad h.2.2.2 hs.2.size⟩
theorem De.app{w W W':World}{b:Nat}{p:Value}{t:List UInt8}{bad:Bool}{row:Option Nat}(h:De w b p t bad W)(hb:b<w.heap.size)(hg:W.grownBy W' row)(hr:∀k,row=some k->w.heap.size<=k):De w b p t bad W':=by
 have hn:∀c,c<w.heap.size->some c≠row:=fun c hc e=>by have:=hr c e.symm;omega
 obtain⟨⟨h0,h1,h2,h3,h4⟩,hg0⟩:=h;exact⟨⟨ad h0 hg.size,h1.grown h0 hg (hn b hb),hg.cell h2 (hn b hb),hg.cell h3 (hn b hb),hg.cell h4 (hn b hb)⟩,⟨hg.os.trans hg0.os,hg.tape.trans hg0.tape,hg.output.trans hg0.output,ae hg0.size hg.size,fun k hk hne=>(hg.block k (ad hk hg0.size) (hn k hk)).trans (hg0.block k hk hne)⟩⟩
theorem Pt.app{w W W':World}{b R:Nat}{p:Value}{t:List UInt8}{bad:Bool}{row:Option Nat}(h:Pt w b p R t bad W)(hb:b<w.heap.size)(hg:W.grownBy W' row)(hr:∀k,row=some k->R<k):Pt w b p R t bad W':=
 ⟨h.1.app hb hg fun k e=>by have:=hr k e;have:=h.2.2.1;omega,Gv h.2.1 hg h.2.2.2 (fun e=>by have:=hr R e.symm;omega),h.2.2.1,ad h.2.2.2 hg.size⟩
theorem Pt.fin{w W w9:World}{b R:Nat}{p:Value}{t:List UInt8}{bad:Bool}{v:Vl}{sl:Value}(F:Pt w b p R t bad W)(hb:b<w.heap.size)(HS:w9=W.setCells R 0 (Ha v sl))(hv:Fb (fun c=>R<c) W sl v.kids):
  Fb (fun c=>w.heap.size<=c) w9 sl v.kids/\De w b p t bad w9/\w9.rangeAt R 0 (Ha v sl):=by
 subst HS;have:=F.2.2.1;exact⟨(hv.set (B:=R) aH _).mono fun c hc _=>by omega,F.1.set aH aH _,ac _ _ _ _ F.2.1⟩
def Qjw(w0 w:World)(b:Nat)(p:Value)(t:List UInt8)(N:Nat)(fs:List Fd)(r:Option ((Fd × Vl) × List UInt8))(e:Ending)(w':World):Prop:=
 ∃(v:Vl) (sl fp:Value) (t':List UInt8),e=.returned (.tuple #[Np v sl,fp])/\Fb (fun c=>w.heap.size<=c) w' sl v.kids/\De w b p t' r.isNone w'/\Bd v/\t'.length<=t.length/\(Bh v).length+t'.length<=t.length+8*N /\
  ((fp=.pointer none/\r=none)\/∃g x,Jg w0.heap.size w' fp (some g)/\v=Dk (g,x)/\Bf fs g.tag=some g/\Bd x/\∀y,r=some y->y=((g,x),t'))
theorem Jg.via{B:Nat}{w0 W W':World}{v:Value}{o:Option Fd}(h:Jg B W v o)(h1:Below B w0 W)(h2:Below B w0 W'):Jg B W' v o:=by
 cases o with
 |none=>exact h
 |some f=>
  obtain⟨b,o,e,hb,hr⟩:=h;exact⟨b,o,e,hb,fun j u hu=>(h2.cell (p:=⟨b,o+j,none⟩) hb).trans ((h1.cell (p:=⟨b,o+j,none⟩) hb).symm.trans (hr j u hu))⟩
theorem Qbi(fs:List Fd)(t:List UInt8):Fj fs t=if Gf 200 t then(Bf fs (G7 t)).map (fun f=>(f,t.dropWhile Ba))else none:=by
 unfold Fj;rw[Qak];unfold Gf G7;cases h:Ci (t.takeWhile Ba)with
 |none=>simp
 |some n=>
  have:=(B0.1 h).1;simp only[decide_eq_true_eq,this,if_true,Option.getD_some];by_cases h2:n<=200
  ·rw[if_pos h2,if_pos h2];cases Bf fs n<;>rfl
  rw[if_neg h2,if_neg h2]
theorem Qez(K:Kd->List UInt8->Option (Vl × List UInt8))(fs:List Fd)(t:List UInt8):Cw K fs t=match Bf fs (G7 t)with
  |none=>none
  |some f=>match Ay [61] (t.dropWhile Ba) (!Gf 200 t)with
   |none=>none
   |some q=>match K f.kind q with|some (v,z)=>some ((f,v),z)|none=>none:=by
 unfold Cw;rw[Qbi];simp only[Cc];cases Gf 200 t<;>cases Bf fs (G7 t)<;>simp
 rfl
theorem Qib(t:List UInt8)(h:Gf 200 t=true):(Aw (G7 t)).length+(t.dropWhile Ba).length=t.length:=by
 unfold Gf at h;unfold G7;cases hd:Ci (t.takeWhile Ba)with
 |none=>rw[hd]at h;cases h
 |some n=>
  have e:=(B0.1 hd).2;simp only[Option.getD_some];rw[<-e,<-ai,List.takeWhile_append_dropWhile]
theorem Qbc(w0:World)(b N:Nat)(p:Value)(S:List Ty)(x:PT)(hx:Rg w0 x)(t:List UInt8)(w:World)(hw:Below w0 w0 w)(hb:w0.heap.size<=b)(bad:Bool)(h:Fw w b p t bad)(hl:t.length<=900)(hN:bad=false->t.length<=N)(hN2:N<=2000)
  (htg:∀f∈x.ty.fields,f.tag<=200) (H:∀f∈x.ty.fields,IvC w0 b p S N f.kind) (q:Option ((Fd × Vl) × List UInt8)) (hq:q=if bad then none else Cw (Al S 1000 N) x.ty.fields t):
  Calls prog 176 #[b,x.blk] w (Qjw w0 w b p t N x.ty.fields q):=by
 have HQ:=Aa (hq.trans (by rw[Qez]));have Hnl:=Aa (Qib t);have HS:=Aa h;have HW:=Aa hw;have hb0:=h.1;have hbn:¬(b=w.heap.size):=aH;have hnn:=Zd t;have hdr:=Ze Ba t;have Hn:=Aa (fun W (h:Fw W b p t bad)=>Nz b 200 p t bad W h aH aL);have Hf:=Aa (fun W (hW:Below w0 w0 W)=>V9 w0 x hx (G7 t) W hW aH);have hxb:x.blk<w0.heap.size:=hx.1;clear h hw hq;obtain⟨b1,hb1⟩:∃b1,b1=(bad || !Gf 200 t):=⟨_,rfl⟩
 have Hb1:=Aa hb1;rw[<-hb1]at Hn;generalize t.dropWhile Ba=t1 at *;have hm:=Ej 61 t1 b1;have Hwt:=Aa (fun W (h:Fw W b p t1 b1)=>Dd b p t1 [61] b1 W h aH);have Hlt0:=Aa (fun r (h:Ay [61] t1 b1=some r)=>Jw h);clear hb1;cases hfo:Bf x.ty.fields (G7 t)with
 |none=>
  rw[hfo]at Hf HQ;have hq0:=@Aa (q=none) (by have:=HQ.o;cases bad<;>simpa using this);generalize G7 t=n at *;generalize (Ay [61] t1 b1).getD t1=t2 at *;generalize (Ay [61] t1 b1).isNone=b2 at *;clear hfo HQ Hnl;go_enter func176,ntmps176;go_wp2_with fail;have F0:=@Aa (Pt w b p w.heap.size t bad (w.alloc (.cells #[.int .u8 0,aa,.int .i64 0,.slice none 0 0] 47))) ⟨⟨HS.o.grow ((At _ _).alloc (Ao _) _),Cs ((At _ _).alloc (Ao _) _) _⟩,Ct w [.int .u8 0,aa,.int .i64 0,.slice none 0 0] _,Ao _,by simp⟩;refine(Hn.o _ F0.o.1.1).mono ?_;rintro e w2 ⟨rfl,hs2⟩;have F2:=Aa (F0.o.step hb0 hs2);clear hs2;go_wp2_with fail;refine(Hf.o _ (F2.o.1.env HW.o hb)).mono ?_;rintro e w3 ⟨fp,rfl,hfp,rfl⟩;have hfp':fp=.pointer none:=hfp;subst hfp';go_wp2_with fail;refine(Hwt.o _ F2.o.1.1).mono ?_;rintro e w4 ⟨rfl,hs4⟩;have F4:=Aa (F2.o.step hb0 hs4);clear hs4;have sb:=F4.o.1.1.2.1.live 2;have s0:=F4.o.1.1.1;have s2:=F4.o.1.1.2.2.2.2;have F5:=Aa (F4.o.step hb0 ⟨F4.o.1.1.setBad true,Am _ b 2 (.bool true)⟩);go_wp2_with ((with_reducible refine Ae (op:=⟨none,.store 47 _ _,_,_,_,none⟩) rfl 47 _ _ rfl w 0 [.int .u8 0,aa,.int .i64 0,.slice none 0 0] ?_ ?_ ?_ ?_ ?_ ?_);rfl;rfl;(exact F5.o.2.1);kernel_rfl;(simp[Value.oneCell']);intro w9 HS9)
  have Z:=Pt.fin (v:=Fq) (sl:=.slice none 0 0) F5.o hb0 HS9.o (Fb.nil _ _);refine aF (v:=.tuple #[.agg (Ha Fq (.slice none 0 0)).toArray,.pointer none]) (As results176 _ _ w.heap.size _ _ _ rfl rfl Z.2.2 underlying47 rfl aP) rfl ?_;exact⟨Fq,.slice none 0 0,.pointer none,t2,rfl,Z.1,by rw[hq0.o];exact Z.2.1,Eu aL aL,by omega,by simp[Fq,Bh,Dz,H6];omega,.inl ⟨rfl,hq0.o⟩⟩
 |some g=>
  obtain⟨hgt,hgm⟩:=Cd hfo;have hg2:=htg g hgm;have Hfg:=Aa (show Bf x.ty.fields g.tag=some g by rw[hgt];exact hfo);rw[hfo]at Hf HQ;simp only at HQ;have HH:=Aa (H g hgm);cases hc:Ay [61] t1 b1 with
  |none=>
   have hq0:=Aa (show q=none from by
    rw[HQ.o];cases bad with
    |true=>rfl
    |false=>rw[if_neg aL];rw[show Ay [61] t1 (!Gf 200 t)=none by have:=Hb1.o;rw[Bool.false_or]at this;rw[<-this];exact hc])
   rw[hc]at Hwt;simp only[Option.isNone_none,Option.getD_none]at Hwt;generalize G7 t=n at *;clear hfo HQ Hnl hc hm;subst hgt;obtain⟨b2,hb2⟩:∃b2,b2=true:=⟨_,rfl⟩
   rw[<-hb2]at Hwt;go_enter func176,ntmps176;go_wp2_with fail;have F0:=@Aa (Pt w b p w.heap.size t bad (w.alloc (.cells #[.int .u8 0,aa,.int .i64 0,.slice none 0 0] 47))) ⟨⟨HS.o.grow ((At _ _).alloc (Ao _) _),Cs ((At _ _).alloc (Ao _) _) _⟩,Ct w [.int .u8 0,aa,.int .i64 0,.slice none 0 0] _,Ao _,by simp⟩;refine(Hn.o _ F0.o.1.1).mono ?_;rintro e w2 ⟨rfl,hs2⟩;have F2:=Aa (F0.o.step hb0 hs2);clear hs2;go_wp2_with fail;refine(Hf.o _ (F2.o.1.env HW.o hb)).mono ?_;rintro e w3 ⟨fp,rfl,hfp,rfl⟩;obtain⟨fb,fo,rfl,hfb,hfr⟩:=hfp;go_wp2_with fail;refine(Hwt.o _ F2.o.1.1).mono ?_;rintro e w4 ⟨rfl,hs4⟩;have F4:=Aa (F2.o.step hb0 hs4);clear hs4;have sb:=F4.o.1.1.2.1.live 2;have s0:=F4.o.1.1.1;have s2:=F4.o.1.1.2.2.2.2;have F5:=Aa (F4.o.step hb0 ⟨F4.o.1.1.setBad true,Am _ b 2 (.bool true)⟩);subst hb2;go_wp2_with ((with_reducible refine Ae (op:=⟨none,.store 47 _ _,_,_,_,none⟩) rfl 47 _ _ rfl w 0 [.int .u8 0,aa,.int .i64 0,.slice none 0 0] ?_ ?_ ?_ ?_ ?_ ?_);rfl;rfl;(exact F5.o.2.1);kernel_rfl;(simp[Value.oneCell']);intro w9 HS9)
   have Z:=Pt.fin (v:=Fq) (sl:=.slice none 0 0) F5.o hb0 HS9.o (Fb.nil _ _);refine aF (v:=.tuple #[.agg (Ha Fq (.slice none 0 0)).toArray,.pointer none]) (As results176 _ _ w.heap.size _ _ _ rfl rfl Z.2.2 underlying47 rfl aP) rfl ?_;exact⟨Fq,.slice none 0 0,.pointer none,t1,rfl,Z.1,by rw[hq0.o];exact Z.2.1,Eu aL aL,by omega,by simp[Fq,Bh,Dz,H6];omega,.inl ⟨rfl,hq0.o⟩⟩
  |some t2=>
   have hlt:=Hlt0.o t2 hc;have hbb:bad=false/\b1=false/\Gf 200 t=true:=by
    have h1:b1=false:=by
     cases b1 with
     |false=>rfl
     |true=>rw[Cc]at hc;simp at hc
    have h2:=Hb1.o;rw[h1]at h2;cases bad<;>cases hnb:Gf 200 t<;>simp[hnb]at h2 ⊢
    exact h1
   obtain⟨rfl,rfl,hnb⟩:=hbb;have hnl:=Hnl.o hnb;rw[hgt.symm]at hnl
   have hq0:=Aa (show q=(match Al S 1000 N g.kind t2 with|some (v,z)=>some ((g,v),z)|none=>none)from by
    rw[HQ.o,if_neg aL,hnb];show (match Ay [61] t1 false with|none=>none|some q=>match Al S 1000 N g.kind q with|some (v,z)=>some ((g,v),z)|none=>none)=_;rw[hc])
   rw[hc]at Hwt;simp only[Option.isNone_some,Option.getD_some]at Hwt;have h2N:t2.length<N:=by have:=hN rfl;omega
   generalize G7 t=n at *;clear hfo HQ Hnl hc hm Hb1 hnb Hlt0;subst hgt;go_enter func176,ntmps176;go_wp2_with fail;have F0:=@Aa (Pt w b p w.heap.size t false (w.alloc (.cells #[.int .u8 0,aa,.int .i64 0,.slice none 0 0] 47))) ⟨⟨HS.o.grow ((At _ _).alloc (Ao _) _),Cs ((At _ _).alloc (Ao _) _) _⟩,Ct w [.int .u8 0,aa,.int .i64 0,.slice none 0 0] _,Ao _,by simp⟩;refine(Hn.o _ F0.o.1.1).mono ?_;rintro e w2 ⟨rfl,hs2⟩;have F2:=Aa (F0.o.step hb0 hs2);clear hs2;go_wp2_with fail;refine(Hf.o _ (F2.o.1.env HW.o hb)).mono ?_;rintro e w3 ⟨fp,rfl,hfp,rfl⟩;obtain⟨fb,fo,rfl,hfb,hfr⟩:=hfp;go_wp2_with fail;refine(Hwt.o _ F2.o.1.1).mono ?_;rintro e w4 ⟨rfl,hs4⟩;have F4:=Aa (F2.o.step hb0 hs4);clear hs4;have HFR:=@Aa (Jg w0.heap.size w4 (.pointer (some ⟨fb,fo,none⟩)) (some g)) (Jg.via ⟨fb,fo,rfl,hfb,hfr⟩ (F2.o.1.env HW.o hb) (F4.o.1.env HW.o hb));have G4:=@Aa (w4.rangeAt fb fo (S5 g)) (by obtain⟨a1,a2,a3,_,a5⟩:=HFR.o;injection a3 with a3;injection a3 with a3;injection a3 with a3 a4;subst a3 a4;exact a5);have s2:=F4.o.1.1.2.2.2.2;have g2:=Ac G4.o 2 rfl;have g3:=Ac G4.o 3 rfl;have g4:=Ac G4.o 4 rfl;have g3':w4.cell? ⟨fb,fo+2+1,none⟩=g.kind.base:=g3;have g4':w4.cell? ⟨fb,fo+2+1+1,none⟩=g.kind.name:=g4;have g4'':w4.cell? ⟨fb,fo+2+2,none⟩=g.kind.name:=g4;clear hfr;have HV:=Aa (fun W (h1:Below w0 w0 W) (h2:Fw W b p t2 false)=>HH.o t2 false W h1 h2 aH (fun _=>h2N));unfold J2 at HV;simp only[ao,if_false]at HV;go_wp2_with fail;refine(HV.o _ (F4.o.1.env HW.o hb) F4.o.1.1).mono ?_;rintro e w5 ⟨v,sl,t',rfl,hk5,hs5,hx5,hB5,hl5,hn5⟩;obtain⟨A7,c7,rfl⟩:=hk5.form;have F5:=Aa (F4.o.step hb0 hs5);have Hk5:=Aa hk5;have Hx5:=Aa hx5;have HB5:=Aa hB5;have hz4:=F4.o.2.2.2;clear hs5 hk5 hx5 hB5 g2 g3 g4 g3' g4' g4'' s2;unfold Np;go_wp2_with fail;obtain⟨W6,hW6⟩:∃W6,W6=w5.alloc (.cells #[.int .u8 (v.what.toNat:Int),v.text,(v.tag:Int),.slice A7 v.kids.length c7] 47):=⟨_,rfl⟩
   rw[<-hW6];have hb6:Below w5 w5 W6:=by rw[hW6];exact(At _ _).alloc (Ao _) _
   have F6:=Aa (F5.o.post hb6);have HP6:=Aa (HFR.o.via (F4.o.1.env HW.o hb) (F6.o.1.env HW.o hb));have X6:=@Aa (W6.rangeAt w5 0 [.int .u8 (v.what.toNat:Int),v.text,(v.tag:Int),.slice A7 v.kids.length c7]) (by rw[hW6];exact Cj w5 [.int .u8 (v.what.toNat:Int),v.text,(v.tag:Int),.slice A7 v.kids.length c7] _);have Hk6:=Aa (Hk5.o.after hb6);have hz6:w5.heap.size<W6.heap.size:=by rw[hW6];simp
   have HW6:=Aa (F6.o.1.env HW.o hb);have hz5:=F5.o.2.2.2;generalize w5.heap.size=B7 at *;clear hW6 hb6;have D0:=@Aa (W6.cell? ⟨fb,fo,none⟩=(g.tag:Int)) (by obtain⟨a1,a2,a3,_,a5⟩:=HP6.o;injection a3 with a3;injection a3 with a3;injection a3 with a3 a4;subst a3 a4;simpa using Ac a5 0 rfl);refine Be [32,33,34,35,36,37,38,39,999,5] aP aP aP (fun u=>by dsimp only[Br,Bk,List.set,an,Nat.reduceAdd])
    (fun ix u W=>match ix with|0=>u=.pointer (some ⟨fb,fo,none⟩)|1=>u=.pointer (some ⟨fb,fo,none⟩)|2=>u=.pointer (some ⟨fb,fo,none⟩)|3=>u=(g.tag:Int)|4=>u=.agg #[.int .u8 (v.what.toNat:Int),v.text,(v.tag:Int),.slice A7 v.kids.length c7]|5=>∃c,u=.slice (some ⟨c,0,none⟩) 1 1|6=>∃c,u=.agg #[.int .u8 61,aa,(g.tag:Int),.slice (some ⟨c,0,none⟩) 1 1]|7=>u=.pointer (some ⟨fb,fo,none⟩)|9=>u=.pointer (some ⟨fb,fo,none⟩)|_=>True)
    (fun L U W=>(L 8=false->Below W6 W6 W)/\(L 5=true->L 8=false->∃W7,W=W7.alloc (.cells (Jx (v,.slice A7 v.kids.length c7)).toArray 47)/\U 5=.slice (some ⟨W7.heap.size,0,none⟩) 1 1/\Below W6 W6 W7)/\(L 6=true->U 6=.agg #[.int .u8 61,aa,(g.tag:Int),U 5]) /\
  (L 8=true->∃W7,W=(W7.alloc (.cells (Jx (v,.slice A7 v.kids.length c7)).toArray 47)).setCells w 0 [.int .u8 61,aa,(g.tag:Int),.slice (some ⟨W7.heap.size,0,none⟩) 1 1]/\Below W6 W6 W7)) (fun _ _=>True) (fun _ _ _ _ _ h=>h) (⟨fun _=>(At _ _).drew,fun h=>Bool.noConfusion h,fun h=>Bool.noConfusion h,fun h=>Bool.noConfusion h⟩) ?_ ?_
   ·repeat (first|exact An.nil|(refine An.cons ?_ ?_;rotate_left))
    all_goals
     rintro L U W hL hpre hR hun hdep K hK;have HR:=Aa hR;obtain⟨R1,R2,R3,R4⟩:=HR.o;have Hdep:=Aa hdep;clear hun hdep hR;first|(simp[Region.binds]at hpre;done)|simp[Region.binds]at hpre|clear hpre
    iterate 3
     ·exact fK
    ·have h6:L 6=false:=Bi Hdep.o 6 3 rfl hL;have h8:L 8=false:=Bi Hdep.o 8 6 rfl h6;have m0:=((R1 h8).cell (p:=⟨fb,fo,none⟩) (by have:=HW6.o.size;show fb<_;omega)).trans D0.o;exact ju
    ·have h5:L 5=false:=Bi Hdep.o 5 4 rfl hL;have h6:L 6=false:=Bi Hdep.o 6 5 rfl h5;have h8:L 8=false:=Bi Hdep.o 8 6 rfl h6;have m0:=((R1 h8).cell (p:=⟨B7,0,none⟩) hz6).trans (X6.o 0 _ rfl);have m1:=((R1 h8).cell (p:=⟨B7,1,none⟩) hz6).trans (X6.o 1 _ rfl);have m2:=((R1 h8).cell (p:=⟨B7,2,none⟩) hz6).trans (X6.o 2 _ rfl);have m3:=((R1 h8).cell (p:=⟨B7,3,none⟩) hz6).trans (X6.o 3 _ rfl);exact ju
    ·have h6:L 6=false:=Bi Hdep.o 6 5 rfl hL;have h8:L 8=false:=Bi Hdep.o 8 6 rfl h6;have hba:Below W W (W.alloc (.cells (Jx (v,.slice A7 v.kids.length c7)).toArray 47)):=(At _ _).alloc (Ao _) _;have u4:=hpre.2;go_simp;exact hK (.slice (W,0) 1 1) _ _ ⟨W.heap.size,rfl⟩ Ab ⟨fun _=>(R1 h8).trans (hba.mono (R1 h8).size),fun _ _=>⟨W,rfl,rfl,R1 h8⟩,fun h=>absurd (h6.symm.trans aS) aL,fun h=>absurd (h8.symm.trans aS) aL⟩ aJ
    ·obtain⟨c,u5⟩:=hpre.2.2;have u3:=hpre.1.2;go_simp;exact hK (.agg #[.int .u8 61,aa,(g.tag:Int),U 5]) _ _ ⟨c,by rw[u5]⟩ Ab ⟨R1,R2,fun _=>rfl,fun h=>R4 aS⟩ dq
    ·exact fK
    ·obtain⟨⟨l6,_⟩,_⟩:=hpre;have u6:=R3 l6;have l5:L 5=true:=by
      cases h5:L 5 with
      |true=>rfl
      |false=>exact absurd (l6.symm.trans (Bi Hdep.o 6 5 rfl h5)) aL
     obtain⟨W7,rfl,u5,hb7⟩:=R2 l5 hL;rw[u5]at u6;rw[if_pos di];refine wp_store_mid 47 _ _ rfl w 0 ([.int .u8 61,aa,(g.tag:Int),.slice (some ⟨W7.heap.size,0,none⟩) 1 1]:List Value).toArray rfl u6 ((F6.o.post hb7).post ((At _ _).alloc (Ao _) _)).2.1 aP bL ?_;exact hK undef _ _ Ab Ab ⟨fun h=>by simp at h,fun _ h=>by simp at h,fun _=>by show U 6=.agg #[.int .u8 61,aa,(g.tag:Int),U 5];rw[u5];exact u6,fun _=>⟨W7,rfl,hb7⟩⟩ rfl
    ·clear R1 R2 R3 R4;go_simp;exact hK (.pointer (some ⟨fb,fo,none⟩)) _ _ rfl Ab HR.o aJ
   rintro L U W hL hφ hR;have hφ9:=hφ 9 aL;clear hφ;have e9:U 9=.pointer (some ⟨fb,fo,none⟩):=hφ9;obtain⟨_,_,_,h4⟩:=hR;obtain⟨W7,rfl,hb7⟩:=h4 (hL 8 aL);clear hL h4;simp only[e9];clear hφ9;go_wp2_with fail;have F7:=Aa (F6.o.post hb7);have Hk7:=Aa (Hk6.o.after hb7);have hz7:=F7.o.2.2.2;have Z:=Pt.fin (v:=Dk (g,v)) (sl:=.slice (some ⟨W7.heap.size,0,none⟩) 1 1) (F7.o.post ((At _ _).alloc (Ao _) (.cells (Jx (v,.slice A7 v.kids.length c7)).toArray 47))) hb0 rfl (Hk7.o.one (T:=47) (fun c hc _=>by omega) aH);have HPz:=HP6.o.via (F6.o.1.env HW.o hb) (Z.2.1.env HW.o hb);refine aF (v:=.tuple #[.agg (Ha (Dk (g,v)) (.slice (some ⟨W7.heap.size,0,none⟩) 1 1)).toArray,.pointer (some ⟨fb,fo,none⟩)]) (As results176 _ _ w.heap.size _ _ _ rfl rfl Z.2.2 underlying47 rfl aP) rfl ?_;have hx9:=Hx5.o;refine⟨Dk (g,v),_,_,t',rfl,Z.1,?_,.mk (show g.tag<=1000000000 by omega) (by simp[Dx];omega) aM (fun y hy=>by rw[aq]at hy;subst hy;exact HB5.o),by omega,by rw[M7];simp only;omega,.inr ⟨g,v,HPz,rfl,Hfg.o,HB5.o,?_⟩⟩
   ·have e:q.isNone=(Al S 1000 N g.kind t2).isNone:=by rw[hq0.o];cases Al S 1000 N g.kind t2<;>rfl
    rw[e];exact Z.2.1
   intro y hy;rw[hq0.o]at hy;cases hr:Al S 1000 N g.kind t2 with
   |none=>rw[hr]at hy;cases hy
   |some z=>
    obtain⟨z1,z2⟩:=z;rw[hr]at hy;simp only[ak]at hy;obtain⟨e1,e2⟩:=hx9 _ hr;simp only at e1 e2;rw[<-hy,e1,e2]
end
end Go.Proofs.YtpjijpcemejlnaaGreatDoor
