/- Texts joined. Conditions: as each theorem names them. -/
import Derived.Test.YtkgkoicedddkmaaGreatDoorC05
import Derived.Test.YtkgkoicedddkmaaGreatDoorC06
import Derived.Test.YtkgkoicedddkmaaGreatDoorC07
import Derived.Test.YtkgkoicedddkmaaGreatDoorC20
import Derived.Test.YtkgkoicedddkmaaGreatDoorC21
set_option maxRecDepth 100000
set_option maxHeartbeats 32000000
set_option linter.unusedVariables false
set_option linter.unusedSimpArgs false
namespace Go.Proofs.YtkgkoicedddkmaaGreatDoor
open Go.RowKit Go.Proofs.Tryz
section
attribute [local go_sem] Qiz Qii Qib Qgw ByteArray.mk_append_mk
def Ji(B:Nat)(w:World)(v:Value):Option Fd->Prop
 |none=>v=.pointer none
 |some f=>∃b o,v=.pointer (some ⟨b,o,none⟩)/\b<B/\w.rangeAt b o (Qz f)
theorem Ji.below{B:Nat}{w w':World}{v:Value}{o:Option Fd}(h:Ji B w v o)(hb:Below B w w'):Ji B w' v o:=by
 cases o with
 |none=>exact h
 |some f=>obtain⟨b,o,e,h1,h2⟩:=h;exact⟨b,o,e,h1,Aj h2 h1 hb⟩
def Qgy(B:Nat)(o:Option Fd)(w:World)(e:Ending)(w':World):Prop:=∃v,e=.returned v/\Ji B w v o/\w=w'
theorem Nl(w0:World)(x:PT)(hx:Px w0 x)(n:Nat)(w:World)(hb:Below w0.heap.size w0 w)(hn:n<=1000000000):
  Calls prog 54 #[.pointer (some ⟨x.blk,0,none⟩),.int .i64 n] w (Qgy w0.heap.size (Au x.ty.fields n) w):=by
 obtain⟨z0,_,_,_,z3,_,A,c,hfv,hl,hr⟩:=hx
 rw[hfv]at z3
 have c2:w.cell? ⟨x.blk,2,none⟩=some (.slice A x.ty.fields.length c):=(hb.cell (p:=⟨x.blk,2,none⟩) z0).trans z3
 have Hr:=Aa hr
 have Hb:=Aa hb
 clear hr hfv z3 hb
 go_enter func54,ntmps54
 go_wp2_with fail
 go_loop [11] (fun i=>∃k:Nat,i=.int .i64 k/\k<=x.ty.fields.length/\Hid (∀f∈x.ty.fields.take k,decide (f.tag=n)=false)) (fun i=>x.ty.fields.length - (intOf i).toNat)
 case atStart=>exact⟨0,rfl,Nat.zero_le _,by intro f hf;simp at hf⟩
 case round=>
  obtain⟨k,rfl,hk,hin⟩:=hrel
  by_cases hlt:k<x.ty.fields.length
  ·obtain⟨b,off,rfl,hbl,hrg⟩:=Pv.range Hr.o hlt
   have hrw:=Aj hrg hbl Hb.o
   have Hts:=Aa (Ch x.ty.fields k hlt)
   have Hft:=Aa (Ro (p:=fun f=>decide (f.tag=n)) hlt hin.o)
   generalize x.ty.fields[k]=f at hrg hrw Hts Hft
   have c0:w.cell? ⟨b,off+k*6,none⟩=some (.int .i64 (f.tag:Int)):=by simpa using Ab hrw 0 rfl
   have Hrw:=Aa hrw
   clear hrw hrg
   have k1:(0:Int)<=(k:Int):=by omega
   have k2:(k:Int)<(x.ty.fields.length:Int):=by omega
   by_cases he:f.tag=n
   ·have t1:((f.tag:Int) == (n:Int))=true:=by simp[he]
    have Hfin:=Aa (show Au x.ty.fields n=some f by unfold Au;rw[Hft.o,if_pos (by simpa using he)])
    clear he
    go_wp2_with fail
    go_ret
    exact⟨_,rfl,by rw[Hfin.o];exact⟨b,off+k*6,rfl,hbl,Hrw.o⟩,rfl⟩
   have t1:((f.tag:Int) == (n:Int))=false:=by rw[beq_eq_false_iff_ne];omega
   have Hin:=Aa (show ∀g∈x.ty.fields.take (k+1),decide (g.tag=n)=false by
    intro g hg
    rw[Hts.o]at hg
    rcases List.mem_append.1 hg with hg|hg
    ·exact hin.o g hg
    simp at hg;subst hg;simpa using he)
   clear he
   go_wp2_with fail
   go_round
   case rel=>exact⟨k+1,by go_num,by omega,Hin.o⟩
   case measure=>simp[intOf];omega
  ·have Hfin:=Aa (show Au x.ty.fields n=none from Mk (fun f hf=>hin.o f (by rw[List.take_of_length_le (by omega)];exact hf)))
   go_wp2_with fail
   go_ret
   exact⟨_,rfl,by rw[Hfin.o];rfl,rfl⟩
theorem Jg(b nm:ByteArray)(w:World):Calls prog 76 #[.agg #[.string ⟨#[]⟩,.string b,.string nm]] w fun e w'=>e=.returned (.int .u8 0)/\Below w.heap.size w w':=by
 go_enter func76,ntmps76
 go_wp2_with fail
 go_ret
 exact⟨rfl,(Aq _ _).alloc (Ap _) _⟩
theorem Kk(c:UInt8)(t:List UInt8)(hl:t.length<=1000)(b nm:ByteArray)(w:World):Calls prog 76 #[.agg #[.string ⟨(c::t).toArray⟩,.string b,.string nm]] w fun e w'=>e=.returned (.int .u8 (c.toNat:Int))/\Below w.heap.size w w':=by
 go_enter func76,ntmps76
 go_wp2_with fail
 go_ret
 exact⟨rfl,(Aq _ _).alloc (Ap _) _⟩
theorem Zf(p:Value)(c:UInt8)(t:List UInt8)(b nm:ByteArray)(w:World)(hc:c=91\/c=63)(hl:t.length<=1000):
  Calls prog 83 #[p,.agg #[.string ⟨(c::t).toArray⟩,.string b,.string nm]] w (Gc (Qc4 c) w):=by
 rcases hc with rfl|rfl
 ·go_enter func83,ntmps83
  go_wp2_with fail
  refine(Kk 91 t hl _ _ _).mono ?_
  rintro e w1 ⟨rfl,hb1⟩
  go_wp2_with fail
  go_ret
  exact⟨rfl,((Aq _ _).alloc (Ap _) _).trans (hb1.mono (by simp))⟩
 go_enter func83,ntmps83
 go_wp2_with fail
 refine(Kk 63 t hl _ _ _).mono ?_
 rintro e w1 ⟨rfl,hb1⟩
 go_wp2_with fail
 go_ret
 exact⟨rfl,((Aq _ _).alloc (Ap _) _).trans (hb1.mono (by simp))⟩
theorem Vd(p:Value)(b:List UInt8)(nm:ByteArray)(w:World)(hb:b=[110]\/b=[116]\/b=[102]):
  Calls prog 83 #[p,.agg #[.string ⟨#[]⟩,.string ⟨b.toArray⟩,.string nm]] w (Gc (Tp b) w):=by
 rcases hb with rfl|rfl|rfl<;>
 ·go_enter func83,ntmps83
  go_wp2_with fail
  refine(Jg _ _ _).mono ?_
  rintro e w1 ⟨rfl,hb1⟩
  obtain⟨hc1,_,_⟩:=By hb1
  have y1:=hc1 w.heap.size 1 (by simp)
  simp at y1
  clear hc1
  have Hb1:=Aa (((Aq w.heap.size w).alloc (Ap _) _).trans (hb1.mono (by simp)))
  clear hb1
  go_wp2_with fail
  go_ret
  exact⟨rfl,Hb1.o⟩
def kcs(k:Kd):List Value:=[.string ⟨k.signs.toArray⟩,.string ⟨k.base.toArray⟩,.string ⟨k.name.toArray⟩]
def Gu(v:Vl)(sl:Value):List Value:=[.int .u8 (v.what.toNat:Int),.string ⟨v.text.toArray⟩,.int .i64 (v.tag:Int),sl]
def Kt(w:World)(b:Nat)(p:Value)(k:Kd)(t:List UInt8)(bad:Bool)(W:World):Prop:=
 Df w b p t bad W/\W.rangeAt w.heap.size 0 (kcs k)/\W.there (w.heap.size+1) 0 4/\w.heap.size+1<W.heap.size
theorem Kt.init{w:World}{b:Nat}{p:Value}{k:Kd}{t:List UInt8}{bad:Bool}(h:Gb w b p t bad){T U:TypeId}:Kt w b p k t bad ((w.alloc (.cells #[.string ⟨k.signs.toArray⟩,.string ⟨k.base.toArray⟩,.string ⟨k.name.toArray⟩] T)).alloc (.cells #[.int .u8 0,.string ⟨#[]⟩,.int .i64 0,.slice none 0 0] U)):=by
 have h1:Below w.heap.size w ((w.alloc (.cells #[.string ⟨k.signs.toArray⟩,.string ⟨k.base.toArray⟩,.string ⟨k.name.toArray⟩] T)).alloc (.cells #[.int .u8 0,.string ⟨#[]⟩,.int .i64 0,.slice none 0 0] U)):=((Aq _ _).alloc (Ap _) _).alloc (by simp) _
 refine⟨⟨h.grow h1,B0 h1 _⟩,?_,?_,by simp⟩
 ·have:=Aj (Bw w (kcs k) T) (show w.heap.size<(w.alloc (.cells (kcs k).toArray T)).heap.size by simp) ((Aq _ _).alloc (Ap _) (.cells #[.int .u8 0,.string ⟨#[]⟩,.int .i64 0,.slice none 0 0] U))
  exact this
 have:=Cc (w.alloc (.cells #[.string ⟨k.signs.toArray⟩,.string ⟨k.base.toArray⟩,.string ⟨k.name.toArray⟩] T)) [.int .u8 0,.string ⟨#[]⟩,.int .i64 0,.slice none 0 0] U
 simpa using this
theorem Kt.post{w W W':World}{b:Nat}{p:Value}{k:Kd}{t:List UInt8}{bad:Bool}(h:Kt w b p k t bad W)(hb:Below W.heap.size W W'):Kt w b p k t bad W':=
 ⟨h.1.post hb,Aj h.2.1 (by have:=h.2.2.2;omega) hb,Al h.2.2.1 h.2.2.2 hb,Nat.lt_of_lt_of_le h.2.2.2 hb.size⟩
theorem Kt.step{w W W':World}{b:Nat}{p:Value}{k:Kd}{t t':List UInt8}{bad bad':Bool}(h:Kt w b p k t bad W)(hb:b<w.heap.size)(hs:Df W b p t' bad' W'):Kt w b p k t' bad' W':=
 ⟨h.1.trans hs,Gi h.2.1 hs.2 (by simp;omega),Gt h.2.2.1 hs.2 h.2.2.2 (by simp;omega),Nat.lt_of_lt_of_le h.2.2.2 hs.2.size⟩
theorem Kt.fin{w W w9:World}{b N:Nat}{p:Value}{k:Kd}{t t':List UInt8}{bad':Bool}{v:Vl}{sl:Value}{r:Option (Vl × List UInt8)}(F:Kt w b p k t' bad' W)(hb:b<w.heap.size)(HS:w9=W.setCells (w.heap.size+1) 0 (Gu v sl))
  (hv:Dx (fun c=>w.heap.size+2<=c) W sl v.kids) (hr:bad'=r.isNone) (hx:∀x,r=some x->v=x.1/\t'=x.2) (hB:Bd v) (hl:t'.length<=t.length) (hn:(Bc v).length+t'.length<=t.length+8*N):
  Km w b p t N r (.returned (.agg (Gu v sl).toArray)) w9/\w9.rangeAt (w.heap.size+1) 0 (Gu v sl):=by
 subst HS hr
 exact⟨⟨v,sl,t',rfl,(hv.set (B:=w.heap.size+1) (by omega) _).mono fun c hc _=>by omega,F.1.set (by omega) (by omega) _,hx,hB,hl,hn⟩,World.rangeAt_setCells_same _ _ _ _ F.2.2.1⟩
theorem Vx(b N:Nat)(p:Value)(t:List UInt8)(k:Kd)(w:World)(h:Gb w b p t true):
  Calls prog 50 #[.pointer (some ⟨b,0,none⟩),D2 k] w (Km w b p t N none):=by
 have HS:=Aa h
 obtain⟨h0,h1,h2,h3,h4⟩:=h
 have hbn:¬(b=w.heap.size):=by omega
 have hbn2:¬(b=w.heap.size+1):=by omega
 unfold D2
 clear h1 h2 h3
 go_enter func50,ntmps50
 go_wp2_with fail
 have F:=(Kt.init (k:=k) HS.o (T:=62) (U:=40)).1
 refine bodyPost_ret (v:=.agg (Gu En (.slice none 0 0)).toArray) ?_ rfl ⟨En,.slice none 0 0,t,rfl,Dx.nil _ _,F,(by simp),Et (by decide) (by decide),Ap _,by simp[En,Bc,Dz,Gs]⟩
 refine Az results50 _ _ (w.heap.size+1) _ _ rfl ?_ underlying40 rfl (by kernel_rfl)
 have:=Bw (w.alloc (.cells #[.string ⟨k.signs.toArray⟩,.string ⟨k.base.toArray⟩,.string ⟨k.name.toArray⟩] 62)) [.int .u8 0,.string ⟨#[]⟩,.int .i64 0,.slice none 0 0] 40
 simpa [Gu,En,Vl.what,Vl.text,Vl.tag]using this
theorem Qas(t:List UInt8):Qg t=if Gg 999999 t then some (G0 t,t.dropWhile Bh)else none:=by
 unfold Qg Gg G0
 cases h:Cn (t.takeWhile Bh)with
 |none=>simp
 |some n=>simp[(Ca.1 h).1]
theorem Yq(t:List UInt8):G0 t<=999999:=by
 unfold G0
 cases h:Cn (t.takeWhile Bh)with
 |none=>simp
 |some n=>exact(Ca.1 h).1
theorem Zk(p:UInt8->Bool)(t:List UInt8):(t.dropWhile p).length<=t.length:=(Q6 p t).2
theorem Qgj(b N:Nat)(p:Value)(t:List UInt8)(k:Kd)(w:World)(h:Gb w b p t false)(hl:t.length<=900)(hs:k.signs=[])(hb:k.base=[110])(q:Option (Vl × List UInt8))(hq:q=match Qg t with|some (n,r)=>some (.mk 110 (Bb n) 0 [],r)|none=>none):
  Calls prog 50 #[.pointer (some ⟨b,0,none⟩),D2 k] w (Km w b p t (N+1) q):=by
 have HQ:=Aa hq
 have HS:=Aa h
 have hb0:=h.1
 have hbn:¬(b=w.heap.size):=by omega
 have hbn2:¬(b=w.heap.size+1):=by omega
 have c2:=h.2.2.2.2
 clear hq
 obtain⟨sg,bs,nm⟩:=k
 simp only at hs hb
 have HN:=Aa (Qas t)
 have hnn:=Yq t
 have Hn:=Aa (fun W (h:Gb W b p t false)=>Ph b 999999 p t false W h (by omega) (by decide))
 have Hd:=Aa (fun W=>N9 (G0 t) (G0 t) W (Ap _) (by omega))
 have hdl:=Qe5 5 (G0 t) (by have e:10 ^ (5+1)=1000000:=rfl;omega)
 have hdr:=Zk Bh t
 generalize G0 t=n at *
 generalize Gg 999999 t=ok at *
 generalize t.dropWhile Bh=r at *
 subst hs hb
 unfold D2
 simp only
 clear h
 go_enter func50,ntmps50
 go_wp2_with fail
 refine(Jg _ _ _).mono ?_
 rintro e w2 ⟨rfl,hb2⟩
 have F2:=Aa ((Kt.init (k:=⟨[],[110],nm⟩) HS.o).post hb2)
 clear hb2 c2
 have k0:=Ab F2.o.2.1 0 rfl
 have k1:=Ab F2.o.2.1 1 rfl
 have k2:=Ab F2.o.2.1 2 rfl
 simp only[Nat.zero_add]at k0 k1 k2
 have s2:=F2.o.1.1.2.2.2.2
 go_wp2_with fail
 refine(Hn.o _ F2.o.1.1).mono ?_
 rintro e w3 ⟨rfl,hs3⟩
 have F3:=Aa (F2.o.step hb0 hs3)
 clear hs3 k0 k1 k2 s2
 go_wp2_with fail
 refine(Hd.o _).mono ?_
 rintro e w4 ⟨rfl,hb4⟩
 have F4:=Aa (F3.o.post hb4)
 clear hb4
 go_wp2_with ((with_reducible refine Ad (op:=⟨none,.store 40 _ _,_,_,_,none⟩) rfl 40 _ _ rfl (w.heap.size+1) 0 [.int .u8 110,.string ⟨(Bb n).toArray⟩,.int .i64 0,.slice none 0 0] ?_ ?_ ?_ ?_ ?_ ?_);rfl;rfl;(exact F4.o.2.2.1);kernel_rfl;(simp[Value.oneCell']);intro w9 HS9)
 have HQ:=HQ.o
 rw[HN.o]at HQ
 have Z:=Kt.fin (t:=t) (N:=N+1) (v:=.mk 110 (Bb n) 0 []) (sl:=.slice none 0 0) (r:=q) F4.o hb0 HS9.o (Dx.nil _ _) (by rw[HQ];cases ok<;>rfl)
  (by rw[HQ];cases ok<;>simp) (Et (by decide) (by omega)) hdr (by simp[Bc,Dz,Gs];omega)
 exact bodyPost_ret (v:=.agg (Gu (.mk 110 (Bb n) 0 []) (.slice none 0 0)).toArray) (Az results50 _ _ (w.heap.size+1) _ _ rfl Z.2 underlying40 rfl (by kernel_rfl)) rfl Z.1
theorem Qf0(b N:Nat)(p:Value)(t:List UInt8)(k:Kd)(w:World)(h:Gb w b p t false)(hl:t.length<=900)(hs:k.signs=[])(hb:k.base=[116])(q:Option (Vl × List UInt8))(hq:q=match Mo t with|some (x,r)=>some (.mk 116 x 0 [],r)|none=>none):
  Calls prog 50 #[.pointer (some ⟨b,0,none⟩),D2 k] w (Km w b p t (N+1) q):=by
 have HQ:=Aa hq
 have HS:=Aa h
 have hb0:=h.1
 have hbn:¬(b=w.heap.size):=by omega
 have hbn2:¬(b=w.heap.size+1):=by omega
 have c2:=h.2.2.2.2
 clear hq
 obtain⟨sg,bs,nm⟩:=k
 simp only at hs hb
 have Hn:=Aa (fun W (h:Gb W b p t false)=>Qck b p t false W h (by omega))
 subst hs hb
 unfold D2
 simp only
 clear h
 go_enter func50,ntmps50
 go_wp2_with fail
 refine(Jg _ _ _).mono ?_
 rintro e w2 ⟨rfl,hb2⟩
 have F2:=Aa ((Kt.init (k:=⟨[],[116],nm⟩) HS.o).post hb2)
 clear hb2 c2
 have k0:=Ab F2.o.2.1 0 rfl
 have k1:=Ab F2.o.2.1 1 rfl
 have k2:=Ab F2.o.2.1 2 rfl
 simp only[Nat.zero_add]at k0 k1 k2
 have s2:=F2.o.1.1.2.2.2.2
 go_wp2_with fail
 refine(Hn.o _ F2.o.1.1).mono ?_
 rintro e w3 ⟨x,r,bad,rfl,hs3,hx,hxl⟩
 have F3:=Aa (F2.o.step hb0 hs3)
 have Hx:=Aa hx
 clear hs3 hx k0 k1 k2 s2
 go_wp2_with ((with_reducible refine Ad (op:=⟨none,.store 40 _ _,_,_,_,none⟩) rfl 40 _ _ rfl (w.heap.size+1) 0 [.int .u8 116,.string ⟨x.toArray⟩,.int .i64 0,.slice none 0 0] ?_ ?_ ?_ ?_ ?_ ?_);rfl;rfl;(exact F3.o.2.2.1);kernel_rfl;(simp[Value.oneCell']);intro w9 HS9)
 have HQ:=HQ.o
 rw[show Mo t=if bad then none else some (x,r)from Hx.o]at HQ
 have Z:=Kt.fin (t:=t) (N:=N+1) (v:=.mk 116 x 0 []) (sl:=.slice none 0 0) (r:=q) F3.o hb0 HS9.o (Dx.nil _ _) (by rw[HQ];cases bad<;>rfl)
  (by rw[HQ];cases bad<;>simp) (Et (by decide) (by omega)) (by omega) (by simp[Bc,Dz,Gs];omega)
 exact bodyPost_ret (v:=.agg (Gu (.mk 116 x 0 []) (.slice none 0 0)).toArray) (Az results50 _ _ (w.heap.size+1) _ _ rfl Z.2 underlying40 rfl (by kernel_rfl)) rfl Z.1
theorem Qfy(b N:Nat)(p:Value)(t:List UInt8)(k:Kd)(w:World)(h:Gb w b p t false)(hl:t.length<=900)(hs:k.signs=[])(hb:k.base=[102])(q:Option (Vl × List UInt8))(hq:q=match Nz t with|some (x,r)=>some (.mk 102 (if x then Ei else My) 0 [],r)|none=>none):
  Calls prog 50 #[.pointer (some ⟨b,0,none⟩),D2 k] w (Km w b p t (N+1) q):=by
 have HQ:=Aa hq
 have HS:=Aa h
 have hb0:=h.1
 have hbn:¬(b=w.heap.size):=by omega
 have hbn2:¬(b=w.heap.size+1):=by omega
 have c2:=h.2.2.2.2
 clear hq
 obtain⟨sg,bs,nm⟩:=k
 simp only at hs hb
 have HFL:=Aa (show Nz t=(match Ba Ei t false with|some r=>some (true,r)|none=>match Ba My t false with|some r=>some (false,r)|none=>none)from rfl)
 have Hy:=Aa (fun W (h:Gb W b p t false)=>Jb b p t Ei false W h (by omega))
 have Hw:=Aa (fun W (h:Gb W b p t false)=>Db b p t My false W h (by omega))
 have Hl1:=Aa (fun r (h:Ba Ei t false=some r)=>(Ft (p:=Ei)).1 h)
 have Hl2:=Aa (fun r (h:Ba My t false=some r)=>(Ft (p:=My)).1 h)
 subst hs hb
 unfold D2
 simp only
 clear h
 rcases hy:Ba Ei t false with _|r
 ·rw[hy]at Hy HFL
  unfold Ei at Hy
  unfold My at Hw
  have HL:=Aa (show ((Ba My t false).getD t).length<=t.length from by
   cases h:Ba My t false with
   |none=>exact Ap _
   |some r=>rw[Hl2.o r h];simp)
  clear hy
  go_enter func50,ntmps50
  go_wp2_with fail
  refine(Jg _ _ _).mono ?_
  rintro e w2 ⟨rfl,hb2⟩
  have F2:=Aa ((Kt.init (k:=⟨[],[102],nm⟩) HS.o).post hb2)
  clear hb2 c2
  have k0:=Ab F2.o.2.1 0 rfl
  have k1:=Ab F2.o.2.1 1 rfl
  have k2:=Ab F2.o.2.1 2 rfl
  simp only[Nat.zero_add]at k0 k1 k2
  have s2:=F2.o.1.1.2.2.2.2
  go_wp2_with fail
  refine(Hy.o _ F2.o.1.1).mono ?_
  rintro e w3 ⟨rfl,hs3⟩
  simp only[Option.getD_none]at hs3
  have F3:=Aa (F2.o.step hb0 hs3)
  clear hs3 k0 k1 k2 s2
  go_wp2_with fail
  refine(Hw.o _ F3.o.1.1).mono ?_
  rintro e w4 ⟨rfl,hs4⟩
  have F4:=Aa (F3.o.step hb0 hs4)
  clear hs4
  go_wp2_with ((with_reducible refine Ad (op:=⟨none,.store 40 _ _,_,_,_,none⟩) rfl 40 _ _ rfl (w.heap.size+1) 0 [.int .u8 102,.string ⟨#[110,111]⟩,.int .i64 0,.slice none 0 0] ?_ ?_ ?_ ?_ ?_ ?_);rfl;rfl;(exact F4.o.2.2.1);kernel_rfl;(simp[Value.oneCell']);intro w9 HS9)
  have HQ:=HQ.o
  rw[HFL.o]at HQ
  have hl2:=HL.o
  have Z:=Kt.fin (t:=t) (N:=N+1) (v:=.mk 102 My 0 []) (sl:=.slice none 0 0) (r:=q) F4.o hb0 HS9.o (Dx.nil _ _) (by rw[HQ];unfold My;cases Ba [110,111] t false<;>rfl)
   (by rw[HQ];unfold My;cases Ba [110,111] t false<;>simp) (Et (by decide) (by decide)) hl2 (by unfold My at hl2 ⊢;simp[Bc,Dz,Gs];omega)
  exact bodyPost_ret (v:=.agg (Gu (.mk 102 My 0 []) (.slice none 0 0)).toArray) (Az results50 _ _ (w.heap.size+1) _ _ rfl Z.2 underlying40 rfl (by kernel_rfl)) rfl Z.1
 rw[hy]at Hy HFL
 unfold Ei at Hy
 have hlr:=Hl1.o r hy
 have hlr2:t.length=3+r.length:=by rw[hlr];simp[Ei];omega
 clear hy hlr
 go_enter func50,ntmps50
 go_wp2_with fail
 refine(Jg _ _ _).mono ?_
 rintro e w2 ⟨rfl,hb2⟩
 have F2:=Aa ((Kt.init (k:=⟨[],[102],nm⟩) HS.o).post hb2)
 clear hb2 c2
 have k0:=Ab F2.o.2.1 0 rfl
 have k1:=Ab F2.o.2.1 1 rfl
 have k2:=Ab F2.o.2.1 2 rfl
 simp only[Nat.zero_add]at k0 k1 k2
 have s2:=F2.o.1.1.2.2.2.2
 go_wp2_with fail
 refine(Hy.o _ F2.o.1.1).mono ?_
 rintro e w3 ⟨rfl,hs3⟩
 simp only[Option.getD_some]at hs3
 have F3:=Aa (F2.o.step hb0 hs3)
 clear hs3 k0 k1 k2 s2
 go_wp2_with ((with_reducible refine Ad (op:=⟨none,.store 40 _ _,_,_,_,none⟩) rfl 40 _ _ rfl (w.heap.size+1) 0 [.int .u8 102,.string ⟨#[121,101,115]⟩,.int .i64 0,.slice none 0 0] ?_ ?_ ?_ ?_ ?_ ?_);rfl;rfl;(exact F3.o.2.2.1);kernel_rfl;(simp[Value.oneCell']);intro w9 HS9)
 have HQ:=HQ.o
 rw[HFL.o]at HQ
 have Z:=Kt.fin (t:=t) (N:=N+1) (v:=.mk 102 Ei 0 []) (sl:=.slice none 0 0) (r:=q) F3.o hb0 HS9.o (Dx.nil _ _) (by rw[HQ];rfl)
  (by rw[HQ];simp) (Et (by decide) (by decide)) (by omega) (by unfold Ei;simp[Bc,Dz,Gs];omega)
 exact bodyPost_ret (v:=.agg (Gu (.mk 102 Ei 0 []) (.slice none 0 0)).toArray) (Az results50 _ _ (w.heap.size+1) _ _ rfl Z.2 underlying40 rfl (by kernel_rfl)) rfl Z.1
def IvC(w0:World)(b:Nat)(p:Value)(S:List Ty)(N:Nat)(k:Kd):Prop:=
 ∀(t:List UInt8) (bad:Bool) (w:World),Below w0.heap.size w0 w->Gb w b p t bad->t.length<=900->(bad=false->t.length<N) ->
  Calls prog 50 #[.pointer (some ⟨b,0,none⟩),D2 k] w (Km w b p t N (if bad then none else An S 1000 N k t))
theorem Dx.one{P Q:Nat->Prop}{w:World}{v:Vl}{sl:Value}{T:TypeId}(h:Dx P w sl v.kids)(hQ:∀b,P b->b<w.heap.size->Q b)(hn:Q w.heap.size):
  Dx Q (w.alloc (.cells #[.int .u8 (v.what.toNat:Int),.string ⟨v.text.toArray⟩,.int .i64 (v.tag:Int),sl] T)) (.slice (some ⟨w.heap.size,0,none⟩) 1 1) [v]:=by
 have hb:Below w.heap.size w (w.alloc (.cells #[.int .u8 (v.what.toNat:Int),.string ⟨v.text.toArray⟩,.int .i64 (v.tag:Int),sl] T)):=(Aq _ _).alloc (Ap _) _
 refine .mk (some ⟨w.heap.size,0,none⟩) 1 [(v,sl)] rfl rfl (by simp) ⟨rfl,(show 4<=maxLen by decide),fun _=>⟨w.heap.size,0,rfl,by simp,fun j u hj=>?_⟩⟩ (fun g o _ e=>by injection e with e;injection e with e;subst e;exact hn) (fun x hx=>?_)
 ·rw[World.cell?_alloc_new];simpa [J5]using hj
 rw[List.mem_singleton]at hx;subst hx;exact(h.mono hQ).after hb
theorem Eh(c:UInt8)(t:List UInt8)(bad:Bool):((Ba [c] t bad).getD t).length<=t.length:=by rw[Ci];cases bad;exact Pq;exact Ap _
theorem Jo{c:UInt8}{t r:List UInt8}{bad:Bool}(h:Ba [c] t bad=some r):r.length+1=t.length:=by
 rw[Ci]at h
 cases bad with
 |true=>cases h
 |false=>rw[if_neg (by decide),Ck]at h;subst h;rfl
theorem Qb0(w0:World)(b N:Nat)(p:Value)(S:List Ty)(t:List UInt8)(k:Kd)(w:World)(hw:Below w0.heap.size w0 w)(hb:w0.heap.size<=b)(h:Gb w b p t false)(hl:t.length<=900)(hN:t.length<=N)(hN2:N<=2000)(sg:List UInt8)(hs:k.signs=63::sg)(hsl:sg.length<=100)
  (H:IvC w0 b p S N k.part) (q:Option (Vl × List UInt8)) (hq:q=Qac (An S 1000 N k.part) t):
  Calls prog 50 #[.pointer (some ⟨b,0,none⟩),D2 k] w (Km w b p t (N+1) q):=by
 have HQ:=Aa hq
 have HH:=Aa H
 have HP:=Aa (fun W=>Rz k W 63 sg hs (by omega))
 have HS:=Aa h
 have HW:=Aa hw
 have hb0:=h.1
 have hbn:¬(b=w.heap.size):=by omega
 have hbn2:¬(b=w.heap.size+1):=by omega
 have c2:=h.2.2.2.2
 have hm:=Eh 43 t false
 have Hlt:=Aa (fun r (h:Ba [43] t false=some r)=>Jo h)
 have Hlt2:=Aa (fun r (h:Ba [45] t false=some r)=>Jo h)
 have Htk:=Aa (fun W (h:Gb W b p t false)=>Jb b p t [45] false W h (by omega))
 have Hwt:=Aa (fun W (h:Gb W b p t false)=>Db b p t [43] false W h (by omega))
 have HQ2:=Aa (show Qac (An S 1000 N k.part) t=(match Ba [45] t false with|some q=>some (.mk 63 [] 0 [],q)|none=>match Ba [43] t false with|none=>none|some r=>match An S 1000 N k.part r with|some (v,q)=>some (.mk 63 [] 0 [v],q)|none=>none)from by
  rw[Ci,Ci];rfl)
 generalize Qac (An S 1000 N k.part) t=q0 at *
 have Hkp:=Aa (rfl:D2 k=D2 k)
 obtain⟨sg',bs,nm⟩:=k
 simp only at hs
 subst hs
 generalize hkp:(⟨63::sg,bs,nm⟩:Kd).part=kp at *
 unfold D2 at HP ⊢
 simp only at HP ⊢
 clear h hq hw H Hkp hkp
 rcases hy:Ba [45] t false with _|r
 ·rw[hy]at Htk HQ2
  obtain⟨t1,ht1⟩:∃t1,t1=(Ba [43] t false).getD t:=⟨_,rfl⟩
  obtain⟨b1,hb1⟩:∃b1,b1=(Ba [43] t false).isNone:=⟨_,rfl⟩
  have HQ3:=Aa (show q=if b1 then none else match An S 1000 N kp t1 with|some (v,q)=>some (.mk 63 [] 0 [v],q)|none=>none from by
   rw[HQ.o,HQ2.o,ht1,hb1];cases Ba [43] t false<;>rfl)
  have HL1:=Aa (show b1=false->t1.length<N from by
   intro h
   rw[hb1]at h
   cases hr:Ba [43] t false with
   |none=>rw[hr]at h;cases h
   |some r=>have:=Hlt.o r hr;rw[ht1,hr];simp;omega)
  rw[<-ht1]at hm
  rw[<-ht1,<-hb1]at Hwt
  clear hy ht1 hb1 HQ2 HQ
  go_enter func50,ntmps50
  go_wp2_with fail
  refine(Kk 63 sg (by omega) _ _ _).mono ?_
  rintro e w2 ⟨rfl,hb2⟩
  have F2:=Aa ((Kt.init (k:=⟨63::sg,bs,nm⟩) HS.o).post hb2)
  clear hb2 c2
  go_wp2_with fail
  refine(Htk.o _ F2.o.1.1).mono ?_
  rintro e w3 ⟨rfl,hs3⟩
  simp only[Option.getD_none]at hs3
  have F3:=Aa (F2.o.step hb0 hs3)
  clear hs3
  go_wp2_with fail
  refine(Hwt.o _ F3.o.1.1).mono ?_
  rintro e w4 ⟨rfl,hs4⟩
  have F4:=Aa (F3.o.step hb0 hs4)
  clear hs4
  have k0:=Ab F4.o.2.1 0 rfl
  have k1:=Ab F4.o.2.1 1 rfl
  have k2:=Ab F4.o.2.1 2 rfl
  simp only[Nat.zero_add]at k0 k1 k2
  go_wp2_with fail
  refine(HP.o _).mono ?_
  rintro e w5 ⟨rfl,hb5⟩
  have F5:=Aa (F4.o.post hb5)
  clear hb5 k0 k1 k2
  go_wp2_with fail
  refine(HH.o t1 b1 _ (F5.o.1.env HW.o hb) F5.o.1.1 (by omega) HL1.o).mono ?_
  rintro e w6 ⟨v,sl,t',rfl,hk,hs6,hx,hB,hl6,hn6⟩
  obtain⟨A7,c7,rfl⟩:=hk.form
  have F6:=Aa (F5.o.step hb0 hs6)
  have hz5:=F5.o.2.2.2
  have Hk:=Aa hk
  have Hx:=Aa hx
  have HB:=Aa hB
  clear hs6 hk hx hB
  unfold D9
  have F7:=Aa (fun o=>F6.o.post ((Aq _ _).alloc (Ap _) o))
  go_wp2_with ((with_reducible refine Ad (op:=⟨none,.store 40 _ _,_,_,_,none⟩) rfl 40 _ _ rfl (w.heap.size+1) 0 [.int .u8 63,.string ⟨#[]⟩,.int .i64 0,.slice (some ⟨w6.heap.size,0,none⟩) 1 1] ?_ ?_ ?_ ?_ ?_ ?_);rfl;rfl;(exact(Aa (F7.o _)).o.2.2.1);kernel_rfl;(simp[Value.oneCell']);intro w9 HS9)
  have hz6:=F6.o.2.2.2
  have Z:=Kt.fin (t:=t) (N:=N+1) (v:=.mk 63 [] 0 [v]) (sl:=.slice (some ⟨w6.heap.size,0,none⟩) 1 1) (r:=q) (F7.o _) hb0 HS9.o (Hk.o.one (fun c hc _=>by omega) (by omega))
   (by rw[HQ3.o];cases b1 with
    |true=>rfl
    |false=>simp only[Bool.false_eq_true,if_false];cases An S 1000 N kp t1 with
     |none=>rfl
     |some y=>rfl)
   (by rw[HQ3.o];cases b1 with
    |true=>simp
    |false=>
     simp only[Bool.false_eq_true,if_false]
     have hx2:=Hx.o
     simp only[Bool.false_eq_true,if_false]at hx2
     cases hr:An S 1000 N kp t1 with
     |none=>simp
     |some y=>obtain⟨e1,e2⟩:=hx2 y hr;rintro x hxx;injection hxx with hxx;subst hxx;exact⟨by rw[e1],e2⟩)
   (.mk (by decide) (by simp[Dc];omega) (by simp) (fun x hx=>by rw[List.mem_singleton]at hx;subst hx;exact HB.o)) (by omega) (by simp[Bc,Dz,Gs,Av];omega)
  exact bodyPost_ret (v:=.agg (Gu (.mk 63 [] 0 [v]) (.slice (some ⟨w6.heap.size,0,none⟩) 1 1)).toArray) (Az results50 _ _ (w.heap.size+1) _ _ rfl Z.2 underlying40 rfl (by kernel_rfl)) rfl Z.1
 rw[hy]at Htk HQ2
 have hlt:=Hlt2.o r hy
 clear hy
 go_enter func50,ntmps50
 go_wp2_with fail
 refine(Kk 63 sg (by omega) _ _ _).mono ?_
 rintro e w2 ⟨rfl,hb2⟩
 have F2:=Aa ((Kt.init (k:=⟨63::sg,bs,nm⟩) HS.o).post hb2)
 clear hb2 c2
 go_wp2_with fail
 refine(Htk.o _ F2.o.1.1).mono ?_
 rintro e w3 ⟨rfl,hs3⟩
 simp only[Option.getD_some]at hs3
 have F3:=Aa (F2.o.step hb0 hs3)
 clear hs3
 go_wp2_with ((with_reducible refine Ad (op:=⟨none,.store 40 _ _,_,_,_,none⟩) rfl 40 _ _ rfl (w.heap.size+1) 0 [.int .u8 63,.string ⟨#[]⟩,.int .i64 0,.slice none 0 0] ?_ ?_ ?_ ?_ ?_ ?_);rfl;rfl;(exact F3.o.2.2.1);kernel_rfl;(simp[Value.oneCell']);intro w9 HS9)
 have HQ:=HQ.o
 rw[HQ2.o]at HQ
 have Z:=Kt.fin (t:=t) (N:=N+1) (v:=.mk 63 [] 0 []) (sl:=.slice none 0 0) (r:=q) F3.o hb0 HS9.o (Dx.nil _ _) (by rw[HQ];rfl)
  (by rw[HQ];simp) (Et (by decide) (by decide)) (by omega) (by simp[Bc,Dz,Gs];omega)
 exact bodyPost_ret (v:=.agg (Gu (.mk 63 [] 0 []) (.slice none 0 0)).toArray) (Az results50 _ _ (w.heap.size+1) _ _ rfl Z.2 underlying40 rfl (by kernel_rfl)) rfl Z.1
end
theorem Ti:(prog.info? 40).map (fun i=>(i.zero,i.size,i.bytes))=some (some (.agg #[.int .u8 0,.string ⟨#[]⟩,.int .i64 0,.slice none 0 0]),4,56):=by kernel_rfl
structure Rm(base B:Nat)(W:World)(h0 h1 h2 u rv:Value)(xs:List (Vl × Value)):Prop where
 lt:B<W.heap.size
 bs:base<=W.heap.size
 hB:B<base
 bk:Pf W B
 c0:W.cell? ⟨B,0,none⟩=some h0
 c1:W.cell? ⟨B,1,none⟩=some h1
 c2:W.cell? ⟨B,2,none⟩=some h2
 c3:W.cell? ⟨B,3,none⟩=some u
 row:W.ownsRow base 40 4 rv xs.length (xs.flatMap J5)
 kids:∀x∈xs,Dx (fun c=>base<=c/\rv.ownBlock≠some c) W x.2 x.1.kids
theorem Rm.after{base B:Nat}{W W':World}{h0 h1 h2 u rv:Value}{xs:List (Vl × Value)}(h:Rm base B W h0 h1 h2 u rv xs)(hb:Below W.heap.size W W'):Rm base B W' h0 h1 h2 u rv xs:=by
 obtain⟨hc,_,hz⟩:=By hb
 exact⟨hz _ h.lt,Nat.le_trans h.bs hb.size,h.hB,h.bk.belowAt h.lt hb,(hc _ _ h.lt).trans h.c0,(hc _ _ h.lt).trans h.c1,(hc _ _ h.lt).trans h.c2,(hc _ _ h.lt).trans h.c3,Cm h.row hb,fun x hx=>(h.kids x hx).after hb⟩
theorem Rm.step{base B b:Nat}{W W':World}{h0 h1 h2 u rv:Value}{xs:List (Vl × Value)}(h:Rm base B W h0 h1 h2 u rv xs)(hg:W.grownBy W' (some b))(hb:b<base)(hne:b≠B):Rm base B W' h0 h1 h2 u rv xs:=by
 have hn:some B≠some b:=fun e=>by injection e with e;omega
 exact⟨Nat.lt_of_lt_of_le h.lt hg.size,Nat.le_trans h.bs hg.size,h.hB,h.bk.grown h.lt hg hn,hg.cell h.c0 hn,hg.cell h.c1 hn,hg.cell h.c2 hn,hg.cell h.c3 hn,
  h.row.kept hg (by
   cases hr:rv.ownBlock with
   |none=>cases rv with
    |slice A a b=>cases A with
     |none=>exact .inl rfl
     |some x=>simp[Value.ownBlock]at hr
    |_=>exact .inl rfl
   |some k=>have:=(h.row.lt k hr).1;exact .inr (by intro e;injection e with e;omega)),
  fun x hx=>(h.kids x hx).grown hg fun c hc e=>by injection e with e;omega⟩
theorem Rm.store{base B:Nat}{W:World}{h0 h1 h2 u rv:Value}{xs:List (Vl × Value)}(h:Rm base B W h0 h1 h2 u rv xs):Rm base B (W.setCell ⟨B,3,none⟩ rv) h0 h1 h2 rv rv xs:=by
 have hg:=At W B 3 rv
 have hf:=h.bk.live 3
 refine⟨by simpa using h.lt,by simpa using h.bs,h.hB,h.bk.set _,by simp[go_sem,h.c0],by simp[go_sem,h.c1],by simp[go_sem,h.c2],by simp[go_sem,h.c3,hf],h.row.kept hg ?_,fun x hx=>(h.kids x hx).grown hg fun c hc e=>by injection e with e;have:=h.hB;omega⟩
 cases hr:rv.ownBlock with
 |none=>cases rv with
  |slice A a b=>cases A with
   |none=>exact .inl rfl
   |some x=>simp[Value.ownBlock]at hr
  |_=>exact .inl rfl
 |some k=>have:=(h.row.lt k hr).1;have:=h.hB;exact .inr (by intro e;injection e with e;omega)
theorem Rm.app{base B:Nat}{W W':World}{h0 h1 h2 u rv rv':Value}{xs:List (Vl × Value)}{x:Vl × Value}(h:Rm base B W h0 h1 h2 u rv xs)(hx:Dx (fun c=>base<=c/\rv.ownBlock≠some c) W x.2 x.1.kids)
  (hown:W'.ownsRow base 40 4 rv' (xs.length+1) (xs.flatMap J5++J5 x)) (hg:W.grownBy W' rv.ownBlock) (hwh:rv'.ownBlock=rv.ownBlock\/∃k,rv'.ownBlock=some k/\W.heap.size<=k):Rm base B W' h0 h1 h2 u rv' (xs++[x]):=by
 have hn:some B≠rv.ownBlock:=fun e=>by have:=(h.row.lt B e.symm).1;have:=h.hB;omega
 refine⟨Nat.lt_of_lt_of_le h.lt hg.size,Nat.le_trans h.bs hg.size,h.hB,h.bk.grown h.lt hg hn,hg.cell h.c0 hn,hg.cell h.c1 hn,hg.cell h.c2 hn,hg.cell h.c3 hn,by simpa using hown,fun y hy=>?_⟩
 have hy':Dx (fun c=>base<=c/\rv.ownBlock≠some c) W y.2 y.1.kids:=by
  rcases List.mem_append.1 hy with hy|hy
  ·exact h.kids y hy
  rw[List.mem_singleton]at hy;subst hy;exact hx
 refine hy'.kept (fun b o v hb _ hv=>hg.cell hv fun e=>hb.2 e.symm) hg.size fun c hc hl=>⟨hc.1,?_⟩
 rcases hwh with e|⟨k,e,hk⟩
 ·rw[e];exact hc.2
 rw[e];intro e;injection e with e;omega
theorem Rm.done{base B:Nat}{W:World}{h0 h1 h2 u rv:Value}{xs:List (Vl × Value)}(h:Rm base B W h0 h1 h2 u rv xs)(hl:xs.length<=1000):Dx (fun c=>base<=c) W rv (A0 xs):=by
 rcases h.row.2 with⟨rfl,h0⟩|⟨g,cap,cur,rfl,hbg,hh,hnc,hcm,hcs,htk⟩
 ·obtain rfl:xs=[]:=List.eq_nil_of_length_eq_zero h0
  exact Dx.nil _ _
 refine .mk (some ⟨g,0,none⟩) cap xs rfl rfl hl ⟨Sm Qdb xs,by unfold maxLen;omega,fun hn=>⟨g,0,rfl,(h.row.lt g rfl).2,fun j u hu=>?_⟩⟩ (fun g' o _ e=>by injection e with e;injection e with e;subst e;exact hbg) fun x hx=>(h.kids x hx).mono fun c hc _=>hc.1
 have:=h.row.cells (g:=g) rfl j u hu
 have e1:(⟨g,0,none⟩:Addr).add j=⟨g,0+j,none⟩:=by unfold Addr.add;split<;>simp_all
 rwa [e1]at this
theorem Mi{w:World}{base k n m c:Nat}{e:TypeId}{A:Option Addr}{xs:List Value}(h:w.ownsRow base e k (.slice A m c) n xs):m=n:=by
 rcases h.2 with⟨e,h0⟩|⟨g,cap,cur,e,_⟩
 ·injection e with _ e1 e2;omega
 injection e with _ e1 e2
theorem Kt.app{w W W':World}{b:Nat}{p:Value}{k:Kd}{t:List UInt8}{bad:Bool}{row:Option Nat}(h:Kt w b p k t bad W)(hb:b<w.heap.size)(hg:W.grownBy W' row)(hr:∀k,row=some k->w.heap.size+2<=k):Kt w b p k t bad W':=by
 have hn:∀c,c<w.heap.size+2->some c≠row:=fun c hc e=>by have:=hr c e.symm;omega
 obtain⟨⟨⟨h0,h1,h2,h3,h4⟩,hg0⟩,k1,k2,k3⟩:=h
 exact⟨⟨⟨Nat.lt_of_lt_of_le h0 hg.size,h1.grown h0 hg (hn b (by omega)),hg.cell h2 (hn b (by omega)),hg.cell h3 (hn b (by omega)),hg.cell h4 (hn b (by omega))⟩,⟨hg.os.trans hg0.os,hg.tape.trans hg0.tape,hg.output.trans hg0.output,Nat.le_trans hg0.size hg.size,fun k hk hne=>(hg.block k (Nat.lt_of_lt_of_le hk hg0.size) (hn k (by omega))).trans (hg0.block k hk hne)⟩⟩,
  Gi k1 hg (hn _ (by omega)),Gt k2 hg k3 (hn _ (by omega)),Nat.lt_of_lt_of_le k3 hg.size⟩
theorem Kt.put{w W:World}{b B o:Nat}{p:Value}{k:Kd}{t:List UInt8}{bad:Bool}(h:Kt w b p k t bad W)(hb:b<w.heap.size)(hB:w.heap.size+2<=B)(v:Value):Kt w b p k t bad (W.setCell ⟨B,o,none⟩ v):=
 h.app hb (At W B o v) fun k e=>by injection e with e;omega
theorem Tg(x:Vl × Value)(h:x.2.oneCell'=true):∀u∈J5 x,u.oneCell'=true:=by
 intro u hu
 simp[J5]at hu
 rcases hu with rfl|rfl|rfl|rfl
 ·rfl
 ·rfl
 ·rfl
 exact h
def Qo(vs:List Vl):Option (List Vl × List UInt8)->Option (List Vl × List UInt8)
 |some (us,z)=>some (vs++us,z)
 |none=>none
def LI(K:List UInt8->Option (Vl × List UInt8))(t1:List UInt8)(b1:Bool)(vs:List Vl)(tt:List UInt8):Prop:=
 (b1=true->vs=[])/\(b1=false->Cx K 1000 t1=Qo vs (Cx K (1000 - vs.length) tt))/\Dc (vs.map Bc)+tt.length<=t1.length/\∀x∈vs,Bd x
def LE(K:List UInt8->Option (Vl × List UInt8))(t1:List UInt8)(b1:Bool)(vs:List Vl)(tt:List UInt8)(bb:Bool)(N:Nat):Prop:=
 (if b1 then none else Cx K 1000 t1)=(if bb then none else match Ar 93 tt with|some z=>some (vs,z)|none=>none)/\Dc (vs.map Bc)+tt.length<=t1.length+8*N+1/\∀x∈vs,Bd x
theorem LI.init(K:List UInt8->Option (Vl × List UInt8))(t1:List UInt8)(b1:Bool):LI K t1 b1 [] t1:=
 ⟨fun _=>rfl,fun _=>by cases h:Cx K 1000 t1<;>simp[Qo,h],by simp[Dc],by simp⟩
theorem Mb(a b:List (List UInt8)):Dc (a++b)=Dc a+Dc b:=by simp[Dc]
theorem LI.len{K:List UInt8->Option (Vl × List UInt8)}{t1 tt:List UInt8}{b1:Bool}{vs:List Vl}(h:LI K t1 b1 vs tt):vs.length+tt.length<=t1.length:=by
 have h1:=Qda (vs.map Bc)
 have h2:=h.2.2.1
 simp at h1
 omega
theorem LI.step{K:List UInt8->Option (Vl × List UInt8)}{t1 tt t' t'':List UInt8}{vs:List Vl}{v:Vl}(h:LI K t1 false vs tt)(hK:K tt=some (v,t'))(hg:tt.length=(Bc v).length+t'.length)(hc:Ar 44 t'=some t'')(hB:Bd v)(hl:t1.length<=900):LI K t1 false (vs++[v]) t'':=by
 have hlen:=h.len
 obtain⟨_,h2,h3,h4⟩:=h
 have e:t'=44::t'':=Ck.1 hc
 refine⟨fun h=>Bool.noConfusion h,fun _=>?_,?_,?_⟩
 ·rw[h2 rfl]
  obtain⟨m,hm⟩:∃m,1000 - vs.length=m+1:=⟨999 - vs.length,by omega⟩
  rw[hm,show 1000 - (vs++[v]).length=m by simp;omega]
  conv=>lhs;unfold Cx
  rw[hK]
  simp only[hc]
  cases Cx K m t''<;>simp[Qo]
 ·rw[List.map_append,Mb]
  simp[D7,Dc]at h3 ⊢
  rw[e]at hg
  simp at hg
  omega
 intro x hx
 rcases List.mem_append.1 hx with hx|hx
 ·exact h4 x hx
 rw[List.mem_singleton]at hx;subst hx;exact hB
theorem LI.brk{K:List UInt8->Option (Vl × List UInt8)}{t1 tt t':List UInt8}{vs:List Vl}{v:Vl}{N:Nat}(h:LI K t1 false vs tt)(hx:∀x,K tt=some x->v=x.1/\t'=x.2)(hc:Ba [44] t' (K tt).isNone=none)(hB:Bd v)(hl:t1.length<=900)
  (hn:(Bc v).length+t'.length<=tt.length+8*N):LE K t1 false (vs++[v]) t' (K tt).isNone N:=by
 have hlen:=h.len
 obtain⟨_,h2,h3,h4⟩:=h
 refine⟨?_,?_,?_⟩
 ·rw[if_neg (by decide),h2 rfl]
  obtain⟨m,hm⟩:∃m,1000 - vs.length=m+1:=⟨999 - vs.length,by omega⟩
  rw[hm]
  unfold Cx
  cases hk:K tt with
  |none=>rfl
  |some y=>
   obtain⟨e1,e2⟩:=hx y hk
   obtain⟨y1,y2⟩:=y
   simp only at e1 e2
   subst e1 e2
   rw[hk,Ci]at hc
   simp only[Option.isNone_some,Bool.false_eq_true,if_false]at hc ⊢
   rw[hc]
   simp only
   cases Ar 93 t'<;>simp[Qo]
 ·rw[List.map_append,Mb]
  simp[D7,Dc]at h3 ⊢
  omega
 intro x hx
 rcases List.mem_append.1 hx with hx|hx
 ·exact h4 x hx
 rw[List.mem_singleton]at hx;subst hx;exact hB
theorem LI.bad{K:List UInt8->Option (Vl × List UInt8)}{t1 tt:List UInt8}{vs:List Vl}{N:Nat}(h:LI K t1 true vs tt):LE K t1 true vs tt true N:=⟨by simp,by have:=h.2.2.1;omega,h.2.2.2⟩
theorem LE.fin{K:List UInt8->Option (Vl × List UInt8)}{t t1 tt:List UInt8}{b1 bb:Bool}{vs:List Vl}{N:Nat}(h:LE K t1 b1 vs tt bb N)(h1:t1=(Ba [91] t false).getD t)(hb1:b1=(Ba [91] t false).isNone)(h2:Ba [93] t1 b1=none):
  S1 K 1000 t=if (Ba [93] tt bb).isNone || decide (20<vs.length)then none else some (.mk 91 [] 0 vs,(Ba [93] tt bb).getD tt):=by
 obtain⟨h3,_,_⟩:=h
 rw[Ci]at h1 hb1 h2 ⊢
 simp only[Bool.false_eq_true,if_false]at h1 hb1
 unfold S1
 cases hy:Ar 91 t with
 |none=>
  rw[hy]at hb1
  simp only[Option.isNone_none]at hb1
  subst hb1
  simp only[if_true]at h3
  simp only
  cases bb with
  |true=>simp
  |false=>
   simp only[Bool.false_eq_true,if_false]at h3 ⊢
   cases hz:Ar 93 tt with
   |none=>simp
   |some z=>rw[hz]at h3;cases h3
 |some r=>
  rw[hy]at h1 hb1
  simp only[Option.isNone_some,Option.getD_some]at h1 hb1
  subst h1 hb1
  simp only[Bool.false_eq_true,if_false]at h2 h3
  simp only
  rw[h2]
  simp only
  rw[h3]
  cases bb with
  |true=>simp
  |false=>
   simp only[Bool.false_eq_true,if_false]
   cases Ar 93 tt with
   |none=>simp
   |some z=>
    simp only[Option.isNone_some,Bool.false_or,decide_eq_true_eq,Option.getD_some]
    by_cases h:vs.length<=20
    ·rw[if_pos h,if_neg (by omega)]
    rw[if_neg h,if_pos (by omega)]
section
attribute [local go_sem] Qiz Qii Qib Qgw ByteArray.mk_append_mk
def Rd(tt:List UInt8)(N:Nat)(r:Option (Vl × List UInt8))(v:Vl)(t':List UInt8):Prop:=
 (∀x,r=some x->v=x.1/\t'=x.2)/\Bd v/\t'.length<=tt.length/\(Bc v).length+t'.length<=tt.length+8*N
structure Qi4(w:World)(b B:Nat)(p:Value)(k:Kd)(h0 h1 h2 rv:Value)(xs:List (Vl × Value))(tt:List UInt8)(bb:Bool)(N:Nat)(r:Option (Vl × List UInt8))(c s a d:Bool)(uc us ua:Value)(W:World):Prop where
 r1:∃t2 bad2,Kt w b p k t2 bad2 W/\(c=false->t2=tt/\bad2=bb)
 r2:a=false->Rm (B+1) B W h0 h1 h2 rv rv xs
 r3:c=true->∃v sl t',uc=D9 v sl/\Rd tt N r v t'/\Kt w b p k t' r.isNone W/\(a=false->Dx (fun c=>B+1<=c/\rv.ownBlock≠some c) W sl v.kids) /\
  (s=true->a=false->∃W7,W=W7.alloc (.cells (J5 (v,sl)).toArray 40)/\us=.slice (some ⟨W7.heap.size,0,none⟩) 1 1/\Rm (B+1) B W7 h0 h1 h2 rv rv xs/\Dx (fun c=>B+1<=c/\rv.ownBlock≠some c) W7 sl v.kids/\Kt w b p k t' r.isNone W7) /\
  (a=true->d=false->∃A n c,ua=.slice A n c/\Rm (B+1) B W h0 h1 h2 rv ua (xs++[(v,sl)])) /\
  (d=true->∃A n c,ua=.slice A n c/\Rm (B+1) B W h0 h1 h2 ua ua (xs++[(v,sl)]))
theorem Qeb(w0:World)(b N:Nat)(p:Value)(S:List Ty)(t:List UInt8)(k:Kd)(w:World)(hw:Below w0.heap.size w0 w)(hb:w0.heap.size<=b)(h:Gb w b p t false)(hl:t.length<=900)(hN:t.length<=N)(hN2:N<=2000)
  (H:IvC w0 b p S N k) (HG:∀s v r,An S 1000 N k s=some (v,r)->s=Bc v++r) (q:Option (Vl × List UInt8)) (hq:q=S1 (An S 1000 N k) 1000 t):
  Calls prog 77 #[.pointer (some ⟨b,0,none⟩),D2 k] w (Km w b p t (N+1) q):=by
 have HQ:=Aa hq
 have HH:=Aa H
 have HG:=Aa HG
 have HS:=Aa h
 have HW:=Aa hw
 have hb0:=h.1
 have hbn:¬(b=w.heap.size):=by omega
 have hbn2:¬(b=w.heap.size+1):=by omega
 have hbn3:¬(b=w.heap.size+2):=by omega
 have hm:=Eh 91 t false
 have Hwt:=Aa (fun W (h:Gb W b p t false)=>Db b p t [91] false W h (by omega))
 have Hlt0:=Aa (fun r (h:Ba [91] t false=some r)=>Jo h)
 obtain⟨t1,ht1⟩:∃t1,t1=(Ba [91] t false).getD t:=⟨_,rfl⟩
 obtain⟨b1,hb1⟩:∃b1,b1=(Ba [91] t false).isNone:=⟨_,rfl⟩
 have Ht1:=Aa ht1
 have Hb1:=Aa hb1
 have HL1:=Aa (show b1=false->t1.length<N from by
  intro h
  rw[hb1]at h
  cases hr:Ba [91] t false with
  |none=>rw[hr]at h;cases h
  |some r=>have:=Hlt0.o r hr;rw[ht1,hr];simp;omega)
 rw[<-ht1]at hm
 rw[<-ht1,<-hb1]at Hwt
 have Htk:=Aa (fun W (h:Gb W b p t1 b1)=>Jb b p t1 [93] b1 W h (by omega))
 have HK:=Aa (fun s=>(rfl:An S 1000 N k s=An S 1000 N k s))
 clear h hw H hq ht1 hb1 HK
 have HF0:=Aa (Kt.init (k:=k) HS.o (T:=62) (U:=40))
 unfold D2
 go_enter func77,ntmps77
 go_wp2_with fail
 obtain⟨W1,hW1⟩:∃W1,W1=((w.alloc (.cells #[.string ⟨k.signs.toArray⟩,.string ⟨k.base.toArray⟩,.string ⟨k.name.toArray⟩] 62)).alloc (.cells #[.int .u8 0,.string ⟨#[]⟩,.int .i64 0,.slice none 0 0] 40)).alloc (.cells #[.int .u8 91,.string ⟨#[]⟩,.int .i64 0,.slice none 0 0] 40):=⟨_,rfl⟩
 rw[<-hW1]
 have hz1:W1.heap.size=w.heap.size+3:=by rw[hW1];simp
 have F1:=Aa (show Kt w b p k t false W1 from by rw[hW1];exact HF0.o.post ((Aq _ _).alloc (Ap _) _))
 have K1:=Aa (show Rm (w.heap.size+2+1) (w.heap.size+2) W1 (.int .u8 91) (.string ⟨#[]⟩) (.int .i64 0) (.slice none 0 0) (.slice none 0 0) []from by
  have hbk:Pf W1 (w.heap.size+2):=by rw[hW1];have:=Pf.new ((w.alloc (.cells #[.string ⟨k.signs.toArray⟩,.string ⟨k.base.toArray⟩,.string ⟨k.name.toArray⟩] 62)).alloc (.cells #[.int .u8 0,.string ⟨#[]⟩,.int .i64 0,.slice none 0 0] 40)) #[.int .u8 91,.string ⟨#[]⟩,.int .i64 0,.slice none 0 0] 40;simpa using this
  exact⟨by omega,by omega,by omega,hbk,by rw[hW1];simp[go_sem],by rw[hW1];simp[go_sem],by rw[hW1];simp[go_sem],by rw[hW1];simp[go_sem],World.ownsRow_nil _ _ _ _,by simp⟩)
 clear hW1 HF0
 refine(Hwt.o _ F1.o.1.1).mono ?_
 rintro e W2 ⟨rfl,hs2⟩
 have F2:=Aa (F1.o.step hb0 hs2)
 have K2:=Aa (K1.o.step hs2.2 (by omega) (by omega))
 clear hs2 F1 K1
 go_wp2_with fail
 refine(Htk.o _ F2.o.1.1).mono ?_
 rcases hy:Ba [93] t1 b1 with _|r
 ·have Hy:=Aa hy
  clear hy
  rintro e W3 ⟨rfl,hs3⟩
  simp only[Option.getD_none]at hs3
  have F3:=Aa (F2.o.step hb0 hs3)
  have K3:=Aa (K2.o.step hs3.2 (by omega) (by omega))
  clear hs3 F2 K2
  go_wp2_with fail
  go_loopw [] (fun wr=>∃(xs:List (Vl × Value)) (A:Option Addr) (n c:Nat) (tt:List UInt8),tt.length<=t1.length/\wr.cell? ⟨b,1,none⟩=some (.string ⟨tt.toArray⟩)/\Hid (Kt w b p k tt b1 wr)/\Hid (Rm (w.heap.size+2+1) (w.heap.size+2) wr (.int .u8 91) (.string ⟨#[]⟩) (.int .i64 0) (.slice A n c) (.slice A n c) xs)/\Hid (LI (An S 1000 N k) t1 b1 (A0 xs) tt))
   (fun wr=>match wr.cell? ⟨b,1,none⟩with|some (.string s)=>s.size|_=>0)
  case atStart=>exact⟨[],none,0,0,t1,Ap _,F3.o.1.1.2.2.2.1,F3.o,K3.o,LI.init _ _ _⟩
  case round=>
   obtain⟨xs,A,n,c,tt,htl,c1,F,K,hI⟩:=hrel
   have s2:=F.o.1.1.2.2.2.2
   have hxl:xs.length<=900:=by have:=hI.o.len;simp[A0]at this;omega
   cases b1 with
   |true=>
    go_wp2_with fail
    have Hw9:=Aa (fun W (h:Gb W b p tt true)=>Db b p tt [93] true W h (by omega))
    refine(Hw9.o _ F.o.1.1).mono ?_
    rintro e W7 ⟨rfl,hs7⟩
    have F7:=Aa (F.o.step hb0 hs7)
    have K7:=Aa (K.o.step hs7.2 (by omega) (by omega))
    have hfin:=Aa (HQ.o.trans ((Aa (hI.o.bad (N:=N))).o.fin Ht1.o Hb1.o Hy.o))
    have hle9:=Eh 93 tt true
    have hE9:=(Aa (hI.o.bad (N:=N))).o.2.1
    obtain⟨t4,ht4⟩:∃t4,t4=(Ba [93] tt true).getD tt:=⟨_,rfl⟩
    obtain⟨b4,hb4⟩:∃b4,b4=(Ba [93] tt true).isNone:=⟨_,rfl⟩
    rw[<-ht4]at F7 hfin hle9
    rw[<-hb4]at F7 hfin
    have e7:(A0 xs).length=(xs).length:=by simp[A0]
    obtain⟨ys,hys⟩:∃ys,ys=xs:=⟨_,rfl⟩
    rw[<-hys]at K7 hfin hE9 e7
    have HB9:=Aa (Aa (hI.o.bad (N:=N))).o.2.2
    rw[<-hys]at HB9
    have hyl:ys.length<=1000:=by rw[hys];omega
    have d0:=K7.o.c0
    have d1:=K7.o.c1
    have d2:=K7.o.c2
    have d3:=K7.o.c3
    have s7:=F7.o.1.1.2.1.live 2
    have s8:=F7.o.1.1.2.2.2.2
    have q7:=F7.o.1.1.1
    have hn7:n=ys.length:=Mi K7.o.row
    subst hn7
    clear hs7 ht4 hb4 hys
    by_cases h20:ys.length<=20
    ·have t20:decide ((20:Int)<(ys.length:Int))=false:=decide_eq_false (by omega)
     go_wp2_with ((with_reducible refine Ad (op:=⟨none,.store 40 _ _,_,_,_,none⟩) rfl 40 _ _ rfl (w.heap.size+1) 0 [.int .u8 91,.string ⟨#[]⟩,.int .i64 0,.slice A ys.length c] ?_ ?_ ?_ ?_ ?_ ?_);rfl;rfl;(exact F7.o.2.2.1);kernel_rfl;(simp[Value.oneCell']);intro w9 HS9)
     have Z:=Kt.fin (t:=t) (N:=N+1) (v:=.mk 91 [] 0 (A0 ys)) (sl:=.slice A ys.length c) (r:=q) F7.o hb0 HS9.o ((K7.o.done hyl).mono fun c hc _=>by omega) (by rw[hfin.o,e7];cases b4<;>simp[h20])
      (by rw[hfin.o,e7];cases b4<;>simp[h20]) (.mk (by decide) (by omega) (by simp) HB9.o) (by omega) (by rw[G8];simp[Bu];omega)
     exact bodyPost_ret (v:=.agg (Gu (.mk 91 [] 0 (A0 ys)) (.slice A ys.length c)).toArray) (Az results77 _ _ (w.heap.size+1) _ _ rfl Z.2 underlying40 rfl (by kernel_rfl)) rfl Z.1
    have t20:decide ((20:Int)<(ys.length:Int))=true:=decide_eq_true (by omega)
    have F8:=Aa (F7.o.step hb0 ⟨F7.o.1.1.setBad true,At _ b 2 (.bool true)⟩)
    have K8:=Aa (K7.o.step (At _ b 2 (.bool true)) (by omega) (by omega))
    go_wp2_with ((with_reducible refine Ad (op:=⟨none,.store 40 _ _,_,_,_,none⟩) rfl 40 _ _ rfl (w.heap.size+1) 0 [.int .u8 91,.string ⟨#[]⟩,.int .i64 0,.slice A ys.length c] ?_ ?_ ?_ ?_ ?_ ?_);rfl;rfl;(exact F8.o.2.2.1);kernel_rfl;(simp[Value.oneCell']);intro w9 HS9)
    have Z:=Kt.fin (t:=t) (N:=N+1) (v:=.mk 91 [] 0 (A0 ys)) (sl:=.slice A ys.length c) (r:=q) F8.o hb0 HS9.o ((K8.o.done hyl).mono fun c hc _=>by omega) (by rw[hfin.o,e7];simp[h20])
     (by rw[hfin.o,e7];simp[h20]) (.mk (by decide) (by omega) (by simp) HB9.o) (by omega) (by rw[G8];simp[Bu];omega)
    exact bodyPost_ret (v:=.agg (Gu (.mk 91 [] 0 (A0 ys)) (.slice A ys.length c)).toArray) (Az results77 _ _ (w.heap.size+1) _ _ rfl Z.2 underlying40 rfl (by kernel_rfl)) rfl Z.1
   |false=>
    have h1N:=HL1.o rfl
    go_wp2_with fail
    refine Ge [17,18,19,20,21,22,23,24,999]
     (fun ix v W=>match ix with|0=>v=.pointer (some ⟨w.heap.size+2,3,none⟩)|1=>v=.slice A n c|2=>v=.pointer (some ⟨b,0,none⟩)|3=>v=D2 k|4=>∃x s,v=D9 x s|5=>∃g,v=.slice (some ⟨g,0,none⟩) 1 1|6=>∃A n c,v=.slice A n c|7=>v=.pointer (some ⟨w.heap.size+2,3,none⟩)|_=>True)
     (fun L U W=>Qi4 w b (w.heap.size+2) p k (.int .u8 91) (.string ⟨#[]⟩) (.int .i64 0) (.slice A n c) xs tt false N (An S 1000 N k tt) (L 4) (L 5) (L 6) (L 8) (U 4) (U 5) (U 6) W) (⟨⟨tt,false,F.o.post (Aq _ _).drew,fun _=>⟨rfl,rfl⟩⟩,fun _=>K.o.after (Aq _ _).drew,fun h=>Bool.noConfusion h⟩) ?_ ?_
    ·repeat (first|exact Ah.nil|(refine Ah.cons ?_ ?_;rotate_left))
     all_goals
      rintro L U W hL hpre HR Hdep K hK
      obtain⟨⟨t2,bad2,hF2,hF2'⟩,R2,R3⟩:=HR.o
      have k0:=Ab hF2.2.1 0 rfl
      have k1:=Ab hF2.2.1 1 rfl
      have k2:=Ab hF2.2.1 2 rfl
      simp only[Nat.zero_add]at k0 k1 k2
      first|(simp[Region.binds]at hpre;done)|simp[Region.binds]at hpre|clear hpre
     ·go_simp
      exact kE hK HR.o
     ·have h6:L 6=false:=Ax Hdep.o 6 1 rfl hL
      have g3:=(R2 h6).c3
      go_simp
      exact kE hK HR.o
     ·go_simp
      exact kE hK HR.o
     ·go_simp
      first|exact hK (D2 k) _ _ rfl Ac HR.o rfl|exact hK (D2 k) _ _ rfl Ac HR.o (by simp[Act.put,hpre])
     ·have h5:L 5=false:=Ax Hdep.o 5 4 rfl hL
      have h6:L 6=false:=Ax Hdep.o 6 5 rfl h5
      have h8:L 8=false:=Ax Hdep.o 8 6 rfl h6
      obtain⟨rfl,rfl⟩:=hF2' hL
      go_simp
      refine(HH.o t2 false _ (hF2.1.env HW.o hb) hF2.1.1 (by omega) (fun _=>by omega)).mono ?_
      rintro e w5 ⟨v,sl,t',rfl,hk5,hs5,hx5,hB5,hl5,hn5⟩
      simp only[Bool.false_eq_true,if_false]at hx5 hs5
      have hF5:=hF2.step hb0 hs5
      have hK5:=(R2 h6).step hs5.2 (by omega) (by omega)
      have hks:Dx (fun g=>w.heap.size+2+1<=g/\(Value.slice A n c).ownBlock≠some g) w5 sl v.kids:=hk5.mono fun c hc _=>⟨by have:=(R2 h6).bs;omega,fun e=>by have:=((R2 h6).row.lt c e).2;omega⟩
      exact hK (D9 v sl) _ _ ⟨v,sl,rfl⟩ Ac ⟨⟨t',_,hF5,fun h=>by simp at h⟩,fun _=>hK5,fun _=>⟨v,sl,t',rfl,⟨hx5,hB5,hl5,hn5⟩,hF5,fun _=>hks,fun h=>absurd (h5.symm.trans (by simpa using h)) (by decide),fun h=>absurd (h6.symm.trans (by simpa using h)) (by decide),fun h=>absurd (h8.symm.trans (by simpa using h)) (by decide)⟩⟩ (by simp[Act.put,hpre])
     ·have h6:L 6=false:=Ax Hdep.o 6 5 rfl hL
      have h8:L 8=false:=Ax Hdep.o 8 6 rfl h6
      obtain⟨v,sl,t',u4,hrd,hF3,hks,_,_,_⟩:=R3 hpre.1
      obtain⟨A7,c7,rfl⟩:=(hks h6).form
      have hba:Below W.heap.size W (W.alloc (.cells (J5 (v,.slice A7 v.kids.length c7)).toArray 40)):=(Aq _ _).alloc (Ap _) _
      unfold D9 at u4
      go_simp
      exact hK (.slice (some ⟨W.heap.size,0,none⟩) 1 1) _ _ ⟨W.heap.size,rfl⟩ Ac ⟨⟨t',_,hF3.post hba,fun h=>absurd (hpre.1.symm.trans (by simpa using h)) (by decide)⟩,fun _=>(R2 h6).after hba,fun _=>⟨v,_,t',u4,hrd,hF3.post hba,fun _=>(hks h6).after hba,fun _ _=>⟨W,rfl,rfl,R2 h6,hks h6,hF3⟩,fun h=>absurd (h6.symm.trans (by simpa using h)) (by decide),fun h=>absurd (h8.symm.trans (by simpa using h)) (by decide)⟩⟩ (by simp[Act.put,u4])
     ·have h8:L 8=false:=Ax Hdep.o 8 6 rfl hL
      obtain⟨lv,uv⟩:=hpre.1
      have ls:L 5=true:=hpre.2.1.1
      have lc:L 4=true:=hpre.2.2.1
      obtain⟨v,sl,t',u4,hrd,hF3,hks,hs,_,_⟩:=R3 lc
      obtain⟨W7,rfl,u5,hK7,hk7,hF7⟩:=hs ls hL
      obtain⟨A7,c7,e7⟩:=hk7.form
      have hlen7:=hK7.row
      rw[if_pos (by rfl)]
      refine Jn W7 (.tmp 18) (.tmp 22) 38 rfl (w.heap.size+2+1) 40 (.agg #[.int .u8 0,.string ⟨#[]⟩,.int .i64 0,.slice none 0 0]) 4 56 underlying38 Ti rfl (by decide) (J5 (v,sl)) rfl (Tg _ (by rw[e7];rfl)) (.slice A n c) xs.length (xs.flatMap J5) uv u5 hK7.row (by unfold maxLen;omega) (by omega) hK7.bs ?_
      intro v' w' hown hg hwh
      obtain⟨A5',n5',c5',rfl⟩:=Qh hown
      have hKa:=hK7.app (x:=(v,sl)) hk7 hown hg hwh
      have hFa:Kt w b p k t' (An S 1000 N k tt).isNone w':=hF7.app hb0 hg (fun c e=>by have:=(hK7.row.lt c e).1;omega)
      exact hK _ _ _ ⟨A5',n5',c5',rfl⟩ Ac ⟨⟨t',_,hFa,fun h=>absurd (lc.symm.trans (by simpa using h)) (by decide)⟩,fun h=>by simp at h,fun _=>⟨v,sl,t',u4,hrd,hFa,fun h=>by simp at h,fun _ h=>by simp at h,fun _ _=>⟨A5',n5',c5',rfl,hKa⟩,fun h=>absurd (h8.symm.trans (by simpa using h)) (by decide)⟩⟩ rfl
     ·go_simp
      exact kE hK HR.o
     ·obtain⟨la,A5',n5',c5',ua⟩:=hpre.2.1
      have up:=hpre.1.2
      have ls:L 5=true:=by
       cases h5:L 5 with
       |true=>rfl
       |false=>exact absurd (la.symm.trans (Ax Hdep.o 6 5 rfl h5)) (by decide)
      have lc:L 4=true:=by
       cases h4:L 4 with
       |true=>rfl
       |false=>exact absurd (ls.symm.trans (Ax Hdep.o 5 4 rfl h4)) (by decide)
      obtain⟨v,sl,t',u4,hrd,hF3,_,_,ha,_⟩:=R3 lc
      obtain⟨A6',n6',c6',ua',hKa⟩:=ha la hL
      rw[ua]at hKa
      have hcell:=hKa.c3
      have hfz:=hKa.bk.live 3
      have hst:=hKa.store
      have hst2:Rm (w.heap.size+2+1) (w.heap.size+2) (W.setCell ⟨w.heap.size+2,3,none⟩ (.slice A5' n5' c5')) (.int .u8 91) (.string ⟨#[]⟩) (.int .i64 0) (U 6) (U 6) (xs++[(v,sl)]):=by rw[ua];exact hst
      have hFs:Kt w b p k t' (An S 1000 N k tt).isNone (W.setCell ⟨w.heap.size+2,3,none⟩ (.slice A5' n5' c5')):=hF3.put hb0 (by omega) _
      go_simp
      exact hK undef _ _ Ac Ac ⟨⟨t',_,hFs,fun h=>absurd (lc.symm.trans (by simpa using h)) (by decide)⟩,fun h=>absurd (la.symm.trans (by simpa using h)) (by decide),fun _=>⟨v,sl,t',u4,hrd,hFs,fun h=>absurd (la.symm.trans (by simpa using h)) (by decide),fun _ h=>absurd (la.symm.trans (by simpa using h)) (by decide),fun _ h=>by simp at h,fun _=>⟨A5',n5',c5',ua,hst2⟩⟩⟩ (by simp[Act.put,hpre,up,ua,u4])
    rintro L U W hL hφ hR
    clear hφ
    obtain⟨_,_,h3⟩:=hR
    obtain⟨v,sl,t',_,hrd,hF,_,_,_,hd⟩:=h3 (hL 4 (by decide))
    obtain⟨A5,n5,c5,e5,hK5⟩:=hd (hL 8 (by decide))
    rw[e5]at hK5
    have F5:=Aa hF
    have K5:=Aa hK5
    have Rd5:=Aa hrd
    have ht5:=hrd.2.2.1
    clear hL h3 hd hF hK5 hrd
    have Htk5:=Aa (fun W (h:Gb W b p t' (An S 1000 N k tt).isNone)=>Jb b p t' [44] (An S 1000 N k tt).isNone W h (by omega))
    go_wp2_with fail
    refine(Htk5.o _ F5.o.1.1).mono ?_
    rcases hc:Ba [44] t' (An S 1000 N k tt).isNone with _|r
    ·have Hc:=Aa hc
     clear hc
     rintro e W6 ⟨rfl,hs6⟩
     simp only[Option.getD_none]at hs6
     have F6:=Aa (F5.o.step hb0 hs6)
     have K6:=Aa (K5.o.step hs6.2 (by omega) (by omega))
     have E6:=Aa (show LE (An S 1000 N k) t1 false (A0 (xs++[(v,sl)])) t' (An S 1000 N k tt).isNone N from by
      have:=hI.o.brk (N:=N) Rd5.o.1 Hc.o Rd5.o.2.1 (by omega) Rd5.o.2.2.2
      simpa [A0]using this)
     clear hs6 F5 K5 Hc
     go_wp2_with fail
     have Hw9:=Aa (fun W (h:Gb W b p t' (An S 1000 N k tt).isNone)=>Db b p t' [93] (An S 1000 N k tt).isNone W h (by omega))
     refine(Hw9.o _ F6.o.1.1).mono ?_
     rintro e W7 ⟨rfl,hs7⟩
     have F7:=Aa (F6.o.step hb0 hs7)
     have K7:=Aa (K6.o.step hs7.2 (by omega) (by omega))
     have hfin:=Aa (HQ.o.trans (E6.o.fin Ht1.o Hb1.o Hy.o))
     have hle9:=Eh 93 t' (An S 1000 N k tt).isNone
     have hE9:=E6.o.2.1
     obtain⟨t4,ht4⟩:∃t4,t4=(Ba [93] t' (An S 1000 N k tt).isNone).getD t':=⟨_,rfl⟩
     obtain⟨b4,hb4⟩:∃b4,b4=(Ba [93] t' (An S 1000 N k tt).isNone).isNone:=⟨_,rfl⟩
     rw[<-ht4]at F7 hfin hle9
     rw[<-hb4]at F7 hfin
     have e7:(A0 (xs++[(v,sl)])).length=((xs++[(v,sl)])).length:=by simp[A0]
     obtain⟨ys,hys⟩:∃ys,ys=(xs++[(v,sl)]):=⟨_,rfl⟩
     rw[<-hys]at K7 hfin hE9 e7
     have HB9:=Aa E6.o.2.2
     rw[<-hys]at HB9
     have hyl:ys.length<=1000:=by rw[hys];simp;omega
     have d0:=K7.o.c0
     have d1:=K7.o.c1
     have d2:=K7.o.c2
     have d3:=K7.o.c3
     have s7:=F7.o.1.1.2.1.live 2
     have s8:=F7.o.1.1.2.2.2.2
     have q7:=F7.o.1.1.1
     have hn7:n5=ys.length:=Mi K7.o.row
     subst hn7
     clear hs7 ht4 hb4 hys
     by_cases h20:ys.length<=20
     ·have t20:decide ((20:Int)<(ys.length:Int))=false:=decide_eq_false (by omega)
      go_wp2_with ((with_reducible refine Ad (op:=⟨none,.store 40 _ _,_,_,_,none⟩) rfl 40 _ _ rfl (w.heap.size+1) 0 [.int .u8 91,.string ⟨#[]⟩,.int .i64 0,.slice A5 ys.length c5] ?_ ?_ ?_ ?_ ?_ ?_);rfl;rfl;(exact F7.o.2.2.1);kernel_rfl;(simp[Value.oneCell']);intro w9 HS9)
      have Z:=Kt.fin (t:=t) (N:=N+1) (v:=.mk 91 [] 0 (A0 ys)) (sl:=.slice A5 ys.length c5) (r:=q) F7.o hb0 HS9.o ((K7.o.done hyl).mono fun c hc _=>by omega) (by rw[hfin.o,e7];cases b4<;>simp[h20])
       (by rw[hfin.o,e7];cases b4<;>simp[h20]) (.mk (by decide) (by omega) (by simp) HB9.o) (by omega) (by rw[G8];simp[Bu];omega)
      exact bodyPost_ret (v:=.agg (Gu (.mk 91 [] 0 (A0 ys)) (.slice A5 ys.length c5)).toArray) (Az results77 _ _ (w.heap.size+1) _ _ rfl Z.2 underlying40 rfl (by kernel_rfl)) rfl Z.1
     have t20:decide ((20:Int)<(ys.length:Int))=true:=decide_eq_true (by omega)
     have F8:=Aa (F7.o.step hb0 ⟨F7.o.1.1.setBad true,At _ b 2 (.bool true)⟩)
     have K8:=Aa (K7.o.step (At _ b 2 (.bool true)) (by omega) (by omega))
     go_wp2_with ((with_reducible refine Ad (op:=⟨none,.store 40 _ _,_,_,_,none⟩) rfl 40 _ _ rfl (w.heap.size+1) 0 [.int .u8 91,.string ⟨#[]⟩,.int .i64 0,.slice A5 ys.length c5] ?_ ?_ ?_ ?_ ?_ ?_);rfl;rfl;(exact F8.o.2.2.1);kernel_rfl;(simp[Value.oneCell']);intro w9 HS9)
     have Z:=Kt.fin (t:=t) (N:=N+1) (v:=.mk 91 [] 0 (A0 ys)) (sl:=.slice A5 ys.length c5) (r:=q) F8.o hb0 HS9.o ((K8.o.done hyl).mono fun c hc _=>by omega) (by rw[hfin.o,e7];simp[h20])
      (by rw[hfin.o,e7];simp[h20]) (.mk (by decide) (by omega) (by simp) HB9.o) (by omega) (by rw[G8];simp[Bu];omega)
     exact bodyPost_ret (v:=.agg (Gu (.mk 91 [] 0 (A0 ys)) (.slice A5 ys.length c5)).toArray) (Az results77 _ _ (w.heap.size+1) _ _ rfl Z.2 underlying40 rfl (by kernel_rfl)) rfl Z.1
    have Hc:=Aa hc
    have hcl:=Jo hc
    clear hc
    rintro e W6 ⟨rfl,hs6⟩
    simp only[Option.getD_some]at hs6
    cases hk:An S 1000 N k tt with
    |none=>rw[hk,Ci]at Hc;exact absurd Hc.o (by simp)
    |some y=>
     have Hk:=Aa hk
     rw[hk]at hs6 F5 Rd5
     have F6:=Aa (F5.o.step hb0 hs6)
     have K6:=Aa (K5.o.step hs6.2 (by omega) (by omega))
     have I6:=Aa (show LI (An S 1000 N k) t1 false (A0 (xs++[(v,sl)])) r from by
      obtain⟨e1,e2⟩:=Rd5.o.1 y rfl
      have hg:=HG.o tt y.1 y.2 (by rw[Hk.o])
      have h44:Ar 44 t'=some r:=by have:=Hc.o;rw[Hk.o,Ci]at this;simpa using this
      have:=hI.o.step (v:=v) (t':=t') (by rw[Hk.o,e1,e2]) (by rw[hg,e1,e2];simp) h44 Rd5.o.2.1 (by omega)
      simpa [A0]using this)
     have c6:=F6.o.1.1.2.2.2.1
     clear hs6 F5 K5 hk
     go_wp2_with fail
     go_roundw
     case rel=>exact⟨xs++[(v,sl)],A5,n5,c5,r,by omega,c6,F6.o,K6.o,I6.o⟩
     case measure=>simp[c1,c6,ByteArray.size];omega
 have Hy:=Aa hy
 have hlt:=Jo hy
 clear hy
 rintro e W3 ⟨rfl,hs3⟩
 simp only[Option.getD_some]at hs3
 have F3:=Aa (F2.o.step hb0 hs3)
 have K3:=Aa (K2.o.step hs3.2 (by omega) (by omega))
 clear hs3 F2 K2
 have d0:=K3.o.c0
 have d1:=K3.o.c1
 have d2:=K3.o.c2
 have d3:=K3.o.c3
 go_wp2_with ((with_reducible refine Ad (op:=⟨none,.store 40 _ _,_,_,_,none⟩) rfl 40 _ _ rfl (w.heap.size+1) 0 [.int .u8 91,.string ⟨#[]⟩,.int .i64 0,.slice none 0 0] ?_ ?_ ?_ ?_ ?_ ?_);rfl;rfl;(exact F3.o.2.2.1);kernel_rfl;(simp[Value.oneCell']);intro w9 HS9)
 have hq2:q=some (.mk 91 [] 0 [],r):=by
  have h1:=Ht1.o
  have h2:=Hb1.o
  have h3:=Hy.o
  rw[HQ.o]
  rw[Ci]at h1 h2 h3
  unfold S1
  simp only[Bool.false_eq_true,if_false]at h1 h2
  cases h9:Ar 91 t with
  |none=>rw[h9]at h2;simp at h2;subst h2;simp at h3
  |some z=>
   rw[h9]at h1 h2
   simp at h1 h2
   subst h1 h2
   simp only[Bool.false_eq_true,if_false]at h3
   simp only[h3]
 have Z:=Kt.fin (t:=t) (N:=N+1) (v:=.mk 91 [] 0 []) (sl:=.slice none 0 0) (r:=q) F3.o hb0 HS9.o (Dx.nil _ _) (by rw[hq2];cases b1;rfl;have:=Hy.o;rw[Ci]at this;simp at this)
  (by rw[hq2];simp) (Et (by decide) (by decide)) (by omega) (by simp[Bc,Dz,Gs,Av];omega)
 exact bodyPost_ret (v:=.agg (Gu (.mk 91 [] 0 []) (.slice none 0 0)).toArray) (Az results77 _ _ (w.heap.size+1) _ _ rfl Z.2 underlying40 rfl (by kernel_rfl)) rfl Z.1
end
end Go.Proofs.YtkgkoicedddkmaaGreatDoor
