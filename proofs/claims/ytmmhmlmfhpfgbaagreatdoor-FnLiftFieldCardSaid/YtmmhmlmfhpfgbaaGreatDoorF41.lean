/- Texts joined. Conditions: as each theorem names them. -/
import Derived.Deep.CutRange
import Derived.Deep.DeepCutAuto
import Derived.Test.YtmmhmlmfhpfgbaaGreatDoorF35
import Derived.Test.YtmmhmlmfhpfgbaaGreatDoorF40
set_option maxRecDepth 100000
set_option maxHeartbeats 32000000
set_option linter.unusedVariables false
set_option linter.unusedSimpArgs false
namespace Go.Proofs.YtmmhmlmfhpfgbaaGreatDoor
open Go.RowKit Go.Proofs.Tryz
section
attribute [local go_sem] Qoe Qnf Qmu Qk2 ByteArray.mk_append_mk
theorem Qkd(w0:World)(p1 p2:Value)(xs ys:List PT)(hx:Sd w0 p1 xs)(hy:Sd w0 p2 ys)(hS:G7 (Ag xs))(hT:G7 (Ag ys)):∀(n:Nat) (a b:Kd) (m:List C9) (w:World),
  Ck a->Ck b->B6 (Ag xs) a->B6 (Ag ys) b->Kt (Ag xs) (Ag ys) m->64<n+m.length->Fc w0 p1 p2 w m ->
   Calls prog 168 #[(w0,1,0),D9 a,D9 b] w (Tw w0 p1 p2 (J2 (Ag xs) (Ag ys) n a b m) w):=by
 have h8:(Ag xs).length*(Ag ys).length<=64:=by
  exact lM
 intro n;induction n with
 |zero=>
  intro a b m w _ _ _ _ hm hn _;have:=hm.len;omega
 |succ n ih=>
  intro a b m w ha hb hra hrb hm hn hst;have hml:m.length<=64:=ad hm.len h8;exact Qfu w0 p1 p2 xs ys hx hy n a b m w ha hb hra hrb hst (fun x y W hxm hym hW=>Qff w0 p1 p2 xs ys hx hy hS hT n x y hxm hym ih m hm hn hml W hW)
theorem Qa.mono{lo lo':Nat}{w:World}{p:Value}{xs:List PT}(h:Qa lo w p xs)(hle:lo'<=lo):Qa lo' w p xs:=by
 obtain⟨b,A,c,mb,q0,q1,q2,q3,q4,q5,q6,q7,l1,l2,l3,l4⟩:=h;exact⟨b,A,c,mb,q0,q1,q2,q3,q4,q5,q6,q7,by omega,by omega,fun g o h1 h2=>by have:=l3 g o h1 h2;omega,fun x hx=>⟨by have:=(l4 x hx).1;omega,fun k h1 h2=>by have:=(l4 x hx).2 k h1 h2;omega⟩⟩
theorem Pn.form{o:Option (List Ty × Kd)}{w w':World}{e:Ending}(h:Pn o w e w'):
  ∃(q:Option Addr) (a b c:ByteArray),e=.returned (.tuple #[.pointer q,.agg #[.string a,.string b,.string c],.bool o.isSome])/\Below w w w' /\
   ∀S k,o=some (S,k)->∃xs,Ag xs=S/\a=⟨k.signs.toArray⟩/\b=⟨k.base.toArray⟩/\c=⟨k.name.toArray⟩/\Qa w.heap.size w' (.pointer q) xs:=by
 obtain⟨h1,hb⟩:=h;cases o with
 |none=>
  obtain⟨p,a,b,c,e⟩:=h1;exact⟨p,a,b,c,e,hb,fun S k h=>by cases h⟩
 |some x=>
  obtain⟨S,k⟩:=x;obtain⟨p,xs,hx,e,hs⟩:=h1;obtain⟨pb,_,_,_,rfl,_⟩:=hs.isc;exact⟨_,_,_,_,e,hb,fun S' k' h=>by cases h;exact⟨xs,hx,rfl,rfl,rfl,hs⟩⟩
section
variable {P:Program}
theorem Mc{fn:Func}{r p p2 q:Tmp}{ty:TypeId}(h:fn.results=#[.tmp r,.cell p ty,.cell p2 ty,.tmp q])(tmps:Array Value)(w:World)(b b2:Nat)(cs cs2:List Value)(d:TypeDesc)(y x:Value)
  (hr:tmps.getD r undef=y) (hp:tmps.getD p undef=b) (hp2:tmps.getD p2 undef=b2) (hq:tmps.getD q undef=x) (hc:w.rangeAt b 0 cs) (hc2:w.rangeAt b2 0 cs2) (hu:P.underlying ty=some d) (hd:d.isRow=true) (hi:(P.info? ty).map (·.size)=some cs.length) (hi2:(P.info? ty).map (·.size)=some cs2.length):
  (results fn tmps).run P w=.ok (.tuple #[y,.agg cs.toArray,.agg cs2.toArray,x]) w:=by
 have hp':tmps[p]?.getD undef=b:=ef;have hp2':tmps[p2]?.getD undef=b2:=by simpa using hp2
 have hq':tmps[q]?.getD undef=x:=f7;have hr':tmps[r]?.getD undef=y:=dz;simp[results,h,hp',hp2',hq',hr',asAddr,run_loadVar_mid w b 0 ty cs d hc hu hd hi,run_loadVar_mid w b2 0 ty cs2 d hc2 hu hd hi2]
end
theorem Qin{B:Nat}{a b:World}(h:Below B a b)(p:Addr)(u:Value):Below B (a.setCell p u) (b.setCell p u):=
 ⟨h.os,h.tape,h.output,by simp[World.setCell];exact h.size,fun k hk=>by
  simp only[World.setCell,Array.getElem?_modify];rw[h.block k hk]⟩
theorem Ys{B:Nat}(k:Nat):∀(vs:List Value) (o:Nat) {a b:World},Below B a b->Below B (a.setCells k o vs) (b.setCells k o vs)
 |[],_,_,_,h=>h
 |v::r,o,a,b,h=>Ys k r (o+1) (Qin h ⟨k,o,none⟩ v)
structure Ru(w:World)(p1 p2:Value)(xs ys:List PT)(N B13 B16:Nat)(ka kb:List Value)(w0 W:World)(mm:List C9):Prop where
 sz:w0.heap.size=N
 i1:Qa (w.heap.size+2) w0 p1 xs
 i2:Qa (w.heap.size+2) w0 p2 ys
 be:Below w w w0
 t9':w0.there w 0 3
 t10':w0.there (w.heap.size+1) 0 3
 x13':w0.rangeAt B13 0 ka
 x16':w0.rangeAt B16 0 kb
 l13:B13<N
 l16:B16<N
 lw:w.heap.size+2<=N
 st:Fc w0 p1 p2 W mm
theorem Ru.x13{w:World}{p1 p2:Value}{xs ys:List PT}{N B13 B16:Nat}{ka kb:List Value}{w0 W:World}{mm:List C9}(h:Ru w p1 p2 xs ys N B13 B16 ka kb w0 W mm):W.rangeAt B13 0 ka:=Ah h.x13' (by have:=h.l13;have:=h.sz;omega) h.st.1
theorem Ru.x16{w:World}{p1 p2:Value}{xs ys:List PT}{N B13 B16:Nat}{ka kb:List Value}{w0 W:World}{mm:List C9}(h:Ru w p1 p2 xs ys N B13 B16 ka kb w0 W mm):W.rangeAt B16 0 kb:=Ah h.x16' (by have:=h.l16;have:=h.sz;omega) h.st.1
theorem Ru.t9{w:World}{p1 p2:Value}{xs ys:List PT}{N B13 B16:Nat}{ka kb:List Value}{w0 W:World}{mm:List C9}(h:Ru w p1 p2 xs ys N B13 B16 ka kb w0 W mm):W.there w 0 3:=Aj h.t9' (by have:=h.lw;have:=h.sz;omega) h.st.1
theorem Ru.t10{w:World}{p1 p2:Value}{xs ys:List PT}{N B13 B16:Nat}{ka kb:List Value}{w0 W:World}{mm:List C9}(h:Ru w p1 p2 xs ys N B13 B16 ka kb w0 W mm):W.there (w.heap.size+1) 0 3:=Aj h.t10' (by have:=h.lw;have:=h.sz;omega) h.st.1
theorem Ru.drew{w:World}{p1 p2:Value}{xs ys:List PT}{N B13 B16:Nat}{ka kb:List Value}{w0 W:World}{mm:List C9}(h:Ru w p1 p2 xs ys N B13 B16 ka kb w0 W mm):Ru w p1 p2 xs ys N B13 B16 ka kb w0 W.drew mm:=
 {h with st:=h.st.below (Ao _ _).drew}
theorem Ru.store{w:World}{p1 p2:Value}{xs ys:List PT}{N B13 B16:Nat}{ka kb:List Value}{w0 W:World}{mm:List C9}(h:Ru w p1 p2 xs ys N B13 B16 ka kb w0 W mm){b:Nat}(cs:List Value)
  (h1:w.heap.size<=b) (h2:b<w.heap.size+2) (h3:B13≠b) (h4:B16≠b):Ru w p1 p2 xs ys N B13 B16 ka kb (w0.setCells b 0 cs) (W.setCells b 0 cs) mm:=by
 have hlw:=h.lw;have hsz:=h.sz
 refine⟨by rw[Ch];exact h.sz,h.i1.far (Dn _ _ _ w0) h2,h.i2.far (Dn _ _ _ w0) h2,Ai _ h1 _ _ _ h.be,ai h.t9' _ _ _,ai h.t10' _ _ _,
  ak h.x13' _ _ _ (.inl h3),ak h.x16' _ _ _ (.inl h4),h.l13,h.l16,h.lw,?_⟩
 obtain⟨s1,s2,s3,s4,s5,s6⟩:=h.st;have hg:=Dn b cs 0 W;have hc:∀j,(W.setCells b 0 cs).cell? ⟨w0.heap.size+1,j,none⟩=W.cell? ⟨w0.heap.size+1,j,none⟩:=fun j=>hg.cell_far ⟨w0.heap.size+1,j,none⟩ (show w0.heap.size+1<_ by omega) aM;unfold Fc;rw[Ch,Ch];exact⟨Ys b cs 0 s1,s2,(hc 0).trans s3,(hc 1).trans s4,(hc 2).trans s5,s6.kept hg aM⟩
def Qfr(o1 o2:Option (List Ty × Kd))(w:World)(e:Ending)(w':World):Prop:=
 ∃(q:Option Addr) (a1 b1 c1 a2 b2 c2:ByteArray),e=.returned (.tuple #[.pointer q,.agg #[.string a1,.string b1,.string c1],.agg #[.string a2,.string b2,.string c2],.bool (Ge o1 o2)])/\Below w w w' /\
  (Ge o1 o2=true->∃(S T:List Ty) (a b:Kd) (xs ys:List PT) (eb:Nat) (p1 p2:Option Addr),o1=some (S,a)/\o2=some (T,b)/\Ag xs=S/\Ag ys=T/\q=some ⟨eb,0,none⟩/\a1=⟨a.signs.toArray⟩/\b1=⟨a.base.toArray⟩/\c1=⟨a.name.toArray⟩/\a2=⟨b.signs.toArray⟩/\b2=⟨b.base.toArray⟩/\c2=⟨b.name.toArray⟩ /\
   w.heap.size<=eb/\eb<w'.heap.size/\w'.cell? (eb,0)=some (.pointer p1)/\w'.cell? (eb,1)=some (.pointer p2)/\Qa w.heap.size w' (.pointer p1) xs/\Qa w.heap.size w' (.pointer p2) ys)
theorem Qcg(s1 d1 s2 d2:List UInt8)(w:World)(h1:s1.length<=4000000)(h2:d1.length<=4000000)(h3:s2.length<=4000000)(h4:d2.length<=4000000):
  Calls prog 114 #[s1,d1,s2,d2] w (Qfr (Bm s1 d1) (Bm s2 d2) w):=by
 have Hk1:=Aa (fun W=>Tx s1 d1 W h1 h2);have Hk2:=Aa (fun W=>Tx s2 d2 W h3 h4);have Hg1:=Aa (fun S k (h:Bm s1 d1=some (S,k))=>Dd h);have Hg2:=Aa (fun S k (h:Bm s2 d2=some (S,k))=>Dd h);generalize Bm s1 d1=o1 at *;generalize Bm s2 d2=o2 at *;have hmm:=@run_makeMap prog;go_enter func114,ntmps114;go_wp2_with fail;refine(Hk1.o _).mono ?_;rintro e w1 hp1;obtain⟨q1,a1,b1,c1,rfl,hb1,hs1⟩:=hp1.form;have HT9:=@Aa (w1.there w 0 3) (Aj (ar (Bz w [a6,a6,a6] 60) _) aM hb1);have HT10:=@Aa (w1.there (w.heap.size+1) 0 3) (Aj (by have:=Bz (w.alloc (.cells ([a6,a6,a6]:List Value).toArray 60)) [a6,a6,a6] 60;simpa using this) aK hb1);have Hb1:=@Aa (Below w w w1) ((((Ao _ _).alloc (An _) _).alloc aK _).trans (hb1.mono aM));have hz1:w.heap.size+1<w1.heap.size:=eG;have Hs1:=Aa hs1;clear hp1 hb1 hs1;go_wp2_with fail;refine(Hk2.o _).mono ?_;rintro e w3 hp2;obtain⟨q2,a2,b2,c2,rfl,hb3,hs2⟩:=hp2.form;have HB3:=@Aa (Below w1 w1 w3) (((Ao _ _).alloc (An _) _).trans (hb3.mono aK));have X13:=@Aa (w3.rangeAt w1 0 [.string a1,.string b1,.string c1]) (Ah (Bo w1 [.string a1,.string b1,.string c1] 60) aK hb3);have hz3:w1.heap.size<w3.heap.size:=by have:=hb3.size;simp at this;omega
 have Hs2:=Aa hs2;have Hb3:=Aa (Hb1.o.trans (HB3.o.mono aH));have HT9':=Aa (Aj HT9.o (show w.heap.size<w1.heap.size by omega) HB3.o);have HT10':=Aa (Aj HT10.o hz1 HB3.o);clear hp2 hb3 hs2 HT9 HT10;have HT9:=@Aa ((w3.alloc (.cells #[.string a2,.string b2,.string c2] 60)).there w 0 3) (ar HT9'.out _);have HT10:=@Aa ((w3.alloc (.cells #[.string a2,.string b2,.string c2] 60)).there (w.heap.size+1) 0 3) (ar HT10'.out _);have Hb4:=@Aa (Below w w (w3.alloc (.cells #[.string a2,.string b2,.string c2] 60))) (Hb3.o.alloc aH _);cases o1 with
 |none=>
  cases o2 with
  |none=>
   have Hev:Hid (Ge none none=false):=rfl;dsimp only[Option.isSome];go_wp2_with (first|((with_reducible refine Af (op:=⟨none,.store 60 _ _,_,_,_,none⟩) rfl 60 _ _ rfl w 0 [a6,a6,a6] ?_ ?_ ?_ ?_ ?_ ?_);rfl;rfl;(exact HT9.o);kernel_rfl;(simp[Value.oneCell']);intro w9 HS9;have HT10b:=@Aa (w9.there (w.heap.size+1) 0 3) eQ)|((with_reducible refine Af (op:=⟨none,.store 60 _ _,_,_,_,none⟩) rfl 60 _ _ rfl (w.heap.size+1) 0 [a6,a6,a6] ?_ ?_ ?_ ?_ ?_ ?_);rfl;rfl;(exact HT10b.o);kernel_rfl;(simp[Value.oneCell']);intro w10 HS10))
   have HZ1:=@Aa (w10.rangeAt w 0 [a6,a6,a6]) bI;have HZ2:=@Aa (w10.rangeAt (w.heap.size+1) 0 [a6,a6,a6]) ez;have Hb9:=@Aa (Below w w w10) cu;refine aF (v:=.tuple #[.pointer none,.agg ([a6,a6,a6]:List Value).toArray,.agg ([a6,a6,a6]:List Value).toArray,.bool false]) ?_ rfl ?_
   ·exact iP
   exact lU
  |some y=>
   have Hev:Hid (Ge none (some y)=false):=rfl;dsimp only[Option.isSome];go_wp2_with (first|((with_reducible refine Af (op:=⟨none,.store 60 _ _,_,_,_,none⟩) rfl 60 _ _ rfl w 0 [a6,a6,a6] ?_ ?_ ?_ ?_ ?_ ?_);rfl;rfl;(exact HT9.o);kernel_rfl;(simp[Value.oneCell']);intro w9 HS9;have HT10b:=@Aa (w9.there (w.heap.size+1) 0 3) eQ)|((with_reducible refine Af (op:=⟨none,.store 60 _ _,_,_,_,none⟩) rfl 60 _ _ rfl (w.heap.size+1) 0 [a6,a6,a6] ?_ ?_ ?_ ?_ ?_ ?_);rfl;rfl;(exact HT10b.o);kernel_rfl;(simp[Value.oneCell']);intro w10 HS10))
   have HZ1:=@Aa (w10.rangeAt w 0 [a6,a6,a6]) bI;have HZ2:=@Aa (w10.rangeAt (w.heap.size+1) 0 [a6,a6,a6]) ez;have Hb9:=@Aa (Below w w w10) cu;refine aF (v:=.tuple #[.pointer none,.agg ([a6,a6,a6]:List Value).toArray,.agg ([a6,a6,a6]:List Value).toArray,.bool false]) ?_ rfl ?_
   ·exact iP
   exact lU
 |some x=>
  obtain⟨S,k⟩:=x;cases o2 with
  |none=>
   have Hev:Hid (Ge (some (S,k)) none=false):=rfl;dsimp only[Option.isSome];go_wp2_with (first|((with_reducible refine Af (op:=⟨none,.store 60 _ _,_,_,_,none⟩) rfl 60 _ _ rfl w 0 [a6,a6,a6] ?_ ?_ ?_ ?_ ?_ ?_);rfl;rfl;(exact HT9.o);kernel_rfl;(simp[Value.oneCell']);intro w9 HS9;have HT10b:=@Aa (w9.there (w.heap.size+1) 0 3) eQ)|((with_reducible refine Af (op:=⟨none,.store 60 _ _,_,_,_,none⟩) rfl 60 _ _ rfl (w.heap.size+1) 0 [a6,a6,a6] ?_ ?_ ?_ ?_ ?_ ?_);rfl;rfl;(exact HT10b.o);kernel_rfl;(simp[Value.oneCell']);intro w10 HS10))
   have HZ1:=@Aa (w10.rangeAt w 0 [a6,a6,a6]) bI;have HZ2:=@Aa (w10.rangeAt (w.heap.size+1) 0 [a6,a6,a6]) ez;have Hb9:=@Aa (Below w w w10) cu;refine aF (v:=.tuple #[.pointer none,.agg ([a6,a6,a6]:List Value).toArray,.agg ([a6,a6,a6]:List Value).toArray,.bool false]) ?_ rfl ?_
   ·exact iP
   exact lU
  |some y=>
   obtain⟨T,l⟩:=y;dsimp only[Option.isSome];obtain⟨xs,hxs,e1,e2,e3,hi1⟩:=Hs1.o _ _ rfl;obtain⟨ys,hys,e4,e5,e6,hi2⟩:=Hs2.o _ _ rfl;have hl1:Qa (w.heap.size+2) w1 (.pointer q1) xs:=hi1.mono aK;have hl3:Qa (w.heap.size+2) w3 (.pointer q1) xs:=hl1.below HB3.o;have hl3':Qa (w.heap.size+2) w3 (.pointer q2) ys:=hi2.mono aM;have Hi1':=Aa hl3;have Hi2':=Aa hl3';have E1:=Aa e1;have E2:=Aa e2;have E3:=Aa e3;have E4:=Aa e4;have E5:=Aa e5;have E6:=Aa e6;obtain⟨hS,_,_,hk1,_,hr1⟩:=Hg1.o _ _ rfl;obtain⟨hT,_,_,hk2,_,hr2⟩:=Hg2.o _ _ rfl;subst hxs hys;clear e1 e2 e3 e4 e5 e6;go_wp2_with fail;obtain⟨w4,hw4⟩:∃w4,w4=w3.alloc (.cells #[.string a2,.string b2,.string c2] 60):=⟨_,rfl⟩
   rw[<-hw4]at HT9 HT10 Hb4 ⊢;have hz4:w4.heap.size=w3.heap.size+1:=by rw[hw4];simp
   have hb34:Below w3 w3 w4:=by rw[hw4];exact(Ao _ _).alloc (An _) _
   have Hi1:=Aa (Hi1'.out.below hb34);have Hi2:=Aa (Hi2'.out.below hb34);have X13':=Aa (Ah X13.o hz3 hb34);have X16:=@Aa (w4.rangeAt w3 0 [.string a2,.string b2,.string c2]) (by rw[hw4];exact Bo w3 [.string a2,.string b2,.string c2] 60);have Hcall:=Aa (fun(w0' W:World) (hN:w0'.heap.size=w4.heap.size) (h1:Qa (w.heap.size+2) w0' (.pointer q1) xs) (h2:Qa (w.heap.size+2) w0' (.pointer q2) ys) (h:Fc w0' (.pointer q1) (.pointer q2) W [])=>show Calls prog 168 #[.pointer (some ⟨w4.heap.size+1,0,none⟩),D9 k,D9 l] W (Tw w0' (.pointer q1) (.pointer q2) (J2 (Ag xs) (Ag ys) 65 k l []) W)from hN ▸ Qkd w0' _ _ xs ys h1.isc h2.isc hS hT 65 k l [] W hk1 hk2 hr1 hr2 (Kt.nil _ _) aK h);unfold D9 at Hcall;rw[<-E1.o,<-E2.o,<-E3.o,<-E4.o,<-E5.o,<-E6.o]at Hcall;have Hev:Hid (Ge (some (Ag xs,k)) (some (Ag ys,l))=(J2 (Ag xs) (Ag ys) 65 k l []).1):=rfl;generalize J2 (Ag xs) (Ag ys) 65 k l []=r at *;obtain⟨r1,r2⟩:=r;clear hw4 hb34 hi1 hi2 hl1 hl3 hl3' hS hT hk1 hk2 hr1 hr2;have hmb:(w4.alloc (.map #[] 0)).heap.size=w4.heap.size+1:=aK;obtain⟨w6,hw6⟩:∃w6,w6=(w4.alloc (.map #[] 0)).alloc (.cells #[.pointer q1,.pointer q2,.map (some (w3.heap.size+1))] 165):=⟨_,rfl⟩
   rw[<-hw6];have hz6:w6.heap.size=w4.heap.size+2:=by rw[hw6];simp
   have hb46:Below w4 w4 w6:=by rw[hw6];exact((Ao _ _).alloc (An _) _).alloc aK _
   have Hst6:=Aa (show Fc w4 (.pointer q1) (.pointer q2) w6 []from by
    refine⟨hb46,by omega,by rw[hw6,<-hmb];simp,by rw[hw6,<-hmb];simp,by rw[hw6,<-hmb];simp;omega,?_⟩;rw[hw6];exact((Dp.made w4 prog 271 (.bool false)).alloc _).of_eq (fun l hl=>by simp[Qv]))
   have HE:=@Aa (Ru w (.pointer q1) (.pointer q2) xs ys w4.heap.size w1.heap.size w3.heap.size [.string a1,.string b1,.string c1] [.string a2,.string b2,.string c2] w4 w6 []) ⟨rfl,Hi1.o,Hi2.o,Hb4.o,HT9.o,HT10.o,X13'.out,X16.o,by omega,by omega,by omega,Hst6.o⟩;have g13:w.heap.size+2<=w1.heap.size:=aH;have g16:w.heap.size+2<=w3.heap.size:=aH;have hz43:w3.heap.size+1+1=w4.heap.size+1:=aH;rw[hz43];generalize w1.heap.size=B13 at *;generalize w3.heap.size=B16 at *;clear hw6 hb46 hmb;refine Jd [46,47,48,49,50,51,52,8,999,998,11]
    (fun i v W=>match i with|0=>v=.pointer (some ⟨w4.heap.size+1,0,none⟩)|1=>v=.agg ([.string a1,.string b1,.string c1]:List Value).toArray|2=>v=.agg ([.string a2,.string b2,.string c2]:List Value).toArray|3=>v=.pointer (some ⟨w4.heap.size+1,0,none⟩)|4=>v=.agg ([.string a1,.string b1,.string c1]:List Value).toArray|5=>v=.agg ([.string a2,.string b2,.string c2]:List Value).toArray|6=>v=.bool r1|7=>v=.pointer (some ⟨w4.heap.size+1,0,none⟩)|10=>v=.bool r1|_=>True)
    (fun L U W=>∃w0' mm,Ru w (.pointer q1) (.pointer q2) xs ys w4.heap.size B13 B16 [.string a1,.string b1,.string c1] [.string a2,.string b2,.string c2] w0' W mm/\(L 6=false->mm=[])/\(L 8=true->w0'.rangeAt w 0 [.string a1,.string b1,.string c1])/\(L 9=true->w0'.rangeAt (w.heap.size+1) 0 [.string a2,.string b2,.string c2])) (⟨w4,[],HE.o.drew,fun _=>rfl,fun h=>Bool.noConfusion h,fun h=>Bool.noConfusion h⟩) ?_ ?_
   ·repeat (first|exact Ak.nil|(refine Ak.cons ?_ ?_;rotate_left))
    all_goals
     rintro L U W hL hpre HR Hdep K hK;obtain⟨w0',mm,hE,hm0,R8,R9⟩:=HR.o;have x13:=hE.x13;have x16:=hE.x16;have a0:W.cell? (B13,0)=some (.string a1):=by simpa using Ab x13 0 rfl
     have a1':W.cell? (B13,1)=some (.string b1):=by simpa using Ab x13 1 rfl
     have a2':W.cell? (B13,2)=some (.string c1):=by simpa using Ab x13 2 rfl
     have b0:W.cell? (B16,0)=some (.string a2):=by simpa using Ab x16 0 rfl
     have b1':W.cell? (B16,1)=some (.string b2):=by simpa using Ab x16 1 rfl
     have b2':W.cell? (B16,2)=some (.string c2):=by simpa using Ab x16 2 rfl
     clear x13 x16;first|(simp[Region.binds]at hpre;done)|simp[Region.binds]at hpre|clear hpre
    iterate 6
     ·exact hD
    ·obtain rfl:=hm0 hL;go_simp;refine(Hcall.o w0' W hE.sz hE.i1 hE.i2 hE.st).mono ?_;rintro e w5 ⟨rfl,ha5,hk5⟩;exact hK _ _ _ rfl Ac ⟨w0',_,{hE with st:=ha5},fun h=>by simp at h,R8,R9⟩ aI
    ·exact hD
    ·rw[if_pos cr];refine wp_store_mid 60 _ _ rfl w 0 ([.string a1,.string b1,.string c1]:List Value).toArray rfl eV hE.t9 aN bh ?_;exact hK undef _ _ Ac Ac ⟨_,mm,hE.store (b:=w.heap.size) [.string a1,.string b1,.string c1] aH aH aH aH,hm0,fun _=>aa _ _ _ _ hE.t9',fun h=>ak (R9 h) _ _ _ (.inl (show w.heap.size+1≠w.heap.size by omega))⟩ rfl
    ·rw[if_pos cr];refine wp_store_mid 60 _ _ rfl (w.heap.size+1) 0 ([.string a2,.string b2,.string c2]:List Value).toArray rfl eV hE.t10 aN bh ?_;exact hK undef _ _ Ac Ac ⟨_,mm,hE.store (b:=(w.heap.size+1)) [.string a2,.string b2,.string c2] aH aH aH aH,hm0,fun h=>ak (R8 h) _ _ _ (.inl (show w.heap.size≠w.heap.size+1 by omega)),fun _=>aa _ _ _ _ hE.t10'⟩ rfl
    ·exact hD
   rintro L U W hL hφ hR;have e7:U 7=.pointer (some ⟨w4.heap.size+1,0,none⟩):=hφ 7 aJ;have e10:U 10=.bool r1:=hφ 10 aJ;simp only[e7,e10];clear hφ;obtain⟨w0',mm,hE,_,h8,h9⟩:=hR;have Z1:=Aa (Ah (h8 (hL 8 aJ)) (show w.heap.size<w0'.heap.size by have:=hE.sz;have:=hE.lw;omega) hE.st.1);have Z2:=Aa (Ah (h9 (hL 9 aJ)) (show w.heap.size+1<w0'.heap.size by have:=hE.sz;have:=hE.lw;omega) hE.st.1);have HEv:=Aa hE;clear hL hE h8 h9;go_wp2_with fail;refine aF (v:=.tuple #[.pointer (some ⟨w4.heap.size+1,0,none⟩),.agg ([.string a1,.string b1,.string c1]:List Value).toArray,.agg ([.string a2,.string b2,.string c2]:List Value).toArray,.bool r1]) ?_ rfl ?_
   ·exact Mc results114 _ _ w.heap.size (w.heap.size+1) [.string a1,.string b1,.string c1] [.string a2,.string b2,.string c2] _ _ _ rfl rfl rfl rfl Z1.o Z2.o underlying60 rfl aN aN
   have hE:=HEv.o;have hs:=hE.sz;obtain⟨s1,s2,s3,s4,s5,s6⟩:=hE.st;rw[hs]at s2 s3 s4;exact⟨_,_,_,_,_,_,_,by rw[Hev.o],hE.be.trans (s1.mono hE.be.size),fun _=>⟨_,_,k,l,xs,ys,w4.heap.size+1,q1,q2,rfl,rfl,rfl,rfl,rfl,E1.o,E2.o,E3.o,E4.o,E5.o,E6.o,by have:=hE.lw;omega,by omega,s3,s4,(hE.i1.below s1).mono aH,(hE.i2.below s1).mono aH⟩⟩
theorem Qfr.kinds{o1 o2:Option (List Ty × Kd)}{w w':World}{e:Ending}(h:Qfr o1 o2 w e w'):∃(q:Option Addr) (a1 b1 c1 a2 b2 c2:ByteArray),e=.returned (.tuple #[.pointer q,.agg #[.string a1,.string b1,.string c1],.agg #[.string a2,.string b2,.string c2],.bool (Ge o1 o2)])/\Below w w w':=by
 obtain⟨q,a1,b1,c1,a2,b2,c2,h1,h2,_⟩:=h;exact⟨q,a1,b1,c1,a2,b2,c2,h1,h2⟩
end
def Mu(r:Vl × Bool)(w:World)(e:Ending)(w':World):Prop:=∃sl,e=.returned (.tuple #[Ec r.1 sl,.bool r.2])/\Ea (fun c=>w.heap.size<=c) w' sl r.1.kids/\Below w w w'
def Qbq(r:Vl × Bool)(lost:Bool)(B11:Nat)(w:World)(e:Ending)(w':World):Prop:=∃sl,e=.returned (Ec r.1 sl)/\Ea (fun c=>w.heap.size<=c) w' sl r.1.kids/\w.grownBy w' (some B11)/\w'.cell? (B11,0)=some (.bool (lost || r.2))/\w'.frozen? (B11,0)=false
theorem J8{w w1 w2:World}{row:Option Nat}(h:w.grownBy w1 row)(k:w1.grownBy w2 row):w.grownBy w2 row:=
 ⟨k.os.trans h.os,k.tape.trans h.tape,k.output.trans h.output,ad h.size k.size,fun b hb hne=>(k.block b (ac hb h.size) hne).trans (h.block b hb hne)⟩
theorem Vj{w w':World}{b o:Nat}{vs:List Value}(h:w.grownBy w' (some o))(hb:w.heap.size<=b)(off:Nat):w.grownBy (w'.setCells b off vs) (some o):=by
 have hg:=Br b vs off w';exact⟨hg.os.trans h.os,hg.tape.trans h.tape,hg.output.trans h.output,ad h.size hg.size,fun k hk hne=>(hg.block k (ac hk h.size) bW).trans (h.block k hk hne)⟩
theorem Qfh(w:World)(eb B4 B11:Nat)(hl4:B4<w.heap.size)(hl11:B11<w.heap.size)(c4:w.cell? (B4,0)=eb)(lost:Bool)(c11:w.cell? (B11,0)=some (.bool lost))(f11:w.frozen? (B11,0)=false)(a b:Kd)(x:Vl)(A:Option Addr)(n c:Nat)(r:Vl × Bool)
  (HL:∀W,Below w w W->Calls prog 115 #[eb,D9 a,D9 b,Ec x (.slice A n c)] W (Mu r W)):
  Calls prog 169 #[D9 a,D9 b,Ec x (.slice A n c),B4,B11] w (Qbq r lost B11 w):=by
 obtain⟨W4,hW4⟩:∃W4,W4=(((w.alloc (.cells #[a.signs,a.base,a.name] 60)).alloc (.cells #[b.signs,b.base,b.name] 60)).alloc (.cells #[.int .u8 (x.what.toNat:Int),x.text,(x.tag:Int),.slice A n c] 68)).alloc (.cells #[.int .u8 0,a6,.int .i64 0,.slice none 0 0] 68):=⟨_,rfl⟩
 have hb4:Below w w W4:=by rw[hW4];exact((((Ao _ _).alloc (An _) _).alloc aK _).alloc aM _).alloc aM _
 have HL4:=Aa (HL W4 hb4);have hz4:W4.heap.size=w.heap.size+4:=by rw[hW4];simp
 have T8:=Aa (show W4.there (w.heap.size+3) 0 4 from by
  have h:=Bz (((w.alloc (.cells #[a.signs,a.base,a.name] 60)).alloc (.cells #[b.signs,b.base,b.name] 60)).alloc (.cells #[.int .u8 (x.what.toNat:Int),x.text,(x.tag:Int),.slice A n c] 68)) [.int .u8 0,a6,.int .i64 0,.slice none 0 0] 68;rw[show ((((w.alloc (.cells #[a.signs,a.base,a.name] 60)).alloc (.cells #[b.signs,b.base,b.name] 60)).alloc (.cells #[.int .u8 (x.what.toNat:Int),x.text,(x.tag:Int),.slice A n c] 68))).heap.size=w.heap.size+3 from by simp]at h;rw[hW4];exact h)
 have Hb4:=Aa hb4;have C4:=Aa ((hb4.cell (p:=⟨B4,0,none⟩) hl4).trans c4);have C11:=Aa ((hb4.cell (p:=⟨B11,0,none⟩) hl11).trans c11);have F11:=Aa ((hb4.frozen (p:=⟨B11,0,none⟩) hl11).trans f11);have c4':=C4.o;rw[hW4]at c4';unfold D9 Ec at HL4 ⊢;clear HL hb4 c4 c11 f11;go_enter func169,ntmps169;go_wp2_with fail;rw[<-hW4];clear hW4 c4';refine HL4.o.mono ?_;rintro e w5 ⟨sl,rfl,hs5,hb5⟩;obtain⟨A5,c5,rfl⟩:=hs5.form;have Hs5:=Aa hs5;have Hb5:=Aa (Hb4.o.trans (hb5.mono Hb4.o.size));have T85:=Aa (Aj T8.o aH hb5);have c115:w5.cell? (B11,0)=some (.bool lost):=(hb5.cell (p:=⟨B11,0,none⟩) (show B11<W4.heap.size by omega)).trans C11.o;have f115:w5.frozen? (B11,0)=false:=(hb5.frozen (p:=⟨B11,0,none⟩) (show B11<W4.heap.size by omega)).trans F11.o;have hz5:w.heap.size+4<=w5.heap.size:=by have:=hb5.size;omega
 have hn1:¬(B11=w5.heap.size):=aH;have hn2:B11<w5.heap.size:=aH;have hn3:¬(w5.heap.size=B11):=aH;unfold Ec;have Hr:=@Aa (r.1=.mk r.1.what r.1.text r.1.tag r.1.kids) (by cases r.1;rfl);clear hb5 hs5;cases lost with
 |true=>
  have T86:=@Aa (((w5.setCell ⟨B11,0,none⟩ (.bool true)).alloc (.cells #[.int .u8 (r.1.what.toNat:Int),r.1.text,(r.1.tag:Int),.slice A5 r.1.kids.length c5] 68)).there (w.heap.size+3) 0 4) (ar (ai T85.o B11 0 [.bool true]) _);go_wp2_with ((with_reducible refine Af (op:=⟨none,.store 68 _ _,_,_,_,none⟩) rfl 68 _ _ rfl (w.heap.size+3) 0 [.int .u8 (r.1.what.toNat:Int),r.1.text,(r.1.tag:Int),.slice A5 r.1.kids.length c5] ?_ ?_ ?_ ?_ ?_ ?_);(first|rfl|(simp;done));rfl;(exact T86.o);kernel_rfl;(simp[Value.oneCell']);intro w9 HS9)
  refine aF (v:=.agg ([.int .u8 (r.1.what.toNat:Int),r.1.text,(r.1.tag:Int),.slice A5 r.1.kids.length c5]:List Value).toArray) ?_ rfl ?_
  ·exact jl
  have hg5:w.grownBy w5 (some B11):=Ci Hb5.o _;have hg6:=J8 hg5 (Am w5 B11 0 (.bool true));have hal:=(Ao (w5.setCell ⟨B11,0,none⟩ (.bool true)).heap.size (w5.setCell ⟨B11,0,none⟩ (.bool true))).alloc (An _) (.cells #[.int .u8 (r.1.what.toNat:Int),r.1.text,(r.1.tag:Int),.slice A5 r.1.kids.length c5] 68);have hg7:=J8 hg6 (Ci hal (some B11));have hg9:w.grownBy w9 (some B11):=by rw[HS9.o];exact Vj hg7 aH 0
  refine⟨.slice A5 r.1.kids.length c5,rfl,?_,hg9,?_,?_⟩
  ·have h1:Ea (fun c=>w.heap.size+4<=c) w5 (.slice A5 r.1.kids.length c5) r.1.kids:=Hs5.o.mono fun c hc _=>aH;have h2:=(h1.grown (Am w5 B11 0 (.bool true)) (fun c hc e=>by injection e with e;omega)).after hal;exact lV
  ·exact j4
  rw[HS9.o,(Br (w.heap.size+3) [.int .u8 (r.1.what.toNat:Int),r.1.text,(r.1.tag:Int),.slice A5 r.1.kids.length c5] 0 _).frozen_far ⟨B11,0,none⟩ aM aM];simp[go_sem,f115,hn1,hn2]
 |false=>
  have T86:=@Aa (((w5.setCell ⟨B11,0,none⟩ (.bool r.2)).alloc (.cells #[.int .u8 (r.1.what.toNat:Int),r.1.text,(r.1.tag:Int),.slice A5 r.1.kids.length c5] 68)).there (w.heap.size+3) 0 4) (ar (ai T85.o B11 0 [.bool r.2]) _);go_wp2_with ((with_reducible refine Af (op:=⟨none,.store 68 _ _,_,_,_,none⟩) rfl 68 _ _ rfl (w.heap.size+3) 0 [.int .u8 (r.1.what.toNat:Int),r.1.text,(r.1.tag:Int),.slice A5 r.1.kids.length c5] ?_ ?_ ?_ ?_ ?_ ?_);(first|rfl|(simp;done));rfl;(exact T86.o);kernel_rfl;(simp[Value.oneCell']);intro w9 HS9)
  refine aF (v:=.agg ([.int .u8 (r.1.what.toNat:Int),r.1.text,(r.1.tag:Int),.slice A5 r.1.kids.length c5]:List Value).toArray) ?_ rfl ?_
  ·exact jl
  have hg5:w.grownBy w5 (some B11):=Ci Hb5.o _;have hg6:=J8 hg5 (Am w5 B11 0 (.bool r.2));have hal:=(Ao (w5.setCell ⟨B11,0,none⟩ (.bool r.2)).heap.size (w5.setCell ⟨B11,0,none⟩ (.bool r.2))).alloc (An _) (.cells #[.int .u8 (r.1.what.toNat:Int),r.1.text,(r.1.tag:Int),.slice A5 r.1.kids.length c5] 68);have hg7:=J8 hg6 (Ci hal (some B11));have hg9:w.grownBy w9 (some B11):=by rw[HS9.o];exact Vj hg7 aH 0
  refine⟨.slice A5 r.1.kids.length c5,rfl,?_,hg9,?_,?_⟩
  ·have h1:Ea (fun c=>w.heap.size+4<=c) w5 (.slice A5 r.1.kids.length c5) r.1.kids:=Hs5.o.mono fun c hc _=>aH;have h2:=(h1.grown (Am w5 B11 0 (.bool r.2)) (fun c hc e=>by injection e with e;omega)).after hal;exact lV
  ·exact j4
  rw[HS9.o,(Br (w.heap.size+3) [.int .u8 (r.1.what.toNat:Int),r.1.text,(r.1.tag:Int),.slice A5 r.1.kids.length c5] 0 _).frozen_far ⟨B11,0,none⟩ aM aM];simp[go_sem,f115,hn1,hn2]
structure LiS(w W7 wr:World)(h0 h1 h2:Value)(l:Bool)(kv:Value)(xs:List (Vl × Value)):Prop where
 bel:Below w w wr
 keep:Below (w.heap.size+5) W7 wr
 st:Tq (w.heap.size+7) (w.heap.size+5) wr h0 h1 h2 kv kv xs
 c6:wr.cell? (w,6,0)=some (.bool l)
 f6:wr.frozen? (w,6,0)=false
section
variable {w W7 wr W W' W1:World} {h0 h1 h2 kv u8 u9 u10:Value} {l l' l8 l9 l10 l12:Bool} {xs:List (Vl × Value)} {r:Vl × Bool} {A:Option Addr} {c:Nat}
theorem LiS.after(h:LiS w W7 wr h0 h1 h2 l kv xs)(hb:Below wr wr W):LiS w W7 W h0 h1 h2 l kv xs:=by
 have hlt:w.heap.size+6<wr.heap.size:=h.st.bs;exact⟨h.bel.trans (hb.mono h.bel.size),h.keep.trans (hb.mono aH),h.st.after hb,(hb.cell (p:=⟨w.heap.size+6,0,none⟩) hlt).trans h.c6,(hb.frozen (p:=⟨w.heap.size+6,0,none⟩) hlt).trans h.f6⟩
theorem LiS.one(h:LiS w W7 wr h0 h1 h2 l kv xs)(hg:wr.grownBy W (some (w.heap.size+6)))(hc:W.cell? (w,6,0)=some (.bool l'))(hf:W.frozen? (w,6,0)=false):LiS w W7 W h0 h1 h2 l' kv xs:=
 ⟨h.bel.grown hg h.bel.size (fun k e=>by injection e with e;omega),h.keep.grown hg (by have:=h.st.bs;omega) (fun k e=>by injection e with e;omega),h.st.step hg aH aH,hc,hf⟩
structure M8(w W7 W1:World)(h0 h1 h2:Value)(l:Bool)(A:Option Addr)(c:Nat)(xs:List (Vl × Value))(r:Vl × Bool)(l8 l9 l10 l12:Bool)(u8 u9 u10:Value)(W:World):Prop where
 s0:l8=false->Below W1 W1 W
 s1:l8=true->l9=false->∃sl,u8=Ec r.1 sl/\Ea (fun c=>W1.heap.size<=c) W sl r.1.kids/\LiS w W7 W h0 h1 h2 (l || r.2) (.slice A xs.length c) xs
 s2:l9=true->l10=false->∃W8 sl,W=W8.alloc (.cells (Ka (r.1,sl)).toArray 68)/\u9=.slice (some ⟨W8.heap.size,0,none⟩) 1 1/\Ea (fun c=>W1.heap.size<=c) W8 sl r.1.kids/\LiS w W7 W8 h0 h1 h2 (l || r.2) (.slice A xs.length c) xs
 s3:l10=true->l12=false->∃sl A6 c6,u10=.slice A6 (xs.length+1) c6/\Tq (w.heap.size+7) (w.heap.size+5) W h0 h1 h2 (.slice A xs.length c) u10 (xs++[(r.1,sl)])/\Below w w W/\Below (w.heap.size+5) W7 W/\W.cell? (w,6,0)=some (.bool (l || r.2))/\W.frozen? (w,6,0)=false
 s4:l12=true->∃sl A6 c6,LiS w W7 W h0 h1 h2 (l || r.2) (.slice A6 (xs.length+1) c6) (xs++[(r.1,sl)])
theorem M8.start:M8 w W7 W1 h0 h1 h2 l A c xs r false false false false u8 u9 u10 W1:=
 ⟨fun _=>Ao _ _,fun h=>Bool.noConfusion h,fun h=>Bool.noConfusion h,fun h=>Bool.noConfusion h,fun h=>Bool.noConfusion h⟩
theorem M8.c3(h:M8 w W7 W1 h0 h1 h2 l A c xs r l8 l9 l10 l12 u8 u9 u10 W)(hl:LiS w W7 W1 h0 h1 h2 l (.slice A xs.length c) xs)(h10:l10=false):W.cell? (w,5,3)=some (.slice A xs.length c):=by
 cases e8:l8 with
 |false=>exact(hl.after (h.s0 e8)).st.c3
 |true=>
  cases e9:l9 with
  |false=>obtain⟨_,_,_,hL⟩:=h.s1 e8 e9;exact hL.st.c3
  |true=>obtain⟨W8,sl,rfl,_,_,hL⟩:=h.s2 e9 h10;exact(hL.after ((Ao _ _).alloc (An _) _)).st.c3
theorem M8.pre(h:M8 w W7 W1 h0 h1 h2 l A c xs r l8 l9 l10 l12 u8 u9 u10 W)(h8:l8=false)(h9:l9=false)(h10:l10=false)(h12:l12=false)(hb:Below W W W'):M8 w W7 W1 h0 h1 h2 l A c xs r l8 l9 l10 l12 u8 u9 u10 W':=by
 subst h8 h9 h10 h12;exact⟨fun _=>(h.s0 rfl).trans (hb.mono (h.s0 rfl).size),fun h=>Bool.noConfusion h,fun h=>Bool.noConfusion h,fun h=>Bool.noConfusion h,fun h=>Bool.noConfusion h⟩
theorem M8.put8{sl:Value}(hs0:Below W1 W1 W)(hl:LiS w W7 W1 h0 h1 h2 l (.slice A xs.length c) xs)(h9:l9=false)(h10:l10=false)(h12:l12=false)(hs:Ea (fun c=>W.heap.size<=c) W' sl r.1.kids)(hg:W.grownBy W' (some (w.heap.size+6)))(hc:W'.cell? (w,6,0)=some (.bool (l || r.2)))(hf:W'.frozen? (w,6,0)=false):
  M8 w W7 W1 h0 h1 h2 l A c xs r true l9 l10 l12 (Ec r.1 sl) u9 u10 W':=by
 subst h9 h10 h12;exact⟨fun h=>Bool.noConfusion h,fun _ _=>⟨sl,rfl,hs.mono fun c hc _=>ad hs0.size hc,(hl.after hs0).one hg hc hf⟩,fun h=>Bool.noConfusion h,fun h=>Bool.noConfusion h,fun h=>Bool.noConfusion h⟩
theorem M8.put9(h:M8 w W7 W1 h0 h1 h2 l A c xs r l8 l9 l10 l12 u8 u9 u10 W)(h8:l8=true)(h9:l9=false)(h10:l10=false)(h12:l12=false):∃sl,u8=Ec r.1 sl/\(∃A n c,sl=.slice A n c) /\
  M8 w W7 W1 h0 h1 h2 l A c xs r l8 true l10 l12 u8 (.slice (W,0) 1 1) u10 (W.alloc (.cells (Ka (r.1,sl)).toArray 68)):=by
 obtain⟨sl,e,hs,hL⟩:=h.s1 h8 h9;subst h10 h12;exact⟨sl,e,by obtain⟨A,c,e⟩:=hs.form;exact⟨A,_,c,e⟩,fun h=>absurd (h8.symm.trans h) aJ,fun _ h=>Bool.noConfusion h,fun _ _=>⟨W,sl,rfl,rfl,hs,hL⟩,fun h=>Bool.noConfusion h,fun h=>Bool.noConfusion h⟩
theorem M8.put10{W8:World}{sl v:Value}(hL:LiS w W7 W8 h0 h1 h2 (l || r.2) (.slice A xs.length c) xs)(hl:LiS w W7 W1 h0 h1 h2 l (.slice A xs.length c) xs)(hs:Ea (fun c=>W1.heap.size<=c) W8 sl r.1.kids)(h8:l8=true)(h9:l9=true)(h12:l12=false)
  (hown:W.ownsRow (w.heap.size+7) 68 4 v (xs.length+1) (xs.flatMap Ka++Ka (r.1,sl))) (hg:W8.grownBy W (Value.slice A xs.length c).ownBlock) (hwh:v.ownBlock=(Value.slice A xs.length c).ownBlock\/∃k,v.ownBlock=some k/\W8.heap.size<=k):
  M8 w W7 W1 h0 h1 h2 l A c xs r l8 l9 true l12 u8 u9 v W/\∃A6 c6,v=.slice A6 (xs.length+1) c6:=by
 have hk:Ea (fun c1=>w.heap.size+7<=c1/\(Value.slice A xs.length c).ownBlock≠some c1) W8 sl r.1.kids:=hs.mono fun c1 hc _=>⟨ad hl.st.bs hc,fun e=>by have:=(hl.st.row.lt c1 e).2;omega⟩
 have hK:=hL.st.app (x:=(r.1,sl)) hk hown hg hwh;have hv:∃A6 c6,v=.slice A6 (xs.length+1) c6:=by
  rcases hown.2 with⟨_,e0⟩|⟨g,cap,cur,e,_⟩
  ·omega
  exact⟨_,cap,e⟩
 obtain⟨A6,c6,e6⟩:=hv;have hlo:∀k,(Value.slice A xs.length c).ownBlock=some k->w.heap.size+7<=k:=fun k e=>(hL.st.row.lt k e).1;have hne:some (w.heap.size+6)≠(Value.slice A xs.length c).ownBlock:=fun e=>by have:=hlo _ e.symm;omega
 subst h12;exact⟨⟨fun h=>absurd (h8.symm.trans h) aJ,fun _ h=>absurd (h9.symm.trans h) aJ,fun _ h=>Bool.noConfusion h,fun _ _=>⟨sl,A6,c6,e6,hK,hL.bel.grown hg hL.bel.size (fun k e=>by have:=hlo k e;omega),hL.keep.grown hg (by have:=hL.st.bs;omega) (fun k e=>by have:=hlo k e;omega),hg.cell hL.c6 hne,(hg.frozen_far ⟨w.heap.size+6,0,none⟩ (show w.heap.size+6<W8.heap.size from hL.st.bs) hne).trans hL.f6⟩,fun h=>Bool.noConfusion h⟩,A6,c6,e6⟩
theorem M8.put12(h:M8 w W7 W1 h0 h1 h2 l A c xs r l8 l9 l10 l12 u8 u9 u10 W)(h8:l8=true)(h9:l9=true)(h10:l10=true)(h12:l12=false)(hW:W'=W.setCell ⟨w.heap.size+5,3,none⟩ u10):M8 w W7 W1 h0 h1 h2 l A c xs r l8 l9 l10 true u8 u9 u10 W':=by
 subst hW;obtain⟨sl,A6,c6,e6,hK,hb,hk,hc,hf⟩:=h.s3 h10 h12;have hg:=Am W (w.heap.size+5) 3 u10;have hS:=hK.store;rw[e6]at hS hg ⊢;have hlt:w.heap.size+6<W.heap.size:=hK.bs;exact⟨fun h=>absurd (h8.symm.trans h) aJ,fun _ h=>absurd (h9.symm.trans h) aJ,fun _ h=>absurd (h10.symm.trans h) aJ,fun _ h=>Bool.noConfusion h,fun _=>⟨sl,A6,c6,hb.setCell (p:=⟨w.heap.size+5,3,none⟩) (show w.heap.size<=w.heap.size+5 by omega) _,hk.setCell (p:=⟨w.heap.size+5,3,none⟩) (An (w.heap.size+5)) _,hS,hg.cell hc aK,(hg.frozen_far ⟨w.heap.size+6,0,none⟩ hlt aK).trans hf⟩⟩
end
section
attribute [local go_sem] Qoe Qnf Qmu Qk2 ByteArray.mk_append_mk
structure EvW(W:World)(eb:Nat)(p1 p2:Value)(xs ys:List PT):Prop where
 lt:eb<W.heap.size
 c0:W.cell? (eb,0)=some p1
 c1:W.cell? (eb,1)=some p2
 s1:Sd W p1 xs
 s2:Sd W p2 ys
theorem EvW.after{W W':World}{eb:Nat}{p1 p2:Value}{xs ys:List PT}(h:EvW W eb p1 p2 xs ys)(hb:Below W W W'):EvW W' eb p1 p2 xs ys:=
 ⟨ac h.lt hb.size,(hb.cell (p:=⟨eb,0,none⟩) h.lt).trans h.c0,(hb.cell (p:=⟨eb,1,none⟩) h.lt).trans h.c1,h.s1.below hb,h.s2.below hb⟩
structure LkT(w:World)(eb:Nat)(an bn:List UInt8)(xb yb pb1 mb1 pb2 mb2:Nat):Prop where
 le:eb<w.heap.size
 l1:pb1<w.heap.size
 l2:pb2<w.heap.size
 e0:w.cell? (eb,0)=pb1
 e1:w.cell? (eb,1)=pb2
 m1:w.cell? (pb1,1)=some (.map (some mb1))
 m2:w.cell? (pb2,1)=some (.map (some mb2))
 k1:∀W,Below w w W->(Instr.lookup 133 (.map (some mb1)) an false).run prog W=.ok xb W
 k2:∀W,Below w w W->(Instr.lookup 133 (.map (some mb2)) bn false).run prog W=.ok yb W
theorem Qmz{w:World}{eb:Nat}{p1 p2:Value}{xs ys:List PT}(h:EvW w eb p1 p2 xs ys){an bn:List UInt8}{x y:PT}(hx:D8 xs an=some x)(hy:D8 ys bn=some y)(ha:an.length<=1000)(hb:bn.length<=1000):∃pb1 mb1 pb2 mb2,p1=.pointer (some ⟨pb1,0,none⟩)/\p2=.pointer (some ⟨pb2,0,none⟩)/\LkT w eb an bn x.blk y.blk pb1 mb1 pb2 mb2:=by
 obtain⟨pb1,_,_,mb1,e1,q0,_,q2,_,q4,_,_⟩:=h.s1;obtain⟨pb2,_,_,mb2,e2,s0,_,s2,_,s4,_,_⟩:=h.s2;refine⟨pb1,mb1,pb2,mb2,e1,e2,h.lt,q0,s0,h.c0.trans (by rw[e1]),h.c1.trans (by rw[e2]),q2,s2,fun W hW=>?_,fun W hW=>?_⟩
 ·have:=E8 (Dp.below q4 hW) an aH;rw[hx]at this;exact this
 have:=E8 (Dp.below s4 hW) bn aH;rw[hy]at this;exact this
structure LiH(w W7:World)(eb:Nat)(a b:Kd)(vv:Vl)(A2:Option Addr)(n2 c2:Nat):Prop where
 sz:W7.heap.size=w.heap.size+7
 T:W7.there (w.heap.size+4) 0 4
 e0:W7.cell? (w,0)=eb
 a0:W7.cell? (w,1,0)=a.signs
 a1:W7.cell? (w,1,1)=a.base
 a2:W7.cell? (w,1,2)=a.name
 b2:W7.cell? (w,2,2)=b.name
 v0:W7.cell? (w,3,0)=some (.int .u8 (vv.what.toNat:Int))
 v1:W7.cell? (w,3,1)=vv.text
 v2:W7.cell? (w,3,2)=(vv.tag:Int)
 v3:W7.cell? (w,3,3)=some (.slice A2 n2 c2)
 st:LiS w W7 W7 (.int .u8 (vv.what.toNat:Int)) vv.text (vv.tag:Int) false (.slice none 0 0) []
theorem X7(w W7:World)(eb:Nat)(a b:Kd)(vv:Vl)(A2:Option Addr)(n2 c2:Nat)(h:W7=(((((((w.alloc (.cells #[eb] 160)).alloc (.cells #[a.signs,a.base,a.name] 60)).alloc (.cells #[.string ⟨b.signs.toArray⟩,.string ⟨b.base.toArray⟩,.string ⟨b.name.toArray⟩] 60)).alloc (.cells #[.int .u8 (vv.what.toNat:Int),vv.text,(vv.tag:Int),.slice A2 n2 c2] 68)).alloc (.cells #[.int .u8 0,a6,.int .i64 0,.slice none 0 0] 68)).alloc (.cells #[.int .u8 (vv.what.toNat:Int),vv.text,(vv.tag:Int),.slice none 0 0] 68)).alloc (.cells #[.bool false] 4))):LiH w W7 eb a b vv A2 n2 c2:=by
 obtain⟨W5,hW5⟩:∃W5,W5=((((w.alloc (.cells #[eb] 160)).alloc (.cells #[a.signs,a.base,a.name] 60)).alloc (.cells #[.string ⟨b.signs.toArray⟩,.string ⟨b.base.toArray⟩,.string ⟨b.name.toArray⟩] 60)).alloc (.cells #[.int .u8 (vv.what.toNat:Int),vv.text,(vv.tag:Int),.slice A2 n2 c2] 68)).alloc (.cells #[.int .u8 0,a6,.int .i64 0,.slice none 0 0] 68):=⟨_,rfl⟩
 obtain⟨W6,hW6⟩:∃W6,W6=W5.alloc (.cells #[.int .u8 (vv.what.toNat:Int),vv.text,(vv.tag:Int),.slice none 0 0] 68):=⟨_,rfl⟩
 have hW7:W7=W6.alloc (.cells #[.bool false] 4):=by rw[h,hW6,hW5]
 clear h;have hz5:W5.heap.size=w.heap.size+5:=da;have hz6:W6.heap.size=w.heap.size+6:=by rw[hW6];simp;omega
 have hz7:W7.heap.size=w.heap.size+7:=by rw[hW7];simp;omega
 have hb5:Below w w W5:=gY;have hb56:Below W5 W5 W6:=ev;have hb67:Below W6 W6 W7:=gz;have hc57:∀b o,b<w.heap.size+5->W7.cell? ⟨b,o,none⟩=W5.cell? ⟨b,o,none⟩:=fun b o hb=>(hb67.cell (p:=⟨b,o,none⟩) (show b<W6.heap.size by omega)).trans (hb56.cell (p:=⟨b,o,none⟩) (show b<W5.heap.size by omega));have hT:W5.there (w.heap.size+4) 0 4:=by
  have h:=Bz ((((w.alloc (.cells #[eb] 160)).alloc (.cells #[a.signs,a.base,a.name] 60)).alloc (.cells #[.string ⟨b.signs.toArray⟩,.string ⟨b.base.toArray⟩,.string ⟨b.name.toArray⟩] 60)).alloc (.cells #[.int .u8 (vv.what.toNat:Int),vv.text,(vv.tag:Int),.slice A2 n2 c2] 68)) [.int .u8 0,a6,.int .i64 0,.slice none 0 0] 68;rw[<-hW5]at h;simpa using h
 refine⟨hz7,Aj (Aj hT aH hb56) aH hb67,?_,?_,?_,?_,?_,?_,?_,?_,?_,?_⟩;iterate 9
  ·rw[hc57 _ _ aH,hW5];go_simp
 have hB:Qe W6 (w.heap.size+5):=by rw[hW6,<-hz5];exact Qe.new _ _ _
 have hc:∀o u,(#[.int .u8 (vv.what.toNat:Int),vv.text,(vv.tag:Int),.slice none 0 0]:Array Value)[o]?=some u->W7.cell? ⟨w.heap.size+5,o,none⟩=some u:=fun o u hu=>by
  exact lW
 refine⟨(hb5.trans (hb56.mono aH)).trans (hb67.mono aH),Ao _ _,⟨by omega,by omega,by omega,hB.belowAt aH hb67,hc 0 _ rfl,hc 1 _ rfl,hc 2 _ rfl,hc 3 _ rfl,World.ownsRow_nil _ _ _ _,by simp⟩,?_,?_⟩
 ·rw[hW7,<-hz6];simp[World.cell?_alloc_new]
 rw[hW7,<-hz6];simp[go_sem]
theorem Qgo(P:Nat->Prop)(w:World)(A:Option Addr)(c:Nat):Ea P w (.slice A 0 c) []:=
 .mk A c [] rfl rfl aK ⟨rfl,ag _,fun h=>absurd h aK⟩ (fun _ _ h=>absurd h aK) aK
theorem Yl(w:World)(eb:Nat)(a b:Kd)(hs:a.signs=[])(hb:a.base≠[64])(vv:Vl)(hk:vv.kids=[])(A2:Option Addr)(c2:Nat):
  Calls prog 115 #[eb,D9 a,D9 b,Ec vv (.slice A2 0 c2)] w (Mu (vv,false) w):=by
 obtain⟨n2,hn2⟩:∃n2,n2=0:=⟨_,rfl⟩
 have Hs:=Aa hs;have Hb:=Aa hb;have Hk:=Aa hk;clear hs hb hk;obtain⟨W7,hW7⟩:∃W7,W7=(((((((w.alloc (.cells #[eb] 160)).alloc (.cells #[a.signs,a.base,a.name] 60)).alloc (.cells #[b.signs,b.base,b.name] 60)).alloc (.cells #[.int .u8 (vv.what.toNat:Int),vv.text,(vv.tag:Int),.slice A2 n2 c2] 68)).alloc (.cells #[.int .u8 0,a6,.int .i64 0,.slice none 0 0] 68)).alloc (.cells #[.int .u8 (vv.what.toNat:Int),vv.text,(vv.tag:Int),.slice none 0 0] 68)).alloc (.cells #[.bool false] 4)):=⟨_,rfl⟩
 have HH:=Aa (X7 w W7 eb a b vv A2 n2 c2 hW7);unfold D9 Ec;go_enter func115,ntmps115;go_upto_region 4 with fail
 subst hn2;rw[<-hW7];clear hW7;have e1:=HH.o.a0;have e2:=HH.o.a1;have e3:=HH.o.v0;have e4:=HH.o.v1;have e5:=HH.o.v2;have e6:=HH.o.v3;have t1:a.signs.isEmpty=true:=gc;have t2:(a.base == [64])=false:=by simpa using Hb.o
 have HT:=Aa HH.o.T;rw[Hs.o]at e1;go_wp2_with ((with_reducible refine Af (op:=⟨none,.store 68 _ _,_,_,_,none⟩) rfl 68 _ _ rfl (w.heap.size+4) 0 [.int .u8 (vv.what.toNat:Int),vv.text,(vv.tag:Int),.slice A2 0 c2] ?_ ?_ ?_ ?_ ?_ ?_);(first|rfl|(simp;done));rfl;(exact HT.o);kernel_rfl;(simp[Value.oneCell']);intro w9 HS9)
 refine aF (v:=.tuple #[.agg ([.int .u8 (vv.what.toNat:Int),vv.text,(vv.tag:Int),.slice A2 0 c2]:List Value).toArray,.bool false]) ?_ rfl ?_
 ·exact As results115 _ _ (w.heap.size+4) [.int .u8 (vv.what.toNat:Int),vv.text,(vv.tag:Int),.slice A2 0 c2] _ _ rfl rfl (by rw[HS9.o];exact aa _ _ _ _ HT.o) underlying68 rfl aN
 refine⟨.slice A2 0 c2,rfl,by rw[Hk.o];exact Qgo _ _ _ _,?_⟩;rw[HS9.o];exact Ai _ aH _ _ _ HH.o.st.bel
theorem Qjq(w:World)(eb:Nat)(a b:Kd)(hs:a.signs=[])(hb:a.base=[64])(vv:Vl)(hw85:vv.what≠85)(hw82:vv.what≠82)(hk:vv.kids=[])(A2:Option Addr)(c2:Nat)(xb yb pb1 mb1 pb2 mb2:Nat)(hlk:LkT w eb a.name b.name xb yb pb1 mb1 pb2 mb2):
  Calls prog 115 #[eb,D9 a,D9 b,Ec vv (.slice A2 0 c2)] w (Mu (vv,false) w):=by
 obtain⟨n2,hn2⟩:∃n2,n2=0:=⟨_,rfl⟩
 have Hs:=Aa hs;have Hb:=Aa hb;have Hk:=Aa hk;clear hs hb hk;have t85:((vv.what.toNat:Int) == 85)=false:=by have:=Ap hw85;simpa using this
 have t82:((vv.what.toNat:Int) == 82)=false:=by have:=Ap hw82;simpa using this
 have HLk:=Aa hlk;have ht:vv.text=vv.text:=rfl;clear hw85 hw82 hlk;obtain⟨W7,hW7⟩:∃W7,W7=(((((((w.alloc (.cells #[eb] 160)).alloc (.cells #[a.signs,a.base,a.name] 60)).alloc (.cells #[b.signs,b.base,b.name] 60)).alloc (.cells #[.int .u8 (vv.what.toNat:Int),vv.text,(vv.tag:Int),.slice A2 n2 c2] 68)).alloc (.cells #[.int .u8 0,a6,.int .i64 0,.slice none 0 0] 68)).alloc (.cells #[.int .u8 (vv.what.toNat:Int),vv.text,(vv.tag:Int),.slice none 0 0] 68)).alloc (.cells #[.bool false] 4)):=⟨_,rfl⟩
 have HH:=Aa (X7 w W7 eb a b vv A2 n2 c2 hW7);unfold D9 Ec;go_enter func115,ntmps115;go_upto_region 4 with fail
 subst hn2;rw[<-hW7];clear hW7;have e1:=HH.o.a0;have e2:=HH.o.a1;have e3:=HH.o.v0;have t1:a.signs.isEmpty=true:=gc;rw[Hs.o]at e1;rw[Hb.o]at e2;go_upto_region 13 with fail
 refine Jd [58,59,60,61,62,63,64,65,66,67,68,69,70,71,72,73,74,75,76,77,15,16]
  (fun ix v W=>match ix with|0=>v=eb|1=>v=eb|2=>v=eb|3=>v=pb1|4=>v=pb1|5=>v=(pb1,1)|6=>v=.map (some mb1)|7=>v=(w,1,2)|8=>v=a.name|9=>v=xb|10=>v=eb|11=>v=eb|12=>v=(eb,1)|13=>v=pb2|14=>v=pb2|15=>v=(pb2,1)|16=>v=.map (some mb2)|17=>v=(w,2,2)|18=>v=b.name|19=>v=yb|20=>v=xb|21=>v=yb|_=>True)
  (fun L U W=>W=W7.drew) (rfl) ?_ ?_
 ·exact ia
 rintro L U W hL hφ hR;have e20:U 20=xb:=hφ 20 aJ;have e21:U 21=yb:=hφ 21 aJ;simp only[e20,e21];clear hφ;subst hR;clear hL;have e5:=HH.o.v0;go_wp2_with fail;have HL:=Aa (HH.o.st.after (Ao _ _).drew);have HT:=Aa (Aj HH.o.T (show w.heap.size+4<w.heap.size+5 by omega) HL.o.keep.drew);refine Jd [156,157,999,9]
  (fun ix v W=>match ix with|0=>v=.agg #[.int .u8 (vv.what.toNat:Int),vv.text,(vv.tag:Int),.slice none 0 0]|1=>v=.bool false|3=>v=.bool false|_=>True)
  (fun L U W=>(L 2=false->W=W7.drew.drew)/\(L 2=true->W=W7.drew.drew.setCells (w.heap.size+4) 0 [.int .u8 (vv.what.toNat:Int),vv.text,(vv.tag:Int),.slice none 0 0])) (⟨fun _=>rfl,fun h=>Bool.noConfusion h⟩) ?_ ?_
 ·repeat (first|exact Ak.nil|(refine Ak.cons ?_ ?_;rotate_left))
  all_goals
   rintro L U W hL hpre HR Hdep K hK;first|(simp[Region.binds]at hpre;done)|simp[Region.binds]at hpre|clear hpre
  ·exact iz
  ·have x6:W.cell? (w,6,0)=some (.bool false):=by
    cases e2:L 2 with
    |false=>rw[HR.o.1 e2];exact HL.o.c6
    |true=>
     exact lX
   exact kL
  ·have hW:=HR.o.1 hL;subst hW;have u0:U 0=.agg #[.int .u8 (vv.what.toNat:Int),vv.text,(vv.tag:Int),.slice none 0 0]:=cH;rw[if_pos cr];refine wp_store_mid 68 _ _ rfl (w.heap.size+4) 0 ([.int .u8 (vv.what.toNat:Int),vv.text,(vv.tag:Int),.slice none 0 0]:List Value).toArray rfl u0 HT.o aN bh ?_;exact lY
  ·exact hD
 rintro L U W hL hφ hR;have hW:=hR.2 (hL 2 aJ);have u3:U 3=.bool false:=hφ 3 aJ;simp only[u3];clear hR hL hφ u3;subst hW;go_wp2_with fail;refine aF (v:=.tuple #[.agg ([.int .u8 (vv.what.toNat:Int),vv.text,(vv.tag:Int),.slice none 0 0]:List Value).toArray,.bool false]) ?_ rfl ?_
 ·exact As results115 _ _ (w.heap.size+4) [.int .u8 (vv.what.toNat:Int),vv.text,(vv.tag:Int),.slice none 0 0] _ _ rfl rfl (aa _ _ _ _ HT.o) underlying68 rfl aN
 refine⟨.slice none 0 0,rfl,by rw[Hk.o];exact Qgo _ _ _ _,?_⟩;exact Ai _ aH _ _ _ HL.o.bel.drew
theorem Tq.single{base B:Nat}{W:World}{h0 h1 h2:Value}(h:Tq base B W h0 h1 h2 (.slice none 0 0) (.slice none 0 0) []){y:Vl}{sl:Value}(hs:Ea (fun c=>base<=c) W sl y.kids):
  Tq base B (W.alloc (.cells (Ka (y,sl)).toArray 68)) h0 h1 h2 (.slice none 0 0) (.slice (W,0) 1 1) [(y,sl)]:=by
 have hb:=(Ao W.heap.size W).alloc (An _) (.cells (Ka (y,sl)).toArray 68);have h2:=h.after hb;refine⟨h2.lt,h2.bs,h2.hB,h2.bk,h2.c0,h2.c1,h2.c2,h2.c3,⟨rfl,.inr ⟨W.heap.size,1,(Ka (y,sl)).toArray,rfl,h.bs,heap_alloc_new _ _,An _,by unfold maxLen;omega,rfl,rfl⟩⟩,fun x hx=>?_⟩;simp at hx;subst hx;exact(hs.mono (Q:=fun c=>base<=c/\(Value.slice (W,0) 1 1).ownBlock≠some c) fun c hc hl=>⟨hc,by simp[Value.ownBlock];omega⟩).after hb
structure Vc(w W7 W1:World)(h0 h1 h2:Value)(r:Vl × Bool)(l19 l20 l22:Bool)(u19 u20:Value)(W:World):Prop where
 s0:l19=false->W=W1
 s1:l19=true->l20=false->∃sl,u19=Ec r.1 sl/\Ea (fun c=>W1.heap.size<=c) W sl r.1.kids/\LiS w W7 W h0 h1 h2 r.2 (.slice none 0 0) []
 s2:l20=true->l22=false->∃W8 sl,W=W8.alloc (.cells (Ka (r.1,sl)).toArray 68)/\u20=.slice (some ⟨W8.heap.size,0,none⟩) 1 1/\Ea (fun c=>W1.heap.size<=c) W8 sl r.1.kids/\LiS w W7 W8 h0 h1 h2 r.2 (.slice none 0 0) []
 s3:l22=true->∃g sl,LiS w W7 W h0 h1 h2 r.2 (.slice (some ⟨g,0,none⟩) 1 1) [(r.1,sl)]
section
variable {w W7 W W' W1:World} {h0 h1 h2 u19 u20:Value} {l19 l20 l22:Bool} {r:Vl × Bool}
theorem Vc.start:Vc w W7 W1 h0 h1 h2 r false false false u19 u20 W1:=⟨fun _=>rfl,fun h=>Bool.noConfusion h,fun h=>Bool.noConfusion h,fun h=>Bool.noConfusion h⟩
theorem Vc.put19{sl:Value}(hl:LiS w W7 W1 h0 h1 h2 false (.slice none 0 0) [])(h20:l20=false)(h22:l22=false)(hs:Ea (fun c=>W1.heap.size<=c) W sl r.1.kids)(hg:W1.grownBy W (some (w.heap.size+6)))(hc:W.cell? (w,6,0)=some (.bool (false || r.2)))(hf:W.frozen? (w,6,0)=false):
  Vc w W7 W1 h0 h1 h2 r true l20 l22 (Ec r.1 sl) u20 W:=by
 subst h20 h22;exact⟨fun h=>Bool.noConfusion h,fun _ _=>⟨sl,rfl,hs,hl.one hg (by simpa using hc) hf⟩,fun h=>Bool.noConfusion h,fun h=>Bool.noConfusion h⟩
theorem Vc.put20(h:Vc w W7 W1 h0 h1 h2 r l19 l20 l22 u19 u20 W)(h19:l19=true)(h20:l20=false)(h22:l22=false):∃sl,u19=Ec r.1 sl/\(∃A n c,sl=.slice A n c) /\
  Vc w W7 W1 h0 h1 h2 r l19 true l22 u19 (.slice (W,0) 1 1) (W.alloc (.cells (Ka (r.1,sl)).toArray 68)):=by
 obtain⟨sl,e,hs,hL⟩:=h.s1 h19 h20;subst h22;exact⟨sl,e,by obtain⟨A,c,e⟩:=hs.form;exact⟨A,_,c,e⟩,fun h=>absurd (h19.symm.trans h) aJ,fun _ h=>Bool.noConfusion h,fun _ _=>⟨W,sl,rfl,rfl,hs,hL⟩,fun h=>Bool.noConfusion h⟩
theorem Vc.put22(h:Vc w W7 W1 h0 h1 h2 r l19 l20 l22 u19 u20 W)(hb1:w.heap.size+7<=W1.heap.size)(h19:l19=true)(h20:l20=true)(h22:l22=false)(hW:W'=W.setCell ⟨w.heap.size+5,3,none⟩ u20):Vc w W7 W1 h0 h1 h2 r l19 l20 true u19 u20 W':=by
 subst hW;obtain⟨W8,sl,rfl,eu,hs,hL⟩:=h.s2 h20 h22;have hb8:=(Ao W8.heap.size W8).alloc (An _) (.cells (Ka (r.1,sl)).toArray 68);have hK:=(hL.st.single (hs.mono fun c hc _=>ad hb1 hc)).store;have hL2:=hL.after hb8;have hlt:w.heap.size+6<W8.heap.size:=hL.st.bs;have hg:=Am (W8.alloc (.cells (Ka (r.1,sl)).toArray 68)) (w.heap.size+5) 3 u20;rw[<-eu]at hK;refine⟨fun h=>absurd (h19.symm.trans h) aJ,fun _ h=>absurd (h20.symm.trans h) aJ,fun _ h=>Bool.noConfusion h,fun _=>⟨W8.heap.size,sl,hL2.bel.setCell (p:=⟨w.heap.size+5,3,none⟩) (show w.heap.size<=w.heap.size+5 by omega) _,hL2.keep.setCell (p:=⟨w.heap.size+5,3,none⟩) (An (w.heap.size+5)) _,eu ▸ hK,hg.cell hL2.c6 aK,(hg.frozen_far ⟨w.heap.size+6,0,none⟩ aM aK).trans hL2.f6⟩⟩
end
end
end Go.Proofs.YtmmhmlmfhpfgbaaGreatDoor
