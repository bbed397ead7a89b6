/- Texts joined. Conditions: as each theorem names them. -/
import Derived.Test.YtbdibdghphdcdaaGreatDoorJ37
set_option maxRecDepth 100000
set_option maxHeartbeats 32000000
set_option linter.unusedVariables false
set_option linter.unusedSimpArgs false
namespace Go.Proofs.YtbdibdghphdcdaaGreatDoor
open Go.RowKit Go.Proofs.Tryz
section
attribute [local go_sem] Qo7 Qok Qoa Ql9 ByteArray.mk_append_mk
theorem Qky(w0:World)(p1 p2:Value)(xs ys:List PT)(hx:Tr w0 p1 xs)(hy:Tr w0 p2 ys)(hS:Gy (Ag xs))(hT:Gy (Ag ys)):∀(n:Nat) (a b:Kd) (m:List Df) (w:World),
  Cq a->Cq b->Cc (Ag xs) a->Cc (Ag ys) b->Mk (Ag xs) (Ag ys) m->64<n+m.length->Fj w0 p1 p2 w m ->
   Calls prog 54 #[(w0,1,0),Et a,Et b] w (Vz w0 p1 p2 (Kg (Ag xs) (Ag ys) n a b m) w):=by
 have h8:(Ag xs).length*(Ag ys).length<=64:=by
  exact lS
 intro n;induction n with
 |zero=>
  intro a b m w _ _ _ _ hm hn _;have:=hm.len;omega
 |succ n ih=>
  intro a b m w ha hb hra hrb hm hn hst;have hml:m.length<=64:=ad hm.len h8;exact Qf0 w0 p1 p2 xs ys hx hy n a b m w ha hb hra hrb hst (fun x y W hxm hym hW=>Qg6 w0 p1 p2 xs ys hx hy hS hT n x y hxm hym ih m hm hn hml W hW)
theorem Qq.mono{lo lo':Nat}{w:World}{p:Value}{xs:List PT}(h:Qq lo w p xs)(hle:lo'<=lo):Qq lo' w p xs:=by
 obtain⟨b,A,c,mb,q0,q1,q2,q3,q4,q5,q6,q7,l1,l2,l3,l4⟩:=h;exact⟨b,A,c,mb,q0,q1,q2,q3,q4,q5,q6,q7,by omega,by omega,fun g o h1 h2=>by have:=l3 g o h1 h2;omega,fun x hx=>⟨by have:=(l4 x hx).1;omega,fun k h1 h2=>by have:=(l4 x hx).2 k h1 h2;omega⟩⟩
theorem Qj.form{o:Option (List Ty × Kd)}{w w':World}{e:Ending}(h:Qj o w e w'):
  ∃(q:Option Addr) (a b c:ByteArray),e=.returned (.tuple #[.pointer q,.agg #[.string a,.string b,.string c],.bool o.isSome])/\Below w w w' /\
   ∀S k,o=some (S,k)->∃xs,Ag xs=S/\a=⟨k.signs.toArray⟩/\b=⟨k.base.toArray⟩/\c=⟨k.name.toArray⟩/\Qq w.heap.size w' (.pointer q) xs:=by
 obtain⟨h1,hb⟩:=h;cases o with
 |none=>
  obtain⟨p,a,b,c,e⟩:=h1;exact⟨p,a,b,c,e,hb,fun S k h=>by cases h⟩
 |some x=>
  obtain⟨S,k⟩:=x;obtain⟨p,xs,hx,e,hs⟩:=h1;obtain⟨pb,_,_,_,rfl,_⟩:=hs.isc;exact⟨_,_,_,_,e,hb,fun S' k' h=>by cases h;exact⟨xs,hx,rfl,rfl,rfl,hs⟩⟩
section
variable {P:Program}
theorem Mr{fn:Func}{r p p2 q:Tmp}{ty:TypeId}(h:fn.results=#[.tmp r,.cell p ty,.cell p2 ty,.tmp q])(tmps:Array Value)(w:World)(b b2:Nat)(cs cs2:List Value)(d:TypeDesc)(y x:Value)
  (hr:tmps.getD r undef=y) (hp:tmps.getD p undef=b) (hp2:tmps.getD p2 undef=b2) (hq:tmps.getD q undef=x) (hc:w.rangeAt b 0 cs) (hc2:w.rangeAt b2 0 cs2) (hu:P.underlying ty=some d) (hd:d.isRow=true) (hi:(P.info? ty).map (·.size)=some cs.length) (hi2:(P.info? ty).map (·.size)=some cs2.length):
  (results fn tmps).run P w=.ok (.tuple #[y,.agg cs.toArray,.agg cs2.toArray,x]) w:=by
 have hp':tmps[p]?.getD undef=b:=eD;have hp2':tmps[p2]?.getD undef=b2:=by simpa using hp2
 have hq':tmps[q]?.getD undef=x:=fk;have hr':tmps[r]?.getD undef=y:=dJ;simp[results,h,hp',hp2',hq',hr',asAddr,run_loadVar_mid w b 0 ty cs d hc hu hd hi,run_loadVar_mid w b2 0 ty cs2 d hc2 hu hd hi2]
end
theorem Qjw{B:Nat}{a b:World}(h:Below B a b)(p:Addr)(u:Value):Below B (a.setCell p u) (b.setCell p u):=
 ⟨h.os,h.tape,h.output,by simp[World.setCell];exact h.size,fun k hk=>by
  simp only[World.setCell,Array.getElem?_modify];rw[h.block k hk]⟩
theorem Zj{B:Nat}(k:Nat):∀(vs:List Value) (o:Nat) {a b:World},Below B a b->Below B (a.setCells k o vs) (b.setCells k o vs)
 |[],_,_,_,h=>h
 |v::r,o,a,b,h=>Zj k r (o+1) (Qjw h ⟨k,o,none⟩ v)
structure Sn(w:World)(p1 p2:Value)(xs ys:List PT)(N B13 B16:Nat)(ka kb:List Value)(w0 W:World)(mm:List Df):Prop where
 sz:w0.heap.size=N
 i1:Qq (w.heap.size+2) w0 p1 xs
 i2:Qq (w.heap.size+2) w0 p2 ys
 be:Below w w w0
 t9':w0.there w 0 3
 t10':w0.there (w.heap.size+1) 0 3
 x13':w0.rangeAt B13 0 ka
 x16':w0.rangeAt B16 0 kb
 l13:B13<N
 l16:B16<N
 lw:w.heap.size+2<=N
 st:Fj w0 p1 p2 W mm
theorem Sn.x13{w:World}{p1 p2:Value}{xs ys:List PT}{N B13 B16:Nat}{ka kb:List Value}{w0 W:World}{mm:List Df}(h:Sn w p1 p2 xs ys N B13 B16 ka kb w0 W mm):W.rangeAt B13 0 ka:=Ah h.x13' (by have:=h.l13;have:=h.sz;omega) h.st.1
theorem Sn.x16{w:World}{p1 p2:Value}{xs ys:List PT}{N B13 B16:Nat}{ka kb:List Value}{w0 W:World}{mm:List Df}(h:Sn w p1 p2 xs ys N B13 B16 ka kb w0 W mm):W.rangeAt B16 0 kb:=Ah h.x16' (by have:=h.l16;have:=h.sz;omega) h.st.1
theorem Sn.t9{w:World}{p1 p2:Value}{xs ys:List PT}{N B13 B16:Nat}{ka kb:List Value}{w0 W:World}{mm:List Df}(h:Sn w p1 p2 xs ys N B13 B16 ka kb w0 W mm):W.there w 0 3:=Aj h.t9' (by have:=h.lw;have:=h.sz;omega) h.st.1
theorem Sn.t10{w:World}{p1 p2:Value}{xs ys:List PT}{N B13 B16:Nat}{ka kb:List Value}{w0 W:World}{mm:List Df}(h:Sn w p1 p2 xs ys N B13 B16 ka kb w0 W mm):W.there (w.heap.size+1) 0 3:=Aj h.t10' (by have:=h.lw;have:=h.sz;omega) h.st.1
theorem Sn.drew{w:World}{p1 p2:Value}{xs ys:List PT}{N B13 B16:Nat}{ka kb:List Value}{w0 W:World}{mm:List Df}(h:Sn w p1 p2 xs ys N B13 B16 ka kb w0 W mm):Sn w p1 p2 xs ys N B13 B16 ka kb w0 W.drew mm:=
 {h with st:=h.st.below (Ap _ _).drew}
theorem Sn.store{w:World}{p1 p2:Value}{xs ys:List PT}{N B13 B16:Nat}{ka kb:List Value}{w0 W:World}{mm:List Df}(h:Sn w p1 p2 xs ys N B13 B16 ka kb w0 W mm){b:Nat}(cs:List Value)
  (h1:w.heap.size<=b) (h2:b<w.heap.size+2) (h3:B13≠b) (h4:B16≠b):Sn w p1 p2 xs ys N B13 B16 ka kb (w0.setCells b 0 cs) (W.setCells b 0 cs) mm:=by
 have hlw:=h.lw;have hsz:=h.sz
 refine⟨by rw[Ce];exact h.sz,h.i1.far (Du _ _ _ w0) h2,h.i2.far (Du _ _ _ w0) h2,Ai _ h1 _ _ _ h.be,ai h.t9' _ _ _,ai h.t10' _ _ _,
  ak h.x13' _ _ _ (.inl h3),ak h.x16' _ _ _ (.inl h4),h.l13,h.l16,h.lw,?_⟩
 obtain⟨s1,s2,s3,s4,s5,s6⟩:=h.st;have hg:=Du b cs 0 W;have hc:∀j,(W.setCells b 0 cs).cell? ⟨w0.heap.size+1,j,none⟩=W.cell? ⟨w0.heap.size+1,j,none⟩:=fun j=>hg.cell_far ⟨w0.heap.size+1,j,none⟩ (show w0.heap.size+1<_ by omega) aM;unfold Fj;rw[Ce,Ce];exact⟨Zj b cs 0 s1,s2,(hc 0).trans s3,(hc 1).trans s4,(hc 2).trans s5,s6.kept hg aM⟩
def Qhk(o1 o2:Option (List Ty × Kd))(w:World)(e:Ending)(w':World):Prop:=
 ∃(q:Option Addr) (a1 b1 c1 a2 b2 c2:ByteArray),e=.returned (.tuple #[.pointer q,.agg #[.string a1,.string b1,.string c1],.agg #[.string a2,.string b2,.string c2],.bool (Ef o1 o2)])/\Below w w w' /\
  (Ef o1 o2=true->∃(S T:List Ty) (a b:Kd) (xs ys:List PT) (eb:Nat) (p1 p2:Option Addr),o1=some (S,a)/\o2=some (T,b)/\Ag xs=S/\Ag ys=T/\q=some ⟨eb,0,none⟩/\a1=⟨a.signs.toArray⟩/\b1=⟨a.base.toArray⟩/\c1=⟨a.name.toArray⟩/\a2=⟨b.signs.toArray⟩/\b2=⟨b.base.toArray⟩/\c2=⟨b.name.toArray⟩ /\
   w.heap.size<=eb/\eb<w'.heap.size/\w'.cell? (eb,0)=some (.pointer p1)/\w'.cell? (eb,1)=some (.pointer p2)/\Qq w.heap.size w' (.pointer p1) xs/\Qq w.heap.size w' (.pointer p2) ys)
theorem Vo(s1 d1 s2 d2:List UInt8)(w:World)(h1:s1.length<=4000000)(h2:d1.length<=4000000)(h3:s2.length<=4000000)(h4:d2.length<=4000000):
  Calls prog 29 #[s1,d1,s2,d2] w (Qhk (At s1 d1) (At s2 d2) w):=by
 have Hk1:=Aa (fun W=>Sl s1 d1 W h1 h2);have Hk2:=Aa (fun W=>Sl s2 d2 W h3 h4);have Hg1:=Aa (fun S k (h:At s1 d1=some (S,k))=>Cs h);have Hg2:=Aa (fun S k (h:At s2 d2=some (S,k))=>Cs h);generalize At s1 d1=o1 at *;generalize At s2 d2=o2 at *;have hmm:=@run_makeMap prog;go_enter func29,ntmps29;go_wp2_with fail;refine(Hk1.o _).mono ?_;rintro e w1 hp1;obtain⟨q1,a1,b1,c1,rfl,hb1,hs1⟩:=hp1.form;have HT9:=@Aa (w1.there w 0 3) (Aj (ar (Bu w [a6,a6,a6] 50) _) aM hb1);have HT10:=@Aa (w1.there (w.heap.size+1) 0 3) (Aj (by have:=Bu (w.alloc (.cells ([a6,a6,a6]:List Value).toArray 50)) [a6,a6,a6] 50;simpa using this) aK hb1);have Hb1:=@Aa (Below w w w1) ((((Ap _ _).alloc (An _) _).alloc aK _).trans (hb1.mono aM));have hz1:w.heap.size+1<w1.heap.size:=eR;have Hs1:=Aa hs1;clear hp1 hb1 hs1;go_wp2_with fail;refine(Hk2.o _).mono ?_;rintro e w3 hp2;obtain⟨q2,a2,b2,c2,rfl,hb3,hs2⟩:=hp2.form;have HB3:=@Aa (Below w1 w1 w3) (((Ap _ _).alloc (An _) _).trans (hb3.mono aK));have X13:=@Aa (w3.rangeAt w1 0 [.string a1,.string b1,.string c1]) (Ah (Bk w1 [.string a1,.string b1,.string c1] 50) aK hb3);have hz3:w1.heap.size<w3.heap.size:=gV;have Hs2:=Aa hs2;have Hb3:=Aa (Hb1.o.trans (HB3.o.mono aH));have HT9':=Aa (Aj HT9.o (show w.heap.size<w1.heap.size by omega) HB3.o);have HT10':=Aa (Aj HT10.o hz1 HB3.o);clear hp2 hb3 hs2 HT9 HT10;have HT9:=@Aa ((w3.alloc (.cells #[.string a2,.string b2,.string c2] 50)).there w 0 3) (ar HT9'.out _);have HT10:=@Aa ((w3.alloc (.cells #[.string a2,.string b2,.string c2] 50)).there (w.heap.size+1) 0 3) (ar HT10'.out _);have Hb4:=@Aa (Below w w (w3.alloc (.cells #[.string a2,.string b2,.string c2] 50))) (Hb3.o.alloc aH _);cases o1 with
 |none=>
  cases o2 with
  |none=>
   have Hev:Hid (Ef none none=false):=rfl;dsimp only[Option.isSome];go_wp2_with (first|((with_reducible refine Ad (op:=⟨none,.store 50 _ _,_,_,_,none⟩) rfl 50 _ _ rfl w 0 [a6,a6,a6] ?_ ?_ ?_ ?_ ?_ ?_);rfl;rfl;(exact HT9.o);kernel_rfl;(simp[Value.oneCell']);intro w9 HS9;have HT10b:=@Aa (w9.there (w.heap.size+1) 0 3) f9)|((with_reducible refine Ad (op:=⟨none,.store 50 _ _,_,_,_,none⟩) rfl 50 _ _ rfl (w.heap.size+1) 0 [a6,a6,a6] ?_ ?_ ?_ ?_ ?_ ?_);rfl;rfl;(exact HT10b.o);kernel_rfl;(simp[Value.oneCell']);intro w10 HS10))
   have HZ1:=@Aa (w10.rangeAt w 0 [a6,a6,a6]) bK;have HZ2:=@Aa (w10.rangeAt (w.heap.size+1) 0 [a6,a6,a6]) eL;have Hb9:=@Aa (Below w w w10) cC;refine aF (v:=.tuple #[.pointer none,.agg ([a6,a6,a6]:List Value).toArray,.agg ([a6,a6,a6]:List Value).toArray,.bool false]) ?_ rfl ?_
   ·exact ja
   exact my
  |some y=>
   have Hev:Hid (Ef none (some y)=false):=rfl;dsimp only[Option.isSome];go_wp2_with (first|((with_reducible refine Ad (op:=⟨none,.store 50 _ _,_,_,_,none⟩) rfl 50 _ _ rfl w 0 [a6,a6,a6] ?_ ?_ ?_ ?_ ?_ ?_);rfl;rfl;(exact HT9.o);kernel_rfl;(simp[Value.oneCell']);intro w9 HS9;have HT10b:=@Aa (w9.there (w.heap.size+1) 0 3) f9)|((with_reducible refine Ad (op:=⟨none,.store 50 _ _,_,_,_,none⟩) rfl 50 _ _ rfl (w.heap.size+1) 0 [a6,a6,a6] ?_ ?_ ?_ ?_ ?_ ?_);rfl;rfl;(exact HT10b.o);kernel_rfl;(simp[Value.oneCell']);intro w10 HS10))
   have HZ1:=@Aa (w10.rangeAt w 0 [a6,a6,a6]) bK;have HZ2:=@Aa (w10.rangeAt (w.heap.size+1) 0 [a6,a6,a6]) eL;have Hb9:=@Aa (Below w w w10) cC;refine aF (v:=.tuple #[.pointer none,.agg ([a6,a6,a6]:List Value).toArray,.agg ([a6,a6,a6]:List Value).toArray,.bool false]) ?_ rfl ?_
   ·exact ja
   exact my
 |some x=>
  obtain⟨S,k⟩:=x;cases o2 with
  |none=>
   have Hev:Hid (Ef (some (S,k)) none=false):=rfl;dsimp only[Option.isSome];go_wp2_with (first|((with_reducible refine Ad (op:=⟨none,.store 50 _ _,_,_,_,none⟩) rfl 50 _ _ rfl w 0 [a6,a6,a6] ?_ ?_ ?_ ?_ ?_ ?_);rfl;rfl;(exact HT9.o);kernel_rfl;(simp[Value.oneCell']);intro w9 HS9;have HT10b:=@Aa (w9.there (w.heap.size+1) 0 3) f9)|((with_reducible refine Ad (op:=⟨none,.store 50 _ _,_,_,_,none⟩) rfl 50 _ _ rfl (w.heap.size+1) 0 [a6,a6,a6] ?_ ?_ ?_ ?_ ?_ ?_);rfl;rfl;(exact HT10b.o);kernel_rfl;(simp[Value.oneCell']);intro w10 HS10))
   have HZ1:=@Aa (w10.rangeAt w 0 [a6,a6,a6]) bK;have HZ2:=@Aa (w10.rangeAt (w.heap.size+1) 0 [a6,a6,a6]) eL;have Hb9:=@Aa (Below w w w10) cC;refine aF (v:=.tuple #[.pointer none,.agg ([a6,a6,a6]:List Value).toArray,.agg ([a6,a6,a6]:List Value).toArray,.bool false]) ?_ rfl ?_
   ·exact ja
   exact my
  |some y=>
   obtain⟨T,l⟩:=y;dsimp only[Option.isSome];obtain⟨xs,hxs,e1,e2,e3,hi1⟩:=Hs1.o _ _ rfl;obtain⟨ys,hys,e4,e5,e6,hi2⟩:=Hs2.o _ _ rfl;have hl1:Qq (w.heap.size+2) w1 (.pointer q1) xs:=hi1.mono aK;have hl3:Qq (w.heap.size+2) w3 (.pointer q1) xs:=hl1.below HB3.o;have hl3':Qq (w.heap.size+2) w3 (.pointer q2) ys:=hi2.mono aM;have Hi1':=Aa hl3;have Hi2':=Aa hl3';have E1:=Aa e1;have E2:=Aa e2;have E3:=Aa e3;have E4:=Aa e4;have E5:=Aa e5;have E6:=Aa e6;obtain⟨hS,_,_,hk1,_,hr1⟩:=Hg1.o _ _ rfl;obtain⟨hT,_,_,hk2,_,hr2⟩:=Hg2.o _ _ rfl;subst hxs hys;clear e1 e2 e3 e4 e5 e6;go_wp2_with fail;obtain⟨w4,hw4⟩:∃w4,w4=w3.alloc (.cells #[.string a2,.string b2,.string c2] 50):=⟨_,rfl⟩
   rw[<-hw4]at HT9 HT10 Hb4 ⊢;have hz4:w4.heap.size=w3.heap.size+1:=by rw[hw4];simp
   have hb34:Below w3 w3 w4:=by rw[hw4];exact(Ap _ _).alloc (An _) _
   have Hi1:=Aa (Hi1'.out.below hb34);have Hi2:=Aa (Hi2'.out.below hb34);have X13':=Aa (Ah X13.o hz3 hb34);have X16:=@Aa (w4.rangeAt w3 0 [.string a2,.string b2,.string c2]) (by rw[hw4];exact Bk w3 [.string a2,.string b2,.string c2] 50);have Hcall:=Aa (fun(w0' W:World) (hN:w0'.heap.size=w4.heap.size) (h1:Qq (w.heap.size+2) w0' (.pointer q1) xs) (h2:Qq (w.heap.size+2) w0' (.pointer q2) ys) (h:Fj w0' (.pointer q1) (.pointer q2) W [])=>show Calls prog 54 #[.pointer (some ⟨w4.heap.size+1,0,none⟩),Et k,Et l] W (Vz w0' (.pointer q1) (.pointer q2) (Kg (Ag xs) (Ag ys) 65 k l []) W)from hN ▸ Qky w0' _ _ xs ys h1.isc h2.isc hS hT 65 k l [] W hk1 hk2 hr1 hr2 (Mk.nil _ _) aK h);unfold Et at Hcall;rw[<-E1.o,<-E2.o,<-E3.o,<-E4.o,<-E5.o,<-E6.o]at Hcall;have Hev:Hid (Ef (some (Ag xs,k)) (some (Ag ys,l))=(Kg (Ag xs) (Ag ys) 65 k l []).1):=rfl;generalize Kg (Ag xs) (Ag ys) 65 k l []=r at *;obtain⟨r1,r2⟩:=r;clear hw4 hb34 hi1 hi2 hl1 hl3 hl3' hS hT hk1 hk2 hr1 hr2;have hmb:(w4.alloc (.map #[] 0)).heap.size=w4.heap.size+1:=aK;obtain⟨w6,hw6⟩:∃w6,w6=(w4.alloc (.map #[] 0)).alloc (.cells #[.pointer q1,.pointer q2,.map (some (w3.heap.size+1))] 74):=⟨_,rfl⟩
   rw[<-hw6];have hz6:w6.heap.size=w4.heap.size+2:=by rw[hw6];simp
   have hb46:Below w4 w4 w6:=by rw[hw6];exact((Ap _ _).alloc (An _) _).alloc aK _
   have Hst6:=Aa (show Fj w4 (.pointer q1) (.pointer q2) w6 []from by
    refine⟨hb46,by omega,by rw[hw6,<-hmb];simp,by rw[hw6,<-hmb];simp,by rw[hw6,<-hmb];simp;omega,?_⟩;rw[hw6];exact((D5.made w4 prog 179 (.bool false)).alloc _).of_eq (fun l hl=>by simp[Ry]))
   have HE:=@Aa (Sn w (.pointer q1) (.pointer q2) xs ys w4.heap.size w1.heap.size w3.heap.size [.string a1,.string b1,.string c1] [.string a2,.string b2,.string c2] w4 w6 []) ⟨rfl,Hi1.o,Hi2.o,Hb4.o,HT9.o,HT10.o,X13'.out,X16.o,by omega,by omega,by omega,Hst6.o⟩;have g13:w.heap.size+2<=w1.heap.size:=aH;have g16:w.heap.size+2<=w3.heap.size:=aH;have hz43:w3.heap.size+1+1=w4.heap.size+1:=aH;rw[hz43];generalize w1.heap.size=B13 at *;generalize w3.heap.size=B16 at *;clear hw6 hb46 hmb;refine Jo [46,47,48,49,50,51,52,8,999,998,11]
    (fun i v W=>match i with|0=>v=.pointer (some ⟨w4.heap.size+1,0,none⟩)|1=>v=.agg ([.string a1,.string b1,.string c1]:List Value).toArray|2=>v=.agg ([.string a2,.string b2,.string c2]:List Value).toArray|3=>v=.pointer (some ⟨w4.heap.size+1,0,none⟩)|4=>v=.agg ([.string a1,.string b1,.string c1]:List Value).toArray|5=>v=.agg ([.string a2,.string b2,.string c2]:List Value).toArray|6=>v=.bool r1|7=>v=.pointer (some ⟨w4.heap.size+1,0,none⟩)|10=>v=.bool r1|_=>True)
    (fun L U W=>∃w0' mm,Sn w (.pointer q1) (.pointer q2) xs ys w4.heap.size B13 B16 [.string a1,.string b1,.string c1] [.string a2,.string b2,.string c2] w0' W mm/\(L 6=false->mm=[])/\(L 8=true->w0'.rangeAt w 0 [.string a1,.string b1,.string c1])/\(L 9=true->w0'.rangeAt (w.heap.size+1) 0 [.string a2,.string b2,.string c2])) (⟨w4,[],HE.o.drew,fun _=>rfl,fun h=>Bool.noConfusion h,fun h=>Bool.noConfusion h⟩) ?_ ?_
   ·repeat (first|exact Ak.nil|(refine Ak.cons ?_ ?_;rotate_left))
    all_goals
     rintro L U W hL hpre HR Hdep K hK;obtain⟨w0',mm,hE,hm0,R8,R9⟩:=HR.o;have x13:=hE.x13;have x16:=hE.x16;have a0:W.cell? (B13,0)=some (.string a1):=by simpa using Ab x13 0 rfl
     have a1':W.cell? (B13,1)=some (.string b1):=by simpa using Ab x13 1 rfl
     have a2':W.cell? (B13,2)=some (.string c1):=by simpa using Ab x13 2 rfl
     have b0:W.cell? (B16,0)=some (.string a2):=by simpa using Ab x16 0 rfl
     have b1':W.cell? (B16,1)=some (.string b2):=by simpa using Ab x16 1 rfl
     have b2':W.cell? (B16,2)=some (.string c2):=by simpa using Ab x16 2 rfl
     clear x13 x16;first|(simp[Region.binds]at hpre;done)|simp[Region.binds]at hpre|clear hpre
    iterate 6
     ·exact ip
    ·obtain rfl:=hm0 hL;go_simp;refine(Hcall.o w0' W hE.sz hE.i1 hE.i2 hE.st).mono ?_;rintro e w5 ⟨rfl,ha5,hk5⟩;exact hK _ _ _ rfl Ac ⟨w0',_,{hE with st:=ha5},fun h=>by simp at h,R8,R9⟩ aI
    ·exact ip
    ·rw[if_pos cx];refine wp_store_mid 50 _ _ rfl w 0 ([.string a1,.string b1,.string c1]:List Value).toArray rfl ff hE.t9 aL bh ?_;exact hK undef _ _ Ac Ac ⟨_,mm,hE.store (b:=w.heap.size) [.string a1,.string b1,.string c1] aH aH aH aH,hm0,fun _=>aa _ _ _ _ hE.t9',fun h=>ak (R9 h) _ _ _ (.inl (show w.heap.size+1≠w.heap.size by omega))⟩ rfl
    ·rw[if_pos cx];refine wp_store_mid 50 _ _ rfl (w.heap.size+1) 0 ([.string a2,.string b2,.string c2]:List Value).toArray rfl ff hE.t10 aL bh ?_;exact hK undef _ _ Ac Ac ⟨_,mm,hE.store (b:=(w.heap.size+1)) [.string a2,.string b2,.string c2] aH aH aH aH,hm0,fun h=>ak (R8 h) _ _ _ (.inl (show w.heap.size≠w.heap.size+1 by omega)),fun _=>aa _ _ _ _ hE.t10'⟩ rfl
    ·exact ip
   rintro L U W hL hφ hR;have e7:U 7=.pointer (some ⟨w4.heap.size+1,0,none⟩):=hφ 7 aJ;have e10:U 10=.bool r1:=hφ 10 aJ;simp only[e7,e10];clear hφ;obtain⟨w0',mm,hE,_,h8,h9⟩:=hR;have Z1:=Aa (Ah (h8 (hL 8 aJ)) (show w.heap.size<w0'.heap.size by have:=hE.sz;have:=hE.lw;omega) hE.st.1);have Z2:=Aa (Ah (h9 (hL 9 aJ)) (show w.heap.size+1<w0'.heap.size by have:=hE.sz;have:=hE.lw;omega) hE.st.1);have HEv:=Aa hE;clear hL hE h8 h9;go_wp2_with fail;refine aF (v:=.tuple #[.pointer (some ⟨w4.heap.size+1,0,none⟩),.agg ([.string a1,.string b1,.string c1]:List Value).toArray,.agg ([.string a2,.string b2,.string c2]:List Value).toArray,.bool r1]) ?_ rfl ?_
   ·exact Mr results29 _ _ w.heap.size (w.heap.size+1) [.string a1,.string b1,.string c1] [.string a2,.string b2,.string c2] _ _ _ rfl rfl rfl rfl Z1.o Z2.o underlying50 rfl aL aL
   have hE:=HEv.o;have hs:=hE.sz;obtain⟨s1,s2,s3,s4,s5,s6⟩:=hE.st;rw[hs]at s2 s3 s4;exact⟨_,_,_,_,_,_,_,by rw[Hev.o],hE.be.trans (s1.mono hE.be.size),fun _=>⟨_,_,k,l,xs,ys,w4.heap.size+1,q1,q2,rfl,rfl,rfl,rfl,rfl,E1.o,E2.o,E3.o,E4.o,E5.o,E6.o,by have:=hE.lw;omega,by omega,s3,s4,(hE.i1.below s1).mono aH,(hE.i2.below s1).mono aH⟩⟩
theorem Qhk.kinds{o1 o2:Option (List Ty × Kd)}{w w':World}{e:Ending}(h:Qhk o1 o2 w e w'):∃(q:Option Addr) (a1 b1 c1 a2 b2 c2:ByteArray),e=.returned (.tuple #[.pointer q,.agg #[.string a1,.string b1,.string c1],.agg #[.string a2,.string b2,.string c2],.bool (Ef o1 o2)])/\Below w w w':=by
 obtain⟨q,a1,b1,c1,a2,b2,c2,h1,h2,_⟩:=h;exact⟨q,a1,b1,c1,a2,b2,c2,h1,h2⟩
theorem Qex(s1 d1 s2 d2:List UInt8)(w:World)(h1:s1.length<=4000000)(h2:d1.length<=4000000)(h3:s2.length<=4000000)(h4:d2.length<=4000000):
  Calls prog 50 #[s1,d1,s2,d2] w fun e w'=>e=.returned (.bool (Ef (At s1 d1) (At s2 d2)))/\Below w w w':=by
 have Hr:=Aa (fun W=>Vo s1 d1 s2 d2 W h1 h2 h3 h4);generalize At s1 d1=o1 at *;generalize At s2 d2=o2 at *;go_enter func50,ntmps50;go_wp2_with fail;refine(Hr.o _).mono ?_;rintro e w1 hp;obtain⟨q,a1,b1,c1,a2,b2,c2,rfl,hb1⟩:=hp.kinds;have Hb1:=Aa hb1;clear hb1 hp;go_wp2_with fail;go_ret;exact⟨rfl,(Hb1.o.alloc Hb1.o.size _).alloc (by simp;have:=Hb1.o.size;omega) _⟩
end
end Go.Proofs.YtbdibdghphdcdaaGreatDoor
