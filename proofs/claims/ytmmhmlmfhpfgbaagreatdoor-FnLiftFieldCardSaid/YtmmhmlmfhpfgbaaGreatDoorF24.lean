/- Texts joined. Conditions: as each theorem names them. -/
import Derived.Deep.CutRange
import Derived.Deep.DeepCutAuto
import Derived.Test.YtmmhmlmfhpfgbaaGreatDoorF22
set_option maxRecDepth 100000
set_option maxHeartbeats 32000000
set_option linter.unusedVariables false
set_option linter.unusedSimpArgs false
namespace Go.Proofs.YtmmhmlmfhpfgbaaGreatDoor
open Go.RowKit Go.Proofs.Tryz
def Jt(S:List Ty)(k:Kd)(N B:Nat)(w:World)(g p:Nat)(e:Ending)(w':World):Prop:=
 ∃b v q,e=.returned (.pointer (some ⟨b,0,none⟩))/\Ha S N k v/\(Az v).length<=B/\q<=p+B/\Fl (fun c=>w.heap.size<=c) w' b (Cd S k v)/\Fg w' g q/\w.grownBy w' (some g)
theorem Ee.gr{base B g:Nat}{W W':World}{h0 h1 tu tv ku kv:Value}{gs:List Nat}{xs:List (Nat × SV)}(h:Ee base B W h0 h1 tu tv ku kv gs xs)(hg:W.grownBy W' (some g))(hl:g<B):Ee base B W' h0 h1 tu tv ku kv gs xs:=by
 have hn:some B≠some g:=fun e=>fy;have hB:=h.hB;exact⟨ac h.lt hg.size,ad h.bs hg.size,h.hB,h.bk.grown h.lt hg hn,hg.cell h.c0 hn,hg.cell h.c1 hn,hg.cell h.c2 hn,hg.cell h.c3 hn,h.tags.kept hg (Ng (fun k hk=>(h.tags.lt k hk).1) aH),h.row.kept hg (Ng (fun k hk=>(h.row.lt k hk).1) aH),fun y hy=>(h.kids y hy).grown hg fun c hc e=>by injection e with e;omega⟩
theorem Ee.set1{base B:Nat}{W:World}{h0 h1 tu tv ku kv:Value}{gs:List Nat}{xs:List (Nat × SV)}(h:Ee base B W h0 h1 tu tv ku kv gs xs)(u:Value):Ee base B (W.setCell ⟨B,1,none⟩ u) h0 u tu tv ku kv gs xs:=by
 have hg:=Am W B 1 u;exact kU
theorem Fg.row{w w':World}{g p base:Nat}{r:Option Nat}(h:Fg w g p)(hg:w.grownBy w' r)(hr:∀k,r=some k->base<=k)(hb:g<base):Fg w' g p:=
 h.belowg ((Ao _ _).grown hg h.lt (fun k hk=>ac hb (hr k hk))) hg.size
theorem Fs{w0 w w':World}{g base:Nat}{r:Option Nat}(h:w0.grownBy w (some g))(hg:w.grownBy w' r)(hr:∀k,r=some k->base<=k)(hb:w0.heap.size<=base):w0.grownBy w' (some g):=
 ⟨hg.os.trans h.os,hg.tape.trans h.tape,hg.output.trans h.output,ad h.size hg.size,fun k hk hn=>(hg.block k (ac hk h.size) (fun e=>by have:=hr k e.symm;omega)).trans (h.block k hk hn)⟩
structure M7(w0:World)(g base B:Nat)(W1:World)(h0 h1 tv:Value)(A:Option Addr)(c:Nat)(gs:List Nat)(xs:List (Nat × SV))(F:SV->Nat->Prop)(lc lb la ls:Bool)(uc ub ua:Value)(W:World):Prop where
 s0:lc=false->W=W1
 s1:lc=true->lb=false->∃b v q,uc=.pointer (some ⟨b,0,none⟩)/\F v q/\Fg W g q/\w0.grownBy W (some g)/\Fl (fun c=>W1.heap.size<=c) W b v/\Ee base B W h0 h1 tv tv (.slice A xs.length c) (.slice A xs.length c) gs xs
 s2:lb=true->la=false->∃W8 b v q,W=W8.alloc (.cells #[.pointer (some ⟨b,0,none⟩)] 76)/\ub=.slice (some ⟨W8.heap.size,0,none⟩) 1 1/\F v q/\Fg W8 g q/\w0.grownBy W8 (some g)/\Fl (fun c=>W1.heap.size<=c) W8 b v/\Ee base B W8 h0 h1 tv tv (.slice A xs.length c) (.slice A xs.length c) gs xs
 s3:la=true->ls=false->∃b v q A6 c6,ua=.slice A6 (xs.length+1) c6/\F v q/\Fg W g q/\w0.grownBy W (some g)/\Ee base B W h0 h1 tv tv (.slice A xs.length c) ua gs (xs++[(b,v)])
 s4:ls=true->∃b v q A6 c6,F v q/\Fg W g q/\w0.grownBy W (some g)/\Ee base B W h0 h1 tv tv (.slice A6 (xs.length+1) c6) (.slice A6 (xs.length+1) c6) gs (xs++[(b,v)])
section
variable {w0 W1 W W':World} {g base B:Nat} {h0 h1 tv uc ub ua:Value} {A:Option Addr} {c:Nat} {gs:List Nat} {xs:List (Nat × SV)} {F:SV->Nat->Prop} {lc lb la ls:Bool}
theorem M7.start:M7 w0 g base B W1 h0 h1 tv A c gs xs F false false false false uc ub ua W1:=
 ⟨fun _=>rfl,fun h=>Bool.noConfusion h,fun h=>Bool.noConfusion h,fun h=>Bool.noConfusion h,fun h=>Bool.noConfusion h⟩
theorem M7.c3(h:M7 w0 g base B W1 h0 h1 tv A c gs xs F lc lb la ls uc ub ua W)(hl:Ee base B W1 h0 h1 tv tv (.slice A xs.length c) (.slice A xs.length c) gs xs)(hla:la=false):W.cell? (B,3)=some (.slice A xs.length c):=by
 cases ec:lc with
 |false=>rw[h.s0 ec];exact hl.c3
 |true=>
  cases eb:lb with
  |false=>obtain⟨_,_,_,_,_,_,_,_,hL⟩:=h.s1 ec eb;exact hL.c3
  |true=>obtain⟨W8,_,_,_,rfl,_,_,_,_,_,hL⟩:=h.s2 eb hla;exact(hL.after ((Ao _ _).alloc (An _) _)).c3
theorem M7.call{b:Nat}{v:SV}{q:Nat}(hw:w0.grownBy W1 (some g))(hl:Ee base B W1 h0 h1 tv tv (.slice A xs.length c) (.slice A xs.length c) gs xs)(hgB:g<B)(hb:lb=false)(ha:la=false)(hs:ls=false)(hF:F v q)(hR:Fg W g q)(hg:W1.grownBy W (some g))(hv:Fl (fun c=>W1.heap.size<=c) W b v):
  M7 w0 g base B W1 h0 h1 tv A c gs xs F true lb la ls b ub ua W:=by
 subst hb ha hs;exact⟨fun h=>Bool.noConfusion h,fun _ _=>⟨b,v,q,rfl,hF,hR,Ae hw hg,hv,hl.gr hg hgB⟩,fun h=>Bool.noConfusion h,fun h=>Bool.noConfusion h,fun h=>Bool.noConfusion h⟩
theorem M7.build(h:M7 w0 g base B W1 h0 h1 tv A c gs xs F lc lb la ls uc ub ua W)(hc:lc=true)(hb:lb=false)(ha:la=false)(hs:ls=false):∃b,uc=.pointer (some ⟨b,0,none⟩) /\
  M7 w0 g base B W1 h0 h1 tv A c gs xs F lc true la ls uc (.slice (W,0) 1 1) ua (W.alloc (.cells #[.pointer (some ⟨b,0,none⟩)] 76)):=by
 obtain⟨b,v,q,e,h2,h3,h4,h5,h6⟩:=h.s1 hc hb;subst ha hs;exact⟨b,e,fun h=>absurd (hc.symm.trans h) aJ,fun _ h=>Bool.noConfusion h,fun _ _=>⟨W,b,v,q,rfl,rfl,h2,h3,h4,h5,h6⟩,fun h=>Bool.noConfusion h,fun h=>Bool.noConfusion h⟩
theorem M7.app{W8:World}{b:Nat}{v:SV}{q:Nat}{u:Value}(hw:w0.heap.size<=B)(hgB:g<B)(hbs:base<=W1.heap.size)(hl1:Ee base B W1 h0 h1 tv tv (.slice A xs.length c) (.slice A xs.length c) gs xs)(hF:F v q)(hR:Fg W8 g q)(hg0:w0.grownBy W8 (some g))(hv:Fl (fun c=>W1.heap.size<=c) W8 b v)(hL:Ee base B W8 h0 h1 tv tv (.slice A xs.length c) (.slice A xs.length c) gs xs)
  (hc:lc=true) (hb:lb=true) (hs:ls=false) (hown:W.ownsRow base 76 1 u (xs.length+1) (Dx (xs.map (·.1))++[.pointer (some ⟨b,0,none⟩)])) (hg:W8.grownBy W (Value.slice A xs.length c).ownBlock) (hwh:u.ownBlock=(Value.slice A xs.length c).ownBlock\/∃k,u.ownBlock=some k/\W8.heap.size<=k):
  M7 w0 g base B W1 h0 h1 tv A c gs xs F lc lb true ls uc ub u W/\∃A6 c6,u=.slice A6 (xs.length+1) c6:=by
 have hk:Fl (fun c1=>base<=c1/\(Value.slice A xs.length c).ownBlock≠some c1/\tv.ownBlock≠some c1) W8 b v:=hv.mono fun c1 h1 _=>⟨ad hbs h1,fun e=>by have:=(hl1.row.lt c1 e).2;omega,fun e=>by have:=(hl1.tags.lt c1 e).2;omega⟩
 obtain⟨A6,c6,e6,hP,hB⟩:=hL.push (x:=(b,v)) hk hown hg hwh;have e6':u=.slice A6 (xs.length+1) c6:=fA;have hrow:∀k,(Value.slice A xs.length c).ownBlock=some k->base<=k:=fun k hk=>(hL.row.lt k hk).1;have hB':=hL.hB;subst hs;exact⟨⟨fun h=>absurd (hc.symm.trans h) aJ,fun _ h=>absurd (hb.symm.trans h) aJ,fun _ h=>Bool.noConfusion h,fun _ _=>⟨b,v,q,A6,c6,e6',hF,hR.row hg hrow aH,Fs hg0 hg hrow aH,hP⟩,fun h=>Bool.noConfusion h⟩,A6,c6,e6'⟩
theorem M7.store(h:M7 w0 g base B W1 h0 h1 tv A c gs xs F lc lb la ls uc ub ua W)(hw:w0.heap.size<=B)(hgB:g<B)(hc:lc=true)(hb:lb=true)(ha:la=true)(hs:ls=false)(hW:W'=W.setCell ⟨B,3,none⟩ ua):M7 w0 g base B W1 h0 h1 tv A c gs xs F lc lb la true uc ub ua W':=by
 subst hW;obtain⟨b,v,q,A6,c6,e,hF,hR,hg,hL⟩:=h.s3 ha hs;have hgc:=Am W B 3 ua;refine⟨fun h=>absurd (hc.symm.trans h) aJ,fun _ h=>absurd (hb.symm.trans h) aJ,fun _ h=>absurd (ha.symm.trans h) aJ,fun _ h=>Bool.noConfusion h,fun _=>⟨b,v,q,A6,c6,hF,hR.row (base:=B) hgc (fun k e=>by injection e with e;omega) hgB,Fs hg hgc (base:=B) (fun k e=>by injection e with e;omega) hw,?_⟩⟩;have:=hL.set3;rw[e]at this ⊢;exact this
end
section
attribute [local go_sem] Qoe Qnf Qmu Qk2 ByteArray.mk_append_mk
def Xn(W:World)(b:Nat)(ms:List Nat):Prop:=W.heap[b]?=some (.cells (De ms).toArray 3 (0,0))
theorem Xn.new(W:World)(ms:List Nat):Xn (W.alloc (.cells (De ms).toArray 3)) W.heap.size ms:=heap_alloc_new W _
theorem Xn.lt{W:World}{b:Nat}{ms:List Nat}(h:Xn W b ms):b<W.heap.size:=by
 rcases aG b W.heap.size with h1|h1
 ·exact h1
 unfold Xn at h;rw[Array.getElem?_eq_none h1]at h;cases h
theorem Xn.grown{W W':World}{b r:Nat}{ms:List Nat}(h:Xn W b ms)(hg:W.grownBy W' (some r))(hne:b≠r):Xn W' b ms:=
 (hg.block b h.lt (fun e=>hne (Option.some.inj e))).trans h
theorem Xn.cell{W:World}{b j:Nat}{ms:List Nat}(h:Xn W b ms)(hj:j<ms.length):∃m,m∈ms/\W.cell? ⟨b,j,none⟩=(m:Int):=
 ⟨ms[j],ae hj,by unfold Xn at h;simp[World.cell?,h,De,hj]⟩
def Qcb:List (List UInt8):=[[],[97],[104,105],[97,32,98],[122,122,57],[97,98,99,100,101,102,103,104,105,106,107,108]]
theorem Qes(g p:Nat)(w:World)(h:Fg w g p)(hp:p<=900000000):
  Calls prog 166 #[g] w (fun e w'=>∃s,e=.returned (.string ⟨(39::(s++[39]):List UInt8).toArray⟩)/\Dt s=true/\Fg w' g (p+1)/\w.grownBy w' (some g)):=by
 have hgl:=h.lt;have HR:=Aa h;clear h;go_enter func166,ntmps166;go_wp2_with fail;refine(Bs g p 6 _ (HR.o.dalloc _) aH aH aH).mono ?_;rintro e w1 ⟨x,rfl,hx1,_,hR1,hg1⟩;have hx:x<Qcb.length:=by show x<6;omega
 obtain⟨b,hbm,hcell⟩:=((J1.new w Qcb).grown hg1 aH).cell hx;have hbl:Dt b=true:=(show ∀b∈Qcb,Dt b=true by decide) b hbm;have hbn:b.length<=12:=(show ∀b∈Qcb,b.length<=12 by decide) b hbm;have i1:(0:Int)<=(x:Int):=aH;have i2:(x:Int)<6:=aH;have HR1:=Aa hR1;have Hg1:=Aa (Ae (World.grownBy_alloc w _ (some g)) hg1);have Hbl:=Aa hbl;clear hR1 hg1 hbm HR hx hx1 hbl;go_wp2_with fail;go_ret;exact⟨b,by simp,Hbl.o,HR1.o,Hg1.o⟩
section
variable {S:List Ty} {k:Kd}
theorem Yy{c:UInt8}(hs0:k.signs=[])(hb:k.base=[c])(hc:c≠64):Ax k=[c]:=by
 unfold Ax Bu;rw[hs0,hb];by_cases h:([c]:List UInt8)=[64]
 ·injection h with h;exact absurd h hc
 simp[h]
end
theorem Qof(S:List Ty)(k:Kd)(hs0:k.signs=[])(hb:k.base=[110])(xv:Value)(d:Int)(N:Nat)(g p:Nat)(w:World)(hR:Fg w g p)(hp:p<=900000000):
  Calls prog 113 #[g,xv,.string ⟨(Ax k).toArray⟩,.int .i64 d] w (Jt S k (N+1) 100 w g p):=by
 have hgl:=hR.lt;have HR:=Aa hR;have Hk:=Aa (Yy hs0 hb aJ);have HS0:=Aa hs0;have HB0:=Aa hb;rw[Hk.o];clear hR hs0 hb;go_enter func113,ntmps113;go_wp2_with fail;obtain⟨W1,hW1⟩:∃W1,W1=w.alloc (.cells #[([110]:List UInt8),a6,.slice none 0 0,.slice none 0 0] 148):=⟨_,rfl⟩
 have hz1:W1.heap.size=w.heap.size+1:=cG;have HS1:=@Aa (Ee (w.heap.size+1) w.heap.size W1 ([110]:List UInt8) a6 (.slice none 0 0) (.slice none 0 0) (.slice none 0 0) (.slice none 0 0) [] []) cU;have HR1:=Aa (show Fg W1 g p by rw[hW1];exact HR.o.dalloc _);have Hg1:=Aa (show w.grownBy W1 (some g)by rw[hW1];exact World.grownBy_alloc w _ _);rw[<-hW1];clear hW1 HR;refine(Bs g p 200 _ HR1.o aH aH aH).mono ?_;rintro e w2 ⟨x,rfl,hx1,_,hR2,hg2⟩;have hx:x<=999999:=aH;have HS2:=Aa (HS1.o.gr hg2 hgl);have HR2:=Aa hR2;have Hg2:=Aa (Ae Hg1.o hg2);have hz2:=hg2.size;clear hR2 hg2 hx1 HS1 HR1 Hg1;go_wp2_with fail;obtain⟨ms,hms,hml,hme⟩:∃ms:List Nat,(∀m∈ms,m<=999999)/\ms.length=8/\(#[.int .i64 0,.int .i64 5,(x:Int),.int .i64 127,.int .i64 128,.int .i64 16383,.int .i64 16384,.int .i64 999999]:Array Value)=(De ms).toArray:=⟨[0,5,x,127,128,16383,16384,999999],by simp;omega,rfl,by simp[De]⟩
 rw[hme];refine(Bs g (p+1) 8 _ (HR2.o.dalloc _) aH aH aH).mono ?_;rintro e w3 ⟨y,rfl,hy1,_,hR3,hg3⟩;have hy:y<ms.length:=aH;obtain⟨m,hmm,hcell⟩:=((Xn.new w2 ms).grown hg3 aH).cell hy;have hm9:=hms m hmm;have i1:(0:Int)<=(y:Int):=aH;have i2:(y:Int)<8:=aH;have HS3:=Aa ((HS2.o.after ((Ao _ _).alloc (An _) _)).gr hg3 hgl);have HR3:=Aa hR3;have Hg3:=Aa (Ae Hg2.o (Ae (World.grownBy_alloc w2 _ (some g)) hg3));clear hR3 hg3 hy1 hy HS2 HR2 Hg2 hms hmm hme;go_wp2_with fail;refine(Gj m m _ (An _) aH).mono ?_;rintro e w4 ⟨rfl,hb4⟩;have HS4:=Aa (HS3.o.after hb4);have HR4:=Aa (HR3.o.below hb4);have Hg4:=Aa (Ae Hg3.o (Cc hb4 (some g)));have hdl:=Da 5 m aH;clear hb4 HS3 HR3 Hg3 hcell;have c1:=HS4.o.c1;have f1:=HS4.o.bk.live 1;go_wp2_with fail;go_ret;refine⟨w.heap.size,.mk 110 (Ba m) 0 [],p+1+1,rfl,.n HS0.o HB0.o hm9,by simp[Az,D3,H4];omega,by omega,?_,HR4.o.row (Am _ w 1 _) (base:=w.heap.size) (fun k e=>by injection e with e;omega) hgl,Fs Hg4.o (Am _ w 1 _) (base:=w.heap.size) (fun k e=>by injection e with e;omega) (An _)⟩;have:=(HS4.o.set1 (Ba m:List UInt8)).done aK aK;rw[Yk,Hk.o];exact this
theorem Qom(S:List Ty)(k:Kd)(hs0:k.signs=[])(hb:k.base=[116])(xv:Value)(d:Int)(N:Nat)(g p:Nat)(w:World)(hR:Fg w g p)(hp:p<=900000000):
  Calls prog 113 #[g,xv,.string ⟨(Ax k).toArray⟩,.int .i64 d] w (Jt S k (N+1) 100 w g p):=by
 have hgl:=hR.lt;have HR:=Aa hR;have Hk:=Aa (Yy hs0 hb aJ);have HS0:=Aa hs0;have HB0:=Aa hb;rw[Hk.o];clear hR hs0 hb;go_enter func113,ntmps113;go_wp2_with fail;obtain⟨W1,hW1⟩:∃W1,W1=w.alloc (.cells #[([116]:List UInt8),a6,.slice none 0 0,.slice none 0 0] 148):=⟨_,rfl⟩
 have hz1:W1.heap.size=w.heap.size+1:=cG;have HS1:=@Aa (Ee (w.heap.size+1) w.heap.size W1 ([116]:List UInt8) a6 (.slice none 0 0) (.slice none 0 0) (.slice none 0 0) (.slice none 0 0) [] []) cU;have HR1:=Aa (show Fg W1 g p by rw[hW1];exact HR.o.dalloc _);have Hg1:=Aa (show w.grownBy W1 (some g)by rw[hW1];exact World.grownBy_alloc w _ _);rw[<-hW1];clear hW1 HR;refine(Qes g p _ HR1.o aH).mono ?_;rintro e w2 ⟨s,rfl,hs,hR2,hg2⟩;have HS2:=Aa (HS1.o.gr hg2 hgl);have HR2:=Aa hR2;have Hg2:=Aa (Ae Hg1.o hg2);have Hs:=Aa hs;have hsl:s.length<=12:=by have:=hs;unfold Dt at this;simp at this;exact this.1
 clear hR2 hg2 HS1 HR1 Hg1 hs;have c1:=HS2.o.c1;have f1:=HS2.o.bk.live 1;go_wp2_with fail;go_ret;refine⟨w.heap.size,.mk 116 s 0 [],p+1,rfl,.t HS0.o HB0.o Hs.o,by simp[Az,D3,H4];omega,by omega,?_,HR2.o.row (Am _ w 1 _) (base:=w.heap.size) (fun k e=>by injection e with e;omega) hgl,Fs Hg2.o (Am _ w 1 _) (base:=w.heap.size) (fun k e=>by injection e with e;omega) (An _)⟩;have:=(HS2.o.set1 (.string ⟨(39::(s++[39]):List UInt8).toArray⟩)).done aK aK;rw[Tt,Hk.o];exact this
theorem Qos(S:List Ty)(k:Kd)(hs0:k.signs=[])(hb:k.base=[102])(xv:Value)(d:Int)(N:Nat)(g p:Nat)(w:World)(hR:Fg w g p)(hp:p<=900000000):
  Calls prog 113 #[g,xv,.string ⟨(Ax k).toArray⟩,.int .i64 d] w (Jt S k (N+1) 100 w g p):=by
 have hgl:=hR.lt;have HR:=Aa hR;have Hk:=Aa (Yy hs0 hb aJ);have HS0:=Aa hs0;have HB0:=Aa hb;rw[Hk.o];clear hR hs0 hb;go_enter func113,ntmps113;go_wp2_with fail;obtain⟨W1,hW1⟩:∃W1,W1=w.alloc (.cells #[([102]:List UInt8),a6,.slice none 0 0,.slice none 0 0] 148):=⟨_,rfl⟩
 have hz1:W1.heap.size=w.heap.size+1:=cG;have HS1:=@Aa (Ee (w.heap.size+1) w.heap.size W1 ([102]:List UInt8) a6 (.slice none 0 0) (.slice none 0 0) (.slice none 0 0) (.slice none 0 0) [] []) cU;have HR1:=Aa (show Fg W1 g p by rw[hW1];exact HR.o.dalloc _);have Hg1:=Aa (show w.grownBy W1 (some g)by rw[hW1];exact World.grownBy_alloc w _ _);rw[<-hW1];clear hW1 HR;refine(Bs g p 2 _ (HR1.o.dalloc _) aH aH aH).mono ?_;rintro e w2 ⟨x,rfl,hx1,_,hR2,hg2⟩;have hx:x < [Ev,M5].length:=by show x<2;omega
 obtain⟨s,hsm,hcell⟩:=((J1.new W1 [Ev,M5]).grown hg2 aH).cell hx;rw[hz1]at hcell;obtain⟨b,rfl⟩:∃b:Bool,s=if b then Ev else M5:=by
  simp at hsm;rcases hsm with rfl|rfl
  ·exact⟨true,rfl⟩
  exact⟨false,rfl⟩
 have i1:(0:Int)<=(x:Int):=aH;have i2:(x:Int)<2:=aH;have HS2:=Aa ((HS1.o.after ((Ao _ _).alloc (An _) _)).gr hg2 hgl);have HR2:=Aa hR2;have Hg2:=Aa (Ae Hg1.o (Ae (World.grownBy_alloc W1 _ (some g)) hg2));have hsl:(if b then Ev else M5).length<=3:=by cases b<;>decide
 have Hok:=Aa (fun(h0:k.signs=[]) (h1:k.base=[102])=>Ha.f (S:=S) (d:=N) (k:=k) (b:=b) h0 h1);generalize (if b then Ev else M5)=s at *;clear hR2 hg2 HS1 HR1 Hg1 hx1 hx hsm;have c1:=HS2.o.c1;have f1:=HS2.o.bk.live 1;go_wp2_with fail;go_ret;refine⟨w.heap.size,.mk 102 s 0 [],p+1,rfl,Hok.o HS0.o HB0.o,by simp[Az,D3,H4];omega,by omega,?_,HR2.o.row (Am _ w 1 _) (base:=w.heap.size) (fun k e=>by injection e with e;omega) hgl,Fs Hg2.o (Am _ w 1 _) (base:=w.heap.size) (fun k e=>by injection e with e;omega) (An _)⟩;have:=(HS2.o.set1 (s:List UInt8)).done aK aK;rw[Tz,Hk.o];exact this
def Vx(xs:List (Ty × Value))(xv:Value)(k:Kd)(d:Int)(N B:Nat):Prop:=∀(g p:Nat) (W:World),Gb W xv xs->Fg W g p->p+B<=900000000 ->
 Calls prog 113 #[g,xv,.string ⟨(Ax k).toArray⟩,.int .i64 d] W (Jt (Ad xs) k N B W g p)
def DvF(S:List Ty)(k:Kd)(N B p:Nat)(sv:SV)(q:Nat):Prop:=∃v,sv=Cd S k v/\Ha S N k v/\(Az v).length<=B/\q<=p+B
theorem Zu(c:UInt8)(ps:List (List UInt8))(p:List UInt8):(Aw c (ps++[p])).length<=(Aw c ps).length+p.length+1:=by
 rw[Bw,Bw];unfold Dh;rw[az,List.sum_append];simp;omega
theorem Qfw(xs:List (Ty × Value))(A0:Option Addr)(c0:Nat)(k:Kd)(sg:List UInt8)(hsg:k.signs=91::sg)(hk:Ck k)(d:Int)(hd:-1000<=d)(hd2:d<=1000)(N B:Nat)(H:0<d->Vx xs (.slice A0 xs.length c0) k.part (d - 1) N B)(hB:100<=B):Vx xs (.slice A0 xs.length c0) k d (N+1) (8*B+100):=by
 intro g p w hsc hR hp;have hgl:=hR.lt;have HR:=Aa hR;have HSc:=Aa hsc;have hkp:Ax k=91::Ax k.part:=dD;have hkl:(Ax k).length<=100:=cd;have Hsv:=Aa (fun ks=>hkp ▸ Qn (Ad xs) k ks);have Hok:=Aa (fun ks (hl:ks.length<=20) (h:∀x∈ks,Ha (Ad xs) N k.part x)=>Ha.lst (S:=Ad xs) hsg hl h);unfold Vx at H;rw[hkp]at hkl ⊢;generalize Ax k.part=kp at *;have HC:=Aa H;have hkl2:kp.length<=100:=dB;obtain⟨xv,hxv⟩:∃xv:Value,xv=.slice A0 xs.length c0:=⟨_,rfl⟩
 rw[<-hxv]at HSc HC ⊢;clear hR hsc hkp hsg hkl hk H hxv;go_enter func113,ntmps113;go_wp2_with fail;obtain⟨W1,hW1⟩:∃W1,W1=w.alloc (.cells #[(91::kp:List UInt8),a6,.slice none 0 0,.slice none 0 0] 148):=⟨_,rfl⟩
 have hz1:W1.heap.size=w.heap.size+1:=cG;have HS1:=@Aa (Ee (w.heap.size+1) w.heap.size W1 (91::kp:List UInt8) a6 (.slice none 0 0) (.slice none 0 0) (.slice none 0 0) (.slice none 0 0) [] []) cU;have HR1:=Aa (show Fg W1 g p by rw[hW1];exact HR.o.dalloc _);have Hg1:=Aa (show w.grownBy W1 (some g)by rw[hW1];exact World.grownBy_alloc w _ _);rw[<-hW1];clear hW1;refine(Bs g p 4 _ HR1.o aH aH aH).mono ?_;rintro e w2 ⟨y,rfl,hy1,_,hR2,hg2⟩;have hy:y<=3:=aH;have HS2:=Aa (HS1.o.gr hg2 hgl);have HR2:=Aa hR2;have Hg2:=Aa (Ae Hg1.o hg2);clear hR2 hg2 hy1 HS1 HR1 Hg1;go_wp2_with fail;go_loopw [10] (fun m wr=>∃(x q:Nat) (A:Option Addr) (c:Nat) (xk:List (Nat × SV)),m=(x:Int)/\xk.length+x<=3/\q<=p+1+xk.length*B/\Hid (∃ks:List Vl,xk.map (·.2)=ks.map (Cd (Ad xs) k.part)/\(∀v∈ks,Ha (Ad xs) N k.part v)/\(Aw 44 (ks.map Az)).length<=xk.length*(B+1))/\Hid (Fg wr g q)/\Hid (w.grownBy wr (some g))/\Hid (Ee (w.heap.size+1) w.heap.size wr (91::kp:List UInt8) a6 (.slice none 0 0) (.slice none 0 0) (.slice A xk.length c) (.slice A xk.length c) [] xk)) (fun m _=>(intOf m).toNat)
 case atStart=>exact⟨y,p+1,none,0,[],rfl,by simp;omega,by simp,⟨[],rfl,by simp,by simp[Aw]⟩,HR2.o,Hg2.o,HS2.o⟩
 case round=>
  obtain⟨x,q,A,c,xk,rfl,hxl,hq,hks,hRr,hgr,hSr⟩:=hrel;have hx0:(0:Int)<=(x:Int):=aH;have hzr:w.heap.size+1<=wr.heap.size:=hSr.o.bs;by_cases hgo:0<x/\0<d
  ·obtain⟨hx,hdp⟩:=hgo;have hxi:(0:Int)<(x:Int):=aH;have hqB:q+B<=900000000:=by
    have:xk.length*B<=2*B:=Nat.mul_le_mul_right _ aH;omega
   have HC2:=Aa (HC.o hdp);have hwd:IntKind.i64.wrap (d - 1)=d - 1:=IntWalk.i64_in _ aH;go_upto_region 16 with fail
   obtain⟨W9,hW9⟩:∃W9,W9=wr.drew:=⟨_,rfl⟩
   have HS9:=@Aa (Ee (w.heap.size+1) w.heap.size W9 (91::kp:List UInt8) a6 (.slice none 0 0) (.slice none 0 0) (.slice A xk.length c) (.slice A xk.length c) [] xk) (by rw[hW9];exact hSr.o.after (Ao _ _).drew);have HR9:=Aa (show Fg W9 g q by rw[hW9];exact hRr.o.ddrew);have Hg9:=Aa (show w.grownBy W9 (some g)by rw[hW9];exact Gx hgr.o);have HX9:=@Aa (Gb W9 xv xs) (HSc.o.grown HR.o Hg9.o);have HW9:=Aa hW9;clear hW9;have HC:=HC2;clear HC2;refine Jd [61,62,63,64,65,66,67,68,69,70,71,72,73,74,75,76,999]
    (fun ix v W=>match ix with|0=>v=w.heap.size|1=>v=w.heap.size|2=>v=w.heap.size|3=>v=(w,3)|4=>v=.slice A xk.length c|5=>v=g|6=>v=xv|7=>v=(91::kp:List UInt8)|8=>v=(kp:List UInt8)|9=>v=.int .i64 d|10=>v=.int .i64 (d - 1)|14=>v=w.heap.size|15=>v=(w,3)|_=>True)
    (fun L U W=>M7 w g (w.heap.size+1) w.heap.size W9 (91::kp:List UInt8) a6 (.slice none 0 0) A c [] xk (DvF (Ad xs) k.part N B q) (L 11) (L 12) (L 13) (L 16) (U 11) (U 12) (U 13) W) (by rw[<-HW9.o];exact M7.start) ?_ ?_
   ·repeat (first|exact Ak.nil|(refine Ak.cons ?_ ?_;rotate_left))
    all_goals
     rintro L U W hL hpre HR Hdep K hK;first|(simp[Region.binds]at hpre;done)|simp[Region.binds]at hpre|clear hpre
    iterate 4
     ·exact hD
    ·exact j6
    iterate 3
     ·exact hD
    ·exact jo
    iterate 2
     ·exact hD
    ·exact iE
    ·exact iO
    ·obtain⟨l4,u4⟩:L 4=true/\U 4=.slice A xk.length c:=by
      exact kY
     have l12:L 12=true:=bB;have l11:L 11=true:=Np (Bb Hdep.o 12 11 rfl) l12;have h16:L 16=false:=Bb Hdep.o 16 13 rfl hL;obtain⟨W8,b8,v8,q8,hW,u12,hF,hR8,hg8,hv8,hL8⟩:=HR.o.s2 l12 hL;subst hW;rw[if_pos cr];refine Fp W8 (.tmp 65) (.tmp 73) 146 rfl (w.heap.size+1) 76 (.pointer none) 1 8 underlying146 So rfl aJ [b8] rfl bh (.slice A xk.length c) xk.length (Dx (xk.map (·.1))) u4 u12 hL8.row aU aH hL8.bs ?_;exact kZ
    iterate 2
     ·exact hD
    ·exact iH
   rintro L U W hL hφ hR;clear hφ;obtain⟨b6,v6,q6,A6,c6,⟨v7,rfl,k1,k2,k3⟩,hR6,hg6,hS6⟩:=hR.s4 (hL 16 aJ);obtain⟨ks,g1,g2,g3⟩:=hks.o;have el:(xk++[(b6,Cd (Ad xs) k.part v7)]).length=xk.length+1:=aK
   have Hks:=Aa (show ∃ks:List Vl,(xk++[(b6,Cd (Ad xs) k.part v7)]).map (·.2)=ks.map (Cd (Ad xs) k.part)/\(∀v∈ks,Ha (Ad xs) N k.part v)/\(Aw 44 (ks.map Az)).length<=(xk++[(b6,Cd (Ad xs) k.part v7)]).length*(B+1)from⟨ks++[v7],by simp[g1],fun v hv=>by rcases af.1 hv with h|h;exact g2 v h;rw[aq]at h;subst h;exact k1,by
    rw[az,el,Nat.succ_mul];exact ad (Zu 44 (ks.map Az) (Az v7)) aH⟩)
   have HR6:=Aa hR6;have Hg6:=Aa hg6;have HS6:=Aa hS6;have hq6:q6<=p+1+(xk.length+1)*B:=by rw[Nat.succ_mul];omega
   clear hR hL hR6 hg6 hS6 k1 k2 k3 g1 g2 g3;go_wp2_with fail;go_roundw
   case rel=>exact⟨x - 1,q6,A6,c6,xk++[(b6,Cd (Ad xs) k.part v7)],by go_num,by rw[el];omega,by rw[el];exact hq6,Hks.o,HR6.o,Hg6.o,by rw[el];exact HS6.o⟩
   case measure=>simp[intOf];omega
  ·have hfin:∀W,W=wr->True:=fun _ _=>Ac
   have HQ:=Aa (show Jt (Ad xs) k (N+1) (8*B+100) w g p (.returned w.heap.size) wr from by
    obtain⟨ks,g1,g2,g3⟩:=hks.o;have hkl:ks.length=xk.length:=by have:=congrArg List.length g1;simpa using this.symm
    have h3:xk.length*(B+1)<=3*(B+1):=Nat.mul_le_mul_right _ aH;have h4:xk.length*B<=3*B:=Nat.mul_le_mul_right _ aH;refine⟨w.heap.size,.mk 91 [] 0 ks,q,rfl,Hok.o ks aH g2,by rw[Ji];simp;omega,by omega,?_,hRr.o,hgr.o⟩;have:=hSr.o.done aK aH;rw[Hsv.o,<-g1];exact this)
   have HQd:=Aa (show Jt (Ad xs) k (N+1) (8*B+100) w g p (.returned w.heap.size) wr.drew from by
    obtain⟨b,v,q,h1,h2,h3,h4,h5,h6,h7⟩:=HQ.o;exact⟨b,v,q,h1,h2,h3,h4,h5.after (Ao _ _).drew,h6.ddrew,Gx h7⟩)
   by_cases hx:0<x
   ·have hxi:(0:Int)<(x:Int):=aH;have hdn:¬(0:Int)<d:=fun h=>hgo ⟨hx,h⟩;go_wp2_with fail;go_ret;first|exact HQ.o|exact HQd.o
   have hxi:¬(0:Int)<(x:Int):=aH;go_wp2_with fail;go_ret;first|exact HQ.o|exact HQd.o
theorem Qe7(xs:List (Ty × Value))(A0:Option Addr)(c0:Nat)(k:Kd)(sg:List UInt8)(hsg:k.signs=63::sg)(hk:Ck k)(d:Int)(hd:-1000<=d)(hd2:d<=1000)(N B:Nat)(H:0<d->Vx xs (.slice A0 xs.length c0) k.part (d - 1) N B)(hB:100<=B):Vx xs (.slice A0 xs.length c0) k d (N+1) (8*B+100):=by
 intro g p w hsc hR hp;have hgl:=hR.lt;have HR:=Aa hR;have HSc:=Aa hsc;have hkp:Ax k=63::Ax k.part:=dD;have hkl:(Ax k).length<=100:=cd;have Hsv:=Aa (fun ks=>hkp ▸ Kq (Ad xs) k ks);have Hno:=Aa (Ha.non (S:=Ad xs) (d:=N) hsg);have Hsm:=Aa (fun x (h:Ha (Ad xs) N k.part x)=>Ha.som (S:=Ad xs) hsg h);unfold Vx at H;rw[hkp]at hkl ⊢;generalize Ax k.part=kp at *;have HC0:=Aa H;have hkl2:kp.length<=100:=dB;obtain⟨xv,hxv⟩:∃xv:Value,xv=.slice A0 xs.length c0:=⟨_,rfl⟩
 rw[<-hxv]at HSc HC0 ⊢;clear hR hsc hkp hsg hkl hk H hxv;by_cases hdp:0<d
 ·go_enter func113,ntmps113;go_wp2_with fail;obtain⟨W1,hW1⟩:∃W1,W1=w.alloc (.cells #[(63::kp:List UInt8),a6,.slice none 0 0,.slice none 0 0] 148):=⟨_,rfl⟩
  have hz1:W1.heap.size=w.heap.size+1:=cG;have HS1:=@Aa (Ee (w.heap.size+1) w.heap.size W1 (63::kp:List UInt8) a6 (.slice none 0 0) (.slice none 0 0) (.slice none 0 0) (.slice none 0 0) [] []) cU;have HR1:=Aa (show Fg W1 g p by rw[hW1];exact HR.o.dalloc _);have Hg1:=Aa (show w.grownBy W1 (some g)by rw[hW1];exact World.grownBy_alloc w _ _)
  have HE:=Aa (fun q W (hq:q<=p+1) (h1:Ee (w.heap.size+1) w.heap.size W (63::kp:List UInt8) a6 (.slice none 0 0) (.slice none 0 0) (.slice none 0 0) (.slice none 0 0) [] []) (h2:Fg W g q) (h3:w.grownBy W (some g))=>show Jt (Ad xs) k (N+1) (8*B+100) w g p (.returned w.heap.size) W from by
   refine⟨w.heap.size,.mk 63 [] 0 [],q,rfl,Hno.o,by simp[Az,D3,H4],by omega,?_,h2,h3⟩;have:=h1.done aK aK;rw[Hsv.o];exact this)
  rw[<-hW1];clear hW1;refine(Bs g p 3 _ HR1.o aH aH aH).mono ?_;rintro e w2 ⟨y,rfl,hy1,_,hR2,hg2⟩;have HS2:=Aa (HS1.o.gr hg2 hgl);have HR2:=Aa hR2;have Hg2:=Aa (Ae Hg1.o hg2);clear hR2 hg2 hy1 HS1 HR1 Hg1;have HC:=Aa (HC0.o hdp);have hwd:IntKind.i64.wrap (d - 1)=d - 1:=IntWalk.i64_in _ aH;by_cases hy:0<y
  ·have hyi:(0:Int)<(y:Int):=aH;have hqB:p+1+B<=900000000:=aH;obtain⟨q,hq⟩:∃q,q=p+1:=⟨_,rfl⟩
   rw[<-hq]at hqB HR2;obtain⟨xk,hxk⟩:∃xk:List (Nat × SV),xk=[]:=⟨_,rfl⟩
   obtain⟨A,hA⟩:∃A:Option Addr,A=none:=⟨_,rfl⟩
   obtain⟨c,hc⟩:∃c:Nat,c=0:=⟨_,rfl⟩
   have hxl:xk.length<=3:=by rw[hxk];simp
   have HSq:=@Aa (Ee (w.heap.size+1) w.heap.size w2 (63::kp:List UInt8) a6 (.slice none 0 0) (.slice none 0 0) (.slice A xk.length c) (.slice A xk.length c) [] xk) (by subst hxk hA hc;exact HS2.o);have Hxk:=Aa hxk;clear hxk hA hc HS2;go_upto_region 20 with fail
   obtain⟨W9,hW9⟩:∃W9,W9=w2.drew:=⟨_,rfl⟩
   have HS9:=@Aa (Ee (w.heap.size+1) w.heap.size W9 (63::kp:List UInt8) a6 (.slice none 0 0) (.slice none 0 0) (.slice A xk.length c) (.slice A xk.length c) [] xk) (by rw[hW9];exact HSq.o.after (Ao _ _).drew);have HR9:=Aa (show Fg W9 g q by rw[hW9];exact HR2.o.ddrew);have Hg9:=Aa (show w.grownBy W9 (some g)by rw[hW9];exact Gx Hg2.o);have HX9:=@Aa (Gb W9 xv xs) (HSc.o.grown HR.o Hg9.o);have HW9:=Aa hW9;clear hW9;refine Jd [87,88,89,90,91,92,93,94,95,96,97,98,99,100,101,102,999]
    (fun ix v W=>match ix with|0=>v=w.heap.size|1=>v=w.heap.size|2=>v=w.heap.size|3=>v=(w,3)|4=>v=.slice A xk.length c|5=>v=g|6=>v=xv|7=>v=(63::kp:List UInt8)|8=>v=(kp:List UInt8)|9=>v=.int .i64 d|10=>v=.int .i64 (d - 1)|14=>v=w.heap.size|15=>v=(w,3)|_=>True)
    (fun L U W=>M7 w g (w.heap.size+1) w.heap.size W9 (63::kp:List UInt8) a6 (.slice none 0 0) A c [] xk (DvF (Ad xs) k.part N B q) (L 11) (L 12) (L 13) (L 16) (U 11) (U 12) (U 13) W) (by rw[<-HW9.o];exact M7.start) ?_ ?_
   ·repeat (first|exact Ak.nil|(refine Ak.cons ?_ ?_;rotate_left))
    all_goals
     rintro L U W hL hpre HR Hdep K hK;first|(simp[Region.binds]at hpre;done)|simp[Region.binds]at hpre|clear hpre
    iterate 4
     ·exact hD
    ·exact j6
    iterate 3
     ·exact hD
    ·exact jo
    iterate 2
     ·exact hD
    ·exact iE
    ·exact iO
    ·obtain⟨l4,u4⟩:L 4=true/\U 4=.slice A xk.length c:=by
      exact kY
     have l12:L 12=true:=bB;have l11:L 11=true:=Np (Bb Hdep.o 12 11 rfl) l12;have h16:L 16=false:=Bb Hdep.o 16 13 rfl hL;obtain⟨W8,b8,v8,q8,hW,u12,hF,hR8,hg8,hv8,hL8⟩:=HR.o.s2 l12 hL;subst hW;rw[if_pos cr];refine Fp W8 (.tmp 91) (.tmp 99) 146 rfl (w.heap.size+1) 76 (.pointer none) 1 8 underlying146 So rfl aJ [b8] rfl bh (.slice A xk.length c) xk.length (Dx (xk.map (·.1))) u4 u12 hL8.row aU aH hL8.bs ?_;exact kZ
    iterate 2
     ·exact hD
    ·exact iH
   rintro L U W hL hφ hR;clear hφ;obtain⟨b6,v6,q6,A6,c6,⟨v7,rfl,k1,k2,k3⟩,hR6,hg6,hS6⟩:=hR.s4 (hL 16 aJ)
   have HF:=Aa (show Jt (Ad xs) k (N+1) (8*B+100) w g p (.returned w.heap.size) W from by
    refine⟨w.heap.size,.mk 63 [] 0 [v7],q6,rfl,Hsm.o v7 k1,by simp[Az,D3,H4,Aw];omega,by omega,?_,hR6,hg6⟩;have el:(xk++[(b6,Cd (Ad xs) k.part v7)]).length=xk.length+1:=aK;rw[<-el]at hS6;have:=hS6.done aK aM;rw[Hsv.o];rw[Hxk.o]at this;exact this)
   clear hR hL hR6 hg6 hS6 k1 k2 k3;go_wp2_with fail;go_ret;exact HF.o
  have hyi:¬(0:Int)<(y:Int):=aH;have HF:=Aa (HE.o (p+1) w2 (An _) HS2.o HR2.o Hg2.o);go_wp2_with fail;go_ret;exact HF.o
 go_enter func113,ntmps113;go_wp2_with fail;obtain⟨W1,hW1⟩:∃W1,W1=w.alloc (.cells #[(63::kp:List UInt8),a6,.slice none 0 0,.slice none 0 0] 148):=⟨_,rfl⟩
 have hz1:W1.heap.size=w.heap.size+1:=cG;have HS1:=@Aa (Ee (w.heap.size+1) w.heap.size W1 (63::kp:List UInt8) a6 (.slice none 0 0) (.slice none 0 0) (.slice none 0 0) (.slice none 0 0) [] []) cU;have HR1:=Aa (show Fg W1 g p by rw[hW1];exact HR.o.dalloc _);have Hg1:=Aa (show w.grownBy W1 (some g)by rw[hW1];exact World.grownBy_alloc w _ _)
 have HE:=Aa (fun q W (hq:q<=p+1) (h1:Ee (w.heap.size+1) w.heap.size W (63::kp:List UInt8) a6 (.slice none 0 0) (.slice none 0 0) (.slice none 0 0) (.slice none 0 0) [] []) (h2:Fg W g q) (h3:w.grownBy W (some g))=>show Jt (Ad xs) k (N+1) (8*B+100) w g p (.returned w.heap.size) W from by
  refine⟨w.heap.size,.mk 63 [] 0 [],q,rfl,Hno.o,by simp[Az,D3,H4],by omega,?_,h2,h3⟩;have:=h1.done aK aK;rw[Hsv.o];exact this)
 have HF:=Aa (HE.o p W1 aH HS1.o HR1.o Hg1.o);rw[<-hW1];clear hW1;go_ret;exact HF.o
def DtC(xs:List (Ty × Value))(xv:Value)(k:Kd)(d:Int)(N B:Nat):Prop:=∀(g p:Nat) (W:World),Gb W xv xs->Fg W g p->p+B<=900000000 ->
 Calls prog 167 #[g,xv,.string ⟨(Ax k).toArray⟩,.int .i64 d] W (Jt (Ad xs) k N B W g p)
theorem Qaw{W:World}{b b' k n:Nat}{e:TypeId}{v:Value}{xs:List Value}(h:W.ownsRow b e k v n xs)(hb:b'<=b):W.ownsRow b' e k v n xs:=by
 obtain⟨h0,h|⟨g,cap,cur,h1,h2,h3⟩⟩:=h
 ·exact⟨h0,.inl h⟩
 exact⟨h0,.inr ⟨g,cap,cur,h1,ad hb h2,h3⟩⟩
theorem Qef(W:World)(T:TypeId)(u:Value):(W.alloc (.cells #[u] T)).ownsRow W.heap.size T 1 (.slice (W,0) 1 1) 1 [u]:=
 ⟨rfl,.inr ⟨W.heap.size,1,#[u],rfl,An _,heap_alloc_new W _,An _,by unfold maxLen;omega,rfl,rfl⟩⟩
section
variable {base B:Nat} {W W':World} {h0 h1:Value}
theorem Ee.putT{xs:List (Nat × SV)}{ku kv:Value}(h:Ee base B W h0 h1 (.slice none 0 0) (.slice none 0 0) ku kv [] xs)(g:Nat):
  Ee base B ((W.alloc (.cells #[(g:Int)] 3)).setCell ⟨B,2,none⟩ (.slice (W,0) 1 1)) h0 h1 (.slice (W,0) 1 1) (.slice (W,0) 1 1) ku kv [g] xs:=by
 have hb:Below W W (W.alloc (.cells #[(g:Int)] 3)):=(Ao _ _).alloc (An _) _;have h':=h.after hb;refine Ee.set2 (tu:=.slice none 0 0) ⟨h'.lt,h'.bs,h'.hB,h'.bk,h'.c0,h'.c1,h'.c2,h'.c3,Qaw (Qef W _ _) h.bs,h'.row,fun x hx=>(h.kids x hx).mono (fun c hc hl=>⟨hc.1,hc.2.1,fun e=>by injection e with e;simp only at e;omega⟩) |>.after hb⟩
theorem Ee.putK{gs:List Nat}{tv:Value}(h:Ee base B W h0 h1 tv tv (.slice none 0 0) (.slice none 0 0) gs []){b:Nat}{v:SV}(hv:Fl (fun c=>base<=c/\tv.ownBlock≠some c) W b v):
  Ee base B ((W.alloc (.cells #[b] 76)).setCell ⟨B,3,none⟩ (.slice (W,0) 1 1)) h0 h1 tv tv (.slice (W,0) 1 1) (.slice (W,0) 1 1) gs [(b,v)]:=by
 have hb:Below W W (W.alloc (.cells #[b] 76)):=(Ao _ _).alloc (An _) _;have h':=h.after hb;refine Ee.set3 (ku:=.slice none 0 0) ⟨h'.lt,h'.bs,h'.hB,h'.bk,h'.c0,h'.c1,h'.c2,h'.c3,h'.tags,Qaw (Qef W _ _) h.bs,fun x hx=>?_⟩;rw[aq]at hx;subst hx;exact(hv.mono (Q:=fun c=>base<=c/\(Value.slice (W,0) 1 1).ownBlock≠some c/\tv.ownBlock≠some c) fun c hc hl=>⟨hc.1,fun e=>by injection e with e;simp only at e;omega,hc.2⟩).after hb
end
structure Qms(g p B:Nat)(fs:List Fd)(W1:World)(lc lb ls:Bool)(ub:Value)(W:World):Prop where
 s0:lc=false->W=W1
 s1:lc=true->lb=false->Fg W g p/\W1.grownBy W (some g)
 s2:lb=true->ls=false->∃W8,∃f∈fs,W=W8.alloc (.cells #[(f.tag:Int)] 3)/\ub=.slice (some ⟨W8.heap.size,0,none⟩) 1 1/\Fg W8 g p/\W1.grownBy W8 (some g)
 s3:ls=true->∃W8,∃f∈fs,W=(W8.alloc (.cells #[(f.tag:Int)] 3)).setCell ⟨B,2,none⟩ (.slice (some ⟨W8.heap.size,0,none⟩) 1 1)/\Fg W8 g p/\W1.grownBy W8 (some g)
theorem Qms.old{g p B:Nat}{fs:List Fd}{W1 W:World}{lc lb ls:Bool}{ub:Value}(h:Qms g p B fs W1 lc lb ls ub W)(hs:ls=false){b o:Nat}{u:Value}(hb:b<W1.heap.size)(hg:b≠g)(hu:W1.cell? ⟨b,o,none⟩=some u):W.cell? ⟨b,o,none⟩=some u:=by
 have hn:some b≠some g:=fun e=>hg (by injection e);cases ec:lc with
 |false=>rw[h.s0 ec];exact hu
 |true=>
  cases eb:lb with
  |false=>exact(h.s1 ec eb).2.cell hu hn
  |true=>
   obtain⟨W8,f,_,rfl,_,_,h8⟩:=h.s2 eb hs;exact(((Ao W8.heap.size W8).alloc (An _) _).cell (p:=⟨b,o,none⟩) (ac hb h8.size)).trans (h8.cell hu hn)
theorem Qmr(xs:List (Ty × Value))(A0:Option Addr)(c0:Nat)(k:Kd)(hk:Ck k)(hsg:k.signs=[])(hbs:k.base=[64])(nm:List UInt8)(fs:List Fd)(A9:Option Addr)(c9:Nat)(hx:Dy xs k.name=some (⟨69,nm,fs⟩,.slice A9 fs.length c9))(htg:∀f∈fs,Au fs f.tag=some f)(h200:∀f∈fs,f.tag<=200)(hfk:∀f∈fs,(Ax f.kind).length<=20)(hn0:0<fs.length)(hn8:fs.length<=8)(d:Int)(hd:-1000<=d)(hd2:d<=1000)(N:Nat):DtC xs (.slice A0 xs.length c0) k d (N+1) 100:=by
 intro g p w hsc hR hp;have hgl:=hR.lt;have HR:=Aa hR;have HSc:=Aa hsc
 have Hr:=Aa (show ∀W,Gb W (.slice A0 xs.length c0) xs->Calls prog 101 #[.slice A0 xs.length c0,.string ⟨(Ax k).toArray⟩] W fun e w'=>e=.returned (.tuple #[.agg #[.int .u8 69,nm,.slice A9 fs.length c9],.bool true])/\Below W W w' from fun W hW=>by
  have h:=Ey (.slice A0 xs.length c0) xs k W hW hk;rw[show Jq xs k=some (⟨69,nm,fs⟩,.slice A9 fs.length c9)from by unfold Jq;rw[if_pos ⟨hsg,hbs⟩];exact hx]at h;exact h)
 have HFd:=@Aa (∀W,Gb W (.slice A0 xs.length c0) xs->Dq W (.slice A9 fs.length c9) fs) (fun W hW=>by obtain⟨_,_,_,_,_,hf⟩:=hW;exact hf _ (Cp hx).1);have hft:=(Cp hx).2.2;have hkl:(Ax k).length<=100:=cd;have Hok:=Aa (fun f (hf:f∈fs)=>Ha.enm (S:=Ad xs) (d:=N) hsg hbs hft rfl (htg f hf));have Hsv:=Aa (fun g=>Qq (Ad xs) k g);have Hh2:=Aa h200;have Hfk:=Aa hfk;generalize Ax k=kb at *;obtain⟨xv,hxv⟩:∃xv:Value,xv=.slice A0 xs.length c0:=⟨_,rfl⟩
 rw[<-hxv]at HSc Hr HFd ⊢;clear hR hsc hk hsg hbs hx hft htg h200 hfk hxv;go_enter func167,ntmps167;go_wp2_with fail;refine(Hr.o _ HSc.o).mono ?_;rintro e w1 ⟨rfl,hb1⟩;have HR1:=Aa (HR.o.below hb1);have Hb1:=Aa hb1;have hz1:=hb1.size;clear hb1;have hcv:=fun W=>Kz W (w1.heap.size+1) 1 69;obtain⟨W3,hW3⟩:∃W3,W3=((w1.alloc (.cells #[.int .u8 69,nm,.slice A9 fs.length c9] 143)).alloc (.cells #[.int .u8 69] 5)).alloc (.cells #[kb,([69]:List UInt8),.slice none 0 0,.slice none 0 0] 148):=⟨_,rfl⟩
 have hz3:W3.heap.size=w1.heap.size+3:=fr;have b13:Below w1 w1 W3:=gK
 have HS3:=Aa (show Ee (w1.heap.size+3) (w1.heap.size+2) W3 kb ([69]:List UInt8) (.slice none 0 0) (.slice none 0 0) (.slice none 0 0) (.slice none 0 0) [] []from by
  have:=Ee.new (W:=(w1.alloc (.cells #[.int .u8 69,nm,.slice A9 fs.length c9] 143)).alloc (.cells #[.int .u8 69] 5)) (T:=148) kb ([69]:List UInt8);rw[<-hW3]at this;simpa using this)
 have HR3:=Aa (HR1.o.below b13);have Hg3:=@Aa (w.grownBy W3 (some g)) (Cc (Hb1.o.trans (b13.mono Hb1.o.size)) _);have HX3:=@Aa (Gb W3 xv xs) (HSc.o.below (Hb1.o.trans (b13.mono Hb1.o.size)));have X2:=@Aa (W3.cell? (w1,2)=some (.slice A9 fs.length c9)) fD;have HF3:=Aa (HFd.o W3 HX3.o);have Hw3:=Aa hW3;clear hW3 b13 HR1;go_upto_region 5 with fail
 rw[<-Hw3.o];clear hcv Hw3;obtain⟨W4,hW4⟩:∃W4,W4=W3.drew:=⟨_,rfl⟩
 have hz4:W4.heap.size=w1.heap.size+3:=by rw[hW4];simpa using hz3
 have HS4:=@Aa (Ee (w1.heap.size+3) (w1.heap.size+2) W4 kb ([69]:List UInt8) (.slice none 0 0) (.slice none 0 0) (.slice none 0 0) (.slice none 0 0) [] []) (by rw[hW4];exact HS3.o.after (Ao _ _).drew);have HR4:=Aa (show Fg W4 g p by rw[hW4];exact HR3.o.ddrew);have Hg4:=Aa (show w.grownBy W4 (some g)by rw[hW4];exact Gx Hg3.o);have X4:=Aa (show W4.cell? (w1,2)=some (.slice A9 fs.length c9)by rw[hW4];exact X2.o);have HF4:=Aa (show Dq W4 (.slice A9 fs.length c9) fs by rw[hW4];exact HF3.o.below (Ao _ _).drew);have HW4:=Aa hW4;clear hW4 HS3 HR3 Hg3 X2 HF3;refine Jd [32,33,34,35,36,37,38,39,40,41,42,43,44,45,999]
  (fun ix v W=>match ix with|0=>v=(w1,2,0)|1=>v=(w1,2)|2=>v=.slice A9 fs.length c9|3=>v=g|4=>v=(w1,2)|5=>v=.slice A9 fs.length c9|6=>v=(fs.length:Int)|7=>∃x:Nat,v=(x:Int)/\x<fs.length|8=>∃x:Nat,x<fs.length/\∃b o:Nat,A9=some ⟨b,o,none⟩/\v=.pointer (some ⟨b,o+x*4,none⟩)|9=>∃x:Nat,x<fs.length/\∃b o:Nat,A9=some ⟨b,o,none⟩/\v=.pointer (some ⟨b,o+x*4,none⟩)|10=>∃f∈fs,v=(f.tag:Int)|12=>v=(w1,2,0)|13=>v=(w1,2,2)|_=>True)
  (fun L U W=>Qms g (p+1) (w1.heap.size+2) fs W4 (L 7) (L 11) (L 14) (U 11) W) (by rw[<-HW4.o];exact⟨fun _=>rfl,fun h=>Bool.noConfusion h,fun h=>Bool.noConfusion h,fun h=>Bool.noConfusion h⟩) ?_ ?_
 ·repeat (first|exact Ak.nil|(refine Ak.cons ?_ ?_;rotate_left))
  all_goals
   rintro L U W hL hpre HR Hdep K hK;first|(simp[Region.binds]at hpre;done)|simp[Region.binds]at hpre|clear hpre
  iterate 2
   ·exact hD
  ·have h14:L 14=false:=Bb Hdep.o 14 11 rfl (Bb Hdep.o 11 10 rfl (Bb Hdep.o 10 9 rfl (Bb Hdep.o 9 8 rfl (Bb Hdep.o 8 2 rfl hL))));exact lf
  iterate 2
   ·exact hD
  ·have h7:L 7=false:=Bb Hdep.o 7 6 rfl (Bb Hdep.o 6 5 rfl hL);have h14:L 14=false:=Bb Hdep.o 14 11 rfl (Bb Hdep.o 11 10 rfl (Bb Hdep.o 10 9 rfl (Bb Hdep.o 9 8 rfl (Bb Hdep.o 8 7 rfl h7))));exact lf
  ·exact hD
  ·have h11:L 11=false:=Bb Hdep.o 11 10 rfl (Bb Hdep.o 10 9 rfl (Bb Hdep.o 9 8 rfl (Bb Hdep.o 8 7 rfl hL)));have h14:L 14=false:=Bb Hdep.o 14 11 rfl h11;have hW:=HR.o.s0 hL;subst hW;go_simp;refine(Bs g p (fs.length:Int) _ HR4.o aH aH aH).mono ?_;rintro e w5 ⟨x,rfl,hx1,_,hR5,hg5⟩;exact hK _ _ _ ⟨x,rfl,by omega⟩ Ac ⟨fun h=>by simp at h,fun _ _=>⟨hR5,hg5⟩,fun h=>absurd (h11.symm.trans aR) aJ,fun h=>absurd (h14.symm.trans aR) aJ⟩ aI
  ·obtain⟨x,u7,hx⟩:∃x:Nat,U 7=(x:Int)/\x<fs.length:=fG;have u2:U 2=.slice A9 fs.length c9:=fF;obtain⟨A5,c5,e5,hl5,hr5⟩:=HF4.o;injection e5 with e5 _ e6;subst e5 e6;obtain⟨b5,o5,rfl,_,_⟩:=Dq.at_ hr5 hx;have i1:(0:Int)<=(x:Int):=aH;have i2:(x:Int)<(fs.length:Int):=aH;simp only[u7,u2];go_simp;exact hK _ _ _ ⟨x,hx,b5,o5,rfl,rfl⟩ Ac HR.o (by simp[Act.put,hpre,u7,u2])
  ·obtain⟨x,hx,b5,o5,eA,u8⟩:∃x:Nat,x<fs.length/\∃b o:Nat,A9=some ⟨b,o,none⟩/\U 8=.pointer (some ⟨b,o+x*4,none⟩):=dC;simp only[u8];go_simp;exact hK _ _ _ ⟨x,hx,b5,o5,eA,rfl⟩ Ac HR.o (by simp[Act.put,hpre,u8,eA])
  ·obtain⟨x,hx,b5,o5,eA,u9⟩:∃x:Nat,x<fs.length/\∃b o:Nat,A9=some ⟨b,o,none⟩/\U 9=.pointer (some ⟨b,o+x*4,none⟩):=dC;have l9:L 9=true:=fc;have l8:L 8=true:=Np (Bb Hdep.o 9 8 rfl) l9;have l7:L 7=true:=Np (Bb Hdep.o 8 7 rfl) l8;have h11:L 11=false:=Bb Hdep.o 11 10 rfl hL;obtain⟨hR5,hg5⟩:=HR.o.s1 l7 h11;obtain⟨A5,c5,e5,hl5,hr5⟩:=HF4.o.grown HR4.o hg5;injection e5 with e5 _ e6;subst e5 e6;obtain⟨b6,o6,eA6,_,y0,_,_,_⟩:=Dq.at_ hr5 hx;rw[eA]at eA6;injection eA6 with eA6;injection eA6 with e7 e8;subst e7 e8;simp only[u9];go_simp;exact hK _ _ _ ⟨_,ae hx,rfl⟩ Ac HR.o (by simp[Act.put,hpre,u9,eA])
  ·obtain⟨f,hf,u10⟩:∃f∈fs,U 10=(f.tag:Int):=dC;have l10:L 10=true:=fc;have l9:L 9=true:=Np (Bb Hdep.o 10 9 rfl) l10;have l8:L 8=true:=Np (Bb Hdep.o 9 8 rfl) l9;have l7:L 7=true:=Np (Bb Hdep.o 8 7 rfl) l8;have h14:L 14=false:=Bb Hdep.o 14 11 rfl hL;obtain⟨hR5,hg5⟩:=HR.o.s1 l7 hL;simp only[u10];go_simp;exact hK _ _ _ Ac Ac ⟨fun h=>absurd (l7.symm.trans aR) aJ,fun _ h=>by simp at h,fun _ _=>⟨W,f,hf,rfl,rfl,hR5,hg5⟩,fun h=>absurd (h14.symm.trans aR) aJ⟩ (by simp[Act.put,hpre,u10])
  iterate 2
   ·exact hD
  ·have l11:L 11=true:=bB;have l10:L 10=true:=Np (Bb Hdep.o 11 10 rfl) l11;have l9:L 9=true:=Np (Bb Hdep.o 10 9 rfl) l10;have l8:L 8=true:=Np (Bb Hdep.o 9 8 rfl) l9;have l7:L 7=true:=Np (Bb Hdep.o 8 7 rfl) l8;obtain⟨W8,f,hf,hW,u11,hR8,hg8⟩:=HR.o.s2 l11 hL;subst hW;have hS8:=(HS4.o.gr hg8 aH).after ((Ao W8.heap.size W8).alloc (An _) (.cells #[(f.tag:Int)] 3));have x3:=hS8.c2;have x4:=hS8.bk.live 2;have x5:=hS8.lt;simp only[u11];go_simp;exact hK undef _ _ Ac Ac ⟨fun h=>absurd (l7.symm.trans aR) aJ,fun _ h=>absurd (l11.symm.trans aR) aJ,fun _ h=>by simp at h,fun _=>⟨W8,f,hf,by simp[hpre],hR8,hg8⟩⟩ (by simp[Act.put,hpre,u11])
 rintro L U W hL hφ hR;clear hφ;obtain⟨W8,f,hf,rfl,hR8,hg8⟩:=hR.s3 (hL 14 aJ)
 have HF:=Aa (show Jt (Ad xs) k (N+1) 100 w g p (.returned (w1,2,0)) ((W8.alloc (.cells #[(f.tag:Int)] 3)).setCell ⟨w1.heap.size+2,2,none⟩ (.slice (W8,0) 1 1))from by
  have hdl:=Da 2 f.tag (by have:=Hh2.o f hf;omega);have hS:=((HS4.o.gr hg8 aH).putT f.tag).done aK aK;have hg9:=Ae Hg4.o hg8;refine⟨w1.heap.size+2,.mk 69 [] f.tag [],p+1,rfl,Hok.o f hf,by simp[Az,D3,H4];omega,by omega,?_,(hR8.dalloc _).row (Am _ (w1.heap.size+2) 2 _) (base:=w1.heap.size+2) (fun k e=>by injection e with e;omega) aH,Fs (Ae hg9 (World.grownBy_alloc W8 _ _)) (Am _ (w1.heap.size+2) 2 _) (base:=w1.heap.size+2) (fun k e=>by injection e with e;omega) aH⟩;rw[Hsv.o];exact hS.mono fun c hc _=>by omega)
 clear hR hL hR8 hg8;go_wp2_with fail;go_ret;exact HF.o
end
end Go.Proofs.YtmmhmlmfhpfgbaaGreatDoor
