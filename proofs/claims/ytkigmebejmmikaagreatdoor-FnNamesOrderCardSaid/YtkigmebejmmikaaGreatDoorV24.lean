/- Texts joined. Conditions: as each theorem names them. -/
import Derived.BigQuiet
import Derived.Deep.CutRange
import Derived.Deep.DeepCutAuto
import Derived.Test.YtkigmebejmmikaaGreatDoorRows
import Derived.ProofKit
import Derived.OpenShut
import Derived.ShutString
import Derived.ChangeOld
import Derived.SliceStrings
import Derived.Test.YtkigmebejmmikaaGreatDoorV23
import Derived.Test.YtkigmebejmmikaaGreatDoorV25
import Derived.Test.YtkigmebejmmikaaGreatDoorV28
set_option maxRecDepth 100000
set_option maxHeartbeats 32000000
set_option linter.unusedVariables false
set_option linter.unusedSimpArgs false
namespace Go.Proofs.YtkigmebejmmikaaGreatDoor
open Go.RowKit Go.Proofs.Tryz
section
attribute [local go_sem] Qo1 Qof Qnv Qlx ByteArray.mk_append_mk
theorem Vm.r{o:Option (List Ty × Kd)}{x:List UInt8}{w w':World}{e:Ending}(h:Vm o x w e w'):Qoq o x w e w':=by
 obtain⟨⟨p,k1,k2,k3,v,sl,he,hs,hy⟩,hb⟩:=h
 refine⟨⟨p,k1,k2,k3,v,sl,he,hs,fun y h=>?_⟩,hb⟩
 obtain⟨h1,S,k,xs,h2,h3,h4,h5,h6,h7⟩:=hy y h
 exact⟨h1,S,k,xs,h2,h3,h4,h5,h6,h7.isc⟩
theorem Xn(w:World)(A:Option Addr)(n c:Nat)(hn:n<=1048576)(HD:Calls prog 12 #[.slice A n c] w (Qgv w))
  (HS:∀s d x:List UInt8,s.length<=100000->d.length<=100000->x.length<=100000->∀W,Calls prog 8 #[s,d,x] W (Qw (vlB (Cx s d) x Qx) W))
  (HI:∀s d x:List UInt8,s.length<=100000->d.length<=100000->x.length<=100000->∀W,Calls prog 9 #[s,d,x] W (Qw (vlB (Cx s d) x Qx) W))
  (HG:∀s d x:List UInt8,s.length<=100000->d.length<=100000->x.length<=100000->∀W,Calls prog 11 #[s,d,x] W (Qw (Z7 (Cx s d) x) W)):
  Calls prog 7 #[.slice A n c] w fun e w'=>e=.returned (.bool true)/\Below w w w':=by
 have HD:=Aa HD;have HS:=Aa HS;have HI:=Aa HI;have HG:=Aa HG;go_enter func7,ntmps7;go_wp2_with fail;refine HD.o.mono ?_;rintro e w1 ⟨s,d,x,rfl,h1,h2,h3,hb1⟩;have Hb1:=Aa hb1;have Hs:=Aa (HS.o s d x h1 h2 h3);have Hi:=Aa (HI.o s d x h1 h2 h3);clear hb1 HS HI HD;unfold Qw at Hs Hi;cases ho:vlB (Cx s d) x Qx with
 |none=>
  rw[ho]at Hs Hi;simp only[Option.getD_none,Option.isSome_none]at Hs Hi;clear ho HG;go_wp2_with fail;refine(Hi.o _).mono ?_;rintro e w2 ⟨rfl,hb2⟩;have Hb2:=Aa (Hb1.o.trans (hb2.mono Hb1.o.size));clear hb2;go_wp2_with fail;refine(Hs.o _).mono ?_;rintro e w3 ⟨rfl,hb3⟩;have Hb3:=Aa (Hb2.o.trans (hb3.mono Hb2.o.size));clear hb3;go_wp2_with fail;exact m9
 |some t=>
  have htl:=(Qke ho).2;have HF:=Aa (fun a b h e h1 h2 h3 h4=>Qfw (s:=s) (d:=d) (x:=x) (tx:=t) (a:=a) (b:=b) h e h1 h2 h3 h4);have HF:=Aa (HF.o · · ho);rw[ho]at Hs Hi;simp only[Option.getD_some,Option.isSome_some]at Hs Hi;clear ho;go_wp2_with fail;refine(Hi.o _).mono ?_;rintro e w2 ⟨rfl,hb2⟩;have Hb2:=Aa (Hb1.o.trans (hb2.mono Hb1.o.size));clear hb2;go_wp2_with fail;refine(Hs.o _).mono ?_;rintro e w3 ⟨rfl,hb3⟩;have Hb3:=Aa (Hb2.o.trans (hb3.mono Hb2.o.size));clear hb3 Hi Hs;go_wp2_with fail;go_loopw [10,11] (fun c i wr=>∃(q:Int) (k:Nat),c=.int .i64 q/\i=.int .i64 k/\k<=t.length/\Hid (OI t q k)/\Hid (wr=w3)) (fun _ i _=>t.length - (intOf i).toNat)
  case atStart=>exact⟨-1,0,rfl,rfl,ag _,OI.init t,rfl⟩
  case round=>
   obtain⟨q,k,rfl,rfl,hk,hI,hw⟩:=hrel;have k0:(0:Int)<=(k:Int):=aG;by_cases hlt:k<t.length
   ·have k4:(k:Int)<(t.length:Int):=aG;by_cases he:t[k]=44
    ·have t1:(((t[k]).toNat:Int) == 44)=true:=Bs he;by_cases hq:q<0
     ·obtain rfl:q = -1:=by
       rcases hI.o.s with h|⟨p,h,_⟩
       ·exact h.1
       omega
      have HI:=Aa (hI.o.cut hlt he);clear he;go_wp2_with fail;go_roundw
      case rel=>exact⟨k,k+1,rfl,by go_num,hlt,HI.o,hw.o⟩
      case measure=>simp[intOf];omega
     clear he;go_wp2_with fail;exact ma
    have t1:(((t[k]).toNat:Int) == 44)=false:=At he;by_cases hz:k=0
    ·subst hz;have HI:=Aa (hI.o.step hlt he (.inl rfl));clear he;by_cases h9:t[0]=39
     ·have t2:(((t[0]).toNat:Int) == 39)=true:=Bs h9;clear h9;go_wp2_with fail;go_roundw
      case rel=>exact⟨q,1,rfl,by go_num,hlt,HI.o,hw.o⟩
      case measure=>simp[intOf];omega
     have t2:(((t[0]).toNat:Int) == 39)=false:=At h9;clear h9;go_wp2_with fail;go_roundw
     case rel=>exact⟨q,1,rfl,by go_num,hlt,HI.o,hw.o⟩
     case measure=>simp[intOf];omega
    have k5:(k:Int) > 0:=aG;have k6:(0:Int)<(t.length:Int):=aG;by_cases h1:t[k]=123
    ·have t2:(((t[k]).toNat:Int) == 123)=true:=Bs h1;clear h1 he;go_wp2_with fail;exact ma
    have t2:(((t[k]).toNat:Int) == 123)=false:=At h1;by_cases h2:t[k]=91
    ·have t3:(((t[k]).toNat:Int) == 91)=true:=Bs h2;clear h1 h2 he;go_wp2_with fail;exact ma
    have t3:(((t[k]).toNat:Int) == 91)=false:=At h2;have HI:=Aa (hI.o.step hlt he (.inr ⟨h1,h2⟩));clear h1 h2 he;by_cases h9:t[k]=39
    ·have t4:(((t[k]).toNat:Int) == 39)=true:=Bs h9;clear h9;have hpos:0<t.length:=aG;by_cases h0:t[0]=123
     ·have t5:(((t[0]).toNat:Int) == 123)=true:=Bs h0;have t6:(((t[0]).toNat:Int) != 123)=false:=gD;clear h0;go_wp2_with fail;go_roundw
      case rel=>exact⟨q,k+1,rfl,by go_num,hlt,HI.o,hw.o⟩
      case measure=>simp[intOf];omega
     have t5:(((t[0]).toNat:Int) == 123)=false:=At h0;have t6:(((t[0]).toNat:Int) != 123)=true:=gD;clear h0;go_wp2_with fail;exact ma
    have t4:(((t[k]).toNat:Int) == 39)=false:=At h9;clear h9;go_wp2_with fail;go_roundw
    case rel=>exact⟨q,k+1,rfl,by go_num,hlt,HI.o,hw.o⟩
    case measure=>simp[intOf];omega
   ·obtain rfl:k=t.length:=aG;by_cases hq:q<0
    ·go_wp2_with fail;exact ma
    obtain⟨p,rfl⟩:∃p:Nat,q=p:=⟨q.toNat,by omega⟩
    have hpos:0<t.length:=by
     rcases hI.o.s with h|⟨r,h,h',_⟩
     ·omega
     omega
    have k6:(0:Int)<(t.length:Int):=aG;by_cases h0:t[0]=123
    ·have t5:(((t[0]).toNat:Int) == 123)=true:=Bs h0;have t6:(((t[0]).toNat:Int) != 123)=false:=gD;obtain⟨f1,f2,f3,f4,f5,f6,f7⟩:=hI.o.fin hpos h0;rw[List.drop_one]at f3 f4 f6 f7;obtain⟨z,e1,e2,e3⟩:=HF.o _ _ f3 f4 f5 f6 f7;have hzl:(t.drop (p+1)).length=z.length+1:=by rw[e1];simp
     rw[List.length_drop]at hzl;have e4:(t.drop (p+1)).take (t.length - 1 - (p+1))=z:=by
      rw[e1,show t.length - 1 - (p+1)=z.length by omega,List.take_left]
     have hg:=HG.o s d (123::(z++44::(t.tail.take (p - 1)++[125]))) h1 h2 (by simp;simp at e2;omega);rw[e3]at hg;unfold Qw at hg;simp only[Option.getD_some,Option.isSome_some]at hg;have Hg:=Aa hg;have k7:(p:Int)+1<=(t.length:Int) - 1:=aG;have k8:(1:Int)<=(p:Int):=aG;have k9:(p:Int)<=(t.length:Int):=aG;clear h0 f3 f4 f5 f6 f7 e1 e2 e3 HF HG hg;go_wp2_with fail;go_quiet (fail)
     have Hb4:=Aa (below_drewN (show Below w w wr by rw[hw.o];exact Hb3.o) nq);go_wp2_with fail;refine(Hg.o _).mono ?_;rintro e w5 ⟨rfl,hb5⟩;have Hb5:=Aa (Hb4.o.trans (hb5.mono Hb4.o.size));clear hb5;go_wp2_with fail;go_ret;exact⟨rfl,Hb5.o⟩
    have t5:(((t[0]).toNat:Int) == 123)=false:=At h0;have t6:(((t[0]).toNat:Int) != 123)=true:=gD;clear h0;go_wp2_with fail;exact ma
end
def Ka(S:List Ty)(k:Kd)(N B:Nat)(w:World)(g p:Nat)(e:Ending)(w':World):Prop:=
 ∃b v q,e=.returned (.pointer (some ⟨b,0,none⟩))/\Gb S N k v/\(Ay v).length<=B/\q<=p+B/\Gx (fun c=>w.heap.size<=c) w' b (Cj S k v)/\Ez w' g q/\w.grownBy w' (some g)
theorem Fk.gr{base B g:Nat}{W W':World}{h0 h1 tu tv ku kv:Value}{gs:List Nat}{xs:List (Nat × SV)}(h:Fk base B W h0 h1 tu tv ku kv gs xs)(hg:W.grownBy W' (some g))(hl:g<B):Fk base B W' h0 h1 tu tv ku kv gs xs:=by
 have hn:some B≠some g:=fun e=>fR;have hB:=h.hB;exact⟨ac h.lt hg.size,ad h.bs hg.size,h.hB,h.bk.grown h.lt hg hn,hg.cell h.c0 hn,hg.cell h.c1 hn,hg.cell h.c2 hn,hg.cell h.c3 hn,h.tags.kept hg (Nl (fun k hk=>(h.tags.lt k hk).1) aG),h.row.kept hg (Nl (fun k hk=>(h.row.lt k hk).1) aG),fun y hy=>(h.kids y hy).grown hg fun c hc e=>by injection e with e;omega⟩
theorem Fk.set1{base B:Nat}{W:World}{h0 h1 tu tv ku kv:Value}{gs:List Nat}{xs:List (Nat × SV)}(h:Fk base B W h0 h1 tu tv ku kv gs xs)(u:Value):Fk base B (W.setCell ⟨B,1,none⟩ u) h0 u tu tv ku kv gs xs:=by
 have hg:=Al W B 1 u;exact mc
theorem Ez.row{w w':World}{g p base:Nat}{r:Option Nat}(h:Ez w g p)(hg:w.grownBy w' r)(hr:∀k,r=some k->base<=k)(hb:g<base):Ez w' g p:=
 h.belowg ((Aw _ _).grown hg h.lt (fun k hk=>ac hb (hr k hk))) hg.size
theorem Gd{w0 w w':World}{g base:Nat}{r:Option Nat}(h:w0.grownBy w (some g))(hg:w.grownBy w' r)(hr:∀k,r=some k->base<=k)(hb:w0.heap.size<=base):w0.grownBy w' (some g):=
 ⟨hg.os.trans h.os,hg.tape.trans h.tape,hg.output.trans h.output,ad h.size hg.size,fun k hk hn=>(hg.block k (ac hk h.size) (fun e=>by have:=hr k e.symm;omega)).trans (h.block k hk hn)⟩
structure Nd(w0:World)(g base B:Nat)(W1:World)(h0 h1 tv:Value)(A:Option Addr)(c:Nat)(gs:List Nat)(xs:List (Nat × SV))(F:SV->Nat->Prop)(lc lb la ls:Bool)(uc ub ua:Value)(W:World):Prop where
 s0:lc=false->W=W1
 s1:lc=true->lb=false->∃b v q,uc=.pointer (some ⟨b,0,none⟩)/\F v q/\Ez W g q/\w0.grownBy W (some g)/\Gx (fun c=>W1.heap.size<=c) W b v/\Fk base B W h0 h1 tv tv (.slice A xs.length c) (.slice A xs.length c) gs xs
 s2:lb=true->la=false->∃W8 b v q,W=W8.alloc (.cells #[.pointer (some ⟨b,0,none⟩)] 31)/\ub=.slice (some ⟨W8.heap.size,0,none⟩) 1 1/\F v q/\Ez W8 g q/\w0.grownBy W8 (some g)/\Gx (fun c=>W1.heap.size<=c) W8 b v/\Fk base B W8 h0 h1 tv tv (.slice A xs.length c) (.slice A xs.length c) gs xs
 s3:la=true->ls=false->∃b v q A6 c6,ua=.slice A6 (xs.length+1) c6/\F v q/\Ez W g q/\w0.grownBy W (some g)/\Fk base B W h0 h1 tv tv (.slice A xs.length c) ua gs (xs++[(b,v)])
 s4:ls=true->∃b v q A6 c6,F v q/\Ez W g q/\w0.grownBy W (some g)/\Fk base B W h0 h1 tv tv (.slice A6 (xs.length+1) c6) (.slice A6 (xs.length+1) c6) gs (xs++[(b,v)])
section
variable {w0 W1 W W':World} {g base B:Nat} {h0 h1 tv uc ub ua:Value} {A:Option Addr} {c:Nat} {gs:List Nat} {xs:List (Nat × SV)} {F:SV->Nat->Prop} {lc lb la ls:Bool}
theorem Nd.start:Nd w0 g base B W1 h0 h1 tv A c gs xs F false false false false uc ub ua W1:=
 ⟨fun _=>rfl,fun h=>Bool.noConfusion h,fun h=>Bool.noConfusion h,fun h=>Bool.noConfusion h,fun h=>Bool.noConfusion h⟩
theorem Nd.c3(h:Nd w0 g base B W1 h0 h1 tv A c gs xs F lc lb la ls uc ub ua W)(hl:Fk base B W1 h0 h1 tv tv (.slice A xs.length c) (.slice A xs.length c) gs xs)(hla:la=false):W.cell? (B,3)=some (.slice A xs.length c):=by
 cases ec:lc with
 |false=>rw[h.s0 ec];exact hl.c3
 |true=>
  cases eb:lb with
  |false=>obtain⟨_,_,_,_,_,_,_,_,hL⟩:=h.s1 ec eb;exact hL.c3
  |true=>obtain⟨W8,_,_,_,rfl,_,_,_,_,_,hL⟩:=h.s2 eb hla;exact(hL.after ((Aw _ _).alloc (Ar _) _)).c3
theorem Nd.call{b:Nat}{v:SV}{q:Nat}(hw:w0.grownBy W1 (some g))(hl:Fk base B W1 h0 h1 tv tv (.slice A xs.length c) (.slice A xs.length c) gs xs)(hgB:g<B)(hb:lb=false)(ha:la=false)(hs:ls=false)(hF:F v q)(hR:Ez W g q)(hg:W1.grownBy W (some g))(hv:Gx (fun c=>W1.heap.size<=c) W b v):
  Nd w0 g base B W1 h0 h1 tv A c gs xs F true lb la ls b ub ua W:=by
 subst hb ha hs;exact⟨fun h=>Bool.noConfusion h,fun _ _=>⟨b,v,q,rfl,hF,hR,Ae hw hg,hv,hl.gr hg hgB⟩,fun h=>Bool.noConfusion h,fun h=>Bool.noConfusion h,fun h=>Bool.noConfusion h⟩
theorem Nd.build(h:Nd w0 g base B W1 h0 h1 tv A c gs xs F lc lb la ls uc ub ua W)(hc:lc=true)(hb:lb=false)(ha:la=false)(hs:ls=false):∃b,uc=.pointer (some ⟨b,0,none⟩) /\
  Nd w0 g base B W1 h0 h1 tv A c gs xs F lc true la ls uc (.slice (W,0) 1 1) ua (W.alloc (.cells #[.pointer (some ⟨b,0,none⟩)] 31)):=by
 obtain⟨b,v,q,e,h2,h3,h4,h5,h6⟩:=h.s1 hc hb;subst ha hs;exact⟨b,e,fun h=>absurd (hc.symm.trans h) aJ,fun _ h=>Bool.noConfusion h,fun _ _=>⟨W,b,v,q,rfl,rfl,h2,h3,h4,h5,h6⟩,fun h=>Bool.noConfusion h,fun h=>Bool.noConfusion h⟩
theorem Nd.app{W8:World}{b:Nat}{v:SV}{q:Nat}{u:Value}(hw:w0.heap.size<=B)(hgB:g<B)(hbs:base<=W1.heap.size)(hl1:Fk base B W1 h0 h1 tv tv (.slice A xs.length c) (.slice A xs.length c) gs xs)(hF:F v q)(hR:Ez W8 g q)(hg0:w0.grownBy W8 (some g))(hv:Gx (fun c=>W1.heap.size<=c) W8 b v)(hL:Fk base B W8 h0 h1 tv tv (.slice A xs.length c) (.slice A xs.length c) gs xs)
  (hc:lc=true) (hb:lb=true) (hs:ls=false) (hown:W.ownsRow base 31 1 u (xs.length+1) (E8 (xs.map (·.1))++[.pointer (some ⟨b,0,none⟩)])) (hg:W8.grownBy W (Value.slice A xs.length c).ownBlock) (hwh:u.ownBlock=(Value.slice A xs.length c).ownBlock\/∃k,u.ownBlock=some k/\W8.heap.size<=k):
  Nd w0 g base B W1 h0 h1 tv A c gs xs F lc lb true ls uc ub u W/\∃A6 c6,u=.slice A6 (xs.length+1) c6:=by
 have hk:Gx (fun c1=>base<=c1/\(Value.slice A xs.length c).ownBlock≠some c1/\tv.ownBlock≠some c1) W8 b v:=hv.mono fun c1 h1 _=>⟨ad hbs h1,fun e=>by have:=(hl1.row.lt c1 e).2;omega,fun e=>by have:=(hl1.tags.lt c1 e).2;omega⟩
 obtain⟨A6,c6,e6,hP,hB⟩:=hL.push (x:=(b,v)) hk hown hg hwh;have e6':u=.slice A6 (xs.length+1) c6:=by rw[e6];simp
 have hrow:∀k,(Value.slice A xs.length c).ownBlock=some k->base<=k:=fun k hk=>(hL.row.lt k hk).1;have hB':=hL.hB;subst hs;exact⟨⟨fun h=>absurd (hc.symm.trans h) aJ,fun _ h=>absurd (hb.symm.trans h) aJ,fun _ h=>Bool.noConfusion h,fun _ _=>⟨b,v,q,A6,c6,e6',hF,hR.row hg hrow aG,Gd hg0 hg hrow aG,hP⟩,fun h=>Bool.noConfusion h⟩,A6,c6,e6'⟩
theorem Nd.store(h:Nd w0 g base B W1 h0 h1 tv A c gs xs F lc lb la ls uc ub ua W)(hw:w0.heap.size<=B)(hgB:g<B)(hc:lc=true)(hb:lb=true)(ha:la=true)(hs:ls=false)(hW:W'=W.setCell ⟨B,3,none⟩ ua):Nd w0 g base B W1 h0 h1 tv A c gs xs F lc lb la true uc ub ua W':=by
 subst hW;obtain⟨b,v,q,A6,c6,e,hF,hR,hg,hL⟩:=h.s3 ha hs;have hgc:=Al W B 3 ua;refine⟨fun h=>absurd (hc.symm.trans h) aJ,fun _ h=>absurd (hb.symm.trans h) aJ,fun _ h=>absurd (ha.symm.trans h) aJ,fun _ h=>Bool.noConfusion h,fun _=>⟨b,v,q,A6,c6,hF,hR.row (base:=B) hgc (fun k e=>by injection e with e;omega) hgB,Gd hg hgc (base:=B) (fun k e=>by injection e with e;omega) hw,?_⟩⟩;have:=hL.set3;rw[e]at this ⊢;exact this
end
section
attribute [local go_sem] Qo1 Qof Qnv Qlx ByteArray.mk_append_mk
def Xm(W:World)(b:Nat)(ms:List Nat):Prop:=W.heap[b]?=some (.cells (De ms).toArray 3 (0,0))
theorem Xm.new(W:World)(ms:List Nat):Xm (W.alloc (.cells (De ms).toArray 3)) W.heap.size ms:=heap_alloc_new W _
theorem Xm.lt{W:World}{b:Nat}{ms:List Nat}(h:Xm W b ms):b<W.heap.size:=by
 rcases aF b W.heap.size with h1|h1
 ·exact h1
 unfold Xm at h;rw[Array.getElem?_eq_none h1]at h;cases h
theorem Xm.grown{W W':World}{b r:Nat}{ms:List Nat}(h:Xm W b ms)(hg:W.grownBy W' (some r))(hne:b≠r):Xm W' b ms:=
 (hg.block b h.lt (fun e=>hne (Option.some.inj e))).trans h
theorem Xm.cell{W:World}{b j:Nat}{ms:List Nat}(h:Xm W b ms)(hj:j<ms.length):∃m,m∈ms/\W.cell? ⟨b,j,none⟩=(m:Int):=
 ⟨ms[j],ae hj,by unfold Xm at h;simp[World.cell?,h,De,hj]⟩
def Qb9:List (List UInt8):=[[],[97],[104,105],[97,32,98],[122,122,57],[97,98,99,100,101,102,103,104,105,106,107,108]]
theorem Qdj(g p:Nat)(w:World)(h:Ez w g p)(hp:p<=900000000):
  Calls prog 136 #[g] w (fun e w'=>∃s,e=.returned (.string ⟨(39::(s++[39]):List UInt8).toArray⟩)/\Du s=true/\Ez w' g (p+1)/\w.grownBy w' (some g)):=by
 have hgl:=h.lt;have HR:=Aa h;clear h;go_enter func136,ntmps136;go_wp2_with fail;refine(Bu g p 6 _ (HR.o.dalloc _) aG aG aG).mono ?_;rintro e w1 ⟨x,rfl,hx1,_,hR1,hg1⟩;have hx:x<Qb9.length:=by show x<6;omega
 obtain⟨b,hbm,hcell⟩:=((Jf.new w Qb9).grown hg1 aG).cell hx;have hbl:Du b=true:=(show ∀b∈Qb9,Du b=true by decide) b hbm;have hbn:b.length<=12:=(show ∀b∈Qb9,b.length<=12 by decide) b hbm;have i1:(0:Int)<=(x:Int):=aG;have i2:(x:Int)<6:=aG;have HR1:=Aa hR1;have Hg1:=Aa (Ae (World.grownBy_alloc w _ (some g)) hg1);have Hbl:=Aa hbl;clear hR1 hg1 hbm HR hx hx1 hbl;go_wp2_with fail;go_ret;exact⟨b,by simp,Hbl.o,HR1.o,Hg1.o⟩
section
variable {S:List Ty} {k:Kd}
theorem Ze{c:UInt8}(hs0:k.signs=[])(hb:k.base=[c])(hc:c≠64):Bt k=[c]:=by
 unfold Bt Cr;rw[hs0,hb];by_cases h:([c]:List UInt8)=[64]
 ·injection h with h;exact absurd h hc
 simp[h]
end
theorem Qo2(S:List Ty)(k:Kd)(hs0:k.signs=[])(hb:k.base=[110])(xv:Value)(d:Int)(N:Nat)(g p:Nat)(w:World)(hR:Ez w g p)(hp:p<=900000000):
  Calls prog 106 #[g,xv,.string ⟨(Bt k).toArray⟩,.int .i64 d] w (Ka S k (N+1) 100 w g p):=by
 have hgl:=hR.lt;have HR:=Aa hR;have Hk:=Aa (Ze hs0 hb aJ);have HS0:=Aa hs0;have HB0:=Aa hb;rw[Hk.o];clear hR hs0 hb;go_enter func106,ntmps106;go_wp2_with fail;obtain⟨W1,hW1⟩:∃W1,W1=w.alloc (.cells #[([110]:List UInt8),aa,.slice none 0 0,.slice none 0 0] 68):=⟨_,rfl⟩
 have hz1:W1.heap.size=w.heap.size+1:=di;have HS1:=@Aa (Fk (w.heap.size+1) w.heap.size W1 ([110]:List UInt8) aa (.slice none 0 0) (.slice none 0 0) (.slice none 0 0) (.slice none 0 0) [] []) cS;have HR1:=Aa (show Ez W1 g p by rw[hW1];exact HR.o.dalloc _);have Hg1:=Aa (show w.grownBy W1 (some g)by rw[hW1];exact World.grownBy_alloc w _ _);rw[<-hW1];clear hW1 HR;refine(Bu g p 200 _ HR1.o aG aG aG).mono ?_;rintro e w2 ⟨x,rfl,hx1,_,hR2,hg2⟩;have hx:x<=999999:=aG;have HS2:=Aa (HS1.o.gr hg2 hgl);have HR2:=Aa hR2;have Hg2:=Aa (Ae Hg1.o hg2);have hz2:=hg2.size;clear hR2 hg2 hx1 HS1 HR1 Hg1;go_wp2_with fail;obtain⟨ms,hms,hml,hme⟩:∃ms:List Nat,(∀m∈ms,m<=999999)/\ms.length=8/\(#[.int .i64 0,.int .i64 5,(x:Int),.int .i64 127,.int .i64 128,.int .i64 16383,.int .i64 16384,.int .i64 999999]:Array Value)=(De ms).toArray:=⟨[0,5,x,127,128,16383,16384,999999],by simp;omega,rfl,by simp[De]⟩
 rw[hme];refine(Bu g (p+1) 8 _ (HR2.o.dalloc _) aG aG aG).mono ?_;rintro e w3 ⟨y,rfl,hy1,_,hR3,hg3⟩;have hy:y<ms.length:=aG;obtain⟨m,hmm,hcell⟩:=((Xm.new w2 ms).grown hg3 aG).cell hy;have hm9:=hms m hmm;have i1:(0:Int)<=(y:Int):=aG;have i2:(y:Int)<8:=aG;have HS3:=Aa ((HS2.o.after ((Aw _ _).alloc (Ar _) _)).gr hg3 hgl);have HR3:=Aa hR3;have Hg3:=Aa (Ae Hg2.o (Ae (World.grownBy_alloc w2 _ (some g)) hg3));clear hR3 hg3 hy1 hy HS2 HR2 Hg2 hms hmm hme;go_wp2_with fail;refine(Jd m m _ (Ar _) aG).mono ?_;rintro e w4 ⟨rfl,hb4⟩;have HS4:=Aa (HS3.o.after hb4);have HR4:=Aa (HR3.o.below hb4);have Hg4:=Aa (Ae Hg3.o (Cs hb4 (some g)));have hdl:=C0 5 m aG;clear hb4 HS3 HR3 Hg3 hcell;have c1:=HS4.o.c1;have f1:=HS4.o.bk.live 1;go_wp2_with fail;go_ret;refine⟨w.heap.size,.mk 110 (Bb m) 0 [],p+1+1,rfl,.n HS0.o HB0.o hm9,by simp[Ay,Di,Fa];omega,by omega,?_,HR4.o.row (Al _ w 1 _) (base:=w.heap.size) (fun k e=>by injection e with e;omega) hgl,Gd Hg4.o (Al _ w 1 _) (base:=w.heap.size) (fun k e=>by injection e with e;omega) (Ar _)⟩;have:=(HS4.o.set1 (Bb m:List UInt8)).done aL aL;rw[Qcf,Hk.o];exact this
theorem Qpe(S:List Ty)(k:Kd)(hs0:k.signs=[])(hb:k.base=[116])(xv:Value)(d:Int)(N:Nat)(g p:Nat)(w:World)(hR:Ez w g p)(hp:p<=900000000):
  Calls prog 106 #[g,xv,.string ⟨(Bt k).toArray⟩,.int .i64 d] w (Ka S k (N+1) 100 w g p):=by
 have hgl:=hR.lt;have HR:=Aa hR;have Hk:=Aa (Ze hs0 hb aJ);have HS0:=Aa hs0;have HB0:=Aa hb;rw[Hk.o];clear hR hs0 hb;go_enter func106,ntmps106;go_wp2_with fail;obtain⟨W1,hW1⟩:∃W1,W1=w.alloc (.cells #[([116]:List UInt8),aa,.slice none 0 0,.slice none 0 0] 68):=⟨_,rfl⟩
 have hz1:W1.heap.size=w.heap.size+1:=di;have HS1:=@Aa (Fk (w.heap.size+1) w.heap.size W1 ([116]:List UInt8) aa (.slice none 0 0) (.slice none 0 0) (.slice none 0 0) (.slice none 0 0) [] []) cS;have HR1:=Aa (show Ez W1 g p by rw[hW1];exact HR.o.dalloc _);have Hg1:=Aa (show w.grownBy W1 (some g)by rw[hW1];exact World.grownBy_alloc w _ _);rw[<-hW1];clear hW1 HR;refine(Qdj g p _ HR1.o aG).mono ?_;rintro e w2 ⟨s,rfl,hs,hR2,hg2⟩;have HS2:=Aa (HS1.o.gr hg2 hgl);have HR2:=Aa hR2;have Hg2:=Aa (Ae Hg1.o hg2);have Hs:=Aa hs;have hsl:s.length<=12:=by have:=hs;unfold Du at this;simp at this;exact this.1
 clear hR2 hg2 HS1 HR1 Hg1 hs;have c1:=HS2.o.c1;have f1:=HS2.o.bk.live 1;go_wp2_with fail;go_ret;refine⟨w.heap.size,.mk 116 s 0 [],p+1,rfl,.t HS0.o HB0.o Hs.o,by simp[Ay,Di,Fa];omega,by omega,?_,HR2.o.row (Al _ w 1 _) (base:=w.heap.size) (fun k e=>by injection e with e;omega) hgl,Gd Hg2.o (Al _ w 1 _) (base:=w.heap.size) (fun k e=>by injection e with e;omega) (Ar _)⟩;have:=(HS2.o.set1 (.string ⟨(39::(s++[39]):List UInt8).toArray⟩)).done aL aL;rw[Za,Hk.o];exact this
theorem Qo3(S:List Ty)(k:Kd)(hs0:k.signs=[])(hb:k.base=[102])(xv:Value)(d:Int)(N:Nat)(g p:Nat)(w:World)(hR:Ez w g p)(hp:p<=900000000):
  Calls prog 106 #[g,xv,.string ⟨(Bt k).toArray⟩,.int .i64 d] w (Ka S k (N+1) 100 w g p):=by
 have hgl:=hR.lt;have HR:=Aa hR;have Hk:=Aa (Ze hs0 hb aJ);have HS0:=Aa hs0;have HB0:=Aa hb;rw[Hk.o];clear hR hs0 hb;go_enter func106,ntmps106;go_wp2_with fail;obtain⟨W1,hW1⟩:∃W1,W1=w.alloc (.cells #[([102]:List UInt8),aa,.slice none 0 0,.slice none 0 0] 68):=⟨_,rfl⟩
 have hz1:W1.heap.size=w.heap.size+1:=di;have HS1:=@Aa (Fk (w.heap.size+1) w.heap.size W1 ([102]:List UInt8) aa (.slice none 0 0) (.slice none 0 0) (.slice none 0 0) (.slice none 0 0) [] []) cS;have HR1:=Aa (show Ez W1 g p by rw[hW1];exact HR.o.dalloc _);have Hg1:=Aa (show w.grownBy W1 (some g)by rw[hW1];exact World.grownBy_alloc w _ _);rw[<-hW1];clear hW1 HR;refine(Bu g p 2 _ (HR1.o.dalloc _) aG aG aG).mono ?_;rintro e w2 ⟨x,rfl,hx1,_,hR2,hg2⟩;have hx:x < [Eh,Mb].length:=by show x<2;omega
 obtain⟨s,hsm,hcell⟩:=((Jf.new W1 [Eh,Mb]).grown hg2 aG).cell hx;rw[hz1]at hcell;obtain⟨b,rfl⟩:∃b:Bool,s=if b then Eh else Mb:=by
  simp at hsm;rcases hsm with rfl|rfl
  ·exact⟨true,rfl⟩
  exact⟨false,rfl⟩
 have i1:(0:Int)<=(x:Int):=aG;have i2:(x:Int)<2:=aG;have HS2:=Aa ((HS1.o.after ((Aw _ _).alloc (Ar _) _)).gr hg2 hgl);have HR2:=Aa hR2;have Hg2:=Aa (Ae Hg1.o (Ae (World.grownBy_alloc W1 _ (some g)) hg2));have hsl:(if b then Eh else Mb).length<=3:=by cases b<;>decide
 have Hok:=Aa (fun(h0:k.signs=[]) (h1:k.base=[102])=>Gb.f (S:=S) (d:=N) (k:=k) (b:=b) h0 h1);generalize (if b then Eh else Mb)=s at *;clear hR2 hg2 HS1 HR1 Hg1 hx1 hx hsm;have c1:=HS2.o.c1;have f1:=HS2.o.bk.live 1;go_wp2_with fail;go_ret;refine⟨w.heap.size,.mk 102 s 0 [],p+1,rfl,Hok.o HS0.o HB0.o,by simp[Ay,Di,Fa];omega,by omega,?_,HR2.o.row (Al _ w 1 _) (base:=w.heap.size) (fun k e=>by injection e with e;omega) hgl,Gd Hg2.o (Al _ w 1 _) (base:=w.heap.size) (fun k e=>by injection e with e;omega) (Ar _)⟩;have:=(HS2.o.set1 (s:List UInt8)).done aL aL;rw[Yd,Hk.o];exact this
def Vf(xs:List (Ty × Value))(xv:Value)(k:Kd)(d:Int)(N B:Nat):Prop:=∀(g p:Nat) (W:World),G8 W xv xs->Ez W g p->p+B<=900000000 ->
 Calls prog 106 #[g,xv,.string ⟨(Bt k).toArray⟩,.int .i64 d] W (Ka (Ag xs) k N B W g p)
def DvF(S:List Ty)(k:Kd)(N B p:Nat)(sv:SV)(q:Nat):Prop:=∃v,sv=Cj S k v/\Gb S N k v/\(Ay v).length<=B/\q<=p+B
theorem Zz(c:UInt8)(ps:List (List UInt8))(p:List UInt8):(Am c (ps++[p])).length<=(Am c ps).length+p.length+1:=by
 rw[Bg,Bg];unfold Cq;rw[ay,List.sum_append];simp;omega
theorem Qf6(xs:List (Ty × Value))(A0:Option Addr)(c0:Nat)(k:Kd)(sg:List UInt8)(hsg:k.signs=91::sg)(hk:Ch k)(d:Int)(hd:-1000<=d)(hd2:d<=1000)(N B:Nat)(H:0<d->Vf xs (.slice A0 xs.length c0) k.part (d - 1) N B)(hB:100<=B):Vf xs (.slice A0 xs.length c0) k d (N+1) (8*B+100):=by
 intro g p w hsc hR hp;have hgl:=hR.lt;have HR:=Aa hR;have HSc:=Aa hsc;have hkp:Bt k=91::Bt k.part:=dQ;have hkl:(Bt k).length<=100:=bW;have Hsv:=Aa (fun ks=>hkp ▸ Td (Ag xs) k ks);have Hok:=Aa (fun ks (hl:ks.length<=20) (h:∀x∈ks,Gb (Ag xs) N k.part x)=>Gb.lst (S:=Ag xs) hsg hl h);unfold Vf at H;rw[hkp]at hkl ⊢;generalize Bt k.part=kp at *;have HC:=Aa H;have hkl2:kp.length<=100:=gR;obtain⟨xv,hxv⟩:∃xv:Value,xv=.slice A0 xs.length c0:=⟨_,rfl⟩
 rw[<-hxv]at HSc HC ⊢;clear hR hsc hkp hsg hkl hk H hxv;go_enter func106,ntmps106;go_wp2_with fail;obtain⟨W1,hW1⟩:∃W1,W1=w.alloc (.cells #[(91::kp:List UInt8),aa,.slice none 0 0,.slice none 0 0] 68):=⟨_,rfl⟩
 have hz1:W1.heap.size=w.heap.size+1:=di;have HS1:=@Aa (Fk (w.heap.size+1) w.heap.size W1 (91::kp:List UInt8) aa (.slice none 0 0) (.slice none 0 0) (.slice none 0 0) (.slice none 0 0) [] []) cS;have HR1:=Aa (show Ez W1 g p by rw[hW1];exact HR.o.dalloc _);have Hg1:=Aa (show w.grownBy W1 (some g)by rw[hW1];exact World.grownBy_alloc w _ _);rw[<-hW1];clear hW1;refine(Bu g p 4 _ HR1.o aG aG aG).mono ?_;rintro e w2 ⟨y,rfl,hy1,_,hR2,hg2⟩;have hy:y<=3:=aG;have HS2:=Aa (HS1.o.gr hg2 hgl);have HR2:=Aa hR2;have Hg2:=Aa (Ae Hg1.o hg2);clear hR2 hg2 hy1 HS1 HR1 Hg1;go_wp2_with fail;go_loopw [10] (fun m wr=>∃(x q:Nat) (A:Option Addr) (c:Nat) (xk:List (Nat × SV)),m=(x:Int)/\xk.length+x<=3/\q<=p+1+xk.length*B/\Hid (∃ks:List Vl,xk.map (·.2)=ks.map (Cj (Ag xs) k.part)/\(∀v∈ks,Gb (Ag xs) N k.part v)/\(Am 44 (ks.map Ay)).length<=xk.length*(B+1))/\Hid (Ez wr g q)/\Hid (w.grownBy wr (some g))/\Hid (Fk (w.heap.size+1) w.heap.size wr (91::kp:List UInt8) aa (.slice none 0 0) (.slice none 0 0) (.slice A xk.length c) (.slice A xk.length c) [] xk)) (fun m _=>(intOf m).toNat)
 case atStart=>exact⟨y,p+1,none,0,[],rfl,by simp;omega,by simp,⟨[],rfl,by simp,by simp[Am]⟩,HR2.o,Hg2.o,HS2.o⟩
 case round=>
  obtain⟨x,q,A,c,xk,rfl,hxl,hq,hks,hRr,hgr,hSr⟩:=hrel;have hx0:(0:Int)<=(x:Int):=aG;have hzr:w.heap.size+1<=wr.heap.size:=hSr.o.bs;by_cases hgo:0<x/\0<d
  ·obtain⟨hx,hdp⟩:=hgo;have hxi:(0:Int)<(x:Int):=aG;have hqB:q+B<=900000000:=by
    have:xk.length*B<=2*B:=Nat.mul_le_mul_right _ aG;omega
   have HC2:=Aa (HC.o hdp);have hwd:IntKind.i64.wrap (d - 1)=d - 1:=IntWalk.i64_in _ aG;go_upto_region 16 with fail
   obtain⟨W9,hW9⟩:∃W9,W9=wr.drew:=⟨_,rfl⟩
   have HS9:=@Aa (Fk (w.heap.size+1) w.heap.size W9 (91::kp:List UInt8) aa (.slice none 0 0) (.slice none 0 0) (.slice A xk.length c) (.slice A xk.length c) [] xk) (by rw[hW9];exact hSr.o.after (Aw _ _).drew);have HR9:=Aa (show Ez W9 g q by rw[hW9];exact hRr.o.ddrew);have Hg9:=Aa (show w.grownBy W9 (some g)by rw[hW9];exact Gh hgr.o);have HX9:=@Aa (G8 W9 xv xs) (HSc.o.grown HR.o Hg9.o);have HW9:=Aa hW9;clear hW9;have HC:=HC2;clear HC2;refine Qr [61,62,63,64,65,66,67,68,69,70,71,72,73,74,75,76,999]
    (fun ix v W=>match ix with|0=>v=w.heap.size|1=>v=w.heap.size|2=>v=w.heap.size|3=>v=(w,3)|4=>v=.slice A xk.length c|5=>v=g|6=>v=xv|7=>v=(91::kp:List UInt8)|8=>v=(kp:List UInt8)|9=>v=.int .i64 d|10=>v=.int .i64 (d - 1)|14=>v=w.heap.size|15=>v=(w,3)|_=>True)
    (fun L U W=>Nd w g (w.heap.size+1) w.heap.size W9 (91::kp:List UInt8) aa (.slice none 0 0) A c [] xk (DvF (Ag xs) k.part N B q) (L 11) (L 12) (L 13) (L 16) (U 11) (U 12) (U 13) W) (by rw[<-HW9.o];exact Nd.start) ?_ ?_
   ·repeat (first|exact Av.nil|(refine Av.cons ?_ ?_;rotate_left))
    all_goals
     rintro L U W hL hpre HR Hdep K hK;first|(simp[Region.binds]at hpre;done)|simp[Region.binds]at hpre|clear hpre
    iterate 4
     ·exact ir
    ·exact jx
    iterate 3
     ·exact ir
    ·exact jN
    iterate 2
     ·exact ir
    ·exact j5
    ·exact jd
    ·obtain⟨l4,u4⟩:L 4=true/\U 4=.slice A xk.length c:=by
      exact me
     have l12:L 12=true:=ck;have l11:L 11=true:=Ke (Bv Hdep.o 12 11 rfl) l12;have h16:L 16=false:=Bv Hdep.o 16 13 rfl hL;obtain⟨W8,b8,v8,q8,hW,u12,hF,hR8,hg8,hv8,hL8⟩:=HR.o.s2 l12 hL;subst hW;rw[if_pos bQ];refine Kw W8 (.tmp 65) (.tmp 73) 66 rfl (w.heap.size+1) 31 (.pointer none) 1 8 underlying66 Vo rfl aJ [b8] rfl bB (.slice A xk.length c) xk.length (E8 (xk.map (·.1))) u4 u12 hL8.row aU aG hL8.bs ?_;exact mf
    iterate 2
     ·exact ir
    ·exact j8
   rintro L U W hL hφ hR;clear hφ;obtain⟨b6,v6,q6,A6,c6,⟨v7,rfl,k1,k2,k3⟩,hR6,hg6,hS6⟩:=hR.s4 (hL 16 aJ);obtain⟨ks,g1,g2,g3⟩:=hks.o;have el:(xk++[(b6,Cj (Ag xs) k.part v7)]).length=xk.length+1:=aL
   have Hks:=Aa (show ∃ks:List Vl,(xk++[(b6,Cj (Ag xs) k.part v7)]).map (·.2)=ks.map (Cj (Ag xs) k.part)/\(∀v∈ks,Gb (Ag xs) N k.part v)/\(Am 44 (ks.map Ay)).length<=(xk++[(b6,Cj (Ag xs) k.part v7)]).length*(B+1)from⟨ks++[v7],by simp[g1],fun v hv=>by rcases af.1 hv with h|h;exact g2 v h;rw[ap]at h;subst h;exact k1,by
    rw[ay,el,Nat.succ_mul];exact ad (Zz 44 (ks.map Ay) (Ay v7)) aG⟩)
   have HR6:=Aa hR6;have Hg6:=Aa hg6;have HS6:=Aa hS6;have hq6:q6<=p+1+(xk.length+1)*B:=by rw[Nat.succ_mul];omega
   clear hR hL hR6 hg6 hS6 k1 k2 k3 g1 g2 g3;go_wp2_with fail;go_roundw
   case rel=>exact⟨x - 1,q6,A6,c6,xk++[(b6,Cj (Ag xs) k.part v7)],by go_num,by rw[el];omega,by rw[el];exact hq6,Hks.o,HR6.o,Hg6.o,by rw[el];exact HS6.o⟩
   case measure=>simp[intOf];omega
  ·have hfin:∀W,W=wr->True:=fun _ _=>Ac
   have HQ:=Aa (show Ka (Ag xs) k (N+1) (8*B+100) w g p (.returned w.heap.size) wr from by
    obtain⟨ks,g1,g2,g3⟩:=hks.o;have hkl:ks.length=xk.length:=by have:=congrArg List.length g1;simpa using this.symm
    have h3:xk.length*(B+1)<=3*(B+1):=Nat.mul_le_mul_right _ aG;have h4:xk.length*B<=3*B:=Nat.mul_le_mul_right _ aG;refine⟨w.heap.size,.mk 91 [] 0 ks,q,rfl,Hok.o ks aG g2,by rw[Gr];simp;omega,by omega,?_,hRr.o,hgr.o⟩;have:=hSr.o.done aL aG;rw[Hsv.o,<-g1];exact this)
   have HQd:=Aa (show Ka (Ag xs) k (N+1) (8*B+100) w g p (.returned w.heap.size) wr.drew from by
    obtain⟨b,v,q,h1,h2,h3,h4,h5,h6,h7⟩:=HQ.o;exact⟨b,v,q,h1,h2,h3,h4,h5.after (Aw _ _).drew,h6.ddrew,Gh h7⟩)
   by_cases hx:0<x
   ·have hxi:(0:Int)<(x:Int):=aG;have hdn:¬(0:Int)<d:=fun h=>hgo ⟨hx,h⟩;go_wp2_with fail;go_ret;first|exact HQ.o|exact HQd.o
   have hxi:¬(0:Int)<(x:Int):=aG;go_wp2_with fail;go_ret;first|exact HQ.o|exact HQd.o
theorem Qe9(xs:List (Ty × Value))(A0:Option Addr)(c0:Nat)(k:Kd)(sg:List UInt8)(hsg:k.signs=63::sg)(hk:Ch k)(d:Int)(hd:-1000<=d)(hd2:d<=1000)(N B:Nat)(H:0<d->Vf xs (.slice A0 xs.length c0) k.part (d - 1) N B)(hB:100<=B):Vf xs (.slice A0 xs.length c0) k d (N+1) (8*B+100):=by
 intro g p w hsc hR hp;have hgl:=hR.lt;have HR:=Aa hR;have HSc:=Aa hsc;have hkp:Bt k=63::Bt k.part:=dQ;have hkl:(Bt k).length<=100:=bW;have Hsv:=Aa (fun ks=>hkp ▸ Ph (Ag xs) k ks);have Hno:=Aa (Gb.non (S:=Ag xs) (d:=N) hsg);have Hsm:=Aa (fun x (h:Gb (Ag xs) N k.part x)=>Gb.som (S:=Ag xs) hsg h);unfold Vf at H;rw[hkp]at hkl ⊢;generalize Bt k.part=kp at *;have HC0:=Aa H;have hkl2:kp.length<=100:=gR;obtain⟨xv,hxv⟩:∃xv:Value,xv=.slice A0 xs.length c0:=⟨_,rfl⟩
 rw[<-hxv]at HSc HC0 ⊢;clear hR hsc hkp hsg hkl hk H hxv;by_cases hdp:0<d
 ·go_enter func106,ntmps106;go_wp2_with fail;obtain⟨W1,hW1⟩:∃W1,W1=w.alloc (.cells #[(63::kp:List UInt8),aa,.slice none 0 0,.slice none 0 0] 68):=⟨_,rfl⟩
  have hz1:W1.heap.size=w.heap.size+1:=di;have HS1:=@Aa (Fk (w.heap.size+1) w.heap.size W1 (63::kp:List UInt8) aa (.slice none 0 0) (.slice none 0 0) (.slice none 0 0) (.slice none 0 0) [] []) cS;have HR1:=Aa (show Ez W1 g p by rw[hW1];exact HR.o.dalloc _);have Hg1:=Aa (show w.grownBy W1 (some g)by rw[hW1];exact World.grownBy_alloc w _ _)
  have HE:=Aa (fun q W (hq:q<=p+1) (h1:Fk (w.heap.size+1) w.heap.size W (63::kp:List UInt8) aa (.slice none 0 0) (.slice none 0 0) (.slice none 0 0) (.slice none 0 0) [] []) (h2:Ez W g q) (h3:w.grownBy W (some g))=>show Ka (Ag xs) k (N+1) (8*B+100) w g p (.returned w.heap.size) W from by
   refine⟨w.heap.size,.mk 63 [] 0 [],q,rfl,Hno.o,by simp[Ay,Di,Fa],by omega,?_,h2,h3⟩;have:=h1.done aL aL;rw[Hsv.o];exact this)
  rw[<-hW1];clear hW1;refine(Bu g p 3 _ HR1.o aG aG aG).mono ?_;rintro e w2 ⟨y,rfl,hy1,_,hR2,hg2⟩;have HS2:=Aa (HS1.o.gr hg2 hgl);have HR2:=Aa hR2;have Hg2:=Aa (Ae Hg1.o hg2);clear hR2 hg2 hy1 HS1 HR1 Hg1;have HC:=Aa (HC0.o hdp);have hwd:IntKind.i64.wrap (d - 1)=d - 1:=IntWalk.i64_in _ aG;by_cases hy:0<y
  ·have hyi:(0:Int)<(y:Int):=aG;have hqB:p+1+B<=900000000:=aG;obtain⟨q,hq⟩:∃q,q=p+1:=⟨_,rfl⟩
   rw[<-hq]at hqB HR2;obtain⟨xk,hxk⟩:∃xk:List (Nat × SV),xk=[]:=⟨_,rfl⟩
   obtain⟨A,hA⟩:∃A:Option Addr,A=none:=⟨_,rfl⟩
   obtain⟨c,hc⟩:∃c:Nat,c=0:=⟨_,rfl⟩
   have hxl:xk.length<=3:=by rw[hxk];simp
   have HSq:=@Aa (Fk (w.heap.size+1) w.heap.size w2 (63::kp:List UInt8) aa (.slice none 0 0) (.slice none 0 0) (.slice A xk.length c) (.slice A xk.length c) [] xk) (by subst hxk hA hc;exact HS2.o);have Hxk:=Aa hxk;clear hxk hA hc HS2;go_upto_region 20 with fail
   obtain⟨W9,hW9⟩:∃W9,W9=w2.drew:=⟨_,rfl⟩
   have HS9:=@Aa (Fk (w.heap.size+1) w.heap.size W9 (63::kp:List UInt8) aa (.slice none 0 0) (.slice none 0 0) (.slice A xk.length c) (.slice A xk.length c) [] xk) (by rw[hW9];exact HSq.o.after (Aw _ _).drew);have HR9:=Aa (show Ez W9 g q by rw[hW9];exact HR2.o.ddrew);have Hg9:=Aa (show w.grownBy W9 (some g)by rw[hW9];exact Gh Hg2.o);have HX9:=@Aa (G8 W9 xv xs) (HSc.o.grown HR.o Hg9.o);have HW9:=Aa hW9;clear hW9;refine Qr [87,88,89,90,91,92,93,94,95,96,97,98,99,100,101,102,999]
    (fun ix v W=>match ix with|0=>v=w.heap.size|1=>v=w.heap.size|2=>v=w.heap.size|3=>v=(w,3)|4=>v=.slice A xk.length c|5=>v=g|6=>v=xv|7=>v=(63::kp:List UInt8)|8=>v=(kp:List UInt8)|9=>v=.int .i64 d|10=>v=.int .i64 (d - 1)|14=>v=w.heap.size|15=>v=(w,3)|_=>True)
    (fun L U W=>Nd w g (w.heap.size+1) w.heap.size W9 (63::kp:List UInt8) aa (.slice none 0 0) A c [] xk (DvF (Ag xs) k.part N B q) (L 11) (L 12) (L 13) (L 16) (U 11) (U 12) (U 13) W) (by rw[<-HW9.o];exact Nd.start) ?_ ?_
   ·repeat (first|exact Av.nil|(refine Av.cons ?_ ?_;rotate_left))
    all_goals
     rintro L U W hL hpre HR Hdep K hK;first|(simp[Region.binds]at hpre;done)|simp[Region.binds]at hpre|clear hpre
    iterate 4
     ·exact ir
    ·exact jx
    iterate 3
     ·exact ir
    ·exact jN
    iterate 2
     ·exact ir
    ·exact j5
    ·exact jd
    ·obtain⟨l4,u4⟩:L 4=true/\U 4=.slice A xk.length c:=by
      exact me
     have l12:L 12=true:=ck;have l11:L 11=true:=Ke (Bv Hdep.o 12 11 rfl) l12;have h16:L 16=false:=Bv Hdep.o 16 13 rfl hL;obtain⟨W8,b8,v8,q8,hW,u12,hF,hR8,hg8,hv8,hL8⟩:=HR.o.s2 l12 hL;subst hW;rw[if_pos bQ];refine Kw W8 (.tmp 91) (.tmp 99) 66 rfl (w.heap.size+1) 31 (.pointer none) 1 8 underlying66 Vo rfl aJ [b8] rfl bB (.slice A xk.length c) xk.length (E8 (xk.map (·.1))) u4 u12 hL8.row aU aG hL8.bs ?_;exact mf
    iterate 2
     ·exact ir
    ·exact j8
   rintro L U W hL hφ hR;clear hφ;obtain⟨b6,v6,q6,A6,c6,⟨v7,rfl,k1,k2,k3⟩,hR6,hg6,hS6⟩:=hR.s4 (hL 16 aJ)
   have HF:=Aa (show Ka (Ag xs) k (N+1) (8*B+100) w g p (.returned w.heap.size) W from by
    refine⟨w.heap.size,.mk 63 [] 0 [v7],q6,rfl,Hsm.o v7 k1,by simp[Ay,Di,Fa,Am];omega,by omega,?_,hR6,hg6⟩;have el:(xk++[(b6,Cj (Ag xs) k.part v7)]).length=xk.length+1:=aL;rw[<-el]at hS6;have:=hS6.done aL aO;rw[Hsv.o];rw[Hxk.o]at this;exact this)
   clear hR hL hR6 hg6 hS6 k1 k2 k3;go_wp2_with fail;go_ret;exact HF.o
  have hyi:¬(0:Int)<(y:Int):=aG;have HF:=Aa (HE.o (p+1) w2 (Ar _) HS2.o HR2.o Hg2.o);go_wp2_with fail;go_ret;exact HF.o
 go_enter func106,ntmps106;go_wp2_with fail;obtain⟨W1,hW1⟩:∃W1,W1=w.alloc (.cells #[(63::kp:List UInt8),aa,.slice none 0 0,.slice none 0 0] 68):=⟨_,rfl⟩
 have hz1:W1.heap.size=w.heap.size+1:=di;have HS1:=@Aa (Fk (w.heap.size+1) w.heap.size W1 (63::kp:List UInt8) aa (.slice none 0 0) (.slice none 0 0) (.slice none 0 0) (.slice none 0 0) [] []) cS;have HR1:=Aa (show Ez W1 g p by rw[hW1];exact HR.o.dalloc _);have Hg1:=Aa (show w.grownBy W1 (some g)by rw[hW1];exact World.grownBy_alloc w _ _)
 have HE:=Aa (fun q W (hq:q<=p+1) (h1:Fk (w.heap.size+1) w.heap.size W (63::kp:List UInt8) aa (.slice none 0 0) (.slice none 0 0) (.slice none 0 0) (.slice none 0 0) [] []) (h2:Ez W g q) (h3:w.grownBy W (some g))=>show Ka (Ag xs) k (N+1) (8*B+100) w g p (.returned w.heap.size) W from by
  refine⟨w.heap.size,.mk 63 [] 0 [],q,rfl,Hno.o,by simp[Ay,Di,Fa],by omega,?_,h2,h3⟩;have:=h1.done aL aL;rw[Hsv.o];exact this)
 have HF:=Aa (HE.o p W1 aG HS1.o HR1.o Hg1.o);rw[<-hW1];clear hW1;go_ret;exact HF.o
def DtC(xs:List (Ty × Value))(xv:Value)(k:Kd)(d:Int)(N B:Nat):Prop:=∀(g p:Nat) (W:World),G8 W xv xs->Ez W g p->p+B<=900000000 ->
 Calls prog 137 #[g,xv,.string ⟨(Bt k).toArray⟩,.int .i64 d] W (Ka (Ag xs) k N B W g p)
theorem Qa3{W:World}{b b' k n:Nat}{e:TypeId}{v:Value}{xs:List Value}(h:W.ownsRow b e k v n xs)(hb:b'<=b):W.ownsRow b' e k v n xs:=by
 obtain⟨h0,h|⟨g,cap,cur,h1,h2,h3⟩⟩:=h
 ·exact⟨h0,.inl h⟩
 exact⟨h0,.inr ⟨g,cap,cur,h1,ad hb h2,h3⟩⟩
theorem Qe0(W:World)(T:TypeId)(u:Value):(W.alloc (.cells #[u] T)).ownsRow W.heap.size T 1 (.slice (W,0) 1 1) 1 [u]:=
 ⟨rfl,.inr ⟨W.heap.size,1,#[u],rfl,Ar _,heap_alloc_new W _,Ar _,by unfold maxLen;omega,rfl,rfl⟩⟩
section
variable {base B:Nat} {W W':World} {h0 h1:Value}
theorem Fk.putT{xs:List (Nat × SV)}{ku kv:Value}(h:Fk base B W h0 h1 (.slice none 0 0) (.slice none 0 0) ku kv [] xs)(g:Nat):
  Fk base B ((W.alloc (.cells #[(g:Int)] 3)).setCell ⟨B,2,none⟩ (.slice (W,0) 1 1)) h0 h1 (.slice (W,0) 1 1) (.slice (W,0) 1 1) ku kv [g] xs:=by
 have hb:Below W W (W.alloc (.cells #[(g:Int)] 3)):=(Aw _ _).alloc (Ar _) _;have h':=h.after hb;refine Fk.set2 (tu:=.slice none 0 0) ⟨h'.lt,h'.bs,h'.hB,h'.bk,h'.c0,h'.c1,h'.c2,h'.c3,Qa3 (Qe0 W _ _) h.bs,h'.row,fun x hx=>(h.kids x hx).mono (fun c hc hl=>⟨hc.1,hc.2.1,fun e=>by injection e with e;simp only at e;omega⟩) |>.after hb⟩
theorem Fk.putK{gs:List Nat}{tv:Value}(h:Fk base B W h0 h1 tv tv (.slice none 0 0) (.slice none 0 0) gs []){b:Nat}{v:SV}(hv:Gx (fun c=>base<=c/\tv.ownBlock≠some c) W b v):
  Fk base B ((W.alloc (.cells #[b] 31)).setCell ⟨B,3,none⟩ (.slice (W,0) 1 1)) h0 h1 tv tv (.slice (W,0) 1 1) (.slice (W,0) 1 1) gs [(b,v)]:=by
 have hb:Below W W (W.alloc (.cells #[b] 31)):=(Aw _ _).alloc (Ar _) _;have h':=h.after hb;refine Fk.set3 (ku:=.slice none 0 0) ⟨h'.lt,h'.bs,h'.hB,h'.bk,h'.c0,h'.c1,h'.c2,h'.c3,h'.tags,Qa3 (Qe0 W _ _) h.bs,fun x hx=>?_⟩;rw[ap]at hx;subst hx;exact(hv.mono (Q:=fun c=>base<=c/\(Value.slice (W,0) 1 1).ownBlock≠some c/\tv.ownBlock≠some c) fun c hc hl=>⟨hc.1,fun e=>by injection e with e;simp only at e;omega,hc.2⟩).after hb
end
structure Qns(g p B:Nat)(fs:List Fd)(W1:World)(lc lb ls:Bool)(ub:Value)(W:World):Prop where
 s0:lc=false->W=W1
 s1:lc=true->lb=false->Ez W g p/\W1.grownBy W (some g)
 s2:lb=true->ls=false->∃W8,∃f∈fs,W=W8.alloc (.cells #[(f.tag:Int)] 3)/\ub=.slice (some ⟨W8.heap.size,0,none⟩) 1 1/\Ez W8 g p/\W1.grownBy W8 (some g)
 s3:ls=true->∃W8,∃f∈fs,W=(W8.alloc (.cells #[(f.tag:Int)] 3)).setCell ⟨B,2,none⟩ (.slice (some ⟨W8.heap.size,0,none⟩) 1 1)/\Ez W8 g p/\W1.grownBy W8 (some g)
theorem Qns.old{g p B:Nat}{fs:List Fd}{W1 W:World}{lc lb ls:Bool}{ub:Value}(h:Qns g p B fs W1 lc lb ls ub W)(hs:ls=false){b o:Nat}{u:Value}(hb:b<W1.heap.size)(hg:b≠g)(hu:W1.cell? ⟨b,o,none⟩=some u):W.cell? ⟨b,o,none⟩=some u:=by
 have hn:some b≠some g:=fun e=>hg (by injection e);cases ec:lc with
 |false=>rw[h.s0 ec];exact hu
 |true=>
  cases eb:lb with
  |false=>exact(h.s1 ec eb).2.cell hu hn
  |true=>
   obtain⟨W8,f,_,rfl,_,_,h8⟩:=h.s2 eb hs;exact(((Aw W8.heap.size W8).alloc (Ar _) _).cell (p:=⟨b,o,none⟩) (ac hb h8.size)).trans (h8.cell hu hn)
theorem Qnr(xs:List (Ty × Value))(A0:Option Addr)(c0:Nat)(k:Kd)(hk:Ch k)(hsg:k.signs=[])(hbs:k.base=[64])(nm:List UInt8)(fs:List Fd)(A9:Option Addr)(c9:Nat)(hx:E3 xs k.name=some (⟨69,nm,fs⟩,.slice A9 fs.length c9))(htg:∀f∈fs,Bj fs f.tag=some f)(h200:∀f∈fs,f.tag<=200)(hfk:∀f∈fs,(Bt f.kind).length<=20)(hn0:0<fs.length)(hn8:fs.length<=8)(d:Int)(hd:-1000<=d)(hd2:d<=1000)(N:Nat):DtC xs (.slice A0 xs.length c0) k d (N+1) 100:=by
 intro g p w hsc hR hp;have hgl:=hR.lt;have HR:=Aa hR;have HSc:=Aa hsc
 have Hr:=Aa (show ∀W,G8 W (.slice A0 xs.length c0) xs->Calls prog 47 #[.slice A0 xs.length c0,.string ⟨(Bt k).toArray⟩] W fun e w'=>e=.returned (.tuple #[.agg #[.int .u8 69,nm,.slice A9 fs.length c9],.bool true])/\Below W W w' from fun W hW=>by
  have h:=Gf (.slice A0 xs.length c0) xs k W hW hk;rw[show J3 xs k=some (⟨69,nm,fs⟩,.slice A9 fs.length c9)from by unfold J3;rw[if_pos ⟨hsg,hbs⟩];exact hx]at h;exact h)
 have HFd:=@Aa (∀W,G8 W (.slice A0 xs.length c0) xs->Ef W (.slice A9 fs.length c9) fs) (fun W hW=>by obtain⟨_,_,_,_,_,hf⟩:=hW;exact hf _ (Db hx).1);have hft:=(Db hx).2.2;have hkl:(Bt k).length<=100:=bW;have Hok:=Aa (fun f (hf:f∈fs)=>Gb.enm (S:=Ag xs) (d:=N) hsg hbs hft rfl (htg f hf));have Hsv:=Aa (fun g=>Th (Ag xs) k g);have Hh2:=Aa h200;have Hfk:=Aa hfk;generalize Bt k=kb at *;obtain⟨xv,hxv⟩:∃xv:Value,xv=.slice A0 xs.length c0:=⟨_,rfl⟩
 rw[<-hxv]at HSc Hr HFd ⊢;clear hR hsc hk hsg hbs hx hft htg h200 hfk hxv;go_enter func137,ntmps137;go_wp2_with fail;refine(Hr.o _ HSc.o).mono ?_;rintro e w1 ⟨rfl,hb1⟩;have HR1:=Aa (HR.o.below hb1);have Hb1:=Aa hb1;have hz1:=hb1.size;clear hb1;have hcv:=fun W=>N5 W (w1.heap.size+1) 1 69;obtain⟨W3,hW3⟩:∃W3,W3=((w1.alloc (.cells #[.int .u8 69,nm,.slice A9 fs.length c9] 95)).alloc (.cells #[.int .u8 69] 5)).alloc (.cells #[kb,([69]:List UInt8),.slice none 0 0,.slice none 0 0] 68):=⟨_,rfl⟩
 have hz3:W3.heap.size=w1.heap.size+3:=fM;have b13:Below w1 w1 W3:=i7
 have HS3:=Aa (show Fk (w1.heap.size+3) (w1.heap.size+2) W3 kb ([69]:List UInt8) (.slice none 0 0) (.slice none 0 0) (.slice none 0 0) (.slice none 0 0) [] []from by
  have:=Fk.new (W:=(w1.alloc (.cells #[.int .u8 69,nm,.slice A9 fs.length c9] 95)).alloc (.cells #[.int .u8 69] 5)) (T:=68) kb ([69]:List UInt8);rw[<-hW3]at this;simpa using this)
 have HR3:=Aa (HR1.o.below b13);have Hg3:=@Aa (w.grownBy W3 (some g)) (Cs (Hb1.o.trans (b13.mono Hb1.o.size)) _);have HX3:=@Aa (G8 W3 xv xs) (HSc.o.below (Hb1.o.trans (b13.mono Hb1.o.size)));have X2:=@Aa (W3.cell? (w1,2)=some (.slice A9 fs.length c9)) fU;have HF3:=Aa (HFd.o W3 HX3.o);have Hw3:=Aa hW3;clear hW3 b13 HR1;go_upto_region 5 with fail
 rw[<-Hw3.o];clear hcv Hw3;obtain⟨W4,hW4⟩:∃W4,W4=W3.drew:=⟨_,rfl⟩
 have hz4:W4.heap.size=w1.heap.size+3:=by rw[hW4];simpa using hz3
 have HS4:=@Aa (Fk (w1.heap.size+3) (w1.heap.size+2) W4 kb ([69]:List UInt8) (.slice none 0 0) (.slice none 0 0) (.slice none 0 0) (.slice none 0 0) [] []) (by rw[hW4];exact HS3.o.after (Aw _ _).drew);have HR4:=Aa (show Ez W4 g p by rw[hW4];exact HR3.o.ddrew);have Hg4:=Aa (show w.grownBy W4 (some g)by rw[hW4];exact Gh Hg3.o);have X4:=Aa (show W4.cell? (w1,2)=some (.slice A9 fs.length c9)by rw[hW4];exact X2.o);have HF4:=Aa (show Ef W4 (.slice A9 fs.length c9) fs by rw[hW4];exact HF3.o.below (Aw _ _).drew);have HW4:=Aa hW4;clear hW4 HS3 HR3 Hg3 X2 HF3;refine Qr [32,33,34,35,36,37,38,39,40,41,42,43,44,45,999]
  (fun ix v W=>match ix with|0=>v=(w1,2,0)|1=>v=(w1,2)|2=>v=.slice A9 fs.length c9|3=>v=g|4=>v=(w1,2)|5=>v=.slice A9 fs.length c9|6=>v=(fs.length:Int)|7=>∃x:Nat,v=(x:Int)/\x<fs.length|8=>∃x:Nat,x<fs.length/\∃b o:Nat,A9=some ⟨b,o,none⟩/\v=.pointer (some ⟨b,o+x*4,none⟩)|9=>∃x:Nat,x<fs.length/\∃b o:Nat,A9=some ⟨b,o,none⟩/\v=.pointer (some ⟨b,o+x*4,none⟩)|10=>∃f∈fs,v=(f.tag:Int)|12=>v=(w1,2,0)|13=>v=(w1,2,2)|_=>True)
  (fun L U W=>Qns g (p+1) (w1.heap.size+2) fs W4 (L 7) (L 11) (L 14) (U 11) W) (by rw[<-HW4.o];exact⟨fun _=>rfl,fun h=>Bool.noConfusion h,fun h=>Bool.noConfusion h,fun h=>Bool.noConfusion h⟩) ?_ ?_
 ·repeat (first|exact Av.nil|(refine Av.cons ?_ ?_;rotate_left))
  all_goals
   rintro L U W hL hpre HR Hdep K hK;first|(simp[Region.binds]at hpre;done)|simp[Region.binds]at hpre|clear hpre
  iterate 2
   ·exact ir
  ·have h14:L 14=false:=Bv Hdep.o 14 11 rfl (Bv Hdep.o 11 10 rfl (Bv Hdep.o 10 9 rfl (Bv Hdep.o 9 8 rfl (Bv Hdep.o 8 2 rfl hL))));exact mg
  iterate 2
   ·exact ir
  ·have h7:L 7=false:=Bv Hdep.o 7 6 rfl (Bv Hdep.o 6 5 rfl hL);have h14:L 14=false:=Bv Hdep.o 14 11 rfl (Bv Hdep.o 11 10 rfl (Bv Hdep.o 10 9 rfl (Bv Hdep.o 9 8 rfl (Bv Hdep.o 8 7 rfl h7))));exact mg
  ·exact ir
  ·have h11:L 11=false:=Bv Hdep.o 11 10 rfl (Bv Hdep.o 10 9 rfl (Bv Hdep.o 9 8 rfl (Bv Hdep.o 8 7 rfl hL)));have h14:L 14=false:=Bv Hdep.o 14 11 rfl h11;have hW:=HR.o.s0 hL;subst hW;go_simp;refine(Bu g p (fs.length:Int) _ HR4.o aG aG aG).mono ?_;rintro e w5 ⟨x,rfl,hx1,_,hR5,hg5⟩;exact hK _ _ _ ⟨x,rfl,by omega⟩ Ac ⟨fun h=>by simp at h,fun _ _=>⟨hR5,hg5⟩,fun h=>absurd (h11.symm.trans aR) aJ,fun h=>absurd (h14.symm.trans aR) aJ⟩ aI
  ·obtain⟨x,u7,hx⟩:∃x:Nat,U 7=(x:Int)/\x<fs.length:=fW;have u2:U 2=.slice A9 fs.length c9:=fV;obtain⟨A5,c5,e5,hl5,hr5⟩:=HF4.o;injection e5 with e5 _ e6;subst e5 e6;obtain⟨b5,o5,rfl,_,_⟩:=Ef.at_ hr5 hx;have i1:(0:Int)<=(x:Int):=aG;have i2:(x:Int)<(fs.length:Int):=aG;simp only[u7,u2];go_simp;exact hK _ _ _ ⟨x,hx,b5,o5,rfl,rfl⟩ Ac HR.o (by simp[Act.put,hpre,u7,u2])
  ·obtain⟨x,hx,b5,o5,eA,u8⟩:∃x:Nat,x<fs.length/\∃b o:Nat,A9=some ⟨b,o,none⟩/\U 8=.pointer (some ⟨b,o+x*4,none⟩):=dO;simp only[u8];go_simp;exact hK _ _ _ ⟨x,hx,b5,o5,eA,rfl⟩ Ac HR.o (by simp[Act.put,hpre,u8,eA])
  ·obtain⟨x,hx,b5,o5,eA,u9⟩:∃x:Nat,x<fs.length/\∃b o:Nat,A9=some ⟨b,o,none⟩/\U 9=.pointer (some ⟨b,o+x*4,none⟩):=dO;have l9:L 9=true:=fB;have l8:L 8=true:=Ke (Bv Hdep.o 9 8 rfl) l9;have l7:L 7=true:=Ke (Bv Hdep.o 8 7 rfl) l8;have h11:L 11=false:=Bv Hdep.o 11 10 rfl hL;obtain⟨hR5,hg5⟩:=HR.o.s1 l7 h11;obtain⟨A5,c5,e5,hl5,hr5⟩:=HF4.o.grown HR4.o hg5;injection e5 with e5 _ e6;subst e5 e6;obtain⟨b6,o6,eA6,_,y0,_,_,_⟩:=Ef.at_ hr5 hx;rw[eA]at eA6;injection eA6 with eA6;injection eA6 with e7 e8;subst e7 e8;simp only[u9];go_simp;exact hK _ _ _ ⟨_,ae hx,rfl⟩ Ac HR.o (by simp[Act.put,hpre,u9,eA])
  ·obtain⟨f,hf,u10⟩:∃f∈fs,U 10=(f.tag:Int):=dO;have l10:L 10=true:=fB;have l9:L 9=true:=Ke (Bv Hdep.o 10 9 rfl) l10;have l8:L 8=true:=Ke (Bv Hdep.o 9 8 rfl) l9;have l7:L 7=true:=Ke (Bv Hdep.o 8 7 rfl) l8;have h14:L 14=false:=Bv Hdep.o 14 11 rfl hL;obtain⟨hR5,hg5⟩:=HR.o.s1 l7 hL;simp only[u10];go_simp;exact hK _ _ _ Ac Ac ⟨fun h=>absurd (l7.symm.trans aR) aJ,fun _ h=>by simp at h,fun _ _=>⟨W,f,hf,rfl,rfl,hR5,hg5⟩,fun h=>absurd (h14.symm.trans aR) aJ⟩ (by simp[Act.put,hpre,u10])
  iterate 2
   ·exact ir
  ·have l11:L 11=true:=ck;have l10:L 10=true:=Ke (Bv Hdep.o 11 10 rfl) l11;have l9:L 9=true:=Ke (Bv Hdep.o 10 9 rfl) l10;have l8:L 8=true:=Ke (Bv Hdep.o 9 8 rfl) l9;have l7:L 7=true:=Ke (Bv Hdep.o 8 7 rfl) l8;obtain⟨W8,f,hf,hW,u11,hR8,hg8⟩:=HR.o.s2 l11 hL;subst hW;have hS8:=(HS4.o.gr hg8 aG).after ((Aw W8.heap.size W8).alloc (Ar _) (.cells #[(f.tag:Int)] 3));have x3:=hS8.c2;have x4:=hS8.bk.live 2;have x5:=hS8.lt;simp only[u11];go_simp;exact hK undef _ _ Ac Ac ⟨fun h=>absurd (l7.symm.trans aR) aJ,fun _ h=>absurd (l11.symm.trans aR) aJ,fun _ h=>by simp at h,fun _=>⟨W8,f,hf,by simp[hpre],hR8,hg8⟩⟩ (by simp[Act.put,hpre,u11])
 rintro L U W hL hφ hR;clear hφ;obtain⟨W8,f,hf,rfl,hR8,hg8⟩:=hR.s3 (hL 14 aJ)
 have HF:=Aa (show Ka (Ag xs) k (N+1) 100 w g p (.returned (w1,2,0)) ((W8.alloc (.cells #[(f.tag:Int)] 3)).setCell ⟨w1.heap.size+2,2,none⟩ (.slice (W8,0) 1 1))from by
  have hdl:=C0 2 f.tag (by have:=Hh2.o f hf;omega);have hS:=((HS4.o.gr hg8 aG).putT f.tag).done aL aL;have hg9:=Ae Hg4.o hg8;refine⟨w1.heap.size+2,.mk 69 [] f.tag [],p+1,rfl,Hok.o f hf,by simp[Ay,Di,Fa];omega,by omega,?_,(hR8.dalloc _).row (Al _ (w1.heap.size+2) 2 _) (base:=w1.heap.size+2) (fun k e=>by injection e with e;omega) aG,Gd (Ae hg9 (World.grownBy_alloc W8 _ _)) (Al _ (w1.heap.size+2) 2 _) (base:=w1.heap.size+2) (fun k e=>by injection e with e;omega) aG⟩;rw[Hsv.o];exact hS.mono fun c hc _=>by omega)
 clear hR hL hR8 hg8;go_wp2_with fail;go_ret;exact HF.o
theorem Qbo{W W':World}{b o n:Nat}{r:Option Nat}(h:W.there b o n)(hb:b<W.heap.size)(hg:W.grownBy W' r)(hne:some b≠r):W'.there b o n:=fun j hj=>by
 obtain⟨h1,h2⟩:=h j hj;have e:=hg.block b hb hne;simp only[World.cell?,World.frozen?,e]at h1 h2 ⊢;exact⟨h1,h2⟩
theorem Px(b:Nat):∀(vs:List Value) (o:Nat) (w:World),w.grownBy (w.setCells b o vs) (some b)
 |[],_,w=>World.grownBy.refl _ _
 |v::r,o,w=>Ae (Al w b o v) (Px b r (o+1) _)
theorem Fk.far{base B b:Nat}{W W':World}{h0 h1:Value}(h:Fk base B W h0 h1 (.slice none 0 0) (.slice none 0 0) (.slice none 0 0) (.slice none 0 0) [] [])(hg:W.grownBy W' (some b))(hb:b≠B:=by omega):Fk base B W' h0 h1 (.slice none 0 0) (.slice none 0 0) (.slice none 0 0) (.slice none 0 0) [] []:=by
 have hn:some B≠some b:=fun e=>hb (by injection e with e;exact e.symm);exact⟨ac h.lt hg.size,ad h.bs hg.size,h.hB,h.bk.grown h.lt hg hn,hg.cell h.c0 hn,hg.cell h.c1 hn,hg.cell h.c2 hn,hg.cell h.c3 hn,World.ownsRow_nil _ _ _ _,World.ownsRow_nil _ _ _ _,by simp⟩
theorem Qmj(xs:List (Ty × Value))(A0:Option Addr)(c0:Nat)(k:Kd)(hk:Ch k)(hsg:k.signs=[])(hbs:k.base=[64])(nm:List UInt8)(fs:List Fd)(A9:Option Addr)(c9:Nat)(hx:E3 xs k.name=some (⟨85,nm,fs⟩,.slice A9 fs.length c9))(htg:∀f∈fs,Bj fs f.tag=some f)(h200:∀f∈fs,f.tag<=200)(hfk:∀f∈fs,(Bt f.kind).length<=20)(hn0:0<fs.length)(hn8:fs.length<=8)(d:Int)(hd:-1000<=d)(hd2:d<=1000)(N:Nat)(B:Nat)(HH:Vf xs (.slice A0 xs.length c0) (fs[0]).kind (d - 1) N B)(hdp:¬0<d):DtC xs (.slice A0 xs.length c0) k d (N+1) (B+100):=by
 intro g p w hsc hR hp;have hgl:=hR.lt;have HR:=Aa hR;have HSc:=Aa hsc
 have Hr:=Aa (show ∀W,G8 W (.slice A0 xs.length c0) xs->Calls prog 47 #[.slice A0 xs.length c0,.string ⟨(Bt k).toArray⟩] W fun e w'=>e=.returned (.tuple #[.agg #[.int .u8 85,nm,.slice A9 fs.length c9],.bool true])/\Below W W w' from fun W hW=>by
  have h:=Gf (.slice A0 xs.length c0) xs k W hW hk;rw[show J3 xs k=some (⟨85,nm,fs⟩,.slice A9 fs.length c9)from by unfold J3;rw[if_pos ⟨hsg,hbs⟩];exact hx]at h;exact h)
 have HFd:=@Aa (∀W,G8 W (.slice A0 xs.length c0) xs->Ef W (.slice A9 fs.length c9) fs) (fun W hW=>by obtain⟨_,_,_,_,_,hf⟩:=hW;exact hf _ (Db hx).1);have hft:=(Db hx).2.2;have hkl:(Bt k).length<=100:=bW;have Hok:=Aa (fun f (hf:f∈fs) x (h:Gb (Ag xs) N f.kind x)=>Gb.uni (S:=Ag xs) hsg hbs hft rfl (htg f hf) h);have Hsv:=@Aa (∀f∈fs,∀x,Cj (Ag xs) k (.mk 85 [] f.tag [x])=.mk (Bt k) [85] [f.tag] [Cj (Ag xs) f.kind x]) (fun f hf x=>by rw[Qu,Cv hft (htg f hf)]);unfold Vf at HH;have Hh2:=Aa h200;have Hfk:=Aa hfk;generalize Bt k=kb at *;obtain⟨xv,hxv⟩:∃xv:Value,xv=.slice A0 xs.length c0:=⟨_,rfl⟩
 rw[<-hxv]at HSc Hr HFd HH ⊢;have HH0:=Aa HH;clear HH hR hsc hk hsg hbs hx hft htg h200 hfk hxv;go_enter func137,ntmps137;go_wp2_with fail;refine(Hr.o _ HSc.o).mono ?_;rintro e w1 ⟨rfl,hb1⟩;have HR1:=Aa (HR.o.below hb1);have Hb1:=Aa hb1;have hz1:=hb1.size;clear hb1;have hcv:=fun W=>N5 W (w1.heap.size+1) 1 85;obtain⟨W3,hW3⟩:∃W3,W3=((w1.alloc (.cells #[.int .u8 85,nm,.slice A9 fs.length c9] 95)).alloc (.cells #[.int .u8 85] 5)).alloc (.cells #[kb,([85]:List UInt8),.slice none 0 0,.slice none 0 0] 68):=⟨_,rfl⟩
 have hz3:W3.heap.size=w1.heap.size+3:=fM;have b13:Below w1 w1 W3:=i7
 have HS3:=Aa (show Fk (w1.heap.size+3) (w1.heap.size+2) W3 kb ([85]:List UInt8) (.slice none 0 0) (.slice none 0 0) (.slice none 0 0) (.slice none 0 0) [] []from by
  have:=Fk.new (W:=(w1.alloc (.cells #[.int .u8 85,nm,.slice A9 fs.length c9] 95)).alloc (.cells #[.int .u8 85] 5)) (T:=68) kb ([85]:List UInt8);rw[<-hW3]at this;simpa using this)
 have HR3:=Aa (HR1.o.below b13);have Hg3:=@Aa (w.grownBy W3 (some g)) (Cs (Hb1.o.trans (b13.mono Hb1.o.size)) _);have HX3:=@Aa (G8 W3 xv xs) (HSc.o.below (Hb1.o.trans (b13.mono Hb1.o.size)));have X2:=@Aa (W3.cell? (w1,2)=some (.slice A9 fs.length c9)) fU;have HF3:=Aa (HFd.o W3 HX3.o);have Hw3:=Aa hW3;clear hW3 b13 HR1;obtain⟨A5,cc5,e5,hl5,hr5⟩:=HFd.o w1 (HSc.o.below Hb1.o);injection e5 with e5 _ e6;subst e5 e6;obtain⟨b5,o5,rfl,hb5,x0,x1,x2,x3⟩:=Ef.at_ hr5 hn0;have Hf0:=Aa (ae hn0);generalize fs[0]=f0 at x0 x1 x2 x3 Hf0 HH0;simp only[Nat.zero_mul,Nat.add_zero]at x0 x1 x2 x3;have nb0:¬(b5=w1.heap.size):=aG;have nb1:¬(b5=w1.heap.size+1):=aG;have nb2:¬(b5=w1.heap.size+1+1):=aG;have lb1:b5<w1.heap.size+1:=aG;have lb2:b5<w1.heap.size+1+1:=aG;have hn0i:(0:Int)<(fs.length:Int):=aG;go_upto_region 11 with fail
 rw[<-Hw3.o];clear hcv;obtain⟨W9,hW9⟩:∃W9,W9=W3.alloc (.cells #[(f0.tag:Int),f0.name,.string ⟨(Bt f0.kind).toArray⟩,f0.given] 118):=⟨_,rfl⟩
 rw[<-hW9];have b39:Below W3 W3 W9:=by rw[hW9];exact(Aw _ _).alloc (Ar _) _
 have HS9:=Aa (HS3.o.after b39);have HR9:=Aa (HR3.o.below b39);have Hg9:=Aa (Ae Hg3.o (Cs b39 _));have LF9:=Aa (show w1.heap.size+3<W9.heap.size by rw[hW9];simp;omega);have RF9:=Aa (show W9.rangeAt (w1.heap.size+3) 0 (Xh f0)by rw[hW9,<-hz3];exact Ca W3 (Xh f0) 118);clear hW9 b39 Hw3 x0 x1 x2 x3 HS3 HR3 Hg3;obtain⟨f,hf⟩:∃f,f=f0:=⟨_,rfl⟩
 subst hf;have Hf:=Hf0;have HCf:=HH0;have z0:=Ab RF9.o 0 rfl;have z2:=Ab RF9.o 2 rfl;simp only[am]at z0 z2;have y2:=HS9.o.c2;have y2f:=HS9.o.bk.live 2;have ly:=HS9.o.lt;have lF:=LF9.o;have nBF:¬(w1.heap.size+3=w1.heap.size+2):=aG;have nB9:¬(w1.heap.size+2=W9.heap.size):=aG;have nF9:¬(w1.heap.size+3=W9.heap.size):=aG;have hwd:IntKind.i64.wrap (d - 1)=d - 1:=IntWalk.i64_in _ aG;have hE:(W9.setCell ⟨w1.heap.size+1+1,2,none⟩ (.slice (some ⟨W9.heap.size,0,none⟩) 1 1)).alloc (.cells #[(f.tag:Int)] 3)=(W9.alloc (.cells #[(f.tag:Int)] 3)).setCell ⟨w1.heap.size+2,2,none⟩ (.slice (some ⟨W9.heap.size,0,none⟩) 1 1):=by
  have ly2:w1.heap.size+1+1<W9.heap.size:=ly;show _=(W9.alloc (.cells #[(f.tag:Int)] 3)).setCell ⟨w1.heap.size+1+1,2,none⟩ (.slice (some ⟨W9.heap.size,0,none⟩) 1 1);go_simp
 have HE9:=Aa hE;clear hE;go_wp2_with fail;obtain⟨WC,hWC⟩:∃WC,WC=(W9.alloc (.cells #[(f.tag:Int)] 3)).setCell ⟨w1.heap.size+2,2,none⟩ (.slice (some ⟨W9.heap.size,0,none⟩) 1 1):=⟨_,rfl⟩
 have hzC:WC.heap.size=W9.heap.size+1:=by rw[hWC];simp
 have HSC:=@Aa (Fk (w1.heap.size+3) (w1.heap.size+2) WC kb ([85]:List UInt8) (.slice (some ⟨W9.heap.size,0,none⟩) 1 1) (.slice (some ⟨W9.heap.size,0,none⟩) 1 1) (.slice none 0 0) (.slice none 0 0) [f.tag] []) (by rw[hWC];exact HS9.o.putT f.tag);have HRC:=Aa (show Ez WC g (p)by rw[hWC];exact(HR9.o.dalloc _).row (Al _ (w1.heap.size+2) 2 _) (base:=w1.heap.size+2) (fun k e=>by injection e with e;omega) aG);have HgC:=Aa (show w.grownBy WC (some g)by rw[hWC];exact Gd (Ae Hg9.o (World.grownBy_alloc W9 _ _)) (Al _ (w1.heap.size+2) 2 _) (base:=w1.heap.size+2) (fun k e=>by injection e with e;omega) aG);have HXC:=@Aa (G8 WC xv xs) (HSc.o.grown HR.o HgC.o);rw[HE9.o,<-hWC];clear hWC z0 z2 y2 y2f ly lF nBF nB9 nF9;refine(HCf.o g (p) WC HXC.o HRC.o aG).mono ?_;rintro e w5 ⟨b6,v6,q6,rfl,k1,k2,k3,k4,k5,k6⟩;have HS5:=Aa (HSC.o.gr k6 aG);have y3:=HS5.o.c3;have y3f:=HS5.o.bk.live 3;have ly5:=HS5.o.lt;have nB5:¬(w1.heap.size+2=w5.heap.size):=aG;have K1:=Aa k1;have K4:=Aa k4;have K5:=Aa k5;have Hg5:=Aa (Ae HgC.o k6);clear k1 k4 k5 k6;have hE:(w5.setCell ⟨w1.heap.size+1+1,3,none⟩ (.slice (w5,0) 1 1)).alloc (.cells #[b6] 31)=(w5.alloc (.cells #[b6] 31)).setCell ⟨w1.heap.size+2,3,none⟩ (.slice (w5,0) 1 1):=by
  have ly2:w1.heap.size+1+1<w5.heap.size:=ly5;show _=(w5.alloc (.cells #[b6] 31)).setCell ⟨w1.heap.size+1+1,3,none⟩ (.slice (w5,0) 1 1);go_simp
 have HE5:=Aa hE;clear hE;go_wp2_with fail;go_ret;rw[HE5.o];have lF9:=LF9.o;have hdl:=C0 2 f.tag (by have:=Hh2.o f Hf.o;omega);refine⟨w1.heap.size+2,.mk 85 [] f.tag [v6],q6,rfl,Hok.o f Hf.o v6 K1.o,by rw[Ri];simp[J8];omega,by omega,?_,(K5.o.dalloc _).row (Al _ (w1.heap.size+2) 3 _) (base:=w1.heap.size+2) (fun k e=>by injection e with e;omega) aG,Gd (Ae Hg5.o (World.grownBy_alloc w5 _ _)) (Al _ (w1.heap.size+2) 3 _) (base:=w1.heap.size+2) (fun k e=>by injection e with e;omega) aG⟩;exact mh
theorem Qmo(xs:List (Ty × Value))(A0:Option Addr)(c0:Nat)(k:Kd)(hk:Ch k)(hsg:k.signs=[])(hbs:k.base=[64])(nm:List UInt8)(fs:List Fd)(A9:Option Addr)(c9:Nat)(hx:E3 xs k.name=some (⟨85,nm,fs⟩,.slice A9 fs.length c9))(htg:∀f∈fs,Bj fs f.tag=some f)(h200:∀f∈fs,f.tag<=200)(hfk:∀f∈fs,(Bt f.kind).length<=20)(hn0:0<fs.length)(hn8:fs.length<=8)(d:Int)(hd:-1000<=d)(hd2:d<=1000)(N:Nat)(B:Nat)(HH:∀f∈fs,Vf xs (.slice A0 xs.length c0) f.kind (d - 1) N B)(hdp:0<d):DtC xs (.slice A0 xs.length c0) k d (N+1) (B+100):=by
 intro g p w hsc hR hp;have hgl:=hR.lt;have HR:=Aa hR;have HSc:=Aa hsc
 have Hr:=Aa (show ∀W,G8 W (.slice A0 xs.length c0) xs->Calls prog 47 #[.slice A0 xs.length c0,.string ⟨(Bt k).toArray⟩] W fun e w'=>e=.returned (.tuple #[.agg #[.int .u8 85,nm,.slice A9 fs.length c9],.bool true])/\Below W W w' from fun W hW=>by
  have h:=Gf (.slice A0 xs.length c0) xs k W hW hk;rw[show J3 xs k=some (⟨85,nm,fs⟩,.slice A9 fs.length c9)from by unfold J3;rw[if_pos ⟨hsg,hbs⟩];exact hx]at h;exact h)
 have HFd:=@Aa (∀W,G8 W (.slice A0 xs.length c0) xs->Ef W (.slice A9 fs.length c9) fs) (fun W hW=>by obtain⟨_,_,_,_,_,hf⟩:=hW;exact hf _ (Db hx).1);have hft:=(Db hx).2.2;have hkl:(Bt k).length<=100:=bW;have Hok:=Aa (fun f (hf:f∈fs) x (h:Gb (Ag xs) N f.kind x)=>Gb.uni (S:=Ag xs) hsg hbs hft rfl (htg f hf) h);have Hsv:=@Aa (∀f∈fs,∀x,Cj (Ag xs) k (.mk 85 [] f.tag [x])=.mk (Bt k) [85] [f.tag] [Cj (Ag xs) f.kind x]) (fun f hf x=>by rw[Qu,Cv hft (htg f hf)]);unfold Vf at HH;have Hh2:=Aa h200;have Hfk:=Aa hfk;generalize Bt k=kb at *;obtain⟨xv,hxv⟩:∃xv:Value,xv=.slice A0 xs.length c0:=⟨_,rfl⟩
 rw[<-hxv]at HSc Hr HFd HH ⊢;have HH0:=Aa HH;clear HH hR hsc hk hsg hbs hx hft htg h200 hfk hxv;go_enter func137,ntmps137;go_wp2_with fail;refine(Hr.o _ HSc.o).mono ?_;rintro e w1 ⟨rfl,hb1⟩;have HR1:=Aa (HR.o.below hb1);have Hb1:=Aa hb1;have hz1:=hb1.size;clear hb1;have hcv:=fun W=>N5 W (w1.heap.size+1) 1 85;obtain⟨W3,hW3⟩:∃W3,W3=((w1.alloc (.cells #[.int .u8 85,nm,.slice A9 fs.length c9] 95)).alloc (.cells #[.int .u8 85] 5)).alloc (.cells #[kb,([85]:List UInt8),.slice none 0 0,.slice none 0 0] 68):=⟨_,rfl⟩
 have hz3:W3.heap.size=w1.heap.size+3:=fM;have b13:Below w1 w1 W3:=i7
 have HS3:=Aa (show Fk (w1.heap.size+3) (w1.heap.size+2) W3 kb ([85]:List UInt8) (.slice none 0 0) (.slice none 0 0) (.slice none 0 0) (.slice none 0 0) [] []from by
  have:=Fk.new (W:=(w1.alloc (.cells #[.int .u8 85,nm,.slice A9 fs.length c9] 95)).alloc (.cells #[.int .u8 85] 5)) (T:=68) kb ([85]:List UInt8);rw[<-hW3]at this;simpa using this)
 have HR3:=Aa (HR1.o.below b13);have Hg3:=@Aa (w.grownBy W3 (some g)) (Cs (Hb1.o.trans (b13.mono Hb1.o.size)) _);have HX3:=@Aa (G8 W3 xv xs) (HSc.o.below (Hb1.o.trans (b13.mono Hb1.o.size)));have X2:=@Aa (W3.cell? (w1,2)=some (.slice A9 fs.length c9)) fU;have HF3:=Aa (HFd.o W3 HX3.o);have Hw3:=Aa hW3;clear hW3 b13 HR1;obtain⟨A5,cc5,e5,hl5,hr5⟩:=HFd.o w1 (HSc.o.below Hb1.o);injection e5 with e5 _ e6;subst e5 e6;obtain⟨b5,o5,rfl,hb5,x0,x1,x2,x3⟩:=Ef.at_ hr5 hn0;have Hf0:=Aa (ae hn0);generalize fs[0]=f0 at x0 x1 x2 x3 Hf0;simp only[Nat.zero_mul,Nat.add_zero]at x0 x1 x2 x3;have nb0:¬(b5=w1.heap.size):=aG;have nb1:¬(b5=w1.heap.size+1):=aG;have nb2:¬(b5=w1.heap.size+1+1):=aG;have lb1:b5<w1.heap.size+1:=aG;have lb2:b5<w1.heap.size+1+1:=aG;have hn0i:(0:Int)<(fs.length:Int):=aG;go_upto_region 10 with fail
 rw[<-Hw3.o];clear hcv;obtain⟨W4,hW4⟩:∃W4,W4=(W3.alloc (.cells #[(f0.tag:Int),f0.name,.string ⟨(Bt f0.kind).toArray⟩,f0.given] 118)).drew:=⟨_,rfl⟩
 have b34:Below W3 W3 W4:=by rw[hW4];exact((Aw _ _).alloc (Ar _) _).drew
 have hz4:W4.heap.size=w1.heap.size+4:=by rw[hW4];simp;omega
 have HS4:=Aa (HS3.o.after b34);have HR4:=Aa (HR3.o.below b34);have Hg4:=Aa (Ae Hg3.o (Cs b34 _));have T4:=Aa (show W4.there (w1.heap.size+3) 0 4 by rw[hW4,<-hz3];have h9:=Dk W3 (Xh f0) 118;exact Bc h9 (show W3.heap.size<(W3.alloc (.cells (Xh f0).toArray 118)).heap.size by simp) (Aw _ _).drew);have X4:=Aa ((b34.cell (p:=⟨w1.heap.size,2,none⟩) (show w1.heap.size<W3.heap.size by omega)).trans X2.o);have HF4:=@Aa (Ef W4 (.slice (some ⟨b5,o5,none⟩) fs.length c9) fs) (HF3.o.below b34);have HW4:=Aa hW4;clear hW4 b34 Hw3 x0 x1 x2 x3 HS3 HR3 Hg3 X2 HF3;refine Qr [55,56,57,58,59,60,61,62,63,999]
  (fun ix v W=>match ix with|0=>v=(w1,2)|1=>v=.slice (some ⟨b5,o5,none⟩) fs.length c9|2=>v=g|3=>v=(w1,2)|4=>v=.slice (some ⟨b5,o5,none⟩) fs.length c9|5=>v=(fs.length:Int)|6=>∃x:Nat,v=(x:Int)/\x<fs.length|7=>∃x:Nat,x<fs.length/\v=.pointer (some ⟨b5,o5+x*4,none⟩)|8=>∃f∈fs,v=.agg #[(f.tag:Int),f.name,.string ⟨(Bt f.kind).toArray⟩,f.given]|_=>True)
  (fun L U W=>(L 6=false->W=W4)/\(L 6=true->L 9=false->Ez W g (p+1)/\W4.grownBy W (some g))/\(L 9=true->∃f∈fs,∃W8,W=W8.setCells (w1.heap.size+3) 0 (Xh f)/\Ez W8 g (p+1)/\W4.grownBy W8 (some g))) (by rw[<-HW4.o];exact⟨fun _=>rfl,fun h=>Bool.noConfusion h,fun h=>Bool.noConfusion h⟩) ?_ ?_
 ·repeat (first|exact Av.nil|(refine Av.cons ?_ ?_;rotate_left))
  all_goals
   rintro L U W hL hpre HR Hdep K hK;first|(simp[Region.binds]at hpre;done)|simp[Region.binds]at hpre|clear hpre
  ·exact ir
  ·have h9:L 9=false:=Bv Hdep.o 9 8 rfl (Bv Hdep.o 8 7 rfl (Bv Hdep.o 7 1 rfl hL));have x2:W.cell? (w1,2)=some (.slice (some ⟨b5,o5,none⟩) fs.length c9):=by
    cases e6:L 6 with
    |false=>rw[HR.o.1 e6];exact X4.o
    |true=>exact(HR.o.2.1 e6 h9).2.cell X4.o (fun e=>by injection e with e;simp only at e;omega)
   exact lQ
  iterate 2
   ·exact ir
  ·have h9:L 9=false:=Bv Hdep.o 9 8 rfl (Bv Hdep.o 8 7 rfl (Bv Hdep.o 7 6 rfl (Bv Hdep.o 6 5 rfl (Bv Hdep.o 5 4 rfl hL))));have x2:W.cell? (w1,2)=some (.slice (some ⟨b5,o5,none⟩) fs.length c9):=by
    cases e6:L 6 with
    |false=>rw[HR.o.1 e6];exact X4.o
    |true=>exact(HR.o.2.1 e6 h9).2.cell X4.o (fun e=>by injection e with e;simp only at e;omega)
   exact lQ
  ·exact ir
  ·have h9:L 9=false:=Bv Hdep.o 9 8 rfl (Bv Hdep.o 8 7 rfl (Bv Hdep.o 7 6 rfl hL));have hW:=HR.o.1 hL;subst hW;go_simp;refine(Bu g p (fs.length:Int) _ HR4.o aG aG aG).mono ?_;rintro e w5 ⟨x,rfl,hx1,_,hR5,hg5⟩;exact hK _ _ _ ⟨x,rfl,by omega⟩ Ac ⟨fun h=>by simp at h,fun _ _=>⟨hR5,hg5⟩,fun h=>absurd (h9.symm.trans aR) aJ⟩ aI
  ·obtain⟨x,u6,hx⟩:∃x:Nat,U 6=(x:Int)/\x<fs.length:=fW;have u1:U 1=.slice (some ⟨b5,o5,none⟩) fs.length c9:=fV;have i1:(0:Int)<=(x:Int):=aG;have i2:(x:Int)<(fs.length:Int):=aG;simp only[u6,u1];go_simp;exact hK _ _ _ ⟨x,hx,rfl⟩ Ac HR.o (by simp[Act.put,hpre,u6,u1])
  ·obtain⟨x,hx,u7⟩:∃x:Nat,x<fs.length/\U 7=.pointer (some ⟨b5,o5+x*4,none⟩):=dO;have l7:L 7=true:=fB;have l6:L 6=true:=Ke (Bv Hdep.o 7 6 rfl) l7;have h9:L 9=false:=Bv Hdep.o 9 8 rfl hL;obtain⟨hR5,hg5⟩:=HR.o.2.1 l6 h9;obtain⟨A5,c5,e5,hl5,hr5⟩:=HF4.o.grown HR4.o hg5;injection e5 with e5 _ e6;subst e5 e6;obtain⟨b6,o6,eA6,_,y0,y1,y2,y3⟩:=Ef.at_ hr5 hx;injection eA6 with eA6;injection eA6 with e7 e8;subst e7 e8;simp only[u7];go_simp;exact hK _ _ _ ⟨_,ae hx,rfl⟩ Ac HR.o (by simp[Act.put,hpre,u7])
  ·obtain⟨f,hf,u8⟩:∃f∈fs,U 8=.agg #[(f.tag:Int),f.name,.string ⟨(Bt f.kind).toArray⟩,f.given]:=by first|exact hpre.2|exact hpre.1.2|exact hpre.2.2|exact hpre
   have l8:L 8=true:=by first|exact hpre.1|exact hpre.2.1|exact hpre.1.1
   have l7:L 7=true:=Ke (Bv Hdep.o 8 7 rfl) l8;have l6:L 6=true:=Ke (Bv Hdep.o 7 6 rfl) l7;obtain⟨hR5,hg5⟩:=HR.o.2.1 l6 hL;rw[if_pos bQ];refine wp_store_mid 118 _ _ rfl (w1.heap.size+3) 0 (Xh f).toArray rfl u8 (Qbo T4.o aG hg5 (fun e=>by injection e with e;omega)) aM (by simp[Xh,Value.oneCell']) ?_;exact hK undef _ _ Ac Ac ⟨fun h=>absurd (l6.symm.trans aR) aJ,fun _ h=>by simp at h,fun _=>⟨f,hf,W,rfl,hR5,hg5⟩⟩ rfl
 rintro L U W hL hφ hR;clear hφ;obtain⟨f,hf,W8,rfl,hR8,hg8⟩:=hR.2.2 (hL 9 aJ);have HS8:=HS4.o.gr hg8 aG;have T8:=Qbo T4.o aG hg8 (fun e=>by injection e with e;omega);obtain⟨W9,hW9⟩:∃W9,W9=W8.setCells (w1.heap.size+3) 0 (Xh f):=⟨_,rfl⟩
 have hgc:W8.grownBy W9 (some (w1.heap.size+3)):=by rw[hW9];exact Px _ _ _ _
 have HS9:=Aa (HS8.far hgc);have HR9:=Aa (hR8.row hgc (base:=w1.heap.size+3) (fun k e=>by injection e with e;omega) aG);have Hg9:=Aa (Gd (Ae Hg4.o hg8) hgc (base:=w1.heap.size+3) (fun k e=>by injection e with e;omega) aG);have LF9:=Aa (show w1.heap.size+3<W9.heap.size by have:=hg8.size;have:=hgc.size;omega);have RF9:=Aa (show W9.rangeAt (w1.heap.size+3) 0 (Xh f)by rw[hW9];exact ab _ _ _ _ T8);rw[<-hW9];clear hW9 hgc T8 HS8 hR8 hg8 hR hL;have HCf:=Aa (HH0.o f hf);have Hf:=Aa hf;clear hf;have z0:=Ab RF9.o 0 rfl;have z2:=Ab RF9.o 2 rfl;simp only[am]at z0 z2;have y2:=HS9.o.c2;have y2f:=HS9.o.bk.live 2;have ly:=HS9.o.lt;have lF:=LF9.o;have nBF:¬(w1.heap.size+3=w1.heap.size+2):=aG;have nB9:¬(w1.heap.size+2=W9.heap.size):=aG;have nF9:¬(w1.heap.size+3=W9.heap.size):=aG;have hwd:IntKind.i64.wrap (d - 1)=d - 1:=IntWalk.i64_in _ aG;have hE:(W9.setCell ⟨w1.heap.size+1+1,2,none⟩ (.slice (some ⟨W9.heap.size,0,none⟩) 1 1)).alloc (.cells #[(f.tag:Int)] 3)=(W9.alloc (.cells #[(f.tag:Int)] 3)).setCell ⟨w1.heap.size+2,2,none⟩ (.slice (some ⟨W9.heap.size,0,none⟩) 1 1):=by
  have ly2:w1.heap.size+1+1<W9.heap.size:=ly;show _=(W9.alloc (.cells #[(f.tag:Int)] 3)).setCell ⟨w1.heap.size+1+1,2,none⟩ (.slice (some ⟨W9.heap.size,0,none⟩) 1 1);go_simp
 have HE9:=Aa hE;clear hE;go_wp2_with fail;obtain⟨WC,hWC⟩:∃WC,WC=(W9.alloc (.cells #[(f.tag:Int)] 3)).setCell ⟨w1.heap.size+2,2,none⟩ (.slice (some ⟨W9.heap.size,0,none⟩) 1 1):=⟨_,rfl⟩
 have hzC:WC.heap.size=W9.heap.size+1:=by rw[hWC];simp
 have HSC:=@Aa (Fk (w1.heap.size+3) (w1.heap.size+2) WC kb ([85]:List UInt8) (.slice (some ⟨W9.heap.size,0,none⟩) 1 1) (.slice (some ⟨W9.heap.size,0,none⟩) 1 1) (.slice none 0 0) (.slice none 0 0) [f.tag] []) (by rw[hWC];exact HS9.o.putT f.tag);have HRC:=Aa (show Ez WC g (p+1)by rw[hWC];exact(HR9.o.dalloc _).row (Al _ (w1.heap.size+2) 2 _) (base:=w1.heap.size+2) (fun k e=>by injection e with e;omega) aG);have HgC:=Aa (show w.grownBy WC (some g)by rw[hWC];exact Gd (Ae Hg9.o (World.grownBy_alloc W9 _ _)) (Al _ (w1.heap.size+2) 2 _) (base:=w1.heap.size+2) (fun k e=>by injection e with e;omega) aG);have HXC:=@Aa (G8 WC xv xs) (HSc.o.grown HR.o HgC.o);rw[HE9.o,<-hWC];clear hWC z0 z2 y2 y2f ly lF nBF nB9 nF9;refine(HCf.o g (p+1) WC HXC.o HRC.o aG).mono ?_;rintro e w5 ⟨b6,v6,q6,rfl,k1,k2,k3,k4,k5,k6⟩;have HS5:=Aa (HSC.o.gr k6 aG);have y3:=HS5.o.c3;have y3f:=HS5.o.bk.live 3;have ly5:=HS5.o.lt;have nB5:¬(w1.heap.size+2=w5.heap.size):=aG;have K1:=Aa k1;have K4:=Aa k4;have K5:=Aa k5;have Hg5:=Aa (Ae HgC.o k6);clear k1 k4 k5 k6;have hE:(w5.setCell ⟨w1.heap.size+1+1,3,none⟩ (.slice (w5,0) 1 1)).alloc (.cells #[b6] 31)=(w5.alloc (.cells #[b6] 31)).setCell ⟨w1.heap.size+2,3,none⟩ (.slice (w5,0) 1 1):=by
  have ly2:w1.heap.size+1+1<w5.heap.size:=ly5;show _=(w5.alloc (.cells #[b6] 31)).setCell ⟨w1.heap.size+1+1,3,none⟩ (.slice (w5,0) 1 1);go_simp
 have HE5:=Aa hE;clear hE;go_wp2_with fail;go_ret;rw[HE5.o];have lF9:=LF9.o;have hdl:=C0 2 f.tag (by have:=Hh2.o f Hf.o;omega);refine⟨w1.heap.size+2,.mk 85 [] f.tag [v6],q6,rfl,Hok.o f Hf.o v6 K1.o,by rw[Ri];simp[J8];omega,by omega,?_,(K5.o.dalloc _).row (Al _ (w1.heap.size+2) 3 _) (base:=w1.heap.size+2) (fun k e=>by injection e with e;omega) aG,Gd (Ae Hg5.o (World.grownBy_alloc w5 _ _)) (Al _ (w1.heap.size+2) 3 _) (base:=w1.heap.size+2) (fun k e=>by injection e with e;omega) aG⟩;exact mh
structure Sj(S:List Ty)(N B:Nat)(fs:List Fd)(k:Nat)(ps:List (Fd × Vl)):Prop where
 at_:∀r∈ps,∃i,i<k/\fs[i]?=some r.1
 ok:∀r∈ps,Gb S N r.1.kind r.2
 ne:∀r∈ps,Ay r.2≠Mh S r.1
 le:∀r∈ps,(Ay r.2).length<=B
 pw:ps.Pairwise fun a b=>a.1.tag<b.1.tag
 ln:ps.length<=k
section
variable {S:List Ty} {N B:Nat} {fs:List Fd} {k:Nat} {ps:List (Fd × Vl)}
theorem Sj.nil:Sj S N B fs 0 []:=⟨by simp,by simp,by simp,by simp,.nil,by simp⟩
theorem Sj.skip(h:Sj S N B fs k ps):Sj S N B fs (k+1) ps:=
 ⟨fun r hr=>by obtain⟨i,h1,h2⟩:=h.at_ r hr;exact⟨i,by omega,h2⟩,h.ok,h.ne,h.le,h.pw,by have:=h.ln;omega⟩
theorem Sj.add(h:Sj S N B fs k ps)(hk:k<fs.length)(hpw:fs.Pairwise fun a b=>a.tag<b.tag){v:Vl}(h1:Gb S N fs[k].kind v)(h2:Ay v≠Mh S fs[k])(h3:(Ay v).length<=B):Sj S N B fs (k+1) (ps++[(fs[k],v)]):=by
 have key:∀{P:Fd × Vl->Prop},(∀r∈ps,P r)->P (fs[k],v)->∀r∈ps++[(fs[k],v)],P r:=fun ha hb r hr=>by
  rcases af.1 hr with hr|hr
  ·exact ha r hr
  rw[ap]at hr;subst hr;exact hb
 refine⟨key (fun r hr=>by obtain⟨i,h1,h2⟩:=h.at_ r hr;exact⟨i,by omega,h2⟩) ⟨k,by omega,List.getElem?_eq_getElem hk⟩,key h.ok h1,key h.ne h2,key h.le h3,?_,by have:=h.ln;simp;omega⟩;rw[List.pairwise_append];refine⟨h.pw,List.pairwise_singleton _ _,fun a ha b hb=>?_⟩;rw[ap]at hb;subst hb;obtain⟨i,hi,e⟩:=h.at_ a ha;obtain⟨hil,e⟩:=List.getElem?_eq_some_iff.1 e;have:=(List.pairwise_iff_getElem.1 hpw) i k hil hk hi;rw[e]at this;exact this
theorem Sj.mem(h:Sj S N B fs k ps):∀r∈ps,r.1∈fs:=fun r hr=>by
 obtain⟨i,_,e⟩:=h.at_ r hr;obtain⟨hil,e⟩:=List.getElem?_eq_some_iff.1 e;rw[<-e];exact ae hil
theorem Sj.len(h:Sj S N B fs k ps)(h200:∀f∈fs,f.tag<=200)(hk:k<=8):(Ay (.mk 82 [] 0 (ps.map C5))).length<=8*B+100:=by
 have key:∀(qs:List (Fd × Vl)),(∀r∈qs,r.1.tag<=200/\(Ay r.2).length<=B)->Cq (qs.map fun r=>Ay (C5 r))<=qs.length*(B+5):=by
  intro qs;induction qs with
  |nil=>intro _;simp[Cq]
  |cons r qs ih=>
   intro hq;have h1:=ih fun x hx=>hq x (by simp[hx]);obtain⟨h2,h3⟩:=hq r aL;have h4:(Bb r.1.tag).length<=3:=C0 2 _ aG;have h5:=J8 r;rw[ax,Cu,List.length_cons,Nat.succ_mul];omega
 have h1:=key ps fun r hr=>⟨h200 _ (h.mem r hr),h.le r hr⟩
 have h2:ps.length*(B+5)<=8*(B+5):=Nat.mul_le_mul_right _ (by have:=h.ln;omega);rw[No,List.length_cons,ah,Bg];simp only[List.length_singleton];omega
end
structure Ro(g q:Nat)(W1:World)(V:Nat->Value)(ne:Prop)(L:Nat->Bool)(U:Nat->Value)(W:World):Prop where
 s0:L 1=false->W=W1
 s1:L 1=true->Ez W g (q+1)/\W1.grownBy W (some g)
 vs:∀j,4<=j->j<14->L j=true->U 3=.bool true->U j=V j
 fin:L 14=true->U 14=.bool true->ne
 bo:L 14=true->∃b:Bool,U 14=.bool b
section
variable {g q:Nat} {W1 W W':World} {V:Nat->Value} {ne:Prop} {L:Nat->Bool} {U:Nat->Value}
theorem orB{v:Value}(h:v=.bool false\/v=.bool true):∃b:Bool,v=.bool b:=by rcases h with h|h<;>exact⟨_,h⟩
theorem boB(b:Bool):(.bool b:Value)=.bool false\/(.bool b:Value)=.bool true:=by cases b<;>simp
theorem Ro.start(U:Nat->Value):Ro g q W1 V ne (fun _=>false) U W1:=⟨fun _=>rfl,fun h=>Bool.noConfusion h,fun _ _ _ h=>Bool.noConfusion h,fun h=>Bool.noConfusion h,fun h=>Bool.noConfusion h⟩
theorem Ro.low(h:Ro g q W1 V ne L U W){i:Nat}(v:Value)(hi:i<4)(h1:i≠1)(hL:i=3->∀j,4<=j->j<14->L j=false):Ro g q W1 V ne (fun j=>if j=i then true else L j) (fun j=>if j=i then v else U j) W:=by
 have n14:¬14=i:=aG;refine⟨fun e=>h.s0 ?_,fun e=>h.s1 ?_,fun j h4 h14 e e3=>?_,fun e e14=>h.fin ?_ ?_,fun e=>by simpa [n14]using h.bo (by simpa [n14]using e)⟩
 ·simpa [Ne.symm h1]using e
 ·simpa [Ne.symm h1]using e
 ·have hj:¬j=i:=aG;simp only[hj,if_false]at e ⊢;by_cases h3:i=3
  ·rw[hL h3 j h4 h14]at e;cases e
  have:¬3=i:=fun x=>h3 x.symm;simp only[this,if_false]at e3;exact h.vs j h4 h14 e e3
 ·have:¬14=i:=aG;simpa [this]using e
 have:¬14=i:=aG;simpa [this]using e14
theorem Ro.pick(h:Ro g q W1 V ne L U W)(v:Value)(hL:∀j,4<=j->j<15->L j=false)(hR:Ez W' g (q+1))(hg:W1.grownBy W' (some g)):Ro g q W1 V ne (fun j=>if j=1 then true else L j) (fun j=>if j=1 then v else U j) W':=by
 refine⟨fun e=>by simp at e,fun _=>⟨hR,hg⟩,fun j h4 h14 e=>?_,fun e=>?_,fun e=>?_⟩
 ·have hj:¬j=1:=aG;simp only[hj,if_false]at e;rw[hL j h4 aG]at e;cases e
 all_goals
  have:=hL 14 aG aG;simp[this]at e
theorem Ro.put(h:Ro g q W1 V ne L U W){i:Nat}(v:Value)(hi:4<=i)(hi2:i<14)(l1:L 1=true)(hv:U 3=.bool true->v=V i)(hb:Below W W W'):Ro g q W1 V ne (fun j=>if j=i then true else L j) (fun j=>if j=i then v else U j) W':=by
 have n1:¬1=i:=aG;have n3:¬3=i:=aG;have n14:¬14=i:=aG;obtain⟨hR,hg⟩:=h.s1 l1;refine⟨fun e=>?_,fun _=>⟨hR.below hb,Ae hg (Cs hb _)⟩,fun j h4 h14 e e3=>?_,fun e e14=>h.fin ?_ ?_,fun e=>by simpa [n14]using h.bo (by simpa [n14]using e)⟩
 ·simp only[n1,if_false]at e;rw[l1]at e;cases e
 ·simp only[n3,if_false]at e3;by_cases hj:j=i
  ·subst hj;simpa using hv e3
  simp only[hj,if_false]at e ⊢;exact h.vs j h4 h14 e e3
 ·simpa [n14]using e
 simpa [n14]using e14
theorem Ro.last(h:Ro g q W1 V ne L U W)(b:Bool)(hv:b=true->ne):Ro g q W1 V ne (fun j=>if j=14 then true else L j) (fun j=>if j=14 then .bool b else U j) W:=by
 refine⟨fun e=>h.s0 (by simpa using e),fun e=>h.s1 (by simpa using e),fun j h4 h14 e e3=>?_,fun _ e=>hv (by simpa using e),fun _=>⟨b,by simp⟩⟩;have hj:¬j=14:=aG;simp only[hj,if_false]at e ⊢;exact h.vs j h4 h14 e (by simpa using e3)
end
theorem Qc0{a b c:World}{g n:Nat}(h:a.grownBy b (some g))(hb:Below n b c)(hn:a.heap.size<=n):a.grownBy c (some g):=
 ⟨hb.os.trans h.os,hb.tape.trans h.tape,hb.output.trans h.output,ad h.size hb.size,fun k hk hne=>(hb.block k aG).trans (h.block k hk hne)⟩
theorem Qnn(xs:List (Ty × Value))(A0:Option Addr)(c0:Nat)(k:Kd)(hk:Ch k)(hsg:k.signs=[])(hbs:k.base=[64])(nm:List UInt8)(fs:List Fd)(A9:Option Addr)(c9:Nat)(hx:E3 xs k.name=some (⟨82,nm,fs⟩,.slice A9 fs.length c9))(hsco:Nv (Ag xs))(htg:∀f∈fs,Bj fs f.tag=some f)(h200:∀f∈fs,f.tag<=200)(hpw:fs.Pairwise fun a b=>a.tag<b.tag)
  (hfk:∀f∈fs,Ch f.kind/\Ce (Ag xs) f.kind/\f.given.length<=1000) (hn8:fs.length<=8) (d:Int) (hd:-1000<=d) (hd2:d<=1000) (N B:Nat) (hB:100<=B) (hB2:B<=100000000) (HH:0<d->∀f∈fs,Vf xs (.slice A0 xs.length c0) f.kind (d - 1) N B):DtC xs (.slice A0 xs.length c0) k d (N+1) (8*B+100):=by
 intro g p w hsc hR hp;have hgl:=hR.lt;have HR:=Aa hR;have HSc:=Aa hsc
 have Hr:=Aa (show ∀W,G8 W (.slice A0 xs.length c0) xs->Calls prog 47 #[.slice A0 xs.length c0,.string ⟨(Bt k).toArray⟩] W fun e w'=>e=.returned (.tuple #[.agg #[.int .u8 82,nm,.slice A9 fs.length c9],.bool true])/\Below W W w' from fun W hW=>by
  have h:=Gf (.slice A0 xs.length c0) xs k W hW hk;rw[show J3 xs k=some (⟨82,nm,fs⟩,.slice A9 fs.length c9)from by unfold J3;rw[if_pos ⟨hsg,hbs⟩];exact hx]at h;exact h)
 have HFd:=@Aa (∀W,G8 W (.slice A0 xs.length c0) xs->Ef W (.slice A9 fs.length c9) fs) (fun W hW=>by obtain⟨_,_,_,_,_,hf⟩:=hW;exact hf _ (Db hx).1);have hft:=(Db hx).2.2;have hkl:(Bt k).length<=100:=bW
 have Hfin:=Aa (show ∀(n:Nat) ps,Sj (Ag xs) N B fs n ps->n<=8->Gb (Ag xs) (N+1) k (.mk 82 [] 0 (ps.map C5))/\(Ay (.mk 82 [] 0 (ps.map C5))).length<=8*B+100/\Cj (Ag xs) k (.mk 82 [] 0 (ps.map C5))=.mk (Bt k) [82] (ps.map fun r=>r.1.tag) (ps.map fun r=>Cj (Ag xs) r.1.kind r.2)from fun n ps h hn=>
  ⟨Gb.rcd hsg hbs hft rfl (fun r hr=>htg _ (h.mem r hr)) h.ok h.ne h.pw,h.len h200 hn,by
   rw[Sw];congr 1
   exact List.map_congr_left fun r hr=>by rw[Cv hft (htg _ (h.mem r hr))]⟩)
 have Hstd:=Aa (fun f (hf:f∈fs) W (hW:G8 W (.slice A0 xs.length c0) xs)=>Yf (.slice A0 xs.length c0) xs hsco f W hW (hfk f hf).1 (hfk f hf).2.1 (hfk f hf).2.2);have Hout:=Aa (fun f (hf:f∈fs) v (hv:Gb (Ag xs) N f.kind v) (hl:(Ay v).length<=B) P b W (hW:Gx P W b (Cj (Ag xs) f.kind v))=>Yu hsco.1.1 P N f.kind v hv (hfk f hf).1 b W hW (ad hl aG));have Hpw:=Aa hpw;unfold Vf at HH;generalize Bt k=kb at *;obtain⟨xv,hxv⟩:∃xv:Value,xv=.slice A0 xs.length c0:=⟨_,rfl⟩
 rw[<-hxv]at HSc Hr HFd HH Hstd ⊢;have HH0:=Aa HH;clear HH hR hsc hk hsg hbs hx hft htg h200 hfk hxv hpw;have Hsco:=Aa hsco;clear hsco;go_enter func137,ntmps137;go_wp2_with fail;refine(Hr.o _ HSc.o).mono ?_;rintro e w1 ⟨rfl,hb1⟩;have HR1:=Aa (HR.o.below hb1);have Hb1:=Aa hb1;have hz1:=hb1.size;clear hb1;have hcv:=fun W=>N5 W (w1.heap.size+1) 1 82;obtain⟨W3,hW3⟩:∃W3,W3=((w1.alloc (.cells #[.int .u8 82,nm,.slice A9 fs.length c9] 95)).alloc (.cells #[.int .u8 82] 5)).alloc (.cells #[kb,([82]:List UInt8),.slice none 0 0,.slice none 0 0] 68):=⟨_,rfl⟩
 have hz3:W3.heap.size=w1.heap.size+3:=fM;have b13:Below w1 w1 W3:=i7
 have HS3:=Aa (show Fk (w1.heap.size+3) (w1.heap.size+2) W3 kb ([82]:List UInt8) (.slice none 0 0) (.slice none 0 0) (.slice none 0 0) (.slice none 0 0) [] []from by
  have:=Fk.new (W:=(w1.alloc (.cells #[.int .u8 82,nm,.slice A9 fs.length c9] 95)).alloc (.cells #[.int .u8 82] 5)) (T:=68) kb ([82]:List UInt8);rw[<-hW3]at this;simpa using this)
 have HR3:=Aa (HR1.o.below b13);have Hg3:=@Aa (w.grownBy W3 (some g)) (Cs (Hb1.o.trans (b13.mono Hb1.o.size)) _);have HX3:=@Aa (G8 W3 xv xs) (HSc.o.below (Hb1.o.trans (b13.mono Hb1.o.size)));have X2:=@Aa (W3.cell? (w1,2)=some (.slice A9 fs.length c9)) fU;have Hw3:=Aa hW3;clear hW3 b13 HR1;go_upto_region 14 with fail
 rw[<-Hw3.o];clear hcv Hw3;go_wp2_with fail;go_loopw [13] (fun i wr=>∃(n q:Nat) (A2:Option Addr) (c2:Nat) (A3:Option Addr) (c3:Nat) (ps:List (Fd × Vl)) (xk:List (Nat × SV)),i=(n:Int)/\n<=fs.length/\q<=p+n*(B+1)/\Hid (Sj (Ag xs) N B fs n ps)/\Hid (xk.map (·.2)=ps.map fun r=>Cj (Ag xs) r.1.kind r.2)/\Hid (Ez wr g q)/\Hid (w.grownBy wr (some g))/\Hid (Fk (w1.heap.size+3) (w1.heap.size+2) wr kb ([82]:List UInt8) (.slice A2 ps.length c2) (.slice A2 ps.length c2) (.slice A3 xk.length c3) (.slice A3 xk.length c3) (ps.map fun r=>r.1.tag) xk)/\Hid (wr.cell? (w1,2)=some (.slice A9 fs.length c9))) (fun i _=>fs.length - (intOf i).toNat)
 case atStart=>exact⟨0,p,none,0,none,0,[],[],rfl,ag _,by omega,Sj.nil,rfl,HR3.o,Hg3.o,HS3.o,X2.o⟩
 case round=>
  obtain⟨n,q,A2,c2,A3,c3,ps,xk,rfl,hn,hq,hvs,heq,hRr,hgr,hSr,hx2⟩:=hrel;have hXr:=Aa (HSc.o.grown HR.o hgr.o);have hn0:(0:Int)<=(n:Int):=aG;have hqm:n*(B+1)<=8*(B+1):=Nat.mul_le_mul_right _ aG;have hqm7:n<fs.length->n*(B+1)<=7*(B+1):=fun h=>Nat.mul_le_mul_right _ aG;have hxp:xk.length=ps.length:=by have:=congrArg List.length heq.o;simpa using this
  have hpl:=hvs.o.ln;have hxk8:xk.length<=8:=aG;have Hxp:=Aa hxp;clear hxp;have hzr:w1.heap.size+3<=wr.heap.size:=hSr.o.bs;have x2:=hx2.o;by_cases hlt:n<fs.length;rotate_left
  ·have tt:decide ((n:Int)<(fs.length:Int))=false:=aB aG
   have HQ:=Aa (show Ka (Ag xs) k (N+1) (8*B+100) w g p (.returned (w1,2,0)) wr from by
    obtain⟨f1,f2,f3⟩:=Hfin.o n ps hvs.o aG;refine⟨w1.heap.size+2,_,q,rfl,f1,f2,by omega,?_,hRr.o,hgr.o⟩;rw[f3,<-heq.o];exact(hSr.o.done (kind:=kb) (text:=[82]) aO aG).mono fun c hc _=>by omega)
   go_wp2_with fail;exact aE (v:=(w1,2,0)) (by simp[results,results137,go_sem]) rfl HQ.o
  have tt:decide ((n:Int)<(fs.length:Int))=true:=aC aG;by_cases hdp:0<d;rotate_left
  ·have td:decide ((0:Int)<d)=false:=aB hdp
   have HQ:=Aa (show Ka (Ag xs) k (N+1) (8*B+100) w g p (.returned (w1,2,0)) wr from by
    obtain⟨f1,f2,f3⟩:=Hfin.o n ps hvs.o aG;refine⟨w1.heap.size+2,_,q,rfl,f1,f2,by omega,?_,hRr.o,hgr.o⟩;rw[f3,<-heq.o];exact(hSr.o.done (kind:=kb) (text:=[82]) aO aG).mono fun c hc _=>by omega)
   go_wp2_with fail;exact aE (v:=(w1,2,0)) (by simp[results,results137,go_sem]) rfl HQ.o
  have td:decide ((0:Int)<d)=true:=aC hdp;obtain⟨A5,cc5,e5,hl5,hr5⟩:=HFd.o wr hXr.o;injection e5 with e5 _ e6;subst e5 e6;obtain⟨b5,o5,rfl,hb5,x50,x51,x52,x53⟩:=Ef.at_ hr5 hlt;have Hfm:=Aa (ae hlt);have Hadd:=Aa (fun v=>hvs.o.add (v:=v) hlt Hpw.o);have Hmn:=Aa (HH0.o hdp);have hqm8:=hqm7 hlt;have hwd:IntKind.i64.wrap (d - 1)=d - 1:=IntWalk.i64_in _ aG;have hni:(n:Int)<(fs.length:Int):=aG;have Hfe0:=@Aa (∃f,f=fs[n]) ⟨_,rfl⟩;obtain⟨f,hf⟩:=Hfe0.o;have Hfe:=Aa hf.symm;rw[<-hf]at x50 x51 x52 x53 Hfm Hadd;clear hf Hfe0;clear hr5;go_wp2_with fail;refine(Hmn.o f Hfm.o g q wr hXr.o hRr.o aG).mono ?_;rintro e w5 ⟨b6,v6,q6,rfl,k1,k2,k3,k4,k5,k6⟩;have hgB:g<w1.heap.size+2:=aG;have hz5:=k6.size;have HS5:=Aa (hSr.o.gr k6 hgB);have Hg5:=Aa (Ae hgr.o k6);have HX5:=Aa (HSc.o.grown HR.o Hg5.o);have K1:=Aa k1;have K2:=Aa k2;have K4:=Aa k4;have K5:=Aa k5;have HK5:=@Aa (Q4 (w1.heap.size+3) (.slice A2 ps.length c2) (.slice A3 xk.length c3) w5 (b6,Cj (Ag xs) f.kind v6)) (k4.mono fun c hc _=>⟨by omega,fun e=>by have:=(hSr.o.row.lt c e).2;omega,fun e=>by have:=(hSr.o.tags.lt c e).2;omega⟩);have X25:=@Aa (w5.cell? (w1,2)=some (.slice (some ⟨b5,o5,none⟩) fs.length c9)) (k6.cell hx2.o (fun e=>by injection e with e;simp only at e;omega));have Hft5:=Aa (HFd.o w5 HX5.o);clear k1 k2 k4 k5 k6 x50 x51 x52 x53 x2;go_upto_region 18 with fail
  refine Qr [104,105,106,107,108,109,110,111,112,113,114,115,116,117,118]
   (fun ix v W=>match ix with|0=>v=g|1=>∃x:Nat,v=(x:Int)|2=>v=.bool false\/v=.bool true|3=>v=.bool false\/v=.bool true|14=>v=.bool false\/v=.bool true|_=>True)
   (fun L U W=>Ro g q6 w5.drew (fun j=>match j with|4=>.pointer (b6,0)|5=>.string ⟨(Ay v6).toArray⟩|6=>xv|7=>.pointer (w1,2)|8=>.slice (some ⟨b5,o5,none⟩) fs.length c9|9=>.int .i64 (n:Int)|10=>.pointer (some ⟨b5,o5+n*4,none⟩)|11=>sfV f|12=>.string ⟨(Mh (Ag xs) f).toArray⟩|13=>.bool (Ay v6 != Mh (Ag xs) f)|_=>undef) (Ay v6≠Mh (Ag xs) f) L U W) (Ro.start _) ?_ ?_
  ·repeat (first|exact Av.nil|(refine Av.cons ?_ ?_;rotate_left))
   all_goals
    rintro L U W hL hpre HR Hdep K hK;have D3:L 3=false->∀j,4<=j->j<14->L j=false:=fun h3 j h1 h2=>by rcases(show j=4\/j=5\/j=6\/j=7\/j=8\/j=9\/j=10\/j=11\/j=12\/j=13 by omega)with rfl|rfl|rfl|rfl|rfl|rfl|rfl|rfl|rfl|rfl<;>exact Hdep.o _ _ rfl {on:=3,ground:=Ground.guard} aL bQ h3
    have D4:L 3=false->L 14=false:=fun h3=>Bv Hdep.o 14 3 rfl h3;have D1:L 1=false->L 3=false:=fun h=>Bv Hdep.o 3 2 rfl (Bv Hdep.o 2 1 rfl h);first|(simp[Region.binds]at hpre;done)|simp[Region.binds]at hpre|clear hpre
   ·go_simp;exact hK _ _ _ rfl Ac (HR.o.low _ aG aG (fun h=>by omega)) rfl
   ·have hW:=HR.o.s0 hL;subst hW;have hall:∀j,4<=j->j<15->L j=false:=fun j h1 h2=>by
     by_cases hj:j=14
     ·subst hj;exact D4 (D1 hL)
     exact D3 (D1 hL) j h1 aG
    go_simp;refine(Bu g q6 3 _ (K5.o.below (Aw _ _).drew) aG aG aG).mono ?_;rintro e w7 ⟨x,rfl,hx1,_,hR7,hg7⟩;exact hK _ _ _ ⟨x,rfl⟩ Ac (HR.o.pick _ hall hR7 hg7) aI
   ·obtain⟨x,u1⟩:∃x:Nat,U 1=(x:Int):=aH;simp only[u1];go_simp;exact hK (.bool (decide ((0:Int)<(x:Int)))) _ _ (boB _) Ac (HR.o.low _ aG aG (fun h=>by omega)) (by simp[Act.put,hpre,u1])
   ·obtain⟨bb,u2⟩:∃bb:Bool,U 2=.bool bb:=orB aH;simp only[u2];go_simp;exact hK (.bool bb) _ _ (boB _) Ac (HR.o.low _ aG aG (fun _=>D3 hL)) (by simp[Act.put,hpre,u2])
   ·exact iG
   ·have l3:L 3=true:=aH;obtain⟨bb,u3⟩:∃bb:Bool,U 3=.bool bb:=orB aH;have l1:L 1=true:=by cases h:L 1 with|true=>rfl|false=>rw[D1 h]at l3;cases l3
    cases bb with
    |false=>
     exact mq
    |true=>
     have u4:U 4=b6:=HR.o.vs 4 aG aG aH u3;have hsat:=(K4.o.after (Aw _ _).drew).kept (fun b o v hb hl hv=>(HR.o.s1 l1).2.cell hv (fun e=>by have e2:b=g:=(by injection e);have hb2:wr.heap.size<=b:=hb;omega)) (HR.o.s1 l1).2.size fun c hc _=>hc;simp only[u3,u4];go_simp;refine(Hout.o f Hfm.o v6 K1.o K2.o _ b6 W hsat).mono ?_;rintro e w7 ⟨rfl,hb7⟩;exact hK _ _ _ Ac Ac (HR.o.put _ aG aG l1 (fun _=>rfl) hb7) (by simp[Act.put,hpre,u3,u4])
   ·exact iG
   ·exact iG
   ·have l3:L 3=true:=aH;obtain⟨bb,u3⟩:∃bb:Bool,U 3=.bool bb:=orB aH;have l1:L 1=true:=by cases h:L 1 with|true=>rfl|false=>rw[D1 h]at l3;cases l3
    cases bb with
    |false=>
     exact mq
    |true=>
     have u7:U 7=(w1,2):=HR.o.vs 7 aG aG aH u3;have x2:W.cell? (w1,2)=some (.slice (some ⟨b5,o5,none⟩) fs.length c9):=(HR.o.s1 l1).2.cell ((aA _ _).trans X25.o) (fun e=>by injection e with e;simp only at e;omega);simp only[u3,u7];go_simp;exact hK _ _ _ Ac Ac (HR.o.put _ aG aG l1 (fun _=>rfl) (Aw _ _)) (by simp[Act.put,hpre,u3,u7])
   ·exact iG
   ·have l3:L 3=true:=aH;obtain⟨bb,u3⟩:∃bb:Bool,U 3=.bool bb:=orB aH;have l1:L 1=true:=by cases h:L 1 with|true=>rfl|false=>rw[D1 h]at l3;cases l3
    cases bb with
    |false=>
     exact mq
    |true=>
     have u8:U 8=.slice (some ⟨b5,o5,none⟩) fs.length c9:=HR.o.vs 8 aG aG aH u3;have u9:U 9=(n:Int):=HR.o.vs 9 aG aG aH u3;simp only[u3,u8,u9];go_simp;exact hK _ _ _ Ac Ac (HR.o.put _ aG aG l1 (fun _=>rfl) (Aw _ _)) (by simp[Act.put,hpre,u3,u8,u9])
   ·have l3:L 3=true:=aH;obtain⟨bb,u3⟩:∃bb:Bool,U 3=.bool bb:=orB aH;have l1:L 1=true:=by cases h:L 1 with|true=>rfl|false=>rw[D1 h]at l3;cases l3
    cases bb with
    |false=>
     exact mq
    |true=>
     have u10:U 10=.pointer (some ⟨b5,o5+n*4,none⟩):=HR.o.vs 10 aG aG aH u3;obtain⟨A7,c7,e7,hl7,hr7⟩:=(Hft5.o.below (Aw _ _).drew).grown (K5.o.below (Aw _ _).drew) (HR.o.s1 l1).2;injection e7 with e7 _ e8;subst e7 e8;obtain⟨b7,o7,eA7,_,y0,y1,y2,y3⟩:=Ef.at_ hr7 hlt;injection eA7 with eA7;injection eA7 with e7 e8;subst e7 e8;rw[Hfe.o]at y0 y1 y2 y3;simp only[u3,u10];go_simp;exact hK _ _ _ Ac Ac (HR.o.put _ aG aG l1 (fun _=>rfl) (Aw _ _)) (by simp[Act.put,hpre,u3,u10,sfV])
   ·have l3:L 3=true:=aH;obtain⟨bb,u3⟩:∃bb:Bool,U 3=.bool bb:=orB aH;have l1:L 1=true:=by cases h:L 1 with|true=>rfl|false=>rw[D1 h]at l3;cases l3
    cases bb with
    |false=>
     exact mq
    |true=>
     have u6:U 6=xv:=HR.o.vs 6 aG aG aH u3;have u11:U 11=sfV f:=HR.o.vs 11 aG aG aH u3;have hxw:=(HX5.o.below (Aw _ _).drew).grown (K5.o.below (Aw _ _).drew) (HR.o.s1 l1).2;simp only[u3,u6,u11];go_simp;refine(Hstd.o f Hfm.o W hxw).mono ?_;rintro e w7 ⟨rfl,hb7⟩;exact hK _ _ _ Ac Ac (HR.o.put _ aG aG l1 (fun _=>rfl) hb7) (by simp[Act.put,hpre,u3,u6,u11])
   ·have l3:L 3=true:=aH;obtain⟨bb,u3⟩:∃bb:Bool,U 3=.bool bb:=orB aH;have l1:L 1=true:=by cases h:L 1 with|true=>rfl|false=>rw[D1 h]at l3;cases l3
    cases bb with
    |false=>
     exact mq
    |true=>
     have u5:U 5=.string ⟨(Ay v6).toArray⟩:=HR.o.vs 5 aG aG aH u3;have u12:U 12=.string ⟨(Mh (Ag xs) f).toArray⟩:=HR.o.vs 12 aG aG aH u3;simp only[u3,u5,u12];go_simp;exact hK (.bool (Ay v6 != Mh (Ag xs) f)) _ _ Ac Ac (HR.o.put _ aG aG l1 (fun _=>rfl) (Aw _ _)) (by simp[Act.put,hpre,u3,u5,u12,bne])
   ·obtain⟨bb,u3⟩:∃bb:Bool,U 3=.bool bb:=orB aH;cases bb with
    |false=>
     simp only[u3];go_simp;exact hK (.bool false) _ _ (boB _) Ac (HR.o.last false (fun e=>by cases e)) bF
    |true=>
     have u13:U 13=.bool (Ay v6 != Mh (Ag xs) f):=HR.o.vs 13 aG aG aH u3;simp only[u3,u13];go_simp;exact hK (.bool (Ay v6 != Mh (Ag xs) f)) _ _ (boB _) Ac (HR.o.last _ (fun e=>bne_iff_ne.1 e)) (by simp[Act.put,hpre,u3,u13])
  ·rintro L U W hL hφ hR;clear hφ;obtain⟨b14,e14⟩:=hR.bo (hL 14 aJ);have hne:=hR.fin (hL 14 aJ);obtain⟨hR7,hg7⟩:=hR.s1 (hL 1 aJ);simp only[e14];rw[e14]at hne;have hgd:w5.grownBy W (some g):=Ae (Cs (Aw _ _).drew _) hg7;have hz7:=hgd.size;have HR7:=Aa hR7;have Hg7:=Aa (Ae Hg5.o hgd);have HS7:=Aa (HS5.o.gr hgd hgB);have HX7:=Aa (HSc.o.grown HR.o Hg7.o);have HK7:=@Aa (Q4 (w1.heap.size+3) (.slice A2 ps.length c2) (.slice A3 xk.length c3) W (b6,Cj (Ag xs) f.kind v6)) (Gx.grown HK5.o hgd fun c hc e=>by injection e with e;have:=hc.1;omega);have X27:=Aa (hgd.cell X25.o (fun e=>by injection e with e;simp only at e;omega));have Hft7:=Aa (HFd.o W HX7.o);have hq7:q6+1<=p+(n+1)*(B+1):=by rw[Nat.succ_mul];omega
   clear hR hL hR7 hg7 hgd e14;cases b14 with
   |false=>
    go_wp2_with fail;go_roundw
    case rel=>exact⟨n+1,q6+1,A2,c2,A3,c3,ps,xk,by go_num,by omega,hq7,hvs.o.skip,heq.o,HR7.o,Hg7.o,HS7.o,X27.o⟩
    case measure=>simp[intOf];omega
   |true=>
    have Hne:=Aa (hne rfl);have Hvs9:=Aa (Hadd.o v6 K1.o Hne.o K2.o);clear hne;go_upto_region 19 with fail
    have HS7d:=Aa (HS7.o.after (Aw _ _).drew);have HK7d:=@Aa (Q4 (w1.heap.size+3) (.slice A2 ps.length c2) (.slice A3 xk.length c3) W.drew (b6,Cj (Ag xs) f.kind v6)) (Gx.after HK7.o (Aw _ _).drew);obtain⟨A7,c7,e7,hl7,hr7⟩:=Hft7.o;injection e7 with e7 _ e8;subst e7 e8;obtain⟨b7,o7,eA7,_,y0,_,_,_⟩:=Ef.at_ hr7 hlt;injection eA7 with eA7;injection eA7 with e7 e8;subst e7 e8;rw[Hfe.o]at y0;have Hcel7:=Aa y0;clear y0 hl7 hr7;refine Bq [119,120,121,122,123,124,125,126,127,128,129,130,131,132,133,999] aM aM aM (fun u=>by dsimp only[B9,Bw,List.set,am,Nat.reduceAdd])
     (fun ix v W=>match ix with|0=>v=(w1,2,0)|1=>v=(w1,2,0)|2=>v=(w1,2,0)|3=>v=(w1,2,2)|4=>v=.slice A2 ps.length c2|5=>v=(w1,2)|6=>v=.slice (some ⟨b5,o5,none⟩) fs.length c9|7=>v=(n:Int)|8=>v=.pointer (some ⟨b5,o5+n*4,none⟩)|9=>v=.pointer (some ⟨b5,o5+n*4,none⟩)|10=>v=(f.tag:Int)|13=>v=(w1,2,0)|14=>v=(w1,2,2)|_=>True)
     (fun L U W_=>J7 (w1.heap.size+3) (w1.heap.size+2) W.drew kb ([82]:List UInt8) A2 ps.length c2 (.slice A3 xk.length c3) (ps.map fun p=>p.1.tag) xk [(b6,Cj (Ag xs) f.kind v6)] f.tag (L 11) (L 12) (L 15) (U 11) (U 12) W_) (fun _ _=>True) (fun _ _ _ _ _ h=>h) (J7.start) ?_ ?_
    ·repeat (first|exact Av.nil|(refine Av.cons ?_ ?_;rotate_left))
     all_goals
      rintro L U V hL hpre hR hun hdep K hK;have HR:=Aa hR;have Hdep:=Aa hdep;clear hun hdep hR;first|(simp[Region.binds]at hpre;done)|simp[Region.binds]at hpre|clear hpre
     iterate 4
      ·exact ir
     ·have h12:L 12=false:=(Bv Hdep.o 12 4 rfl hL)
      have x2:=((HR.o.be h12).cell (p:=⟨w1.heap.size+2,2,none⟩) (by have:=HS7.o.lt;simp;omega)).trans ((aA _ _).trans HS7.o.c2);exact lQ
     ·exact ir
     ·have hW:=HR.o.p0 (Bv Hdep.o 11 10 rfl (Bv Hdep.o 10 9 rfl (Bv Hdep.o 9 8 rfl (Bv Hdep.o 8 6 rfl hL))));subst hW;have x2:=X27.o;exact lQ
     ·exact ir
     ·obtain⟨u6,u7⟩:U 6=.slice (some ⟨b5,o5,none⟩) fs.length c9/\U 7=(n:Int):=by first|exact⟨hpre.1.2,hpre.2.2⟩|exact⟨hpre.2.2,hpre.1.2⟩|exact hpre|exact⟨hpre.1,hpre.2⟩
      simp only[u6,u7];go_simp;exact hK _ _ _ rfl Ac HR.o (by simp[Act.put,hpre,u6,u7])
     ·exact ir
     ·have hW:=HR.o.p0 (Bv Hdep.o 11 10 rfl hL);subst hW;have x2:=Hcel7.o;exact lQ
     ·have h12:L 12=false:=(Bv Hdep.o 12 11 rfl hL)
      have h15:L 15=false:=(Bv Hdep.o 15 12 rfl h12)
      have hW:=HR.o.p0 hL;subst hW;go_simp;exact hK _ _ _ Ac Ac (J7.put7 h12 h15) aI
     ·obtain⟨lv,uv⟩:L 4=true/\U 4=.slice A2 ps.length c2:=by
       exact me
      have l11:L 11=true:=by
       first|exact hpre.2|exact hpre.1
      have h15:L 15=false:=(Bv Hdep.o 15 12 rfl hL)
      obtain⟨hW,u11⟩:=HR.o.p1 l11 hL;subst hW;rw[if_pos bQ];have hgl:(ps.map fun p=>p.1.tag).length=ps.length:=aL;refine Kw W.drew (.tmp 123) (.tmp 130) 65 rfl (w1.heap.size+3) 3 (.int .i64 0) 1 8 underlying65 Qku rfl aJ [(f.tag:Int)] rfl bB (.slice A2 ps.length c2) ps.length (De (ps.map fun p=>p.1.tag)) uv u11 (by rw[<-hgl];exact hgl ▸ HS7d.o.tags) aU aG HS7d.o.bs ?_;intro v8 w8 hown hg hwh;obtain⟨hn,A6,c6,e6⟩:=J7.put8 (u7:=U 11) (ks:=[(b6,Cj (Ag xs) f.kind v6)]) l11 h15 HS7d.o (fun x hx=>by rw[ap]at hx;subst hx;exact HK7d.o) (by simpa using hown) hg hwh;exact mr
     iterate 2
      ·exact ir
     ·have l12:L 12=true:=aH;have l11:L 11=true:=Ke (Bv Hdep.o 12 11 rfl) l12;obtain⟨A6,c6,e6,hS6,hb6,hk6⟩:=HR.o.p2 l12 hL;have x2:=hS6.c2;have x3:=hS6.bk.live 2;have x4:=hS6.lt;go_simp;exact hK undef _ _ Ac Ac (HR.o.put11 l11 l12 hL (by rw[e6];simp)) fc
    rintro L U W6 hL hφ hR;clear hφ;obtain⟨A6,c6,hS6,hb6,hk6⟩:=hR.p3 (hL 15 aJ);have hc6:=hR.p4 (hL 15 aJ);have hk6:=hk6 _ (ap.2 rfl);have eg:(ps.map fun p=>p.1.tag)++[f.tag]=(ps++[(f,v6)]).map fun p=>p.1.tag:=aL;rw[eg]at hS6 hk6;simp only[List.length_map]at hS6 hk6;have hbw:Below (w1.heap.size+2) W W6:=(Aw _ _).drew.trans hb6;have HS6:=Aa hS6;have HK6:=Aa hk6;have HR6:=@Aa (Ez W6 g (q6+1)) (HR7.o.belowg (hbw.mono aG) hbw.size);have Hbw:=Aa hbw;have s3:=hS6.c3;have s4:=hS6.lt;have hxl:xk.length<=200:=aG;clear hR hL hb6 hS6 hk6 eg hbw hc6;go_wp2_with (at_builtin;go_loud (refine Gq _ rfl _ _ 66 rfl (w1.heap.size+3) 31 (.pointer none) 8 underlying66 Vo rfl W6 b6 rfl rfl (.slice A3 xk.length c3) xk.length (E8 (xk.map (·.1))) rfl rfl HS6.o.row aU aG HS6.o.bs ?_;intro v7 w7 hown7 hg7 hwh7;obtain⟨A7,c7,e7,hS7,hb7⟩:=HS6.o.push (x:=(b6,Cj (Ag xs) f.kind v6)) HK6.o hown7 hg7 hwh7;subst e7;have HS7:=Aa hS7;have HB7:=Aa hb7;have r3:=hS7.c3;have f3:=hS7.bk.live 3;have hz7:=hS7.lt;clear hS7 hb7 hown7 hg7 hwh7))
    have el:(xk++[(b6,Cj (Ag xs) f.kind v6)]).length=xk.length+1:=aL;have el2:(ps++[(f,v6)]).length=ps.length+1:=aL;have hsc:Below (w1.heap.size+2) W6 (w7.setCell ⟨w1.heap.size+2,3,none⟩ (.slice A7 (xk++[(b6,Cj (Ag xs) f.kind v6)]).length c7)):=(HB7.o.mono (show w1.heap.size+2<=w1.heap.size+3 by omega)).setCell (p:=⟨w1.heap.size+2,3,none⟩) (Ar (w1.heap.size+2)) _;have HRf:=Aa (HR6.o.belowg (hsc.mono aG) hsc.size);have Hbf:=Aa (Hbw.o.trans hsc);have Hgf:=Aa (Qc0 Hg7.o Hbf.o aG);have Hst:=Aa HS7.o.set3;have Heq:=@Aa ((xk++[(b6,Cj (Ag xs) f.kind v6)]).map (·.2)=(ps++[(f,v6)]).map fun r=>Cj (Ag xs) r.1.kind r.2) (by simp[heq.o]);rw[el]at HRf Hgf Hbf Hst;go_roundw
    case rel=>exact⟨n+1,q6+1,A6,c6,A7,c7,ps++[(f,v6)],xk++[(b6,Cj (Ag xs) f.kind v6)],by go_num,by omega,hq7,Hvs9.o,Heq.o,HRf.o,Hgf.o,by rw[el];exact Hst.o,(Hbf.o.cell (p:=⟨w1.heap.size,2,none⟩) (show w1.heap.size<w1.heap.size+2 by omega)).trans X27.o⟩
    case measure=>simp[intOf];omega
theorem Gb.mono{S:List Ty}{n m:Nat}{k:Kd}{v:Vl}(h:Gb S n k v)(hm:n<=m):Gb S m k v:=(Fb S n k v h m).2 (ad ((Fb S n k v h n).1 h) hm)
theorem Vf.mono{xs:List (Ty × Value)}{xv:Value}{k:Kd}{d:Int}{N B N' B':Nat}(h:Vf xs xv k d N B)(hN:N<=N')(hB:B<=B'):Vf xs xv k d N' B':=fun g p W h1 h2 hp=>
 (h g p W h1 h2 aG).mono (by rintro e w' ⟨b,v,q,e1,k1,k2,k3,k4,k5,k6⟩;exact⟨b,v,q,e1,k1.mono hN,by omega,by omega,k4,k5,k6⟩)
theorem Qcc(xs:List (Ty × Value))(A0:Option Addr)(c0:Nat)(k:Kd)(hsg:k.signs=[])(hbs:k.base=[64])(d:Int)(N B:Nat)(H:DtC xs (.slice A0 xs.length c0) k d N B):Vf xs (.slice A0 xs.length c0) k d N B:=by
 intro g p w hsc hR hp;have HR:=Aa hR;have HSc:=Aa hsc;obtain⟨r,hr⟩:∃r,Bt k=64::r:=⟨k.name++[59],by unfold Bt Cr;rw[hsg,if_pos hbs];rfl⟩
 unfold DtC at H;rw[hr]at H ⊢;have HC:=Aa H;obtain⟨xv,hxv⟩:∃xv:Value,xv=.slice A0 xs.length c0:=⟨_,rfl⟩
 rw[<-hxv]at HSc HC ⊢;clear H hR hsc hr hxv;go_enter func106,ntmps106;go_wp2_with fail;have hb:Below w w (w.alloc (.cells #[.string ⟨(64::r:List UInt8).toArray⟩,aa,.slice none 0 0,.slice none 0 0] 68)):=(Aw _ _).alloc (Ar _) _;refine(HC.o g p _ (HSc.o.below hb) (HR.o.below hb) hp).mono ?_;rintro e w2 ⟨b,v,q,rfl,k1,k2,k3,k4,k5,k6⟩;have HF:=@Aa (Ka (Ag xs) k N B w g p (.returned b) w2) ⟨b,v,q,rfl,k1,k2,k3,k4.mono fun c hc _=>by simp at hc;omega,k5,Ae (Cs hb _) k6⟩;clear k1 k2 k3 k4 k5 k6 hb;go_wp2_with fail;exact aE (v:=b) (by simp[results,results106,go_sem]) rfl HF.o
theorem Zq(xs:List (Ty × Value))(xv:Value)(k:Kd)(hsg:k.signs=[])(hbs:k.base=[110]\/k.base=[116]\/k.base=[102])(d:Int)(N:Nat):Vf xs xv k d (N+1) 100:=fun g p W _ hR hp=>by
 rcases hbs with h|h|h
 ·exact Qo2 _ k hsg h xv d N g p W hR aG
 ·exact Qpe _ k hsg h xv d N g p W hR aG
 exact Qo3 _ k hsg h xv d N g p W hR aG
theorem Qck{xs:List (Ty × Value)}(hsco:Nv (Ag xs))(hv:∀x∈xs,∃A c,x.2=.slice A x.1.fields.length c){n:List UInt8}{t:Ty}(h:B6 (Ag xs) n=some t):
  Do t/\∃A c,E3 xs n=some (t,.slice A t.fields.length c):=by
 cases hx:E3 xs n with
 |none=>rw[J9,hx]at h;cases h
 |some x=>
  rw[J9,hx]at h;injection h with h;obtain⟨A,c,e⟩:=hv x (Db hx).1;subst h;exact⟨hsco.1.1 _ (ao (Db hx).1),A,c,by rw[<-e]⟩
section
variable (xs:List (Ty × Value)) (A0:Option Addr) (c0:Nat) (hsco:Nv (Ag xs)) (hv:∀x∈xs,∃A c,x.2=.slice A x.1.fields.length c)
include hsco hv
theorem Qoj{k:Kd}(hk:Ch k)(hsg:k.signs=[])(hbs:k.base=[64]){t:Ty}(ht:B6 (Ag xs) k.name=some t)(h9:t.sort=69)(d:Int)(hd:-1000<=d)(hd2:d<=1000)(N:Nat):Vf xs (.slice A0 xs.length c0) k d (N+1) 100:=by
 obtain⟨ty,A,c,hx⟩:=Qck hsco hv ht;obtain⟨st,nm,fs⟩:=t;simp only at h9;subst h9;refine Qcc xs A0 c0 k hsg hbs d _ _ (Qnr xs A0 c0 k hk hsg hbs nm fs A c hx (fun f hf=>Qj ty.2.2.1.2 hf) (fun f hf=>(ty.2.2.1.1 f hf).2.1) (fun f hf=>by rw[((ty.2.2.1.1 f hf).2.2.2.1 rfl).1];decide) (Nat.pos_of_ne_zero fun e=>?_) ty.2.2.2.1 d hd hd2 N);exact absurd (ty.2.2.2.2 (List.eq_nil_of_length_eq_zero e)) (show ¬(69:UInt8)=82 by decide)
theorem Qop{k:Kd}(hk:Ch k)(hsg:k.signs=[])(hbs:k.base=[64]){t:Ty}(ht:B6 (Ag xs) k.name=some t)(h5:t.sort=85)(d:Int)(hd:-1000<=d)(hd2:d<=1000)(N B:Nat)(H:∀f∈t.fields,0<d\/t.fields.head?=some f->Vf xs (.slice A0 xs.length c0) f.kind (d - 1) N B):Vf xs (.slice A0 xs.length c0) k d (N+1) (B+100):=by
 obtain⟨ty,A,c,hx⟩:=Qck hsco hv ht;obtain⟨st,nm,fs⟩:=t;simp only at h5;subst h5;have hne:0<fs.length:=Nat.pos_of_ne_zero fun e=>absurd (ty.2.2.2.2 (List.eq_nil_of_length_eq_zero e)) (show ¬(85:UInt8)=82 by decide);have h1:∀f∈fs,Bj fs f.tag=some f:=fun f hf=>Qj ty.2.2.1.2 hf;have h2:∀f∈fs,f.tag<=200:=fun f hf=>(ty.2.2.1.1 f hf).2.1;have h3:∀f∈fs,(Bt f.kind).length<=20:=fun f hf=>ad ((ty.2.2.1.1 f hf).2.2.2.2 (by show ¬(85:UInt8)=69;decide)).1.2.2 aJ;by_cases h0:0<d
 ·exact Qcc xs A0 c0 k hsg hbs d _ _ (Qmo xs A0 c0 k hk hsg hbs nm fs A c hx h1 h2 h3 hne ty.2.2.2.1 d hd hd2 N B (fun f hf=>H f hf (.inl h0)) h0)
 exact Qcc xs A0 c0 k hsg hbs d _ _ (Qmj xs A0 c0 k hk hsg hbs nm fs A c hx h1 h2 h3 hne ty.2.2.2.1 d hd hd2 N B (H _ (ae hne) (.inr (by cases fs with|nil=>exact absurd hne aJ|cons f r=>rfl))) h0)
theorem Qom{k:Kd}(hk:Ch k)(hsg:k.signs=[])(hbs:k.base=[64]){t:Ty}(ht:B6 (Ag xs) k.name=some t)(h2:t.sort=82)(d:Int)(hd:-1000<=d)(hd2:d<=1000)(N B:Nat)(hB:100<=B)(hB2:B<=100000000)(H:0<d->∀f∈t.fields,Vf xs (.slice A0 xs.length c0) f.kind (d - 1) N B):Vf xs (.slice A0 xs.length c0) k d (N+1) (8*B+100):=by
 obtain⟨ty,A,c,hx⟩:=Qck hsco hv ht;have hmem:=(Be ht).1;obtain⟨st,nm,fs⟩:=t;simp only at h2;subst h2;have h69:¬(82:UInt8)=69:=aJ;exact Qcc xs A0 c0 k hsg hbs d _ _ (Qnn xs A0 c0 k hk hsg hbs nm fs A c hx hsco (fun f hf=>Qj ty.2.2.1.2 hf) (fun f hf=>(ty.2.2.1.1 f hf).2.1) (ty.2.2.1.2.imp fun h=>h.2) (fun f hf=>⟨((ty.2.2.1.1 f hf).2.2.2.2 h69).1,hsco.2.1 _ hmem h69 f hf,ad (Tx (ty.2.2.1.1 f hf)) aJ⟩) ty.2.2.2.1 d hd hd2 N B hB hB2 H)
theorem Qn1:∀(m:Nat) (k:Kd) (d:Int),-990+(m:Int)<=d->d<=0->Ch k->Ce (Ag xs) k->Vd (Ag xs) m k->Vf xs (.slice A0 xs.length c0) k d (m+2) (900+100*m):=by
 intro m;induction m with
 |zero=>
  intro k d hd h0 hk hr he;cases hs:k.signs with
  |cons c r=>
   rcases M7 hk hs with rfl|rfl
   ·exact Qf6 xs A0 c0 k r hs hk d aG aG 1 100 (fun h=>absurd h aG) (Ar _)
   exact Qe9 xs A0 c0 k r hs hk d aG aG 1 100 (fun h=>absurd h aG) (Ar _)
  |nil=>
   rcases hk.2.1 with⟨hb,_⟩|⟨hb,_⟩
   ·obtain⟨t,_,e⟩:=he hs hb;cases e
   exact(Zq xs _ k hs hb d 1).mono (Ar _) aG
 |succ m ih=>
  intro k d hd h0 hk hr he;cases hs:k.signs with
  |cons c r=>
   rcases M7 hk hs with rfl|rfl
   ·exact(Qf6 xs A0 c0 k r hs hk d aG aG 1 100 (fun h=>absurd h aG) (Ar _)).mono aG aG
   exact(Qe9 xs A0 c0 k r hs hk d aG aG 1 100 (fun h=>absurd h aG) (Ar _)).mono aG aG
  |nil=>
   rcases hk.2.1 with⟨hb,_⟩|⟨hb,_⟩
   ·obtain⟨t,ht,e⟩:=he hs hb;have hmem:=(Be ht).1;have ty:=hsco.1.1 t hmem;rcases ty.1 with h2|h5|h9
    ·exact(Qom xs A0 c0 hsco hv hk hs hb ht h2 d aG aG 1 100 (Ar _) aG (fun h=>absurd h aG)).mono aG aG
    ·have h69:t.sort≠69:=cY;refine(Qop xs A0 c0 hsco hv hk hs hb ht h5 d aG aG (m+2) (900+100*m) fun f hf hor=>?_).mono aG aG;rcases hor with h|h
     ·exact absurd h aG
     refine ih f.kind (d - 1) aG aG ((ty.2.2.1.1 f hf).2.2.2.2 h69).1 (hsco.2.1 t hmem h69 f hf) fun hs1 hb1=>?_;unfold Cb Gl at e;rw[if_pos h5]at e;cases hfs:t.fields with
     |nil=>rw[hfs]at h;cases h
     |cons f0 r=>
      rw[hfs]at h e;injection h with h;subst h;simp only at e;rw[if_pos ⟨hs1,hb1⟩]at e;cases hu:B6 (Ag xs) f0.kind.name with
      |none=>have:=hsco.2.1 t hmem h69 f0 hf hb1;rw[hu]at this;cases this
      |some u=>rw[hu]at e;exact⟨u,rfl,e⟩
    exact(Qoj xs A0 c0 hsco hv hk hs hb ht h9 d aG aG 1).mono aG aG
   exact(Zq xs _ k hs hb d 1).mono aG aG
end
def hiB:Nat->Nat
 |0=>1800
 |j+1=>8*hiB j+100
theorem Qlb:∀j,1800<=hiB j
 |0=>Ar _
 |j+1=>by have:=Qlb j;show 1800<=8*hiB j+100;omega
theorem Qf5:∀j,j<=4->hiB j<=8000000:=by
 intro j hj;rcases(show j=0\/j=1\/j=2\/j=3\/j=4 by omega)with rfl|rfl|rfl|rfl|rfl<;>decide
theorem Qgx(xs:List (Ty × Value))(A0:Option Addr)(c0:Nat)(hsco:Nv (Ag xs))(hv:∀x∈xs,∃A c,x.2=.slice A x.1.fields.length c):∀(j:Nat) (k:Kd),j<=4->Ch k->Ce (Ag xs) k->Vf xs (.slice A0 xs.length c0) k (j:Int) (12+j) (hiB j):=by
 intro j;induction j with
 |zero=>intro k _ hk hr;exact(Qn1 xs A0 c0 hsco hv 9 k 0 aG aG hk hr (T0 hsco hr)).mono aG aJ
 |succ j ih=>
  intro k hj hk hr;have e1:(((j+1:Nat):Int) - 1)=(j:Int):=aG;have hg:=Qlb j;have hl:=Qf5 j aG;have hh:hiB (j+1)=8*hiB j+100:=rfl;have ih2:∀k,Ch k->Ce (Ag xs) k->Vf xs (.slice A0 xs.length c0) k (((j+1:Nat):Int) - 1) (12+j) (hiB j):=fun k h1 h2=>by rw[e1];exact ih k aG h1 h2
  rw[hh];cases hs:k.signs with
  |cons c r=>
   have hp:Ch k.part:=(Kb hk).1;rcases M7 hk hs with rfl|rfl
   ·exact Qf6 xs A0 c0 k r hs hk _ aG aG (12+j) (hiB j) (fun _=>ih2 _ hp hr) aG
   exact Qe9 xs A0 c0 k r hs hk _ aG aG (12+j) (hiB j) (fun _=>ih2 _ hp hr) aG
  |nil=>
   rcases hk.2.1 with⟨hb,_⟩|⟨hb,_⟩
   ·have hr1:=hr hb;cases ht:B6 (Ag xs) k.name with
    |none=>rw[ht]at hr1;cases hr1
    |some t=>
     have hmem:=(Be ht).1;have ty:=hsco.1.1 t hmem;rcases ty.1 with h2|h5|h9
     ·have h69:t.sort≠69:=cj;exact Qom xs A0 c0 hsco hv hk hs hb ht h2 _ aG aG (12+j) (hiB j) aG aG (fun _ f hf=>ih2 _ ((ty.2.2.1.1 f hf).2.2.2.2 h69).1 (hsco.2.1 t hmem h69 f hf))
     ·have h69:t.sort≠69:=cY;exact(Qop xs A0 c0 hsco hv hk hs hb ht h5 _ aG aG (12+j) (hiB j) fun f hf _=>ih2 _ ((ty.2.2.1.1 f hf).2.2.2.2 h69).1 (hsco.2.1 t hmem h69 f hf)).mono aG aG
     exact(Qoj xs A0 c0 hsco hv hk hs hb ht h9 _ aG aG 1).mono aG aG
   exact(Zq xs _ k hs hb _ 1).mono aG aG
theorem G8.forms{W:World}{v:Value}{xs:List (Ty × Value)}(h:G8 W v xs):∀x∈xs,∃A c,x.2=.slice A x.1.fields.length c:=fun x hx=>by
 obtain⟨_,_,_,_,_,hf⟩:=h;obtain⟨A,c,e,_⟩:=hf x hx;exact⟨A,c,e⟩
def Mm(c:UInt8):Bool:=!Bo c && c != 64
theorem Zs{c:UInt8}(h:Mm c=true)(st:Nat × Nat):Rr st c=some (st.2,0):=by
 simp only[Mm,av,Bool.not_eq_true',bne_iff_ne]at h;unfold Rr;rw[h.1,if_neg aJ,if_neg (fun e=>h.2 e.1)]
theorem Qg2:∀(p:List UInt8),p.all Mm=true->∀u v,p≠[]->∃u' v',mach (u,v) p=some (u',v')/\(v=0->u'=0)/\v'=0/\u'<=v
 |[],_,_,_,h=>absurd rfl h
 |[c],h,u,v,_=>by
  simp only[List.all_cons,List.all_nil,Bool.and_true]at h;refine⟨v,0,?_,fun e=>e,rfl,Ar _⟩;rw[mach,Zs h];rfl
 |c::d::p,h,u,v,_=>by
  simp only[List.all_cons,av]at h;obtain⟨u',v',e,h1,h2,h3⟩:=Qg2 (d::p) (by simp only[List.all_cons,av];exact h.2) v 0 aL;refine⟨u',v',?_,fun _=>h1 rfl,h2,by omega⟩;rw[mach,Zs h.1];exact e
theorem Qez{p:List UInt8}(h:p.all Mm=true)(hn:p≠[])(u:Nat):mach (u,0) p=some (0,0):=by
 obtain⟨u',v',e,h1,h2,_⟩:=Qg2 p h u 0 hn;rw[e,h1 rfl,h2]
def Kv(l:List UInt8):Prop:=∀u,u<=14->∃u' v',mach (u,0) l=some (u',v')/\u'<=14/\v'<=14
def Fz(l:List UInt8):Prop:=∀u,u<=14->∃u',mach (u,0) l=some (u',0)/\u'<=14
theorem Kv.sep{l:List UInt8}(h:Kv l){c:UInt8}(hc:Mm c=true):Fz (l++[c]):=fun u hu=>by
 obtain⟨u',v',e,h1,h2⟩:=h u hu;refine⟨v',?_,h2⟩;rw[Gv,e];simp only[mach];rw[Zs hc]
theorem Fz.app{a b:List UInt8}(h:Fz a)(k:Fz b):Fz (a++b):=fun u hu=>by
 obtain⟨u',e,h1⟩:=h u hu;obtain⟨u2,e2,h2⟩:=k u' h1;exact⟨u2,by rw[Gv,e];exact e2,h2⟩
theorem Fz.appF{a b:List UInt8}(h:Fz a)(k:Kv b):Kv (a++b):=fun u hu=>by
 obtain⟨u',e,h1⟩:=h u hu;obtain⟨u2,v2,e2,h2,h3⟩:=k u' h1;exact⟨u2,v2,by rw[Gv,e];exact e2,h2,h3⟩
theorem Fz.plain{p:List UInt8}(h:p.all Mm=true)(hn:p≠[]):Fz p:=fun u hu=>⟨0,Qez h hn u,by omega⟩
theorem Fz.toF{l:List UInt8}(h:Fz l):Kv l:=fun u hu=>by
 obtain⟨u',e,h1⟩:=h u hu;exact⟨u',0,e,h1,by omega⟩
theorem Fz.nil:Fz []:=fun u hu=>⟨u,rfl,hu⟩
def okM(l:List UInt8)(v:Nat):Bool:=match mach (0,v) l with|some (a,b)=>decide (a<=14) && decide (b<=14)|none=>false
theorem Xt{l:List UInt8}{v:Nat}(h:okM l v=true):∃a b,mach (0,v) l=some (a,b)/\a<=14/\b<=14:=by
 unfold okM at h;cases e:mach (0,v) l with
 |none=>rw[e]at h;cases h
 |some x=>
  obtain⟨a,b⟩:=x;rw[e]at h;simp only[av,decide_eq_true_eq]at h;exact⟨a,b,rfl,h.1,h.2⟩
theorem DK.mach{l:List UInt8}(h:DK l):∃a b,Go.Proofs.YtkigmebejmmikaaGreatDoor.mach (0,0) l=some (a,b)/\a<=14/\b<=14:=by
 rcases h with⟨sg,b,rfl,h1,h2,h3⟩|h
 ·rw[Gv,Kj sg _ h2];simp only[am];have hd:∀b∈Tt,okM b 0=true/\okM b 1=true/\okM b 2=true:=aJ;obtain⟨d0,d1,d2⟩:=hd b h3;rcases(show sg.length=0\/sg.length=1\/sg.length=2 by omega)with e|e|e<;>rw[e]
  ·exact Xt d0
  ·exact Xt d1
  exact Xt d2
 have hd:∀l∈Tg,okM l 0=true:=aJ;exact Xt (hd l h)
theorem Kv.kind{p k:List UInt8}(hp:p.all Mm=true)(hn:p≠[])(hk:DK k):Kv (p++k):=fun u hu=>by
 rw[Gv,Qez hp hn u];exact hk.mach
theorem Qk2{c:UInt8}(h:Bm c=true):Mm c=true:=by
 have:=Dh.1 h;have h1:c≠91:=fX;have h2:c≠63:=fX;have h3:c≠64:=fX;simp[Mm,Bo,h1,h2,h3]
theorem Qcr(n:Nat):(Bb n).all Mm=true:=List.all_eq_true.2 fun c hc=>Qk2 (List.all_eq_true.1 (J5 n) c hc)
def Qjw:List (List UInt8):=[[53],[55,55],[57,57,57,57,57,57],[48]]
def Qjv:List (List UInt8):=[[104,105],[97,32,98],[]]
def Qld:List (List UInt8):=[[121,101,115],[121,101,115],[110,111]]
theorem Jg(g p:Nat)(c:UInt8)(tag:Nat)(nm:List UInt8)(w:World)(h:Ez w g p)(hp:p<=100000000)(hc:c=82\/c=85\/c=69)(ht:tag<=99)(hn:nm.length<=1)(hpl:nm.all Mm=true):
  Calls prog 135 #[g,.string ⟨[c].toArray⟩,(tag:Int),nm] w (Pn (fun l=>Kv l/\l.length<=20) w g p 9):=by
 have hgl:=h.lt;have HR:=Aa h;have Hd:=Aa (fun W=>Jd tag tag W (Ar _) aG);have hd2:=C0 1 tag (by have e:10 ^ (1+1)=100:=rfl;omega)
 have Hpre:=Aa (show (Bb tag++58::nm).all Mm=true/\(Bb tag++58::nm)≠[]by
  refine⟨?_,by simp⟩;rw[List.all_append,List.all_cons,Qcr,hpl];decide)
 have Hpre2:=Aa (show (Bb tag++58::(nm++[58])).all Mm=true/\(Bb tag++58::(nm++[58]))≠[]by
  refine⟨?_,by simp⟩;rw[List.all_append,List.all_cons,List.all_append,Qcr,hpl];decide)
 have Hnp:=Aa hpl;have Hdp:=Aa (Qcr tag);clear h hpl;generalize Bb tag=dt at *;go_enter func135,ntmps135;go_wp2_with fail;refine(Hd.o _).mono ?_;rintro e w1 ⟨rfl,hb1⟩;have HR1:=Aa (HR.o.below hb1);have Hg1:=Aa (Cs hb1 (some g));clear hb1 HR;rcases hc with rfl|rfl|rfl
 ·go_wp2_with fail;refine(Qc g p _ HR1.o hp).mono ?_;rintro e w2 ⟨l,q,rfl,hl,hq,hR2,hg2⟩;have hll:=hl.len;have Hl:=Aa hl;have HR2:=Aa hR2;have Hg2:=Aa (Ae Hg1.o hg2);clear hl hR2 hg2 HR1 Hg1;go_wp2_with fail;refine(Bu g q 3 _ HR2.o aG aG aG).mono ?_;rintro e w3 ⟨z,rfl,hz1,_,hR3,hg3⟩;have HR3:=Aa hR3;have hg3l:=hR3.lt;have Hg3:=Aa (Ae Hg2.o hg3);clear hR3 hg3 HR2 Hg2;by_cases hz0:z=0
  ·subst hz0;by_cases hn1:l=[110]
   ·subst hn1;go_wp2_with fail;refine(Bu g (q+1) 8 _ (HR3.o.dalloc _) aG aG aG).mono ?_;rintro e w4 ⟨u,rfl,hu1,_,hR4,hg4⟩;have hu:u / 2 % 4<Qjw.length:=by show u / 2 % 4<4;omega
    obtain⟨s4,hsm,hcell⟩:=((Jf.new w3 Qjw).grown hg4 aG).cell hu;have hs4:=(show ∀l∈Qjw,l.all Mm=true/\l.length<=6 by decide) s4 hsm;have hs4l:=hs4.2;have k1:(0:Int)<=(u:Int) / 2 % 4:=aG;have k2:(u:Int) / 2 % 4<4:=aG;have HR4:=Aa hR4;have Hg4:=Aa (Ae Hg3.o (Ae (World.grownBy_alloc w3 _ (some g)) hg4));have Hs4:=Aa hs4;clear hR4 hg4 hsm hs4;go_wp2_with fail;go_ret;exact⟨dt++58::(nm++58::110::61::s4),q+1+1,by simp,⟨(Fz.plain cP aL).toF,by have:=Hs4.o.2;simp;omega⟩,by omega,HR4.o,Hg4.o⟩
   have tn:(l == [110])=false:=by simpa using hn1
   by_cases hn2:l=[116]
   ·subst hn2;go_wp2_with fail;refine(Bu g (q+1) 7 _ (HR3.o.dalloc _) aG aG aG).mono ?_;rintro e w4 ⟨u,rfl,hu1,_,hR4,hg4⟩;have hu:u / 3<Qjv.length:=by show u / 3<3;omega
    obtain⟨s4,hsm,hcell⟩:=((Jf.new w3 Qjv).grown hg4 aG).cell hu;have hs4:=(show ∀l∈Qjv,l.all Mm=true/\l.length<=3 by decide) s4 hsm;have hs4l:=hs4.2;have k1:(0:Int)<=(u:Int) / 3:=aG;have k2:(u:Int) / 3<3:=aG;have HR4:=Aa hR4;have Hg4:=Aa (Ae Hg3.o (Ae (World.grownBy_alloc w3 _ (some g)) hg4));have Hs4:=Aa hs4;clear hR4 hg4 hsm hs4;go_wp2_with fail;go_ret;exact⟨dt++58::(nm++58::116::61::39::(s4++[39])),q+1+1,by simp,⟨(Fz.plain cP aL).toF,by have:=Hs4.o.2;simp;omega⟩,by omega,HR4.o,Hg4.o⟩
   have tt:(l == [116])=false:=by simpa using hn2
   by_cases hn3:l=[102]
   ·subst hn3;go_wp2_with fail;refine(Bu g (q+1) 7 _ (HR3.o.dalloc _) aG aG aG).mono ?_;rintro e w4 ⟨u,rfl,hu1,_,hR4,hg4⟩;have hu:u / 3<Qld.length:=by show u / 3<3;omega
    obtain⟨s4,hsm,hcell⟩:=((Jf.new w3 Qld).grown hg4 aG).cell hu;have hs4:=(show ∀l∈Qld,l.all Mm=true/\l.length<=3 by decide) s4 hsm;have hs4l:=hs4.2;have k1:(0:Int)<=(u:Int) / 3:=aG;have k2:(u:Int) / 3<3:=aG;have HR4:=Aa hR4;have Hg4:=Aa (Ae Hg3.o (Ae (World.grownBy_alloc w3 _ (some g)) hg4));have Hs4:=Aa hs4;clear hR4 hg4 hsm hs4;go_wp2_with fail;go_ret;exact⟨dt++58::(nm++58::102::61::s4),q+1+1,by simp,⟨(Fz.plain cP aL).toF,by have:=Hs4.o.2;simp;omega⟩,by omega,HR4.o,Hg4.o⟩
   have tf:(l == [102])=false:=by simpa using hn3
   clear hn1 hn2 hn3;go_wp2_with fail;exact mt
  have tz:((z:Int) == 0)=false:=aO;clear hz0;go_wp2_with fail;exact mt
 ·go_wp2_with fail;refine(Qc g p _ HR1.o hp).mono ?_;rintro e w2 ⟨l,q,rfl,hl,hq,hR2,hg2⟩;have hll:=hl.len;have Hl:=Aa hl;have HR2:=Aa hR2;have Hg2:=Aa (Ae Hg1.o hg2);clear hl hR2 hg2 HR1 Hg1;go_wp2_with fail;go_ret;exact⟨(dt++58::(nm++[58]))++l,q,by simp,⟨Kv.kind Hpre2.o.1 Hpre2.o.2 Hl.o,by simp;omega⟩,by omega,HR2.o,Hg2.o⟩
 go_wp2_with fail;go_ret;exact⟨dt++58::nm,p,by simp,⟨(Fz.plain Hpre.o.1 Hpre.o.2).toF,by simp;omega⟩,by omega,HR1.o,Hg1.o⟩
theorem Kv.comma{l:List UInt8}(h:Kv l):Fz (l++[44]):=h.sep aJ
theorem Ql(g p:Nat)(c nc:UInt8)(w:World)(h:Ez w g p)(hp:p<=10000000)(hc:c=82\/c=85\/c=69)(hn:Mm nc=true):
  Calls prog 103 #[g,.string ⟨[c].toArray⟩,.string ⟨[nc].toArray⟩] w (Pn (fun l=>Fz l/\l.length<=88/\1<=l.length) w g p 50):=by
 have hgl:=h.lt;have HR:=Aa h
 have Hh:=Aa (show Fz [c,nc,61]from Fz.plain (by
  have hcp:Mm c=true:=by rcases hc with rfl|rfl|rfl<;>decide
  simp only[List.all_cons,List.all_nil,hcp,hn];decide) aL)
 have Hc:=Aa hc;clear h hn;go_enter func103,ntmps103;go_wp2_with fail;refine(Bu g p 4 _ HR.o aG aG aG).mono ?_;rintro e w1 ⟨x,rfl,hx1,_,hR1,hg1⟩;have hx:x<=3:=aG;have HR1:=Aa hR1;have Hg1:=Aa hg1;have hg1l:=hR1.lt;clear hR1 hg1 HR hx1;rcases hc with rfl|rfl|rfl
 ·go_wp2_with fail;refine(Bu g (p+1) 8 _ HR1.o aG aG aG).mono ?_;rintro e w2 ⟨z,rfl,hz1,_,hR2,hg2⟩;have HR2:=Aa hR2;have Hg2:=Aa (Ae Hg1.o hg2);have hg2l:=hR2.lt;clear hR2 hg2 HR1 Hg1 hz1;by_cases hz0:z=0
  ·subst hz0;go_wp2_with fail;go_loopw [7,8,10] (fun s t k wr=>∃(l:List UInt8) (tg k' q:Nat),s=l/\t=(tg:Int)/\k=(k':Int)/\k'<=0/\tg<=3*k'/\l.length<=3+21*k'/\1<=l.length/\Hid (Kv l)/\Hid (k'=0->Fz l)/\q<=(p+1+1)+11*k'/\g<wr.heap.size/\Hid (Ez wr g q)/\Hid (w.grownBy wr (some g))) (fun _ _ k _=>0 - (intOf k).toNat)
   case atStart=>exact⟨[82,nc,61],0,0,(p+1+1),by simp,rfl,rfl,ag _,Ar _,by simp,by simp,Hh.o.toF,fun _=>Hh.o,by omega,HR2.o.lt,HR2.o,Hg2.o⟩
   case round=>
    obtain⟨l,tg,k,q,rfl,rfl,rfl,hk,htg,hll,hl1,hF,hL,hq,hgw,hR,hg⟩:=hrel;by_cases hlt:k<0
    ·exact absurd hlt (Nat.not_lt_zero _)
    ·have k2:¬(k:Int)<0:=aG;have HRf:=Aa hR.o;have Hgf:=Aa hg.o;have HFf:=Aa hF.o;go_wp2_with fail;go_ret;exact⟨l++[10],q,by simp,⟨HFf.o.sep aJ,by simp only[ah,List.length_cons,List.length_nil];omega,by simp⟩,by omega,HRf.o,Hgf.o⟩
  have tz:((z:Int) == 0)=false:=aO;clear hz0;go_wp2_with fail;go_loopw [7,8,10] (fun s t k wr=>∃(l:List UInt8) (tg k' q:Nat),s=l/\t=(tg:Int)/\k=(k':Int)/\k'<=(1+x)/\tg<=3*k'/\l.length<=3+21*k'/\1<=l.length/\Hid (Kv l)/\Hid (k'=0->Fz l)/\q<=(p+1+1)+11*k'/\g<wr.heap.size/\Hid (Ez wr g q)/\Hid (w.grownBy wr (some g))) (fun _ _ k _=>(1+x) - (intOf k).toNat)
  case atStart=>exact⟨[82,nc,61],0,0,(p+1+1),by simp,rfl,rfl,ag _,Ar _,by simp,by simp,Hh.o.toF,fun _=>Hh.o,by omega,HR2.o.lt,HR2.o,Hg2.o⟩
  case round=>
   obtain⟨l,tg,k,q,rfl,rfl,rfl,hk,htg,hll,hl1,hF,hL,hq,hgw,hR,hg⟩:=hrel;by_cases hlt:k<(1+x)
   ·have k2:(k:Int)<1+(x:Int):=aG;have k3:k<=3:=aG;go_wp2_with fail;refine(Bu g q 3 _ hR.o aG aG aG).mono ?_;rintro e w3 ⟨a,rfl,ha1,_,hR3,hg3⟩;have ha:a<=2:=aG;have HR3:=Aa hR3;have Hg3:=Aa (Ae hg.o hg3);clear hR3 hg3 ha1;go_wp2_with fail;refine(Bu g (q+1) 2 _ HR3.o aG aG aG).mono ?_;rintro e w4 ⟨b,rfl,hb1,_,hR4,hg4⟩;obtain⟨T,hT,hT2⟩:∃T:Nat,(T:Int)=(tg:Int)+1+(a:Int)*(b:Int)/\T<=3*(k+1):=by
     have hb:b=0\/b=1:=aG;rcases hb with rfl|rfl
     ·exact kB
     exact mu
    have hab:(a:Int)*(b:Int)<=2:=by
     have hb:b=0\/b=1:=aG;rcases hb with rfl|rfl
     ·simp
     simp;omega
    have hab0:0<=(a:Int)*(b:Int):=Int.mul_nonneg aG aG;have HR4:=Aa hR4;have Hg4:=Aa (Ae Hg3.o hg4);have HT:=Aa hT;have hg4l:=hR4.lt;clear hR4 hg4 HR3 Hg3 hb1 hT;by_cases hk0:k=0
    ·have HL:=Aa (hL.o hk0);have hki:¬(0:Int)<(k:Int):=aG;have hcv:=fun W=>N5 W w4 1 (Dq (112+k));rw[Dx aG]at hcv;have hu:IntKind.u8.wrap (112+(k:Int))=((112+k:Nat):Int):=ic
     have Hnm:=Aa (show ([Dq (112+k)]:List UInt8).all Mm=true by
      have hk4:k=0\/k=1\/k=2\/k=3:=aG;rcases hk4 with rfl|rfl|rfl|rfl<;>decide)
     clear hk0;go_wp2_with fail;rw[<-HT.o];refine(Jg g (q+1+1) 82 T [Dq (112+k)] _ (HR4.o.dalloc _) aG aL aG aL Hnm.o).mono ?_;rintro e w5 ⟨l2,q2,rfl,⟨hl2,hl2n⟩,hq2,hR5,hg5⟩;have HR5:=Aa hR5;have hg5l:=hR5.lt;have Hg5:=Aa (Ae Hg4.o (Ae (World.grownBy_alloc w4 _ (some g)) hg5));have Hl2:=Aa hl2;clear hR5 hg5 hl2;go_wp2_with fail;go_roundw
     case rel=>exact⟨l++l2,T,k+1,q2,by simp,by first|rfl|rw[HT.o],by go_num,by omega,by omega,by rw[ah];omega,by rw[ah];omega,HL.o.appF Hl2.o,(fun h=>by omega),by omega,hg5l,HR5.o,Hg5.o⟩
     case measure=>simp[intOf];omega
    have hki:(0:Int)<(k:Int):=aG;have hcv:=fun W=>N5 W w4 1 (Dq (112+k));rw[Dx aG]at hcv;have hu:IntKind.u8.wrap (112+(k:Int))=((112+k:Nat):Int):=ic
    have Hnm:=Aa (show ([Dq (112+k)]:List UInt8).all Mm=true by
     have hk4:k=0\/k=1\/k=2\/k=3:=aG;rcases hk4 with rfl|rfl|rfl|rfl<;>decide)
    have HF2:=Aa hF.o.comma;clear hk0;go_wp2_with fail;rw[<-HT.o];refine(Jg g (q+1+1) 82 T [Dq (112+k)] _ (HR4.o.dalloc _) aG aL aG aL Hnm.o).mono ?_;rintro e w5 ⟨l2,q2,rfl,⟨hl2,hl2n⟩,hq2,hR5,hg5⟩;have HR5:=Aa hR5;have hg5l:=hR5.lt;have Hg5:=Aa (Ae Hg4.o (Ae (World.grownBy_alloc w4 _ (some g)) hg5));have Hl2:=Aa hl2;clear hR5 hg5 hl2;go_wp2_with fail;go_roundw
    case rel=>exact⟨(l++[44])++l2,T,k+1,q2,by simp,by first|rfl|rw[HT.o],by go_num,by omega,by omega,by simp only[ah,List.length_cons,List.length_nil];omega,by simp only[ah,List.length_cons,List.length_nil];omega,HF2.o.appF Hl2.o,(fun h=>by omega),by omega,hg5l,HR5.o,Hg5.o⟩
    case measure=>simp[intOf];omega
   ·exact iW
 ·go_wp2_with fail;go_loopw [7,8,10] (fun s t k wr=>∃(l:List UInt8) (tg k' q:Nat),s=l/\t=(tg:Int)/\k=(k':Int)/\k'<=(1+x)/\tg<=3*k'/\l.length<=3+21*k'/\1<=l.length/\Hid (Kv l)/\Hid (k'=0->Fz l)/\q<=(p+1)+11*k'/\g<wr.heap.size/\Hid (Ez wr g q)/\Hid (w.grownBy wr (some g))) (fun _ _ k _=>(1+x) - (intOf k).toNat)
  case atStart=>exact⟨[85,nc,61],0,0,(p+1),by simp,rfl,rfl,ag _,Ar _,by simp,by simp,Hh.o.toF,fun _=>Hh.o,by omega,HR1.o.lt,HR1.o,Hg1.o⟩
  case round=>
   obtain⟨l,tg,k,q,rfl,rfl,rfl,hk,htg,hll,hl1,hF,hL,hq,hgw,hR,hg⟩:=hrel;by_cases hlt:k<(1+x)
   ·have k2:(k:Int)<1+(x:Int):=aG;have k3:k<=3:=aG;go_wp2_with fail;refine(Bu g q 3 _ hR.o aG aG aG).mono ?_;rintro e w3 ⟨a,rfl,ha1,_,hR3,hg3⟩;have ha:a<=2:=aG;have HR3:=Aa hR3;have Hg3:=Aa (Ae hg.o hg3);clear hR3 hg3 ha1;go_wp2_with fail;refine(Bu g (q+1) 2 _ HR3.o aG aG aG).mono ?_;rintro e w4 ⟨b,rfl,hb1,_,hR4,hg4⟩;obtain⟨T,hT,hT2⟩:∃T:Nat,(T:Int)=(tg:Int)+1+(a:Int)*(b:Int)/\T<=3*(k+1):=by
     have hb:b=0\/b=1:=aG;rcases hb with rfl|rfl
     ·exact kB
     exact mu
    have hab:(a:Int)*(b:Int)<=2:=by
     have hb:b=0\/b=1:=aG;rcases hb with rfl|rfl
     ·simp
     simp;omega
    have hab0:0<=(a:Int)*(b:Int):=Int.mul_nonneg aG aG;have HR4:=Aa hR4;have Hg4:=Aa (Ae Hg3.o hg4);have HT:=Aa hT;have hg4l:=hR4.lt;clear hR4 hg4 HR3 Hg3 hb1 hT;by_cases hk0:k=0
    ·have HL:=Aa (hL.o hk0);have hki:¬(0:Int)<(k:Int):=aG;have hcv:=fun W=>N5 W w4 1 (Dq (112+k));rw[Dx aG]at hcv;have hu:IntKind.u8.wrap (112+(k:Int))=((112+k:Nat):Int):=ic
     have Hnm:=Aa (show ([Dq (112+k)]:List UInt8).all Mm=true by
      have hk4:k=0\/k=1\/k=2\/k=3:=aG;rcases hk4 with rfl|rfl|rfl|rfl<;>decide)
     clear hk0;go_wp2_with fail;rw[<-HT.o];refine(Jg g (q+1+1) 85 T [Dq (112+k)] _ (HR4.o.dalloc _) aG aL aG aL Hnm.o).mono ?_;rintro e w5 ⟨l2,q2,rfl,⟨hl2,hl2n⟩,hq2,hR5,hg5⟩;have HR5:=Aa hR5;have hg5l:=hR5.lt;have Hg5:=Aa (Ae Hg4.o (Ae (World.grownBy_alloc w4 _ (some g)) hg5));have Hl2:=Aa hl2;clear hR5 hg5 hl2;go_wp2_with fail;go_roundw
     case rel=>exact⟨l++l2,T,k+1,q2,by simp,by first|rfl|rw[HT.o],by go_num,by omega,by omega,by rw[ah];omega,by rw[ah];omega,HL.o.appF Hl2.o,(fun h=>by omega),by omega,hg5l,HR5.o,Hg5.o⟩
     case measure=>simp[intOf];omega
    have hki:(0:Int)<(k:Int):=aG;have hcv:=fun W=>N5 W w4 1 (Dq (112+k));rw[Dx aG]at hcv;have hu:IntKind.u8.wrap (112+(k:Int))=((112+k:Nat):Int):=ic
    have Hnm:=Aa (show ([Dq (112+k)]:List UInt8).all Mm=true by
     have hk4:k=0\/k=1\/k=2\/k=3:=aG;rcases hk4 with rfl|rfl|rfl|rfl<;>decide)
    have HF2:=Aa hF.o.comma;clear hk0;go_wp2_with fail;rw[<-HT.o];refine(Jg g (q+1+1) 85 T [Dq (112+k)] _ (HR4.o.dalloc _) aG aL aG aL Hnm.o).mono ?_;rintro e w5 ⟨l2,q2,rfl,⟨hl2,hl2n⟩,hq2,hR5,hg5⟩;have HR5:=Aa hR5;have hg5l:=hR5.lt;have Hg5:=Aa (Ae Hg4.o (Ae (World.grownBy_alloc w4 _ (some g)) hg5));have Hl2:=Aa hl2;clear hR5 hg5 hl2;go_wp2_with fail;go_roundw
    case rel=>exact⟨(l++[44])++l2,T,k+1,q2,by simp,by first|rfl|rw[HT.o],by go_num,by omega,by omega,by simp only[ah,List.length_cons,List.length_nil];omega,by simp only[ah,List.length_cons,List.length_nil];omega,HF2.o.appF Hl2.o,(fun h=>by omega),by omega,hg5l,HR5.o,Hg5.o⟩
    case measure=>simp[intOf];omega
   ·exact iW
 go_wp2_with fail;go_loopw [7,8,10] (fun s t k wr=>∃(l:List UInt8) (tg k' q:Nat),s=l/\t=(tg:Int)/\k=(k':Int)/\k'<=(1+x)/\tg<=3*k'/\l.length<=3+21*k'/\1<=l.length/\Hid (Kv l)/\Hid (k'=0->Fz l)/\q<=(p+1)+11*k'/\g<wr.heap.size/\Hid (Ez wr g q)/\Hid (w.grownBy wr (some g))) (fun _ _ k _=>(1+x) - (intOf k).toNat)
 case atStart=>exact⟨[69,nc,61],0,0,(p+1),by simp,rfl,rfl,ag _,Ar _,by simp,by simp,Hh.o.toF,fun _=>Hh.o,by omega,HR1.o.lt,HR1.o,Hg1.o⟩
 case round=>
  obtain⟨l,tg,k,q,rfl,rfl,rfl,hk,htg,hll,hl1,hF,hL,hq,hgw,hR,hg⟩:=hrel;by_cases hlt:k<(1+x)
  ·have k2:(k:Int)<1+(x:Int):=aG;have k3:k<=3:=aG;go_wp2_with fail;refine(Bu g q 3 _ hR.o aG aG aG).mono ?_;rintro e w3 ⟨a,rfl,ha1,_,hR3,hg3⟩;have ha:a<=2:=aG;have HR3:=Aa hR3;have Hg3:=Aa (Ae hg.o hg3);clear hR3 hg3 ha1;go_wp2_with fail;refine(Bu g (q+1) 2 _ HR3.o aG aG aG).mono ?_;rintro e w4 ⟨b,rfl,hb1,_,hR4,hg4⟩;obtain⟨T,hT,hT2⟩:∃T:Nat,(T:Int)=(tg:Int)+1+(a:Int)*(b:Int)/\T<=3*(k+1):=by
    have hb:b=0\/b=1:=aG;rcases hb with rfl|rfl
    ·exact kB
    exact mu
   have hab:(a:Int)*(b:Int)<=2:=by
    have hb:b=0\/b=1:=aG;rcases hb with rfl|rfl
    ·simp
    simp;omega
   have hab0:0<=(a:Int)*(b:Int):=Int.mul_nonneg aG aG;have HR4:=Aa hR4;have Hg4:=Aa (Ae Hg3.o hg4);have HT:=Aa hT;have hg4l:=hR4.lt;clear hR4 hg4 HR3 Hg3 hb1 hT;by_cases hk0:k=0
   ·have HL:=Aa (hL.o hk0);have hki:¬(0:Int)<(k:Int):=aG;have hcv:=fun W=>N5 W w4 1 (Dq (112+k));rw[Dx aG]at hcv;have hu:IntKind.u8.wrap (112+(k:Int))=((112+k:Nat):Int):=ic
    have Hnm:=Aa (show ([Dq (112+k)]:List UInt8).all Mm=true by
     have hk4:k=0\/k=1\/k=2\/k=3:=aG;rcases hk4 with rfl|rfl|rfl|rfl<;>decide)
    clear hk0;go_wp2_with fail;rw[<-HT.o];refine(Jg g (q+1+1) 69 T [Dq (112+k)] _ (HR4.o.dalloc _) aG aL aG aL Hnm.o).mono ?_;rintro e w5 ⟨l2,q2,rfl,⟨hl2,hl2n⟩,hq2,hR5,hg5⟩;have HR5:=Aa hR5;have hg5l:=hR5.lt;have Hg5:=Aa (Ae Hg4.o (Ae (World.grownBy_alloc w4 _ (some g)) hg5));have Hl2:=Aa hl2;clear hR5 hg5 hl2;go_wp2_with fail;go_roundw
    case rel=>exact⟨l++l2,T,k+1,q2,by simp,by first|rfl|rw[HT.o],by go_num,by omega,by omega,by rw[ah];omega,by rw[ah];omega,HL.o.appF Hl2.o,(fun h=>by omega),by omega,hg5l,HR5.o,Hg5.o⟩
    case measure=>simp[intOf];omega
   have hki:(0:Int)<(k:Int):=aG;have hcv:=fun W=>N5 W w4 1 (Dq (112+k));rw[Dx aG]at hcv;have hu:IntKind.u8.wrap (112+(k:Int))=((112+k:Nat):Int):=ic
   have Hnm:=Aa (show ([Dq (112+k)]:List UInt8).all Mm=true by
    have hk4:k=0\/k=1\/k=2\/k=3:=aG;rcases hk4 with rfl|rfl|rfl|rfl<;>decide)
   have HF2:=Aa hF.o.comma;clear hk0;go_wp2_with fail;rw[<-HT.o];refine(Jg g (q+1+1) 69 T [Dq (112+k)] _ (HR4.o.dalloc _) aG aL aG aL Hnm.o).mono ?_;rintro e w5 ⟨l2,q2,rfl,⟨hl2,hl2n⟩,hq2,hR5,hg5⟩;have HR5:=Aa hR5;have hg5l:=hR5.lt;have Hg5:=Aa (Ae Hg4.o (Ae (World.grownBy_alloc w4 _ (some g)) hg5));have Hl2:=Aa hl2;clear hR5 hg5 hl2;go_wp2_with fail;go_roundw
   case rel=>exact⟨(l++[44])++l2,T,k+1,q2,by simp,by first|rfl|rw[HT.o],by go_num,by omega,by omega,by simp only[ah,List.length_cons,List.length_nil];omega,by simp only[ah,List.length_cons,List.length_nil];omega,HF2.o.appF Hl2.o,(fun h=>by omega),by omega,hg5l,HR5.o,Hg5.o⟩
   case measure=>simp[intOf];omega
  ·exact iW
theorem Qah(s:List UInt8)(w:World)(hs:s.length<=4000000):
  Calls prog 104 #[s] w fun e w'=>e=.returned (.bool (Cl s).isSome)/\Below w w w':=by
 have H:=Aa (fun W=>X8 s W hs);generalize Cl s=o at *;go_enter func104,ntmps104;go_wp2_with fail;refine(H.o _).mono ?_;rintro e w1 ⟨hc,hb⟩;have Hb:=Aa hb;clear hb;cases o with
 |none=>
  obtain⟨A,n,c,rfl⟩:=hc;go_wp2_with fail;go_ret;exact⟨rfl,Hb.o⟩
 |some S=>
  obtain⟨v,xs,rfl,_,_⟩:=hc;go_wp2_with fail;go_ret;exact⟨rfl,Hb.o⟩
def Qcq:List (List UInt8):=[[82],[85],[85],[69]]
def Xs:List (List UInt8):=[[82],[69],[85]]
def Es:List (List UInt8):=[[],[44],[58],[49],[10]]
def Zy:List (List UInt8):=[[64,97,59],[64,97,59],[64,97,59],[64,98,59],[64,99,59],[91,110],[63,64,97,59],[110],[116],[91,64,98,59],[63,91,102]]
def Xz:List UInt8:=[82,97,61,49,58,112,58,110,61,53,44,50,58,113,58,91,116,44,52,58,114,58,63,64,97,59,44,53,58,115,58,64,98,59,10,85,98,61,49,58,112,58,110,44,51,58,113,58,64,97,59,10,69,99,61,49,58,112,44,50,58,113,10]
def DSc(l:List UInt8):Prop:=l.length<=270/\Z4 l
def Va(l:List UInt8):Prop:=l.length<=264/\1<=l.length/\∃st,mach (0,0) l=some st
theorem Va.three{a b c:List UInt8}(ha:Fz a/\a.length<=88/\1<=a.length)(hb:Fz b/\b.length<=88/\1<=b.length)(hc:Fz c/\c.length<=88/\1<=c.length):Va (a++b++c):=by
 obtain⟨u,e,_⟩:=((ha.1.app hb.1).app hc.1) 0 aG;exact⟨by simp only[ah];omega,by simp only[ah];omega,_,e⟩
theorem Va.plain:Va Xz:=⟨by decide,by decide,(0,0),by decide⟩
theorem Va.o{l:List UInt8}(h:Va l):DSc l:=⟨by have:=h.1;omega,by obtain⟨_,_,st,e⟩:=h;exact Z4.of_mach e⟩
theorem Va.turned{l i:List UInt8}{k:Nat}(h:Va l)(hk:k<l.length)(hi:i∈Es):DSc (l.take k++(i++l.drop (k+1))):=by
 obtain⟨h1,_,s,e⟩:=h;have hil:i.length<=1:=(show ∀i∈Es,i.length<=1 by decide) i hi;refine⟨by simp only[ah,List.length_take,List.length_drop];omega,?_⟩;have e2:l=l.take k++l[k]::l.drop (k+1):=by
  rw[List.getElem_cons_drop,List.take_append_drop]
 rw[e2]at e;refine Z4.turned e i ?_;have:i=[]\/i=[44]\/i=[58]\/i=[49]\/i=[10]:=by simpa [Es]using hi
 rcases this with rfl|rfl|rfl|rfl|rfl
 ·exact .inl rfl
 ·exact .inr ⟨44,rfl,by decide,by decide⟩
 ·exact .inr ⟨58,rfl,by decide,by decide⟩
 ·exact .inr ⟨49,rfl,by decide,by decide⟩
 exact .inr ⟨10,rfl,by decide,by decide⟩
theorem Qhe{s:List UInt8}(h:s∈Qcq\/s∈Xs):∃c:UInt8,s=[c]/\(c=82\/c=85\/c=69):=by
 have hd:(∀s∈Qcq,s=[82]\/s=[85]\/s=[69])/\(∀s∈Xs,s=[82]\/s=[85]\/s=[69]):=aJ;have:s=[82]\/s=[85]\/s=[69]:=h.elim (hd.1 s) (hd.2 s);rcases this with rfl|rfl|rfl
 ·exact⟨82,rfl,.inl rfl⟩
 ·exact⟨85,rfl,.inr (.inl rfl)⟩
 exact⟨69,rfl,.inr (.inr rfl)⟩
theorem Qal(g p:Nat)(w:World)(h:Ez w g p)(hp:p<=1000000):
  Calls prog 63 #[g] w (Pn DSc w g p 170):=by
 have hgl:=h.lt;have HR:=Aa h;clear h;go_enter func63,ntmps63;go_wp2_with fail;refine(Ql g p 82 97 _ HR.o aG (.inl rfl) aJ).mono ?_;rintro e w1 ⟨l1,q1,rfl,hl1,hq1,hR1,hg1⟩;have hg1l:=hR1.lt;have HR1:=Aa hR1;have Hg1:=Aa hg1;have Hl1:=Aa hl1;have l1l:=hl1.2.1;clear hR1 hg1 hl1 HR;go_wp2_with fail;refine(Bu g q1 4 _ (HR1.o.dalloc _) aG aG aG).mono ?_;rintro e w2 ⟨x,rfl,hx1,_,hR2,hg2⟩;have hx:x<Qcq.length:=by show x<4;omega
 obtain⟨s2,hsm,hcell⟩:=((Jf.new w1 Qcq).grown hg2 aG).cell hx;obtain⟨c2,rfl,hc2⟩:=Qhe (.inl hsm);have i1:(0:Int)<=(x:Int):=aG;have i2:(x:Int)<4:=aG;have HR2:=Aa hR2;have Hg2:=Aa (Ae Hg1.o (Ae (World.grownBy_alloc w1 _ (some g)) hg2));have Hc2:=Aa hc2;clear hR2 hg2 hsm hc2 HR1 Hg1;go_wp2_with fail;refine(Ql g (q1+1) c2 98 _ HR2.o aG Hc2.o aJ).mono ?_;rintro e w3 ⟨l3,q3,rfl,hl3,hq3,hR3,hg3⟩;have hg3l:=hR3.lt;have HR3:=Aa hR3;have Hg3:=Aa (Ae Hg2.o hg3);have Hl3:=Aa hl3;have l3l:=hl3.2.1;clear hR3 hg3 hl3 HR2 Hg2 hcell;go_wp2_with fail;refine(Bu g q3 3 _ (HR3.o.dalloc _) aG aG aG).mono ?_;rintro e w4 ⟨y,rfl,hy1,_,hR4,hg4⟩;have hy:y<Xs.length:=by show y<3;omega
 obtain⟨s4,hsm,hcell⟩:=((Jf.new w3 Xs).grown hg4 aG).cell hy;obtain⟨c4,rfl,hc4⟩:=Qhe (.inr hsm);have j1:(0:Int)<=(y:Int):=aG;have j2:(y:Int)<3:=aG;have HR4:=Aa hR4;have Hg4:=Aa (Ae Hg3.o (Ae (World.grownBy_alloc w3 _ (some g)) hg4));have Hc4:=Aa hc4;clear hR4 hg4 hsm hc4 HR3 Hg3;go_wp2_with fail;refine(Ql g (q3+1) c4 99 _ HR4.o aG Hc4.o aJ).mono ?_;rintro e w5 ⟨l5,q5,rfl,hl5,hq5,hR5,hg5⟩;have hg5l:=hR5.lt;have HR5:=Aa hR5;have Hg5:=Aa (Ae Hg4.o hg5);have l5l:=hl5.2.1;have Hs:=Aa (Va.three Hl1.o Hl3.o hl5);have hsl:(l1++(l3++l5)).length<=264:=by simp only[ah];omega
 rw[List.append_assoc]at Hs;clear hR5 hg5 hl5 HR4 Hg4 hcell;have Hsok:=Aa (fun W=>Qah (l1++(l3++l5)) W aG);go_wp2_with fail;refine(Hsok.o _).mono ?_;rintro e w6 ⟨rfl,hb6⟩;have HR6:=Aa (HR5.o.below hb6);have Hg6:=Aa (Ae Hg5.o (Cs hb6 (some g)));have hg6l:=HR6.o.lt;clear hb6 HR5 Hg5 Hl1 Hl3;generalize (Cl (l1++(l3++l5))).isSome=ok at *;cases ok with
 |true=>
  clear Hsok;generalize l1++(l3++l5)=s at hsl Hs ⊢;have hs1:1<=s.length:=Hs.o.2.1;go_wp2_with fail;refine(Bu g q5 24 _ HR6.o aG aG aG).mono ?_;rintro e w8 ⟨z,rfl,hz1,_,hR8,hg8⟩;have HR8:=Aa hR8;have Hg8:=Aa (Ae Hg6.o hg8);have hg8l:=hR8.lt;clear hR8 hg8 HR6 Hg6 hz1;by_cases hz0:z=0
  ·subst hz0;go_wp2_with fail;refine(Bu g (q5+1) _ _ HR8.o aG aG aG).mono ?_;rintro e w9 ⟨k,rfl,hk1,_,hR9,hg9⟩;have hk1:=hk1 aG;have hk:k<s.length:=aG;have i5:(0:Int)<=(k:Int):=aG;have i6:(k:Int)<(s.length:Int):=aG;obtain⟨q9,hq9,HR9⟩:∃q9,q9<=q5+2/\Hid (Ez w9 g q9):=⟨_,by omega,Aa hR9⟩
   have Hg9:=Aa (Ae Hg8.o hg9);clear hR9 hg9 HR8 Hg8;have hwr:IntKind.i64.wrap ((k:Int)+1)=(k:Int)+1:=IntWalk.i64_in _ aG;go_wp2_with fail;refine Qr [38,39,40,41,42,43,44,45,46,47,48,49,50,51,2]
    (fun ix v W=>match ix with|0=>v=(s:List UInt8)|1=>v=(k:Int)|2=>v=(s.take k:List UInt8)|3=>∃b,v=.slice (some ⟨b,0,none⟩) 5 5|4=>v=g|5=>∃y:Nat,v=(y:Int)/\y<5|6=>∃b y,v=.pointer (some ⟨b,y,none⟩)|7=>∃i,i∈Es/\v=.string ⟨i.toArray⟩|8=>∃i,i∈Es/\v=.string ⟨(s.take k++i).toArray⟩|9=>v=(s:List UInt8)|10=>v=(k:Int)|11=>v=.int .i64 ((k:Int)+1)|12=>v=.string ⟨(s.drop (k+1):List UInt8).toArray⟩|13=>∃i,i∈Es/\v=.string ⟨(s.take k++(i++s.drop (k+1))).toArray⟩|14=>∃i,i∈Es/\v=.string ⟨(s.take k++(i++s.drop (k+1))).toArray⟩|_=>True)
    (fun L U W=>Ez W g (if L 5=true then q9+1 else q9)/\w.grownBy W (some g)/\(L 3=true->∃b,U 3=.slice (some ⟨b,0,none⟩) 5 5/\b≠g/\Jf W b Es)/\(L 6=true->∃b y,U 6=.pointer (some ⟨b,y,none⟩)/\b≠g/\y<5/\Jf W b Es)) (⟨by simpa using HR9.o.ddrew,Gh Hg9.o,fun h=>Bool.noConfusion h,fun h=>Bool.noConfusion h⟩) ?_ ?_
   ·exact iu
   rintro L U W hL hφ hR;obtain⟨i,hi,e14⟩:=hφ 14 aJ;simp only[e14];have hR0:Ez W g (q9+1):=iq;have hG0:=hR.2.1;clear hφ hL hR;go_wp2_with fail;go_ret;exact⟨_,q9+1,rfl,Va.turned Hs.o hk hi,by omega,hR0,hG0⟩
  have tz:((z:Int) == 0)=false:=aO;clear hz0;go_wp2_with fail;go_ret;exact⟨s,q5+1,rfl,Hs.o.o,by omega,HR8.o,Hg8.o⟩
 |false=>
  go_wp2_with fail;refine(Bu g q5 8 _ HR6.o aG aG aG).mono ?_;rintro e w7 ⟨u,rfl,hu1,_,hR7,hg7⟩;have HR7:=Aa hR7;have Hg7:=Aa (Ae Hg6.o hg7);have hg7l:=hR7.lt;clear hR7 hg7 HR6 Hg6 hu1;by_cases hu0:u=0
  ·subst hu0;clear Hsok;generalize l1++(l3++l5)=s at hsl Hs ⊢;have hs1:1<=s.length:=Hs.o.2.1;go_wp2_with fail;refine(Bu g (q5+1) 24 _ HR7.o aG aG aG).mono ?_;rintro e w8 ⟨z,rfl,hz1,_,hR8,hg8⟩;have HR8:=Aa hR8;have Hg8:=Aa (Ae Hg7.o hg8);have hg8l:=hR8.lt;clear hR8 hg8 HR7 Hg7 hz1;by_cases hz0:z=0
   ·exact iv
   have tz:((z:Int) == 0)=false:=aO;clear hz0;go_wp2_with fail;exact mv
  have tu:(0:Int)<(u:Int):=aG;clear hu0 Hsok Hs hsl;have Hs:=Aa Va.plain;have hsl:Xz.length<=264:=aJ;go_wp2_with fail;rw[show (#[82,97,61,49,58,112,58,110,61,53,44,50,58,113,58,91,116,44,52,58,114,58,63,64,97,59,44,53,58,115,58,64,98,59,10,85,98,61,49,58,112,58,110,44,51,58,113,58,64,97,59,10,69,99,61,49,58,112,44,50,58,113,10]:Array UInt8)=Xz.toArray from rfl];generalize Xz=s at *;have hs1:1<=s.length:=Hs.o.2.1;refine(Bu g (q5+1) 24 _ HR7.o aG aG aG).mono ?_;rintro e w8 ⟨z,rfl,hz1,_,hR8,hg8⟩;have HR8:=Aa hR8;have Hg8:=Aa (Ae Hg7.o hg8);have hg8l:=hR8.lt;clear hR8 hg8 HR7 Hg7 hz1;by_cases hz0:z=0
  ·exact iv
  have tz:((z:Int) == 0)=false:=aO;clear hz0;go_wp2_with fail;exact mv
def DKs(l:List UInt8):Prop:=DK l\/l∈Zy\/l=[110]
theorem DKs.len{l:List UInt8}(h:DKs l):l.length<=15:=by
 rcases h with h|h|rfl
 ·exact h.len
 ·exact(show ∀l∈Zy,l.length<=15 by decide) l h
 decide
theorem Qel(g p:Nat)(s:List UInt8)(w:World)(h:Ez w g p)(hp:p<=10000000)(hs:s.length<=1000000):
  Calls prog 64 #[g,s] w (Pn DKs w g p 10):=by
 have hgl:=h.lt;have HR:=Aa h;clear h;go_enter func64,ntmps64;go_wp2_with fail;refine(Bu g p 30 _ HR.o aG aG aG).mono ?_;rintro e w1 ⟨x,rfl,hx1,_,hR1,hg1⟩;have HR1:=Aa hR1;have Hg1:=Aa hg1;have hg1l:=hR1.lt;clear hR1 hg1 HR hx1;by_cases hx0:x=0
 ·subst hx0;go_wp2_with fail;refine(Qc g (p+1) _ HR1.o aG).mono ?_;rintro e w2 ⟨l,q,rfl,hl,hq,hR2,hg2⟩;have HR2:=Aa hR2;have Hg2:=Aa (Ae Hg1.o hg2);have Hl:=Aa hl;clear hR2 hg2 hl HR1 Hg1;go_wp2_with fail;go_ret;exact⟨l,q,rfl,.inl Hl.o,by omega,HR2.o,Hg2.o⟩
 have tx:((x:Int) == 0)=false:=aO;clear hx0;go_wp2_with fail;refine(Bu g (p+1) 11 _ (HR1.o.dalloc _) aG aG aG).mono ?_;rintro e w2 ⟨y,rfl,hy1,_,hR2,hg2⟩;have hy:y<Zy.length:=by show y<11;omega
 obtain⟨k,hkm,hcell⟩:=((Jf.new w1 Zy).grown hg2 aG).cell hy;have hkl:k.length<=15:=(show ∀l∈Zy,l.length<=15 by decide) k hkm;have i1:(0:Int)<=(y:Int):=aG;have i2:(y:Int)<11:=aG;have HR2:=Aa hR2;have Hg2:=Aa (Ae Hg1.o (Ae (World.grownBy_alloc w1 _ (some g)) hg2));have Hk:=Aa hkm;have Hkind:=Aa (fun W=>Tq s k W aG aG);generalize Cx s k=o at Hkind;clear hR2 hg2 hkm HR1 Hg1 hy hy1;go_wp2_with fail;refine(Hkind.o _).mono ?_;rintro e w3 ⟨hc3,hb3⟩;have HR3:=Aa (HR2.o.below hb3);have Hg3:=Aa (Ae Hg2.o (Cs hb3 (some g)));clear hb3 HR2 Hg2 hcell;cases o with
 |none=>
  obtain⟨A,n,c,rfl⟩:=hc3;go_wp2_with fail;go_ret;exact⟨[110],p+1+1,rfl,.inr (.inr rfl),by omega,HR3.o,Hg3.o⟩
 |some z=>
  obtain⟨v,xs,rfl,_,_⟩:=hc3;go_wp2_with fail;go_ret;exact⟨k,p+1+1,rfl,.inr (.inl Hk.o),by omega,HR3.o,Hg3.o⟩
def Ym:List (List UInt8):=[[],[48],[44],[125],[45]]
theorem Qi8(g p:Nat)(s kd:List UInt8)(w:World)(h:Ez w g p)(hp:p<=1000000)(hs:s.length<=1000000)(hkd:kd.length<=1000000):
  Calls prog 65 #[g,s,kd] w (Pn (fun l=>l.length<=20000) w g p 40000000):=by
 have hgl:=h.lt;have HR:=Aa h;have Hk:=Aa (fun W=>Tq s kd W aG aG);have Hgood:=Aa (fun S k (e:Cx s kd=some (S,k))=>Jz e);obtain⟨o,ho⟩:∃o,Cx s kd=o:=⟨_,rfl⟩
 rw[ho]at Hk Hgood;clear ho h;go_enter func65,ntmps65;go_wp2_with fail;refine(Hk.o _).mono ?_;rintro e w1 ⟨hm,hb1⟩;have HR1:=Aa (HR.o.below hb1);have Hg1:=Aa (Cs hb1 (some g));clear hb1;cases o with
 |none=>
  obtain⟨A,n,c,rfl⟩:=hm;go_wp2_with fail;go_ret;exact⟨[53],p,rfl,by decide,by omega,HR1.o,Hg1.o⟩
 |some x=>
  obtain⟨v,xs,rfl,hxs,hsc⟩:=hm;obtain⟨S,k⟩:=x;simp only at hxs;subst hxs;obtain⟨g1,_,_,g2,g3,g4⟩:=Hgood.o _ k rfl;subst g3;have hform:=hsc.forms;have HSc:=Aa hsc;obtain⟨A0,c0,rfl,_⟩:=hsc;have HD:=Aa (fun(j:Nat) hj=>Qgx xs A0 c0 g1 hform j k hj g2 g4);have HD4:=@Aa (Vf xs (.slice A0 xs.length c0) k 4 16 8000000) ((Qgx xs A0 c0 g1 hform 4 k (Ar _) g2 g4).mono (Ar _) (Qf5 4 (Ar _)));have Hout:=Aa (fun N v (hv:Gb (Ag xs) N k v) (hl:(Ay v).length<=8000000) P b W (hW:Gx P W b (Cj (Ag xs) k v))=>Yu g1.1.1 P N k v hv g2 b W hW (ad hl aJ));have Hne:=Aa (fun N v (hv:Gb (Ag xs) N k v)=>show 1<=(Ay v).length from by obtain⟨c,r,e,_⟩:=Y8 hv;rw[e];simp);unfold Vf at HD HD4;generalize Bt k=kb at *;have HB:=Aa Qf5;obtain⟨xv,hxv⟩:∃xv:Value,xv=.slice A0 xs.length c0:=⟨_,rfl⟩
  rw[<-hxv]at HSc HD HD4 ⊢;clear hform g1 g2 g4 hxv Hk Hgood;go_wp2_with fail;refine(HD4.o g p w1 HSc.o HR1.o aG).mono ?_;rintro e w2 ⟨b,v,q,rfl,k1,k2,k3,k4,k5,k6⟩;have Hg2:=Aa k6;have HR2:=Aa k5;have Hs2:=Aa k4;have hv1:=Hne.o _ v k1;have Hok:=Aa k1;clear k1 k4 k5 k6;go_wp2_with fail;refine(Hout.o _ v Hok.o aG _ b w2 Hs2.o).mono ?_;rintro e w3 ⟨rfl,hb3⟩;have HR3:=Aa (HR2.o.below hb3);have Hg3:=Aa (Ae Hg2.o (Cs hb3 _));clear hb3 Hok Hs2 HR2 Hg2;generalize Ay v=t0 at *;go_wp2_with fail;go_loopw [9,10] (fun tv dv wr=>∃(t:List UInt8) (j q:Nat),tv=t/\dv=(j:Int)/\j<=3/\1<=t.length/\t.length<=8000000/\Hid (j=0->t.length<=14500)/\q<=p+8000000*(4 - j)/\Hid (Ez wr g q)/\Hid (w1.grownBy wr (some g))) (fun _ dv _=>(intOf dv).toNat)
  case atStart=>exact⟨t0,3,q,rfl,rfl,Ar _,hv1,k2,fun h=>by omega,by omega,HR3.o,Hg3.o⟩
  case round=>
   obtain⟨t,j,q,rfl,rfl,hj,ht1,ht2,ht3,hq,hRr,hgr⟩:=hrel;have hj0:(0:Int)<=(j:Int):=aG;by_cases hgo:150<t.length/\0<j
   ·obtain⟨hlong,hj1⟩:=hgo;have hli:(150:Int)<(t.length:Int):=aG;have hji:(0:Int)<(j:Int):=aG;have hBj:=HB.o j aG;have HSr:=@Aa (G8 wr xv xs) (HSc.o.grown HR1.o hgr.o);go_wp2_with fail;refine(HD.o j aG g q wr HSr.o hRr.o aG).mono ?_;rintro e w4 ⟨b4,v4,q4,rfl,k1,k2,k3,k4,k5,k6⟩;have Hg4:=Aa (Ae hgr.o k6);have HR4:=Aa k5;have Hs4:=Aa k4;have hv4:=Hne.o _ v4 k1;have Hok4:=Aa k1;clear k1 k4 k5 k6;go_wp2_with fail;refine(Hout.o _ v4 Hok4.o aG _ b4 w4 Hs4.o).mono ?_;rintro e w5 ⟨rfl,hb5⟩;have HR5:=Aa (HR4.o.below hb5);have Hg5:=Aa (Ae Hg4.o (Cs hb5 _));clear hb5 Hok4 Hs4 HR4 Hg4;generalize Ay v4=t4 at *;have hwd:IntKind.i64.wrap ((j:Int) - 1)=(j:Int) - 1:=IntWalk.i64_in _ aG;go_wp2_with fail;go_roundw
    case rel=>exact⟨t4,j - 1,q4,rfl,by go_num,by omega,hv4,by omega,(fun h=>ad (show t4.length<=hiB 1 from(show j=1 by omega) ▸ k2) aJ),by omega,HR5.o,Hg5.o⟩
    case measure=>simp[intOf];omega
   ·have hlt:t.length<=14500:=by
     by_cases h150:150<t.length
     ·have:j=0:=aG;exact ht3.o this
     omega
    have hdec:(decide ((150:Int)<(t.length:Int))=false)\/(decide ((150:Int)<(t.length:Int))=true/\j=0):=by
     by_cases h150:150<t.length
     ·exact .inr ⟨aC aG,by omega⟩
     exact .inl (aB aG)
    have hti:(t.length:Int)<=14500:=aG;clear hgo ht3;obtain⟨W6,rfl⟩:∃W6:World,W6=wr:=⟨_,rfl⟩
    rcases hdec with hd1|⟨hd1,rfl⟩<;>
    ·go_wp2_with fail;refine(Bu g q 24 _ hRr.o aG aG aG).mono ?_;rintro e w8 ⟨z,rfl,hz1,_,hR8,hg8⟩;have HR8:=Aa hR8;have Hg8:=Aa (Ae Hg1.o (Ae hgr.o hg8));have hg8l:=hR8.lt;clear hR8 hg8 hz1;by_cases hz0:z=0
     ·subst hz0;go_wp2_with fail;refine(Bu g (q+1) _ _ HR8.o aG aG aG).mono ?_;rintro e w9 ⟨k,rfl,hk1,_,hR9,hg9⟩;have hk1:=hk1 aG;have hk:k<t.length:=aG;have i5:(0:Int)<=(k:Int):=aG;have i6:(k:Int)<(t.length:Int):=aG;obtain⟨q9,hq9,HR9⟩:∃q9,q9<=q+2/\Hid (Ez w9 g q9):=⟨_,by omega,Aa hR9⟩
      have Hg9:=Aa (Ae Hg8.o hg9);clear hR9 hg9 HR8 Hg8;have hwr:IntKind.i64.wrap ((k:Int)+1)=(k:Int)+1:=IntWalk.i64_in _ aG;go_wp2_with fail;refine Qr [47,48,49,50,51,52,53,54,55,56,57,58,59,60,6]
       (fun ix v W=>match ix with|0=>v=(t:List UInt8)|1=>v=(k:Int)|2=>v=(t.take k:List UInt8)|3=>∃b,v=.slice (some ⟨b,0,none⟩) 5 5|4=>v=g|5=>∃y:Nat,v=(y:Int)/\y<5|6=>∃b y,v=.pointer (some ⟨b,y,none⟩)|7=>∃i,i∈Ym/\v=.string ⟨i.toArray⟩|8=>∃i,i∈Ym/\v=.string ⟨(t.take k++i).toArray⟩|9=>v=(t:List UInt8)|10=>v=(k:Int)|11=>v=.int .i64 ((k:Int)+1)|12=>v=.string ⟨(t.drop (k+1):List UInt8).toArray⟩|13=>∃i,i∈Ym/\v=.string ⟨(t.take k++(i++t.drop (k+1))).toArray⟩|14=>∃i,i∈Ym/\v=.string ⟨(t.take k++(i++t.drop (k+1))).toArray⟩|_=>True)
       (fun L U W=>Ez W g (if L 5=true then q9+1 else q9)/\w.grownBy W (some g)/\(L 3=true->∃b,U 3=.slice (some ⟨b,0,none⟩) 5 5/\b≠g/\Jf W b Ym)/\(L 6=true->∃b y,U 6=.pointer (some ⟨b,y,none⟩)/\b≠g/\y<5/\Jf W b Ym)) (⟨by simpa using HR9.o.ddrew,Gh Hg9.o,fun h=>Bool.noConfusion h,fun h=>Bool.noConfusion h⟩) ?_ ?_
      ·repeat (first|exact Av.nil|(refine Av.cons ?_ ?_;rotate_left))
       all_goals
        rintro L U W hL hpre HR Hdep K hK;obtain⟨hR0,hG0,R3,R6⟩:=HR.o;first|(simp[Region.binds]at hpre;done)|simp[Region.binds]at hpre|clear hpre
       iterate 2
        ·exact iA
       ·exact iU
       ·have hgl:=hR0.lt;go_simp;exact hK _ _ _ ⟨_,rfl⟩ Ac ⟨by simpa using hR0.dalloc _,Ae hG0 (World.grownBy_alloc W _ _),fun _=>⟨W.heap.size,rfl,by omega,Jf.new W Ym⟩,fun h=>by obtain⟨b,y,q1,q2,q3,q4⟩:=R6 aR;exact⟨b,y,by simpa using q1,q2,q3,q4.grown (World.grownBy_alloc W _ (some g)) q2⟩⟩ rfl
       ·exact iA
       ·exact iI
       ·exact iJ
       ·obtain⟨l6,_⟩:=hpre;obtain⟨b,y,u6,hb,hy,hT⟩:=R6 l6;obtain⟨s7,hm7,hc7⟩:=hT.cell (show y<Ym.length from hy);go_simp;exact hK _ _ _ ⟨s7,hm7,rfl⟩ Ac ⟨by simpa using hR0,hG0,fun h=>by obtain⟨b,q1,q2,q3⟩:=R3 aR;exact⟨b,by simpa using q1,q2,q3⟩,fun h=>by obtain⟨b,y,q1,q2,q3,q4⟩:=R6 aR;exact⟨b,y,by simpa using q1,q2,q3,q4⟩⟩ fQ
       ·obtain⟨⟨_,u2⟩,_,i,hi,u7⟩:=hpre;have hil:i.length<=1:=(show ∀i∈Ym,i.length<=1 by decide) i hi;go_simp;rw[if_neg aO];go_simp;exact hK _ _ _ ⟨i,hi,rfl⟩ Ac ⟨by simpa using hR0,hG0,fun h=>by obtain⟨b,q1,q2,q3⟩:=R3 aR;exact⟨b,by simpa using q1,q2,q3⟩,fun h=>by obtain⟨b,y,q1,q2,q3,q4⟩:=R6 aR;exact⟨b,y,by simpa using q1,q2,q3,q4⟩⟩ fz
       iterate 3
        ·exact iA
       ·exact iU
       ·obtain⟨⟨_,i,hi,u8⟩,_,u12⟩:=hpre;have hil:i.length<=1:=(show ∀i∈Ym,i.length<=1 by decide) i hi;go_simp;rw[if_neg aO];go_simp;exact hK _ _ _ ⟨i,hi,rfl⟩ Ac ⟨by simpa using hR0,hG0,fun h=>by obtain⟨b,q1,q2,q3⟩:=R3 aR;exact⟨b,by simpa using q1,q2,q3⟩,fun h=>by obtain⟨b,y,q1,q2,q3,q4⟩:=R6 aR;exact⟨b,y,by simpa using q1,q2,q3,q4⟩⟩ fl
       ·exact iL
      rintro L U W hL hφ hR;obtain⟨i,hi,e14⟩:=hφ 14 aJ;simp only[e14];have hR0:Ez W g (q9+1):=iq;have hG0:=hR.2.1;clear hφ hL hR;go_wp2_with fail;go_ret;have hil:i.length<=1:=(show ∀i∈Ym,i.length<=1 by decide) i hi;exact⟨_,q9+1,rfl,by simp;omega,by omega,hR0,hG0⟩
     have tz:((z:Int) == 0)=false:=aO;clear hz0;go_wp2_with fail;go_ret;exact⟨t,q+1,rfl,by omega,by omega,HR8.o,Hg8.o⟩
theorem Qno:DrH DSc DKs:=
 ⟨fun l h=>by have:=h.1;omega,fun l h=>by have:=h.len;omega,fun g p W h hp=>Qal g p W h aG,fun g p s W h hp hs=>Qel g p s W h aG aG,fun g p s k W h hp hs hk=>Qi8 g p s k W h aG aG aG⟩
theorem FnNamesOrder_walk(w:World)(A:Option Addr)(n c:Nat)(l:List UInt8)(h:Bh w A n (Fj l))(hc:n<=c)(hcm:c<=maxLen):
  Calls prog 7 #[.slice A n c] w fun e w'=>e=.returned (.bool true)/\Below w w w':=by
 by_cases hn:n<=1048576
 ·exact Xn w A n c hn (Xk Qno A n c l w h hc hcm) (fun s d x h1 h2 h3 W=>Qm5 s d x W (Qos s d x W aG aG aG))
   (fun s d x h1 h2 h3 W=>Qmx s d x W ((Qgl s d x W aG aG aG).mono fun e w' h=>h.r)) (fun s d x h1 h2 h3 W=>Qkq s d x W aG aG aG)
 have t1:1048576<n:=aG;clear h;go_enter func7,ntmps7;go_wp2_with fail;exact kU
end
section
open Go.ChangeShapes Go.WideShapes Go.ChangeAt Go.RowKit
open Go.ChangeMaps (open_string shut_string)
theorem Yy{α:Type}(l:List α)(d:α){j:Nat}(h:j<l.length):l.getD j d=l[j]:=by simp[List.getD,h]
theorem own:ownKnob prog.godebug=none:=aM
theorem laidOut:laidOutB prog=true:=aM
section
variable {H:Type} {enc:TypeId × Value->H} {W:World} {base:Nat} {v:Value} {d:DataW H} {ps:List MemPlace}
theorem arg_bytes(hv:Value.okWide prog W .any base 25 v)(h:DataW.Trod enc prog W 0 (fun _=>true) true 25 v d ps)(hlt:∀x∈ps,x.block<W.heap.size):
  ∃A n c,∃l:List UInt8,v=.slice A n c/\Bh W A n (Fj l)/\n<=c/\c<=maxLen:=by
 obtain⟨A,n,c,rfl⟩:=okWide_slice underlying25 hv;obtain⟨fuel,hf⟩:=h;rcases open_ints underlying25 underlying5 aM hf with⟨hcs,_⟩|⟨x,n',c',zs,hcs,_,hl,hm,hz,_,hcell,hwz⟩
 ·simp[Value.cells]at hcs;obtain⟨rfl,rfl,rfl⟩:=hcs;exact⟨none,0,0,[],rfl,⟨rfl,ag _,fun h=>absurd h aG⟩,Ar _,ag _⟩
 simp[Value.cells]at hcs;obtain⟨rfl,rfl,rfl⟩:=hcs;simp at hz;refine⟨some x,n,c,(zs.take n).map fun z=>UInt8.ofNat z.toNat,rfl,⟨by simp[Fj];omega,ad hl hm,fun hn=>?_⟩,hl,hm⟩;have h0:=hcell 0 aG;obtain⟨b,off,spot⟩:=x;have hspot:spot=none:=by simpa [Addr.add]using World.cell?_spot h0
 subst hspot;refine⟨b,off,rfl,?_,fun j u hu=>?_⟩
 ·have:=World.block_lt_of_cell? W _ h0;simpa [Addr.add]using this
 have hj:j<n:=by
  have:=(List.getElem?_eq_some_iff.1 hu).1;simp[Fj]at this;omega
 have h1:=hcell j aG;have e1:(⟨b,off,none⟩:Addr).add j=⟨b,off+j,none⟩:=bi;rw[e1]at h1;rw[h1];have hw:=hwz (zs.getD j 0) (by rw[Yy _ _ aG];exact ae _);have hb2:0<=zs.getD j 0/\zs.getD j 0<=255:=by
  simp[Lit.wf,IntKind.min,IntKind.max,IntKind.signed,IntKind.bits]at hw;simpa using hw
 simp only[Fj,List.getElem?_map,List.getElem?_take]at hu;rw[if_pos hj,List.getElem?_eq_getElem (by omega:j<zs.length)]at hu;simp at hu;rw[<-hu];rw[Yy _ _ (by omega:j<zs.length)]at hb2 ⊢;congr 2
 omega
end
end
end Go.Proofs.YtkigmebejmmikaaGreatDoor
