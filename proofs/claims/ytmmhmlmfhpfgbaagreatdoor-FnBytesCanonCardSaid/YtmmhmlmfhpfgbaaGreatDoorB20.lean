/- Texts joined. Conditions: as each theorem names them. -/
import Derived.Test.YtmmhmlmfhpfgbaaGreatDoorB19
set_option maxRecDepth 100000
set_option maxHeartbeats 32000000
set_option linter.unusedVariables false
set_option linter.unusedSimpArgs false
namespace Go.Proofs.YtmmhmlmfhpfgbaaGreatDoor
open Go.RowKit Go.Proofs.Tryz
section
attribute [local go_sem] Qra Qpu Qo3 Qmi ByteArray.mk_append_mk
theorem Qle(S:List Ty)(k:Kd)(d x:List UInt8)(A:Option Addr)(n c:Nat)(w:World)(hx:x.length<=4000000)
  (HR:x.length<=400->Calls prog 105 #[.agg #[.slice A n c],.string ⟨x.toArray⟩,.string ⟨d.toArray⟩,.int .i64 12] w (Bc S k (Am S 20 12 k x) w)):
  Calls prog 47 #[.slice A n c,.string ⟨d.toArray⟩,.string ⟨x.toArray⟩] w (Qor (if (Jv S k x).isSome=true then some x else none) w):=by
 obtain⟨oq,hoq⟩:∃oq,(if (Jv S k x).isSome=true then some x else none)=oq:=⟨_,rfl⟩
 have HQ:=Aa hoq
 rw[hoq]
 clear hoq
 by_cases h400:400<x.length
 ·have t5:(400:Int)<(x.length:Int):=by omega
  have HV:=Aa (show Jv S k x=none from by unfold Jv;rw[if_pos h400])
  clear h400 HR
  go_enter func47,ntmps47
  go_wp2_with fail
  refine bodyPost_ret (v:=.tuple #[.string ⟨#[]⟩,.bool false]) (by simp[results,results47,go_sem]) rfl ?_
  rw[<-HQ.o,HV.o]
  exact⟨rfl,Aq _ _⟩
 have t5:¬((400:Int)<(x.length:Int)):=by omega
 have HR:=Aa (HR (by omega))
 have HV:=Aa (show Jv S k x=match Am S 20 12 k x with|some (v,[])=>some v|_=>none from by unfold Jv;rw[if_neg h400];rfl)
 generalize Am S 20 12 k x=o at *
 clear h400
 go_enter func47,ntmps47
 go_wp2_with fail
 refine HR.o.mono ?_
 rintro e w5 hp
 obtain⟨vp,vr,vk,rfl,hb5,hm⟩:=hp.q
 have Hb5:=Aa hb5
 clear hb5 hp
 cases o with
 |none=>
  obtain⟨⟨q0,rfl⟩,⟨r0,rfl⟩,rfl⟩:=hm
  go_wp2_with fail
  refine bodyPost_ret (v:=.tuple #[.string ⟨#[]⟩,.bool false]) (by simp[results,results47,go_sem]) rfl ?_
  rw[<-HQ.o,HV.o]
  exact⟨rfl,Hb5.o⟩
 |some y=>
  obtain⟨v,r⟩:=y
  obtain⟨⟨b,rfl,hsv⟩,rfl,rfl⟩:=hm
  clear hsv
  cases r with
  |nil=>
   go_wp2_with fail
   refine bodyPost_ret (v:=.tuple #[.string ⟨x.toArray⟩,.bool true]) (by simp[results,results47,go_sem]) rfl ?_
   rw[<-HQ.o,HV.o]
   exact⟨rfl,Hb5.o⟩
  |cons c z=>
   go_wp2_with fail
   refine bodyPost_ret (v:=.tuple #[.string ⟨#[]⟩,.bool false]) (by simp[results,results47,go_sem]) rfl ?_
   rw[<-HQ.o,HV.o]
   exact⟨rfl,Hb5.o⟩
def M9(o:Option (Fd × List UInt8))(s:List UInt8)(w:World)(e:Ending)(w':World):Prop:=
 ∃(n:Nat) (a b c r:List UInt8),e=.returned (.tuple #[.agg #[(n:Int),a,b,c],r,.bool o.isSome])/\Below w w w'/\r.length<=s.length/\n<=1000000000 /\
  ∀f q,o=some (f,q)->n=f.tag/\a=f.name/\b=Be f.kind/\c=f.given/\r=q
theorem Qm6(fs:List Fd)(s:List UInt8):Gs fs s=if Ef (s.takeWhile Bh) 200 then(match Cx (s.takeWhile Bh)with|some n=>(Ap fs n).map (fun f=>(f,s.dropWhile Bh))|none=>none)else none:=by
 unfold Gs Sl Ef;cases h:Cx (s.takeWhile Bh)with
 |none=>rfl
 |some n=>
  simp only;by_cases hn:n<=200
  ·simp only[hn,if_true,decide_true];cases Ap fs n<;>rfl
  simp[hn]
theorem Zl(xv st nm fv:Value)(hxv:xv.oneCell'=true)(hst:st.oneCell'=true)(hnm:nm.oneCell'=true)(fs:List Fd)(s:List UInt8)(w:World)(h:D8 w fv fs)(htg:∀f∈fs,f.tag<=200)(hs:s.length<=4000000):
  Calls prog 207 #[.agg #[xv],s,.agg #[st,nm,fv]] w (M9 (Gs fs s) s w):=by
 obtain⟨A9,c9,rfl,hl9,hr9⟩:=h;have Hfs:=@Aa (D8 w (.slice A9 fs.length c9) fs) ⟨A9,c9,rfl,hl9,hr9⟩;have HQ:=Aa (Qm6 fs s);obtain⟨e1,e2,hle⟩:=Tl Bh s;have Hd:=Aa (fun W=>Xk s W hs);have Hn:=Aa (fun W=>Dv (s.takeWhile Bh) 200 W aI aL);have E1:=Aa e1;have E2:=Aa e2;have k1:((s.takeWhile Bh).length:Int)<=(s.length:Int):=aI;have Hdl:=Aa (show (s.dropWhile Bh).length<=s.length by rw[<-e2];simp);generalize (s.takeWhile Bh).length=n at *;generalize s.takeWhile Bh=tw at *;generalize s.dropWhile Bh=dw at *;have k2:(0:Int)<=(n:Int):=aI;have k3:((n:Int)).toNat=n:=aI;have hn8:n<=4000000:=aI;have Htg:=Aa htg;clear e1 e2 hr9 htg;go_enter func207,ntmps207;go_wp2_with fail;refine(Hd.o _).mono ?_;rintro e w1 ⟨rfl,rfl⟩;go_wp2_with fail;rw[E1.o];refine(Hn.o _).mono ?_;rintro e w2 ⟨m,hm,rfl,hdm,hb2⟩;have Hdm:=Aa hdm;have Hb2:=Aa ((((Aq w.heap.size w).alloc (Al _) (.cells #[xv] 79)).alloc aK (.cells #[st,nm,.slice A9 fs.length c9] 143)).alloc aO (.cells #[.int .i64 0,a6,a6,a6] 157) |>.trans (hb2.mono aO));obtain⟨hc2,hfz2,hzz2⟩:=Ci hb2;have hz2:=hb2.size;simp only[World.size_alloc]at hz2;have Hf2:=Aa (fun W (hW:Below w w W)=>Pm st nm (.slice A9 fs.length c9) fs m W (Hfs.o.below hW) aI);generalize hok0:Ef tw 200=ok at *;have Hok:=Aa hok0;clear hok0;clear hdm hb2;go_wp2_with fail;refine(Hf2.o _ Hb2.o).mono ?_;rintro e w3 ⟨rfl,hb3⟩;have Hb3:=Aa (Hb2.o.trans (hb3.mono Hb2.o.size));obtain⟨hc3,hfz3,hzz3⟩:=Ci hb3;have hz3:=hb3.size;have hcc:∀b o,b<w.heap.size+3->w3.cell? ⟨b,o,none⟩=w2.cell? ⟨b,o,none⟩:=fun b o h=>hc3 b o aI;clear hb3 Hf2 hzz2 hzz3;obtain⟨n0,a,b,c,is,hsf,hn0,his,hfd⟩:∃(n0:Nat) (a b c:List UInt8) (is:Bool),sfR (Ap fs m)=.tuple #[.agg #[(n0:Int),a,.string ⟨b.toArray⟩,c],.bool is]/\n0<=1000000000/\(Ap fs m).isSome=is/\∀f,Ap fs m=some f->n0=f.tag/\a=f.name/\b=Be f.kind/\c=f.given:=by
  cases hf:Ap fs m with
  |none=>exact⟨0,[],[],[],false,rfl,by omega,rfl,fun f h=>by cases h⟩
  |some f=>exact⟨f.tag,f.name,Be f.kind,f.given,true,rfl,by have:=Htg.o f (List.mem_of_find?_eq_some hf);omega,rfl,fun g h=>by injection h with h;subst h;exact⟨rfl,rfl,rfl,rfl⟩⟩
 rw[hsf];have Hfd:=Aa (And.intro his hfd);clear hsf his hfd;go_wp2_with fail;have F0:w3.cell? (w.heap.size+1+1,0)=some (.int .i64 0):=fN;have F1:w3.cell? (w.heap.size+1+1,1)=a6:=fN;have F2:w3.cell? (w.heap.size+1+1,2)=a6:=fN;have F3:w3.cell? (w.heap.size+1+1,3)=a6:=fN;have Z0:w3.frozen? (w.heap.size+1+1,0)=false:=fI;have Z1:w3.frozen? (w.heap.size+1+1,1)=false:=fI;have Z2:w3.frozen? (w.heap.size+1+1,2)=false:=fI;have Z3:w3.frozen? (w.heap.size+1+1,3)=false:=fI;have hb6:w.heap.size+1+1<w3.heap.size:=aI;clear hc2 hfz2 hc3 hfz3 hcc;cases ok with
 |true=>
  refine Xa [29,30,31,32,33,34,35,36,999,7,8]
   (fun ix v W=>match ix with|0=>v=.agg #[(n0:Int),a,.string ⟨b.toArray⟩,c]|1=>v=(s:List UInt8)|2=>v=(n:Int)|3=>v=(dw:List UInt8)|4=>v=.bool true|5=>v=.bool true|6=>v=.bool is|7=>v=.bool is|9=>v=(dw:List UInt8)|10=>v=.bool is|_=>True)
   (fun L U W=>(L 8=false->W=(w3.alloc (.cells #[(n0:Int),a,.string ⟨b.toArray⟩,c] 157)).drew)/\(L 8=true->Below w w W/\W.cell? (w.heap.size+1+1,0)=(n0:Int)/\W.cell? (w.heap.size+1+1,1)=a/\W.cell? (w.heap.size+1+1,2)=some (.string ⟨b.toArray⟩)/\W.cell? (w.heap.size+1+1,3)=c)) (⟨fun _=>rfl,fun h=>Bool.noConfusion h⟩) ?_ ?_
  ·exact fU
  rintro L U W hL hφ hR;have e9:U 9=(dw:List UInt8):=hφ 9 aL;have e10:U 10=.bool is:=hφ 10 aL;clear hφ;obtain⟨Hbw,c0,c1,c2,c3⟩:=hR.2 (hL 8 aL);have HBW:=Aa Hbw;clear hL hR Hbw;simp only[e9,e10];go_wp2_with fail;refine aG (v:=.tuple #[.agg #[(n0:Int),a,.string ⟨b.toArray⟩,c],dw,.bool is]) (by simp[results,results207,go_sem,c0,c1,c2,c3]) rfl ?_;obtain⟨his,hfd⟩:=Hfd.o;have HQ:=HQ.o;have hok:=Hok.o;cases hdm:Cx tw with
  |none=>rw[Nk hdm]at hok;cases hok
  |some m'=>
   rw[hdm]at HQ;simp only[if_true]at HQ;have hm':=Hdm.o m' hdm;subst hm';rw[HQ];refine⟨n0,a,b,c,dw,by rw[Option.isSome_map,his],HBW.o,Hdl.o,hn0,fun f q h=>?_⟩;cases hf:Ap fs m' with
   |none=>rw[hf]at h;cases h
   |some g=>
    rw[hf]at h;injection h with h;injection h with h1 h2;subst h1 h2;obtain⟨q1,q2,q3,q4⟩:=hfd g hf;exact⟨q1,q2,q3,q4,rfl⟩
 |false=>
  refine Xa [29,30,31,32,33,34,35,36,999,7,8]
   (fun ix v W=>match ix with|0=>v=.agg #[(n0:Int),a,.string ⟨b.toArray⟩,c]|1=>v=(s:List UInt8)|2=>v=(n:Int)|3=>v=(dw:List UInt8)|4=>v=.bool false|5=>v=.bool false|7=>v=.bool false|9=>v=(dw:List UInt8)|10=>v=.bool false|_=>True)
   (fun L U W=>(L 8=false->W=(w3.alloc (.cells #[(n0:Int),a,.string ⟨b.toArray⟩,c] 157)).drew)/\(L 8=true->Below w w W/\W.cell? (w.heap.size+1+1,0)=(n0:Int)/\W.cell? (w.heap.size+1+1,1)=a/\W.cell? (w.heap.size+1+1,2)=some (.string ⟨b.toArray⟩)/\W.cell? (w.heap.size+1+1,3)=c)) (⟨fun _=>rfl,fun h=>Bool.noConfusion h⟩) ?_ ?_
  ·exact fU
  rintro L U W hL hφ hR;have e9:U 9=(dw:List UInt8):=hφ 9 aL;have e10:U 10=.bool false:=hφ 10 aL;clear hφ;obtain⟨Hbw,c0,c1,c2,c3⟩:=hR.2 (hL 8 aL);have HBW:=Aa Hbw;clear hL hR Hbw;simp only[e9,e10];go_wp2_with fail;refine aG (v:=.tuple #[.agg #[(n0:Int),a,.string ⟨b.toArray⟩,c],dw,.bool false]) (by simp[results,results207,go_sem,c0,c1,c2,c3]) rfl ?_;obtain⟨his,hfd⟩:=Hfd.o;have HQ:=HQ.o;have hok:=Hok.o;simp only[an,if_false]at HQ;rw[HQ];exact⟨n0,a,b,c,dw,rfl,HBW.o,Hdl.o,hn0,fun f q h=>by cases h⟩
def enL(o:Option (Fd × List UInt8)):Option (Vl × List UInt8):=match o with|some (f,q)=>some (.mk 69 [] f.tag [],q)|none=>none
def unL(R:Kd->List UInt8->Option (Vl × List UInt8))(o:Option (Fd × List UInt8)):Option (Vl × List UInt8):=match o with
 |none=>none
 |some (f,r)=>match As 61 r with
  |none=>none
  |some q=>match R f.kind q with
   |none=>none
   |some (v,q)=>match As 62 q with|some z'=>some (.mk 85 [] f.tag [v],z')|none=>none
def StF(o:Option (Fd × List UInt8))(s:List UInt8)(n:Nat)(a b c r:List UInt8):Prop:=
 r.length<=s.length/\n<=1000000000/\∀f q,o=some (f,q)->n=f.tag/\a=f.name/\b=Be f.kind/\c=f.given/\r=q
theorem M9.q{o:Option (Fd × List UInt8)}{s:List UInt8}{w w':World}{e:Ending}(h:M9 o s w e w'):∃(n:Nat) (a b c r:List UInt8),e=.returned (.tuple #[.agg #[(n:Int),a,b,c],r,.bool o.isSome])/\StF o s n a b c r/\Below w w w':=by
 obtain⟨n,a,b,c,r,h1,h2,h3,h4,h5⟩:=h;exact⟨n,a,b,c,r,h1,⟨h3,h4,h5⟩,h2⟩
structure Jd(w1:World)(o:Option (Fd × List UInt8))(s:List UInt8)(l m x y z al st p q:Bool)(ul um ux uy uz ual up uq:Value)(W:World):Prop where
 be:Below w1 w1 W
 yes:l=true->∃(n:Nat) (a b c r:List UInt8),StF o s n a b c r/\ul=.tuple #[.agg #[(n:Int),a,b,c],r,.bool o.isSome] /\
  (m=true->um=.tuple #[.agg #[(n:Int),a,b,c],r,.bool o.isSome]) /\
  (x=true->ux=.agg #[(n:Int),a,b,c])/\(y=true->uy=r)/\(z=true->uz=.bool o.isSome)/\(p=true->up=r)/\(q=true->uq=.bool o.isSome)
 al:al=true->∃B,ual=.pointer (some ⟨B,0,none⟩)/\w1.heap.size<=B/\B<W.heap.size/\W.there B 0 4/\(st=true->∃cs:List Value,ux=.agg cs.toArray/\W.rangeAt B 0 cs)
section
variable {w1 W W':World} {o:Option (Fd × List UInt8)} {s:List UInt8} {l m x y z al st p q:Bool} {ul um ux uy uz ual up uq:Value} {n:Nat} {a b c r:List UInt8} {B:Nat}
theorem Jd.start:Jd w1 o s false m x y z false st p q ul um ux uy uz ual up uq w1:=⟨Aq _ _,fun h=>Bool.noConfusion h,fun h=>Bool.noConfusion h⟩
theorem Jd.call(h:Jd w1 o s l m x y z al st p q ul um ux uy uz ual up uq W)(hm:m=false)(hx:x=false)(hy:y=false)(hz:z=false)(hst:st=false)(hp:p=false)(hq:q=false)(hF:StF o s n a b c r)(hb:Below W W W'):
  Jd w1 o s true m x y z al st p q (.tuple #[.agg #[(n:Int),a,b,c],r,.bool o.isSome]) um ux uy uz ual up uq W':=by
 subst hm hx hy hz hst hp hq;refine⟨h.be.trans (hb.mono h.be.size),fun _=>⟨n,a,b,c,r,hF,rfl,fun h=>Bool.noConfusion h,fun h=>Bool.noConfusion h,fun h=>Bool.noConfusion h,fun h=>Bool.noConfusion h,fun h=>Bool.noConfusion h,fun h=>Bool.noConfusion h⟩,fun ha=>?_⟩;obtain⟨B,h1,h2,h3,h4,_⟩:=h.al ha;exact⟨B,h1,h2,ac h3 hb.size,An h4 h3 hb,fun h=>Bool.noConfusion h⟩
theorem Jd.move(h:Jd w1 o s l m x y z al st p q ul um ux uy uz ual up uq W)(hl:l=true):Jd w1 o s l true x y z al st p q ul ul ux uy uz ual up uq W:=
 ⟨h.be,fun hl=>by obtain⟨n,a,b,c,r,h1,h2,_,h4⟩:=h.yes hl;exact⟨n,a,b,c,r,h1,h2,fun _=>h2,h4⟩,h.al⟩
theorem Jd.get(h:Jd w1 o s l m x y z al st p q ul um ux uy uz ual up uq W)(hl:l=true)(hm:m=true)(hst:x=false->st=false):∃(n:Nat) (a b c r:List UInt8),um=.tuple #[.agg #[(n:Int),a,b,c],r,.bool o.isSome] /\
  (x=false->Jd w1 o s l m true y z al st p q ul um (.agg #[(n:Int),a,b,c]) uy uz ual up uq W)/\Jd w1 o s l m x true z al st p q ul um ux r uz ual up uq W/\Jd w1 o s l m x y true al st p q ul um ux uy (.bool o.isSome) ual up uq W:=by
 obtain⟨n,a,b,c,r,h1,h2,h3,h4,h5,h6,h7⟩:=h.yes hl;refine⟨n,a,b,c,r,h3 hm,fun hx=>⟨h.be,fun _=>⟨n,a,b,c,r,h1,h2,h3,fun _=>rfl,h5,h6,h7⟩,fun ha=>?_⟩,⟨h.be,fun _=>⟨n,a,b,c,r,h1,h2,h3,h4,fun _=>rfl,h6,h7⟩,h.al⟩,⟨h.be,fun _=>⟨n,a,b,c,r,h1,h2,h3,h4,h5,fun _=>rfl,h7⟩,h.al⟩⟩;obtain⟨B,g1,g2,g3,g4,_⟩:=h.al ha;exact⟨B,g1,g2,g3,g4,fun hs=>absurd ((hst hx).symm.trans hs) aL⟩
theorem Jd.as1(h:Jd w1 o s l m x y z al st p q ul um ux uy uz ual up uq W)(hy:y=true):Jd w1 o s l m x y z al st true q ul um ux uy uz ual uy uq W:=
 ⟨h.be,fun hl=>by obtain⟨n,a,b,c,r,h1,h2,h3,h4,h5,h6,_,h7⟩:=h.yes hl;exact⟨n,a,b,c,r,h1,h2,h3,h4,h5,h6,fun _=>h5 hy,h7⟩,h.al⟩
theorem Jd.as2(h:Jd w1 o s l m x y z al st p q ul um ux uy uz ual up uq W)(hz:z=true):Jd w1 o s l m x y z al st p true ul um ux uy uz ual up uz W:=
 ⟨h.be,fun hl=>by obtain⟨n,a,b,c,r,h1,h2,h3,h4,h5,h6,h7,_⟩:=h.yes hl;exact⟨n,a,b,c,r,h1,h2,h3,h4,h5,h6,h7,fun _=>h6 hz⟩,h.al⟩
theorem Jd.alloc(h:Jd w1 o s l m x y z al st p q ul um ux uy uz ual up uq W)(hst:st=false)(T:TypeId):Jd w1 o s l m x y z true st p q ul um ux uy uz W.heap.size up uq (W.alloc (.cells #[.int .i64 0,a6,a6,a6] T)):=
 ⟨h.be.alloc h.be.size _,h.yes,fun _=>⟨_,rfl,h.be.size,by simp,Cu W [.int .i64 0,a6,a6,a6] T,fun h=>absurd (hst.symm.trans h) aL⟩⟩
theorem Jd.store(h:Jd w1 o s l m x y z al st p q ul um ux uy uz ual up uq W)(ha:al=true)(ex:ux=.agg #[(n:Int),a,b,c])(el:ual=B):
  W.there B 0 4/\Jd w1 o s l m x y z al true p q ul um ux uy uz ual up uq (W.setCells B 0 [(n:Int),a,b,c]):=by
 obtain⟨B',g1,g2,g3,g4,_⟩:=h.al ha;rw[el]at g1;injection g1 with g1;injection g1 with g1;injection g1 with g1;subst g1;exact⟨g4,Ak _ g2 _ _ _ h.be,h.yes,fun _=>⟨B,el,g2,by rw[Ch];exact g3,ai g4 _ _ _,fun _=>⟨_,ex,aa _ _ _ _ g4⟩⟩⟩
theorem Jd.fin(h:Jd w1 o s l m x y z al st p q ul um ux uy uz ual up uq W)(hl:l=true)(hx:x=true)(ha:al=true)(hs:st=true)(hp:p=true)(hq:q=true):
  ∃(n:Nat) (a b c r:List UInt8) (B:Nat),StF o s n a b c r/\ual=.pointer (some ⟨B,0,none⟩)/\up=.string ⟨r.toArray⟩/\uq=.bool o.isSome/\w1.heap.size<=B/\B<W.heap.size/\W.rangeAt B 0 [.int .i64 (n:Int),.string ⟨a.toArray⟩,.string ⟨b.toArray⟩,.string ⟨c.toArray⟩]/\Below w1.heap.size w1 W:=by
 obtain⟨n,a,b,c,r,h1,h2,h3,h4,h5,h6,h7,h8⟩:=h.yes hl;obtain⟨B,g1,g2,g3,g4,g5⟩:=h.al ha;obtain⟨cs,e1,e2⟩:=g5 hs;have e3:=h4 hx;rw[e1]at e3;injection e3 with e3;have e4:cs=[.int .i64 (n:Int),.string ⟨a.toArray⟩,.string ⟨b.toArray⟩,.string ⟨c.toArray⟩]:=by simpa using e3
 exact⟨n,a,b,c,r,B,h1,g1,h7 hp,h8 hq,g2,g3,e4 ▸ e2,h.be⟩
end
theorem Sb{w:World}{b o:Nat}{v:Value}{B:Obj}(hb:b<w.heap.size)(h:w.cell? ⟨b,o,none⟩=some v):(w.alloc B).cell? ⟨b,o,none⟩=some v:=
 ((Aq w.heap.size w).alloc (Al _) B |>.cell (p:=⟨b,o,none⟩) hb).trans h
theorem Qqd(w0:World)(xs:List (Ty × Value))(xv:Value)(hxv:xv.oneCell'=true)(hsc:Gj w0 xv xs)(k:Kd)(hk:Cw k)(hsg:k.signs=[])(hbs:k.base=[64])(nm:List UInt8)(fs:List Fd)(tv:Value)(hx:D9 xs k.name=some (⟨69,nm,fs⟩,tv))(hfs:D8 w0 tv fs)(htg:∀f∈fs,f.tag<=200)
  (d:Nat) (hd:d<=1000) (z:List UInt8) (w:World) (hw:Below w0 w0 w) (hz:z.length<=1000000) (o:Option (Fd × List UInt8)) (ho:o=Gs fs z):
  Calls prog 160 #[.agg #[xv],(35::z:List UInt8),.string ⟨(Be k).toArray⟩,.int .i64 ((d+1:Nat):Int)] w (Bc (Af xs) k (enL o) w):=by
 have hkd:∀g,Bt (Af xs) k (.mk 69 [] g [])=.mk (Be k) [69] [g] []:=Qa (Af xs) k;generalize (((d+1:Nat):Int))=dd at *;obtain⟨A9,c9,rfl,hl9,_⟩:=hfs;have HFs:=@Aa (∀W,Below w0 w0 W->D8 W (.slice A9 fs.length c9) fs) (fun W hW=>D8.below (show D8 w0 (.slice A9 fs.length c9) fs from⟨A9,c9,rfl,hl9,by assumption⟩) hW)
 have Hr:=Aa (show ∀W,Below w0 w0 W->Calls prog 101 #[xv,.string ⟨(Be k).toArray⟩] W fun e w'=>e=.returned (.tuple #[.agg #[.int .u8 69,nm,.slice A9 fs.length c9],.bool true])/\Below W W w' from fun W hW=>by
  have h:=Fb xv xs k W (hsc.below hW) hk;rw[show Jn xs k=some (⟨69,nm,fs⟩,.slice A9 fs.length c9)from by unfold Jn;rw[if_pos ⟨hsg,hbs⟩];exact hx]at h;exact h)
 have HT:=@Aa (∀W,Below w0 w0 W->Calls prog 207 #[.agg #[xv],z,.agg #[.int .u8 69,nm,.slice A9 fs.length c9]] W (M9 (Gs fs z) z W)) (fun W hW=>Zl xv (.int .u8 69) nm _ hxv rfl rfl fs z W (HFs.o W hW) htg aI);have hkl:(Be k).length<=100:=bR;have hzl:z.length<=1000000:=hz;have Ho:=Aa ho;rw[<-ho]at HT;have Hw:=Aa hw;have Hkd:=Aa hkd;generalize Be k=kb at *;clear hw hx hsc htg ho;go_enter func160,ntmps160;go_wp2_with fail;refine(Hr.o _ (Hw.o.alloc Hw.o.size _)).mono ?_;rintro e w1 ⟨rfl,hb1⟩;have hz1:=hb1.size;simp only[World.size_alloc]at hz1;have Hb1:=Aa (((Aq w.heap.size w).alloc (Al _) _).trans (hb1.mono aK));have X0:=@Aa (w1.cell? (w,0)=some xv) dH;clear hb1;go_upto_region 5 with fail
 obtain⟨w2,hw2⟩:∃w2,w2=w1.alloc (.cells #[.int .u8 69,nm,.slice A9 fs.length c9] 143):=⟨_,rfl⟩
 have Hb2:=@Aa (Below w w w2) dB;have Hl0:=@Aa (w.heap.size<w2.drew.heap.size) fa;have Hl1:=@Aa (w1.heap.size<w2.drew.heap.size) (by rw[hw2];simp);have X0:=@Aa (w2.drew.cell? (w,0)=some xv) dK;have X1:=@Aa (w2.drew.cell? (w1,0)=some (.int .u8 69)) cC;have X2:=@Aa (w2.drew.cell? (w1,1)=nm) cC;have X3:=@Aa (w2.drew.cell? (w1,2)=some (.slice A9 fs.length c9)) cC;have HC:=@Aa (∀W,Below w2.drew.heap.size w2.drew W->Calls prog 207 #[.agg #[xv],z,.agg #[.int .u8 69,nm,.slice A9 fs.length c9]] W (M9 o z W)) (fun W hW=>HT.o W ((Hw.o.trans (Hb2.o.mono Hw.o.size)).trans ((Aq _ _).drew.trans (hW.mono aK) |>.mono (ad Hw.o.size Hb2.o.size))));rw[<-hw2];clear hw2;refine Xa [58,59,60,61,62,57,63,64,65,13,999,14,15]
  (fun ix v W=>match ix with|0=>v=.agg #[xv]|1=>v=(35::z:List UInt8)|2=>v=(z:List UInt8)|3=>v=.agg #[.int .u8 69,nm,.slice A9 fs.length c9]|_=>True)
  (fun L U W=>Jd w2.drew o z (L 4) (L 5) (L 6) (L 7) (L 8) (L 9) (L 10) (L 11) (L 12) (U 4) (U 5) (U 6) (U 7) (U 8) (U 9) (U 11) (U 12) W) (Jd.start) ?_ ?_
 ·exact fQ
 rintro L U W hL hφ hR;clear hφ;obtain⟨n,a,b,c,r,B,hF,u9,u11,u12,hB1,hB2,hrg,hbe⟩:=hR.fin (hL 4 aL) (hL 6 aL) (hL 9 aL) (hL 10 aL) (hL 11 aL) (hL 12 aL);simp only[u9,u11,u12];clear hR hL u9 u11 u12;have y0:W.cell? (B,0)=(n:Int):=by simpa using Ab hrg 0 rfl
 have HF:=Aa hF;have HB:=@Aa (Below w w W) (Hb2.o.trans (((Aq _ _).drew.trans (hbe.mono aK)).mono Hb2.o.size));clear hbe hrg hF;go_wp2_with fail;refine aG (v:=.tuple #[.pointer (some ⟨W.heap.size+1,0,none⟩),r,.bool o.isSome]) (by simp[results,results160,go_sem]) rfl ?_;have hbf:=(HB.o.alloc HB.o.size (.cells #[(n:Int)] 3)).alloc (by simp;have:=HB.o.size;omega) (.cells #[kb,.string ⟨#[69]⟩,.slice (some ⟨W.heap.size,0,none⟩) 1 1,.slice none 0 0] 148);cases o with
 |none=>exact Bc.no rfl rfl hbf
 |some y=>
  obtain⟨f,q⟩:=y;obtain⟨rfl,_,_,_,rfl⟩:=HF.o.2.2 f q rfl;refine⟨⟨W.heap.size+1,rfl,?_⟩,hbf⟩;have hsz:=HB.o.size;rw[Hkd.o];refine .mk kb [69] [f.tag] (some ⟨W.heap.size,0,none⟩) none 1 0 [] rfl aK (by show w.heap.size<=W.heap.size+1;omega) (by go_simp) (by go_simp) (by go_simp) (by go_simp) ⟨rfl,by simp[maxLen],fun _=>⟨W.heap.size,0,rfl,by simp;omega,fun j u hu=>?_⟩⟩ ⟨rfl,ag _,fun h=>absurd h aK⟩ aK aK (fun g o _ e=>?_) (fun _ _ h=>absurd h aK) (fun x hx=>?_)
  ·match j,hu with
   |0,hu=>
    simp[Dm]at hu;subst hu;go_simp
   |j+1,hu=>simp[Dm]at hu
  ·injection e with e;injection e with e;subst e;exact hsz
  simp at hx
theorem Qqe(w0:World)(xs:List (Ty × Value))(xv:Value)(hxv:xv.oneCell'=true)(hsc:Gj w0 xv xs)(k:Kd)(hk:Cw k)(hsg:k.signs=[])(hbs:k.base=[64])(nm:List UInt8)(fs:List Fd)(tv:Value)(hx:D9 xs k.name=some (⟨85,nm,fs⟩,tv))(hfs:D8 w0 tv fs)(htg:∀f∈fs,f.tag<=200)
  (d:Nat) (hd:d<=1000) (z:List UInt8) (w:World) (hw:Below w0 w0 w) (hz:z.length<=1000000) (o:Option (Fd × List UInt8)) (ho:o=Gs fs z) (H:∀k',Cw k'->SrC w0 (Af xs) xv k' d) (hfd:∀f∈fs,Cw f.kind) (htf:B9 (Af xs) k.name=some ⟨85,nm,fs⟩)
  (R:Kd->List UInt8->Option (Vl × List UInt8)) (hR0:R=Am (Af xs) 20 d):
  Calls prog 160 #[.agg #[xv],(60::z:List UInt8),.string ⟨(Be k).toArray⟩,.int .i64 ((d+1:Nat):Int)] w (Bc (Af xs) k (unL R o) w):=by
 have hkd:∀f v,Ap fs f.tag=some f->Bt (Af xs) k (.mk 85 [] f.tag [v])=.mk (Be k) [85] [f.tag] [Bt (Af xs) f.kind v]:=fun f v hf=>by rw[Nr,E5 htf hf]
 have HRd:=@Aa (∀k',Cw k'->∀(s:List UInt8) (W:World),Below w0 w0 W->s.length<=1000000->Calls prog 105 #[.agg #[xv],s,.string ⟨(Be k').toArray⟩,(d:Int)] W (Bc (Af xs) k' (R k' s) W)) (fun k' hk' s W hW hs=>by rw[hR0];exact H k' hk' s W hW hs)
 have HFd:=Aa (show ∀f r,o=some (f,r)->Cw f.kind/\(Be f.kind).length<=100/\Ap fs f.tag=some f from fun f r h=>by
  obtain⟨_,h2,_⟩:=Kc (ho ▸ h);have:=hfd f (Rr h2).1;exact⟨this,by have:=this.2.2;omega,h2⟩)
 clear H hR0 hfd htf;have d1:(((d+1:Nat):Int)) - 1=(d:Int):=aI;have d4:(0:Int)<=(d:Int):=aI;have d5:(d:Int)<=1000:=aI;have hwd:IntKind.i64.wrap (d:Int)=(d:Int):=IntWalk.i64_in _ aI;generalize (((d+1:Nat):Int))=dd at *;obtain⟨A9,c9,rfl,hl9,_⟩:=hfs;have HFs:=@Aa (∀W,Below w0 w0 W->D8 W (.slice A9 fs.length c9) fs) (fun W hW=>D8.below (show D8 w0 (.slice A9 fs.length c9) fs from⟨A9,c9,rfl,hl9,by assumption⟩) hW)
 have Hr:=Aa (show ∀W,Below w0 w0 W->Calls prog 101 #[xv,.string ⟨(Be k).toArray⟩] W fun e w'=>e=.returned (.tuple #[.agg #[.int .u8 85,nm,.slice A9 fs.length c9],.bool true])/\Below W W w' from fun W hW=>by
  have h:=Fb xv xs k W (hsc.below hW) hk;rw[show Jn xs k=some (⟨85,nm,fs⟩,.slice A9 fs.length c9)from by unfold Jn;rw[if_pos ⟨hsg,hbs⟩];exact hx]at h;exact h)
 have HT:=@Aa (∀W,Below w0 w0 W->Calls prog 207 #[.agg #[xv],z,.agg #[.int .u8 85,nm,.slice A9 fs.length c9]] W (M9 (Gs fs z) z W)) (fun W hW=>Zl xv (.int .u8 85) nm _ hxv rfl rfl fs z W (HFs.o W hW) htg aI);have hkl:(Be k).length<=100:=bR;have hzl:z.length<=1000000:=hz;have Ho:=Aa ho;rw[<-ho]at HT;have Hw:=Aa hw;have Hkd:=Aa hkd;generalize Be k=kb at *;clear hw hx hsc htg ho;go_enter func160,ntmps160;go_wp2_with fail;refine(Hr.o _ (Hw.o.alloc Hw.o.size _)).mono ?_;rintro e w1 ⟨rfl,hb1⟩;have hz1:=hb1.size;simp only[World.size_alloc]at hz1;have Hb1:=Aa (((Aq w.heap.size w).alloc (Al _) _).trans (hb1.mono aK));have X0:=@Aa (w1.cell? (w,0)=some xv) dH;clear hb1;go_upto_region 8 with fail
 obtain⟨w2,hw2⟩:∃w2,w2=w1.alloc (.cells #[.int .u8 85,nm,.slice A9 fs.length c9] 143):=⟨_,rfl⟩
 have Hb2:=@Aa (Below w w w2) dB;have Hl0:=@Aa (w.heap.size<w2.drew.heap.size) fa;have Hl1:=@Aa (w1.heap.size<w2.drew.heap.size) (by rw[hw2];simp);have X0:=@Aa (w2.drew.cell? (w,0)=some xv) dK;have X1:=@Aa (w2.drew.cell? (w1,0)=some (.int .u8 85)) cC;have X2:=@Aa (w2.drew.cell? (w1,1)=nm) cC;have X3:=@Aa (w2.drew.cell? (w1,2)=some (.slice A9 fs.length c9)) cC;have HC:=@Aa (∀W,Below w2.drew.heap.size w2.drew W->Calls prog 207 #[.agg #[xv],z,.agg #[.int .u8 85,nm,.slice A9 fs.length c9]] W (M9 o z W)) (fun W hW=>HT.o W ((Hw.o.trans (Hb2.o.mono Hw.o.size)).trans ((Aq _ _).drew.trans (hW.mono aK) |>.mono (ad Hw.o.size Hb2.o.size))));rw[<-hw2];clear hw2;refine Xa [84,85,86,87,88,83,89,90,91,16,999,17,18]
  (fun ix v W=>match ix with|0=>v=.agg #[xv]|1=>v=(60::z:List UInt8)|2=>v=(z:List UInt8)|3=>v=.agg #[.int .u8 85,nm,.slice A9 fs.length c9]|_=>True)
  (fun L U W=>Jd w2.drew o z (L 4) (L 5) (L 6) (L 7) (L 8) (L 9) (L 10) (L 11) (L 12) (U 4) (U 5) (U 6) (U 7) (U 8) (U 9) (U 11) (U 12) W) (Jd.start) ?_ ?_
 ·exact fQ
 rintro L U W hL hφ hR;clear hφ;obtain⟨n,a,b,c,r,B,hF,u9,u11,u12,hB1,hB2,hrg,hbe⟩:=hR.fin (hL 4 aL) (hL 6 aL) (hL 9 aL) (hL 10 aL) (hL 11 aL) (hL 12 aL);simp only[u9,u11,u12];clear hR hL u9 u11 u12;have HF:=Aa hF;have HB:=@Aa (Below w w W) (Hb2.o.trans (((Aq _ _).drew.trans (hbe.mono aK)).mono Hb2.o.size));have hl0:w.heap.size<W.heap.size:=by have:=Hl0.o;have:=hbe.size;omega
 have q0:W.cell? (w,0)=some xv:=(hbe.cell (p:=⟨w.heap.size,0,none⟩) Hl0.o).trans X0.o;have hBw:w.heap.size<=B:=by have:=Hl0.o;omega
 clear hbe hF;cases o with
 |none=>
  simp only[Option.isSome_none];clear hrg;go_wp2_with fail;refine aG (v:=.tuple #[.pointer none,(60::z:List UInt8),.bool false]) (by simp[results,results160,go_sem]) rfl ?_;exact Bc.no rfl rfl HB.o
 |some y=>
  obtain⟨f,q⟩:=y;obtain⟨rfl,rfl,rfl,rfl,rfl⟩:=HF.o.2.2 f q rfl;simp only[Option.isSome_some];have hrl:=HF.o.1;obtain⟨hkf,hkfl,hft⟩:=HFd.o f r rfl;have y0:W.cell? (B,0)=(f.tag:Int):=by simpa using Ab hrg 0 rfl
  have y2:W.cell? (B,2)=some (.string ⟨(Be f.kind).toArray⟩):=by simpa using Ab hrg 2 rfl
  have HRd:=Aa (fun(s:List UInt8) (W:World) h1 h2=>HRd.o f.kind hkf s W h1 h2);have Hft:=Aa hft;generalize hkb2:Be f.kind=kf at *;clear hrg hkf hft;cases r with
  |nil=>
   go_wp2_with fail;refine aG (v:=.tuple #[.pointer none,(60::z:List UInt8),.bool false]) (by simp[results,results160,go_sem]) rfl ?_;exact Bc.no rfl rfl HB.o
  |cons c9 q1=>
   by_cases h61:c9=61
   ·subst h61;have HU:=@Aa (unL R (some (f,61::q1))=match R f.kind q1 with|none=>none|some (v,q)=>(match As 62 q with|some z'=>some (.mk 85 [] f.tag [v],z')|none=>none)) (by first|(simp only[unL,Bp];done)|(simp only[unL,Bp];rfl));have t61:((((61:UInt8).toNat:Nat):Int) != 61)=false:=rfl;have HW9:=@Aa (Below w0 w0 W.drew) ((Hw.o.trans (HB.o.mono Hw.o.size)).drew);have hq1:q1.length<=1000000:=by simp at hrl;omega
    have HCR:=Aa (HRd.o q1 W.drew HW9.o hq1);generalize R f.kind q1=oq at *;simp only[List.length_cons]at hrl;go_wp2_with fail;refine rgT (SrQ W.drew (Af xs) f.kind oq) 7 8 (fun W vp vr vk h=>h.1) ?_;iterate 2 refine sq ?_
    refine sqS q1 ?_;iterate 4 refine sq ?_
    refine sqK HCR.o ?_;refine sqM ?_;iterate 3 refine sqP ?_
    iterate 3 refine sqA ?_
    intro l u W5 hl _ hR;obtain⟨vp,vr,vk,hq5,ua,ub,ue⟩:=RK.fin hR hl aL aL;simp only[Nat.reduceAdd]at ua ub ue;simp only[ua,ub,ue];clear hR hl ua ub ue;have HB5:=@Aa (Below w w W5) ((HB.o.drew).trans (hq5.1.mono (by simp;exact HB.o.size)));have y05:W5.cell? (B,0)=(f.tag:Int):=(hq5.1.cell (p:=⟨B,0,none⟩) (by simpa using hB2)).trans y0;have hz5:=hq5.1.size;simp only[World.size_drew]at hz5;obtain⟨_,hm⟩:=hq5;cases oq with
    |none=>
     obtain⟨⟨q0,rfl⟩,⟨r0,rfl⟩,rfl⟩:=hm;have HN:=Aa HU.o;go_wp2_with fail;refine aG (v:=.tuple #[.pointer none,(60::z:List UInt8),.bool false]) (by simp[results,results160,go_sem]) rfl ?_;exact Bc.no HN.o rfl HB5.o
    |some y=>
     obtain⟨v,r1⟩:=y;obtain⟨⟨b5,rfl,hsv⟩,rfl,rfl⟩:=hm;have Hsv:=Aa hsv;clear hsv;cases r1 with
     |nil=>
      have HN:=Aa HU.o;go_wp2_with fail;refine aG (v:=.tuple #[.pointer none,(60::z:List UInt8),.bool false]) (by simp[results,results160,go_sem]) rfl ?_;exact Bc.no HN.o rfl HB5.o
     |cons c8 z8=>
      by_cases h62:c8=62
      ·subst h62;have HY:=@Aa (unL R (some (f,61::q1))=some (.mk 85 [] f.tag [v],z8)) (by rw[HU.o];simp only[Bp]);have t62:((((62:UInt8).toNat:Nat):Int) != 62)=false:=rfl;go_wp2_with fail;have hB5:B<W5.heap.size:=aI;refine rgU kb f.tag b5 ?_;iterate 3 refine sq ?_
       refine Qq4 ?_;refine sq ?_;refine Qqz ?_;refine Qq1 ?_;refine Qrd ?_;refine sq ?_;refine sqS z8 ?_;refine Qqm ?_;iterate 2 refine sq ?_
       intro l u W hl hφ hR;have hR:=RU.to hR;simp only[N6,List.nil_append,aw,am,Nat.reduceAdd]at hφ;obtain⟨B7,u10,hS⟩:=hR.at_ (P:=fun c=>w.heap.size<=c) (hl 10 aL) (fun c hc=>ad HB5.o.size hc) (Hsv.o.mono (fun c hc _=>ad (by simp;exact HB.o.size) hc));have hbe:=hR.be;simp only[u10,hφ];clear hR hl hφ u10;go_wp2_with fail;refine aG (v:=.tuple #[B7,z8,.bool true]) (by simp[results,results160,go_sem]) rfl ?_;rw[HY.o];refine⟨⟨B7,rfl,?_⟩,HB5.o.trans (hbe.mono HB5.o.size)⟩;rw[Hkd.o f v Hft.o];exact hS
      have t62:((c8.toNat:Int) != 62)=true:=by have:=At h62;simpa using this
      have HN:=@Aa (unL R (some (f,61::q1))=none) (by rw[HU.o];simp only[Dp h62]);clear h62;go_wp2_with fail;refine aG (v:=.tuple #[.pointer none,(60::z:List UInt8),.bool false]) (by simp[results,results160,go_sem]) rfl ?_;exact Bc.no HN.o rfl HB5.o
   have t61:((c9.toNat:Int) != 61)=true:=by have:=At h61;simpa using this
   have HN:=@Aa (unL R (some (f,c9::q1))=none) (by simp only[unL,Dp h61]);clear h61;go_wp2_with fail;refine aG (v:=.tuple #[.pointer none,(60::z:List UInt8),.bool false]) (by simp[results,results160,go_sem]) rfl ?_;exact Bc.no HN.o rfl HB.o
theorem Qpy(w0:World)(xs:List (Ty × Value))(xv:Value)(hxv:xv.oneCell'=true)(hsc:Gj w0 xv xs)(k:Kd)(hk:Cw k)(hsg:k.signs=[])(hbs:k.base=[64])(nm:List UInt8)(fs:List Fd)(tv:Value)(hx:D9 xs k.name=some (⟨82,nm,fs⟩,tv))(hfs:D8 w0 tv fs)(htg:∀f∈fs,f.tag<=200)
  (d:Nat) (hd:d<=1000) (z:List UInt8) (w:World) (hw:Below w0 w0 w) (hz:z.length<=1000000) (o:Option (Fd × List UInt8)) (ho:o=Gs fs z) (q:Option (Vl × List UInt8))
  (HC:∀W,Below w0 w0 W->Calls prog 206 #[.agg #[xv],z,.string ⟨(Be k).toArray⟩,.agg #[.int .u8 82,nm,tv],.int .i64 ((d+1:Nat):Int)] W (Bc (Af xs) k q W)):
  Calls prog 160 #[.agg #[xv],(123::z:List UInt8),.string ⟨(Be k).toArray⟩,.int .i64 ((d+1:Nat):Int)] w (Bc (Af xs) k q w):=by
 have hkd:True:=Ae;have d2:(((d+1:Nat):Int))<=1001:=aI;generalize (((d+1:Nat):Int))=dd at *;have HC:=Aa HC;obtain⟨A9,c9,rfl,hl9,_⟩:=hfs;have HFs:=@Aa (∀W,Below w0 w0 W->D8 W (.slice A9 fs.length c9) fs) (fun W hW=>D8.below (show D8 w0 (.slice A9 fs.length c9) fs from⟨A9,c9,rfl,hl9,by assumption⟩) hW)
 have Hr:=Aa (show ∀W,Below w0 w0 W->Calls prog 101 #[xv,.string ⟨(Be k).toArray⟩] W fun e w'=>e=.returned (.tuple #[.agg #[.int .u8 82,nm,.slice A9 fs.length c9],.bool true])/\Below W W w' from fun W hW=>by
  have h:=Fb xv xs k W (hsc.below hW) hk;rw[show Jn xs k=some (⟨82,nm,fs⟩,.slice A9 fs.length c9)from by unfold Jn;rw[if_pos ⟨hsg,hbs⟩];exact hx]at h;exact h)
 have hkl:(Be k).length<=100:=bR;have hzl:z.length<=1000000:=hz;have Hw:=Aa hw;have Hkd:=Aa hkd;generalize Be k=kb at *;clear hw hx hsc htg ho;go_enter func160,ntmps160;go_wp2_with fail;refine(Hr.o _ (Hw.o.alloc Hw.o.size _)).mono ?_;rintro e w1 ⟨rfl,hb1⟩;have hz1:=hb1.size;simp only[World.size_alloc]at hz1;have Hb1:=Aa (((Aq w.heap.size w).alloc (Al _) _).trans (hb1.mono aK));have X0:=@Aa (w1.cell? (w,0)=some xv) dH;clear hb1;go_upto_region 3 with fail
 obtain⟨w2,hw2⟩:∃w2,w2=w1.alloc (.cells #[.int .u8 82,nm,.slice A9 fs.length c9] 143):=⟨_,rfl⟩
 have Hb2:=@Aa (Below w w w2) dB;have Hl0:=@Aa (w.heap.size<w2.drew.heap.size) fa;have Hl1:=@Aa (w1.heap.size<w2.drew.heap.size) (by rw[hw2];simp);have X0:=@Aa (w2.drew.cell? (w,0)=some xv) dK;have X1:=@Aa (w2.drew.cell? (w1,0)=some (.int .u8 82)) cC;have X2:=@Aa (w2.drew.cell? (w1,1)=nm) cC;have X3:=@Aa (w2.drew.cell? (w1,2)=some (.slice A9 fs.length c9)) cC;rw[<-hw2];clear hw2;have HC9:=Aa (HC.o w2.drew (Hw.o.trans (Hb2.o.mono Hw.o.size)).drew);have q0:=X0.o;have q1:=X1.o;have q2:=X2.o;have q3:=X3.o;have l0:=Hl0.o;have l1:=Hl1.o;simp only[aC,World.size_drew]at q0 q1 q2 q3 l0 l1;refine rgT (SrQ w2.drew (Af xs) k q) 6 6 (fun W vp vr vk h=>h.1) ?_;iterate 2 refine sq ?_
 refine sqS z ?_;iterate 3 refine sq ?_
 refine Qqg HC9.o ?_;iterate 3 refine sqP ?_
 iterate 3 refine sqA ?_
 intro l u W hl _ hR;obtain⟨vp,vr,vk,hq5,ua,ub,ue⟩:=RK.fin hR hl aL aL;simp only[Nat.reduceAdd]at ua ub ue;simp only[ua,ub,ue];clear hR hl ua ub ue;go_wp2_with fail;refine aG (v:=.tuple #[vp,vr,vk]) (by simp[results,results160,go_sem]) rfl ?_;exact hq5.post Hb2.o.drew
theorem Qod(S:List Ty)(k:Kd)(w0:World)(xv:Value)(hxv:xv.oneCell'=true)(kb:List UInt8)(hkl:kb.length<=100)(st:Int)(nm:ByteArray)(A:Option Addr)(n c:Nat)(b:Bool)(c0:UInt8)(z:List UInt8)(dd:Int)(w:World)(hw:Below w0 w0 w)(hz:z.length<=1000000)
  (hr:∀W,Below w0 w0 W->Calls prog 101 #[xv,kb] W fun e w'=>e=.returned (.tuple #[.agg #[.int .u8 st,.string nm,.slice A n c],.bool b])/\Below W W w')
  (hc:((st == 82)=true/\((c0.toNat:Int) == 123)=false/\(st == 69)=false/\(st == 85)=false)\/((st == 82)=false/\(st == 69)=true/\((c0.toNat:Int) == 35)=false/\(st == 85)=false)\/((st == 82)=false/\(st == 69)=false/\(st == 85)=true/\((c0.toNat:Int) == 60)=false)\/((st == 82)=false/\(st == 69)=false/\(st == 85)=false)):
  Calls prog 160 #[.agg #[xv],(c0::z:List UInt8),kb,.int .i64 dd] w (Bc S k none w):=by
 have Hr:=Aa hr;have Hw:=Aa hw;clear hr hw;have key:∀w1,Below (w.alloc (.cells #[xv] 79)).heap.size (w.alloc (.cells #[xv] 79)) w1->Below w w (w1.alloc (.cells #[.int .u8 st,.string nm,.slice A n c] 143)):=fun w1 hb=>by
  have h1:=((Aq w.heap.size w).alloc (Al _) (.cells #[xv] 79)).trans (hb.mono aK);exact h1.alloc h1.size _
 have Hkey:=Aa key;clear key;rcases hc with⟨h1,h2,h3,h4⟩|⟨h1,h2,h3,h4⟩|⟨h1,h2,h3,h4⟩|⟨h1,h2,h3⟩;all_goals
  go_enter func160,ntmps160;go_wp2_with fail;refine(Hr.o _ (Hw.o.alloc Hw.o.size _)).mono ?_;rintro e w1 ⟨rfl,hb1⟩;have Hb2:=Aa (Hkey.o w1 hb1);clear hb1;go_wp2_with fail;refine aG (v:=.tuple #[.pointer none,(c0::z:List UInt8),.bool false]) (by simp[results,results160,go_sem]) rfl ?_;exact Bc.no rfl rfl Hb2.o
structure RS(S:List Ty)(K:Kd->List UInt8->Option (Vl × List UInt8))(fs:List Fd)(s:List UInt8)(ps:List (Fd × Vl))(last:Nat)(tt:List UInt8):Prop where
 eq:Eo S K fs 201 0 s=Px ps (Eo S K fs (201 - ps.length) last tt)
 lo:ps.length<=last
 hi:last<=200
 la:last=(ps.map (·.1.tag)).getLastD 0
 fd:∀p∈ps,Ap fs p.1.tag=some p.1
 le:tt.length<=s.length
section
variable {S:List Ty} {K:Kd->List UInt8->Option (Vl × List UInt8)} {fs:List Fd} {s tt r q z z':List UInt8} {ps:List (Fd × Vl)} {last:Nat} {f:Fd} {v:Vl}
theorem RS.init:RS S K fs s [] 0 s:=⟨by cases h:Eo S K fs 201 0 s<;>simp[Px,h],Al _,by omega,rfl,by simp,Al _⟩
theorem RS.one(h:RS S K fs s ps last tt):∃m,201 - ps.length=m+1/\Eo S K fs 201 0 s=Px ps (match Dh K fs tt with
  |none=>none
  |some (p,r)=>if p.1.tag<=last\/Aw p.2=Kr S p.1 then none else match As 44 r with
   |some q=>(match Eo S K fs m p.1.tag q with|some (ps,z)=>some (p::ps,z)|none=>none)
   |none=>match As 125 r with|some q=>some ([p],q)|none=>none):=
 ⟨200 - ps.length,by have:=h.lo;have:=h.hi;omega,by rw[h.eq,show 201 - ps.length=(200 - ps.length)+1 by have:=h.lo;have:=h.hi;omega];rfl⟩
theorem RS.tagN(h:RS S K fs s ps last tt)(h1:Gs fs tt=none):Eo S K fs 201 0 s=none:=by
 obtain⟨m,_,e⟩:=h.one;rw[e];simp[Dh,h1,Px]
theorem RS.sign(h:RS S K fs s ps last tt)(h1:Gs fs tt=some (f,r))(h2:As 61 r=none):Eo S K fs 201 0 s=none:=by
 obtain⟨m,_,e⟩:=h.one;rw[e];simp[Dh,h1,h2,Px]
theorem RS.ord(h:RS S K fs s ps last tt)(h1:Gs fs tt=some (f,r))(h3:f.tag<=last):Eo S K fs 201 0 s=none:=by
 obtain⟨m,_,e⟩:=h.one;rw[e];cases h2:As 61 r with
 |none=>simp[Dh,h1,h2,Px]
 |some q=>
  cases hk:K f.kind q with
  |none=>simp[Dh,h1,h2,hk,Px]
  |some x=>simp[Dh,h1,h2,hk,Px,h3]
theorem RS.rd(h:RS S K fs s ps last tt)(h1:Gs fs tt=some (f,r))(h2:As 61 r=some q)(hk:K f.kind q=none):Eo S K fs 201 0 s=none:=by
 obtain⟨m,_,e⟩:=h.one;rw[e];simp[Dh,h1,h2,hk,Px]
theorem RS.sam(h:RS S K fs s ps last tt)(h1:Gs fs tt=some (f,r))(h2:As 61 r=some q)(hk:K f.kind q=some (v,z))(h4:Aw v=Kr S f):Eo S K fs 201 0 s=none:=by
 obtain⟨m,_,e⟩:=h.one;rw[e];simp[Dh,h1,h2,hk,Px,h4]
theorem RS.sep(h:RS S K fs s ps last tt)(h1:Gs fs tt=some (f,r))(h2:As 61 r=some q)(hk:K f.kind q=some (v,z))(h5:As 44 z=none)(h6:As 125 z=none):Eo S K fs 201 0 s=none:=by
 obtain⟨m,_,e⟩:=h.one;rw[e];simp[Dh,h1,h2,hk,Px,h5,h6]
theorem RS.go(h:RS S K fs s ps last tt)(h1:Gs fs tt=some (f,r))(h2:As 61 r=some q)(h3:last<f.tag)(hk:K f.kind q=some (v,z))(h4:Aw v≠Kr S f)(h5:As 44 z=some z')(hl:z'.length<=tt.length):
  RS S K fs s (ps++[(f,v)]) f.tag z':=by
 obtain⟨m,hm,e⟩:=h.one;obtain⟨g1,g2,_,_⟩:=Kc h1;refine⟨?_,by have:=h.lo;simp;omega,g1,by simp,fun p hp=>?_,ad hl h.le⟩
 ·rw[e,show 201 - (ps++[(f,v)]).length=m by simp;omega];simp only[Dh,h1,h2,hk,h5];rw[if_neg cE];cases Eo S K fs m f.tag z'<;>simp[Px]
 rcases af.1 hp with hp|hp
 ·exact h.fd p hp
 rw[ar]at hp;subst hp;exact g2
theorem RS.fin(h:RS S K fs s ps last tt)(h1:Gs fs tt=some (f,r))(h2:As 61 r=some q)(h3:last<f.tag)(hk:K f.kind q=some (v,z))(h4:Aw v≠Kr S f)(h5:As 44 z=none)(h6:As 125 z=some z'):
  Eo S K fs 201 0 s=some (ps++[(f,v)],z')/\∀p∈ps++[(f,v)],Ap fs p.1.tag=some p.1:=by
 obtain⟨m,hm,e⟩:=h.one;obtain⟨g1,g2,_,_⟩:=Kc h1;refine⟨?_,fun p hp=>?_⟩
 ·rw[e];simp only[Dh,h1,h2,hk,h5,h6];rw[if_neg cE];simp[Px]
 rcases af.1 hp with hp|hp
 ·exact h.fd p hp
 rw[ar]at hp;subst hp;exact g2
end
structure Qiu(w:World)(xv y0 y1 y2 h0 h1:Value)(S:List Ty)(K:Kd->List UInt8->Option (Vl × List UInt8))(fs:List Fd)(s:List UInt8)(wr:World)(tv kv:Value)(ps:List (Fd × Vl))(xs:List (Nat × SV))(last:Nat)(tt:List UInt8):Prop where
 bel:Below w w wr
 st:Eg (w.heap.size+3) (w.heap.size+2) wr h0 h1 tv tv kv kv (ps.map fun p=>p.1.tag) xs
 box:wr.cell? (w,0)=some xv
 b0:wr.cell? (w,1,0)=some y0
 b1:wr.cell? (w,1,1)=some y1
 b2:wr.cell? (w,1,2)=some y2
 len:xs.length=ps.length
 eq:xs.map (·.2)=ps.map fun p=>Bt S p.1.kind p.2
 rs:RS S K fs s ps last tt
theorem Qiu.after{w wr W:World}{xv y0 y1 y2 h0 h1:Value}{S:List Ty}{K:Kd->List UInt8->Option (Vl × List UInt8)}{fs:List Fd}{s tt:List UInt8}{tv kv:Value}{ps:List (Fd × Vl)}{xs:List (Nat × SV)}{last:Nat}
  (h:Qiu w xv y0 y1 y2 h0 h1 S K fs s wr tv kv ps xs last tt) (hb:Below wr wr W):Qiu w xv y0 y1 y2 h0 h1 S K fs s W tv kv ps xs last tt:=by
 have hlt:=h.st.lt;have hc:∀b o,b<w.heap.size+3->W.cell? ⟨b,o,none⟩=wr.cell? ⟨b,o,none⟩:=fun b o hb'=>hb.cell (p:=⟨b,o,none⟩) (show b<wr.heap.size by omega);exact⟨h.bel.trans (hb.mono h.bel.size),h.st.after hb,(hc _ _ aI).trans h.box,(hc _ _ aI).trans h.b0,(hc _ _ aI).trans h.b1,(hc _ _ aI).trans h.b2,h.len,h.eq,h.rs⟩
theorem Eg.last{base B n c g:Nat}{W:World}{A:Option Addr}{h0 h1 tu ku kv:Value}{gs:List Nat}{xs:List (Nat × SV)}(h:Eg base B W h0 h1 tu (.slice A n c) ku kv (gs++[g]) xs):
  ∃b,A=some ⟨b,0,none⟩/\n=gs.length+1/\b<W.heap.size/\W.cell? ⟨b,gs.length,none⟩=(g:Int):=by
 have hn:=Qln h.tags;have e:(gs++[g]).length=gs.length+1:=aK;rcases h.tags.2 with⟨e0,h0⟩|⟨b,cap,cur,e1,_⟩
 ·omega
 injection e1 with e1 _ _;subst e1;refine⟨b,rfl,by omega,(h.tags.lt b rfl).2,?_⟩;have:=h.tags.cells (g:=b) rfl gs.length (g:Int) (by simp[Dm]);have e2:(⟨b,0,none⟩:Addr).add gs.length=⟨b,0+gs.length,none⟩:=bq;rw[e2]at this;simpa using this
def Pq(base:Nat)(tv kv:Value)(W:World)(x:Nat × SV):Prop:=En (fun c=>base<=c/\kv.ownBlock≠some c/\tv.ownBlock≠some c) W x.1 x.2
theorem Pq.appT{base:Nat}{W W':World}{tv tv' kv:Value}{x:Nat × SV}(h:Pq base tv kv W x)(hg:W.grownBy W' tv.ownBlock)(hwh:tv'.ownBlock=tv.ownBlock\/∃k,tv'.ownBlock=some k/\W.heap.size<=k):Pq base tv' kv W' x:=by
 refine En.kept h (fun b o v hb _ hv=>hg.cell hv fun e=>hb.2.2 e.symm) hg.size fun c hc hl=>⟨hc.1,hc.2.1,?_⟩
 rcases hwh with e|⟨k,e,hk⟩
 ·rw[e];exact hc.2.2
 exact iB
structure Jp(base B:Nat)(W1:World)(h0 h1:Value)(A:Option Addr)(n c:Nat)(ku:Value)(gs:List Nat)(xs ks:List (Nat × SV))(g:Nat)(l7 l8 l11:Bool)(u7 u8:Value)(W:World):Prop where
 p0:l7=false->W=W1
 p1:l7=true->l8=false->W=W1.alloc (.cells [.int .i64 (g:Int)].toArray 3)/\u7=.slice (some ⟨W1.heap.size,0,none⟩) 1 1
 p2:l8=true->l11=false->∃A6 c6,u8=.slice A6 (gs++[g]).length c6/\Eg base B W h0 h1 (.slice A n c) u8 ku ku (gs++[g]) xs/\Below base W1 W/\∀x∈ks,Pq base u8 ku W x
 p3:l11=true->∃A6 c6,Eg base B W h0 h1 (.slice A6 (gs++[g]).length c6) (.slice A6 (gs++[g]).length c6) ku ku (gs++[g]) xs/\Below B W1 W/\∀x∈ks,Pq base (.slice A6 (gs++[g]).length c6) ku W x
 p4:l11=true->∀b o,b<base->b≠B->W.cell? ⟨b,o,none⟩=W1.cell? ⟨b,o,none⟩
section
variable {base B n c g:Nat} {W1 W:World} {h0 h1 ku u7 u8:Value} {A:Option Addr} {gs:List Nat} {xs:List (Nat × SV)} {ks:List (Nat × SV)} {l7 l8 l11:Bool}
theorem Jp.start:Jp base B W1 h0 h1 A n c ku gs xs ks g false false false u7 u8 W1:=⟨fun _=>rfl,fun h=>Bool.noConfusion h,fun h=>Bool.noConfusion h,fun h=>Bool.noConfusion h,fun h=>Bool.noConfusion h⟩
theorem Jp.be(h:Jp base B W1 h0 h1 A n c ku gs xs ks g l7 l8 l11 u7 u8 W)(h8:l8=false):Below W1 W1 W:=by
 cases l7 with
 |false=>rw[h.p0 rfl];exact Aq _ _
 |true=>rw[(h.p1 rfl h8).1];exact(Aq _ _).alloc (Al _) _
theorem Jp.put7(h8:l8=false)(h11:l11=false):Jp base B W1 h0 h1 A n c ku gs xs ks g true l8 l11 (.slice (W1,0) 1 1) u8 (W1.alloc (.cells #[(g:Int)] 3)):=
 ⟨fun h=>Bool.noConfusion h,fun _ _=>⟨rfl,rfl⟩,fun h=>absurd (h8.symm.trans h) aL,fun h=>absurd (h11.symm.trans h) aL,fun h=>absurd (h11.symm.trans h) aL⟩
theorem Jp.put8(h7:l7=true)(h11:l11=false){v:Value}(hS:Eg base B W1 h0 h1 (.slice A n c) (.slice A n c) ku ku gs xs)(hk:∀x∈ks,Pq base (.slice A n c) ku W1 x)
  (hown:W.ownsRow base 3 1 v (gs.length+1) (Dm gs++[.int .i64 (g:Int)])) (hg:W1.grownBy W (Value.slice A n c).ownBlock) (hwh:v.ownBlock=(Value.slice A n c).ownBlock\/∃k,v.ownBlock=some k/\W1.heap.size<=k):
  Jp base B W1 h0 h1 A n c ku gs xs ks g l7 true l11 u7 v W/\∃A6 c6,v=.slice A6 (gs++[g]).length c6:=by
 obtain⟨A6,c6,e,h1,h2⟩:=hS.pushT hown hg hwh;exact⟨⟨fun h=>absurd (h7.symm.trans h) aL,fun _ h=>Bool.noConfusion h,fun _ _=>⟨A6,c6,e,h1,h2,fun x hx=>(hk x hx).appT hg hwh⟩,fun h=>absurd (h11.symm.trans h) aL,fun h=>absurd (h11.symm.trans h) aL⟩,A6,c6,e⟩
theorem Jp.put11(h:Jp base B W1 h0 h1 A n c ku gs xs ks g l7 l8 l11 u7 u8 W)(h7:l7=true)(h8:l8=true)(h11:l11=false){W':World}(hW:W'=W.setCell ⟨B,2,none⟩ u8):Jp base B W1 h0 h1 A n c ku gs xs ks g l7 l8 true u7 u8 W':=by
 subst hW;obtain⟨A6,c6,e,hS,hb,hk⟩:=h.p2 h8 h11;have hB:=hS.hB;have hk2:∀x∈ks,Pq base u8 ku (W.setCell ⟨B,2,none⟩ u8) x:=fun x hx=>En.grown (hk x hx) (Ai W B 2 u8) fun c hc e=>by injection e with e;have:=hc.1;omega
 have hS2:=hS.set2;rw[e]at hS2 hk2 ⊢;exact⟨fun h=>absurd (h7.symm.trans h) aL,fun _ h=>absurd (h8.symm.trans h) aL,fun _ h=>Bool.noConfusion h,fun _=>⟨A6,c6,hS2,(hb.mono (Nat.le_of_lt hS.hB)).setCell (p:=⟨B,2,none⟩) (Al B) _,hk2⟩,fun _ b o h1 h2=>((Ai W B 2 _).cell_far ⟨b,o,none⟩ (ac (ac h1 hS.bs) (Al _)) (by simp;exact h2)).trans (hb.cell (p:=⟨b,o,none⟩) h1)⟩
end
end
end Go.Proofs.YtmmhmlmfhpfgbaaGreatDoor
