/- Texts joined. Conditions: as each theorem names them. -/
import Derived.Test.YtmmhmlmfhpfgbaaGreatDoorF26
import Derived.Test.YtmmhmlmfhpfgbaaGreatDoorF30
set_option maxRecDepth 100000
set_option maxHeartbeats 32000000
set_option linter.unusedVariables false
set_option linter.unusedSimpArgs false
namespace Go.Proofs.YtmmhmlmfhpfgbaaGreatDoor
open Go.RowKit Go.Proofs.Tryz
section
attribute [local go_sem] Qoe Qnf Qmu Qk2 ByteArray.mk_append_mk
theorem Ql.no{s d x:List UInt8}{w w':World}{v:Value}{q:Option Addr}(hb:Below w w w')(h:∀y,Bm s d=some y->Gs y.1 y.2 x=none):Ql s d x w (.returned (.tuple #[v,.pointer q,.bool false])) w':=by
 refine⟨hb,?_⟩;cases hy:Bm s d with
 |none=>exact⟨v,q,rfl⟩
 |some y=>simp only;rw[h y hy];exact⟨v,q,rfl⟩
theorem Qjo(HNm:∀(w0:World) (xs:List (Ty × Value)) (xv:Value),Gb w0 xv xs->G7 (Ad xs)->NmC w0 (Ad xs) xv)(s d x:List UInt8)(w:World)(hs:s.length<=4000000)(hd:d.length<=4000000)(hx:x.length<=4000000):
  Calls prog 79 #[s,d,x] w (Ql s d x w):=by
 have Hk:=Aa (fun W=>Pe s d W hs hd);go_enter func79,ntmps79;go_wp2_with fail;refine(Hk.o _).mono ?_;rintro e w1 ⟨hm,hb1⟩;have Hb1:=Aa hb1;clear hb1;cases hbo:Bm s d with
 |none=>
  have HB:=Aa hbo;rw[hbo]at hm;obtain⟨A,n,c,rfl⟩:=hm;clear hbo;go_wp2_with fail;refine aF (v:=.tuple #[.slice none 0 0,.pointer none,.bool false]) (by simp[results,results79,go_sem]) rfl ?_;exact Ql.no Hb1.o fun y hy=>by rw[HB.o]at hy;cases hy
 |some y=>
  obtain⟨S,k⟩:=y;have HB:=Aa hbo;rw[hbo]at hm;obtain⟨xv,xs,rfl,hty,hsc⟩:=hm;obtain⟨g1,_,_,g4,g5,_⟩:=Dd hbo;obtain⟨A9,c9,rfl,hl9,_⟩:=hsc;have Hsc:=@Aa (Gb w1 (.slice A9 xs.length c9) xs) ⟨A9,c9,rfl,hl9,by assumption⟩;clear hbo;by_cases h400:400<x.length
  ·have t4:decide ((400:Int)<(x.length:Int))=true:=aD aH;have t5:(400:Int)<(x.length:Int):=aH;have HV:=@Aa (Gs S k x=none) (by unfold Gs;rw[if_pos h400]);clear h400 g1 g4 g5;go_wp2_with fail;refine aF (v:=.tuple #[.slice none 0 0,.pointer none,.bool false]) (by simp[results,results79,go_sem]) rfl ?_;exact Ql.no Hb1.o fun y hy=>d9
  have t5:¬((400:Int)<(x.length:Int)):=aH;have hr:Calls prog 105 #[.agg #[.slice A9 xs.length c9],x,.string ⟨(Ax k).toArray⟩,.int .i64 ((12:Nat):Int)] w1 (Bx S k (Ar S 20 12 k x) w1):=by
   have:=Qio w1 (Ad xs) (by rw[hty];exact g1.1.1) (.slice A9 xs.length c9) rfl (HNm w1 xs _ Hsc.o (by rw[hty];exact g1)) 12 aH k g4 x w1 (Ao _ _) aH;rw[hty]at this;exact this
  rw[g5,show (((12:Nat)):Int)=12 from rfl]at hr;have HR:=Aa hr;have HV:=@Aa (Gs S k x=match Ar S 20 12 k x with|some (v,[])=>some v|_=>none) (by unfold Gs;rw[if_neg h400];rfl);have Hty:=Aa hty;generalize Ar S 20 12 k x=o at *;clear h400 g1 g4 g5 hr hty;go_wp2_with fail;refine HR.o.mono ?_;rintro e w5 hp;obtain⟨vp,vr,vk,rfl,hb5,hm⟩:=hp.q;have Hb5:=Aa (Hb1.o.trans (hb5.mono Hb1.o.size));have Hsc5:=Aa (Hsc.o.below hb5);have hz:=Hb1.o.size;clear hb5 hp;cases o with
  |none=>
   obtain⟨⟨q0,rfl⟩,⟨r0,rfl⟩,rfl⟩:=hm;go_wp2_with fail;refine aF (v:=.tuple #[.slice A9 xs.length c9,.pointer q0,.bool false]) (by simp[results,results79,go_sem]) rfl ?_;exact Ql.no Hb5.o fun y hy=>d9
  |some y=>
   obtain⟨v,r⟩:=y;obtain⟨⟨b,rfl,hsv⟩,rfl,rfl⟩:=hm;have Hsv:=Aa hsv;clear hsv;cases r with
   |nil=>
    go_wp2_with fail;refine aF (v:=.tuple #[.slice A9 xs.length c9,b,.bool true]) (by simp[results,results79,go_sem]) rfl ?_;refine⟨Hb5.o,?_⟩;rw[HB.o];simp only;rw[HV.o];exact⟨_,xs,b,rfl,Hty.o,Hsc5.o,Hsv.o.mono fun c1 hc _=>ad hz hc⟩
   |cons c z=>
    go_wp2_with fail;refine aF (v:=.tuple #[.slice A9 xs.length c9,b,.bool false]) (by simp[results,results79,go_sem]) rfl ?_;exact Ql.no Hb5.o fun y hy=>d9
def Nj(o:Option (Fd × List UInt8))(s:List UInt8)(w:World)(e:Ending)(w':World):Prop:=
 ∃(n:Nat) (a b c r:List UInt8),e=.returned (.tuple #[.agg #[(n:Int),a,b,c],r,.bool o.isSome])/\Below w w w'/\r.length<=s.length/\n<=1000000000 /\
  ∀f q,o=some (f,q)->n=f.tag/\a=f.name/\b=Ax f.kind/\c=f.given/\r=q
theorem Qlx(fs:List Fd)(s:List UInt8):G0 fs s=if Ef (s.takeWhile Bl) 200 then(match Cx (s.takeWhile Bl)with|some n=>(Au fs n).map (fun f=>(f,s.dropWhile Bl))|none=>none)else none:=by
 unfold G0 Sm Ef;cases h:Cx (s.takeWhile Bl)with
 |none=>rfl
 |some n=>
  simp only;by_cases hn:n<=200
  ·simp only[hn,if_true,decide_true];cases Au fs n<;>rfl
  simp[hn]
theorem Y8(xv st nm fv:Value)(hxv:xv.oneCell'=true)(hst:st.oneCell'=true)(hnm:nm.oneCell'=true)(fs:List Fd)(s:List UInt8)(w:World)(h:Dq w fv fs)(htg:∀f∈fs,f.tag<=200)(hs:s.length<=4000000):
  Calls prog 207 #[.agg #[xv],s,.agg #[st,nm,fv]] w (Nj (G0 fs s) s w):=by
 obtain⟨A9,c9,rfl,hl9,hr9⟩:=h;have Hfs:=@Aa (Dq w (.slice A9 fs.length c9) fs) ⟨A9,c9,rfl,hl9,hr9⟩;have HQ:=Aa (Qlx fs s);obtain⟨e1,e2,hle⟩:=Tl Bl s;have Hd:=Aa (fun W=>V0 s W hs);have Hn:=Aa (fun W=>D1 (s.takeWhile Bl) 200 W aH aJ);have E1:=Aa e1;have E2:=Aa e2;have k1:((s.takeWhile Bl).length:Int)<=(s.length:Int):=aH;have Hdl:=Aa (show (s.dropWhile Bl).length<=s.length by rw[<-e2];simp);generalize (s.takeWhile Bl).length=n at *;generalize s.takeWhile Bl=tw at *;generalize s.dropWhile Bl=dw at *;have k2:(0:Int)<=(n:Int):=aH;have k3:((n:Int)).toNat=n:=aH;have hn8:n<=4000000:=aH;have Htg:=Aa htg;clear e1 e2 hr9 htg;go_enter func207,ntmps207;go_wp2_with fail;refine(Hd.o _).mono ?_;rintro e w1 ⟨rfl,rfl⟩;go_wp2_with fail;rw[E1.o];refine(Hn.o _).mono ?_;rintro e w2 ⟨m,hm,rfl,hdm,hb2⟩;have Hdm:=Aa hdm;have Hb2:=Aa ((((Ao w.heap.size w).alloc (An _) (.cells #[xv] 79)).alloc aK (.cells #[st,nm,.slice A9 fs.length c9] 143)).alloc aM (.cells #[.int .i64 0,a6,a6,a6] 157) |>.trans (hb2.mono aM));obtain⟨hc2,hfz2,hzz2⟩:=Cj hb2;have hz2:=hb2.size;simp only[World.size_alloc]at hz2;have Hf2:=Aa (fun W (hW:Below w w W)=>Sx st nm (.slice A9 fs.length c9) fs m W (Hfs.o.below hW) aH);generalize hok0:Ef tw 200=ok at *;have Hok:=Aa hok0;clear hok0;clear hdm hb2;go_wp2_with fail;refine(Hf2.o _ Hb2.o).mono ?_;rintro e w3 ⟨rfl,hb3⟩;have Hb3:=Aa (Hb2.o.trans (hb3.mono Hb2.o.size));obtain⟨hc3,hfz3,hzz3⟩:=Cj hb3;have hz3:=hb3.size;have hcc:∀b o,b<w.heap.size+3->w3.cell? ⟨b,o,none⟩=w2.cell? ⟨b,o,none⟩:=fun b o h=>hc3 b o aH;clear hb3 Hf2 hzz2 hzz3;obtain⟨n0,a,b,c,is,hsf,hn0,his,hfd⟩:∃(n0:Nat) (a b c:List UInt8) (is:Bool),sfR (Au fs m)=.tuple #[.agg #[(n0:Int),a,.string ⟨b.toArray⟩,c],.bool is]/\n0<=1000000000/\(Au fs m).isSome=is/\∀f,Au fs m=some f->n0=f.tag/\a=f.name/\b=Ax f.kind/\c=f.given:=by
  cases hf:Au fs m with
  |none=>exact⟨0,[],[],[],false,rfl,by omega,rfl,fun f h=>by cases h⟩
  |some f=>exact⟨f.tag,f.name,Ax f.kind,f.given,true,rfl,by have:=Htg.o f (List.mem_of_find?_eq_some hf);omega,rfl,fun g h=>by injection h with h;subst h;exact⟨rfl,rfl,rfl,rfl⟩⟩
 rw[hsf];have Hfd:=Aa (And.intro his hfd);clear hsf his hfd;go_wp2_with fail;have F0:w3.cell? (w.heap.size+1+1,0)=some (.int .i64 0):=gW;have F1:w3.cell? (w.heap.size+1+1,1)=a6:=gW;have F2:w3.cell? (w.heap.size+1+1,2)=a6:=gW;have F3:w3.cell? (w.heap.size+1+1,3)=a6:=gW;have Z0:w3.frozen? (w.heap.size+1+1,0)=false:=gR;have Z1:w3.frozen? (w.heap.size+1+1,1)=false:=gR;have Z2:w3.frozen? (w.heap.size+1+1,2)=false:=gR;have Z3:w3.frozen? (w.heap.size+1+1,3)=false:=gR;have hb6:w.heap.size+1+1<w3.heap.size:=aH;clear hc2 hfz2 hc3 hfz3 hcc;cases ok with
 |true=>
  refine Jd [29,30,31,32,33,34,35,36,999,7,8]
   (fun ix v W=>match ix with|0=>v=.agg #[(n0:Int),a,.string ⟨b.toArray⟩,c]|1=>v=(s:List UInt8)|2=>v=(n:Int)|3=>v=(dw:List UInt8)|4=>v=.bool true|5=>v=.bool true|6=>v=.bool is|7=>v=.bool is|9=>v=(dw:List UInt8)|10=>v=.bool is|_=>True)
   (fun L U W=>(L 8=false->W=(w3.alloc (.cells #[(n0:Int),a,.string ⟨b.toArray⟩,c] 157)).drew)/\(L 8=true->Below w w W/\W.cell? (w.heap.size+1+1,0)=(n0:Int)/\W.cell? (w.heap.size+1+1,1)=a/\W.cell? (w.heap.size+1+1,2)=some (.string ⟨b.toArray⟩)/\W.cell? (w.heap.size+1+1,3)=c)) (⟨fun _=>rfl,fun h=>Bool.noConfusion h⟩) ?_ ?_
  ·exact ic
  rintro L U W hL hφ hR;have e9:U 9=(dw:List UInt8):=hφ 9 aJ;have e10:U 10=.bool is:=hφ 10 aJ;clear hφ;obtain⟨Hbw,c0,c1,c2,c3⟩:=hR.2 (hL 8 aJ);have HBW:=Aa Hbw;clear hL hR Hbw;simp only[e9,e10];go_wp2_with fail;refine aF (v:=.tuple #[.agg #[(n0:Int),a,.string ⟨b.toArray⟩,c],dw,.bool is]) (by simp[results,results207,go_sem,c0,c1,c2,c3]) rfl ?_;obtain⟨his,hfd⟩:=Hfd.o;have HQ:=HQ.o;have hok:=Hok.o;cases hdm:Cx tw with
  |none=>rw[N7 hdm]at hok;cases hok
  |some m'=>
   rw[hdm]at HQ;simp only[if_true]at HQ;have hm':=Hdm.o m' hdm;subst hm';rw[HQ];refine⟨n0,a,b,c,dw,by rw[Option.isSome_map,his],HBW.o,Hdl.o,hn0,fun f q h=>?_⟩;cases hf:Au fs m' with
   |none=>rw[hf]at h;cases h
   |some g=>
    rw[hf]at h;injection h with h;injection h with h1 h2;subst h1 h2;obtain⟨q1,q2,q3,q4⟩:=hfd g hf;exact⟨q1,q2,q3,q4,rfl⟩
 |false=>
  refine Jd [29,30,31,32,33,34,35,36,999,7,8]
   (fun ix v W=>match ix with|0=>v=.agg #[(n0:Int),a,.string ⟨b.toArray⟩,c]|1=>v=(s:List UInt8)|2=>v=(n:Int)|3=>v=(dw:List UInt8)|4=>v=.bool false|5=>v=.bool false|7=>v=.bool false|9=>v=(dw:List UInt8)|10=>v=.bool false|_=>True)
   (fun L U W=>(L 8=false->W=(w3.alloc (.cells #[(n0:Int),a,.string ⟨b.toArray⟩,c] 157)).drew)/\(L 8=true->Below w w W/\W.cell? (w.heap.size+1+1,0)=(n0:Int)/\W.cell? (w.heap.size+1+1,1)=a/\W.cell? (w.heap.size+1+1,2)=some (.string ⟨b.toArray⟩)/\W.cell? (w.heap.size+1+1,3)=c)) (⟨fun _=>rfl,fun h=>Bool.noConfusion h⟩) ?_ ?_
  ·exact ic
  rintro L U W hL hφ hR;have e9:U 9=(dw:List UInt8):=hφ 9 aJ;have e10:U 10=.bool false:=hφ 10 aJ;clear hφ;obtain⟨Hbw,c0,c1,c2,c3⟩:=hR.2 (hL 8 aJ);have HBW:=Aa Hbw;clear hL hR Hbw;simp only[e9,e10];go_wp2_with fail;refine aF (v:=.tuple #[.agg #[(n0:Int),a,.string ⟨b.toArray⟩,c],dw,.bool false]) (by simp[results,results207,go_sem,c0,c1,c2,c3]) rfl ?_;obtain⟨his,hfd⟩:=Hfd.o;have HQ:=HQ.o;have hok:=Hok.o;simp only[ao,if_false]at HQ;rw[HQ];exact⟨n0,a,b,c,dw,rfl,HBW.o,Hdl.o,hn0,fun f q h=>by cases h⟩
def enL(o:Option (Fd × List UInt8)):Option (Vl × List UInt8):=match o with|some (f,q)=>some (.mk 69 [] f.tag [],q)|none=>none
def unL(R:Kd->List UInt8->Option (Vl × List UInt8))(o:Option (Fd × List UInt8)):Option (Vl × List UInt8):=match o with
 |none=>none
 |some (f,r)=>match Av 61 r with
  |none=>none
  |some q=>match R f.kind q with
   |none=>none
   |some (v,q)=>match Av 62 q with|some z'=>some (.mk 85 [] f.tag [v],z')|none=>none
def StF(o:Option (Fd × List UInt8))(s:List UInt8)(n:Nat)(a b c r:List UInt8):Prop:=
 r.length<=s.length/\n<=1000000000/\∀f q,o=some (f,q)->n=f.tag/\a=f.name/\b=Ax f.kind/\c=f.given/\r=q
theorem Nj.q{o:Option (Fd × List UInt8)}{s:List UInt8}{w w':World}{e:Ending}(h:Nj o s w e w'):∃(n:Nat) (a b c r:List UInt8),e=.returned (.tuple #[.agg #[(n:Int),a,b,c],r,.bool o.isSome])/\StF o s n a b c r/\Below w w w':=by
 obtain⟨n,a,b,c,r,h1,h2,h3,h4,h5⟩:=h;exact⟨n,a,b,c,r,h1,⟨h3,h4,h5⟩,h2⟩
structure Jj(w1:World)(o:Option (Fd × List UInt8))(s:List UInt8)(l m x y z al st p q:Bool)(ul um ux uy uz ual up uq:Value)(W:World):Prop where
 be:Below w1 w1 W
 yes:l=true->∃(n:Nat) (a b c r:List UInt8),StF o s n a b c r/\ul=.tuple #[.agg #[(n:Int),a,b,c],r,.bool o.isSome] /\
  (m=true->um=.tuple #[.agg #[(n:Int),a,b,c],r,.bool o.isSome]) /\
  (x=true->ux=.agg #[(n:Int),a,b,c])/\(y=true->uy=r)/\(z=true->uz=.bool o.isSome)/\(p=true->up=r)/\(q=true->uq=.bool o.isSome)
 al:al=true->∃B,ual=.pointer (some ⟨B,0,none⟩)/\w1.heap.size<=B/\B<W.heap.size/\W.there B 0 4/\(st=true->∃cs:List Value,ux=.agg cs.toArray/\W.rangeAt B 0 cs)
section
variable {w1 W W':World} {o:Option (Fd × List UInt8)} {s:List UInt8} {l m x y z al st p q:Bool} {ul um ux uy uz ual up uq:Value} {n:Nat} {a b c r:List UInt8} {B:Nat}
theorem Jj.start:Jj w1 o s false m x y z false st p q ul um ux uy uz ual up uq w1:=⟨Ao _ _,fun h=>Bool.noConfusion h,fun h=>Bool.noConfusion h⟩
theorem Jj.call(h:Jj w1 o s l m x y z al st p q ul um ux uy uz ual up uq W)(hm:m=false)(hx:x=false)(hy:y=false)(hz:z=false)(hst:st=false)(hp:p=false)(hq:q=false)(hF:StF o s n a b c r)(hb:Below W W W'):
  Jj w1 o s true m x y z al st p q (.tuple #[.agg #[(n:Int),a,b,c],r,.bool o.isSome]) um ux uy uz ual up uq W':=by
 subst hm hx hy hz hst hp hq;refine⟨h.be.trans (hb.mono h.be.size),fun _=>⟨n,a,b,c,r,hF,rfl,fun h=>Bool.noConfusion h,fun h=>Bool.noConfusion h,fun h=>Bool.noConfusion h,fun h=>Bool.noConfusion h,fun h=>Bool.noConfusion h,fun h=>Bool.noConfusion h⟩,fun ha=>?_⟩;exact lC
theorem Jj.move(h:Jj w1 o s l m x y z al st p q ul um ux uy uz ual up uq W)(hl:l=true):Jj w1 o s l true x y z al st p q ul ul ux uy uz ual up uq W:=
 ⟨h.be,fun hl=>by obtain⟨n,a,b,c,r,h1,h2,_,h4⟩:=h.yes hl;exact⟨n,a,b,c,r,h1,h2,fun _=>h2,h4⟩,h.al⟩
theorem Jj.get(h:Jj w1 o s l m x y z al st p q ul um ux uy uz ual up uq W)(hl:l=true)(hm:m=true)(hst:x=false->st=false):∃(n:Nat) (a b c r:List UInt8),um=.tuple #[.agg #[(n:Int),a,b,c],r,.bool o.isSome] /\
  (x=false->Jj w1 o s l m true y z al st p q ul um (.agg #[(n:Int),a,b,c]) uy uz ual up uq W)/\Jj w1 o s l m x true z al st p q ul um ux r uz ual up uq W/\Jj w1 o s l m x y true al st p q ul um ux uy (.bool o.isSome) ual up uq W:=by
 obtain⟨n,a,b,c,r,h1,h2,h3,h4,h5,h6,h7⟩:=h.yes hl;refine⟨n,a,b,c,r,h3 hm,fun hx=>⟨h.be,fun _=>⟨n,a,b,c,r,h1,h2,h3,fun _=>rfl,h5,h6,h7⟩,fun ha=>?_⟩,⟨h.be,fun _=>⟨n,a,b,c,r,h1,h2,h3,h4,fun _=>rfl,h6,h7⟩,h.al⟩,⟨h.be,fun _=>⟨n,a,b,c,r,h1,h2,h3,h4,h5,fun _=>rfl,h7⟩,h.al⟩⟩;exact lD
theorem Jj.as1(h:Jj w1 o s l m x y z al st p q ul um ux uy uz ual up uq W)(hy:y=true):Jj w1 o s l m x y z al st true q ul um ux uy uz ual uy uq W:=
 ⟨h.be,fun hl=>by obtain⟨n,a,b,c,r,h1,h2,h3,h4,h5,h6,_,h7⟩:=h.yes hl;exact⟨n,a,b,c,r,h1,h2,h3,h4,h5,h6,fun _=>h5 hy,h7⟩,h.al⟩
theorem Jj.as2(h:Jj w1 o s l m x y z al st p q ul um ux uy uz ual up uq W)(hz:z=true):Jj w1 o s l m x y z al st p true ul um ux uy uz ual up uz W:=
 ⟨h.be,fun hl=>by obtain⟨n,a,b,c,r,h1,h2,h3,h4,h5,h6,h7,_⟩:=h.yes hl;exact⟨n,a,b,c,r,h1,h2,h3,h4,h5,h6,h7,fun _=>h6 hz⟩,h.al⟩
theorem Jj.alloc(h:Jj w1 o s l m x y z al st p q ul um ux uy uz ual up uq W)(hst:st=false)(T:TypeId):Jj w1 o s l m x y z true st p q ul um ux uy uz W.heap.size up uq (W.alloc (.cells #[.int .i64 0,a6,a6,a6] T)):=
 ⟨h.be.alloc h.be.size _,h.yes,fun _=>⟨_,rfl,h.be.size,by simp,Bz W [.int .i64 0,a6,a6,a6] T,fun h=>absurd (hst.symm.trans h) aJ⟩⟩
theorem Jj.store(h:Jj w1 o s l m x y z al st p q ul um ux uy uz ual up uq W)(ha:al=true)(ex:ux=.agg #[(n:Int),a,b,c])(el:ual=B):
  W.there B 0 4/\Jj w1 o s l m x y z al true p q ul um ux uy uz ual up uq (W.setCells B 0 [(n:Int),a,b,c]):=by
 obtain⟨B',g1,g2,g3,g4,_⟩:=h.al ha;rw[el]at g1;injection g1 with g1;injection g1 with g1;injection g1 with g1;subst g1;exact⟨g4,Ai _ g2 _ _ _ h.be,h.yes,fun _=>⟨B,el,g2,by rw[Ch];exact g3,ai g4 _ _ _,fun _=>⟨_,ex,aa _ _ _ _ g4⟩⟩⟩
theorem Jj.fin(h:Jj w1 o s l m x y z al st p q ul um ux uy uz ual up uq W)(hl:l=true)(hx:x=true)(ha:al=true)(hs:st=true)(hp:p=true)(hq:q=true):
  ∃(n:Nat) (a b c r:List UInt8) (B:Nat),StF o s n a b c r/\ual=.pointer (some ⟨B,0,none⟩)/\up=.string ⟨r.toArray⟩/\uq=.bool o.isSome/\w1.heap.size<=B/\B<W.heap.size/\W.rangeAt B 0 [.int .i64 (n:Int),.string ⟨a.toArray⟩,.string ⟨b.toArray⟩,.string ⟨c.toArray⟩]/\Below w1.heap.size w1 W:=by
 obtain⟨n,a,b,c,r,h1,h2,h3,h4,h5,h6,h7,h8⟩:=h.yes hl;obtain⟨B,g1,g2,g3,g4,g5⟩:=h.al ha;obtain⟨cs,e1,e2⟩:=g5 hs;have e3:=h4 hx;rw[e1]at e3;injection e3 with e3;have e4:cs=[.int .i64 (n:Int),.string ⟨a.toArray⟩,.string ⟨b.toArray⟩,.string ⟨c.toArray⟩]:=by simpa using e3
 exact⟨n,a,b,c,r,B,h1,g1,h7 hp,h8 hq,g2,g3,e4 ▸ e2,h.be⟩
end
theorem S4{w:World}{b o:Nat}{v:Value}{B:Obj}(hb:b<w.heap.size)(h:w.cell? ⟨b,o,none⟩=some v):(w.alloc B).cell? ⟨b,o,none⟩=some v:=
 ((Ao w.heap.size w).alloc (An _) B |>.cell (p:=⟨b,o,none⟩) hb).trans h
structure RS(S:List Ty)(K:Kd->List UInt8->Option (Vl × List UInt8))(fs:List Fd)(s:List UInt8)(ps:List (Fd × Vl))(last:Nat)(tt:List UInt8):Prop where
 eq:El S K fs 201 0 s=Qb ps (El S K fs (201 - ps.length) last tt)
 lo:ps.length<=last
 hi:last<=200
 la:last=(ps.map (·.1.tag)).getLastD 0
 fd:∀p∈ps,Au fs p.1.tag=some p.1
 le:tt.length<=s.length
section
variable {S:List Ty} {K:Kd->List UInt8->Option (Vl × List UInt8)} {fs:List Fd} {s tt r q z z':List UInt8} {ps:List (Fd × Vl)} {last:Nat} {f:Fd} {v:Vl}
theorem RS.init:RS S K fs s [] 0 s:=⟨by cases h:El S K fs 201 0 s<;>simp[Qb,h],An _,by omega,rfl,by simp,An _⟩
theorem RS.one(h:RS S K fs s ps last tt):∃m,201 - ps.length=m+1/\El S K fs 201 0 s=Qb ps (match Dj K fs tt with
  |none=>none
  |some (p,r)=>if p.1.tag<=last\/Az p.2=G9 S p.1 then none else match Av 44 r with
   |some q=>(match El S K fs m p.1.tag q with|some (ps,z)=>some (p::ps,z)|none=>none)
   |none=>match Av 125 r with|some q=>some ([p],q)|none=>none):=
 ⟨200 - ps.length,by have:=h.lo;have:=h.hi;omega,by rw[h.eq,show 201 - ps.length=(200 - ps.length)+1 by have:=h.lo;have:=h.hi;omega];rfl⟩
theorem RS.tagN(h:RS S K fs s ps last tt)(h1:G0 fs tt=none):El S K fs 201 0 s=none:=by
 obtain⟨m,_,e⟩:=h.one;rw[e];simp[Dj,h1,Qb]
theorem RS.sign(h:RS S K fs s ps last tt)(h1:G0 fs tt=some (f,r))(h2:Av 61 r=none):El S K fs 201 0 s=none:=by
 obtain⟨m,_,e⟩:=h.one;rw[e];simp[Dj,h1,h2,Qb]
theorem RS.ord(h:RS S K fs s ps last tt)(h1:G0 fs tt=some (f,r))(h3:f.tag<=last):El S K fs 201 0 s=none:=by
 obtain⟨m,_,e⟩:=h.one;rw[e];cases h2:Av 61 r with
 |none=>simp[Dj,h1,h2,Qb]
 |some q=>
  cases hk:K f.kind q with
  |none=>simp[Dj,h1,h2,hk,Qb]
  |some x=>simp[Dj,h1,h2,hk,Qb,h3]
theorem RS.rd(h:RS S K fs s ps last tt)(h1:G0 fs tt=some (f,r))(h2:Av 61 r=some q)(hk:K f.kind q=none):El S K fs 201 0 s=none:=by
 obtain⟨m,_,e⟩:=h.one;rw[e];simp[Dj,h1,h2,hk,Qb]
theorem RS.sam(h:RS S K fs s ps last tt)(h1:G0 fs tt=some (f,r))(h2:Av 61 r=some q)(hk:K f.kind q=some (v,z))(h4:Az v=G9 S f):El S K fs 201 0 s=none:=by
 obtain⟨m,_,e⟩:=h.one;rw[e];simp[Dj,h1,h2,hk,Qb,h4]
theorem RS.sep(h:RS S K fs s ps last tt)(h1:G0 fs tt=some (f,r))(h2:Av 61 r=some q)(hk:K f.kind q=some (v,z))(h5:Av 44 z=none)(h6:Av 125 z=none):El S K fs 201 0 s=none:=by
 obtain⟨m,_,e⟩:=h.one;rw[e];simp[Dj,h1,h2,hk,Qb,h5,h6]
theorem RS.go(h:RS S K fs s ps last tt)(h1:G0 fs tt=some (f,r))(h2:Av 61 r=some q)(h3:last<f.tag)(hk:K f.kind q=some (v,z))(h4:Az v≠G9 S f)(h5:Av 44 z=some z')(hl:z'.length<=tt.length):
  RS S K fs s (ps++[(f,v)]) f.tag z':=by
 obtain⟨m,hm,e⟩:=h.one;obtain⟨g1,g2,_,_⟩:=Kh h1;refine⟨?_,by have:=h.lo;simp;omega,g1,by simp,fun p hp=>?_,ad hl h.le⟩
 ·rw[e,show 201 - (ps++[(f,v)]).length=m by simp;omega];simp only[Dj,h1,h2,hk,h5];rw[if_neg cT];cases El S K fs m f.tag z'<;>simp[Qb]
 rcases af.1 hp with hp|hp
 ·exact h.fd p hp
 rw[aq]at hp;subst hp;exact g2
theorem RS.fin(h:RS S K fs s ps last tt)(h1:G0 fs tt=some (f,r))(h2:Av 61 r=some q)(h3:last<f.tag)(hk:K f.kind q=some (v,z))(h4:Az v≠G9 S f)(h5:Av 44 z=none)(h6:Av 125 z=some z'):
  El S K fs 201 0 s=some (ps++[(f,v)],z')/\∀p∈ps++[(f,v)],Au fs p.1.tag=some p.1:=by
 obtain⟨m,hm,e⟩:=h.one;obtain⟨g1,g2,_,_⟩:=Kh h1;refine⟨?_,fun p hp=>?_⟩
 ·rw[e];simp only[Dj,h1,h2,hk,h5,h6];rw[if_neg cT];simp[Qb]
 rcases af.1 hp with hp|hp
 ·exact h.fd p hp
 rw[aq]at hp;subst hp;exact g2
end
structure Qhw(w:World)(xv y0 y1 y2 h0 h1:Value)(S:List Ty)(K:Kd->List UInt8->Option (Vl × List UInt8))(fs:List Fd)(s:List UInt8)(wr:World)(tv kv:Value)(ps:List (Fd × Vl))(xs:List (Nat × SV))(last:Nat)(tt:List UInt8):Prop where
 bel:Below w w wr
 st:Ee (w.heap.size+3) (w.heap.size+2) wr h0 h1 tv tv kv kv (ps.map fun p=>p.1.tag) xs
 box:wr.cell? (w,0)=some xv
 b0:wr.cell? (w,1,0)=some y0
 b1:wr.cell? (w,1,1)=some y1
 b2:wr.cell? (w,1,2)=some y2
 len:xs.length=ps.length
 eq:xs.map (·.2)=ps.map fun p=>Cd S p.1.kind p.2
 rs:RS S K fs s ps last tt
theorem Qhw.after{w wr W:World}{xv y0 y1 y2 h0 h1:Value}{S:List Ty}{K:Kd->List UInt8->Option (Vl × List UInt8)}{fs:List Fd}{s tt:List UInt8}{tv kv:Value}{ps:List (Fd × Vl)}{xs:List (Nat × SV)}{last:Nat}
  (h:Qhw w xv y0 y1 y2 h0 h1 S K fs s wr tv kv ps xs last tt) (hb:Below wr wr W):Qhw w xv y0 y1 y2 h0 h1 S K fs s W tv kv ps xs last tt:=by
 have hlt:=h.st.lt;have hc:∀b o,b<w.heap.size+3->W.cell? ⟨b,o,none⟩=wr.cell? ⟨b,o,none⟩:=fun b o hb'=>hb.cell (p:=⟨b,o,none⟩) (show b<wr.heap.size by omega);exact⟨h.bel.trans (hb.mono h.bel.size),h.st.after hb,(hc _ _ aH).trans h.box,(hc _ _ aH).trans h.b0,(hc _ _ aH).trans h.b1,(hc _ _ aH).trans h.b2,h.len,h.eq,h.rs⟩
theorem Ee.last{base B n c g:Nat}{W:World}{A:Option Addr}{h0 h1 tu ku kv:Value}{gs:List Nat}{xs:List (Nat × SV)}(h:Ee base B W h0 h1 tu (.slice A n c) ku kv (gs++[g]) xs):
  ∃b,A=some ⟨b,0,none⟩/\n=gs.length+1/\b<W.heap.size/\W.cell? ⟨b,gs.length,none⟩=(g:Int):=by
 have hn:=Qj1 h.tags;have e:(gs++[g]).length=gs.length+1:=aK;rcases h.tags.2 with⟨e0,h0⟩|⟨b,cap,cur,e1,_⟩
 ·omega
 injection e1 with e1 _ _;subst e1;refine⟨b,rfl,by omega,(h.tags.lt b rfl).2,?_⟩;have:=h.tags.cells (g:=b) rfl gs.length (g:Int) (by simp[De]);have e2:(⟨b,0,none⟩:Addr).add gs.length=⟨b,0+gs.length,none⟩:=bD;rw[e2]at this;simpa using this
def Pg(base:Nat)(tv kv:Value)(W:World)(x:Nat × SV):Prop:=Fl (fun c=>base<=c/\kv.ownBlock≠some c/\tv.ownBlock≠some c) W x.1 x.2
theorem Pg.appT{base:Nat}{W W':World}{tv tv' kv:Value}{x:Nat × SV}(h:Pg base tv kv W x)(hg:W.grownBy W' tv.ownBlock)(hwh:tv'.ownBlock=tv.ownBlock\/∃k,tv'.ownBlock=some k/\W.heap.size<=k):Pg base tv' kv W' x:=by
 refine Fl.kept h (fun b o v hb _ hv=>hg.cell hv fun e=>hb.2.2 e.symm) hg.size fun c hc hl=>⟨hc.1,hc.2.1,?_⟩
 rcases hwh with e|⟨k,e,hk⟩
 ·rw[e];exact hc.2.2
 exact kV
structure Fr(base B:Nat)(W1:World)(h0 h1:Value)(A:Option Addr)(n c:Nat)(ku:Value)(gs:List Nat)(xs ks:List (Nat × SV))(g:Nat)(l7 l8 l11:Bool)(u7 u8:Value)(W:World):Prop where
 p0:l7=false->W=W1
 p1:l7=true->l8=false->W=W1.alloc (.cells [.int .i64 (g:Int)].toArray 3)/\u7=.slice (some ⟨W1.heap.size,0,none⟩) 1 1
 p2:l8=true->l11=false->∃A6 c6,u8=.slice A6 (gs++[g]).length c6/\Ee base B W h0 h1 (.slice A n c) u8 ku ku (gs++[g]) xs/\Below base W1 W/\∀x∈ks,Pg base u8 ku W x
 p3:l11=true->∃A6 c6,Ee base B W h0 h1 (.slice A6 (gs++[g]).length c6) (.slice A6 (gs++[g]).length c6) ku ku (gs++[g]) xs/\Below B W1 W/\∀x∈ks,Pg base (.slice A6 (gs++[g]).length c6) ku W x
 p4:l11=true->∀b o,b<base->b≠B->W.cell? ⟨b,o,none⟩=W1.cell? ⟨b,o,none⟩
section
variable {base B n c g:Nat} {W1 W:World} {h0 h1 ku u7 u8:Value} {A:Option Addr} {gs:List Nat} {xs:List (Nat × SV)} {ks:List (Nat × SV)} {l7 l8 l11:Bool}
theorem Fr.start:Fr base B W1 h0 h1 A n c ku gs xs ks g false false false u7 u8 W1:=⟨fun _=>rfl,fun h=>Bool.noConfusion h,fun h=>Bool.noConfusion h,fun h=>Bool.noConfusion h,fun h=>Bool.noConfusion h⟩
theorem Fr.be(h:Fr base B W1 h0 h1 A n c ku gs xs ks g l7 l8 l11 u7 u8 W)(h8:l8=false):Below W1 W1 W:=by
 cases l7 with
 |false=>rw[h.p0 rfl];exact Ao _ _
 |true=>rw[(h.p1 rfl h8).1];exact(Ao _ _).alloc (An _) _
theorem Fr.put7(h8:l8=false)(h11:l11=false):Fr base B W1 h0 h1 A n c ku gs xs ks g true l8 l11 (.slice (W1,0) 1 1) u8 (W1.alloc (.cells #[(g:Int)] 3)):=
 ⟨fun h=>Bool.noConfusion h,fun _ _=>⟨rfl,rfl⟩,fun h=>absurd (h8.symm.trans h) aJ,fun h=>absurd (h11.symm.trans h) aJ,fun h=>absurd (h11.symm.trans h) aJ⟩
theorem Fr.put8(h7:l7=true)(h11:l11=false){v:Value}(hS:Ee base B W1 h0 h1 (.slice A n c) (.slice A n c) ku ku gs xs)(hk:∀x∈ks,Pg base (.slice A n c) ku W1 x)
  (hown:W.ownsRow base 3 1 v (gs.length+1) (De gs++[.int .i64 (g:Int)])) (hg:W1.grownBy W (Value.slice A n c).ownBlock) (hwh:v.ownBlock=(Value.slice A n c).ownBlock\/∃k,v.ownBlock=some k/\W1.heap.size<=k):
  Fr base B W1 h0 h1 A n c ku gs xs ks g l7 true l11 u7 v W/\∃A6 c6,v=.slice A6 (gs++[g]).length c6:=by
 obtain⟨A6,c6,e,h1,h2⟩:=hS.pushT hown hg hwh;exact⟨⟨fun h=>absurd (h7.symm.trans h) aJ,fun _ h=>Bool.noConfusion h,fun _ _=>⟨A6,c6,e,h1,h2,fun x hx=>(hk x hx).appT hg hwh⟩,fun h=>absurd (h11.symm.trans h) aJ,fun h=>absurd (h11.symm.trans h) aJ⟩,A6,c6,e⟩
theorem Fr.put11(h:Fr base B W1 h0 h1 A n c ku gs xs ks g l7 l8 l11 u7 u8 W)(h7:l7=true)(h8:l8=true)(h11:l11=false){W':World}(hW:W'=W.setCell ⟨B,2,none⟩ u8):Fr base B W1 h0 h1 A n c ku gs xs ks g l7 l8 true u7 u8 W':=by
 subst hW;obtain⟨A6,c6,e,hS,hb,hk⟩:=h.p2 h8 h11;have hB:=hS.hB;have hk2:∀x∈ks,Pg base u8 ku (W.setCell ⟨B,2,none⟩ u8) x:=fun x hx=>Fl.grown (hk x hx) (Am W B 2 u8) fun c hc e=>by injection e with e;have:=hc.1;omega
 have hS2:=hS.set2;rw[e]at hS2 hk2 ⊢;exact⟨fun h=>absurd (h7.symm.trans h) aJ,fun _ h=>absurd (h8.symm.trans h) aJ,fun _ h=>Bool.noConfusion h,fun _=>⟨A6,c6,hS2,(hb.mono (Nat.le_of_lt hS.hB)).setCell (p:=⟨B,2,none⟩) (An B) _,hk2⟩,fun _ b o h1 h2=>((Am W B 2 _).cell_far ⟨b,o,none⟩ (ac (ac h1 hS.bs) (An _)) (by simp;exact h2)).trans (hb.cell (p:=⟨b,o,none⟩) h1)⟩
end
theorem Qnz(w0:World)(xs:List (Ty × Value))(xv:Value)(hxv:xv.oneCell'=true)(hsc:Gb w0 xv xs)(k:Kd)(hk:Ck k)(hsg:k.signs=[])(hbs:k.base=[64])(nm:List UInt8)(fs:List Fd)(tv:Value)(hx:Dy xs k.name=some (⟨69,nm,fs⟩,tv))(hfs:Dq w0 tv fs)(htg:∀f∈fs,f.tag<=200)
  (d:Nat) (hd:d<=1000) (z:List UInt8) (w:World) (hw:Below w0 w0 w) (hz:z.length<=1000000) (o:Option (Fd × List UInt8)) (ho:o=G0 fs z):
  Calls prog 160 #[.agg #[xv],(35::z:List UInt8),.string ⟨(Ax k).toArray⟩,.int .i64 ((d+1:Nat):Int)] w (Bx (Ad xs) k (enL o) w):=by
 have hkd:∀g,Cd (Ad xs) k (.mk 69 [] g [])=.mk (Ax k) [69] [g] []:=Qq (Ad xs) k;generalize (((d+1:Nat):Int))=dd at *;obtain⟨A9,c9,rfl,hl9,_⟩:=hfs;have HFs:=@Aa (∀W,Below w0 w0 W->Dq W (.slice A9 fs.length c9) fs) (fun W hW=>Dq.below (show Dq w0 (.slice A9 fs.length c9) fs from⟨A9,c9,rfl,hl9,by assumption⟩) hW)
 have Hr:=Aa (show ∀W,Below w0 w0 W->Calls prog 101 #[xv,.string ⟨(Ax k).toArray⟩] W fun e w'=>e=.returned (.tuple #[.agg #[.int .u8 69,nm,.slice A9 fs.length c9],.bool true])/\Below W W w' from fun W hW=>by
  have h:=Ey xv xs k W (hsc.below hW) hk;rw[show Jq xs k=some (⟨69,nm,fs⟩,.slice A9 fs.length c9)from by unfold Jq;rw[if_pos ⟨hsg,hbs⟩];exact hx]at h;exact h)
 have HT:=@Aa (∀W,Below w0 w0 W->Calls prog 207 #[.agg #[xv],z,.agg #[.int .u8 69,nm,.slice A9 fs.length c9]] W (Nj (G0 fs z) z W)) (fun W hW=>Y8 xv (.int .u8 69) nm _ hxv rfl rfl fs z W (HFs.o W hW) htg aH);have hkl:(Ax k).length<=100:=cd;have hzl:z.length<=1000000:=hz;have Ho:=Aa ho;rw[<-ho]at HT;have Hw:=Aa hw;have Hkd:=Aa hkd;generalize Ax k=kb at *;clear hw hx hsc htg ho;go_enter func160,ntmps160;go_wp2_with fail;refine(Hr.o _ (Hw.o.alloc Hw.o.size _)).mono ?_;rintro e w1 ⟨rfl,hb1⟩;have hz1:=hb1.size;simp only[World.size_alloc]at hz1;have Hb1:=Aa (((Ao w.heap.size w).alloc (An _) _).trans (hb1.mono aK));have X0:=@Aa (w1.cell? (w,0)=some xv) eo;clear hb1;go_upto_region 5 with fail
 obtain⟨w2,hw2⟩:∃w2,w2=w1.alloc (.cells #[.int .u8 69,nm,.slice A9 fs.length c9] 143):=⟨_,rfl⟩
 have Hb2:=@Aa (Below w w w2) dY;have Hl0:=@Aa (w.heap.size<w2.drew.heap.size) gj;have Hl1:=@Aa (w1.heap.size<w2.drew.heap.size) ge;have X0:=@Aa (w2.drew.cell? (w,0)=some xv) eC;have X1:=@Aa (w2.drew.cell? (w1,0)=some (.int .u8 69)) cR;have X2:=@Aa (w2.drew.cell? (w1,1)=nm) cR;have X3:=@Aa (w2.drew.cell? (w1,2)=some (.slice A9 fs.length c9)) cR;have HC:=@Aa (∀W,Below w2.drew.heap.size w2.drew W->Calls prog 207 #[.agg #[xv],z,.agg #[.int .u8 69,nm,.slice A9 fs.length c9]] W (Nj o z W)) (fun W hW=>HT.o W ((Hw.o.trans (Hb2.o.mono Hw.o.size)).trans ((Ao _ _).drew.trans (hW.mono aK) |>.mono (ad Hw.o.size Hb2.o.size))));rw[<-hw2];clear hw2;refine Jd [58,59,60,61,62,57,63,64,65,13,999,14,15]
  (fun ix v W=>match ix with|0=>v=.agg #[xv]|1=>v=(35::z:List UInt8)|2=>v=(z:List UInt8)|3=>v=.agg #[.int .u8 69,nm,.slice A9 fs.length c9]|_=>True)
  (fun L U W=>Jj w2.drew o z (L 4) (L 5) (L 6) (L 7) (L 8) (L 9) (L 10) (L 11) (L 12) (U 4) (U 5) (U 6) (U 7) (U 8) (U 9) (U 11) (U 12) W) (Jj.start) ?_ ?_
 ·exact hH
 rintro L U W hL hφ hR;clear hφ;obtain⟨n,a,b,c,r,B,hF,u9,u11,u12,hB1,hB2,hrg,hbe⟩:=hR.fin (hL 4 aJ) (hL 6 aJ) (hL 9 aJ) (hL 10 aJ) (hL 11 aJ) (hL 12 aJ);simp only[u9,u11,u12];clear hR hL u9 u11 u12;have y0:W.cell? (B,0)=(n:Int):=fB;have HF:=Aa hF;have HB:=@Aa (Below w w W) (Hb2.o.trans (((Ao _ _).drew.trans (hbe.mono aK)).mono Hb2.o.size));clear hbe hrg hF;go_wp2_with fail;refine aF (v:=.tuple #[.pointer (some ⟨W.heap.size+1,0,none⟩),r,.bool o.isSome]) (by simp[results,results160,go_sem]) rfl ?_;have hbf:=(HB.o.alloc HB.o.size (.cells #[(n:Int)] 3)).alloc (by simp;have:=HB.o.size;omega) (.cells #[kb,.string ⟨#[69]⟩,.slice (some ⟨W.heap.size,0,none⟩) 1 1,.slice none 0 0] 148);cases o with
 |none=>exact Bx.no rfl rfl hbf
 |some y=>
  obtain⟨f,q⟩:=y;obtain⟨rfl,_,_,_,rfl⟩:=HF.o.2.2 f q rfl;refine⟨⟨W.heap.size+1,rfl,?_⟩,hbf⟩;have hsz:=HB.o.size;rw[Hkd.o];refine .mk kb [69] [f.tag] (some ⟨W.heap.size,0,none⟩) none 1 0 [] rfl aK (by show w.heap.size<=W.heap.size+1;omega) (by go_simp) (by go_simp) (by go_simp) (by go_simp) ⟨rfl,by simp[maxLen],fun _=>⟨W.heap.size,0,rfl,by simp;omega,fun j u hu=>?_⟩⟩ ⟨rfl,ag _,fun h=>absurd h aK⟩ aK aK (fun g o _ e=>?_) (fun _ _ h=>absurd h aK) (fun x hx=>?_)
  ·match j,hu with
   |0,hu=>
    simp[De]at hu;subst hu;go_simp
   |j+1,hu=>simp[De]at hu
  ·injection e with e;injection e with e;subst e;exact hsz
  simp at hx
end
end Go.Proofs.YtmmhmlmfhpfgbaaGreatDoor
