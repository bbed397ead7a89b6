/- Texts joined. Conditions: as each theorem names them. -/
import Derived.Test.YtpjijpcemejlnaaGreatDoorM22
import Derived.Test.YtpjijpcemejlnaaGreatDoorM25
set_option maxRecDepth 100000
set_option maxHeartbeats 32000000
set_option linter.unusedVariables false
set_option linter.unusedSimpArgs false
namespace Go.Proofs.YtpjijpcemejlnaaGreatDoor
open Go.RowKit Go.Proofs.Tryz
section
attribute [local go_sem] Qkk Qj0 Qjm Qhu ByteArray.mk_append_mk
def Mg(o:Option (Fd × List UInt8))(s:List UInt8)(w:World)(e:Ending)(w':World):Prop:=
 ∃(n:Nat) (a b c r:List UInt8),e=.returned (.tuple #[.agg #[(n:Int),a,b,c],r,.bool o.isSome])/\Below w w w'/\r.length<=s.length/\n<=1000000000 /\
  ∀f q,o=some (f,q)->n=f.tag/\a=f.name/\b=Bn f.kind/\c=f.given/\r=q
theorem Qiw(fs:List Fd)(s:List UInt8):Fj fs s=if Dn (s.takeWhile Ba) 200 then(match Ci (s.takeWhile Ba)with|some n=>(Bf fs n).map (fun f=>(f,s.dropWhile Ba))|none=>none)else none:=by
 unfold Fj Ql Dn;cases h:Ci (s.takeWhile Ba)with
 |none=>rfl
 |some n=>
  simp only;by_cases hn:n<=200
  ·simp only[hn,if_true,decide_true];cases Bf fs n<;>rfl
  simp[hn]
theorem Tp(xv st nm fv:Value)(hxv:xv.oneCell'=true)(hst:st.oneCell'=true)(hnm:nm.oneCell'=true)(fs:List Fd)(s:List UInt8)(w:World)(h:Dl w fv fs)(htg:∀f∈fs,f.tag<=200)(hs:s.length<=4000000):
  Calls prog 159 #[.agg #[xv],s,.agg #[st,nm,fv]] w (Mg (Fj fs s) s w):=by
 obtain⟨A9,c9,rfl,hl9,hr9⟩:=h;have Hfs:=@Aa (Dl w (.slice A9 fs.length c9) fs) ⟨A9,c9,rfl,hl9,hr9⟩;have HQ:=Aa (Qiw fs s);obtain⟨e1,e2,hle⟩:=Qs Ba s;have Hd:=Aa (fun W=>S4 s W hs);have Hn:=Aa (fun W=>Df (s.takeWhile Ba) 200 W aH aL);have E1:=Aa e1;have E2:=Aa e2;have k1:((s.takeWhile Ba).length:Int)<=(s.length:Int):=aH;have Hdl:=Aa (show (s.dropWhile Ba).length<=s.length by rw[<-e2];simp);generalize (s.takeWhile Ba).length=n at *;generalize s.takeWhile Ba=tw at *;generalize s.dropWhile Ba=dw at *;have k2:(0:Int)<=(n:Int):=aH;have k3:((n:Int)).toNat=n:=aH;have hn8:n<=4000000:=aH;have Htg:=Aa htg;clear e1 e2 hr9 htg;go_enter func159,ntmps159;go_wp2_with fail;refine(Hd.o _).mono ?_;rintro e w1 ⟨rfl,rfl⟩;go_wp2_with fail;rw[E1.o];refine(Hn.o _).mono ?_;rintro e w2 ⟨m,hm,rfl,hdm,hb2⟩;have Hdm:=Aa hdm;have Hb2:=Aa ((((At w.heap.size w).alloc (Ao _) (.cells #[xv] 73)).alloc aM (.cells #[st,nm,.slice A9 fs.length c9] 90)).alloc aN (.cells #[.int .i64 0,aa,aa,aa] 94) |>.trans (hb2.mono aN));obtain⟨hc2,hfz2,hzz2⟩:=By hb2;have hz2:=hb2.size;simp only[World.size_alloc]at hz2;have Hf2:=Aa (fun W (hW:Below w w W)=>Xe st nm (.slice A9 fs.length c9) fs m W (Hfs.o.below hW) aH);generalize hok0:Dn tw 200=ok at *;have Hok:=Aa hok0;clear hok0;clear hdm hb2;go_wp2_with fail;refine(Hf2.o _ Hb2.o).mono ?_;rintro e w3 ⟨rfl,hb3⟩;have Hb3:=Aa (Hb2.o.trans (hb3.mono Hb2.o.size));obtain⟨hc3,hfz3,hzz3⟩:=By hb3;have hz3:=hb3.size;have hcc:∀b o,b<w.heap.size+3->w3.cell? ⟨b,o,none⟩=w2.cell? ⟨b,o,none⟩:=fun b o h=>hc3 b o aH;clear hb3 Hf2 hzz2 hzz3;obtain⟨n0,a,b,c,is,hsf,hn0,his,hfd⟩:∃(n0:Nat) (a b c:List UInt8) (is:Bool),sfR (Bf fs m)=.tuple #[.agg #[(n0:Int),a,.string ⟨b.toArray⟩,c],.bool is]/\n0<=1000000000/\(Bf fs m).isSome=is/\∀f,Bf fs m=some f->n0=f.tag/\a=f.name/\b=Bn f.kind/\c=f.given:=by
  cases hf:Bf fs m with
  |none=>exact⟨0,[],[],[],false,rfl,by omega,rfl,fun f h=>by cases h⟩
  |some f=>exact⟨f.tag,f.name,Bn f.kind,f.given,true,rfl,by have:=Htg.o f (List.mem_of_find?_eq_some hf);omega,rfl,fun g h=>by injection h with h;subst h;exact⟨rfl,rfl,rfl,rfl⟩⟩
 rw[hsf];have Hfd:=Aa (And.intro his hfd);clear hsf his hfd;go_wp2_with fail;have F0:w3.cell? (w.heap.size+1+1,0)=some (.int .i64 0):=fI;have F1:w3.cell? (w.heap.size+1+1,1)=aa:=fI;have F2:w3.cell? (w.heap.size+1+1,2)=aa:=fI;have F3:w3.cell? (w.heap.size+1+1,3)=aa:=fI;have Z0:w3.frozen? (w.heap.size+1+1,0)=false:=fD;have Z1:w3.frozen? (w.heap.size+1+1,1)=false:=fD;have Z2:w3.frozen? (w.heap.size+1+1,2)=false:=fD;have Z3:w3.frozen? (w.heap.size+1+1,3)=false:=fD;have hb6:w.heap.size+1+1<w3.heap.size:=aH;clear hc2 hfz2 hc3 hfz3 hcc;cases ok with
 |true=>
  refine M4 [29,30,31,32,33,34,35,36,999,7,8]
   (fun ix v W=>match ix with|0=>v=.agg #[(n0:Int),a,.string ⟨b.toArray⟩,c]|1=>v=(s:List UInt8)|2=>v=(n:Int)|3=>v=(dw:List UInt8)|4=>v=.bool true|5=>v=.bool true|6=>v=.bool is|7=>v=.bool is|9=>v=(dw:List UInt8)|10=>v=.bool is|_=>True)
   (fun L U W=>(L 8=false->W=(w3.alloc (.cells #[(n0:Int),a,.string ⟨b.toArray⟩,c] 94)).drew)/\(L 8=true->Below w w W/\W.cell? (w.heap.size+1+1,0)=(n0:Int)/\W.cell? (w.heap.size+1+1,1)=a/\W.cell? (w.heap.size+1+1,2)=some (.string ⟨b.toArray⟩)/\W.cell? (w.heap.size+1+1,3)=c)) (⟨fun _=>rfl,fun h=>Bool.noConfusion h⟩) ?_ ?_
  ·exact fU
  rintro L U W hL hφ hR;have e9:U 9=(dw:List UInt8):=hφ 9 aL;have e10:U 10=.bool is:=hφ 10 aL;clear hφ;obtain⟨Hbw,c0,c1,c2,c3⟩:=hR.2 (hL 8 aL);have HBW:=Aa Hbw;clear hL hR Hbw;simp only[e9,e10];go_wp2_with fail;refine aF (v:=.tuple #[.agg #[(n0:Int),a,.string ⟨b.toArray⟩,c],dw,.bool is]) (by simp[results,results159,go_sem,c0,c1,c2,c3]) rfl ?_;obtain⟨his,hfd⟩:=Hfd.o;have HQ:=HQ.o;have hok:=Hok.o;cases hdm:Ci tw with
  |none=>rw[M0 hdm]at hok;cases hok
  |some m'=>
   rw[hdm]at HQ;simp only[if_true]at HQ;have hm':=Hdm.o m' hdm;subst hm';rw[HQ];refine⟨n0,a,b,c,dw,by rw[Option.isSome_map,his],HBW.o,Hdl.o,hn0,fun f q h=>?_⟩;cases hf:Bf fs m' with
   |none=>rw[hf]at h;cases h
   |some g=>
    rw[hf]at h;injection h with h;injection h with h1 h2;subst h1 h2;obtain⟨q1,q2,q3,q4⟩:=hfd g hf;exact⟨q1,q2,q3,q4,rfl⟩
 |false=>
  refine M4 [29,30,31,32,33,34,35,36,999,7,8]
   (fun ix v W=>match ix with|0=>v=.agg #[(n0:Int),a,.string ⟨b.toArray⟩,c]|1=>v=(s:List UInt8)|2=>v=(n:Int)|3=>v=(dw:List UInt8)|4=>v=.bool false|5=>v=.bool false|7=>v=.bool false|9=>v=(dw:List UInt8)|10=>v=.bool false|_=>True)
   (fun L U W=>(L 8=false->W=(w3.alloc (.cells #[(n0:Int),a,.string ⟨b.toArray⟩,c] 94)).drew)/\(L 8=true->Below w w W/\W.cell? (w.heap.size+1+1,0)=(n0:Int)/\W.cell? (w.heap.size+1+1,1)=a/\W.cell? (w.heap.size+1+1,2)=some (.string ⟨b.toArray⟩)/\W.cell? (w.heap.size+1+1,3)=c)) (⟨fun _=>rfl,fun h=>Bool.noConfusion h⟩) ?_ ?_
  ·exact fU
  rintro L U W hL hφ hR;have e9:U 9=(dw:List UInt8):=hφ 9 aL;have e10:U 10=.bool false:=hφ 10 aL;clear hφ;obtain⟨Hbw,c0,c1,c2,c3⟩:=hR.2 (hL 8 aL);have HBW:=Aa Hbw;clear hL hR Hbw;simp only[e9,e10];go_wp2_with fail;refine aF (v:=.tuple #[.agg #[(n0:Int),a,.string ⟨b.toArray⟩,c],dw,.bool false]) (by simp[results,results159,go_sem,c0,c1,c2,c3]) rfl ?_;obtain⟨his,hfd⟩:=Hfd.o;have HQ:=HQ.o;have hok:=Hok.o;simp only[ao,if_false]at HQ;rw[HQ];exact⟨n0,a,b,c,dw,rfl,HBW.o,Hdl.o,hn0,fun f q h=>by cases h⟩
end
def enL(o:Option (Fd × List UInt8)):Option (Vl × List UInt8):=match o with|some (f,q)=>some (.mk 69 [] f.tag [],q)|none=>none
def unL(R:Kd->List UInt8->Option (Vl × List UInt8))(o:Option (Fd × List UInt8)):Option (Vl × List UInt8):=match o with
 |none=>none
 |some (f,r)=>match Ap 61 r with
  |none=>none
  |some q=>match R f.kind q with
   |none=>none
   |some (v,q)=>match Ap 62 q with|some z'=>some (.mk 85 [] f.tag [v],z')|none=>none
def StF(o:Option (Fd × List UInt8))(s:List UInt8)(n:Nat)(a b c r:List UInt8):Prop:=
 r.length<=s.length/\n<=1000000000/\∀f q,o=some (f,q)->n=f.tag/\a=f.name/\b=Bn f.kind/\c=f.given/\r=q
theorem Mg.q{o:Option (Fd × List UInt8)}{s:List UInt8}{w w':World}{e:Ending}(h:Mg o s w e w'):∃(n:Nat) (a b c r:List UInt8),e=.returned (.tuple #[.agg #[(n:Int),a,b,c],r,.bool o.isSome])/\StF o s n a b c r/\Below w w w':=by
 obtain⟨n,a,b,c,r,h1,h2,h3,h4,h5⟩:=h;exact⟨n,a,b,c,r,h1,⟨h3,h4,h5⟩,h2⟩
structure Gp(w1:World)(o:Option (Fd × List UInt8))(s:List UInt8)(l m x y z al st p q:Bool)(ul um ux uy uz ual up uq:Value)(W:World):Prop where
 be:Below w1 w1 W
 yes:l=true->∃(n:Nat) (a b c r:List UInt8),StF o s n a b c r/\ul=.tuple #[.agg #[(n:Int),a,b,c],r,.bool o.isSome] /\
  (m=true->um=.tuple #[.agg #[(n:Int),a,b,c],r,.bool o.isSome]) /\
  (x=true->ux=.agg #[(n:Int),a,b,c])/\(y=true->uy=r)/\(z=true->uz=.bool o.isSome)/\(p=true->up=r)/\(q=true->uq=.bool o.isSome)
 al:al=true->∃B,ual=.pointer (some ⟨B,0,none⟩)/\w1.heap.size<=B/\B<W.heap.size/\W.there B 0 4/\(st=true->∃cs:List Value,ux=.agg cs.toArray/\W.rangeAt B 0 cs)
section
variable {w1 W W':World} {o:Option (Fd × List UInt8)} {s:List UInt8} {l m x y z al st p q:Bool} {ul um ux uy uz ual up uq:Value} {n:Nat} {a b c r:List UInt8} {B:Nat}
theorem Gp.start:Gp w1 o s false m x y z false st p q ul um ux uy uz ual up uq w1:=⟨At _ _,fun h=>Bool.noConfusion h,fun h=>Bool.noConfusion h⟩
theorem Gp.call(h:Gp w1 o s l m x y z al st p q ul um ux uy uz ual up uq W)(hm:m=false)(hx:x=false)(hy:y=false)(hz:z=false)(hst:st=false)(hp:p=false)(hq:q=false)(hF:StF o s n a b c r)(hb:Below W W W'):
  Gp w1 o s true m x y z al st p q (.tuple #[.agg #[(n:Int),a,b,c],r,.bool o.isSome]) um ux uy uz ual up uq W':=by
 subst hm hx hy hz hst hp hq;refine⟨h.be.trans (hb.mono h.be.size),fun _=>⟨n,a,b,c,r,hF,rfl,fun h=>Bool.noConfusion h,fun h=>Bool.noConfusion h,fun h=>Bool.noConfusion h,fun h=>Bool.noConfusion h,fun h=>Bool.noConfusion h,fun h=>Bool.noConfusion h⟩,fun ha=>?_⟩;obtain⟨B,h1,h2,h3,h4,_⟩:=h.al ha;exact⟨B,h1,h2,ad h3 hb.size,Au h4 h3 hb,fun h=>Bool.noConfusion h⟩
theorem Gp.move(h:Gp w1 o s l m x y z al st p q ul um ux uy uz ual up uq W)(hl:l=true):Gp w1 o s l true x y z al st p q ul ul ux uy uz ual up uq W:=
 ⟨h.be,fun hl=>by obtain⟨n,a,b,c,r,h1,h2,_,h4⟩:=h.yes hl;exact⟨n,a,b,c,r,h1,h2,fun _=>h2,h4⟩,h.al⟩
theorem Gp.get(h:Gp w1 o s l m x y z al st p q ul um ux uy uz ual up uq W)(hl:l=true)(hm:m=true)(hst:x=false->st=false):∃(n:Nat) (a b c r:List UInt8),um=.tuple #[.agg #[(n:Int),a,b,c],r,.bool o.isSome] /\
  (x=false->Gp w1 o s l m true y z al st p q ul um (.agg #[(n:Int),a,b,c]) uy uz ual up uq W)/\Gp w1 o s l m x true z al st p q ul um ux r uz ual up uq W/\Gp w1 o s l m x y true al st p q ul um ux uy (.bool o.isSome) ual up uq W:=by
 obtain⟨n,a,b,c,r,h1,h2,h3,h4,h5,h6,h7⟩:=h.yes hl;refine⟨n,a,b,c,r,h3 hm,fun hx=>⟨h.be,fun _=>⟨n,a,b,c,r,h1,h2,h3,fun _=>rfl,h5,h6,h7⟩,fun ha=>?_⟩,⟨h.be,fun _=>⟨n,a,b,c,r,h1,h2,h3,h4,fun _=>rfl,h6,h7⟩,h.al⟩,⟨h.be,fun _=>⟨n,a,b,c,r,h1,h2,h3,h4,h5,fun _=>rfl,h7⟩,h.al⟩⟩;obtain⟨B,g1,g2,g3,g4,_⟩:=h.al ha;exact⟨B,g1,g2,g3,g4,fun hs=>absurd ((hst hx).symm.trans hs) aL⟩
theorem Gp.as1(h:Gp w1 o s l m x y z al st p q ul um ux uy uz ual up uq W)(hy:y=true):Gp w1 o s l m x y z al st true q ul um ux uy uz ual uy uq W:=
 ⟨h.be,fun hl=>by obtain⟨n,a,b,c,r,h1,h2,h3,h4,h5,h6,_,h7⟩:=h.yes hl;exact⟨n,a,b,c,r,h1,h2,h3,h4,h5,h6,fun _=>h5 hy,h7⟩,h.al⟩
theorem Gp.as2(h:Gp w1 o s l m x y z al st p q ul um ux uy uz ual up uq W)(hz:z=true):Gp w1 o s l m x y z al st p true ul um ux uy uz ual up uz W:=
 ⟨h.be,fun hl=>by obtain⟨n,a,b,c,r,h1,h2,h3,h4,h5,h6,h7,_⟩:=h.yes hl;exact⟨n,a,b,c,r,h1,h2,h3,h4,h5,h6,h7,fun _=>h6 hz⟩,h.al⟩
theorem Gp.alloc(h:Gp w1 o s l m x y z al st p q ul um ux uy uz ual up uq W)(hst:st=false)(T:TypeId):Gp w1 o s l m x y z true st p q ul um ux uy uz W.heap.size up uq (W.alloc (.cells #[.int .i64 0,aa,aa,aa] T)):=
 ⟨h.be.alloc h.be.size _,h.yes,fun _=>⟨_,rfl,h.be.size,by simp,Ct W [.int .i64 0,aa,aa,aa] T,fun h=>absurd (hst.symm.trans h) aL⟩⟩
theorem Gp.store(h:Gp w1 o s l m x y z al st p q ul um ux uy uz ual up uq W)(ha:al=true)(ex:ux=.agg #[(n:Int),a,b,c])(el:ual=B):
  W.there B 0 4/\Gp w1 o s l m x y z al true p q ul um ux uy uz ual up uq (W.setCells B 0 [(n:Int),a,b,c]):=by
 obtain⟨B',g1,g2,g3,g4,_⟩:=h.al ha;rw[el]at g1;injection g1 with g1;injection g1 with g1;injection g1 with g1;subst g1;exact⟨g4,Aj _ g2 _ _ _ h.be,h.yes,fun _=>⟨B,el,g2,by rw[C4];exact g3,aj g4 _ _ _,fun _=>⟨_,ex,ac _ _ _ _ g4⟩⟩⟩
theorem Gp.fin(h:Gp w1 o s l m x y z al st p q ul um ux uy uz ual up uq W)(hl:l=true)(hx:x=true)(ha:al=true)(hs:st=true)(hp:p=true)(hq:q=true):
  ∃(n:Nat) (a b c r:List UInt8) (B:Nat),StF o s n a b c r/\ual=.pointer (some ⟨B,0,none⟩)/\up=.string ⟨r.toArray⟩/\uq=.bool o.isSome/\w1.heap.size<=B/\B<W.heap.size/\W.rangeAt B 0 [.int .i64 (n:Int),.string ⟨a.toArray⟩,.string ⟨b.toArray⟩,.string ⟨c.toArray⟩]/\Below w1.heap.size w1 W:=by
 obtain⟨n,a,b,c,r,h1,h2,h3,h4,h5,h6,h7,h8⟩:=h.yes hl;obtain⟨B,g1,g2,g3,g4,g5⟩:=h.al ha;obtain⟨cs,e1,e2⟩:=g5 hs;have e3:=h4 hx;rw[e1]at e3;injection e3 with e3;have e4:cs=[.int .i64 (n:Int),.string ⟨a.toArray⟩,.string ⟨b.toArray⟩,.string ⟨c.toArray⟩]:=by simpa using e3
 exact⟨n,a,b,c,r,B,h1,g1,h7 hp,h8 hq,g2,g3,e4 ▸ e2,h.be⟩
end
section
variable {Q:World->Value->Value->Value->Prop} {w1 W W':World} {l m x y z a b e:Bool} {ul um ux uy uz ua ub ue vp vr vk:Value}
theorem Gg.call(hm:m=false)(hx:x=false)(hy:y=false)(hz:z=false)(ha:a=false)(hb:b=false)(he:e=false)(h:Q W vp vr vk):Gg Q w1 true m x y z a b e (.tuple #[vp,vr,vk]) um ux uy uz ua ub ue W:=by
 subst hm hx hy hz ha hb he;exact⟨fun h=>Bool.noConfusion h,fun _=>⟨vp,vr,vk,h,rfl,fun h=>Bool.noConfusion h,fun h=>Bool.noConfusion h,fun h=>Bool.noConfusion h,fun h=>Bool.noConfusion h,fun h=>Bool.noConfusion h,fun h=>Bool.noConfusion h,fun h=>Bool.noConfusion h⟩⟩
theorem Gg.call2(hx:x=false)(hy:y=false)(hz:z=false)(ha:a=false)(hb:b=false)(he:e=false)(h:Q W vp vr vk):Gg Q w1 true true x y z a b e (.tuple #[vp,vr,vk]) (.tuple #[vp,vr,vk]) ux uy uz ua ub ue W:=by
 subst hx hy hz ha hb he;exact⟨fun h=>Bool.noConfusion h,fun _=>⟨vp,vr,vk,h,rfl,fun _=>rfl,fun h=>Bool.noConfusion h,fun h=>Bool.noConfusion h,fun h=>Bool.noConfusion h,fun h=>Bool.noConfusion h,fun h=>Bool.noConfusion h,fun h=>Bool.noConfusion h⟩⟩
theorem Gg.move(h:Gg Q w1 l m x y z a b e ul um ux uy uz ua ub ue W)(hl:l=true):Gg Q w1 l true x y z a b e ul ul ux uy uz ua ub ue W:=
 ⟨h.no,fun hl=>by obtain⟨p,r,k,h1,h2,_,h3⟩:=h.yes hl;exact⟨p,r,k,h1,h2,fun _=>h2,h3⟩⟩
theorem Gg.get(h:Gg Q w1 l m x y z a b e ul um ux uy uz ua ub ue W)(hl:l=true)(hm:m=true):∃vp vr vk,um=.tuple #[vp,vr,vk]/\Gg Q w1 l m true y z a b e ul um vp uy uz ua ub ue W/\Gg Q w1 l m x true z a b e ul um ux vr uz ua ub ue W/\Gg Q w1 l m x y true a b e ul um ux uy vk ua ub ue W:=by
 obtain⟨p,r,k,h1,h2,h3,h4,h5,h6,h7⟩:=h.yes hl;exact⟨p,r,k,h3 hm,⟨h.no,fun _=>⟨p,r,k,h1,h2,h3,fun _=>rfl,h5,h6,h7⟩⟩,⟨h.no,fun _=>⟨p,r,k,h1,h2,h3,h4,fun _=>rfl,h6,h7⟩⟩,⟨h.no,fun _=>⟨p,r,k,h1,h2,h3,h4,h5,fun _=>rfl,h7⟩⟩⟩
theorem Gg.as0(h:Gg Q w1 l m x y z a b e ul um ux uy uz ua ub ue W)(hx:x=true):Gg Q w1 l m x y z true b e ul um ux uy uz ux ub ue W:=
 ⟨h.no,fun hl=>by obtain⟨p,r,k,h1,h2,h3,h4,h5,h6,_,h8,h9⟩:=h.yes hl;exact⟨p,r,k,h1,h2,h3,h4,h5,h6,fun _=>h4 hx,h8,h9⟩⟩
theorem Gg.as1(h:Gg Q w1 l m x y z a b e ul um ux uy uz ua ub ue W)(hy:y=true):Gg Q w1 l m x y z a true e ul um ux uy uz ua uy ue W:=
 ⟨h.no,fun hl=>by obtain⟨p,r,k,h1,h2,h3,h4,h5,h6,h7,_,h9⟩:=h.yes hl;exact⟨p,r,k,h1,h2,h3,h4,h5,h6,h7,fun _=>h5 hy,h9⟩⟩
theorem Gg.as2(h:Gg Q w1 l m x y z a b e ul um ux uy uz ua ub ue W)(hz:z=true):Gg Q w1 l m x y z a b true ul um ux uy uz ua ub uz W:=
 ⟨h.no,fun hl=>by obtain⟨p,r,k,h1,h2,h3,h4,h5,h6,h7,h8,_⟩:=h.yes hl;exact⟨p,r,k,h1,h2,h3,h4,h5,h6,h7,h8,fun _=>h6 hz⟩⟩
theorem Gg.fin(h:Gg Q w1 l m x y z a b e ul um ux uy uz ua ub ue W)(hl:l=true)(ha:a=true)(hb:b=true)(he:e=true):∃vp vr vk,Q W vp vr vk/\ua=vp/\ub=vr/\ue=vk:=by
 obtain⟨p,r,k,h1,_,_,_,_,_,h7,h8,h9⟩:=h.yes hl;exact⟨p,r,k,h1,h7 ha,h8 hb,h9 he⟩
end
structure Fg(w1:World)(kb:List UInt8)(n x:Nat)(l3 l5 l6 l7 l10:Bool)(u3 u5 u6 u7 u10:Value)(W:World):Prop where
 be:Below w1 w1 W
 a3:l3=true->∃B,u3=.slice (some ⟨B,0,none⟩) 1 1/\w1.heap.size<=B/\B<W.heap.size/\W.cell? ⟨B,0,none⟩=(n:Int)
 a5:l5=true->∃B,u5=.slice (some ⟨B,0,none⟩) 1 1/\w1.heap.size<=B/\B<W.heap.size/\W.cell? ⟨B,0,none⟩=x
 a6:l6=true->l3=true/\l5=true/\u6=.agg #[kb,.string ⟨#[85]⟩,u3,u5]
 a7:l7=true->l3=true/\l5=true/\∃B,u7=.pointer (some ⟨B,0,none⟩)/\w1.heap.size<=B/\B<W.heap.size/\W.cell? ⟨B,0,none⟩=kb/\W.cell? ⟨B,1,none⟩=some (.string ⟨#[85]⟩)/\W.cell? ⟨B,2,none⟩=some u3/\W.cell? ⟨B,3,none⟩=some u5
 a10:l10=true->u10=u7
section
variable {w1 W:World} {kb:List UInt8} {n x:Nat} {l3 l5 l6 l7 l10:Bool} {u3 u5 u6 u7 u10:Value}
theorem E0{w:World}{b o:Nat}{v:Value}{B:Obj}(hb:b<w.heap.size)(h:w.cell? ⟨b,o,none⟩=some v):(w.alloc B).cell? ⟨b,o,none⟩=some v:=
 ((At w.heap.size w).alloc (Ao _) B |>.cell (p:=⟨b,o,none⟩) hb).trans h
theorem Fg.start:Fg w1 kb n x false false false false false u3 u5 u6 u7 u10 w1:=
 ⟨At _ _,fun h=>Bool.noConfusion h,fun h=>Bool.noConfusion h,fun h=>Bool.noConfusion h,fun h=>Bool.noConfusion h,fun h=>Bool.noConfusion h⟩
theorem Fg.grow(h:Fg w1 kb n x l3 l5 l6 l7 l10 u3 u5 u6 u7 u10 W)(B:Obj):Fg w1 kb n x l3 l5 l6 l7 l10 u3 u5 u6 u7 u10 (W.alloc B):=by
 refine⟨h.be.alloc h.be.size _,fun q=>?_,fun q=>?_,h.a6,fun q=>?_,h.a10⟩
 ·obtain⟨b,e,h1,h2,h3⟩:=h.a3 q;exact⟨b,e,h1,by simp;omega,E0 h2 h3⟩
 ·obtain⟨b,e,h1,h2,h3⟩:=h.a5 q;exact⟨b,e,h1,by simp;omega,E0 h2 h3⟩
 obtain⟨q3,q5,b,e,h1,h2,c0,c1,c2,c3⟩:=h.a7 q;exact⟨q3,q5,b,e,h1,by simp;omega,E0 h2 c0,E0 h2 c1,E0 h2 c2,E0 h2 c3⟩
theorem Fg.put3(h:Fg w1 kb n x l3 l5 l6 l7 l10 u3 u5 u6 u7 u10 W)(h6:l6=false)(h7:l7=false)(T:TypeId):Fg w1 kb n x true l5 l6 l7 l10 (.slice (W,0) 1 1) u5 u6 u7 u10 (W.alloc (.cells #[(n:Int)] T)):=by
 have g:=h.grow (.cells #[(n:Int)] T);exact⟨g.be,fun _=>⟨_,rfl,h.be.size,by simp,by simp[go_sem]⟩,g.a5,fun q=>absurd (h6.symm.trans q) aL,fun q=>absurd (h7.symm.trans q) aL,g.a10⟩
theorem Fg.put5(h:Fg w1 kb n x l3 l5 l6 l7 l10 u3 u5 u6 u7 u10 W)(h6:l6=false)(h7:l7=false)(T:TypeId):Fg w1 kb n x l3 true l6 l7 l10 u3 (.slice (W,0) 1 1) u6 u7 u10 (W.alloc (.cells #[x] T)):=by
 have g:=h.grow (.cells #[x] T);exact⟨g.be,g.a3,fun _=>⟨_,rfl,h.be.size,by simp,by simp[go_sem]⟩,fun q=>absurd (h6.symm.trans q) aL,fun q=>absurd (h7.symm.trans q) aL,g.a10⟩
theorem Fg.put6(h:Fg w1 kb n x l3 l5 l6 l7 l10 u3 u5 u6 u7 u10 W)(h3:l3=true)(h5:l5=true){u:Value}(hu:u=.agg #[kb,.string ⟨#[85]⟩,u3,u5]):Fg w1 kb n x l3 l5 true l7 l10 u3 u5 u u7 u10 W:=
 ⟨h.be,h.a3,h.a5,fun _=>⟨h3,h5,hu⟩,h.a7,h.a10⟩
theorem Fg.put7(h:Fg w1 kb n x l3 l5 l6 l7 l10 u3 u5 u6 u7 u10 W)(h6:l6=true)(h10:l10=false){T:TypeId}{W':World}(hW:W'=W.alloc (.cells #[kb,.string ⟨#[85]⟩,u3,u5] T)):Fg w1 kb n x l3 l5 l6 true l10 u3 u5 u6 W.heap.size u10 W':=by
 subst hW;have g:=h.grow (.cells #[kb,.string ⟨#[85]⟩,u3,u5] T);obtain⟨h3,h5,_⟩:=h.a6 h6;exact⟨g.be,g.a3,g.a5,g.a6,fun _=>⟨h3,h5,_,rfl,h.be.size,by simp,by simp[go_sem],by simp[go_sem],by simp[go_sem],by simp[go_sem]⟩,fun q=>absurd (h10.symm.trans q) aL⟩
theorem Fg.put10(h:Fg w1 kb n x l3 l5 l6 l7 l10 u3 u5 u6 u7 u10 W):Fg w1 kb n x l3 l5 l6 l7 true u3 u5 u6 u7 u7 W:=⟨h.be,h.a3,h.a5,h.a6,h.a7,fun _=>rfl⟩
theorem Fg.fin(h:Fg w1 kb n x l3 l5 l6 l7 l10 u3 u5 u6 u7 u10 W)(h7:l7=true)(h10:l10=true){lo:Nat}(hlo:lo<=w1.heap.size){y:SV}(hy:Gb (fun c=>lo<=c) w1 x y):∃B,u10=.pointer (some ⟨B,0,none⟩)/\Gb (fun c=>lo<=c) W B (.mk kb [85] [n] [y]):=by
 obtain⟨h3,h5,B,e,h1,h2,c0,c1,c2,c3⟩:=h.a7 h7;obtain⟨B3,e3,p1,p2,p3⟩:=h.a3 h3;obtain⟨B5,e5,r1,r2,r3⟩:=h.a5 h5;refine⟨B,(h.a10 h10).trans e,?_⟩;rw[e3]at c2;rw[e5]at c3;refine .mk kb [85] [n] (B3,0) (B5,0) 1 1 [(x,y)] rfl h2 (ae hlo h1) c0 c1 c2 c3 ⟨rfl,by simp[maxLen],fun _=>⟨B3,0,rfl,p2,fun j u hu=>?_⟩⟩ ⟨rfl,by simp[maxLen],fun _=>⟨B5,0,rfl,r2,fun j u hu=>?_⟩⟩ aM aM (fun g o _ e=>?_) (fun g o _ e=>?_) (fun p hp=>?_)
 ·match j,hu with
  |0,hu=>simp[Dj]at hu;subst hu;simpa using p3
  |j+1,hu=>simp[Dj]at hu
 ·match j,hu with
  |0,hu=>simp[D9]at hu;subst hu;simpa using r3
  |j+1,hu=>simp[D9]at hu
 ·injection e with e;injection e with e;subst e;omega
 ·injection e with e;injection e with e;subst e;omega
 simp at hp;subst hp;exact hy.after h.be
end
section
attribute [local go_sem] Qkk Qj0 Qjm Qhu ByteArray.mk_append_mk
theorem Qj5(w0:World)(xs:List (Ty × Value))(xv:Value)(hxv:xv.oneCell'=true)(hsc:Ge w0 xv xs)(k:Kd)(hk:Cu k)(hsg:k.signs=[])(hbs:k.base=[64])(nm:List UInt8)(fs:List Fd)(tv:Value)(hx:Eb xs k.name=some (⟨69,nm,fs⟩,tv))(hfs:Dl w0 tv fs)(htg:∀f∈fs,f.tag<=200)
  (d:Nat) (hd:d<=1000) (z:List UInt8) (w:World) (hw:Below w0 w0 w) (hz:z.length<=1000000) (o:Option (Fd × List UInt8)) (ho:o=Fj fs z):
  Calls prog 125 #[.agg #[xv],(35::z:List UInt8),.string ⟨(Bn k).toArray⟩,.int .i64 ((d+1:Nat):Int)] w (Bm (Af xs) k (enL o) w):=by
 have hkd:∀g,B6 (Af xs) k (.mk 69 [] g [])=.mk (Bn k) [69] [g] []:=Q8 (Af xs) k;generalize (((d+1:Nat):Int))=dd at *;obtain⟨A9,c9,rfl,hl9,_⟩:=hfs;have HFs:=@Aa (∀W,Below w0 w0 W->Dl W (.slice A9 fs.length c9) fs) (fun W hW=>Dl.below (show Dl w0 (.slice A9 fs.length c9) fs from⟨A9,c9,rfl,hl9,by assumption⟩) hW)
 have Hr:=Aa (show ∀W,Below w0 w0 W->Calls prog 56 #[xv,.string ⟨(Bn k).toArray⟩] W fun e w'=>e=.returned (.tuple #[.agg #[.int .u8 69,nm,.slice A9 fs.length c9],.bool true])/\Below W W w' from fun W hW=>by
  have h:=Ev xv xs k W (hsc.below hW) hk;rw[show H4 xs k=some (⟨69,nm,fs⟩,.slice A9 fs.length c9)from by unfold H4;rw[if_pos ⟨hsg,hbs⟩];exact hx]at h;exact h)
 have HT:=@Aa (∀W,Below w0 w0 W->Calls prog 159 #[.agg #[xv],z,.agg #[.int .u8 69,nm,.slice A9 fs.length c9]] W (Mg (Fj fs z) z W)) (fun W hW=>Tp xv (.int .u8 69) nm _ hxv rfl rfl fs z W (HFs.o W hW) htg aH);have hkl:(Bn k).length<=100:=bR;have hzl:z.length<=1000000:=hz;have Ho:=Aa ho;rw[<-ho]at HT;have Hw:=Aa hw;have Hkd:=Aa hkd;generalize Bn k=kb at *;clear hw hx hsc htg ho;go_enter func125,ntmps125;go_wp2_with fail;refine(Hr.o _ (Hw.o.alloc Hw.o.size _)).mono ?_;rintro e w1 ⟨rfl,hb1⟩;have hz1:=hb1.size;simp only[World.size_alloc]at hz1;have Hb1:=Aa (((At w.heap.size w).alloc (Ao _) _).trans (hb1.mono aM));have X0:=@Aa (w1.cell? (w,0)=some xv) dC;clear hb1;go_upto_region 5 with fail
 obtain⟨w2,hw2⟩:∃w2,w2=w1.alloc (.cells #[.int .u8 69,nm,.slice A9 fs.length c9] 90):=⟨_,rfl⟩
 have Hb2:=@Aa (Below w w w2) dz;have Hl0:=@Aa (w.heap.size<w2.drew.heap.size) f7;have Hl1:=@Aa (w1.heap.size<w2.drew.heap.size) (by rw[hw2];simp);have X0:=@Aa (w2.drew.cell? (w,0)=some xv) dG;have X1:=@Aa (w2.drew.cell? (w1,0)=some (.int .u8 69)) cC;have X2:=@Aa (w2.drew.cell? (w1,1)=nm) cC;have X3:=@Aa (w2.drew.cell? (w1,2)=some (.slice A9 fs.length c9)) cC;have HC:=@Aa (∀W,Below w2.drew.heap.size w2.drew W->Calls prog 159 #[.agg #[xv],z,.agg #[.int .u8 69,nm,.slice A9 fs.length c9]] W (Mg o z W)) (fun W hW=>HT.o W ((Hw.o.trans (Hb2.o.mono Hw.o.size)).trans ((At _ _).drew.trans (hW.mono aM) |>.mono (ae Hw.o.size Hb2.o.size))));rw[<-hw2];clear hw2;refine M4 [58,59,60,61,62,57,63,64,65,13,999,14,15]
  (fun ix v W=>match ix with|0=>v=.agg #[xv]|1=>v=(35::z:List UInt8)|2=>v=(z:List UInt8)|3=>v=.agg #[.int .u8 69,nm,.slice A9 fs.length c9]|_=>True)
  (fun L U W=>Gp w2.drew o z (L 4) (L 5) (L 6) (L 7) (L 8) (L 9) (L 10) (L 11) (L 12) (U 4) (U 5) (U 6) (U 7) (U 8) (U 9) (U 11) (U 12) W) (Gp.start) ?_ ?_
 ·exact fO
 rintro L U W hL hφ hR;clear hφ;obtain⟨n,a,b,c,r,B,hF,u9,u11,u12,hB1,hB2,hrg,hbe⟩:=hR.fin (hL 4 aL) (hL 6 aL) (hL 9 aL) (hL 10 aL) (hL 11 aL) (hL 12 aL);simp only[u9,u11,u12];clear hR hL u9 u11 u12;have y0:W.cell? (B,0)=(n:Int):=by simpa using Ac hrg 0 rfl
 have HF:=Aa hF;have HB:=@Aa (Below w w W) (Hb2.o.trans (((At _ _).drew.trans (hbe.mono aM)).mono Hb2.o.size));clear hbe hrg hF;go_wp2_with fail;refine aF (v:=.tuple #[.pointer (some ⟨W.heap.size+1,0,none⟩),r,.bool o.isSome]) (by simp[results,results125,go_sem]) rfl ?_;have hbf:=(HB.o.alloc HB.o.size (.cells #[(n:Int)] 3)).alloc (by simp;have:=HB.o.size;omega) (.cells #[kb,.string ⟨#[69]⟩,.slice (some ⟨W.heap.size,0,none⟩) 1 1,.slice none 0 0] 87);cases o with
 |none=>exact Bm.no rfl rfl hbf
 |some y=>
  obtain⟨f,q⟩:=y;obtain⟨rfl,_,_,_,rfl⟩:=HF.o.2.2 f q rfl;refine⟨⟨W.heap.size+1,rfl,?_⟩,hbf⟩;have hsz:=HB.o.size;rw[Hkd.o];refine .mk kb [69] [f.tag] (some ⟨W.heap.size,0,none⟩) none 1 0 [] rfl aM (by show w.heap.size<=W.heap.size+1;omega) (by go_simp) (by go_simp) (by go_simp) (by go_simp) ⟨rfl,by simp[maxLen],fun _=>⟨W.heap.size,0,rfl,by simp;omega,fun j u hu=>?_⟩⟩ ⟨rfl,ah _,fun h=>absurd h aM⟩ aM aM (fun g o _ e=>?_) (fun _ _ h=>absurd h aM) (fun x hx=>?_)
  ·match j,hu with
   |0,hu=>
    simp[Dj]at hu;subst hu;go_simp
   |j+1,hu=>simp[Dj]at hu
  ·injection e with e;injection e with e;subst e;exact hsz
  simp at hx
theorem Qkb(w0:World)(xs:List (Ty × Value))(xv:Value)(hxv:xv.oneCell'=true)(hsc:Ge w0 xv xs)(k:Kd)(hk:Cu k)(hsg:k.signs=[])(hbs:k.base=[64])(nm:List UInt8)(fs:List Fd)(tv:Value)(hx:Eb xs k.name=some (⟨85,nm,fs⟩,tv))(hfs:Dl w0 tv fs)(htg:∀f∈fs,f.tag<=200)
  (d:Nat) (hd:d<=1000) (z:List UInt8) (w:World) (hw:Below w0 w0 w) (hz:z.length<=1000000) (o:Option (Fd × List UInt8)) (ho:o=Fj fs z) (H:∀k',Cu k'->SrC w0 (Af xs) xv k' d) (hfd:∀f∈fs,Cu f.kind) (htf:Bw (Af xs) k.name=some ⟨85,nm,fs⟩)
  (R:Kd->List UInt8->Option (Vl × List UInt8)) (hR0:R=Al (Af xs) 20 d):
  Calls prog 125 #[.agg #[xv],(60::z:List UInt8),.string ⟨(Bn k).toArray⟩,.int .i64 ((d+1:Nat):Int)] w (Bm (Af xs) k (unL R o) w):=by
 have hkd:∀f v,Bf fs f.tag=some f->B6 (Af xs) k (.mk 85 [] f.tag [v])=.mk (Bn k) [85] [f.tag] [B6 (Af xs) f.kind v]:=fun f v hf=>by rw[N3,Gr htf hf]
 have HRd:=@Aa (∀k',Cu k'->∀(s:List UInt8) (W:World),Below w0 w0 W->s.length<=1000000->Calls prog 78 #[.agg #[xv],s,.string ⟨(Bn k').toArray⟩,(d:Int)] W (Bm (Af xs) k' (R k' s) W)) (fun k' hk' s W hW hs=>by rw[hR0];exact H k' hk' s W hW hs)
 have HFd:=Aa (show ∀f r,o=some (f,r)->Cu f.kind/\(Bn f.kind).length<=100/\Bf fs f.tag=some f from fun f r h=>by
  obtain⟨_,h2,_⟩:=Jh (ho ▸ h);have:=hfd f (Qi h2).1;exact⟨this,by have:=this.2.2;omega,h2⟩)
 clear H hR0 hfd htf;have d1:(((d+1:Nat):Int)) - 1=(d:Int):=aH;have d4:(0:Int)<=(d:Int):=aH;have d5:(d:Int)<=1000:=aH;have hwd:IntKind.i64.wrap (d:Int)=(d:Int):=IntWalk.i64_in _ aH;generalize (((d+1:Nat):Int))=dd at *;obtain⟨A9,c9,rfl,hl9,_⟩:=hfs;have HFs:=@Aa (∀W,Below w0 w0 W->Dl W (.slice A9 fs.length c9) fs) (fun W hW=>Dl.below (show Dl w0 (.slice A9 fs.length c9) fs from⟨A9,c9,rfl,hl9,by assumption⟩) hW)
 have Hr:=Aa (show ∀W,Below w0 w0 W->Calls prog 56 #[xv,.string ⟨(Bn k).toArray⟩] W fun e w'=>e=.returned (.tuple #[.agg #[.int .u8 85,nm,.slice A9 fs.length c9],.bool true])/\Below W W w' from fun W hW=>by
  have h:=Ev xv xs k W (hsc.below hW) hk;rw[show H4 xs k=some (⟨85,nm,fs⟩,.slice A9 fs.length c9)from by unfold H4;rw[if_pos ⟨hsg,hbs⟩];exact hx]at h;exact h)
 have HT:=@Aa (∀W,Below w0 w0 W->Calls prog 159 #[.agg #[xv],z,.agg #[.int .u8 85,nm,.slice A9 fs.length c9]] W (Mg (Fj fs z) z W)) (fun W hW=>Tp xv (.int .u8 85) nm _ hxv rfl rfl fs z W (HFs.o W hW) htg aH);have hkl:(Bn k).length<=100:=bR;have hzl:z.length<=1000000:=hz;have Ho:=Aa ho;rw[<-ho]at HT;have Hw:=Aa hw;have Hkd:=Aa hkd;generalize Bn k=kb at *;clear hw hx hsc htg ho;go_enter func125,ntmps125;go_wp2_with fail;refine(Hr.o _ (Hw.o.alloc Hw.o.size _)).mono ?_;rintro e w1 ⟨rfl,hb1⟩;have hz1:=hb1.size;simp only[World.size_alloc]at hz1;have Hb1:=Aa (((At w.heap.size w).alloc (Ao _) _).trans (hb1.mono aM));have X0:=@Aa (w1.cell? (w,0)=some xv) dC;clear hb1;go_upto_region 8 with fail
 obtain⟨w2,hw2⟩:∃w2,w2=w1.alloc (.cells #[.int .u8 85,nm,.slice A9 fs.length c9] 90):=⟨_,rfl⟩
 have Hb2:=@Aa (Below w w w2) dz;have Hl0:=@Aa (w.heap.size<w2.drew.heap.size) f7;have Hl1:=@Aa (w1.heap.size<w2.drew.heap.size) (by rw[hw2];simp);have X0:=@Aa (w2.drew.cell? (w,0)=some xv) dG;have X1:=@Aa (w2.drew.cell? (w1,0)=some (.int .u8 85)) cC;have X2:=@Aa (w2.drew.cell? (w1,1)=nm) cC;have X3:=@Aa (w2.drew.cell? (w1,2)=some (.slice A9 fs.length c9)) cC;have HC:=@Aa (∀W,Below w2.drew.heap.size w2.drew W->Calls prog 159 #[.agg #[xv],z,.agg #[.int .u8 85,nm,.slice A9 fs.length c9]] W (Mg o z W)) (fun W hW=>HT.o W ((Hw.o.trans (Hb2.o.mono Hw.o.size)).trans ((At _ _).drew.trans (hW.mono aM) |>.mono (ae Hw.o.size Hb2.o.size))));rw[<-hw2];clear hw2;refine M4 [84,85,86,87,88,83,89,90,91,16,999,17,18]
  (fun ix v W=>match ix with|0=>v=.agg #[xv]|1=>v=(60::z:List UInt8)|2=>v=(z:List UInt8)|3=>v=.agg #[.int .u8 85,nm,.slice A9 fs.length c9]|_=>True)
  (fun L U W=>Gp w2.drew o z (L 4) (L 5) (L 6) (L 7) (L 8) (L 9) (L 10) (L 11) (L 12) (U 4) (U 5) (U 6) (U 7) (U 8) (U 9) (U 11) (U 12) W) (Gp.start) ?_ ?_
 ·exact fO
 rintro L U W hL hφ hR;clear hφ;obtain⟨n,a,b,c,r,B,hF,u9,u11,u12,hB1,hB2,hrg,hbe⟩:=hR.fin (hL 4 aL) (hL 6 aL) (hL 9 aL) (hL 10 aL) (hL 11 aL) (hL 12 aL);simp only[u9,u11,u12];clear hR hL u9 u11 u12;have HF:=Aa hF;have HB:=@Aa (Below w w W) (Hb2.o.trans (((At _ _).drew.trans (hbe.mono aM)).mono Hb2.o.size));have hl0:w.heap.size<W.heap.size:=by have:=Hl0.o;have:=hbe.size;omega
 have q0:W.cell? (w,0)=some xv:=(hbe.cell (p:=⟨w.heap.size,0,none⟩) Hl0.o).trans X0.o;have hBw:w.heap.size<=B:=by have:=Hl0.o;omega
 clear hbe hF;cases o with
 |none=>
  simp only[Option.isSome_none];clear hrg;go_wp2_with fail;refine aF (v:=.tuple #[.pointer none,(60::z:List UInt8),.bool false]) (by simp[results,results125,go_sem]) rfl ?_;exact Bm.no rfl rfl HB.o
 |some y=>
  obtain⟨f,q⟩:=y;obtain⟨rfl,rfl,rfl,rfl,rfl⟩:=HF.o.2.2 f q rfl;simp only[Option.isSome_some];have hrl:=HF.o.1;obtain⟨hkf,hkfl,hft⟩:=HFd.o f r rfl;have y0:W.cell? (B,0)=(f.tag:Int):=by simpa using Ac hrg 0 rfl
  have y2:W.cell? (B,2)=some (.string ⟨(Bn f.kind).toArray⟩):=by simpa using Ac hrg 2 rfl
  have HRd:=Aa (fun(s:List UInt8) (W:World) h1 h2=>HRd.o f.kind hkf s W h1 h2);have Hft:=Aa hft;generalize hkb2:Bn f.kind=kf at *;clear hrg hkf hft;cases r with
  |nil=>
   go_wp2_with fail;refine aF (v:=.tuple #[.pointer none,(60::z:List UInt8),.bool false]) (by simp[results,results125,go_sem]) rfl ?_;exact Bm.no rfl rfl HB.o
  |cons c9 q1=>
   by_cases h61:c9=61
   ·subst h61;have HU:=@Aa (unL R (some (f,61::q1))=match R f.kind q1 with|none=>none|some (v,q)=>(match Ap 62 q with|some z'=>some (.mk 85 [] f.tag [v],z')|none=>none)) (by first|(simp only[unL,Bo];done)|(simp only[unL,Bo];rfl));have t61:((((61:UInt8).toNat:Nat):Int) != 61)=false:=rfl;have HW9:=@Aa (Below w0 w0 W.drew) ((Hw.o.trans (HB.o.mono Hw.o.size)).drew);have hq1:q1.length<=1000000:=by simp at hrl;omega
    have HCR:=Aa (HRd.o q1 W.drew HW9.o hq1);generalize R f.kind q1=oq at *;simp only[List.length_cons]at hrl;go_wp2_with fail;refine Be [105,106,107,108,109,110,111,112,104,113,114,115,19,20,21] aP aP aP (fun u=>by dsimp only[Br,Bk,List.set,an,Nat.reduceAdd])
     (fun ix v W5=>match ix with|0=>v=.agg #[xv]|1=>v=(61::q1:List UInt8)|2=>v=(q1:List UInt8)|3=>v=(B,2)|4=>v=(kf:List UInt8)|5=>v=.int .i64 dd|6=>v=(d:Int)|_=>True)
     (fun L U W5=>Gg (SrQ W.drew (Af xs) f.kind oq) (W.drew) (L 7) (L 8) (L 9) (L 10) (L 11) (L 12) (L 13) (L 14) (U 7) (U 8) (U 9) (U 10) (U 11) (U 12) (U 13) (U 14) W5) (fun _ _=>True) (fun _ _ _ _ _ h=>h) (⟨fun _=>rfl,fun h=>Bool.noConfusion h⟩) ?_ ?_
    ·repeat (first|exact An.nil|(refine An.cons ?_ ?_;rotate_left))
     all_goals
      rintro L U W5 hL hpre hR hun hdep K hK;have HR:=Aa hR;have Hdep:=Aa hdep;clear hun hdep hR;first|(simp[Region.binds]at hpre;done)|simp[Region.binds]at hpre|clear hpre
     ·exact gV
     ·exact fK
     ·go_simp;rw[if_pos aH];go_simp;exact hK q1 _ _ rfl Ab HR.o aJ
     ·exact fK
     ·exact gW
     ·exact fK
     ·exact ig
     ·exact gz
     ·exact iw
     ·exact gQ
     ·exact gR
     ·exact gS
     ·exact iv
     ·exact ij
     ·exact ik
    rintro L U W5 hL hφ hR;clear hφ;obtain⟨vp,vr,vk,hq,ua,ub,ue⟩:=hR.fin (hL 7 aL) (hL 12 aL) (hL 13 aL) (hL 14 aL);simp only[ua,ub,ue];clear hR hL ua ub ue;have HB5:=@Aa (Below w w W5) ((HB.o.drew).trans (hq.1.mono (by simp;exact HB.o.size)));have y05:W5.cell? (B,0)=(f.tag:Int):=(hq.1.cell (p:=⟨B,0,none⟩) (by simpa using hB2)).trans y0;have hz5:=hq.1.size;simp only[World.size_drew]at hz5;obtain⟨_,hm⟩:=hq;cases oq with
    |none=>
     obtain⟨⟨q0,rfl⟩,⟨r0,rfl⟩,rfl⟩:=hm;have HN:=Aa HU.o;go_wp2_with fail;refine aF (v:=.tuple #[.pointer none,(60::z:List UInt8),.bool false]) (by simp[results,results125,go_sem]) rfl ?_;exact Bm.no HN.o rfl HB5.o
    |some y=>
     obtain⟨v,r1⟩:=y;obtain⟨⟨b5,rfl,hsv⟩,rfl,rfl⟩:=hm;have Hsv:=Aa hsv;clear hsv;cases r1 with
     |nil=>
      have HN:=Aa HU.o;go_wp2_with fail;refine aF (v:=.tuple #[.pointer none,(60::z:List UInt8),.bool false]) (by simp[results,results125,go_sem]) rfl ?_;exact Bm.no HN.o rfl HB5.o
     |cons c8 z8=>
      by_cases h62:c8=62
      ·subst h62;have HY:=@Aa (unL R (some (f,61::q1))=some (.mk 85 [] f.tag [v],z8)) (by rw[HU.o];simp only[Bo]);have t62:((((62:UInt8).toNat:Nat):Int) != 62)=false:=rfl;go_wp2_with fail;refine M4 [128,129,130,131,132,133,134,135,136,137,8,9,10]
        (fun ix v W=>match ix with|0=>v=(kb:List UInt8)|1=>v=B|2=>v=(f.tag:Int)|4=>v=b5|8=>v=(62::z8:List UInt8)|9=>v=(z8:List UInt8)|11=>v=(z8:List UInt8)|12=>v=.bool true|_=>True)
        (fun L U W=>Fg W5.drew kb f.tag b5 (L 3) (L 5) (L 6) (L 7) (L 10) (U 3) (U 5) (U 6) (U 7) (U 10) W) (Fg.start) ?_ ?_
       ·repeat (first|exact An.nil|(refine An.cons ?_ ?_;rotate_left))
        all_goals
         rintro L U W hL hpre HR Hdep K hK;first|(simp[Region.binds]at hpre;done)|simp[Region.binds]at hpre|clear hpre
        iterate 2
         ·exact fK
        ·have y06:=(HR.o.be.cell (p:=⟨B,0,none⟩) aN).trans ((aB _ _).trans y05);exact ju
        ·have h6:L 6=false:=Bi Hdep.o 6 3 rfl hL;have h7:L 7=false:=Bi Hdep.o 7 6 rfl h6;go_simp;exact hK _ _ _ Ab Ab (HR.o.put3 h6 h7 _) aJ
        ·exact fK
        ·have h6:L 6=false:=Bi Hdep.o 6 5 rfl hL;have h7:L 7=false:=Bi Hdep.o 7 6 rfl h6;go_simp;exact hK _ _ _ Ab Ab (HR.o.put5 h6 h7 _) aJ
        ·have l3:=hpre.2.1;have l5:=hpre.2.2;obtain⟨B3,u3,_⟩:=HR.o.a3 l3;obtain⟨B5,u5,_⟩:=HR.o.a5 l5;simp only[u3,u5];go_simp;exact hK (.agg #[kb,.string ⟨#[85]⟩,.slice (B3,0) 1 1,.slice (B5,0) 1 1]) _ _ Ab Ab (HR.o.put6 l3 l5 (by simp[u3,u5])) (by simp[Act.put,hpre,u3,u5])
        ·have l6:L 6=true:=aK;have u6:=(HR.o.a6 l6).2.2;have h10:L 10=false:=Bi Hdep.o 10 7 rfl hL;obtain⟨B3,u3,_⟩:=HR.o.a3 (HR.o.a6 l6).1;obtain⟨B5,u5,_⟩:=HR.o.a5 (HR.o.a6 l6).2.1;rw[u3,u5]at u6;simp only[u6];go_simp;exact hK _ _ _ Ab Ab (HR.o.put7 l6 h10 (by rw[u3,u5])) (by simp[Act.put,hpre,u6,u3,u5])
        ·exact fK
        ·go_simp;rw[if_pos aH];go_simp;exact hK z8 _ _ rfl Ab HR.o aJ
        ·go_simp;exact hK _ _ _ Ab Ab HR.o.put10 aJ
        iterate 2
         ·exact fK
       rintro L U W hL hφ hR;obtain⟨B7,u10,hS⟩:=hR.fin (hL 7 aL) (hL 10 aL) (lo:=w.heap.size) (by simp;exact HB5.o.size) ((Hsv.o.mono (fun c hc _=>ae (by simp;exact HB.o.size) hc)).after (At _ _).drew);have u11:U 11=(z8:List UInt8):=hφ 11 aL;have u12:U 12=.bool true:=hφ 12 aL;have hbe:=hR.be;simp only[u10,u11,u12];clear hR hL hφ u10 u11 u12;go_wp2_with fail;refine aF (v:=.tuple #[B7,z8,.bool true]) (by simp[results,results125,go_sem]) rfl ?_;rw[HY.o];refine⟨⟨B7,rfl,?_⟩,HB5.o.trans ((((At _ _).drew).trans (hbe.mono aM)).mono HB5.o.size)⟩;rw[Hkd.o f v Hft.o];exact hS
      have t62:((c8.toNat:Int) != 62)=true:=by have:=Aq h62;simpa using this
      have HN:=@Aa (unL R (some (f,61::q1))=none) (by rw[HU.o];simp only[Di h62]);clear h62;go_wp2_with fail;refine aF (v:=.tuple #[.pointer none,(60::z:List UInt8),.bool false]) (by simp[results,results125,go_sem]) rfl ?_;exact Bm.no HN.o rfl HB5.o
   have t61:((c9.toNat:Int) != 61)=true:=by have:=Aq h61;simpa using this
   have HN:=@Aa (unL R (some (f,c9::q1))=none) (by simp only[unL,Di h61]);clear h61;go_wp2_with fail;refine aF (v:=.tuple #[.pointer none,(60::z:List UInt8),.bool false]) (by simp[results,results125,go_sem]) rfl ?_;exact Bm.no HN.o rfl HB.o
theorem Qj7(w0:World)(xs:List (Ty × Value))(xv:Value)(hxv:xv.oneCell'=true)(hsc:Ge w0 xv xs)(k:Kd)(hk:Cu k)(hsg:k.signs=[])(hbs:k.base=[64])(nm:List UInt8)(fs:List Fd)(tv:Value)(hx:Eb xs k.name=some (⟨82,nm,fs⟩,tv))(hfs:Dl w0 tv fs)(htg:∀f∈fs,f.tag<=200)
  (d:Nat) (hd:d<=1000) (z:List UInt8) (w:World) (hw:Below w0 w0 w) (hz:z.length<=1000000) (o:Option (Fd × List UInt8)) (ho:o=Fj fs z) (q:Option (Vl × List UInt8))
  (HC:∀W,Below w0 w0 W->Calls prog 158 #[.agg #[xv],z,.string ⟨(Bn k).toArray⟩,.agg #[.int .u8 82,nm,tv],.int .i64 ((d+1:Nat):Int)] W (Bm (Af xs) k q W)):
  Calls prog 125 #[.agg #[xv],(123::z:List UInt8),.string ⟨(Bn k).toArray⟩,.int .i64 ((d+1:Nat):Int)] w (Bm (Af xs) k q w):=by
 have hkd:True:=Ab;have d2:(((d+1:Nat):Int))<=1001:=aH;generalize (((d+1:Nat):Int))=dd at *;have HC:=Aa HC;obtain⟨A9,c9,rfl,hl9,_⟩:=hfs;have HFs:=@Aa (∀W,Below w0 w0 W->Dl W (.slice A9 fs.length c9) fs) (fun W hW=>Dl.below (show Dl w0 (.slice A9 fs.length c9) fs from⟨A9,c9,rfl,hl9,by assumption⟩) hW)
 have Hr:=Aa (show ∀W,Below w0 w0 W->Calls prog 56 #[xv,.string ⟨(Bn k).toArray⟩] W fun e w'=>e=.returned (.tuple #[.agg #[.int .u8 82,nm,.slice A9 fs.length c9],.bool true])/\Below W W w' from fun W hW=>by
  have h:=Ev xv xs k W (hsc.below hW) hk;rw[show H4 xs k=some (⟨82,nm,fs⟩,.slice A9 fs.length c9)from by unfold H4;rw[if_pos ⟨hsg,hbs⟩];exact hx]at h;exact h)
 have hkl:(Bn k).length<=100:=bR;have hzl:z.length<=1000000:=hz;have Hw:=Aa hw;have Hkd:=Aa hkd;generalize Bn k=kb at *;clear hw hx hsc htg ho;go_enter func125,ntmps125;go_wp2_with fail;refine(Hr.o _ (Hw.o.alloc Hw.o.size _)).mono ?_;rintro e w1 ⟨rfl,hb1⟩;have hz1:=hb1.size;simp only[World.size_alloc]at hz1;have Hb1:=Aa (((At w.heap.size w).alloc (Ao _) _).trans (hb1.mono aM));have X0:=@Aa (w1.cell? (w,0)=some xv) dC;clear hb1;go_upto_region 3 with fail
 obtain⟨w2,hw2⟩:∃w2,w2=w1.alloc (.cells #[.int .u8 82,nm,.slice A9 fs.length c9] 90):=⟨_,rfl⟩
 have Hb2:=@Aa (Below w w w2) dz;have Hl0:=@Aa (w.heap.size<w2.drew.heap.size) f7;have Hl1:=@Aa (w1.heap.size<w2.drew.heap.size) (by rw[hw2];simp);have X0:=@Aa (w2.drew.cell? (w,0)=some xv) dG;have X1:=@Aa (w2.drew.cell? (w1,0)=some (.int .u8 82)) cC;have X2:=@Aa (w2.drew.cell? (w1,1)=nm) cC;have X3:=@Aa (w2.drew.cell? (w1,2)=some (.slice A9 fs.length c9)) cC;rw[<-hw2];clear hw2;have HC9:=Aa (HC.o w2.drew (Hw.o.trans (Hb2.o.mono Hw.o.size)).drew);refine M4 [38,39,40,41,42,43,44,45,46,47,8,9,10]
  (fun ix v W=>match ix with|0=>v=.agg #[xv]|1=>v=(123::z:List UInt8)|2=>v=(z:List UInt8)|3=>v=(kb:List UInt8)|4=>v=.agg #[.int .u8 82,nm,.slice A9 fs.length c9]|5=>v=.int .i64 dd|_=>True)
  (fun L U W=>Gg (SrQ w2.drew (Af xs) k q) (w2.drew) (L 6) (L 6) (L 7) (L 8) (L 9) (L 10) (L 11) (L 12) (U 6) (U 6) (U 7) (U 8) (U 9) (U 10) (U 11) (U 12) W) (⟨fun _=>rfl,fun h=>Bool.noConfusion h⟩) ?_ ?_
 ·repeat (first|exact An.nil|(refine An.cons ?_ ?_;rotate_left))
  all_goals
   rintro L U W hL hpre HR Hdep K hK;first|(simp[Region.binds]at hpre;done)|simp[Region.binds]at hpre|clear hpre
  ·have h6:L 6=false:=Bi Hdep.o 6 0 rfl hL;have hW:=HR.o.no h6;subst hW;have q0:=X0.o;exact ju
  ·exact fK
  ·exact gU
  ·exact fK
  ·have h6:L 6=false:=Bi Hdep.o 6 4 rfl hL;have hW:=HR.o.no h6;subst hW;have q1:=X1.o;have q2:=X2.o;have q3:=X3.o;exact ju
  ·exact fK
  ·have h7:L 7=false:=Bi Hdep.o 7 6 rfl hL;have h8:L 8=false:=Bi Hdep.o 8 6 rfl hL;have h9:L 9=false:=Bi Hdep.o 9 6 rfl hL;have h10:L 10=false:=Bi Hdep.o 10 7 rfl h7;have h11:L 11=false:=Bi Hdep.o 11 8 rfl h8;have h12:L 12=false:=Bi Hdep.o 12 9 rfl h9;have hW:=HR.o.no hL;subst hW;go_simp;refine HC9.o.mono ?_;rintro e w5 hp;obtain⟨vp,vr,vk,rfl,hq⟩:=hp.q;go_simp;exact hK _ _ _ Ab Ab (Gg.call2 h7 h8 h9 h10 h11 h12 hq) aJ
  ·have l6:L 6=true:=aK;obtain⟨vp,vr,vk,um,g0,g1,g2⟩:=HR.o.get l6 l6;simp only[um];go_simp;exact hK _ _ _ Ab Ab g0 ch
  ·have l6:L 6=true:=aK;obtain⟨vp,vr,vk,um,g0,g1,g2⟩:=HR.o.get l6 l6;simp only[um];go_simp;exact hK _ _ _ Ab Ab g1 ch
  ·have l6:L 6=true:=aK;obtain⟨vp,vr,vk,um,g0,g1,g2⟩:=HR.o.get l6 l6;simp only[um];go_simp;exact hK _ _ _ Ab Ab g2 ch
  ·have l7:L 7=true:=aK;go_simp;exact hK (U 7) _ _ Ab Ab (HR.o.as0 l7) aJ
  ·have l8:L 8=true:=aK;go_simp;exact hK (U 8) _ _ Ab Ab (HR.o.as1 l8) aJ
  ·have l9:L 9=true:=aK;go_simp;exact hK (U 9) _ _ Ab Ab (HR.o.as2 l9) aJ
 rintro L U W hL hφ hR;clear hφ;obtain⟨vp,vr,vk,hq,ua,ub,ue⟩:=hR.fin (hL 6 aL) (hL 10 aL) (hL 11 aL) (hL 12 aL);simp only[ua,ub,ue];clear hR hL ua ub ue;go_wp2_with fail;refine aF (v:=.tuple #[vp,vr,vk]) (by simp[results,results125,go_sem]) rfl ?_;exact hq.post Hb2.o.drew
theorem Qi9(S:List Ty)(k:Kd)(w0:World)(xv:Value)(hxv:xv.oneCell'=true)(kb:List UInt8)(hkl:kb.length<=100)(st:Int)(nm:ByteArray)(A:Option Addr)(n c:Nat)(b:Bool)(c0:UInt8)(z:List UInt8)(dd:Int)(w:World)(hw:Below w0 w0 w)(hz:z.length<=1000000)
  (hr:∀W,Below w0 w0 W->Calls prog 56 #[xv,kb] W fun e w'=>e=.returned (.tuple #[.agg #[.int .u8 st,.string nm,.slice A n c],.bool b])/\Below W W w')
  (hc:((st == 82)=true/\((c0.toNat:Int) == 123)=false/\(st == 69)=false/\(st == 85)=false)\/((st == 82)=false/\(st == 69)=true/\((c0.toNat:Int) == 35)=false/\(st == 85)=false)\/((st == 82)=false/\(st == 69)=false/\(st == 85)=true/\((c0.toNat:Int) == 60)=false)\/((st == 82)=false/\(st == 69)=false/\(st == 85)=false)):
  Calls prog 125 #[.agg #[xv],(c0::z:List UInt8),kb,.int .i64 dd] w (Bm S k none w):=by
 have Hr:=Aa hr;have Hw:=Aa hw;clear hr hw;have key:∀w1,Below (w.alloc (.cells #[xv] 73)).heap.size (w.alloc (.cells #[xv] 73)) w1->Below w w (w1.alloc (.cells #[.int .u8 st,.string nm,.slice A n c] 90)):=fun w1 hb=>by
  have h1:=((At w.heap.size w).alloc (Ao _) (.cells #[xv] 73)).trans (hb.mono aM);exact h1.alloc h1.size _
 have Hkey:=Aa key;clear key;rcases hc with⟨h1,h2,h3,h4⟩|⟨h1,h2,h3,h4⟩|⟨h1,h2,h3,h4⟩|⟨h1,h2,h3⟩;all_goals
  go_enter func125,ntmps125;go_wp2_with fail;refine(Hr.o _ (Hw.o.alloc Hw.o.size _)).mono ?_;rintro e w1 ⟨rfl,hb1⟩;have Hb2:=Aa (Hkey.o w1 hb1);clear hb1;go_wp2_with fail;refine aF (v:=.tuple #[.pointer none,(c0::z:List UInt8),.bool false]) (by simp[results,results125,go_sem]) rfl ?_;exact Bm.no rfl rfl Hb2.o
structure RS(S:List Ty)(K:Kd->List UInt8->Option (Vl × List UInt8))(fs:List Fd)(s:List UInt8)(ps:List (Fd × Vl))(last:Nat)(tt:List UInt8):Prop where
 eq:Du S K fs 201 0 s=Ny ps (Du S K fs (201 - ps.length) last tt)
 lo:ps.length<=last
 hi:last<=200
 la:last=(ps.map (·.1.tag)).getLastD 0
 fd:∀p∈ps,Bf fs p.1.tag=some p.1
 le:tt.length<=s.length
section
variable {S:List Ty} {K:Kd->List UInt8->Option (Vl × List UInt8)} {fs:List Fd} {s tt r q z z':List UInt8} {ps:List (Fd × Vl)} {last:Nat} {f:Fd} {v:Vl}
theorem RS.init:RS S K fs s [] 0 s:=⟨by cases h:Du S K fs 201 0 s<;>simp[Ny,h],Ao _,by omega,rfl,by simp,Ao _⟩
theorem RS.one(h:RS S K fs s ps last tt):∃m,201 - ps.length=m+1/\Du S K fs 201 0 s=Ny ps (match Cw K fs tt with
  |none=>none
  |some (p,r)=>if p.1.tag<=last\/Bh p.2=Nq S p.1 then none else match Ap 44 r with
   |some q=>(match Du S K fs m p.1.tag q with|some (ps,z)=>some (p::ps,z)|none=>none)
   |none=>match Ap 125 r with|some q=>some ([p],q)|none=>none):=
 ⟨200 - ps.length,by have:=h.lo;have:=h.hi;omega,by rw[h.eq,show 201 - ps.length=(200 - ps.length)+1 by have:=h.lo;have:=h.hi;omega];rfl⟩
theorem RS.tagN(h:RS S K fs s ps last tt)(h1:Fj fs tt=none):Du S K fs 201 0 s=none:=by
 obtain⟨m,_,e⟩:=h.one;rw[e];simp[Cw,h1,Ny]
theorem RS.sign(h:RS S K fs s ps last tt)(h1:Fj fs tt=some (f,r))(h2:Ap 61 r=none):Du S K fs 201 0 s=none:=by
 obtain⟨m,_,e⟩:=h.one;rw[e];simp[Cw,h1,h2,Ny]
theorem RS.ord(h:RS S K fs s ps last tt)(h1:Fj fs tt=some (f,r))(h3:f.tag<=last):Du S K fs 201 0 s=none:=by
 obtain⟨m,_,e⟩:=h.one;rw[e];cases h2:Ap 61 r with
 |none=>simp[Cw,h1,h2,Ny]
 |some q=>
  cases hk:K f.kind q with
  |none=>simp[Cw,h1,h2,hk,Ny]
  |some x=>simp[Cw,h1,h2,hk,Ny,h3]
theorem RS.rd(h:RS S K fs s ps last tt)(h1:Fj fs tt=some (f,r))(h2:Ap 61 r=some q)(hk:K f.kind q=none):Du S K fs 201 0 s=none:=by
 obtain⟨m,_,e⟩:=h.one;rw[e];simp[Cw,h1,h2,hk,Ny]
theorem RS.sam(h:RS S K fs s ps last tt)(h1:Fj fs tt=some (f,r))(h2:Ap 61 r=some q)(hk:K f.kind q=some (v,z))(h4:Bh v=Nq S f):Du S K fs 201 0 s=none:=by
 obtain⟨m,_,e⟩:=h.one;rw[e];simp[Cw,h1,h2,hk,Ny,h4]
theorem RS.sep(h:RS S K fs s ps last tt)(h1:Fj fs tt=some (f,r))(h2:Ap 61 r=some q)(hk:K f.kind q=some (v,z))(h5:Ap 44 z=none)(h6:Ap 125 z=none):Du S K fs 201 0 s=none:=by
 obtain⟨m,_,e⟩:=h.one;rw[e];simp[Cw,h1,h2,hk,Ny,h5,h6]
theorem RS.go(h:RS S K fs s ps last tt)(h1:Fj fs tt=some (f,r))(h2:Ap 61 r=some q)(h3:last<f.tag)(hk:K f.kind q=some (v,z))(h4:Bh v≠Nq S f)(h5:Ap 44 z=some z')(hl:z'.length<=tt.length):
  RS S K fs s (ps++[(f,v)]) f.tag z':=by
 obtain⟨m,hm,e⟩:=h.one;obtain⟨g1,g2,_,_⟩:=Jh h1;refine⟨?_,by have:=h.lo;simp;omega,g1,by simp,fun p hp=>?_,ae hl h.le⟩
 ·rw[e,show 201 - (ps++[(f,v)]).length=m by simp;omega];simp only[Cw,h1,h2,hk,h5];rw[if_neg cD];cases Du S K fs m f.tag z'<;>simp[Ny]
 rcases ag.1 hp with hp|hp
 ·exact h.fd p hp
 rw[aq]at hp;subst hp;exact g2
theorem RS.fin(h:RS S K fs s ps last tt)(h1:Fj fs tt=some (f,r))(h2:Ap 61 r=some q)(h3:last<f.tag)(hk:K f.kind q=some (v,z))(h4:Bh v≠Nq S f)(h5:Ap 44 z=none)(h6:Ap 125 z=some z'):
  Du S K fs 201 0 s=some (ps++[(f,v)],z')/\∀p∈ps++[(f,v)],Bf fs p.1.tag=some p.1:=by
 obtain⟨m,hm,e⟩:=h.one;obtain⟨g1,g2,_,_⟩:=Jh h1;refine⟨?_,fun p hp=>?_⟩
 ·rw[e];simp only[Cw,h1,h2,hk,h5,h6];rw[if_neg cD];simp[Ny]
 rcases ag.1 hp with hp|hp
 ·exact h.fd p hp
 rw[aq]at hp;subst hp;exact g2
end
end
end Go.Proofs.YtpjijpcemejlnaaGreatDoor
