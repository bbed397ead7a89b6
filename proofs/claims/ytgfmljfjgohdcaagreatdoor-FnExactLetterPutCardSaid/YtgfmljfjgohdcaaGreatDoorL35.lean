/- Texts joined. Conditions: as each theorem names them. -/
import Derived.Test.YtgfmljfjgohdcaaGreatDoorL34
set_option maxRecDepth 100000
set_option maxHeartbeats 32000000
set_option linter.unusedVariables false
set_option linter.unusedSimpArgs false
namespace Go.Proofs.YtgfmljfjgohdcaaGreatDoor
open Go.RowKit Go.Proofs.Tryz
section
attribute [local go_sem] Qls Qkr Qj4 Qig ByteArray.mk_append_mk
def Kv(o:Option (Fd × List UInt8))(s:List UInt8)(w:World)(e:Ending)(w':World):Prop:=
 ∃(n:Nat) (a b c r:List UInt8),e=.returned (.tuple #[.agg #[(n:Int),a,b,c],r,.bool o.isSome])/\Below w w w'/\r.length<=s.length/\n<=1000000000 /\
  ∀f q,o=some (f,q)->n=f.tag/\a=f.name/\b=Be f.kind/\c=f.given/\r=q
theorem Qi8(fs:List Fd)(s:List UInt8):Fo fs s=if Do (s.takeWhile Az) 200 then(match Cg (s.takeWhile Az)with|some n=>(Bl fs n).map (fun f=>(f,s.dropWhile Az))|none=>none)else none:=by
 unfold Fo Qa Do;cases h:Cg (s.takeWhile Az)with
 |none=>rfl
 |some n=>
  simp only;by_cases hn:n<=200
  ·simp only[hn,if_true,decide_true];cases Bl fs n<;>rfl
  simp[hn]
theorem Tq(xv st nm fv:Value)(hxv:xv.oneCell'=true)(hst:st.oneCell'=true)(hnm:nm.oneCell'=true)(fs:List Fd)(s:List UInt8)(w:World)(h:Ff w fv fs)(htg:∀f∈fs,f.tag<=200)(hs:s.length<=4000000):
  Calls prog 222 #[.agg #[xv],s,.agg #[st,nm,fv]] w (Kv (Fo fs s) s w):=by
 obtain⟨A9,c9,rfl,hl9,hr9⟩:=h;have Hfs:=@Aa (Ff w (.slice A9 fs.length c9) fs) ⟨A9,c9,rfl,hl9,hr9⟩;have HQ:=Aa (Qi8 fs s);obtain⟨e1,e2,hle⟩:=Qq Az s;have Hd:=Aa (fun W=>Se s W hs);have Hn:=Aa (fun W=>C9 (s.takeWhile Az) 200 W aF aI);have E1:=Aa e1;have E2:=Aa e2;have k1:((s.takeWhile Az).length:Int)<=(s.length:Int):=aF;have Hdl:=Aa (show (s.dropWhile Az).length<=s.length by rw[<-e2];simp);generalize (s.takeWhile Az).length=n at *;generalize s.takeWhile Az=tw at *;generalize s.dropWhile Az=dw at *;have k2:(0:Int)<=(n:Int):=aF;have k3:((n:Int)).toNat=n:=aF;have hn8:n<=4000000:=aF;have Htg:=Aa htg;clear e1 e2 hr9 htg;go_enter func222,ntmps222;go_wp2_with fail;refine(Hd.o _).mono ?_;rintro e w1 ⟨rfl,rfl⟩;go_wp2_with fail;rw[E1.o];refine(Hn.o _).mono ?_;rintro e w2 ⟨m,hm,rfl,hdm,hb2⟩;have Hdm:=Aa hdm;have Hb2:=Aa ((((Ar w.heap.size w).alloc (Am _) (.cells #[xv] 86)).alloc aH (.cells #[st,nm,.slice A9 fs.length c9] 153)).alloc aL (.cells #[.int .i64 0,a6,a6,a6] 177) |>.trans (hb2.mono aL));obtain⟨hc2,hfz2,hzz2⟩:=Bx hb2;have hz2:=hb2.size;simp only[World.size_alloc]at hz2;have Hf2:=Aa (fun W (hW:Below w w W)=>Vd st nm (.slice A9 fs.length c9) fs m W (Hfs.o.below hW) aF);generalize hok0:Do tw 200=ok at *;have Hok:=Aa hok0;clear hok0;clear hdm hb2;go_wp2_with fail;refine(Hf2.o _ Hb2.o).mono ?_;rintro e w3 ⟨rfl,hb3⟩;have Hb3:=Aa (Hb2.o.trans (hb3.mono Hb2.o.size));obtain⟨hc3,hfz3,hzz3⟩:=Bx hb3;have hz3:=hb3.size;have hcc:∀b o,b<w.heap.size+3->w3.cell? ⟨b,o,none⟩=w2.cell? ⟨b,o,none⟩:=fun b o h=>hc3 b o aF;clear hb3 Hf2 hzz2 hzz3;obtain⟨n0,a,b,c,is,hsf,hn0,his,hfd⟩:∃(n0:Nat) (a b c:List UInt8) (is:Bool),sfR (Bl fs m)=.tuple #[.agg #[(n0:Int),a,.string ⟨b.toArray⟩,c],.bool is]/\n0<=1000000000/\(Bl fs m).isSome=is/\∀f,Bl fs m=some f->n0=f.tag/\a=f.name/\b=Be f.kind/\c=f.given:=by
  cases hf:Bl fs m with
  |none=>exact⟨0,[],[],[],false,rfl,by omega,rfl,fun f h=>by cases h⟩
  |some f=>exact⟨f.tag,f.name,Be f.kind,f.given,true,rfl,by have:=Htg.o f (List.mem_of_find?_eq_some hf);omega,rfl,fun g h=>by injection h with h;subst h;exact⟨rfl,rfl,rfl,rfl⟩⟩
 rw[hsf];have Hfd:=Aa (And.intro his hfd);clear hsf his hfd;go_wp2_with fail;have F0:w3.cell? (w.heap.size+1+1,0)=some (.int .i64 0):=fA;have F1:w3.cell? (w.heap.size+1+1,1)=a6:=fA;have F2:w3.cell? (w.heap.size+1+1,2)=a6:=fA;have F3:w3.cell? (w.heap.size+1+1,3)=a6:=fA;have Z0:w3.frozen? (w.heap.size+1+1,0)=false:=ft;have Z1:w3.frozen? (w.heap.size+1+1,1)=false:=ft;have Z2:w3.frozen? (w.heap.size+1+1,2)=false:=ft;have Z3:w3.frozen? (w.heap.size+1+1,3)=false:=ft;have hb6:w.heap.size+1+1<w3.heap.size:=aF;clear hc2 hfz2 hc3 hfz3 hcc;cases ok with
 |true=>
  refine M0 [29,30,31,32,33,34,35,36,999,7,8]
   (fun ix v W=>match ix with|0=>v=.agg #[(n0:Int),a,.string ⟨b.toArray⟩,c]|1=>v=(s:List UInt8)|2=>v=(n:Int)|3=>v=(dw:List UInt8)|4=>v=.bool true|5=>v=.bool true|6=>v=.bool is|7=>v=.bool is|9=>v=(dw:List UInt8)|10=>v=.bool is|_=>True)
   (fun L U W=>(L 8=false->W=(w3.alloc (.cells #[(n0:Int),a,.string ⟨b.toArray⟩,c] 177)).drew)/\(L 8=true->Below w w W/\W.cell? (w.heap.size+1+1,0)=(n0:Int)/\W.cell? (w.heap.size+1+1,1)=a/\W.cell? (w.heap.size+1+1,2)=some (.string ⟨b.toArray⟩)/\W.cell? (w.heap.size+1+1,3)=c)) (⟨fun _=>rfl,fun h=>Bool.noConfusion h⟩) ?_ ?_
  ·exact fJ
  rintro L U W hL hφ hR;have e9:U 9=(dw:List UInt8):=hφ 9 aI;have e10:U 10=.bool is:=hφ 10 aI;clear hφ;obtain⟨Hbw,c0,c1,c2,c3⟩:=hR.2 (hL 8 aI);have HBW:=Aa Hbw;clear hL hR Hbw;simp only[e9,e10];go_wp2_with fail;refine aD (v:=.tuple #[.agg #[(n0:Int),a,.string ⟨b.toArray⟩,c],dw,.bool is]) (by simp[results,results222,go_sem,c0,c1,c2,c3]) rfl ?_;obtain⟨his,hfd⟩:=Hfd.o;have HQ:=HQ.o;have hok:=Hok.o;cases hdm:Cg tw with
  |none=>rw[Ml hdm]at hok;cases hok
  |some m'=>
   rw[hdm]at HQ;simp only[if_true]at HQ;have hm':=Hdm.o m' hdm;subst hm';rw[HQ];refine⟨n0,a,b,c,dw,by rw[Option.isSome_map,his],HBW.o,Hdl.o,hn0,fun f q h=>?_⟩;cases hf:Bl fs m' with
   |none=>rw[hf]at h;cases h
   |some g=>
    rw[hf]at h;injection h with h;injection h with h1 h2;subst h1 h2;obtain⟨q1,q2,q3,q4⟩:=hfd g hf;exact⟨q1,q2,q3,q4,rfl⟩
 |false=>
  refine M0 [29,30,31,32,33,34,35,36,999,7,8]
   (fun ix v W=>match ix with|0=>v=.agg #[(n0:Int),a,.string ⟨b.toArray⟩,c]|1=>v=(s:List UInt8)|2=>v=(n:Int)|3=>v=(dw:List UInt8)|4=>v=.bool false|5=>v=.bool false|7=>v=.bool false|9=>v=(dw:List UInt8)|10=>v=.bool false|_=>True)
   (fun L U W=>(L 8=false->W=(w3.alloc (.cells #[(n0:Int),a,.string ⟨b.toArray⟩,c] 177)).drew)/\(L 8=true->Below w w W/\W.cell? (w.heap.size+1+1,0)=(n0:Int)/\W.cell? (w.heap.size+1+1,1)=a/\W.cell? (w.heap.size+1+1,2)=some (.string ⟨b.toArray⟩)/\W.cell? (w.heap.size+1+1,3)=c)) (⟨fun _=>rfl,fun h=>Bool.noConfusion h⟩) ?_ ?_
  ·exact fJ
  rintro L U W hL hφ hR;have e9:U 9=(dw:List UInt8):=hφ 9 aI;have e10:U 10=.bool false:=hφ 10 aI;clear hφ;obtain⟨Hbw,c0,c1,c2,c3⟩:=hR.2 (hL 8 aI);have HBW:=Aa Hbw;clear hL hR Hbw;simp only[e9,e10];go_wp2_with fail;refine aD (v:=.tuple #[.agg #[(n0:Int),a,.string ⟨b.toArray⟩,c],dw,.bool false]) (by simp[results,results222,go_sem,c0,c1,c2,c3]) rfl ?_;obtain⟨his,hfd⟩:=Hfd.o;have HQ:=HQ.o;have hok:=Hok.o;simp only[ak,if_false]at HQ;rw[HQ];exact⟨n0,a,b,c,dw,rfl,HBW.o,Hdl.o,hn0,fun f q h=>by cases h⟩
def enL(o:Option (Fd × List UInt8)):Option (Vl × List UInt8):=match o with|some (f,q)=>some (.mk 69 [] f.tag [],q)|none=>none
def unL(R:Kd->List UInt8->Option (Vl × List UInt8))(o:Option (Fd × List UInt8)):Option (Vl × List UInt8):=match o with
 |none=>none
 |some (f,r)=>match Aq 61 r with
  |none=>none
  |some q=>match R f.kind q with
   |none=>none
   |some (v,q)=>match Aq 62 q with|some z'=>some (.mk 85 [] f.tag [v],z')|none=>none
def StF(o:Option (Fd × List UInt8))(s:List UInt8)(n:Nat)(a b c r:List UInt8):Prop:=
 r.length<=s.length/\n<=1000000000/\∀f q,o=some (f,q)->n=f.tag/\a=f.name/\b=Be f.kind/\c=f.given/\r=q
theorem Kv.q{o:Option (Fd × List UInt8)}{s:List UInt8}{w w':World}{e:Ending}(h:Kv o s w e w'):∃(n:Nat) (a b c r:List UInt8),e=.returned (.tuple #[.agg #[(n:Int),a,b,c],r,.bool o.isSome])/\StF o s n a b c r/\Below w w w':=by
 obtain⟨n,a,b,c,r,h1,h2,h3,h4,h5⟩:=h;exact⟨n,a,b,c,r,h1,⟨h3,h4,h5⟩,h2⟩
structure Gj(w1:World)(o:Option (Fd × List UInt8))(s:List UInt8)(l m x y z al st p q:Bool)(ul um ux uy uz ual up uq:Value)(W:World):Prop where
 be:Below w1 w1 W
 yes:l=true->∃(n:Nat) (a b c r:List UInt8),StF o s n a b c r/\ul=.tuple #[.agg #[(n:Int),a,b,c],r,.bool o.isSome] /\
  (m=true->um=.tuple #[.agg #[(n:Int),a,b,c],r,.bool o.isSome]) /\
  (x=true->ux=.agg #[(n:Int),a,b,c])/\(y=true->uy=r)/\(z=true->uz=.bool o.isSome)/\(p=true->up=r)/\(q=true->uq=.bool o.isSome)
 al:al=true->∃B,ual=.pointer (some ⟨B,0,none⟩)/\w1.heap.size<=B/\B<W.heap.size/\W.there B 0 4/\(st=true->∃cs:List Value,ux=.agg cs.toArray/\W.rangeAt B 0 cs)
section
variable {w1 W W':World} {o:Option (Fd × List UInt8)} {s:List UInt8} {l m x y z al st p q:Bool} {ul um ux uy uz ual up uq:Value} {n:Nat} {a b c r:List UInt8} {B:Nat}
theorem Gj.start:Gj w1 o s false m x y z false st p q ul um ux uy uz ual up uq w1:=⟨Ar _ _,fun h=>Bool.noConfusion h,fun h=>Bool.noConfusion h⟩
theorem Gj.call(h:Gj w1 o s l m x y z al st p q ul um ux uy uz ual up uq W)(hm:m=false)(hx:x=false)(hy:y=false)(hz:z=false)(hst:st=false)(hp:p=false)(hq:q=false)(hF:StF o s n a b c r)(hb:Below W W W'):
  Gj w1 o s true m x y z al st p q (.tuple #[.agg #[(n:Int),a,b,c],r,.bool o.isSome]) um ux uy uz ual up uq W':=by
 subst hm hx hy hz hst hp hq;refine⟨h.be.trans (hb.mono h.be.size),fun _=>⟨n,a,b,c,r,hF,rfl,fun h=>Bool.noConfusion h,fun h=>Bool.noConfusion h,fun h=>Bool.noConfusion h,fun h=>Bool.noConfusion h,fun h=>Bool.noConfusion h,fun h=>Bool.noConfusion h⟩,fun ha=>?_⟩;obtain⟨B,h1,h2,h3,h4,_⟩:=h.al ha;exact⟨B,h1,h2,a8 h3 hb.size,An h4 h3 hb,fun h=>Bool.noConfusion h⟩
theorem Gj.move(h:Gj w1 o s l m x y z al st p q ul um ux uy uz ual up uq W)(hl:l=true):Gj w1 o s l true x y z al st p q ul ul ux uy uz ual up uq W:=
 ⟨h.be,fun hl=>by obtain⟨n,a,b,c,r,h1,h2,_,h4⟩:=h.yes hl;exact⟨n,a,b,c,r,h1,h2,fun _=>h2,h4⟩,h.al⟩
theorem Gj.get(h:Gj w1 o s l m x y z al st p q ul um ux uy uz ual up uq W)(hl:l=true)(hm:m=true)(hst:x=false->st=false):∃(n:Nat) (a b c r:List UInt8),um=.tuple #[.agg #[(n:Int),a,b,c],r,.bool o.isSome] /\
  (x=false->Gj w1 o s l m true y z al st p q ul um (.agg #[(n:Int),a,b,c]) uy uz ual up uq W)/\Gj w1 o s l m x true z al st p q ul um ux r uz ual up uq W/\Gj w1 o s l m x y true al st p q ul um ux uy (.bool o.isSome) ual up uq W:=by
 obtain⟨n,a,b,c,r,h1,h2,h3,h4,h5,h6,h7⟩:=h.yes hl;refine⟨n,a,b,c,r,h3 hm,fun hx=>⟨h.be,fun _=>⟨n,a,b,c,r,h1,h2,h3,fun _=>rfl,h5,h6,h7⟩,fun ha=>?_⟩,⟨h.be,fun _=>⟨n,a,b,c,r,h1,h2,h3,h4,fun _=>rfl,h6,h7⟩,h.al⟩,⟨h.be,fun _=>⟨n,a,b,c,r,h1,h2,h3,h4,h5,fun _=>rfl,h7⟩,h.al⟩⟩;obtain⟨B,g1,g2,g3,g4,_⟩:=h.al ha;exact⟨B,g1,g2,g3,g4,fun hs=>absurd ((hst hx).symm.trans hs) aI⟩
theorem Gj.as1(h:Gj w1 o s l m x y z al st p q ul um ux uy uz ual up uq W)(hy:y=true):Gj w1 o s l m x y z al st true q ul um ux uy uz ual uy uq W:=
 ⟨h.be,fun hl=>by obtain⟨n,a,b,c,r,h1,h2,h3,h4,h5,h6,_,h7⟩:=h.yes hl;exact⟨n,a,b,c,r,h1,h2,h3,h4,h5,h6,fun _=>h5 hy,h7⟩,h.al⟩
theorem Gj.as2(h:Gj w1 o s l m x y z al st p q ul um ux uy uz ual up uq W)(hz:z=true):Gj w1 o s l m x y z al st p true ul um ux uy uz ual up uz W:=
 ⟨h.be,fun hl=>by obtain⟨n,a,b,c,r,h1,h2,h3,h4,h5,h6,h7,_⟩:=h.yes hl;exact⟨n,a,b,c,r,h1,h2,h3,h4,h5,h6,h7,fun _=>h6 hz⟩,h.al⟩
theorem Gj.alloc(h:Gj w1 o s l m x y z al st p q ul um ux uy uz ual up uq W)(hst:st=false)(T:TypeId):Gj w1 o s l m x y z true st p q ul um ux uy uz W.heap.size up uq (W.alloc (.cells #[.int .i64 0,a6,a6,a6] T)):=
 ⟨h.be.alloc h.be.size _,h.yes,fun _=>⟨_,rfl,h.be.size,by simp,B9 W [.int .i64 0,a6,a6,a6] T,fun h=>absurd (hst.symm.trans h) aI⟩⟩
theorem Gj.store(h:Gj w1 o s l m x y z al st p q ul um ux uy uz ual up uq W)(ha:al=true)(ex:ux=.agg #[(n:Int),a,b,c])(el:ual=B):
  W.there B 0 4/\Gj w1 o s l m x y z al true p q ul um ux uy uz ual up uq (W.setCells B 0 [(n:Int),a,b,c]):=by
 obtain⟨B',g1,g2,g3,g4,_⟩:=h.al ha;rw[el]at g1;injection g1 with g1;injection g1 with g1;injection g1 with g1;subst g1;exact⟨g4,Ag _ g2 _ _ _ h.be,h.yes,fun _=>⟨B,el,g2,by rw[Bw];exact g3,ag g4 _ _ _,fun _=>⟨_,ex,a7 _ _ _ _ g4⟩⟩⟩
theorem Gj.fin(h:Gj w1 o s l m x y z al st p q ul um ux uy uz ual up uq W)(hl:l=true)(hx:x=true)(ha:al=true)(hs:st=true)(hp:p=true)(hq:q=true):
  ∃(n:Nat) (a b c r:List UInt8) (B:Nat),StF o s n a b c r/\ual=.pointer (some ⟨B,0,none⟩)/\up=.string ⟨r.toArray⟩/\uq=.bool o.isSome/\w1.heap.size<=B/\B<W.heap.size/\W.rangeAt B 0 [.int .i64 (n:Int),.string ⟨a.toArray⟩,.string ⟨b.toArray⟩,.string ⟨c.toArray⟩]/\Below w1.heap.size w1 W:=by
 obtain⟨n,a,b,c,r,h1,h2,h3,h4,h5,h6,h7,h8⟩:=h.yes hl;obtain⟨B,g1,g2,g3,g4,g5⟩:=h.al ha;obtain⟨cs,e1,e2⟩:=g5 hs;have e3:=h4 hx;rw[e1]at e3;injection e3 with e3;have e4:cs=[.int .i64 (n:Int),.string ⟨a.toArray⟩,.string ⟨b.toArray⟩,.string ⟨c.toArray⟩]:=by simpa using e3
 exact⟨n,a,b,c,r,B,h1,g1,h7 hp,h8 hq,g2,g3,e4 ▸ e2,h.be⟩
end
theorem Qb{w:World}{b o:Nat}{v:Value}{B:Obj}(hb:b<w.heap.size)(h:w.cell? ⟨b,o,none⟩=some v):(w.alloc B).cell? ⟨b,o,none⟩=some v:=
 ((Ar w.heap.size w).alloc (Am _) B |>.cell (p:=⟨b,o,none⟩) hb).trans h
theorem Qk9(w0:World)(xs:List (Ty × Value))(xv:Value)(hxv:xv.oneCell'=true)(hsc:Jt w0 xv xs)(k:Kd)(hk:Cs k)(hsg:k.signs=[])(hbs:k.base=[64])(nm:List UInt8)(fs:List Fd)(tv:Value)(hx:D5 xs k.name=some (⟨69,nm,fs⟩,tv))(hfs:Ff w0 tv fs)(htg:∀f∈fs,f.tag<=200)
  (d:Nat) (hd:d<=1000) (z:List UInt8) (w:World) (hw:Below w0 w0 w) (hz:z.length<=1000000) (o:Option (Fd × List UInt8)) (ho:o=Fo fs z):
  Calls prog 175 #[.agg #[xv],(35::z:List UInt8),.string ⟨(Be k).toArray⟩,.int .i64 ((d+1:Nat):Int)] w (Bj (Af xs) k (enL o) w):=by
 have hkd:∀g,De (Af xs) k (.mk 69 [] g [])=.mk (Be k) [69] [g] []:=Ti (Af xs) k;generalize (((d+1:Nat):Int))=dd at *;obtain⟨A9,c9,rfl,hl9,_⟩:=hfs;have HFs:=@Aa (∀W,Below w0 w0 W->Ff W (.slice A9 fs.length c9) fs) (fun W hW=>Ff.below (show Ff w0 (.slice A9 fs.length c9) fs from⟨A9,c9,rfl,hl9,by assumption⟩) hW)
 have Hr:=Aa (show ∀W,Below w0 w0 W->Calls prog 113 #[xv,.string ⟨(Be k).toArray⟩] W fun e w'=>e=.returned (.tuple #[.agg #[.int .u8 69,nm,.slice A9 fs.length c9],.bool true])/\Below W W w' from fun W hW=>by
  have h:=Gc xv xs k W (hsc.below hW) hk;rw[show Mu xs k=some (⟨69,nm,fs⟩,.slice A9 fs.length c9)from by unfold Mu;rw[if_pos ⟨hsg,hbs⟩];exact hx]at h;exact h)
 have HT:=@Aa (∀W,Below w0 w0 W->Calls prog 222 #[.agg #[xv],z,.agg #[.int .u8 69,nm,.slice A9 fs.length c9]] W (Kv (Fo fs z) z W)) (fun W hW=>Tq xv (.int .u8 69) nm _ hxv rfl rfl fs z W (HFs.o W hW) htg aF);have hkl:(Be k).length<=100:=cY;have hzl:z.length<=1000000:=hz;have Ho:=Aa ho;rw[<-ho]at HT;have Hw:=Aa hw;have Hkd:=Aa hkd;generalize Be k=kb at *;clear hw hx hsc htg ho;go_enter func175,ntmps175;go_wp2_with fail;refine(Hr.o _ (Hw.o.alloc Hw.o.size _)).mono ?_;rintro e w1 ⟨rfl,hb1⟩;have hz1:=hb1.size;simp only[World.size_alloc]at hz1;have Hb1:=Aa (((Ar w.heap.size w).alloc (Am _) _).trans (hb1.mono aH));have X0:=@Aa (w1.cell? (w,0)=some xv) dv;clear hb1;go_upto_region 5 with fail
 obtain⟨w2,hw2⟩:∃w2,w2=w1.alloc (.cells #[.int .u8 69,nm,.slice A9 fs.length c9] 153):=⟨_,rfl⟩
 have Hb2:=@Aa (Below w w w2) dm;have Hl0:=@Aa (w.heap.size<w2.drew.heap.size) eT;have Hl1:=@Aa (w1.heap.size<w2.drew.heap.size) (by rw[hw2];simp);have X0:=@Aa (w2.drew.cell? (w,0)=some xv) dB;have X1:=@Aa (w2.drew.cell? (w1,0)=some (.int .u8 69)) cv;have X2:=@Aa (w2.drew.cell? (w1,1)=nm) cv;have X3:=@Aa (w2.drew.cell? (w1,2)=some (.slice A9 fs.length c9)) cv;have HC:=@Aa (∀W,Below w2.drew.heap.size w2.drew W->Calls prog 222 #[.agg #[xv],z,.agg #[.int .u8 69,nm,.slice A9 fs.length c9]] W (Kv o z W)) (fun W hW=>HT.o W ((Hw.o.trans (Hb2.o.mono Hw.o.size)).trans ((Ar _ _).drew.trans (hW.mono aH) |>.mono (aa Hw.o.size Hb2.o.size))));rw[<-hw2];clear hw2;refine M0 [58,59,60,61,62,57,63,64,65,13,999,14,15]
  (fun ix v W=>match ix with|0=>v=.agg #[xv]|1=>v=(35::z:List UInt8)|2=>v=(z:List UInt8)|3=>v=.agg #[.int .u8 69,nm,.slice A9 fs.length c9]|_=>True)
  (fun L U W=>Gj w2.drew o z (L 4) (L 5) (L 6) (L 7) (L 8) (L 9) (L 10) (L 11) (L 12) (U 4) (U 5) (U 6) (U 7) (U 8) (U 9) (U 11) (U 12) W) (Gj.start) ?_ ?_
 ·exact fE
 rintro L U W hL hφ hR;clear hφ;obtain⟨n,a,b,c,r,B,hF,u9,u11,u12,hB1,hB2,hrg,hbe⟩:=hR.fin (hL 4 aI) (hL 6 aI) (hL 9 aI) (hL 10 aI) (hL 11 aI) (hL 12 aI);simp only[u9,u11,u12];clear hR hL u9 u11 u12;have y0:W.cell? (B,0)=(n:Int):=by simpa using Ab hrg 0 rfl
 have HF:=Aa hF;have HB:=@Aa (Below w w W) (Hb2.o.trans (((Ar _ _).drew.trans (hbe.mono aH)).mono Hb2.o.size));clear hbe hrg hF;go_wp2_with fail;refine aD (v:=.tuple #[.pointer (some ⟨W.heap.size+1,0,none⟩),r,.bool o.isSome]) (by simp[results,results175,go_sem]) rfl ?_;have hbf:=(HB.o.alloc HB.o.size (.cells #[(n:Int)] 3)).alloc (by simp;have:=HB.o.size;omega) (.cells #[kb,.string ⟨#[69]⟩,.slice (some ⟨W.heap.size,0,none⟩) 1 1,.slice none 0 0] 158);cases o with
 |none=>exact Bj.no rfl rfl hbf
 |some y=>
  obtain⟨f,q⟩:=y;obtain⟨rfl,_,_,_,rfl⟩:=HF.o.2.2 f q rfl;refine⟨⟨W.heap.size+1,rfl,?_⟩,hbf⟩;have hsz:=HB.o.size;rw[Hkd.o];refine .mk kb [69] [f.tag] (some ⟨W.heap.size,0,none⟩) none 1 0 [] rfl aH (by show w.heap.size<=W.heap.size+1;omega) (by go_simp) (by go_simp) (by go_simp) (by go_simp) ⟨rfl,by simp[maxLen],fun _=>⟨W.heap.size,0,rfl,by simp;omega,fun j u hu=>?_⟩⟩ ⟨rfl,ae _,fun h=>absurd h aH⟩ aH aH (fun g o _ e=>?_) (fun _ _ h=>absurd h aH) (fun x hx=>?_)
  ·match j,hu with
   |0,hu=>
    simp[Er]at hu;subst hu;go_simp
   |j+1,hu=>simp[Er]at hu
  ·injection e with e;injection e with e;subst e;exact hsz
  simp at hx
theorem Qkw(w0:World)(xs:List (Ty × Value))(xv:Value)(hxv:xv.oneCell'=true)(hsc:Jt w0 xv xs)(k:Kd)(hk:Cs k)(hsg:k.signs=[])(hbs:k.base=[64])(nm:List UInt8)(fs:List Fd)(tv:Value)(hx:D5 xs k.name=some (⟨85,nm,fs⟩,tv))(hfs:Ff w0 tv fs)(htg:∀f∈fs,f.tag<=200)
  (d:Nat) (hd:d<=1000) (z:List UInt8) (w:World) (hw:Below w0 w0 w) (hz:z.length<=1000000) (o:Option (Fd × List UInt8)) (ho:o=Fo fs z) (H:∀k',Cs k'->SrC w0 (Af xs) xv k' d) (hfd:∀f∈fs,Cs f.kind) (htf:Bu (Af xs) k.name=some ⟨85,nm,fs⟩)
  (R:Kd->List UInt8->Option (Vl × List UInt8)) (hR0:R=Al (Af xs) 20 d):
  Calls prog 175 #[.agg #[xv],(60::z:List UInt8),.string ⟨(Be k).toArray⟩,.int .i64 ((d+1:Nat):Int)] w (Bj (Af xs) k (unL R o) w):=by
 have hkd:∀f v,Bl fs f.tag=some f->De (Af xs) k (.mk 85 [] f.tag [v])=.mk (Be k) [85] [f.tag] [De (Af xs) f.kind v]:=fun f v hf=>by rw[Ts,Jd htf hf]
 have HRd:=@Aa (∀k',Cs k'->∀(s:List UInt8) (W:World),Below w0 w0 W->s.length<=1000000->Calls prog 117 #[.agg #[xv],s,.string ⟨(Be k').toArray⟩,(d:Int)] W (Bj (Af xs) k' (R k' s) W)) (fun k' hk' s W hW hs=>by rw[hR0];exact H k' hk' s W hW hs)
 have HFd:=Aa (show ∀f r,o=some (f,r)->Cs f.kind/\(Be f.kind).length<=100/\Bl fs f.tag=some f from fun f r h=>by
  obtain⟨_,h2,_⟩:=G9 (ho ▸ h);have:=hfd f (P7 h2).1;exact⟨this,by have:=this.2.2;omega,h2⟩)
 clear H hR0 hfd htf;have d1:(((d+1:Nat):Int)) - 1=(d:Int):=aF;have d4:(0:Int)<=(d:Int):=aF;have d5:(d:Int)<=1000:=aF;have hwd:IntKind.i64.wrap (d:Int)=(d:Int):=IntWalk.i64_in _ aF;generalize (((d+1:Nat):Int))=dd at *;obtain⟨A9,c9,rfl,hl9,_⟩:=hfs;have HFs:=@Aa (∀W,Below w0 w0 W->Ff W (.slice A9 fs.length c9) fs) (fun W hW=>Ff.below (show Ff w0 (.slice A9 fs.length c9) fs from⟨A9,c9,rfl,hl9,by assumption⟩) hW)
 have Hr:=Aa (show ∀W,Below w0 w0 W->Calls prog 113 #[xv,.string ⟨(Be k).toArray⟩] W fun e w'=>e=.returned (.tuple #[.agg #[.int .u8 85,nm,.slice A9 fs.length c9],.bool true])/\Below W W w' from fun W hW=>by
  have h:=Gc xv xs k W (hsc.below hW) hk;rw[show Mu xs k=some (⟨85,nm,fs⟩,.slice A9 fs.length c9)from by unfold Mu;rw[if_pos ⟨hsg,hbs⟩];exact hx]at h;exact h)
 have HT:=@Aa (∀W,Below w0 w0 W->Calls prog 222 #[.agg #[xv],z,.agg #[.int .u8 85,nm,.slice A9 fs.length c9]] W (Kv (Fo fs z) z W)) (fun W hW=>Tq xv (.int .u8 85) nm _ hxv rfl rfl fs z W (HFs.o W hW) htg aF);have hkl:(Be k).length<=100:=cY;have hzl:z.length<=1000000:=hz;have Ho:=Aa ho;rw[<-ho]at HT;have Hw:=Aa hw;have Hkd:=Aa hkd;generalize Be k=kb at *;clear hw hx hsc htg ho;go_enter func175,ntmps175;go_wp2_with fail;refine(Hr.o _ (Hw.o.alloc Hw.o.size _)).mono ?_;rintro e w1 ⟨rfl,hb1⟩;have hz1:=hb1.size;simp only[World.size_alloc]at hz1;have Hb1:=Aa (((Ar w.heap.size w).alloc (Am _) _).trans (hb1.mono aH));have X0:=@Aa (w1.cell? (w,0)=some xv) dv;clear hb1;go_upto_region 8 with fail
 obtain⟨w2,hw2⟩:∃w2,w2=w1.alloc (.cells #[.int .u8 85,nm,.slice A9 fs.length c9] 153):=⟨_,rfl⟩
 have Hb2:=@Aa (Below w w w2) dm;have Hl0:=@Aa (w.heap.size<w2.drew.heap.size) eT;have Hl1:=@Aa (w1.heap.size<w2.drew.heap.size) (by rw[hw2];simp);have X0:=@Aa (w2.drew.cell? (w,0)=some xv) dB;have X1:=@Aa (w2.drew.cell? (w1,0)=some (.int .u8 85)) cv;have X2:=@Aa (w2.drew.cell? (w1,1)=nm) cv;have X3:=@Aa (w2.drew.cell? (w1,2)=some (.slice A9 fs.length c9)) cv;have HC:=@Aa (∀W,Below w2.drew.heap.size w2.drew W->Calls prog 222 #[.agg #[xv],z,.agg #[.int .u8 85,nm,.slice A9 fs.length c9]] W (Kv o z W)) (fun W hW=>HT.o W ((Hw.o.trans (Hb2.o.mono Hw.o.size)).trans ((Ar _ _).drew.trans (hW.mono aH) |>.mono (aa Hw.o.size Hb2.o.size))));rw[<-hw2];clear hw2;refine M0 [84,85,86,87,88,83,89,90,91,16,999,17,18]
  (fun ix v W=>match ix with|0=>v=.agg #[xv]|1=>v=(60::z:List UInt8)|2=>v=(z:List UInt8)|3=>v=.agg #[.int .u8 85,nm,.slice A9 fs.length c9]|_=>True)
  (fun L U W=>Gj w2.drew o z (L 4) (L 5) (L 6) (L 7) (L 8) (L 9) (L 10) (L 11) (L 12) (U 4) (U 5) (U 6) (U 7) (U 8) (U 9) (U 11) (U 12) W) (Gj.start) ?_ ?_
 ·exact fE
 rintro L U W hL hφ hR;clear hφ;obtain⟨n,a,b,c,r,B,hF,u9,u11,u12,hB1,hB2,hrg,hbe⟩:=hR.fin (hL 4 aI) (hL 6 aI) (hL 9 aI) (hL 10 aI) (hL 11 aI) (hL 12 aI);simp only[u9,u11,u12];clear hR hL u9 u11 u12;have HF:=Aa hF;have HB:=@Aa (Below w w W) (Hb2.o.trans (((Ar _ _).drew.trans (hbe.mono aH)).mono Hb2.o.size));have hl0:w.heap.size<W.heap.size:=by have:=Hl0.o;have:=hbe.size;omega
 have q0:W.cell? (w,0)=some xv:=(hbe.cell (p:=⟨w.heap.size,0,none⟩) Hl0.o).trans X0.o;have hBw:w.heap.size<=B:=by have:=Hl0.o;omega
 clear hbe hF;cases o with
 |none=>
  simp only[Option.isSome_none];clear hrg;go_wp2_with fail;refine aD (v:=.tuple #[.pointer none,(60::z:List UInt8),.bool false]) (by simp[results,results175,go_sem]) rfl ?_;exact Bj.no rfl rfl HB.o
 |some y=>
  obtain⟨f,q⟩:=y;obtain⟨rfl,rfl,rfl,rfl,rfl⟩:=HF.o.2.2 f q rfl;simp only[Option.isSome_some];have hrl:=HF.o.1;obtain⟨hkf,hkfl,hft⟩:=HFd.o f r rfl;have y0:W.cell? (B,0)=(f.tag:Int):=by simpa using Ab hrg 0 rfl
  have y2:W.cell? (B,2)=some (.string ⟨(Be f.kind).toArray⟩):=by simpa using Ab hrg 2 rfl
  have HRd:=Aa (fun(s:List UInt8) (W:World) h1 h2=>HRd.o f.kind hkf s W h1 h2);have Hft:=Aa hft;generalize hkb2:Be f.kind=kf at *;clear hrg hkf hft;cases r with
  |nil=>
   go_wp2_with fail;refine aD (v:=.tuple #[.pointer none,(60::z:List UInt8),.bool false]) (by simp[results,results175,go_sem]) rfl ?_;exact Bj.no rfl rfl HB.o
  |cons c9 q1=>
   by_cases h61:c9=61
   ·subst h61;have HU:=@Aa (unL R (some (f,61::q1))=match R f.kind q1 with|none=>none|some (v,q)=>(match Aq 62 q with|some z'=>some (.mk 85 [] f.tag [v],z')|none=>none)) (by first|(simp only[unL,Bc];done)|(simp only[unL,Bc];rfl));have t61:((((61:UInt8).toNat:Nat):Int) != 61)=false:=rfl;have HW9:=@Aa (Below w0 w0 W.drew) ((Hw.o.trans (HB.o.mono Hw.o.size)).drew);have hq1:q1.length<=1000000:=by simp at hrl;omega
    have HCR:=Aa (HRd.o q1 W.drew HW9.o hq1);generalize R f.kind q1=oq at *;simp only[List.length_cons]at hrl;go_wp2_with fail;refine rgT (SrQ W.drew (Af xs) f.kind oq) 7 8 (fun W vp vr vk h=>h.1) ?_;iterate 2 refine sq ?_
    refine sqS q1 ?_;iterate 4 refine sq ?_
    refine sqK HCR.o ?_;refine sqM ?_;iterate 3 refine sqP ?_
    iterate 3 refine sqA ?_
    intro l u W5 hl _ hR;obtain⟨vp,vr,vk,hq5,ua,ub,ue⟩:=RK.fin hR hl aI aI;simp only[Nat.reduceAdd]at ua ub ue;simp only[ua,ub,ue];clear hR hl ua ub ue;have HB5:=@Aa (Below w w W5) ((HB.o.drew).trans (hq5.1.mono (by simp;exact HB.o.size)));have y05:W5.cell? (B,0)=(f.tag:Int):=(hq5.1.cell (p:=⟨B,0,none⟩) (by simpa using hB2)).trans y0;have hz5:=hq5.1.size;simp only[World.size_drew]at hz5;obtain⟨_,hm⟩:=hq5;cases oq with
    |none=>
     obtain⟨⟨q0,rfl⟩,⟨r0,rfl⟩,rfl⟩:=hm;have HN:=Aa HU.o;go_wp2_with fail;refine aD (v:=.tuple #[.pointer none,(60::z:List UInt8),.bool false]) (by simp[results,results175,go_sem]) rfl ?_;exact Bj.no HN.o rfl HB5.o
    |some y=>
     obtain⟨v,r1⟩:=y;obtain⟨⟨b5,rfl,hsv⟩,rfl,rfl⟩:=hm;have Hsv:=Aa hsv;clear hsv;cases r1 with
     |nil=>
      have HN:=Aa HU.o;go_wp2_with fail;refine aD (v:=.tuple #[.pointer none,(60::z:List UInt8),.bool false]) (by simp[results,results175,go_sem]) rfl ?_;exact Bj.no HN.o rfl HB5.o
     |cons c8 z8=>
      by_cases h62:c8=62
      ·subst h62;have HY:=@Aa (unL R (some (f,61::q1))=some (.mk 85 [] f.tag [v],z8)) (by rw[HU.o];simp only[Bc]);have t62:((((62:UInt8).toNat:Nat):Int) != 62)=false:=rfl;go_wp2_with fail;have hB5:B<W5.heap.size:=aF;refine rgU kb f.tag b5 ?_;iterate 3 refine sq ?_
       refine Qlu ?_;refine sq ?_;refine Qlm ?_;refine Qlq ?_;refine Qlw ?_;refine sq ?_;refine sqS z8 ?_;refine Qk6 ?_;iterate 2 refine sq ?_
       intro l u W hl hφ hR;have hR:=RU.to hR;simp only[Qbr,List.nil_append,ar,aj,Nat.reduceAdd]at hφ;obtain⟨B7,u10,hS⟩:=hR.at_ (P:=fun c=>w.heap.size<=c) (hl 10 aI) (fun c hc=>aa HB5.o.size hc) (Hsv.o.mono (fun c hc _=>aa (by simp;exact HB.o.size) hc));have hbe:=hR.be;simp only[u10,hφ];clear hR hl hφ u10;go_wp2_with fail;refine aD (v:=.tuple #[B7,z8,.bool true]) (by simp[results,results175,go_sem]) rfl ?_;rw[HY.o];refine⟨⟨B7,rfl,?_⟩,HB5.o.trans (hbe.mono HB5.o.size)⟩;rw[Hkd.o f v Hft.o];exact hS
      have t62:((c8.toNat:Int) != 62)=true:=by have:=Ao h62;simpa using this
      have HN:=@Aa (unL R (some (f,61::q1))=none) (by rw[HU.o];simp only[C5 h62]);clear h62;go_wp2_with fail;refine aD (v:=.tuple #[.pointer none,(60::z:List UInt8),.bool false]) (by simp[results,results175,go_sem]) rfl ?_;exact Bj.no HN.o rfl HB5.o
   have t61:((c9.toNat:Int) != 61)=true:=by have:=Ao h61;simpa using this
   have HN:=@Aa (unL R (some (f,c9::q1))=none) (by simp only[unL,C5 h61]);clear h61;go_wp2_with fail;refine aD (v:=.tuple #[.pointer none,(60::z:List UInt8),.bool false]) (by simp[results,results175,go_sem]) rfl ?_;exact Bj.no HN.o rfl HB.o
end
end Go.Proofs.YtgfmljfjgohdcaaGreatDoor
