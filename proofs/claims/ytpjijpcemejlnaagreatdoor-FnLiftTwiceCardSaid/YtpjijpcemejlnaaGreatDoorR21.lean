/- Texts joined. Conditions: as each theorem names them. -/
import Derived.Test.YtpjijpcemejlnaaGreatDoorR20
import Derived.Test.YtpjijpcemejlnaaGreatDoorR22
set_option maxRecDepth 100000
set_option maxHeartbeats 32000000
set_option linter.unusedVariables false
set_option linter.unusedSimpArgs false
namespace Go.Proofs.YtpjijpcemejlnaaGreatDoor
open Go.RowKit Go.Proofs.Tryz
inductive SV where
 |mk (kind text:List UInt8) (tags:List Nat) (kids:List SV)
def Rp(S:List Ty)(k:Kd)(g:Nat):Kd:=match Bp S k.name with
 |some t=>(match Au t.fields g with|some f=>f.kind|none=>Kd.nil)
 |none=>Kd.nil
mutual
def By(S:List Ty):Kd->Vl->SV
 |k,.mk w tx tg ks=>
  if w=91\/w=63 then .mk (Bc k) [] [] (Xd S k.part ks)
  else if w=69 then .mk (Bc k) [69] [tg] []
  else if w=85 then .mk (Bc k) [85] [tg] (Xd S (Rp S k tg) ks)
  else if w=82 then .mk (Bc k) [82] (ks.map Vl.tag) (Qf3 S k ks)
  else .mk (Bc k) (if w=116 then 39::(tx++[39])else tx) [] []
def Xd(S:List Ty):Kd->List Vl->List SV
 |_,[]=>[]
 |k,x::xs=>By S k x::Xd S k xs
def Qf3(S:List Ty):Kd->List Vl->List SV
 |_,[]=>[]
 |k,.mk _ _ tg ks::xs=>Xd S (Rp S k tg) ks++Qf3 S k xs
end
theorem Qw(S:List Ty)(k:Kd):∀ks:List Vl,Xd S k ks=ks.map (By S k)
 |[]=>rfl
 |x::xs=>by rw[Xd,Qw S k xs];rfl
theorem Qao(S:List Ty)(k:Kd):∀ps:List (Fd × Vl),Qf3 S k (ps.map Df)=ps.map fun p=>By S (Rp S k p.1.tag) p.2
 |[]=>rfl
 |p::ps=>by rw[az,Df,Qf3,Qao S k ps,Xd,Xd];rfl
theorem Zu(S:List Ty)(k:Kd)(m:Nat):By S k (.mk 110 (Bb m) 0 [])=.mk (Bc k) (Bb m) [] []:=by simp[By]
theorem Ts(S:List Ty)(k:Kd)(s:List UInt8):By S k (.mk 116 s 0 [])=.mk (Bc k) (39::(s++[39])) [] []:=by simp[By]
theorem Tr(S:List Ty)(k:Kd)(s:List UInt8):By S k (.mk 102 s 0 [])=.mk (Bc k) s [] []:=by simp[By]
theorem Qj(S:List Ty)(k:Kd)(ks:List Vl):By S k (.mk 91 [] 0 ks)=.mk (Bc k) [] [] (ks.map (By S k.part)):=by simp[By,Qw]
theorem Kl(S:List Ty)(k:Kd)(ks:List Vl):By S k (.mk 63 [] 0 ks)=.mk (Bc k) [] [] (ks.map (By S k.part)):=by simp[By,Qw]
theorem Ql(S:List Ty)(k:Kd)(g:Nat):By S k (.mk 69 [] g [])=.mk (Bc k) [69] [g] []:=by simp[By]
theorem N3(S:List Ty)(k:Kd)(g:Nat)(x:Vl):By S k (.mk 85 [] g [x])=.mk (Bc k) [85] [g] [By S (Rp S k g) x]:=by simp[By,Qw]
theorem Qc(S:List Ty)(k:Kd)(ps:List (Fd × Vl)):By S k (.mk 82 [] 0 (ps.map Df))=.mk (Bc k) [82] (ps.map fun p=>p.1.tag) (ps.map fun p=>By S (Rp S k p.1.tag) p.2):=by
 simp[By,Qao];exact fun _ _ _=>rfl
theorem E8{S:List Ty}{k:Kd}{t:Ty}{f:Fd}(ht:Bp S k.name=some t)(hf:Au t.fields f.tag=some f):Rp S k f.tag=f.kind:=by unfold Rp;rw[ht];simp only;rw[hf]
def Du(l:List Nat):List Value:=l.map fun(n:Nat)=>.int .i64 (n:Int)
def Dr(l:List Nat):List Value:=l.map fun b=>.pointer (b,0)
inductive Fl(P:Nat->Prop)(w:World):Nat->SV->Prop
 |mk {b:Nat} {v:SV} (kind text:List UInt8) (tags:List Nat) (A1 A2:Option Addr) (c1 c2:Nat) (xs:List (Nat × SV)) (hv:v=.mk kind text tags (xs.map (·.2))) (hb:b<w.heap.size) (hP:P b)
   (h0:w.cell? (b,0)=kind) (h1:w.cell? (b,1)=text) (h2:w.cell? (b,2)=some (.slice A1 tags.length c1)) (h3:w.cell? (b,3)=some (.slice A2 xs.length c2))
   (hr1:Bx w A1 tags.length (Du tags)) (hr2:Bx w A2 xs.length (Dr (xs.map (·.1)))) (hl1:tags.length<=1000) (hl2:xs.length<=1000) (hp1:∀g o,0<tags.length->A1=some ⟨g,o,none⟩->P g) (hp2:∀g o,0<xs.length->A2=some ⟨g,o,none⟩->P g)
   (h:∀x∈xs,Fl P w x.1 x.2):Fl P w b v
theorem Bx.keptP{P:Nat->Prop}{w w':World}{A:Option Addr}{n:Nat}{xs:List Value}(h:Bx w A n xs)(hP:∀g o,0<n->A=some ⟨g,o,none⟩->P g)(hc:∀b o u,P b->b<w.heap.size->w.cell? ⟨b,o,none⟩=some u->w'.cell? ⟨b,o,none⟩=some u)(hz:w.heap.size<=w'.heap.size):Bx w' A n xs:=by
 refine⟨h.1,h.2.1,fun hn=>?_⟩;obtain⟨b,off,e,hlt,hcs⟩:=h.2.2 hn;exact⟨b,off,e,ad hlt hz,fun j u hu=>hc b _ u (hP b off hn e) hlt (hcs j u hu)⟩
theorem Fl.kept{P Q:Nat->Prop}{w w':World}{b:Nat}{v:SV}(h:Fl P w b v)(hc:∀b o u,P b->b<w.heap.size->w.cell? ⟨b,o,none⟩=some u->w'.cell? ⟨b,o,none⟩=some u)
  (hz:w.heap.size<=w'.heap.size) (hQ:∀b,P b->b<w.heap.size->Q b):Fl Q w' b v:=by
 induction h with
 |mk kind text tags A1 A2 c1 c2 xs hv hb hP h0 h1 h2 h3 hr1 hr2 hl1 hl2 hp1 hp2 h ih=>
  refine .mk kind text tags A1 A2 c1 c2 xs hv (ad hb hz) (hQ _ hP hb) (hc _ _ _ hP hb h0) (hc _ _ _ hP hb h1) (hc _ _ _ hP hb h2) (hc _ _ _ hP hb h3) (hr1.keptP hp1 hc hz) (hr2.keptP hp2 hc hz) hl1 hl2 (fun g o hn e=>?_) (fun g o hn e=>?_) ih
  ·obtain⟨b',off,e2,hlt,_⟩:=hr1.2.2 hn;rw[e]at e2;injection e2 with e2;injection e2 with e2 _ _;subst e2;exact hQ g (hp1 g o hn e) hlt
  obtain⟨b',off,e2,hlt,_⟩:=hr2.2.2 hn;rw[e]at e2;injection e2 with e2;injection e2 with e2 _ _;subst e2;exact hQ g (hp2 g o hn e) hlt
theorem Fl.after{P:Nat->Prop}{w w':World}{b:Nat}{v:SV}(h:Fl P w b v)(hb:Below w w w'):Fl P w' b v:=
 h.kept (fun b o u _ hl hu=>(hb.cell (p:=⟨b,o,none⟩) hl).trans hu) hb.size fun _ h _=>h
theorem Fl.mono{P Q:Nat->Prop}{w:World}{b:Nat}{v:SV}(h:Fl P w b v)(hQ:∀b,P b->b<w.heap.size->Q b):Fl Q w b v:=h.kept (fun _ _ _ _ _ hu=>hu) (Ao _) hQ
theorem Fl.grown{P:Nat->Prop}{w w':World}{b:Nat}{v:SV}{row:Option Nat}(h:Fl P w b v)(hg:w.grownBy w' row)(hne:∀b,P b->some b≠row):Fl P w' b v:=
 h.kept (fun b o u hp _ hu=>hg.cell hu (hne b hp)) hg.size fun _ h _=>h
theorem P5:(prog.info? 53).map (fun i=>(i.zero,i.size,i.bytes))=some (some (.pointer none),1,8):=aP
theorem Qbm:(prog.info? 3).map (fun i=>(i.zero,i.size,i.bytes))=some (some (.int .i64 0),1,8):=aP
theorem Yt{W:World}{base s1 s2 n1 n2:Nat}{e1 e2:TypeId}{v1 v2:Value}{xs ys:List Value}(h:W.ownsRow base e1 s1 v1 n1 xs)(k:W.ownsRow base e2 s2 v2 n2 ys)(hne:e1≠e2):v1.ownBlock=none\/v1.ownBlock≠v2.ownBlock:=by
 obtain⟨_,⟨rfl,_⟩|⟨g,cap,cur,rfl,_,h3,_⟩⟩:=h
 ·exact .inl rfl
 obtain⟨_,⟨rfl,_⟩|⟨g',cap',cur',rfl,_,k3,_⟩⟩:=k
 ·exact .inr gw
 refine .inr fun e=>?_;injection e with e;simp only at e;subst e;rw[h3]at k3;injection k3 with k3;injection k3 with _ k3;exact hne k3
theorem Nf{base b:Nat}{v:Value}(h:∀k,v.ownBlock=some k->base<=k)(hb:b<base):v.ownBlock=none\/v.ownBlock≠some b:=by
 by_cases hr:v.ownBlock=none
 ·exact .inl hr
 exact .inr fun e=>by have:=h b e;omega
structure D7(base B:Nat)(W:World)(h0 h1 tu tv ku kv:Value)(gs:List Nat)(xs:List (Nat × SV)):Prop where
 lt:B<W.heap.size
 bs:base<=W.heap.size
 hB:B<base
 bk:Qa W B
 c0:W.cell? (B,0)=some h0
 c1:W.cell? (B,1)=some h1
 c2:W.cell? (B,2)=some tu
 c3:W.cell? (B,3)=some ku
 tags:W.ownsRow base 3 1 tv gs.length (Du gs)
 row:W.ownsRow base 53 1 kv xs.length (Dr (xs.map (·.1)))
 kids:∀x∈xs,Fl (fun c=>base<=c/\kv.ownBlock≠some c/\tv.ownBlock≠some c) W x.1 x.2
theorem D7.after{base B:Nat}{W W':World}{h0 h1 tu tv ku kv:Value}{gs:List Nat}{xs:List (Nat × SV)}(h:D7 base B W h0 h1 tu tv ku kv gs xs)(hb:Below W W W'):D7 base B W' h0 h1 tu tv ku kv gs xs:=by
 obtain⟨hc,_,hz⟩:=Ci hb;exact⟨hz _ h.lt,ae h.bs hb.size,h.hB,h.bk.belowAt h.lt hb,(hc _ _ h.lt).trans h.c0,(hc _ _ h.lt).trans h.c1,(hc _ _ h.lt).trans h.c2,(hc _ _ h.lt).trans h.c3,Cv h.tags hb,Cv h.row hb,fun x hx=>(h.kids x hx).after hb⟩
theorem D7.set2{base B:Nat}{W:World}{h0 h1 tu tv ku kv:Value}{gs:List Nat}{xs:List (Nat × SV)}(h:D7 base B W h0 h1 tu tv ku kv gs xs):D7 base B (W.setCell ⟨B,2,none⟩ tv) h0 h1 tv tv ku kv gs xs:=by
 have hg:=Al W B 2 tv;exact m6
theorem D7.set3{base B:Nat}{W:World}{h0 h1 tu tv ku kv:Value}{gs:List Nat}{xs:List (Nat × SV)}(h:D7 base B W h0 h1 tu tv ku kv gs xs):D7 base B (W.setCell ⟨B,3,none⟩ kv) h0 h1 tu tv kv kv gs xs:=by
 have hg:=Al W B 3 kv;exact m6
theorem D7.appK{base B:Nat}{W W':World}{h0 h1 tu tv ku kv kv':Value}{gs:List Nat}{xs:List (Nat × SV)}{x:Nat × SV}(h:D7 base B W h0 h1 tu tv ku kv gs xs)(hx:Fl (fun c=>base<=c/\kv.ownBlock≠some c/\tv.ownBlock≠some c) W x.1 x.2)
  (hown:W'.ownsRow base 53 1 kv' (xs.length+1) (Dr (xs.map (·.1))++[.pointer (some ⟨x.1,0,none⟩)])) (hg:W.grownBy W' kv.ownBlock) (hwh:kv'.ownBlock=kv.ownBlock\/∃k,kv'.ownBlock=some k/\W.heap.size<=k):D7 base B W' h0 h1 tu tv ku kv' gs (xs++[x]):=by
 have hn:some B≠kv.ownBlock:=fun e=>gf;refine⟨ad h.lt hg.size,ae h.bs hg.size,h.hB,h.bk.grown h.lt hg hn,hg.cell h.c0 hn,hg.cell h.c1 hn,hg.cell h.c2 hn,hg.cell h.c3 hn,h.tags.kept hg (Yt h.tags h.row aL),by simpa [Dr]using hown,fun y hy=>?_⟩;have hy':Fl (fun c=>base<=c/\kv.ownBlock≠some c/\tv.ownBlock≠some c) W y.1 y.2:=by
  rcases ag.1 hy with hy|hy
  ·exact h.kids y hy
  rw[ar]at hy;subst hy;exact hx
 refine hy'.kept (fun b o v hb _ hv=>hg.cell hv fun e=>hb.2.1 e.symm) hg.size fun c hc hl=>⟨hc.1,?_,hc.2.2⟩
 rcases hwh with e|⟨k,e,hk⟩
 ·rw[e];exact hc.2.1
 exact m7
theorem D7.appT{base B:Nat}{W W':World}{h0 h1 tu tv tv' ku kv:Value}{gs:List Nat}{xs:List (Nat × SV)}{g:Nat}(h:D7 base B W h0 h1 tu tv ku kv gs xs)
  (hown:W'.ownsRow base 3 1 tv' (gs.length+1) (Du gs++[.int .i64 (g:Int)])) (hg:W.grownBy W' tv.ownBlock) (hwh:tv'.ownBlock=tv.ownBlock\/∃k,tv'.ownBlock=some k/\W.heap.size<=k):D7 base B W' h0 h1 tu tv' ku kv (gs++[g]) xs:=by
 have hn:some B≠tv.ownBlock:=fun e=>by have:=(h.tags.lt B e.symm).1;have:=h.hB;omega
 refine⟨ad h.lt hg.size,ae h.bs hg.size,h.hB,h.bk.grown h.lt hg hn,hg.cell h.c0 hn,hg.cell h.c1 hn,hg.cell h.c2 hn,hg.cell h.c3 hn,by simpa [Du]using hown,h.row.kept hg (Yt h.row h.tags aL),fun y hy=>?_⟩;refine(h.kids y hy).kept (fun b o v hb _ hv=>hg.cell hv fun e=>hb.2.2 e.symm) hg.size fun c hc hl=>⟨hc.1,hc.2.1,?_⟩
 rcases hwh with e|⟨k,e,hk⟩
 ·rw[e];exact hc.2.2
 exact m7
theorem Qdz{w:World}{base k n m c:Nat}{e:TypeId}{A:Option Addr}{xs:List Value}(h:w.ownsRow base e k (.slice A m c) n xs):m=n:=by
 rcases h.2 with⟨e,h0⟩|⟨g,cap,cur,e,_⟩
 ·injection e with _ e1 e2;omega
 injection e with _ e1 e2
theorem D7.push{base B n c:Nat}{W W':World}{A:Option Addr}{h0 h1 tu tv ku kv':Value}{gs:List Nat}{xs:List (Nat × SV)}{x:Nat × SV}(h:D7 base B W h0 h1 tu tv ku (.slice A n c) gs xs)(hx:Fl (fun c1=>base<=c1/\(Value.slice A n c).ownBlock≠some c1/\tv.ownBlock≠some c1) W x.1 x.2)
  (hown:W'.ownsRow base 53 1 kv' (xs.length+1) (Dr (xs.map (·.1))++[.pointer (some ⟨x.1,0,none⟩)])) (hg:W.grownBy W' (Value.slice A n c).ownBlock) (hwh:kv'.ownBlock=(Value.slice A n c).ownBlock\/∃k,kv'.ownBlock=some k/\W.heap.size<=k):
  ∃A6 c6,kv'=.slice A6 (xs++[x]).length c6/\D7 base B W' h0 h1 tu tv ku kv' gs (xs++[x])/\Below base W W':=by
 have hA:=h.appK hx hown hg hwh;have e:(xs++[x]).length=xs.length+1:=aN;rcases hown.2 with⟨e0,h0⟩|⟨g,cap,cur,e1,_⟩
 ·omega
 exact⟨some ⟨g,0,none⟩,cap,by rw[e,e1],hA,(Am _ _).grown hg h.bs (fun k hk=>(h.row.lt k hk).1)⟩
theorem D7.pushT{base B n c g:Nat}{W W':World}{A:Option Addr}{h0 h1 tu tv' ku kv:Value}{gs:List Nat}{xs:List (Nat × SV)}(h:D7 base B W h0 h1 tu (.slice A n c) ku kv gs xs)
  (hown:W'.ownsRow base 3 1 tv' (gs.length+1) (Du gs++[.int .i64 (g:Int)])) (hg:W.grownBy W' (Value.slice A n c).ownBlock) (hwh:tv'.ownBlock=(Value.slice A n c).ownBlock\/∃k,tv'.ownBlock=some k/\W.heap.size<=k):
  ∃A6 c6,tv'=.slice A6 (gs++[g]).length c6/\D7 base B W' h0 h1 tu tv' ku kv (gs++[g]) xs/\Below base W W':=by
 have hA:=h.appT hown hg hwh;have e:(gs++[g]).length=gs.length+1:=aN;rcases hown.2 with⟨e0,h0⟩|⟨g9,cap,cur,e1,_⟩
 ·omega
 exact⟨some ⟨g9,0,none⟩,cap,by rw[e,e1],hA,(Am _ _).grown hg h.bs (fun k hk=>(h.tags.lt k hk).1)⟩
theorem Qcx{w:World}{base n:Nat}{e:TypeId}{v:Value}{xs:List Value}(h:w.ownsRow base e 1 v n xs)(hx:xs.length=n)(hl:n<=1000):∃A c,v=.slice A n c/\Bx w A n xs/\∀g o,0<n->A=some ⟨g,o,none⟩->base<=g:=by
 have h':=h;rcases h.2 with⟨rfl,h0⟩|⟨g,cap,cur,rfl,hbg,hh,hnc,hcm,hcs,htk⟩
 ·subst h0;exact⟨none,0,rfl,⟨hx,ah _,fun hn=>absurd hn aL⟩,fun g o hn _=>absurd hn aL⟩
 refine⟨some ⟨g,0,none⟩,cap,rfl,⟨hx,by unfold maxLen;omega,fun hn=>⟨g,0,rfl,(h'.lt g rfl).2,fun j u hu=>?_⟩⟩,fun g' o _ e=>by injection e with e;injection e with e;subst e;exact hbg⟩;have:=h'.cells (g:=g) rfl j u hu;have e1:(⟨g,0,none⟩:Addr).add j=⟨g,0+j,none⟩:=bI;rwa [e1]at this
theorem D7.done{base B:Nat}{W:World}{kind text:List UInt8}{tv kv:Value}{gs:List Nat}{xs:List (Nat × SV)}(h:D7 base B W kind text tv tv kv kv gs xs)(hg:gs.length<=1000)(hx:xs.length<=1000):Fl (fun c=>B<=c) W B (.mk kind text gs (xs.map (·.2))):=by
 obtain⟨A1,c1,rfl,r1,p1⟩:=Qcx h.tags (by simp[Du]) hg;obtain⟨A2,c2,rfl,r2,p2⟩:=Qcx h.row (by simp[Dr]) hx;have hB:=h.hB;exact .mk kind text gs A1 A2 c1 c2 xs rfl h.lt (Ao _) h.c0 h.c1 h.c2 h.c3 r1 r2 hg hx (fun g o hn e=>by have:=p1 g o hn e;omega) (fun g o hn e=>by have:=p2 g o hn e;omega) fun x hx=>(h.kids x hx).mono fun c hc _=>by have:=hc.1;omega
theorem D7.new{W:World}{T:TypeId}(h0 h1:Value):D7 (W.heap.size+1) W.heap.size (W.alloc (.cells #[h0,h1,.slice none 0 0,.slice none 0 0] T)) h0 h1 (.slice none 0 0) (.slice none 0 0) (.slice none 0 0) (.slice none 0 0) [] []:=
 ⟨by simp,by simp,by omega,Qa.new _ _ _,by simp[go_sem],by simp[go_sem],by simp[go_sem],by simp[go_sem],World.ownsRow_nil _ _ _ _,World.ownsRow_nil _ _ _ _,by simp⟩
section
attribute [local go_sem] Qm0 Ql8 Qlz Qj6 ByteArray.mk_append_mk
theorem Vh(c:UInt8)(p:List UInt8):∀(l:List (List UInt8)),Aw c (l++[p])=if l.length=0 then p else Aw c l++c::p
 |[]=>rfl
 |[q]=>by simp[Aw]
 |q::r::l=>by
  have ih:=Vh c p (r::l);rw[aw,Cz c q aN,ih,Cz c q aN];simp
def Gx(l:List UInt8)(w:World)(e:Ending)(w':World):Prop:=e=.returned l/\Below w w w'
theorem Fl.open_{P:Nat->Prop}{w:World}{b:Nat}{kind text:List UInt8}{tags:List Nat}{kids:List SV}(h:Fl P w b (.mk kind text tags kids)):∃(A1 A2:Option Addr) (c1 c2:Nat) (xs:List (Nat × SV)),b<w.heap.size/\P b/\w.cell? (b,0)=kind/\w.cell? (b,1)=text /\
  w.cell? (b,2)=some (.slice A1 tags.length c1)/\w.cell? (b,3)=some (.slice A2 xs.length c2)/\Bx w A1 tags.length (Du tags)/\Bx w A2 xs.length (Dr (xs.map (·.1)))/\tags.length<=1000/\xs.length<=1000/\kids=xs.map (·.2)/\∀x∈xs,Fl P w x.1 x.2:=by
 obtain⟨k,t,g,A1,A2,c1,c2,xs,hv,hb,hP,h0,h1,h2,h3,hr1,hr2,hl1,hl2,_,_,h⟩:=h;injection hv with e1 e2 e3 e4;subst e1 e2 e3 e4;exact⟨A1,A2,c1,c2,xs,hb,hP,h0,h1,h2,h3,hr1,hr2,hl1,hl2,rfl,h⟩
theorem Yh{xs:List (Nat × SV)}{i:Nat}(hi:i<xs.length):(Dr (xs.map (·.1)))[i]'(by simp[Dr];exact hi)=.pointer (some ⟨xs[i].1,0,none⟩):=by simp[Dr]
theorem Qe2{l:List Nat}{i:Nat}(hi:i<l.length):(Du l)[i]'(by simp[Du];exact hi)=.int .i64 (l[i]:Int):=by simp[Du]
theorem Sa(P:Nat->Prop)(b:Nat)(c:UInt8)(tx:List UInt8)(w:World)(hc:c=110\/c=116\/c=102)(h:Fl P w b (.mk [c] tx [] [])):Calls prog 50 #[b] w (Gx tx w):=by
 obtain⟨_,_,_,_,_,hb,_,h0,h1,_⟩:=h.open_;have HR:=Aa h1;rcases hc with rfl|rfl|rfl<;>
 ·go_enter func50,ntmps50;go_wp2_with fail;exact lD
theorem Qiu(P:Nat->Prop)(b:Nat)(kr:List UInt8)(kids:List SV)(ks:List Vl)(w:World)(h:Fl P w b (.mk (91::kr) [] [] kids))(hkr:kr.length<=100)(hl:(Ba (.mk 91 [] 0 ks)).length<=100000000)(hkl:kids.length=ks.length)
  (ih:∀(i:Nat) (hi:i<kids.length) (hi2:i<ks.length) b W,Fl P W b kids[i]->(Ba ks[i]).length<=100000000->Calls prog 50 #[.pointer (some ⟨b,0,none⟩)] W (Gx (Ba ks[i]) W)):
  Calls prog 50 #[.pointer (some ⟨b,0,none⟩)] w (Gx (Ba (.mk 91 [] 0 ks)) w):=by
 obtain⟨A1,A2,c1,c2,xs,hb,_,h0,_,_,h3,_,hr2,_,hxl,rfl,hk⟩:=h.open_;have HF:=Aa (Jj ks);have hjl:(Aw 44 (ks.map Ba)).length<=100000000:=by rw[Jj]at hl;simp at hl;omega
 rw[Bt]at hjl
 have Hjt:=Aa (fun i (hi:i<ks.length)=>(show Dh ((ks.take (i+1)).map Ba)<=Dh (ks.map Ba)/\(Ba ks[i]).length+1+Dh ((ks.take i).map Ba)=Dh ((ks.take (i+1)).map Ba)from by
  refine⟨?_,?_⟩
  ·conv=>rhs;rw[<-List.take_append_drop (i+1) ks,aA]
   exact m9
  rw[Ch ks i hi,aA];simp[Dh];omega))
 have hkl2:xs.length=ks.length:=by simpa using hkl
 have Ih:=Aa ih;have Hr:=Aa hr2;have Hk:=Aa hk;have Hkl:=Aa hkl2;have Hlen:=Aa hjl;have hle:ks.length<=xs.length:=aI;clear hkl hkl2 ih hr2 hk h hl hjl;go_enter func50,ntmps50;go_wp2_with fail;go_loopw [4,3] (fun i s wr=>∃m:Nat,i=.int .i64 m/\m<=xs.length/\s=.string ⟨(91::Aw 44 ((ks.take m).map Ba):List UInt8).toArray⟩/\Hid (Below w w wr)) (fun i _ _=>xs.length - (intOf i).toNat)
 case atStart=>exact⟨0,rfl,ah _,rfl,Am _ _⟩
 case round=>
  obtain⟨m,rfl,hm,rfl,Hbr⟩:=hrel;have m1:(0:Int)<=(m:Int):=aI;have g3:=(Hbr.o.cell (p:=⟨b,3,none⟩) hb).trans h3;have hbw:b<wr.heap.size:=fY;have HJ:=Aa (Bt 44 ((ks.take m).map Ba));by_cases hlt:m<xs.length
  ·have m2:(m:Int)<(xs.length:Int):=aI;have hltk:m<ks.length:=fD;obtain⟨b8,o8,rfl,hb8,hc8⟩:=(Hr.o.below Hbr.o).at_ hlt;rw[Yh hlt]at hc8;have HX:=Aa (fun W (hW:Below w w W)=>Ih.o m fS hltk xs[m].1 W fI (by obtain⟨q1,q2⟩:=Hjt.o m hltk;have:=Hlen.o;omega));obtain⟨q1,q2⟩:=Hjt.o m hltk;have hjm:(Aw 44 ((ks.take m).map Ba)).length<=100000000:=by rw[HJ.o];have:=Hlen.o;omega
   have hpm:(Ba ks[m]).length<=100000000:=fx
   have HP:=Aa (show Aw 44 ((ks.take (m+1)).map Ba)=if m=0 then Ba ks[m]else Aw 44 ((ks.take m).map Ba)++44::Ba ks[m]from by
    rw[Ch ks m hltk,aA,List.map_singleton,Vh];have:((ks.take m).map Ba).length=m:=aO;rw[this])
   have HP0:=@Aa (m=0->Aw 44 ((ks.take m).map Ba)=[]) (by rintro rfl;rfl);clear q1 q2;generalize Ba ks[m]=pm at *;generalize Aw 44 ((ks.take m).map Ba)=jm at *;generalize xs[m].1=bm at *;by_cases h0m:m=0
   ·have t0:¬(0<m):=aI;have t1:¬((0:Int)<(m:Int)):=aI;have HP1:=Aa (HP.o.trans (if_pos h0m));have HP2:=Aa (HP0.o h0m);clear h0m HP HP0 HJ;go_wp2_with fail;refine(HX.o _ Hbr.o).mono ?_;rintro e w3 ⟨rfl,hb3⟩;have Hb3:=Aa (Hbr.o.trans (hb3.mono Hbr.o.size));clear hb3;go_wp2_with fail;go_roundw
    case rel=>exact⟨m+1,by go_num,by omega,by rw[HP1.o,HP2.o];rfl,Hb3.o⟩
    case measure=>simp[intOf];omega
   have t0:0<m:=aI;have t1:(0:Int)<(m:Int):=aI;have HP1:=Aa (HP.o.trans (if_neg h0m));clear h0m HP HP0 HJ;go_wp2_with fail;refine(HX.o _ Hbr.o).mono ?_;rintro e w3 ⟨rfl,hb3⟩;have Hb3:=Aa (Hbr.o.trans (hb3.mono Hbr.o.size));clear hb3;go_wp2_with fail;go_roundw
   case rel=>exact⟨m+1,by go_num,by omega,by rw[HP1.o]<;>simp,Hb3.o⟩
   case measure=>simp[intOf];omega
  ·have em:m=ks.length:=fD;have HE:=Aa (show Aw 44 ((ks.take m).map Ba)=Aw 44 (ks.map Ba)by rw[em,List.take_length]);have hjm:(Aw 44 ((ks.take m).map Ba)).length<=100000000:=by rw[HE.o,Bt];exact Hlen.o
   clear em HJ;generalize Aw 44 ((ks.take m).map Ba)=jm at *;go_wp2_with fail;go_ret;exact⟨by rw[HF.o,<-HE.o];rfl,Hbr.o⟩
theorem Qd7(P:Nat->Prop)(b:Nat)(kr:List UInt8)(kids:List SV)(o:Option Vl)(w:World)(h:Fl P w b (.mk (63::kr) [] [] kids))(hkr:kr.length<=100)(hl:(Ba (.mk 63 [] 0 o.toList)).length<=100000000)(hkl:kids.length=o.toList.length)
  (ih:∀x,o=some x->∀b W y,y∈kids->Fl P W b y->Calls prog 50 #[.pointer (some ⟨b,0,none⟩)] W (Gx (Ba x) W)):
  Calls prog 50 #[.pointer (some ⟨b,0,none⟩)] w (Gx (Ba (.mk 63 [] 0 o.toList)) w):=by
 obtain⟨A1,A2,c1,c2,xs,hb,_,h0,_,_,h3,_,hr2,_,hxl,rfl,hk⟩:=h.open_;cases o with
 |none=>
  have hx0:xs=[]:=by simpa using hkl
  subst hx0;clear hk hr2 ih h;go_enter func50,ntmps50;go_wp2_with fail;exact lD
 |some x=>
  obtain⟨⟨bx,y⟩,rfl⟩:∃a,xs=[a]:=by
   cases xs with
   |nil=>simp at hkl
   |cons a l=>cases l with
    |nil=>exact⟨a,rfl⟩
    |cons b l=>simp at hkl
  have HF:=Aa (show Ba (.mk 63 [] 0 [x])=43::Ba x by simp[Ba,Dz,H6,Aw]);have hpl:(Ba x).length<=100000000:=by have:=HF.o;simp only[Option.toList]at hl;rw[this]at hl;simp at hl;omega
  obtain⟨b8,o8,rfl,hb8,hc8⟩:=hr2.at_ (show 0<1 by decide);simp[Dr]at hc8;have HX:=Aa (ih x rfl bx w y aN (hk (bx,y) aN));simp only[List.length_singleton]at h3;clear hk hr2 ih h hkl;generalize Ba x=px at *;go_enter func50,ntmps50;go_wp2_with fail;refine HX.o.mono ?_;rintro e w3 ⟨rfl,hb3⟩;have Hb3:=Aa hb3;clear hb3;go_wp2_with fail;go_ret;exact⟨by show _=Ending.returned (.string ⟨(Ba (.mk 63 [] 0 [x])).toArray⟩);rw[HF.o];rfl,Hb3.o⟩
theorem Qip(P:Nat->Prop)(b:Nat)(kr:List UInt8)(g:Nat)(w:World)(h:Fl P w b (.mk (64::kr) [69] [g] []))(hkr:kr.length<=100)(hg:g<=200):Calls prog 50 #[b] w (Gx (35::Bb g) w):=by
 obtain⟨A1,A2,c1,c2,xs,hb,_,h0,ht,h2,_,hr1,_⟩:=h.open_;obtain⟨b6,o6,rfl,hb6,hc6⟩:=hr1.at_ (show 0<1 by decide);simp[Du]at hc6 h2;have Hd:=Aa (fun W=>Gf g g W (Ao _) aI);have hdl:=Db 2 g ca
 have HN:=Aa (show Calls prog 94 #[b] w (Gx (35::Bb g) w)from by
  clear h h0 hr1;go_enter func94,ntmps94;go_wp2_with fail;refine(Hd.o _).mono ?_;rintro e w3 ⟨rfl,hb3⟩;have Hb3:=Aa hb3;clear hb3;go_wp2_with fail;go_ret;exact⟨rfl,Hb3.o⟩)
 clear h ht h2 hr1 Hd hc6;go_enter func50,ntmps50;go_wp2_with fail;refine HN.o.mono ?_;rintro e w3 ⟨rfl,hb3⟩;have Hb3:=Aa hb3;clear hb3;go_wp2_with fail;exact ma
theorem Qij(P:Nat->Prop)(b:Nat)(kr:List UInt8)(g:Nat)(y:SV)(px:List UInt8)(w:World)(h:Fl P w b (.mk (64::kr) [85] [g] [y]))(hkr:kr.length<=100)(hg:g<=200)(hpl:px.length<=100000000)
  (ih:∀b W,Fl P W b y->Calls prog 50 #[.pointer (some ⟨b,0,none⟩)] W (Gx px W)):
  Calls prog 50 #[.pointer (some ⟨b,0,none⟩)] w (Gx (60::(Bb g++61::(px++[62]))) w):=by
 obtain⟨A1,A2,c1,c2,xs,hb,_,h0,ht,h2,h3,hr1,hr2,_,_,hkk,hk⟩:=h.open_;obtain⟨⟨bx,y'⟩,rfl⟩:∃a,xs=[a]:=by
  cases xs with
  |nil=>simp at hkk
  |cons a l=>cases l with
   |nil=>exact⟨a,rfl⟩
   |cons b l=>simp at hkk
 obtain rfl:y=y':=by simpa using hkk
 obtain⟨b6,o6,rfl,hb6,hc6⟩:=hr1.at_ (show 0<1 by decide);obtain⟨b8,o8,rfl,hb8,hc8⟩:=hr2.at_ (show 0<1 by decide);simp[Du]at hc6 h2;simp[Dr]at hc8 h3;have Hd:=Aa (fun W=>Gf g g W (Ao _) aI);have hdl:=Db 2 g ca;have HX:=Aa (fun W (hW:Below w w W)=>ih bx W ((hk (bx,y) aN).after hW));have C6:=Aa hc6;have C8:=Aa hc8;have C2:=Aa h2;have C3:=Aa h3
 have HN:=Aa (show Calls prog 94 #[.pointer (some ⟨b,0,none⟩)] w (Gx (60::(Bb g++61::(px++[62]))) w)from by
  clear h h0 hr1 hr2 hk hkk ih;go_enter func94,ntmps94;go_wp2_with fail;clear h2 h3 hc6 hc8;refine Gd [11,12,13,14,15,16,17,18,19,20,21,22,23,24,25,26,27,28,2]
   (fun ix v W=>match ix with|0=>v=.pointer (some ⟨b,0,none⟩)|1=>v=.pointer (some ⟨b,0,none⟩)|2=>v=.pointer (some ⟨b,2,none⟩)|3=>v=.slice (some ⟨b6,o6,none⟩) 1 c1|4=>v=.pointer (some ⟨b6,o6,none⟩)|5=>v=(g:Int)|6=>v=(Bb g:List UInt8)|7=>v=(60::Bb g:List UInt8)|8=>v=.string ⟨(60::(Bb g++[61]):List UInt8).toArray⟩|9=>v=.pointer (some ⟨b,0,none⟩)|10=>v=.pointer (some ⟨b,0,none⟩)|11=>v=.pointer (some ⟨b,3,none⟩)|12=>v=.slice (some ⟨b8,o8,none⟩) 1 c2|13=>v=.pointer (some ⟨b8,o8,none⟩)|14=>v=bx|15=>v=(px:List UInt8)|16=>v=.string ⟨(60::(Bb g++61::px):List UInt8).toArray⟩|17=>v=.string ⟨(60::(Bb g++61::(px++[62])):List UInt8).toArray⟩|18=>v=.string ⟨(60::(Bb g++61::(px++[62])):List UInt8).toArray⟩|_=>True)
   (fun L U W=>Below w w W) ((Am _ _).drew) ?_ ?_
  ·repeat (first|exact Ai.nil|(refine Ai.cons ?_ ?_;rotate_left))
   all_goals
    rintro L U W hL hpre HR Hdep K hK;have hB:=HR.o;have d2:=(hB.cell (p:=⟨b,2,none⟩) hb).trans C2.o;have d3:=(hB.cell (p:=⟨b,3,none⟩) hb).trans C3.o;have d6:=(hB.cell (p:=⟨b6,o6,none⟩) hb6).trans C6.o;have d8:=(hB.cell (p:=⟨b8,o8,none⟩) hb8).trans C8.o;first|(simp[Region.binds]at hpre;done)|simp[Region.binds]at hpre|clear hpre
   iterate 6
    ·exact ii
   ·exact jp
   ·exact ir
   ·exact ir
   iterate 6
    ·exact ii
   ·go_simp;refine(HX.o W hB).mono ?_;rintro e w3 ⟨rfl,hb3⟩;exact hK _ _ _ rfl Ab (hB.trans (hb3.mono hB.size)) aK
   ·exact ir
   ·exact ir
   ·exact ii
  rintro L U W hL hφ hR;have e18:U 18=.string ⟨(60::(Bb g++61::(px++[62])):List UInt8).toArray⟩:=hφ 18 aL;simp only[e18];clear hφ;have Hb9:=Aa hR;clear hL hR;go_wp2_with fail;go_ret;exact⟨rfl,Hb9.o⟩)
 clear h ht h2 h3 hr1 hr2 Hd hc6 hc8 hk hkk ih HX C6 C8 C2 C3;go_enter func50,ntmps50;go_wp2_with fail;refine HN.o.mono ?_;rintro e w3 ⟨rfl,hb3⟩;have Hb3:=Aa hb3;clear hb3;go_wp2_with fail;exact ma
theorem Qj1(P:Nat->Prop)(b:Nat)(kr:List UInt8)(kids:List SV)(ps:List (Fd × Vl))(w:World)(h:Fl P w b (.mk (64::kr) [82] (ps.map fun p=>p.1.tag) kids))(hkr:kr.length<=100)(hl:(Ba (.mk 82 [] 0 (ps.map Df))).length<=100000000)(hkl:kids.length=ps.length)
  (htg:∀p∈ps,p.1.tag<=200) (ih:∀(i:Nat) (hi:i<kids.length) (hi2:i<ps.length) b W,Fl P W b kids[i]->(Ba ps[i].2).length<=100000000->Calls prog 50 #[.pointer (some ⟨b,0,none⟩)] W (Gx (Ba ps[i].2) W)):
  Calls prog 50 #[.pointer (some ⟨b,0,none⟩)] w (Gx (Ba (.mk 82 [] 0 (ps.map Df))) w):=by
 obtain⟨A1,A2,c1,c2,xs,hb,_,h0,ht,h2,h3,hr1,hr2,_,hxl,rfl,hk⟩:=h.open_;have HF:=Aa (Mb ps);have hjl:(Aw 44 (ps.map fun p=>Ba (Df p))).length<=100000000:=by rw[Mb]at hl;simp at hl;omega
 rw[Bt]at hjl
 have Hjt:=Aa (fun i (hi:i<ps.length)=>(show Dh ((ps.take (i+1)).map fun p=>Ba (Df p))<=Dh (ps.map fun p=>Ba (Df p))/\(Ba (Df ps[i])).length+1+Dh ((ps.take i).map fun p=>Ba (Df p))=Dh ((ps.take (i+1)).map fun p=>Ba (Df p))from by
  refine⟨?_,?_⟩
  ·conv=>rhs;rw[<-List.take_append_drop (i+1) ps,aA]
   exact m9
  rw[Ch ps i hi,aA];simp[Dh];omega))
 have hkl2:xs.length=ps.length:=by simpa using hkl
 have Ih:=Aa ih;have Hr1:=Aa hr1;have Hr:=Aa hr2;have Hk:=Aa hk;have Hkl:=Aa hkl2;have Hlen:=Aa hjl;have Htg:=Aa htg;have C2:=Aa (show w.cell? ⟨b,2,none⟩=some (.slice A1 ps.length c1)by simpa using h2);have hle:ps.length<=xs.length:=aI
 have HN:=Aa (show Calls prog 94 #[.pointer (some ⟨b,0,none⟩)] w (Gx (Ba (.mk 82 [] 0 (ps.map Df))) w)from by
  clear hkl hkl2 ih hr1 hr2 hk h hl hjl h0 h2 htg;go_enter func94,ntmps94;go_wp2_with fail;go_loopw [4,3] (fun i s wr=>∃m:Nat,i=.int .i64 m/\m<=xs.length/\s=.string ⟨(123::Aw 44 ((ps.take m).map fun p=>Ba (Df p)):List UInt8).toArray⟩/\Hid (Below w w wr)) (fun i _ _=>xs.length - (intOf i).toNat)
  case atStart=>exact⟨0,rfl,ah _,rfl,Am _ _⟩
  case round=>
   obtain⟨m,rfl,hm,rfl,Hbr⟩:=hrel;have m1:(0:Int)<=(m:Int):=aI;have g3:=(Hbr.o.cell (p:=⟨b,3,none⟩) hb).trans h3;have hbw:b<wr.heap.size:=fY;have HJ:=Aa (Bt 44 ((ps.take m).map fun p=>Ba (Df p)));by_cases hlt:m<xs.length
   ·have m2:(m:Int)<(xs.length:Int):=aI;have hltk:m<ps.length:=fD;have m2':(m:Int)<(ps.length:Int):=aI;obtain⟨b8,o8,rfl,hb8,hc8⟩:=(Hr.o.below Hbr.o).at_ hlt;rw[Yh hlt]at hc8;obtain⟨b6,o6,e6,hb6,hc6⟩:=(Hr1.o.below Hbr.o).at_ (show m<(ps.map fun p=>p.1.tag).length by simpa using hltk);rw[Qe2 (by simpa using hltk),List.getElem_map]at hc6;subst e6;obtain⟨q1,q2⟩:=Hjt.o m hltk;have hfl:=Jn ps[m];have hjm:(Aw 44 ((ps.take m).map fun p=>Ba (Df p))).length<=100000000:=by rw[HJ.o];have:=Hlen.o;omega
    have hpm:(Ba ps[m].2).length<=100000000:=fx;have HX:=Aa (fun W (hW:Below w w W)=>Ih.o m fS hltk xs[m].1 W fI hpm);have hgt:=Htg.o _ (af hltk);have Hd:=Aa (fun W=>Gf ps[m].1.tag ps[m].1.tag W (Ao _) aI);have hdl:=Db 2 ps[m].1.tag ca
    have HP:=Aa (show Aw 44 ((ps.take (m+1)).map fun p=>Ba (Df p))=(if m=0 then[]else Aw 44 ((ps.take m).map fun p=>Ba (Df p))++[44])++(Bb ps[m].1.tag++61::Ba ps[m].2)from by
     rw[Ch ps m hltk,aA,List.map_singleton,Vh];have:((ps.take m).map fun p=>Ba (Df p)).length=m:=aO;rw[this,show Ba (Df ps[m])=Bb ps[m].1.tag++61::Ba ps[m].2 by simp[Df,Ba,Dz,H6,Aw]];by_cases h0:m=0
     ·rw[if_pos h0,if_pos h0];rfl
     rw[if_neg h0,if_neg h0];simp)
    have HP0:=@Aa (m=0->Aw 44 ((ps.take m).map fun p=>Ba (Df p))=[]) (by rintro rfl;rfl);clear q1 q2 hfl;generalize Ba ps[m].2=pm at *;generalize Aw 44 ((ps.take m).map fun p=>Ba (Df p))=jm at *;generalize xs[m].1=bm at *;generalize ps[m].1.tag=gm at *;obtain⟨acc,hacc⟩:∃acc:List UInt8,acc=if m=0 then 123::jm else 123::(jm++[44]):=⟨_,rfl⟩
    have hal:acc.length<=100000002:=by rw[hacc];split<;>simp<;>omega
    have HPn:=Aa (show (123::Aw 44 ((ps.take (m+1)).map fun p=>Ba (Df p)):List UInt8)=acc++(Bb gm++61::pm)from by
     rw[HP.o,hacc];by_cases h0:m=0
     ·rw[if_pos h0,if_pos h0,HP0.o h0];rfl
     rw[if_neg h0,if_neg h0];simp)
    have C8:=Aa hc8;have C6:=Aa hc6;have hzr:=Hbr.o.size;by_cases h0m:m=0
    ·have t0:¬(0<m):=aI;have t1:¬((0:Int)<(m:Int)):=aI;have hA:=hacc.trans (if_pos h0m);have HA:=Aa hA;clear h0m HP HP0 HJ hacc hA hc8 hc6;go_wp2_with fail;rw[<-HA.o];refine rgE [52,53,54,55,56,57,58,59,60,61,62,63,64,65,66,67,68,69,70,71,3]
      (fun ix v W=>match ix with|0=>v=(acc:List UInt8)|1=>v=.pointer (some ⟨b,0,none⟩)|2=>v=.pointer (some ⟨b,0,none⟩)|3=>v=.pointer (some ⟨b,2,none⟩)|4=>v=.slice (some ⟨b6,o6,none⟩) ps.length c1|5=>v=(m:Int)|6=>v=.pointer (some ⟨b6,o6+m,none⟩)|7=>v=(gm:Int)|8=>v=(Bb gm:List UInt8)|9=>v=(acc++Bb gm:List UInt8)|10=>v=.string ⟨(acc++(Bb gm++[61]):List UInt8).toArray⟩|11=>v=.pointer (some ⟨b,0,none⟩)|12=>v=.pointer (some ⟨b,0,none⟩)|13=>v=.pointer (some ⟨b,3,none⟩)|14=>v=.slice (some ⟨b8,o8,none⟩) xs.length c2|15=>v=(m:Int)|16=>v=.pointer (some ⟨b8,o8+m,none⟩)|17=>v=bm|18=>v=(pm:List UInt8)|19=>v=.string ⟨(acc++(Bb gm++61::pm):List UInt8).toArray⟩|20=>v=.string ⟨(acc++(Bb gm++61::pm):List UInt8).toArray⟩|_=>True)
      (fun L U W=>Below wr wr W) ((Am _ _).drew) ?_ ?_
     ·exact iq
     rintro L U W hL hφ hR;have e20:U 20=.string ⟨(acc++(Bb gm++61::pm):List UInt8).toArray⟩:=hφ 20 aL;simp only[e20];clear hφ;have Hb9:=Aa (Hbr.o.trans (hR.mono hzr));clear hL hR;go_wp2_with fail;go_roundw
     case rel=>exact⟨m+1,by go_num,by omega,by rw[HPn.o],Hb9.o⟩
     case measure=>simp[intOf];omega
    have t0:0<m:=aI;have t1:(0:Int)<(m:Int):=aI;have hA:=hacc.trans (if_neg h0m);have HA:=Aa hA;clear h0m HP HP0 HJ hacc hA hc8 hc6;go_wp2_with fail;have HA2:=@Aa ((123::(jm++[44]):List UInt8)=acc) HA.o.symm;first|rw[HA2.o]|(simp only[aw];rw[HA2.o])
    refine rgE [52,53,54,55,56,57,58,59,60,61,62,63,64,65,66,67,68,69,70,71,3]
     (fun ix v W=>match ix with|0=>v=(acc:List UInt8)|1=>v=.pointer (some ⟨b,0,none⟩)|2=>v=.pointer (some ⟨b,0,none⟩)|3=>v=.pointer (some ⟨b,2,none⟩)|4=>v=.slice (some ⟨b6,o6,none⟩) ps.length c1|5=>v=(m:Int)|6=>v=.pointer (some ⟨b6,o6+m,none⟩)|7=>v=(gm:Int)|8=>v=(Bb gm:List UInt8)|9=>v=(acc++Bb gm:List UInt8)|10=>v=.string ⟨(acc++(Bb gm++[61]):List UInt8).toArray⟩|11=>v=.pointer (some ⟨b,0,none⟩)|12=>v=.pointer (some ⟨b,0,none⟩)|13=>v=.pointer (some ⟨b,3,none⟩)|14=>v=.slice (some ⟨b8,o8,none⟩) xs.length c2|15=>v=(m:Int)|16=>v=.pointer (some ⟨b8,o8+m,none⟩)|17=>v=bm|18=>v=(pm:List UInt8)|19=>v=.string ⟨(acc++(Bb gm++61::pm):List UInt8).toArray⟩|20=>v=.string ⟨(acc++(Bb gm++61::pm):List UInt8).toArray⟩|_=>True)
     (fun L U W=>Below wr wr W) ((Am _ _).drew) ?_ ?_
    ·exact iq
    rintro L U W hL hφ hR;have e20:U 20=.string ⟨(acc++(Bb gm++61::pm):List UInt8).toArray⟩:=hφ 20 aL;simp only[e20];clear hφ;have Hb9:=Aa (Hbr.o.trans (hR.mono hzr));clear hL hR;go_wp2_with fail;go_roundw
    case rel=>exact⟨m+1,by go_num,by omega,by rw[HPn.o],Hb9.o⟩
    case measure=>simp[intOf];omega
   ·have em:m=ps.length:=fD;have HE:=Aa (show Aw 44 ((ps.take m).map fun p=>Ba (Df p))=Aw 44 (ps.map fun p=>Ba (Df p))by rw[em,List.take_length]);have hjm:(Aw 44 ((ps.take m).map fun p=>Ba (Df p))).length<=100000000:=by rw[HE.o,Bt];exact Hlen.o
    clear em HJ;generalize Aw 44 ((ps.take m).map fun p=>Ba (Df p))=jm at *;go_wp2_with fail;go_ret;exact⟨by rw[HF.o,<-HE.o];rfl,Hbr.o⟩)
 clear h ht h2 h3 hr1 hr2 hk hkl hkl2 ih Ih Hr1 Hr Hk hl hjl htg;go_enter func50,ntmps50;go_wp2_with fail;refine HN.o.mono ?_;rintro e w3 ⟨rfl,hb3⟩;have Hb3:=Aa hb3;clear hb3;go_wp2_with fail;exact ma
theorem Zd{S:List Ty}(hT:∀t∈S,Ff t)(P:Nat->Prop):∀(d:Nat) (k:Kd) (v:Vl),Gp S d k v->Cm k->∀(b:Nat) (w:World),Fl P w b (By S k v)->(Ba v).length<=100000000->Calls prog 50 #[b] w (Gx (Ba v) w):=by
 intro d;induction d with
 |zero=>intro k v h;cases h
 |succ d ih=>
  intro k v h hk b w hw hl;have hkl:=hk.2.2;cases h with
  |@n _ _ m hs hb h=>
   rw[Zu,show Bc k=[110]by unfold Bc Bv;rw[hs,hb];rfl]at hw;rw[show Ba (.mk 110 (Bb m) 0 [])=Bb m by simp[Ba,Dz,H6]];exact Sa P b 110 _ w (.inl rfl) hw
  |@t _ _ s hs hb h=>
   rw[Ts,show Bc k=[116]by unfold Bc Bv;rw[hs,hb];rfl]at hw;rw[show Ba (.mk 116 s 0 [])=39::(s++[39])by simp[Ba,Dz,H6]];exact Sa P b 116 _ w (.inr (.inl rfl)) hw
  |@f _ _ x hs hb=>
   rw[Tr,show Bc k=[102]by unfold Bc Bv;rw[hs,hb];rfl]at hw;rw[show Ba (.mk 102 (if x then Es else M5) 0 [])=(if x then Es else M5)by simp[Ba,Dz,H6]];exact Sa P b 102 _ w (.inr (.inr rfl)) hw
  |@lst _ _ r ks hs hl2 h=>
   have e:Bc k=91::(r++Bv k):=dU;rw[Qj,e]at hw;rw[e]at hkl;refine Qiu P b _ _ ks w hw di hl aN fun i hi hi2 b W hW hl3=>?_;rw[List.getElem_map]at hW;exact ih _ _ (h _ (af hi2)) (J0 hk).1 b W hW hl3
  |@non _ _ r hs=>
   have e:Bc k=63::(r++Bv k):=dU;rw[Kl,e]at hw;rw[e]at hkl;exact Qd7 P b _ _ none w hw di hl rfl aN
  |@som _ _ r x hs h=>
   have e:Bc k=63::(r++Bv k):=dU;rw[Kl,e]at hw;rw[e]at hkl;have hl3:(Ba x).length<=100000000:=dZ;refine Qd7 P b _ _ (some x) w hw di hl rfl fun y hy b W z hz hW=>?_;injection hy with hy;subst hy;simp at hz;subst hz;exact ih _ _ h (J0 hk).1 b W hW hl3
  |@enm _ _ t f hs hb ht h9 hf=>
   have e:Bc k=64::(k.name++[59]):=dE;rw[Ql,e]at hw;rw[e]at hkl;rw[show Ba (.mk 69 [] f.tag [])=35::Bb f.tag by simp[Ba,Dz,H6]];exact Qip P b _ f.tag w hw di ((hT t (Cq ht).1).2.2.1.1 f (Ax hf).2).2.1
  |@uni _ _ t f x hs hb ht h5 hf h=>
   have e:Bc k=64::(k.name++[59]):=dE;rw[N3,e,E8 ht hf]at hw;rw[e]at hkl;have hkf:=Ml hT ht d9 (Ax hf).2;have e2:Ba (.mk 85 [] f.tag [x])=60::(Bb f.tag++61::(Ba x++[62])):=by simp[Ba,Dz,H6,Aw]
   rw[e2]at hl ⊢;have hl3:(Ba x).length<=100000000:=by simp at hl;omega
   exact Qij P b _ f.tag _ (Ba x) w hw di hkf.2 hl3 fun b W hW=>ih _ _ h hkf.1 b W hW hl3
  |@rcd _ _ t fs hs hb ht h2 hf h hn hp=>
   have e:Bc k=64::(k.name++[59]):=dE;rw[Qc,e]at hw;rw[e]at hkl;have hkf:=fun p (hp:p∈fs)=>Ml hT ht cP (Ax (hf p hp)).2;refine Qj1 P b _ _ fs w hw di hl aN (fun p hp=>(hkf p hp).2) fun i hi hi2 b W hW hl3=>?_;have hm:=af hi2;rw[List.getElem_map,E8 ht (hf _ hm)]at hW;exact ih _ _ (h _ hm) (hkf _ hm).1 b W hW hl3
theorem Zk{S:List Ty}(hT:∀t∈S,Ff t)(P:Nat->Prop):∀(d:Nat) (k:Kd) (v:Vl),Gp S d k v->Cm k->∀(b:Nat) (w:World),Fl P w b (By S k v)->(Ba v).length<=1000000->Calls prog 50 #[b] w (Gx (Ba v) w):=
 fun d k v h1 h2 b w h3 h4=>Zd hT P d k v h1 h2 b w h3 (ae h4 aL)
theorem Qe0(p:UInt8->Bool):∀(s:List UInt8) (i:Nat) (hi:i<s.length),(i<(s.takeWhile p).length->p s[i]=true)/\(i=(s.takeWhile p).length->p s[i]=false)
 |[],i,hi=>by simp at hi
 |x::s,0,hi=>by
  by_cases h:p x=true
  ·simp[h]
  simp[h]
 |x::s,i+1,hi=>by
  have ih:=Qe0 p s i ey;by_cases h:p x=true
  ·rw[List.takeWhile_cons_of_pos h];simpa using ih
  rw[List.takeWhile_cons_of_neg h];simp
theorem S1(p:UInt8->Bool)(s:List UInt8):s.take (s.takeWhile p).length=s.takeWhile p/\s.drop (s.takeWhile p).length=s.dropWhile p/\(s.takeWhile p).length<=s.length:=by
 have e:s.takeWhile p++s.dropWhile p=s:=List.takeWhile_append_dropWhile;have h1:(s.takeWhile p++s.dropWhile p).take (s.takeWhile p).length=s.takeWhile p:=List.take_left;have h2:(s.takeWhile p++s.dropWhile p).drop (s.takeWhile p).length=s.dropWhile p:=List.drop_left;rw[e]at h1 h2;have h3:=congrArg List.length e;rw[ai]at h3;exact⟨h1,h2,by omega⟩
theorem Vx(s:List UInt8)(w:World)(hs:s.length<=4000000):
  Calls prog 132 #[s] w fun e w'=>e=.returned (.int .i64 ((s.takeWhile Bm).length:Int))/\w=w':=by
 have HT:=Aa (Qe0 Bm s);have hle:=(S1 Bm s).2.2;generalize hn:(s.takeWhile Bm).length=n at *;clear hn;go_enter func132,ntmps132;go_wp2_with fail;go_loop [3] (fun i=>∃k:Nat,i=.int .i64 k/\k<=n) (fun i=>n - (intOf i).toNat)
 case atStart=>exact⟨0,rfl,ah _⟩
 case round=>
  obtain⟨k,rfl,hk⟩:=hrel;by_cases hlt:k<s.length
  ·obtain⟨q1,q2⟩:=HT.o k hlt;have hc:=(s[k]).toNat_lt;by_cases hkn:k<n
   ·obtain⟨h3,h4⟩:=Do.1 (q1 hkn);clear q1 q2;go_wp2_with fail;go_round
    case rel=>exact⟨k+1,by go_num,by omega⟩
    case measure=>simp[intOf];omega
   have hd:=q2 aI;have hkn2:k=n:=aI;have h2:(s[k]).toNat<48\/(48<=(s[k]).toNat/\57<(s[k]).toNat):=by
    by_cases h3:48<=(s[k]).toNat
    ·refine .inr ⟨h3,?_⟩;by_cases h4:57<(s[k]).toNat
     ·exact h4
     have:=Do.2 ⟨h3,by omega⟩;rw[hd]at this;cases this
    exact .inl aI
   clear q1 q2 hd;subst hkn2;rcases h2 with h2|⟨h2,h3⟩
   ·go_wp2_with fail;exact kN
   go_wp2_with fail;exact kN
  ·have hkn2:k=n:=aI;subst hkn2;go_wp2_with fail;exact kN
def Bs(S:List Ty)(k:Kd)(o:Option (Vl × List UInt8))(w:World)(e:Ending)(w':World):Prop:=
 (match o with
  |some x=>∃b,e=.returned (.tuple #[.pointer (some ⟨b,0,none⟩),x.2,.bool true])/\Fl (fun c=>w.heap.size<=c) w' b (By S k x.1)
  |none=>∃(q:Option Addr) (r:ByteArray),e=.returned (.tuple #[.pointer q,.string r,.bool false]))/\Below w w w'
theorem Bs.no{S:List Ty}{k:Kd}{o:Option (Vl × List UInt8)}{w w':World}{e:Ending}(ho:o=none){q:Option Addr}{r:ByteArray}(he:e=.returned (.tuple #[.pointer q,.string r,.bool false]))(hb:Below w w w'):Bs S k o w e w':=by
 rw[ho];exact⟨⟨q,r,he⟩,hb⟩
theorem Fl.leaf{P:Nat->Prop}{w:World}{kind text:List UInt8}{T:TypeId}(hP:P w.heap.size):Fl P (w.alloc (.cells #[kind,text,.slice none 0 0,.slice none 0 0] T)) w.heap.size (.mk kind text [] []):=
 .mk kind text [] none none 0 0 [] rfl aN hP aN aN aN aN ⟨rfl,ah _,fun h=>absurd h aN⟩ ⟨rfl,ah _,fun h=>absurd h aN⟩ aN aN (fun _ _ h=>absurd h aN) (fun _ _ h=>absurd h aN) aN
theorem Qkc(s:List UInt8):Sr s=if D9 (s.takeWhile Bm) 999999 then(Cw (s.takeWhile Bm)).map (fun n=>(n,s.dropWhile Bm))else none:=by
 unfold Sr D9;cases h:Cw (s.takeWhile Bm)with
 |none=>rfl
 |some n=>simp[(Cj.1 h).1]
theorem Qjb(S:List Ty)(xv:Value)(hxv:xv.oneCell'=true)(s:List UInt8)(k:Kd)(hs0:k.signs=[])(hb:k.base=[110])(w:World)(hs:s.length<=4000000)(q:Option (Vl × List UInt8))(hq:q=match Sr s with|some (n,r)=>some (.mk 110 (Bb n) 0 [],r)|none=>none):
  Calls prog 93 #[.agg #[xv],s,.string ⟨#[110]⟩] w (Bs S k q w):=by
 have hkd:Bc k=[110]:=cD;have HQ:=Aa (hq.trans (by rw[Qkc]));obtain⟨e1,e2,hle⟩:=S1 Bm s;have Hd:=Aa (fun W=>Vx s W hs);have Hn:=Aa (fun W=>Dx (s.takeWhile Bm) 999999 W aI aL);have HD:=Aa (fun m (h:Cw (s.takeWhile Bm)=some m)=>(Cj.1 h).2);have E1:=Aa e1;have E2:=Aa e2;have k1:((s.takeWhile Bm).length:Int)<=(s.length:Int):=aI;generalize (s.takeWhile Bm).length=n at *;generalize s.takeWhile Bm=tw at *;generalize s.dropWhile Bm=dw at *;have k2:(0:Int)<=(n:Int):=aI;have k3:((n:Int)).toNat=n:=aI;have hn8:n<=4000000:=aI;clear e1 e2 hs0 hb hq;go_enter func93,ntmps93;go_wp2_with fail;refine(Hd.o _).mono ?_;rintro e w1 ⟨rfl,rfl⟩;go_wp2_with fail;rw[E1.o];refine(Hn.o _).mono ?_;rintro e w2 ⟨m,hm,rfl,hdm,hb2⟩;have Hb2:=Aa (((Am w.heap.size w).alloc (Ao _) (.cells #[xv] 73)).trans (hb2.mono aN));have Hdm:=Aa hdm;have hz2:=Hb2.o.size;have Hok:=Aa (show D9 tw 999999=(Cw tw).isSome by unfold D9;cases h:Cw tw with|none=>rfl|some m=>simp[(Cj.1 h).1]);generalize D9 tw 999999=ok at *;clear hb2 hdm;go_wp2_with fail;refine Gd [26,27,28,29,30,31,32,33,34,35,6,7,8]
  (fun ix v W=>match ix with|0=>v=.string ⟨#[110]⟩|1=>v=(s:List UInt8)|2=>v=(n:Int)|3=>v=(tw:List UInt8)|4=>v=.agg #[.string ⟨#[110]⟩,(tw:List UInt8),.slice none 0 0,.slice none 0 0]|5=>∃c,v=.pointer (some ⟨c,0,none⟩)|6=>v=(s:List UInt8)|7=>v=(n:Int)|8=>v=(dw:List UInt8)|9=>v=.bool ok|10=>∃c,v=.pointer (some ⟨c,0,none⟩)|11=>v=(dw:List UInt8)|12=>v=.bool ok|_=>True)
  (fun L U W=>(L 5=false->Below w2 w2 W)/\(L 5=true->∃W7,W=W7.alloc (.cells #[.string ⟨#[110]⟩,(tw:List UInt8),.slice none 0 0,.slice none 0 0] 87)/\Below w2 w2 W7/\U 5=.pointer (some ⟨W7.heap.size,0,none⟩))/\(L 10=true->U 10=U 5)) (⟨fun _=>(Am _ _).drew,fun h=>Bool.noConfusion h,fun h=>Bool.noConfusion h⟩) ?_ ?_
 ·repeat (first|exact Ai.nil|(refine Ai.cons ?_ ?_;rotate_left))
  all_goals
   rintro L U W hL hpre HR Hdep K hK;first|(simp[Region.binds]at hpre;done)|simp[Region.binds]at hpre|clear hpre
  iterate 3
   ·exact ii
  ·go_simp;rw[E1.o];exact mh
  ·exact ii
  ·obtain⟨R1,R2,R3⟩:=HR.o;have hB:=R1 hL;have h10:L 10=false:=At Hdep.o 10 5 rfl hL;go_simp;exact hK W.heap.size _ _ ⟨_,rfl⟩ Ab ⟨fun h=>by simp at h,fun _=>⟨W,rfl,hB,rfl⟩,fun h=>absurd (h10.symm.trans aQ) aL⟩ aK
  iterate 2
   ·exact ii
  ·exact ji
  ·exact ii
  ·exact iL
  iterate 2
   ·exact ii
 rintro L U W hL hφ hR;have hφ10:U 10=U 5:=hR.2.2 (hL 10 aL);have e11:U 11=(dw:List UInt8):=hφ 11 aL;have e12:U 12=.bool ok:=hφ 12 aL;clear hφ;obtain⟨_,h2,h3⟩:=hR;obtain⟨W7,rfl,hb7,u5⟩:=h2 (hL 5 aL);rw[u5]at hφ10;clear hL h2;simp only[hφ10,e11,e12];clear hφ10;go_wp2_with fail;refine aG (v:=.tuple #[.pointer (some ⟨W7.heap.size,0,none⟩),dw,.bool ok]) (by simp[results,results93,go_sem]) rfl ?_;have hz7:=hb7.size;have Hb7:=((Hb2.o.trans (hb7.mono hz2)).alloc (ae hz2 hz7) (.cells #[.string ⟨#[110]⟩,tw,.slice none 0 0,.slice none 0 0] 87))
 have HQ:=HQ.o;cases ok with
 |false=>exact Bs.no HQ rfl Hb7
 |true=>
  cases hd:Cw tw with
  |none=>rw[hd]at HQ;have:=Hok.o;rw[hd]at this;cases this
  |some m'=>
   rw[hd]at HQ;simp only[if_true,Option.map_some]at HQ;rw[HQ];refine⟨⟨W7.heap.size,rfl,?_⟩,Hb7⟩;rw[Zu,hkd,<-HD.o m' hd];exact mi
def Pw(c:UInt8):Bool:=c != 39
def Nu(s:List UInt8):Nat:=min (((s.drop 1).takeWhile Pw).length+2) s.length
theorem Qkb(r:List UInt8):(r.takeWhile Pw=r/\∀x∈r,x≠39)\/∃q,r=r.takeWhile Pw++39::q:=by
 induction r with
 |nil=>exact .inl ⟨rfl,by simp⟩
 |cons x r ih=>
  by_cases hx:Pw x=true
  ·rw[List.takeWhile_cons_of_pos hx];rcases ih with⟨h1,h2⟩|⟨q,h⟩
   ·refine .inl ⟨by rw[h1],fun y hy=>?_⟩;rcases aB.1 hy with rfl|hy
    ·simpa [Pw]using hx
    exact h2 y hy
   exact .inr ⟨q,by rw[aw,<-h]⟩
  rw[List.takeWhile_cons_of_neg hx];have:x=39:=by simpa [Pw]using hx
  subst this;exact .inr ⟨r,rfl⟩
theorem Qlu(c:UInt8)(r:List UInt8):(Gl ((c::r).take (Nu (c::r)))=false/\N6 (c::r)=none) \/
  ∃x q,N6 (c::r)=some (x,q)/\Gl ((c::r).take (Nu (c::r)))=true/\(c::r).take (Nu (c::r))=39::(x++[39])/\(c::r).drop (Nu (c::r))=q:=by
 rcases Qkb r with⟨h1,h2⟩|⟨q,h⟩
 ·left;have e:Nu (c::r)=(c::r).length:=by unfold Nu;rw[show (c::r).drop 1=r from rfl,h1];simp
  rw[e,List.take_length];have hd:Av 39 (r.dropWhile Cn)=none:=by
   cases hc:r.dropWhile Cn with
   |nil=>rfl
   |cons x z=>
    have hx:x∈r:=(List.dropWhile_sublist _).subset (by rw[hc];simp);simp[Av,h2 x hx]
  constructor
  ·unfold Gl;by_cases h0:r=[]
   ·subst h0;simp
   have hl:(c::r).getLast?=some (r.getLast h0):=by rw[List.getLast?_cons,List.getLast?_eq_some_getLast h0];rfl
   have:=h2 _ (List.getLast_mem h0);rw[hl];simp[this]
  unfold N6;by_cases hc:c=39
  ·subst hc;rw[show Av 39 (39::r)=some r by simp[Av]];simp only;rw[hd]
  simp[Av,hc]
 generalize htw:r.takeWhile Pw=tw at *;have hno:∀x∈tw,Pw x=true:=fun x hx=>by rw[<-htw]at hx;exact(List.all_eq_true.1 (List.all_takeWhile)) x hx
 have e:Nu (c::r)=tw.length+2:=by
  unfold Nu;rw[show (c::r).drop 1=r from rfl,htw];have:(c::r).length=tw.length+1+q.length+1:=by rw[h];simp;omega
  omega
 have et:(c::r).take (tw.length+2)=c::(tw++[39]):=by
  rw[List.take_succ_cons,h,List.take_append,av aI];simp
 have ed:(c::r).drop (tw.length+2)=q:=by
  rw[List.drop_succ_cons,h,List.drop_append,List.drop_of_length_le aI];simp
 have eq:Gl (c::(tw++[39]))=(decide (c=39) && Dl tw):=by
  unfold Gl;have hl:(c::(tw++[39])).getLast?=some 39:=by rw[<-aw,List.getLast?_append];rfl
  rw[hl];simp
 rw[e,et,ed,eq];by_cases hc:c=39
 ·subst hc;by_cases hall:tw.all Cn=true
  ·have ha:=List.all_eq_true.1 hall;have t1:r.takeWhile Cn=tw:=by rw[h,List.takeWhile_append_of_pos ha];simp[Cn,J5,Bm]
   have t2:r.dropWhile Cn=39::q:=by rw[h,List.dropWhile_append_of_pos ha];simp[Cn,J5,Bm]
   by_cases h12:tw.length<=12
   ·right;exact⟨tw,q,by simp[N6,Av,t1,t2,h12],by simp[Dl,h12,hall],rfl,rfl⟩
   left;exact⟨by simp[Dl,h12],by simp[N6,Av,t1,t2,h12]⟩
  left;refine⟨by simp[Dl,hall],?_⟩;have:Av 39 (r.dropWhile Cn)=none:=by
   rw[h];clear htw h e et ed eq;induction tw with
   |nil=>simp at hall
   |cons x tw ih=>
    by_cases hx:Cn x=true
    ·rw[aw,List.dropWhile_cons_of_pos hx];exact ih (fun y hy=>hno y fB) (by simpa [hx]using hall)
    rw[aw,List.dropWhile_cons_of_neg hx];have:=hno x aN;simp[Pw]at this;simp[Av,this]
  unfold N6;rw[show Av 39 (39::r)=some r by simp[Av]];simp only;rw[this]
 left;exact⟨by simp[hc],by simp[N6,Av,hc]⟩
theorem Qju(S:List Ty)(xv:Value)(hxv:xv.oneCell'=true)(s:List UInt8)(k:Kd)(hs0:k.signs=[])(hb:k.base=[116])(w:World)(hs:s.length<=4000000)(hne:s≠[])(q:Option (Vl × List UInt8))(hq:q=match N6 s with|some (x,r)=>some (.mk 116 x 0 [],r)|none=>none):
  Calls prog 93 #[.agg #[xv],s,.string ⟨#[116]⟩] w (Bs S k q w):=by
 have hkd:Bc k=[116]:=cD;have HQ:=Aa hq
 have Hor:=Aa (show (Gl (s.take (Nu s))=false/\N6 s=none)\/∃x q,N6 s=some (x,q)/\Gl (s.take (Nu s))=true/\s.take (Nu s)=39::(x++[39])/\s.drop (Nu s)=q by
  cases s with
  |nil=>exact absurd rfl hne
  |cons c r=>exact Qlu c r)
 have hz:1<=s.length:=by cases s with|nil=>exact absurd rfl hne|cons c r=>simp
 have HT:=Aa (fun i (hi:i+1<s.length)=>(show (i<((s.drop 1).takeWhile Pw).length->s[i+1]≠39)/\(i=((s.drop 1).takeWhile Pw).length->s[i+1]=39)from by
  have h:=Qe0 Pw (s.drop 1) i aO;simp only[List.getElem_drop,Nat.add_comm 1 i]at h;exact⟨fun h1=>by simpa [Pw]using h.1 h1,fun h1=>by simpa [Pw]using h.2 h1⟩))
 have hle:((s.drop 1).takeWhile Pw).length+1<=s.length:=by
  have:=(S1 Pw (s.drop 1)).2.2;rw[List.length_drop]at this;omega
 have hqd:Nu s=min (((s.drop 1).takeWhile Pw).length+2) s.length:=rfl;have Hn:=Aa (fun W=>Ze (s.take (Nu s)) W aO);generalize ((s.drop 1).takeWhile Pw).length=m at *;have k1:((Nu s:Nat):Int)<=(s.length:Int):=aI;have Hmin:Hid ((if ((m:Int)+1+1)<=(s.length:Int)then((m:Int)+1+1)else(s.length:Int))=((Nu s:Nat):Int)):=by
  unfold Hid;split<;>omega
 have k3:((Nu s:Nat):Int).toNat=Nu s:=aI;have k2:(0:Int)<=((Nu s:Nat):Int):=aI;generalize Nu s=n at *;generalize hnok:Gl (s.take n)=ok at *;have HI:∃tw dw,tw=s.take n/\dw=s.drop n:=⟨_,_,rfl,rfl⟩
 obtain⟨tw,dw,e1,e2⟩:=HI;rw[<-e1,<-e2]at Hor;rw[<-e1]at Hn hnok;have E1:=Aa e1.symm;have E2:=Aa e2.symm;have Hok:=Aa hnok;clear e1 e2 hs0 hb hq hqd hne hnok;go_enter func93,ntmps93;go_wp2_with fail;go_loop [9] (fun i=>∃j:Nat,i=.int .i64 ((j:Int)+1)/\j<=m) (fun i=>m+1 - (intOf i).toNat)
 case atStart=>exact⟨0,rfl,ah _⟩
 case round=>
  obtain⟨j,rfl,hj⟩:=hrel;by_cases hlt:j+1<s.length
  ·obtain⟨q1,q2⟩:=HT.o j hlt;have hc:=(s[j+1]).toNat_lt;by_cases hjm:j<m
   ·have h3:=q1 hjm;have h4:((s[j+1]).toNat:Int)≠39:=fun h=>h3 (by apply UInt8.toNat_inj.1;simpa using(by exact_mod_cast h:(s[j+1]).toNat=39));clear q1 q2 h3;go_wp2_with fail;go_round
    case rel=>exact⟨j+1,by go_num,by omega⟩
    case measure=>simp[intOf];omega
   have hjm2:j=m:=aI;have h4:((s[j+1]).toNat:Int)=39:=by rw[q2 hjm2];rfl
   clear q1 q2;subst hjm2;clear hjm HT hj hle;have e9:(j:Int)+1+1=(n:Int):=by rw[<-Hmin.o,if_pos aI]
   go_wp2_with fail;refine Gd [55,56,57,58,59,60,61,62,63,64,65,66,67,6,7,8]
    (fun ix v W=>match ix with|0=>v=.string ⟨#[116]⟩|1=>v=(s:List UInt8)|2=>v=(n:Int)|3=>v=.string ⟨(tw:List UInt8).toArray⟩|4=>v=.agg #[.string ⟨#[116]⟩,.string ⟨(tw:List UInt8).toArray⟩,.slice none 0 0,.slice none 0 0]|5=>∃c,v=.pointer (some ⟨c,0,none⟩)|6=>v=(s:List UInt8)|7=>v=(n:Int)|8=>v=.string ⟨(dw:List UInt8).toArray⟩|9=>v=(s:List UInt8)|10=>v=(n:Int)|11=>v=.string ⟨(tw:List UInt8).toArray⟩|12=>v=.bool ok|13=>∃c,v=.pointer (some ⟨c,0,none⟩)|14=>v=.string ⟨(dw:List UInt8).toArray⟩|15=>v=.bool ok|_=>True)
    (fun L U W=>(L 5=false->Below w w W)/\(L 5=true->∃W7,W=W7.alloc (.cells #[.string ⟨#[116]⟩,.string ⟨(tw:List UInt8).toArray⟩,.slice none 0 0,.slice none 0 0] 87)/\Below w w W7/\U 5=.pointer (some ⟨W7.heap.size,0,none⟩))/\(L 13=true->U 13=U 5)) (⟨fun _=>((Am w.heap.size w).alloc (Ao _) _).drew,fun h=>Bool.noConfusion h,fun h=>Bool.noConfusion h⟩) ?_ ?_
   ·exact iu
   rintro L U W hL hφ hR;have hφ10:U 13=U 5:=hR.2.2 (hL 13 aL);have e11:U 14=.string ⟨(dw:List UInt8).toArray⟩:=hφ 14 aL;have e12:U 15=.bool ok:=hφ 15 aL;clear hφ;obtain⟨_,h2,h3⟩:=hR;obtain⟨W7,rfl,hb7,u5⟩:=h2 (hL 5 aL);rw[u5]at hφ10;clear hL h2;simp only[hφ10,e11,e12];clear hφ10;go_wp2_with fail;refine aG (v:=.tuple #[.pointer (some ⟨W7.heap.size,0,none⟩),.string ⟨dw.toArray⟩,.bool ok]) (by simp[results,results93,go_sem]) rfl ?_;have hz7:=hb7.size;have Hb7:=(hb7.alloc aI (.cells #[.string ⟨#[116]⟩,.string ⟨tw.toArray⟩,.slice none 0 0,.slice none 0 0] 87))
   have HQ:=HQ.o;rcases Hor.o with⟨o1,o2⟩|⟨x,q',o1,o2,o3,o4⟩
   ·exact kL
   rw[o1]at HQ;subst o2;rw[HQ];subst o4;refine⟨⟨W7.heap.size,rfl,?_⟩,Hb7⟩;exact mj
  ·have hjm2:j=m:=aI;subst hjm2;have hj3:(j:Int)<=5000000:=aI;have hj4:(0:Int)<=(j:Int):=aI;have hj5:¬((j:Int)+1+1<=(s.length:Int)):=aI;clear HT hj;have e9:(s.length:Int)=(n:Int):=by rw[<-Hmin.o,if_neg aI]
   go_wp2_with fail;refine Gd [55,56,57,58,59,60,61,62,63,64,65,66,67,6,7,8]
    (fun ix v W=>match ix with|0=>v=.string ⟨#[116]⟩|1=>v=(s:List UInt8)|2=>v=(n:Int)|3=>v=.string ⟨(tw:List UInt8).toArray⟩|4=>v=.agg #[.string ⟨#[116]⟩,.string ⟨(tw:List UInt8).toArray⟩,.slice none 0 0,.slice none 0 0]|5=>∃c,v=.pointer (some ⟨c,0,none⟩)|6=>v=(s:List UInt8)|7=>v=(n:Int)|8=>v=.string ⟨(dw:List UInt8).toArray⟩|9=>v=(s:List UInt8)|10=>v=(n:Int)|11=>v=.string ⟨(tw:List UInt8).toArray⟩|12=>v=.bool ok|13=>∃c,v=.pointer (some ⟨c,0,none⟩)|14=>v=.string ⟨(dw:List UInt8).toArray⟩|15=>v=.bool ok|_=>True)
    (fun L U W=>(L 5=false->Below w w W)/\(L 5=true->∃W7,W=W7.alloc (.cells #[.string ⟨#[116]⟩,.string ⟨(tw:List UInt8).toArray⟩,.slice none 0 0,.slice none 0 0] 87)/\Below w w W7/\U 5=.pointer (some ⟨W7.heap.size,0,none⟩))/\(L 13=true->U 13=U 5)) (⟨fun _=>((Am w.heap.size w).alloc (Ao _) _).drew,fun h=>Bool.noConfusion h,fun h=>Bool.noConfusion h⟩) ?_ ?_
   ·exact iu
   rintro L U W hL hφ hR;have hφ10:U 13=U 5:=hR.2.2 (hL 13 aL);have e11:U 14=.string ⟨(dw:List UInt8).toArray⟩:=hφ 14 aL;have e12:U 15=.bool ok:=hφ 15 aL;clear hφ;obtain⟨_,h2,h3⟩:=hR;obtain⟨W7,rfl,hb7,u5⟩:=h2 (hL 5 aL);rw[u5]at hφ10;clear hL h2;simp only[hφ10,e11,e12];clear hφ10;go_wp2_with fail;refine aG (v:=.tuple #[.pointer (some ⟨W7.heap.size,0,none⟩),.string ⟨dw.toArray⟩,.bool ok]) (by simp[results,results93,go_sem]) rfl ?_;have hz7:=hb7.size;have Hb7:=(hb7.alloc aI (.cells #[.string ⟨#[116]⟩,.string ⟨tw.toArray⟩,.slice none 0 0,.slice none 0 0] 87))
   have HQ:=HQ.o;rcases Hor.o with⟨o1,o2⟩|⟨x,q',o1,o2,o3,o4⟩
   ·exact kL
   rw[o1]at HQ;subst o2;rw[HQ];subst o4;refine⟨⟨W7.heap.size,rfl,?_⟩,Hb7⟩;exact mj
theorem R7:∀(p s:List UInt8),Gk p s=if s.take p.length=p then some (s.drop p.length)else none
 |[],s=>by simp[Gk]
 |c::p,[]=>by simp[Gk,Av]
 |c::p,x::s=>by
  have ih:=R7 p s;unfold Gk;by_cases h:x=c
  ·subst h;simp only[Av,if_true,List.length_cons,List.take_succ_cons,List.drop_succ_cons,List.cons.injEq,true_and];exact ih
  simp[Av,h]
theorem Qji(S:List Ty)(xv:Value)(hxv:xv.oneCell'=true)(s:List UInt8)(k:Kd)(hs0:k.signs=[])(hb:k.base=[102])(w:World)(hs:s.length<=4000000)(q:Option (Vl × List UInt8))(hq:q=match Qh s with|some (b,r)=>some (.mk 102 (if b then Es else M5) 0 [],r)|none=>none):
  Calls prog 93 #[.agg #[xv],s,.string ⟨#[102]⟩] w (Bs S k q w):=by
 have hkd:Bc k=[102]:=cD;have Hq:=Aa hq;have Hy:=Aa (R7 Es s);have Hn:=Aa (R7 M5 s);clear hq hs0 hb;go_enter func93,ntmps93;go_wp2_with fail;go_loop [70] (fun i=>(i=.int .i64 0)\/(i=.int .i64 1/\¬s.take 3=Es)\/(i=.int .i64 2/\¬s.take 3=Es/\¬s.take 2=M5)) (fun i=>3 - (intOf i).toNat)
 case atStart=>exact .inl rfl
 case round=>
  obtain rfl|⟨rfl,hny⟩|⟨rfl,hny,hnn⟩:=hrel
  ·by_cases hl:3<=s.length
   ·have hl2:(3:Int)<=(s.length:Int):=aI;by_cases ht:s.take 3=Es
    ·have HQ:=@Aa (q=some (.mk 102 Es 0 [],s.drop 3)) (by rw[Hq.o];unfold Qh;rw[Hy.o,if_pos (show s.take Es.length=Es from ht)];rfl);generalize hdw:s.drop 3=dw at *;have E2:=Aa hdw;have tb:(s.take 3 == [121,101,115])=true:=by rw[ht];rfl
     clear Hq hdw ht;go_wp2_with fail;have HbW:=Aa (((Am w.heap.size w).alloc (Ao _) (.cells #[xv] 73)).alloc aN (.cells #[.string ⟨#[121,101,115]⟩,.string ⟨#[110,111]⟩] 9));refine Gd [87,88,89,90,91,92,93,94,6,7,8]
      (fun ix v W=>match ix with|0=>v=.string ⟨#[102]⟩|1=>v=.string ⟨#[121,101,115]⟩|2=>v=.agg #[.string ⟨#[102]⟩,.string ⟨#[121,101,115]⟩,.slice none 0 0,.slice none 0 0]|3=>∃c,v=.pointer (some ⟨c,0,none⟩)|4=>v=(s:List UInt8)|5=>v=.string ⟨#[121,101,115]⟩|6=>v=.int .i64 3|7=>v=(dw:List UInt8)|8=>∃c,v=.pointer (some ⟨c,0,none⟩)|9=>v=(dw:List UInt8)|10=>v=.bool true|_=>True)
      (fun L U W=>(L 3=false->Below w w W)/\(L 3=true->∃W7,W=W7.alloc (.cells #[.string ⟨#[102]⟩,.string ⟨#[121,101,115]⟩,.slice none 0 0,.slice none 0 0] 87)/\Below w w W7/\U 3=.pointer (some ⟨W7.heap.size,0,none⟩))/\(L 8=true->U 8=U 3)) (⟨fun _=>HbW.o.drew,fun h=>Bool.noConfusion h,fun h=>Bool.noConfusion h⟩) ?_ ?_
     ·exact iD
     rintro L U W hL hφ hR;have hφ10:U 8=U 3:=hR.2.2 (hL 8 aL);have e11:U 9=(dw:List UInt8):=hφ 9 aL;have e12:U 10=.bool true:=hφ 10 aL;clear hφ;obtain⟨_,h2,h3⟩:=hR;obtain⟨W7,rfl,hb7,u5⟩:=h2 (hL 3 aL);rw[u5]at hφ10;clear hL h2;simp only[hφ10,e11,e12];clear hφ10;go_wp2_with fail;refine aG (v:=.tuple #[.pointer (some ⟨W7.heap.size,0,none⟩),dw,.bool true]) (by simp[results,results93,go_sem]) rfl ?_;have hz7:=hb7.size;have Hb7:=(hb7.alloc aI (.cells #[.string ⟨#[102]⟩,.string ⟨#[121,101,115]⟩,.slice none 0 0,.slice none 0 0] 87))
     rw[HQ.o];refine⟨⟨W7.heap.size,rfl,?_⟩,Hb7⟩;exact ml
    have tb:(s.take 3 == [121,101,115])=false:=by simpa [Es,M5]using ht
    go_wp2_with fail;go_round
    case rel=>exact .inr (.inl ⟨rfl,ht⟩)
    case measure=>simp[intOf]
   have hl2:¬((3:Int)<=(s.length:Int)):=aI;have ht:¬s.take 3=Es:=fun h=>hl fH;go_wp2_with fail;go_round
   case rel=>exact .inr (.inl ⟨rfl,ht⟩)
   case measure=>simp[intOf]
  ·by_cases hl:2<=s.length
   ·have hl2:(2:Int)<=(s.length:Int):=aI;by_cases ht:s.take 2=M5
    ·have HQ:=@Aa (q=some (.mk 102 M5 0 [],s.drop 2)) (by rw[Hq.o];unfold Qh;rw[Hy.o,if_neg (show ¬s.take Es.length=Es from hny),Hn.o,if_pos (show s.take M5.length=M5 from ht)];rfl);generalize hdw:s.drop 2=dw at *;have E2:=Aa hdw;have tb:(s.take 2 == [110,111])=true:=by rw[ht];rfl
     clear Hq hdw ht;go_wp2_with fail;have HbW:=Aa (((Am w.heap.size w).alloc (Ao _) (.cells #[xv] 73)).alloc aN (.cells #[.string ⟨#[121,101,115]⟩,.string ⟨#[110,111]⟩] 9));refine Gd [87,88,89,90,91,92,93,94,6,7,8]
      (fun ix v W=>match ix with|0=>v=.string ⟨#[102]⟩|1=>v=.string ⟨#[110,111]⟩|2=>v=.agg #[.string ⟨#[102]⟩,.string ⟨#[110,111]⟩,.slice none 0 0,.slice none 0 0]|3=>∃c,v=.pointer (some ⟨c,0,none⟩)|4=>v=(s:List UInt8)|5=>v=.string ⟨#[110,111]⟩|6=>v=.int .i64 2|7=>v=(dw:List UInt8)|8=>∃c,v=.pointer (some ⟨c,0,none⟩)|9=>v=(dw:List UInt8)|10=>v=.bool true|_=>True)
      (fun L U W=>(L 3=false->Below w w W)/\(L 3=true->∃W7,W=W7.alloc (.cells #[.string ⟨#[102]⟩,.string ⟨#[110,111]⟩,.slice none 0 0,.slice none 0 0] 87)/\Below w w W7/\U 3=.pointer (some ⟨W7.heap.size,0,none⟩))/\(L 8=true->U 8=U 3)) (⟨fun _=>HbW.o.drew,fun h=>Bool.noConfusion h,fun h=>Bool.noConfusion h⟩) ?_ ?_
     ·exact iD
     rintro L U W hL hφ hR;have hφ10:U 8=U 3:=hR.2.2 (hL 8 aL);have e11:U 9=(dw:List UInt8):=hφ 9 aL;have e12:U 10=.bool true:=hφ 10 aL;clear hφ;obtain⟨_,h2,h3⟩:=hR;obtain⟨W7,rfl,hb7,u5⟩:=h2 (hL 3 aL);rw[u5]at hφ10;clear hL h2;simp only[hφ10,e11,e12];clear hφ10;go_wp2_with fail;refine aG (v:=.tuple #[.pointer (some ⟨W7.heap.size,0,none⟩),dw,.bool true]) (by simp[results,results93,go_sem]) rfl ?_;have hz7:=hb7.size;have Hb7:=(hb7.alloc aI (.cells #[.string ⟨#[102]⟩,.string ⟨#[110,111]⟩,.slice none 0 0,.slice none 0 0] 87))
     rw[HQ.o];refine⟨⟨W7.heap.size,rfl,?_⟩,Hb7⟩;exact ml
    have tb:(s.take 2 == [110,111])=false:=by simpa [Es,M5]using ht
    go_wp2_with fail;go_round
    case rel=>exact .inr (.inr ⟨rfl,hny,ht⟩)
    case measure=>simp[intOf]
   have hl2:¬((2:Int)<=(s.length:Int)):=aI;have ht:¬s.take 2=M5:=fun h=>hl fH;go_wp2_with fail;go_round
   case rel=>exact .inr (.inr ⟨rfl,hny,ht⟩)
   case measure=>simp[intOf]
  ·have HQ:=@Aa (q=none) (by rw[Hq.o];simp only[Qh,Hy.o,Hn.o,if_neg (show ¬s.take Es.length=Es from hny),if_neg (show ¬s.take M5.length=M5 from hnn)]);clear Hq;go_wp2_with fail;refine aG (v:=.tuple #[.pointer none,s,.bool false]) (by simp[results,results93,go_sem]) rfl ?_;exact Bs.no HQ.o rfl (((Am w.heap.size w).alloc (Ao _) _).alloc aN _)
end
end Go.Proofs.YtpjijpcemejlnaaGreatDoor
