import PyProof.Rows.All
import Wide.All
import OpenK.AllK
import Wide.FinOn
import PySem.Challenge.RW_uf060003_10
set_option Elab.async false
set_option compiler.extract_closed false
set_option maxRecDepth 100000
set_option maxHeartbeats 8000000
set_option genInjectivity false
set_option genSizeOf false
set_option genSizeOfSpec false
set_option bootstrap.genMatcherCode false
universe u
namespace Mine.Lake
noncomputable section
local macro_rules
 | `(∅) => `(by first | kernel_rfl | decide | decide +kernel)
theorem bi {α:Type} (t:α) {P:Prop} (h:∀x,t=x→P):P:=h t rfl
structure A3 (p0 p1 p2:Prop):Prop where
 h0:p0
 h1:p1
 h2:p2
inductive A4 (p0 p1 p2 p3:Prop):Prop
 | mk (h0:p0) (h1:p1) (h2:p2) (h3:p3)
inductive A5 (p0 p1 p2 p3 p4:Prop):Prop
 | mk (h0:p0) (h1:p1) (h2:p2) (h3:p3) (h4:p4)
inductive A6 (p0 p1 p2 p3 p4 p5:Prop):Prop
 | mk (h0:p0) (h1:p1) (h2:p2) (h3:p3) (h4:p4) (h5:p5)
inductive A7 (p0 p1 p2 p3 p4 p5 p6:Prop):Prop
 | mk (h0:p0) (h1:p1) (h2:p2) (h3:p3) (h4:p4) (h5:p5) (h6:p6)
inductive A8 (p0 p1 p2 p3 p4 p5 p6 p7:Prop):Prop
 | mk (h0:p0) (h1:p1) (h2:p2) (h3:p3) (h4:p4) (h5:p5) (h6:p6) (h7:p7)
inductive Hy (p0 p1 p2 p3 p4 p5 p6 p7 p8 p9:Prop):Prop
 | mk (h0:p0) (h1:p1) (h2:p2) (h3:p3) (h4:p4) (h5:p5) (h6:p6) (h7:p7) (h8:p8) (h9:p9)
inductive Tm where
 | v (i:Nat)
 | n (k:Nat)
 | a (x y:Tm)
 | m (k:Nat) (x:Tm)
 | s (x y:Tm)
 | c (x:Tm)
 | g (x:Tm)
@[reducible] noncomputable def bI {α:Sort u} (b:Bool) (x y:α):α:=Bool.rec y x b
@[reducible] noncomputable def ixA {α:Type} (z:α):List α→Nat→α
 | [],_=>z
 | x::_,0=>x
 | _::t,i+1=>ixA z t i
@[reducible] noncomputable def Tm.N (A:List Nat):Tm→Nat
 | .v i=>ixA 0 A i
 | .n k=>k
 | .a x y=>x.N A+y.N A
 | .m k x=>k*x.N A
 | .s _ _=>0
 | .c _=>0
 | .g _=>0
@[reducible] noncomputable def Tm.I (A:List Nat) (B:List Int):Tm→Int
 | .v i=>ixA 0 B i
 | .n k=>Int.ofNat k
 | .a x y=>x.I A B+y.I A B
 | .m k x=>Int.ofNat k*x.I A B
 | .s x y=>x.I A B-y.I A B
 | .c x=>Nat.cast (x.N A)
 | .g x => -x.I A B
noncomputable def Dd:List Int→List Int→List Int
 | [],q=>q
 | p,[]=>p
 | a::p,b::q=>(a+b)::Dd p q
noncomputable def FM:Nat→List Int
 | 0=>[1]
 | i+1=>0::FM i
noncomputable def tQ:List Int→List Int→Int
 | x::A,c::p=>c*x+tQ A p
 | _,_=>0
theorem qt (A:List Int):tQ A []=0:=by cases A<;>rfl
theorem xy:∀(A p q:List Int),tQ A (Dd p q)=tQ A p+tQ A q
 | [],p,q=>rfl
 | x::A,[],q=>(Int.zero_add _).symm
 | x::A,a::p,[]=>(Int.add_zero _).symm
 | x::A,a::p,b::q=>by
  show (a+b)*x+tQ A (Dd p q)=(a*x+tQ A p)+(b*x+tQ A q)
  rw [xy A p q,Int.add_mul];omega
theorem zV (k:Int):∀(A p:List Int),tQ A (p.map (k * ·))=k*tQ A p
 | [],p=>(Int.mul_zero k).symm
 | x::A,[]=>(Int.mul_zero k).symm
 | x::A,a::p=>by
  show k*a*x+tQ A (p.map (k * ·))=k*(a*x+tQ A p)
  rw [zV k A p,Int.mul_add,Int.mul_assoc]
theorem zW:∀(A:List Int) (i:Nat),tQ A (FM i)=ixA 0 A i
 | [],0=>rfl
 | [],_+1=>rfl
 | x::A,0=>by show 1*x+tQ A []=x;rw [qt,Int.one_mul,Int.add_zero]
 | x::A,i+1=>by show 0*x+tQ A (FM i)=ixA 0 A i;rw [zW A i,Int.zero_mul,Int.zero_add]
theorem AX:∀(A:List Nat) (i:Nat),ixA 0 (A.map Nat.cast) i=((ixA 0 A i:Nat):Int)
 | [],_=>rfl
 | _::_,0=>rfl
 | _::A,i+1=>AX A i
structure Fm where
 k:Int
 p:List Int
 q:List Int
noncomputable def Fm.e (A:List Nat) (B:List Int) (f:Fm):Int:=f.k+tQ (A.map Nat.cast) f.p+tQ B f.q
noncomputable def Fm.add (f g:Fm):Fm:=⟨f.k+g.k,Dd f.p g.p,Dd f.q g.q⟩
noncomputable def Fm.sc (c:Int) (f:Fm):Fm:=⟨c*f.k,f.p.map (c * ·),f.q.map (c * ·)⟩
section
variable (A:List Nat) (B:List Int)
theorem Fm.e_add (f g:Fm):(f.add g).e A B=f.e A B+g.e A B:=by
 unfold Fm.e Fm.add;dsimp only;rw [xy,xy];omega
theorem Fm.e_sc (c:Int) (f:Fm):(f.sc c).e A B=c*f.e A B:=by
 unfold Fm.e Fm.sc;dsimp only;rw [zV,zV,Int.mul_add,Int.mul_add]
theorem Fm.e_k (k:Int):(Fm.mk k [] []).e A B=k:=by unfold Fm.e;dsimp only;rw [qt,qt,Int.add_zero,Int.add_zero]
noncomputable def Tm.LN:Tm→Fm
 | .v i=>⟨0,FM i,[]⟩
 | .n k=>⟨k,[],[]⟩
 | .a x y=>x.LN.add y.LN
 | .m k x=>x.LN.sc k
 | _=>⟨0,[],[]⟩
noncomputable def Tm.LI:Tm→Fm
 | .v i=>⟨0,[],FM i⟩
 | .n k=>⟨k,[],[]⟩
 | .a x y=>x.LI.add y.LI
 | .m k x=>x.LI.sc k
 | .s x y=>x.LI.add (y.LI.sc (-1))
 | .c x=>x.LN
 | .g x=>x.LI.sc (-1)
theorem Tm.eN:∀t:Tm,t.LN.e A B=((t.N A:Nat):Int)
 | .v i=>by show 0+tQ (A.map Nat.cast) (FM i)+tQ B []=_;rw [zW,qt,AX,Int.zero_add,Int.add_zero]
 | .n k=>Fm.e_k A B k
 | .a x y=>by show (x.LN.add y.LN).e A B=_;rw [Fm.e_add,Tm.eN x,Tm.eN y];rfl
 | .m k x=>by show (x.LN.sc k).e A B=_;rw [Fm.e_sc,Tm.eN x];rfl
 | .s _ _=>Fm.e_k A B 0
 | .c _=>Fm.e_k A B 0
 | .g _=>Fm.e_k A B 0
theorem Tm.eI:∀t:Tm,t.LI.e A B=t.I A B
 | .v i=>by show 0+tQ (A.map Nat.cast) []+tQ B (FM i)=_;rw [zW,qt,Int.zero_add,Int.zero_add]
 | .n k=>Fm.e_k A B k
 | .a x y=>by show (x.LI.add y.LI).e A B=_;rw [Fm.e_add,Tm.eI x,Tm.eI y]
 | .m k x=>by show (x.LI.sc k).e A B=_;rw [Fm.e_sc,Tm.eI x];rfl
 | .s x y=>by show (x.LI.add (y.LI.sc (-1))).e A B=_;rw [Fm.e_add,Fm.e_sc,Tm.eI x,Tm.eI y];show _=x.I A B-y.I A B;omega
 | .c x=>Tm.eN A B x
 | .g x=>by show (x.LI.sc (-1)).e A B=_;rw [Fm.e_sc,Tm.eI x];show _ = -x.I A B;omega
@[reducible] noncomputable def opD {α:Type} [LE α] [LT α]:Nat→α→α→Prop
 | 0,x,y=>x≤y
 | 1,x,y=>x<y
 | 2,x,y=>x=y
 | 3,x,y=>x=y
 | 4,x,y=> ¬x≤y
 | 5,x,y=> ¬x<y
 | _,_,_=>False
noncomputable def G5:Nat→Fm→Fm→Fm
 | 0,x,y=>y.add (x.sc (-1))
 | 1,x,y=>(y.add (x.sc (-1))).add ⟨-1,[],[]⟩
 | 2,x,y=>y.add (x.sc (-1))
 | 3,x,y=>x.add (y.sc (-1))
 | 4,x,y=>(x.add (y.sc (-1))).add ⟨-1,[],[]⟩
 | 5,x,y=>x.add (y.sc (-1))
 | _,_,_=>⟨0,[],[]⟩
theorem rX (κ:Nat) (f g:Fm) (h:opD κ (f.e A B) (g.e A B)):0≤(G5 κ f g).e A B:=by
 match κ,h with
 | 0,h=>show 0≤(g.add (f.sc (-1))).e A B;rw [Fm.e_add,Fm.e_sc];have:f.e A B≤g.e A B:=h;omega
 | 1,h=>show 0≤((g.add (f.sc (-1))).add _).e A B;rw [Fm.e_add,Fm.e_add,Fm.e_sc,Fm.e_k];have:f.e A B<g.e A B:=h;omega
 | 2,h=>show 0≤(g.add (f.sc (-1))).e A B;rw [Fm.e_add,Fm.e_sc];have:f.e A B=g.e A B:=h;omega
 | 3,h=>show 0≤(f.add (g.sc (-1))).e A B;rw [Fm.e_add,Fm.e_sc];have:f.e A B=g.e A B:=h;omega
 | 4,h=>show 0≤((f.add (g.sc (-1))).add _).e A B;rw [Fm.e_add,Fm.e_add,Fm.e_sc,Fm.e_k];have:¬f.e A B≤g.e A B:=h;omega
 | 5,h=>show 0≤(f.add (g.sc (-1))).e A B;rw [Fm.e_add,Fm.e_sc];have:¬f.e A B<g.e A B:=h;omega
 | _+6,h=>exact h.elim
noncomputable def Hk:Nat→Nat
 | 0=>4
 | 1=>5
 | 4=>0
 | 5=>1
 | _=>6
theorem Dq (κ:Nat) (f g:Fm) (h:¬opD κ (f.e A B) (g.e A B)):0≤(G5 (Hk κ) f g).e A B:=by
 match κ,h with
 | 0,h=>exact rX A B 4 f g h
 | 1,h=>exact rX A B 5 f g h
 | 2,_=>exact Int.le_of_eq (Fm.e_k A B 0).symm
 | 3,_=>exact Int.le_of_eq (Fm.e_k A B 0).symm
 | 4,h=>exact rX A B 0 f g (Classical.not_not.mp h)
 | 5,h=>exact rX A B 1 f g (Classical.not_not.mp h)
 | _+6,_=>exact Int.le_of_eq (Fm.e_k A B 0).symm
theorem zk (κ:Nat) (x y:Nat):opD κ x y↔opD κ (x:Int) (y:Int):=by
 match κ with
 | 0=>exact Int.ofNat_le.symm
 | 1=>exact Int.ofNat_lt.symm
 | 2=>exact Int.ofNat_inj.symm
 | 3=>exact Int.ofNat_inj.symm
 | 4=>exact not_congr Int.ofNat_le.symm
 | 5=>exact not_congr Int.ofNat_lt.symm
 | _+6=>exact Iff.rfl
end
@[reducible] noncomputable def rdT:Nat→Nat→Tm×Nat
 | 0,c=>(.n 0,c)
 | f+1,c =>
  bI (Nat.ble (c%16) 7) (.v (c%16),c/16) (
  bI (Nat.beq (c%16) 8) (.v (8+c/16%16),c/256) (
  bI (Nat.beq (c%16) 9) (.n (c/16%16),c/256) (
  bI (Nat.beq (c%16) 10) (.n (c/16%16777216),c/268435456) (
  bI (Nat.beq (c%16) 11) (bI (Nat.beq (c/16%16) 0) (.n 16777216,c/256) (.g (rdT f (c/256)).1,(rdT f (c/256)).2)) (
  bI (Nat.beq (c%16) 12) (.a (rdT f (c/16)).1 (rdT f (rdT f (c/16)).2).1,(rdT f (rdT f (c/16)).2).2) (
  bI (Nat.beq (c%16) 13) (.m (c/16%256) (rdT f (c/4096)).1,(rdT f (c/4096)).2) (
  bI (Nat.beq (c%16) 14) (.s (rdT f (c/16)).1 (rdT f (rdT f (c/16)).2).1,(rdT f (rdT f (c/16)).2).2)
  (.c (rdT f (c/16)).1,(rdT f (c/16)).2))))))))
structure Cn where
 κ:Nat
 l:Tm
 r:Tm
@[reducible] noncomputable def Cn.d (A:List Nat) (B:List Int) (x:Cn):Prop :=
 bI (Nat.ble x.κ 7) (opD x.κ (x.l.N A) (x.r.N A)) (opD (x.κ-8) (x.l.I A B) (x.r.I A B))
noncomputable def Cn.f (x:Cn) (κ:Nat→Nat):Fm :=
 bI (Nat.ble x.κ 7) (G5 (κ x.κ) x.l.LN x.r.LN) (G5 (κ (x.κ-8)) x.l.LI x.r.LI)
@[reducible] noncomputable def rdC (c:Nat):Cn×Nat:=(⟨c%16,(rdT 20 (c/16)).1,(rdT 20 (rdT 20 (c/16)).2).1⟩,(rdT 20 (rdT 20 (c/16)).2).2)
@[reducible] noncomputable def Im (A:List Nat) (B:List Int):Nat→Nat→Prop
 | 0,c=>(rdC c).1.d A B
 | n+1,c=>(rdC (c/16)).1.d A B→Im A B n (rdC (c/16)).2
noncomputable def Hs (f:Fm):Bool:=decide (f.k<0)&&f.p.all (fun c=>decide (c≤0))&&f.q.all (fun c=>decide (c=0))
noncomputable def Hj:Nat→Nat→Fm→Bool
 | 0,c,f=>Hs (f.add ((rdC c).1.f Hk))
 | n+1,c,f=>Hj n (rdC (c/16)).2 (f.add (((rdC (c/16)).1.f id).sc (Int.ofNat (c%16))))
section
variable (A:List Nat) (B:List Int)
theorem Cn.ok (x:Cn) (h:x.d A B):0≤(x.f id).e A B:=by
 unfold Cn.d at h;unfold Cn.f
 cases e:Nat.ble x.κ 7 with
 | true=>rw [e] at h;exact rX A B _ _ _ (by rw [Tm.eN,Tm.eN];exact (zk _ _ _).mp h)
 | false=>rw [e] at h;exact rX A B _ _ _ (by rw [Tm.eI,Tm.eI];exact h)
theorem Cn.no (x:Cn) (h:¬x.d A B):0≤(x.f Hk).e A B:=by
 unfold Cn.d at h;unfold Cn.f
 cases e:Nat.ble x.κ 7 with
 | true=>rw [e] at h;exact Dq A B _ _ _ (by rw [Tm.eN,Tm.eN];exact fun h'=>h ((zk _ _ _).mpr h'))
 | false=>rw [e] at h;exact Dq A B _ _ _ (by rw [Tm.eI,Tm.eI];exact h)
theorem AP:∀(A:List Nat) (p:List Int),p.all (fun c=>decide (c≤0))=true→tQ (A.map Nat.cast) p≤0
 | [],_,_=>Int.le_refl 0
 | _::_,[],_=>Int.le_refl 0
 | x::A,c::p,h=>by
  have h:=Bool.and_eq_true_iff.mp h
  exact Int.add_le_add (Int.mul_nonpos_of_nonpos_of_nonneg (of_decide_eq_true h.1) (Int.natCast_nonneg x)) (AP A p h.2)
theorem yJ:∀(B p:List Int),p.all (fun c=>decide (c=0))=true→tQ B p=0
 | [],_,_=>rfl
 | _::_,[],_=>rfl
 | x::B,c::p,h=>by
  have h:=Bool.and_eq_true_iff.mp h
  show c*x+tQ B p=0
  rw [of_decide_eq_true h.1,yJ B p h.2,Int.zero_mul];rfl
theorem Fu (f:Fm) (h:Hs f=true) (h2:0≤f.e A B):False:=by
 have h:=Bool.and_eq_true_iff.mp h
 have h1:=Bool.and_eq_true_iff.mp h.1
 have a:=of_decide_eq_true h1.1
 have b:=AP A _ h1.2
 have c:=yJ B _ h.2
 unfold Fm.e at h2;omega
theorem EP:∀(n c:Nat) (f:Fm),0≤f.e A B→Hj n c f=true→Im A B n c
 | 0,c,f,h,h2=>Classical.byContradiction fun g=>Fu A B _ h2 (by rw [Fm.e_add];exact Int.add_nonneg h (Cn.no A B _ g))
 | n+1,c,f,h,h2=>fun g=>EP n _ _ (by rw [Fm.e_add,Fm.e_sc];exact Int.add_nonneg h (Int.mul_nonneg (Int.natCast_nonneg _) (Cn.ok A B _ g))) h2
end
theorem sA (a b:Nat):a≤a-b+b:=by omega
noncomputable def G0 (c:Nat):Bool:=Hj (c%16) (c/16) ⟨0,[],[]⟩
@[reducible] noncomputable def Imc (A:List Nat) (B:List Int) (c:Nat):Prop:=Im A B (c%16) (c/16)
theorem Hu (c:Nat) (A:List Nat) (B:List Int) (h:G0 c=true):Imc A B c:=EP A B _ _ _ (Int.le_of_eq (Fm.e_k A B 0).symm) h
theorem HE (c:Nat) (A:List Nat) (h:G0 c=true):Imc A [] c:=Hu c A [] h
@[reducible] noncomputable def Imd (A:List Nat) (B:List Int) (c:Nat):Prop:=bI (G0 c) (Imc A B c) True
theorem lA (A:List Nat) (B:List Int) (c:Nat):Imd A B c:=by
 unfold Imd
 cases h:G0 c with
 | true=>exact Hu c A B h
 | false=>trivial
theorem bz (c:Nat) {a:Nat}:Imd [a] [] c:=lA _ _ c
theorem b0 (c:Nat) {a b:Nat}:Imd [a,b] [] c:=lA _ _ c
theorem tn (c:Nat) {a b d:Nat}:Imd [a,b,d] [] c:=lA _ _ c
theorem Cl (c:Nat) {a b d e:Nat}:Imd [a,b,d,e] [] c:=lA _ _ c
theorem G1 (c:Nat) {a b d e f:Nat}:Imd [a,b,d,e,f] [] c:=lA _ _ c
theorem cK (c:Nat) {x:Int}:Imd [] [x] c:=lA _ _ c
theorem ru (c:Nat) {x y:Int}:Imd [] [x,y] c:=lA _ _ c
theorem Gf (c:Nat) {x y z:Int}:Imd [] [x,y,z] c:=lA _ _ c
theorem Ef (c:Nat) {x y z w:Int}:Imd [] [x,y,z,w] c:=lA _ _ c
theorem kb (c:Nat) {a:Nat} {x:Int}:Imd [a] [x] c:=lA _ _ c
theorem rU (c:Nat) {a b:Nat} {x:Int}:Imd [a,b] [x] c:=lA _ _ c
theorem BU (c:Nat) {a:Nat} {x y:Int}:Imd [a] [x,y] c:=lA _ _ c
open PySem PySem.W PyProof.Rows
inductive V where
 | none:V
 | bool (b:Bool):V
 | int (i:Int):V
 | str (s:String):V
 | tup (xs:List V):V
 | ref (i:Nat):V
 | inst (c:String) (i:Nat):V
 | exc (c:String):V
 | scr:V
inductive O where
 | list (xs:List V)
 | dict (es:List (Int×V))
 | flds (fs:List (String×V))
abbrev Hp:=List O
abbrev aY:=String→Option V
noncomputable def upd (l:aY) (x:String) (v:V):aY:=fun y=>if y=x then some v else l y
noncomputable def del (l:aY) (x:String):aY:=fun y=>if y=x then none else l y
structure S where
 l:aY
 H:Hp
inductive vM (σ α:Type) where
 | ok (a:α) (s:σ)
 | exc (c:String) (s:σ)
 | stuck
abbrev Cm (α:Type):=S→vM S α
noncomputable def Cm.b {α β:Type} (m:Cm α) (f:α→Cm β):Cm β:=fun s=>match m s with
 | .ok a s'=>f a s'
 | .exc c s'=> .exc c s'
 | .stuck=> .stuck
noncomputable def Cm.p {α:Type} (a:α):Cm α:=fun s=> .ok a s
noncomputable def Cm.stk {α:Type}:Cm α:=fun _=> .stuck
abbrev Fc:=List V→Hp→vM Hp V
inductive Fl where
 | next
 | ret (v:V)
structure Cx where
 prog:Program
 w:World
 K:Frag
 hB:Heap
 os:OsState
 mg:Str→Option Value
 mb:Str→Option Value
 cls:String→Option Addr
 xcl:String→Option Addr
 sa:Addr
 sv:List Value
 sn:List Int
abbrev Cx.M (G:Cx):Model:=model G.prog G.w
structure bA (G:Cx):Prop where
 X:G.K.In G.hB
 g:G.hB.Ns mainGlobals G.mg
 b:G.hB.Ns builtinsNs G.mb
 bt:∀x:Str,x ≠ "__name__" → G.mb x=bootBuiltins x
 lim:G.hB.NoLimit
 seer:G.hB.NoSeer
 tree:G.prog.given.tree=none
 scr:G.hB.IsList G.sa G.sv.toArray
 isInts:IntsAre G.sv G.sn
 short:G.sn.length≤63
noncomputable def kP:List Stmt:=PySem.Challenge.pw_uf060003_10.main.body
noncomputable def kF (i:Nat):Stmt:=kP.getD i (.Pass ⟨0,0,0,0⟩)
noncomputable def kM (i j:Nat):Stmt:=match kF i with | .ClassDef _ _ _ b _ _ _ _ _ _ _=>b.getD j (.Pass ⟨0,0,0,0⟩) | s=>s
noncomputable def kA:Stmt→Arguments | .FunctionDef _ a _ _ _ _ _ _ _ _=>a | _=>⟨[],[],none,[],[],none,[]⟩
noncomputable def kB:Stmt→List Stmt | .FunctionDef _ _ b _ _ _ _ _ _ _=>b | _=>[]
noncomputable def kC:Stmt→Scope | .FunctionDef _ _ _ _ _ _ s _ _ _=>s | _=>default
noncomputable def kS (x:String) (t:Nat):Value:= .str (Str.ofString x) t
noncomputable def kE (P:Params) (x:String) (t:Nat) (v:Value):DictEntry:=⟨PyData.keyHash P (Str.ofString x),.str (Str.ofString x) t,v⟩
noncomputable def K0 (P:Params):Frag:=[
 (2,⟨.none,none,.dict #[] 0,#[]⟩),
 (3,⟨(.type "dict"),none,.dict #[(kE P "__name__" 165 (kS "law_uf060003_10" 640)),(kE P "__doc__" 166 .none),(kE P "__package__" 167 .none),(kE P "__loader__" 168 (.builtin "__main__.__loader__#opaque")),(kE P "__spec__" 169 .none),(kE P "__annotations__" 170 (.ref 6)),(kE P "__builtins__" 171 (.ref 4)),(kE P "__file__" 173 (kS "/claim/cut.py" 172)),(kE P "__cached__" 174 .none),(kE P "RoomError" 206 (.ref 24)),(kE P "BadPlan" 222 (.ref 37)),(kE P "BadWish" 238 (.ref 49)),(kE P "TooLarge" 254 (.ref 61)),(kE P "NoSize" 270 (.ref 73)),(kE P "NoRoom" 286 (.ref 85)),(kE P "NotOut" 302 (.ref 97)),(kE P "OutOfThing" 318 (.ref 109)),(kE P "Shelf" 395 (.ref 164)),(kE P "Room" 563 (.ref 286)),(kE P "MOST_PAGES" 567 (.int 40 566)),(kE P "MOST_LENGTH" 569 (.int 60 568)),(kE P "MOST_SIZES" 571 (.int 8 570)),(kE P "whole" 578 (.ref 297)),(kE P "between" 587 (.ref 304)),(kE P "Plan" 639 (.ref 335)),(kE P "_law_cell_at" 649 (.ref 346)),(kE P "_law_whole" 656 (.ref 353)),(kE P "_law_sizes_by" 670 (.ref 360)),(kE P "_law_plan_by" 681 (.ref 367)),(kE P "_law_size_by" 690 (.ref 374)),(kE P "_law_fullest" 701 (.ref 381)),(kE P "_law_fresh" 707 (.ref 386)),(kE P "_law_wished" 719 (.ref 393)),(kE P "_law_places" 731 (.ref 400)),(kE P "_law_given" 737 (.ref 405)),(kE P "_law_gathered_by" 743 (.ref 410)),(kE P "_law_left" 754 (.ref 417)),(kE P "_law_told" 766 (.ref 424)),(kE P "_law_got" 774 (.ref 431)),(kE P "_law_deed" 780 (.ref 436)),(kE P "_law_stands" 786 (.ref 441)),(kE P "law" 803 (.ref 448))] 42,#[]⟩),
 (15,⟨(.type "tuple"),none,.seq #[(.type "ValueError")] 0,#[]⟩),
 (22,⟨(.type "tuple"),none,.seq #[] 0,#[]⟩),
 (23,⟨(.type "dict"),none,.dict #[(kE P "__module__" 196 (kS "slabroom.errors" 187)),(kE P "__firstlineno__" 200 (.int 2 199)),(kE P "__static_attributes__" 201 (.ref 22)),(kE P "__weakref__" 203 (.ref 25)),(kE P "__doc__" 204 .none)] 3,#[]⟩),
 (24,⟨(.type "type"),none,.cls ⟨(Str.ofString "RoomError"),[(.type "ValueError")],[(.ref 24),(.type "ValueError"),(.type "Exception"),(.type "BaseException"),(.type "object")],23,(Str.ofString "RoomError"),true,[],[(.ref 37),(.ref 49),(.ref 61),(.ref 73),(.ref 85),(.ref 97),(.ref 109)],false,none,false⟩,#[(some (.ref 15)),none,(some (kS "RoomError" 189)),(some (kS "RoomError" 197)),(some (.builtin "ValueError.__new__")),(some (.bool true))]⟩),
 (25,⟨(.type "getset_descriptor"),none,.fields #[(kS "__weakref__" 202),(.ref 24),(.builtin "ExceptionGroup.__weakref__"),.none],#[]⟩),
 (28,⟨(.type "tuple"),none,.seq #[(.ref 24)] 0,#[]⟩),
 (35,⟨(.type "tuple"),none,.seq #[] 0,#[]⟩),
 (36,⟨(.type "dict"),none,.dict #[(kE P "__module__" 214 (kS "slabroom.errors" 187)),(kE P "__firstlineno__" 218 (.int 4 217)),(kE P "__static_attributes__" 219 (.ref 35)),(kE P "__doc__" 220 .none)] 2,#[]⟩),
 (37,⟨(.type "type"),none,.cls ⟨(Str.ofString "BadPlan"),[(.ref 24)],[(.ref 37),(.ref 24),(.type "ValueError"),(.type "Exception"),(.type "BaseException"),(.type "object")],36,(Str.ofString "BadPlan"),true,[],[],false,none,false⟩,#[(some (.ref 28)),none,(some (kS "BadPlan" 207)),(some (kS "BadPlan" 215)),(some (.builtin "ValueError.__new__")),(some (.bool true))]⟩),
 (40,⟨(.type "tuple"),none,.seq #[(.ref 24)] 0,#[]⟩),
 (47,⟨(.type "tuple"),none,.seq #[] 0,#[]⟩),
 (48,⟨(.type "dict"),none,.dict #[(kE P "__module__" 230 (kS "slabroom.errors" 187)),(kE P "__firstlineno__" 234 (.int 6 233)),(kE P "__static_attributes__" 235 (.ref 47)),(kE P "__doc__" 236 .none)] 2,#[]⟩),
 (49,⟨(.type "type"),none,.cls ⟨(Str.ofString "BadWish"),[(.ref 24)],[(.ref 49),(.ref 24),(.type "ValueError"),(.type "Exception"),(.type "BaseException"),(.type "object")],48,(Str.ofString "BadWish"),true,[],[],false,none,false⟩,#[(some (.ref 40)),none,(some (kS "BadWish" 223)),(some (kS "BadWish" 231)),(some (.builtin "ValueError.__new__")),(some (.bool true))]⟩),
 (52,⟨(.type "tuple"),none,.seq #[(.ref 24)] 0,#[]⟩),
 (59,⟨(.type "tuple"),none,.seq #[] 0,#[]⟩),
 (60,⟨(.type "dict"),none,.dict #[(kE P "__module__" 246 (kS "slabroom.errors" 187)),(kE P "__firstlineno__" 250 (.int 8 249)),(kE P "__static_attributes__" 251 (.ref 59)),(kE P "__doc__" 252 .none)] 2,#[]⟩),
 (61,⟨(.type "type"),none,.cls ⟨(Str.ofString "TooLarge"),[(.ref 24)],[(.ref 61),(.ref 24),(.type "ValueError"),(.type "Exception"),(.type "BaseException"),(.type "object")],60,(Str.ofString "TooLarge"),true,[],[],false,none,false⟩,#[(some (.ref 52)),none,(some (kS "TooLarge" 239)),(some (kS "TooLarge" 247)),(some (.builtin "ValueError.__new__")),(some (.bool true))]⟩),
 (64,⟨(.type "tuple"),none,.seq #[(.ref 24)] 0,#[]⟩),
 (71,⟨(.type "tuple"),none,.seq #[] 0,#[]⟩),
 (72,⟨(.type "dict"),none,.dict #[(kE P "__module__" 262 (kS "slabroom.errors" 187)),(kE P "__firstlineno__" 266 (.int 10 265)),(kE P "__static_attributes__" 267 (.ref 71)),(kE P "__doc__" 268 .none)] 2,#[]⟩),
 (73,⟨(.type "type"),none,.cls ⟨(Str.ofString "NoSize"),[(.ref 24)],[(.ref 73),(.ref 24),(.type "ValueError"),(.type "Exception"),(.type "BaseException"),(.type "object")],72,(Str.ofString "NoSize"),true,[],[],false,none,false⟩,#[(some (.ref 64)),none,(some (kS "NoSize" 255)),(some (kS "NoSize" 263)),(some (.builtin "ValueError.__new__")),(some (.bool true))]⟩),
 (76,⟨(.type "tuple"),none,.seq #[(.ref 24)] 0,#[]⟩),
 (83,⟨(.type "tuple"),none,.seq #[] 0,#[]⟩),
 (84,⟨(.type "dict"),none,.dict #[(kE P "__module__" 278 (kS "slabroom.errors" 187)),(kE P "__firstlineno__" 282 (.int 12 281)),(kE P "__static_attributes__" 283 (.ref 83)),(kE P "__doc__" 284 .none)] 2,#[]⟩),
 (85,⟨(.type "type"),none,.cls ⟨(Str.ofString "NoRoom"),[(.ref 24)],[(.ref 85),(.ref 24),(.type "ValueError"),(.type "Exception"),(.type "BaseException"),(.type "object")],84,(Str.ofString "NoRoom"),true,[],[],false,none,false⟩,#[(some (.ref 76)),none,(some (kS "NoRoom" 271)),(some (kS "NoRoom" 279)),(some (.builtin "ValueError.__new__")),(some (.bool true))]⟩),
 (88,⟨(.type "tuple"),none,.seq #[(.ref 24)] 0,#[]⟩),
 (95,⟨(.type "tuple"),none,.seq #[] 0,#[]⟩),
 (96,⟨(.type "dict"),none,.dict #[(kE P "__module__" 294 (kS "slabroom.errors" 187)),(kE P "__firstlineno__" 298 (.int 14 297)),(kE P "__static_attributes__" 299 (.ref 95)),(kE P "__doc__" 300 .none)] 2,#[]⟩),
 (97,⟨(.type "type"),none,.cls ⟨(Str.ofString "NotOut"),[(.ref 24)],[(.ref 97),(.ref 24),(.type "ValueError"),(.type "Exception"),(.type "BaseException"),(.type "object")],96,(Str.ofString "NotOut"),true,[],[],false,none,false⟩,#[(some (.ref 88)),none,(some (kS "NotOut" 287)),(some (kS "NotOut" 295)),(some (.builtin "ValueError.__new__")),(some (.bool true))]⟩),
 (100,⟨(.type "tuple"),none,.seq #[(.ref 24)] 0,#[]⟩),
 (107,⟨(.type "tuple"),none,.seq #[] 0,#[]⟩),
 (108,⟨(.type "dict"),none,.dict #[(kE P "__module__" 310 (kS "slabroom.errors" 187)),(kE P "__firstlineno__" 314 (.int 16 313)),(kE P "__static_attributes__" 315 (.ref 107)),(kE P "__doc__" 316 .none)] 2,#[]⟩),
 (109,⟨(.type "type"),none,.cls ⟨(Str.ofString "OutOfThing"),[(.ref 24)],[(.ref 109),(.ref 24),(.type "ValueError"),(.type "Exception"),(.type "BaseException"),(.type "object")],108,(Str.ofString "OutOfThing"),true,[],[],false,none,false⟩,#[(some (.ref 100)),none,(some (kS "OutOfThing" 303)),(some (kS "OutOfThing" 311)),(some (.builtin "ValueError.__new__")),(some (.bool true))]⟩),
 (119,⟨(.type "tuple"),none,.seq #[] 0,#[]⟩),
 (121,⟨(.type "tuple"),none,.seq #[(kS "self" 336),(kS "page" 337),(kS "size" 338),(kS "slots" 339)] 0,#[]⟩),
 (122,⟨(.type "tuple"),none,.seq #[] 0,#[]⟩),
 (124,⟨(.type "code"),none,.fields #[(kS "__init__" 333),(kS "Shelf.__init__" 334),(kS "/claim/cut.py" 335),(.int 21 0),(.int 4 0),(.int 0 0),(.int 0 0),(.int 3 0),(.ref 119),(.bool true),(.int 181 0),(.ref 120),.none,(.ref 121),(.ref 122),(.ref 123),(.int 340 0),(.int 21 0),(kS "/claim/cut.py" 341)],#[]⟩),
 (125,⟨(.type "function"),none,.func ⟨(Str.ofString "__init__"),(Str.ofString "Shelf.__init__"),(kA (kM 10 0)),(.stmts (kB (kM 10 0))),(kC (kM 10 0)),3,[],.none,.none,.none,(kS "slabroom.shelf" 319),none,(.ref 124),.none,0⟩,#[]⟩),
 (126,⟨(.type "tuple"),none,.seq #[] 0,#[]⟩),
 (129,⟨(.type "code"),none,.fields #[(kS "out" 343),(kS "Shelf.out" 344),(kS "/claim/cut.py" 345),(.int 26 0),(.int 1 0),(.int 0 0),(.int 0 0),(.int 3 0),(.ref 126),(.bool true),(.int 181 0),(.ref 127),.none,.none,.none,(.ref 128),(.int 346 0),(.int 26 0),(kS "/claim/cut.py" 347)],#[]⟩),
 (130,⟨(.type "function"),none,.func ⟨(Str.ofString "out"),(Str.ofString "Shelf.out"),(kA (kM 10 1)),(.stmts (kB (kM 10 1))),(kC (kM 10 1)),3,[],.none,.none,.none,(kS "slabroom.shelf" 319),none,(.ref 129),.none,0⟩,#[]⟩),
 (131,⟨(.type "tuple"),none,.seq #[] 0,#[]⟩),
 (134,⟨(.type "code"),none,.fields #[(kS "free" 349),(kS "Shelf.free" 350),(kS "/claim/cut.py" 351),(.int 29 0),(.int 1 0),(.int 0 0),(.int 0 0),(.int 3 0),(.ref 131),(.bool true),(.int 181 0),(.ref 132),.none,.none,.none,(.ref 133),(.int 352 0),(.int 29 0),(kS "/claim/cut.py" 353)],#[]⟩),
 (135,⟨(.type "function"),none,.func ⟨(Str.ofString "free"),(Str.ofString "Shelf.free"),(kA (kM 10 2)),(.stmts (kB (kM 10 2))),(kC (kM 10 3)),3,[],.none,.none,.none,(kS "slabroom.shelf" 319),none,(.ref 134),.none,0⟩,#[]⟩),
 (136,⟨(.type "tuple"),none,.seq #[] 0,#[]⟩),
 (139,⟨(.type "code"),none,.fields #[(kS "gone" 355),(kS "Shelf.gone" 356),(kS "/claim/cut.py" 357),(.int 32 0),(.int 1 0),(.int 0 0),(.int 0 0),(.int 3 0),(.ref 136),(.bool true),(.int 181 0),(.ref 137),.none,.none,.none,(.ref 138),(.int 358 0),(.int 32 0),(kS "/claim/cut.py" 359)],#[]⟩),
 (140,⟨(.type "function"),none,.func ⟨(Str.ofString "gone"),(Str.ofString "Shelf.gone"),(kA (kM 10 3)),(.stmts (kB (kM 10 3))),(kC (kM 10 3)),3,[],.none,.none,.none,(kS "slabroom.shelf" 319),none,(.ref 139),.none,0⟩,#[]⟩),
 (141,⟨(.type "tuple"),none,.seq #[] 0,#[]⟩),
 (143,⟨(.type "tuple"),none,.seq #[(kS "self" 364),(kS "slot" 365)] 0,#[]⟩),
 (144,⟨(.type "tuple"),none,.seq #[] 0,#[]⟩),
 (146,⟨(.type "code"),none,.fields #[(kS "take" 361),(kS "Shelf.take" 362),(kS "/claim/cut.py" 363),(.int 35 0),(.int 1 0),(.int 0 0),(.int 0 0),(.int 3 0),(.ref 141),(.bool true),(.int 181 0),(.ref 142),.none,(.ref 143),(.ref 144),(.ref 145),(.int 366 0),(.int 35 0),(kS "/claim/cut.py" 367)],#[]⟩),
 (147,⟨(.type "function"),none,.func ⟨(Str.ofString "take"),(Str.ofString "Shelf.take"),(kA (kM 10 4)),(.stmts (kB (kM 10 4))),(kC (kM 10 4)),3,[],.none,.none,.none,(kS "slabroom.shelf" 319),none,(.ref 146),.none,0⟩,#[]⟩),
 (148,⟨(.type "tuple"),none,.seq #[] 0,#[]⟩),
 (150,⟨(.type "tuple"),none,.seq #[(kS "self" 372),(kS "slot" 373)] 0,#[]⟩),
 (151,⟨(.type "tuple"),none,.seq #[] 0,#[]⟩),
 (153,⟨(.type "code"),none,.fields #[(kS "has" 369),(kS "Shelf.has" 370),(kS "/claim/cut.py" 371),(.int 42 0),(.int 2 0),(.int 0 0),(.int 0 0),(.int 3 0),(.ref 148),(.bool true),(.int 181 0),(.ref 149),.none,(.ref 150),(.ref 151),(.ref 152),(.int 374 0),(.int 42 0),(kS "/claim/cut.py" 375)],#[]⟩),
 (154,⟨(.type "function"),none,.func ⟨(Str.ofString "has"),(Str.ofString "Shelf.has"),(kA (kM 10 5)),(.stmts (kB (kM 10 5))),(kC (kM 10 5)),3,[],.none,.none,.none,(kS "slabroom.shelf" 319),none,(.ref 153),.none,0⟩,#[]⟩),
 (155,⟨(.type "tuple"),none,.seq #[] 0,#[]⟩),
 (157,⟨(.type "tuple"),none,.seq #[(kS "self" 380),(kS "slot" 381)] 0,#[]⟩),
 (158,⟨(.type "tuple"),none,.seq #[] 0,#[]⟩),
 (160,⟨(.type "code"),none,.fields #[(kS "give" 377),(kS "Shelf.give" 378),(kS "/claim/cut.py" 379),(.int 45 0),(.int 2 0),(.int 0 0),(.int 0 0),(.int 3 0),(.ref 155),(.bool true),(.int 181 0),(.ref 156),.none,(.ref 157),(.ref 158),(.ref 159),(.int 382 0),(.int 45 0),(kS "/claim/cut.py" 383)],#[]⟩),
 (161,⟨(.type "function"),none,.func ⟨(Str.ofString "give"),(Str.ofString "Shelf.give"),(kA (kM 10 6)),(.stmts (kB (kM 10 6))),(kC (kM 10 6)),3,[],.none,.none,.none,(kS "slabroom.shelf" 319),none,(.ref 160),.none,0⟩,#[]⟩),
 (162,⟨(.type "tuple"),none,.seq #[(kS "page" 385),(kS "size" 386),(kS "taken" 387)] 0,#[]⟩),
 (163,⟨(.type "dict"),none,.dict #[(kE P "__module__" 328 (kS "slabroom.shelf" 319)),(kE P "__firstlineno__" 332 (.int 19 331)),(kE P "__init__" 342 (.ref 125)),(kE P "out" 348 (.ref 130)),(kE P "free" 354 (.ref 135)),(kE P "gone" 360 (.ref 140)),(kE P "take" 368 (.ref 147)),(kE P "has" 376 (.ref 154)),(kE P "give" 384 (.ref 161)),(kE P "__static_attributes__" 388 (.ref 162)),(kE P "__dict__" 390 (.ref 165)),(kE P "__weakref__" 392 (.ref 166)),(kE P "__doc__" 393 .none)] 4,#[]⟩),
 (164,⟨(.type "type"),none,.cls ⟨(Str.ofString "Shelf"),[(.type "object")],[(.ref 164),(.type "object")],163,(Str.ofString "Shelf"),true,[],[],false,none,false⟩,#[none,none,(some (kS "Shelf" 321)),(some (kS "Shelf" 329)),(some (.builtin "object.__new__")),(some (.bool true))]⟩),
 (165,⟨(.type "getset_descriptor"),none,.fields #[(kS "__dict__" 389),(.ref 164),(.builtin "function.__dict__"),(.builtin "function.__dict__#set")],#[]⟩),
 (166,⟨(.type "getset_descriptor"),none,.fields #[(kS "__weakref__" 391),(.ref 164),(.builtin "ExceptionGroup.__weakref__"),.none],#[]⟩),
 (176,⟨(.type "tuple"),none,.seq #[] 0,#[]⟩),
 (178,⟨(.type "tuple"),none,.seq #[(kS "self" 413),(kS "plan" 414)] 0,#[]⟩),
 (179,⟨(.type "tuple"),none,.seq #[] 0,#[]⟩),
 (181,⟨(.type "code"),none,.fields #[(kS "__init__" 410),(kS "Room.__init__" 411),(kS "/claim/cut.py" 412),(.int 52 0),(.int 2 0),(.int 0 0),(.int 0 0),(.int 3 0),(.ref 176),(.bool true),(.int 181 0),(.ref 177),.none,(.ref 178),(.ref 179),(.ref 180),(.int 415 0),(.int 52 0),(kS "/claim/cut.py" 416)],#[]⟩),
 (182,⟨(.type "function"),none,.func ⟨(Str.ofString "__init__"),(Str.ofString "Room.__init__"),(kA (kM 12 0)),(.stmts (kB (kM 12 0))),(kC (kM 12 0)),3,[],.none,.none,.none,(kS "slabroom.room" 396),none,(.ref 181),.none,0⟩,#[]⟩),
 (183,⟨(.type "tuple"),none,.seq #[] 0,#[]⟩),
 (186,⟨(.type "code"),none,.fields #[(kS "pile" 418),(kS "Room.pile" 419),(kS "/claim/cut.py" 420),(.int 57 0),(.int 1 0),(.int 0 0),(.int 0 0),(.int 3 0),(.ref 183),(.bool true),(.int 181 0),(.ref 184),.none,.none,.none,(.ref 185),(.int 421 0),(.int 57 0),(kS "/claim/cut.py" 422)],#[]⟩),
 (187,⟨(.type "function"),none,.func ⟨(Str.ofString "pile"),(Str.ofString "Room.pile"),(kA (kM 12 1)),(.stmts (kB (kM 12 1))),(kC (kM 12 1)),3,[],.none,.none,.none,(kS "slabroom.room" 396),none,(.ref 186),.none,0⟩,#[]⟩),
 (188,⟨(.type "tuple"),none,.seq #[] 0,#[]⟩),
 (191,⟨(.type "code"),none,.fields #[(kS "empty_pages" 424),(kS "Room.empty_pages" 425),(kS "/claim/cut.py" 426),(.int 60 0),(.int 1 0),(.int 0 0),(.int 0 0),(.int 3 0),(.ref 188),(.bool true),(.int 181 0),(.ref 189),.none,.none,.none,(.ref 190),(.int 427 0),(.int 60 0),(kS "/claim/cut.py" 428)],#[]⟩),
 (192,⟨(.type "function"),none,.func ⟨(Str.ofString "empty_pages"),(Str.ofString "Room.empty_pages"),(kA (kM 12 2)),(.stmts (kB (kM 12 2))),(kC (kM 12 17)),3,[],.none,.none,.none,(kS "slabroom.room" 396),none,(.ref 191),.none,0⟩,#[]⟩),
 (193,⟨(.type "tuple"),none,.seq #[] 0,#[]⟩),
 (196,⟨(.type "code"),none,.fields #[(kS "of_size" 430),(kS "Room.of_size" 431),(kS "/claim/cut.py" 432),(.int 63 0),(.int 2 0),(.int 0 0),(.int 0 0),(.int 3 0),(.ref 193),(.bool true),(.int 181 0),(.ref 194),.none,.none,.none,(.ref 195),(.int 433 0),(.int 63 0),(kS "/claim/cut.py" 434)],#[]⟩),
 (197,⟨(.type "function"),none,.func ⟨(Str.ofString "of_size"),(Str.ofString "Room.of_size"),(kA (kM 12 3)),(.stmts (kB (kM 12 3))),(kC (kM 12 3)),3,[],.none,.none,.none,(kS "slabroom.room" 396),none,(.ref 196),.none,0⟩,#[]⟩),
 (198,⟨(.type "tuple"),none,.seq #[] 0,#[]⟩),
 (200,⟨(.type "tuple"),none,.seq #[(kS "self" 439),(kS "shelf" 440),(kS "slot" 441)] 0,#[]⟩),
 (201,⟨(.type "tuple"),none,.seq #[] 0,#[]⟩),
 (203,⟨(.type "code"),none,.fields #[(kS "begin" 436),(kS "Room.begin" 437),(kS "/claim/cut.py" 438),(.int 66 0),(.int 3 0),(.int 0 0),(.int 0 0),(.int 3 0),(.ref 198),(.bool true),(.int 181 0),(.ref 199),.none,(.ref 200),(.ref 201),(.ref 202),(.int 442 0),(.int 66 0),(kS "/claim/cut.py" 443)],#[]⟩),
 (204,⟨(.type "function"),none,.func ⟨(Str.ofString "begin"),(Str.ofString "Room.begin"),(kA (kM 12 4)),(.stmts (kB (kM 12 4))),(kC (kM 12 4)),3,[],.none,.none,.none,(kS "slabroom.room" 396),none,(.ref 203),.none,0⟩,#[]⟩),
 (205,⟨(.type "tuple"),none,.seq #[] 0,#[]⟩),
 (207,⟨(.type "tuple"),none,.seq #[(kS "self" 448),(kS "place" 449),(kS "page" 450),(kS "shelf" 451),(kS "step" 452)] 0,#[]⟩),
 (208,⟨(.type "tuple"),none,.seq #[] 0,#[]⟩),
 (210,⟨(.type "code"),none,.fields #[(kS "found" 445),(kS "Room.found" 446),(kS "/claim/cut.py" 447),(.int 69 0),(.int 2 0),(.int 0 0),(.int 0 0),(.int 3 0),(.ref 205),(.bool true),(.int 181 0),(.ref 206),.none,(.ref 207),(.ref 208),(.ref 209),(.int 453 0),(.int 69 0),(kS "/claim/cut.py" 454)],#[]⟩),
 (211,⟨(.type "function"),none,.func ⟨(Str.ofString "found"),(Str.ofString "Room.found"),(kA (kM 12 5)),(.stmts (kB (kM 12 5))),(kC (kM 12 5)),3,[],.none,.none,.none,(kS "slabroom.room" 396),none,(.ref 210),.none,0⟩,#[]⟩),
 (212,⟨(.type "tuple"),none,.seq #[] 0,#[]⟩),
 (214,⟨(.type "tuple"),none,.seq #[(kS "self" 459),(kS "size" 460),(kS "pages" 461)] 0,#[]⟩),
 (215,⟨(.type "tuple"),none,.seq #[] 0,#[]⟩),
 (217,⟨(.type "code"),none,.fields #[(kS "fresh" 456),(kS "Room.fresh" 457),(kS "/claim/cut.py" 458),(.int 79 0),(.int 2 0),(.int 0 0),(.int 0 0),(.int 3 0),(.ref 212),(.bool true),(.int 181 0),(.ref 213),.none,(.ref 214),(.ref 215),(.ref 216),(.int 462 0),(.int 79 0),(kS "/claim/cut.py" 463)],#[]⟩),
 (218,⟨(.type "function"),none,.func ⟨(Str.ofString "fresh"),(Str.ofString "Room.fresh"),(kA (kM 12 6)),(.stmts (kB (kM 12 6))),(kC (kM 12 6)),3,[],.none,.none,.none,(kS "slabroom.room" 396),none,(.ref 217),.none,0⟩,#[]⟩),
 (219,⟨(.type "tuple"),none,.seq #[] 0,#[]⟩),
 (221,⟨(.type "tuple"),none,.seq #[(kS "self" 468),(kS "places" 469),(kS "size" 470),(kS "best" 471),(kS "page" 472),(kS "shelf" 473),(kS "place" 474),(kS "step" 475)] 0,#[]⟩),
 (222,⟨(.type "tuple"),none,.seq #[] 0,#[]⟩),
 (224,⟨(.type "code"),none,.fields #[(kS "wish" 465),(kS "Room.wish" 466),(kS "/claim/cut.py" 467),(.int 88 0),(.int 2 0),(.int 0 0),(.int 0 0),(.int 3 0),(.ref 219),(.bool true),(.int 181 0),(.ref 220),.none,(.ref 221),(.ref 222),(.ref 223),(.int 476 0),(.int 88 0),(kS "/claim/cut.py" 477)],#[]⟩),
 (225,⟨(.type "function"),none,.func ⟨(Str.ofString "wish"),(Str.ofString "Room.wish"),(kA (kM 12 7)),(.stmts (kB (kM 12 7))),(kC (kM 12 7)),3,[],.none,.none,.none,(kS "slabroom.room" 396),none,(.ref 224),.none,0⟩,#[]⟩),
 (226,⟨(.type "tuple"),none,.seq #[] 0,#[]⟩),
 (229,⟨(.type "code"),none,.fields #[(kS "give_back" 479),(kS "Room.give_back" 480),(kS "/claim/cut.py" 481),(.int 102 0),(.int 2 0),(.int 0 0),(.int 0 0),(.int 3 0),(.ref 226),(.bool true),(.int 181 0),(.ref 227),.none,.none,.none,(.ref 228),(.int 482 0),(.int 102 0),(kS "/claim/cut.py" 483)],#[]⟩),
 (230,⟨(.type "function"),none,.func ⟨(Str.ofString "give_back"),(Str.ofString "Room.give_back"),(kA (kM 12 8)),(.stmts (kB (kM 12 8))),(kC (kM 12 8)),3,[],.none,.none,.none,(kS "slabroom.room" 396),none,(.ref 229),.none,0⟩,#[]⟩),
 (231,⟨(.type "tuple"),none,.seq #[] 0,#[]⟩),
 (233,⟨(.type "tuple"),none,.seq #[(kS "self" 488),(kS "pages" 489),(kS "page" 490)] 0,#[]⟩),
 (234,⟨(.type "tuple"),none,.seq #[] 0,#[]⟩),
 (236,⟨(.type "code"),none,.fields #[(kS "trim" 485),(kS "Room.trim" 486),(kS "/claim/cut.py" 487),(.int 110 0),(.int 1 0),(.int 0 0),(.int 0 0),(.int 3 0),(.ref 231),(.bool true),(.int 181 0),(.ref 232),.none,(.ref 233),(.ref 234),(.ref 235),(.int 491 0),(.int 110 0),(kS "/claim/cut.py" 492)],#[]⟩),
 (237,⟨(.type "function"),none,.func ⟨(Str.ofString "trim"),(Str.ofString "Room.trim"),(kA (kM 12 9)),(.stmts (kB (kM 12 9))),(kC (kM 12 9)),3,[],.none,.none,.none,(kS "slabroom.room" 396),none,(.ref 236),.none,0⟩,#[]⟩),
 (238,⟨(.type "tuple"),none,.seq #[] 0,#[]⟩),
 (241,⟨(.type "code"),none,.fields #[(kS "room_for" 494),(kS "Room.room_for" 495),(kS "/claim/cut.py" 496),(.int 116 0),(.int 2 0),(.int 0 0),(.int 0 0),(.int 3 0),(.ref 238),(.bool true),(.int 181 0),(.ref 239),.none,.none,.none,(.ref 240),(.int 497 0),(.int 116 0),(kS "/claim/cut.py" 498)],#[]⟩),
 (242,⟨(.type "function"),none,.func ⟨(Str.ofString "room_for"),(Str.ofString "Room.room_for"),(kA (kM 12 10)),(.stmts (kB (kM 12 10))),(kC (kM 12 10)),3,[],.none,.none,.none,(kS "slabroom.room" 396),none,(.ref 241),.none,0⟩,#[]⟩),
 (243,⟨(.type "tuple"),none,.seq #[] 0,#[]⟩),
 (245,⟨(.type "tuple"),none,.seq #[(kS "self" 503),(kS "place" 504),(kS "step" 505),(kS "shelf" 506)] 0,#[]⟩),
 (246,⟨(.type "tuple"),none,.seq #[] 0,#[]⟩),
 (248,⟨(.type "code"),none,.fields #[(kS "cell" 500),(kS "Room.cell" 501),(kS "/claim/cut.py" 502),(.int 122 0),(.int 3 0),(.int 0 0),(.int 0 0),(.int 3 0),(.ref 243),(.bool true),(.int 181 0),(.ref 244),.none,(.ref 245),(.ref 246),(.ref 247),(.int 507 0),(.int 122 0),(kS "/claim/cut.py" 508)],#[]⟩),
 (249,⟨(.type "function"),none,.func ⟨(Str.ofString "cell"),(Str.ofString "Room.cell"),(kA (kM 12 11)),(.stmts (kB (kM 12 11))),(kC (kM 12 11)),3,[],.none,.none,.none,(kS "slabroom.room" 396),none,(.ref 248),.none,0⟩,#[]⟩),
 (250,⟨(.type "tuple"),none,.seq #[] 0,#[]⟩),
 (252,⟨(.type "tuple"),none,.seq #[(kS "self" 513),(kS "place" 514),(kS "step" 515)] 0,#[]⟩),
 (253,⟨(.type "tuple"),none,.seq #[] 0,#[]⟩),
 (255,⟨(.type "code"),none,.fields #[(kS "read" 510),(kS "Room.read" 511),(kS "/claim/cut.py" 512),(.int 128 0),(.int 3 0),(.int 0 0),(.int 0 0),(.int 3 0),(.ref 250),(.bool true),(.int 181 0),(.ref 251),.none,(.ref 252),(.ref 253),(.ref 254),(.int 516 0),(.int 128 0),(kS "/claim/cut.py" 517)],#[]⟩),
 (256,⟨(.type "function"),none,.func ⟨(Str.ofString "read"),(Str.ofString "Room.read"),(kA (kM 12 12)),(.stmts (kB (kM 12 12))),(kC (kM 12 12)),3,[],.none,.none,.none,(kS "slabroom.room" 396),none,(.ref 255),.none,0⟩,#[]⟩),
 (257,⟨(.type "tuple"),none,.seq #[] 0,#[]⟩),
 (259,⟨(.type "tuple"),none,.seq #[(kS "self" 522),(kS "place" 523),(kS "step" 524),(kS "number" 525)] 0,#[]⟩),
 (260,⟨(.type "tuple"),none,.seq #[] 0,#[]⟩),
 (262,⟨(.type "code"),none,.fields #[(kS "write" 519),(kS "Room.write" 520),(kS "/claim/cut.py" 521),(.int 131 0),(.int 4 0),(.int 0 0),(.int 0 0),(.int 3 0),(.ref 257),(.bool true),(.int 181 0),(.ref 258),.none,(.ref 259),(.ref 260),(.ref 261),(.int 526 0),(.int 131 0),(kS "/claim/cut.py" 527)],#[]⟩),
 (263,⟨(.type "function"),none,.func ⟨(Str.ofString "write"),(Str.ofString "Room.write"),(kA (kM 12 13)),(.stmts (kB (kM 12 13))),(kC (kM 12 13)),3,[],.none,.none,.none,(kS "slabroom.room" 396),none,(.ref 262),.none,0⟩,#[]⟩),
 (264,⟨(.type "tuple"),none,.seq #[] 0,#[]⟩),
 (267,⟨(.type "code"),none,.fields #[(kS "gather" 529),(kS "Room.gather" 530),(kS "/claim/cut.py" 531),(.int 134 0),(.int 2 0),(.int 0 0),(.int 0 0),(.int 3 0),(.ref 264),(.bool true),(.int 181 0),(.ref 265),.none,.none,.none,(.ref 266),(.int 532 0),(.int 134 0),(kS "/claim/cut.py" 533)],#[]⟩),
 (268,⟨(.type "function"),none,.func ⟨(Str.ofString "gather"),(Str.ofString "Room.gather"),(kA (kM 12 14)),(.stmts (kB (kM 12 14))),(kC (kM 12 14)),3,[],.none,.none,.none,(kS "slabroom.room" 396),none,(.ref 267),.none,0⟩,#[]⟩),
 (269,⟨(.type "tuple"),none,.seq #[] 0,#[]⟩),
 (272,⟨(.type "code"),none,.fields #[(kS "moved" 535),(kS "Room.moved" 536),(kS "/claim/cut.py" 537),(.int 150 0),(.int 4 0),(.int 0 0),(.int 0 0),(.int 3 0),(.ref 269),(.bool true),(.int 181 0),(.ref 270),.none,.none,.none,(.ref 271),(.int 538 0),(.int 150 0),(kS "/claim/cut.py" 539)],#[]⟩),
 (273,⟨(.type "function"),none,.func ⟨(Str.ofString "moved"),(Str.ofString "Room.moved"),(kA (kM 12 15)),(.stmts (kB (kM 12 15))),(kC (kM 12 15)),3,[],.none,.none,.none,(kS "slabroom.room" 396),none,(.ref 272),.none,0⟩,#[]⟩),
 (274,⟨(.type "tuple"),none,.seq #[] 0,#[]⟩),
 (277,⟨(.type "code"),none,.fields #[(kS "things" 541),(kS "Room.things" 542),(kS "/claim/cut.py" 543),(.int 157 0),(.int 1 0),(.int 0 0),(.int 0 0),(.int 3 0),(.ref 274),(.bool true),(.int 181 0),(.ref 275),.none,.none,.none,(.ref 276),(.int 544 0),(.int 157 0),(kS "/claim/cut.py" 545)],#[]⟩),
 (278,⟨(.type "function"),none,.func ⟨(Str.ofString "things"),(Str.ofString "Room.things"),(kA (kM 12 16)),(.stmts (kB (kM 12 16))),(kC (kM 12 16)),3,[],.none,.none,.none,(kS "slabroom.room" 396),none,(.ref 277),.none,0⟩,#[]⟩),
 (279,⟨(.type "tuple"),none,.seq #[] 0,#[]⟩),
 (282,⟨(.type "code"),none,.fields #[(kS "shelves" 547),(kS "Room.shelves" 548),(kS "/claim/cut.py" 549),(.int 164 0),(.int 1 0),(.int 0 0),(.int 0 0),(.int 3 0),(.ref 279),(.bool true),(.int 181 0),(.ref 280),.none,.none,.none,(.ref 281),(.int 550 0),(.int 164 0),(kS "/claim/cut.py" 551)],#[]⟩),
 (283,⟨(.type "function"),none,.func ⟨(Str.ofString "shelves"),(Str.ofString "Room.shelves"),(kA (kM 12 17)),(.stmts (kB (kM 12 17))),(kC (kM 12 17)),3,[],.none,.none,.none,(kS "slabroom.room" 396),none,(.ref 282),.none,0⟩,#[]⟩),
 (284,⟨(.type "tuple"),none,.seq #[(kS "cells" 553),(kS "plan" 554),(kS "racks" 555)] 0,#[]⟩),
 (285,⟨(.type "dict"),none,.dict #[(kE P "__module__" 405 (kS "slabroom.room" 396)),(kE P "__firstlineno__" 409 (.int 50 408)),(kE P "__init__" 417 (.ref 182)),(kE P "pile" 423 (.ref 187)),(kE P "empty_pages" 429 (.ref 192)),(kE P "of_size" 435 (.ref 197)),(kE P "begin" 444 (.ref 204)),(kE P "found" 455 (.ref 211)),(kE P "fresh" 464 (.ref 218)),(kE P "wish" 478 (.ref 225)),(kE P "give_back" 484 (.ref 230)),(kE P "trim" 493 (.ref 237)),(kE P "room_for" 499 (.ref 242)),(kE P "cell" 509 (.ref 249)),(kE P "read" 518 (.ref 256)),(kE P "write" 528 (.ref 263)),(kE P "gather" 534 (.ref 268)),(kE P "moved" 540 (.ref 273)),(kE P "things" 546 (.ref 278)),(kE P "shelves" 552 (.ref 283)),(kE P "__static_attributes__" 556 (.ref 284)),(kE P "__dict__" 558 (.ref 287)),(kE P "__weakref__" 560 (.ref 288)),(kE P "__doc__" 561 .none)] 4,#[]⟩),
 (286,⟨(.type "type"),none,.cls ⟨(Str.ofString "Room"),[(.type "object")],[(.ref 286),(.type "object")],285,(Str.ofString "Room"),true,[],[],false,none,false⟩,#[none,none,(some (kS "Room" 398)),(some (kS "Room" 406)),(some (.builtin "object.__new__")),(some (.bool true))]⟩),
 (287,⟨(.type "getset_descriptor"),none,.fields #[(kS "__dict__" 557),(.ref 286),(.builtin "function.__dict__"),(.builtin "function.__dict__#set")],#[]⟩),
 (288,⟨(.type "getset_descriptor"),none,.fields #[(kS "__weakref__" 559),(.ref 286),(.builtin "ExceptionGroup.__weakref__"),.none],#[]⟩),
 (291,⟨(.type "tuple"),none,.seq #[] 0,#[]⟩),
 (293,⟨(.type "tuple"),none,.seq #[(kS "number" 575)] 0,#[]⟩),
 (294,⟨(.type "tuple"),none,.seq #[] 0,#[]⟩),
 (296,⟨(.type "code"),none,.fields #[(kS "whole" 572),(kS "whole" 573),(kS "/claim/cut.py" 574),(.int 170 0),(.int 1 0),(.int 0 0),(.int 0 0),(.int 3 0),(.ref 291),(.bool true),(.int 181 0),(.ref 292),.none,(.ref 293),(.ref 294),(.ref 295),(.int 576 0),(.int 170 0),(kS "/claim/cut.py" 577)],#[]⟩),
 (297,⟨(.type "function"),none,.func ⟨(Str.ofString "whole"),(Str.ofString "whole"),(kA (kF 17)),(.stmts (kB (kF 17))),(kC (kF 17)),3,[],.none,.none,.none,(kS "slabroom.plans" 564),none,(.ref 296),.none,0⟩,#[]⟩),
 (298,⟨(.type "tuple"),none,.seq #[] 0,#[]⟩),
 (300,⟨(.type "tuple"),none,.seq #[(kS "number" 582),(kS "least" 583),(kS "most" 584)] 0,#[]⟩),
 (301,⟨(.type "tuple"),none,.seq #[] 0,#[]⟩),
 (303,⟨(.type "code"),none,.fields #[(kS "between" 579),(kS "between" 580),(kS "/claim/cut.py" 581),(.int 172 0),(.int 3 0),(.int 0 0),(.int 0 0),(.int 3 0),(.ref 298),(.bool true),(.int 181 0),(.ref 299),.none,(.ref 300),(.ref 301),(.ref 302),(.int 585 0),(.int 172 0),(kS "/claim/cut.py" 586)],#[]⟩),
 (304,⟨(.type "function"),none,.func ⟨(Str.ofString "between"),(Str.ofString "between"),(kA (kF 18)),(.stmts (kB (kF 18))),(kC (kF 18)),3,[],.none,.none,.none,(kS "slabroom.plans" 564),none,(.ref 303),.none,0⟩,#[]⟩),
 (312,⟨(.type "tuple"),none,.seq #[] 0,#[]⟩),
 (314,⟨(.type "tuple"),none,.seq #[(kS "self" 603),(kS "pages" 604),(kS "length" 605),(kS "sizes" 606),(kS "last" 607),(kS "size" 608)] 0,#[]⟩),
 (315,⟨(.type "tuple"),none,.seq #[] 0,#[]⟩),
 (317,⟨(.type "code"),none,.fields #[(kS "__init__" 600),(kS "Plan.__init__" 601),(kS "/claim/cut.py" 602),(.int 176 0),(.int 4 0),(.int 0 0),(.int 0 0),(.int 3 0),(.ref 312),(.bool true),(.int 181 0),(.ref 313),.none,(.ref 314),(.ref 315),(.ref 316),(.int 609 0),(.int 176 0),(kS "/claim/cut.py" 610)],#[]⟩),
 (318,⟨(.type "function"),none,.func ⟨(Str.ofString "__init__"),(Str.ofString "Plan.__init__"),(kA (kM 19 0)),(.stmts (kB (kM 19 0))),(kC (kM 19 0)),3,[],.none,.none,.none,(kS "slabroom.plans" 564),none,(.ref 317),.none,0⟩,#[]⟩),
 (319,⟨(.type "tuple"),none,.seq #[] 0,#[]⟩),
 (321,⟨(.type "tuple"),none,.seq #[(kS "self" 615),(kS "wish" 616),(kS "size" 617)] 0,#[]⟩),
 (322,⟨(.type "tuple"),none,.seq #[] 0,#[]⟩),
 (324,⟨(.type "code"),none,.fields #[(kS "size_for" 612),(kS "Plan.size_for" 613),(kS "/claim/cut.py" 614),(.int 190 0),(.int 2 0),(.int 0 0),(.int 0 0),(.int 3 0),(.ref 319),(.bool true),(.int 181 0),(.ref 320),.none,(.ref 321),(.ref 322),(.ref 323),(.int 618 0),(.int 190 0),(kS "/claim/cut.py" 619)],#[]⟩),
 (325,⟨(.type "function"),none,.func ⟨(Str.ofString "size_for"),(Str.ofString "Plan.size_for"),(kA (kM 19 1)),(.stmts (kB (kM 19 1))),(kC (kM 19 1)),3,[],.none,.none,.none,(kS "slabroom.plans" 564),none,(.ref 324),.none,0⟩,#[]⟩),
 (326,⟨(.type "tuple"),none,.seq #[] 0,#[]⟩),
 (328,⟨(.type "tuple"),none,.seq #[(kS "self" 624),(kS "size" 625)] 0,#[]⟩),
 (329,⟨(.type "tuple"),none,.seq #[] 0,#[]⟩),
 (331,⟨(.type "code"),none,.fields #[(kS "per" 621),(kS "Plan.per" 622),(kS "/claim/cut.py" 623),(.int 198 0),(.int 2 0),(.int 0 0),(.int 0 0),(.int 3 0),(.ref 326),(.bool true),(.int 181 0),(.ref 327),.none,(.ref 328),(.ref 329),(.ref 330),(.int 626 0),(.int 198 0),(kS "/claim/cut.py" 627)],#[]⟩),
 (332,⟨(.type "function"),none,.func ⟨(Str.ofString "per"),(Str.ofString "Plan.per"),(kA (kM 19 2)),(.stmts (kB (kM 19 2))),(kC (kM 19 2)),3,[],.none,.none,.none,(kS "slabroom.plans" 564),none,(.ref 331),.none,0⟩,#[]⟩),
 (333,⟨(.type "tuple"),none,.seq #[(kS "length" 629),(kS "pages" 630),(kS "sizes" 631)] 0,#[]⟩),
 (334,⟨(.type "dict"),none,.dict #[(kE P "__module__" 595 (kS "slabroom.plans" 564)),(kE P "__firstlineno__" 599 (.int 174 598)),(kE P "__init__" 611 (.ref 318)),(kE P "size_for" 620 (.ref 325)),(kE P "per" 628 (.ref 332)),(kE P "__static_attributes__" 632 (.ref 333)),(kE P "__dict__" 634 (.ref 336)),(kE P "__weakref__" 636 (.ref 337)),(kE P "__doc__" 637 .none)] 4,#[]⟩),
 (335,⟨(.type "type"),none,.cls ⟨(Str.ofString "Plan"),[(.type "object")],[(.ref 335),(.type "object")],334,(Str.ofString "Plan"),true,[],[],false,none,false⟩,#[none,none,(some (kS "Plan" 588)),(some (kS "Plan" 596)),(some (.builtin "object.__new__")),(some (.bool true))]⟩),
 (336,⟨(.type "getset_descriptor"),none,.fields #[(kS "__dict__" 633),(.ref 335),(.builtin "function.__dict__"),(.builtin "function.__dict__#set")],#[]⟩),
 (337,⟨(.type "getset_descriptor"),none,.fields #[(kS "__weakref__" 635),(.ref 335),(.builtin "ExceptionGroup.__weakref__"),.none],#[]⟩),
 (340,⟨(.type "tuple"),none,.seq #[] 0,#[]⟩),
 (342,⟨(.type "tuple"),none,.seq #[(kS "_law_script" 645),(kS "_law_k" 646)] 0,#[]⟩),
 (343,⟨(.type "tuple"),none,.seq #[] 0,#[]⟩),
 (345,⟨(.type "code"),none,.fields #[(kS "_law_cell_at" 642),(kS "_law_cell_at" 643),(kS "/claim/cut.py" 644),(.int 203 0),(.int 2 0),(.int 0 0),(.int 0 0),(.int 3 0),(.ref 340),(.bool true),(.int 181 0),(.ref 341),.none,(.ref 342),(.ref 343),(.ref 344),(.int 647 0),(.int 203 0),(kS "/claim/cut.py" 648)],#[]⟩),
 (346,⟨(.type "function"),none,.func ⟨(Str.ofString "_law_cell_at"),(Str.ofString "_law_cell_at"),(kA (kF 21)),(.stmts (kB (kF 21))),(kC (kF 21)),3,[],.none,.none,.none,(kS "law_uf060003_10" 640),none,(.ref 345),.none,0⟩,#[]⟩),
 (347,⟨(.type "tuple"),none,.seq #[] 0,#[]⟩),
 (349,⟨(.type "tuple"),none,.seq #[(kS "_law_found" 653)] 0,#[]⟩),
 (350,⟨(.type "tuple"),none,.seq #[] 0,#[]⟩),
 (352,⟨(.type "code"),none,.fields #[(kS "_law_whole" 650),(kS "_law_whole" 651),(kS "/claim/cut.py" 652),(.int 207 0),(.int 1 0),(.int 0 0),(.int 0 0),(.int 3 0),(.ref 347),(.bool true),(.int 181 0),(.ref 348),.none,(.ref 349),(.ref 350),(.ref 351),(.int 654 0),(.int 207 0),(kS "/claim/cut.py" 655)],#[]⟩),
 (353,⟨(.type "function"),none,.func ⟨(Str.ofString "_law_whole"),(Str.ofString "_law_whole"),(kA (kF 22)),(.stmts (kB (kF 22))),(kC (kF 22)),3,[],.none,.none,.none,(kS "law_uf060003_10" 640),none,(.ref 352),.none,0⟩,#[]⟩),
 (354,⟨(.type "tuple"),none,.seq #[] 0,#[]⟩),
 (356,⟨(.type "tuple"),none,.seq #[(kS "_law_cell" 660),(kS "_law_length" 661),(kS "_law_many" 662),(kS "_law_found" 663),(kS "_law_before" 664),(kS "_law_rest" 665),(kS "_law_span" 666),(kS "_law_turn" 667)] 0,#[]⟩),
 (357,⟨(.type "tuple"),none,.seq #[] 0,#[]⟩),
 (359,⟨(.type "code"),none,.fields #[(kS "_law_sizes_by" 657),(kS "_law_sizes_by" 658),(kS "/claim/cut.py" 659),(.int 209 0),(.int 3 0),(.int 0 0),(.int 0 0),(.int 3 0),(.ref 354),(.bool true),(.int 181 0),(.ref 355),.none,(.ref 356),(.ref 357),(.ref 358),(.int 668 0),(.int 209 0),(kS "/claim/cut.py" 669)],#[]⟩),
 (360,⟨(.type "function"),none,.func ⟨(Str.ofString "_law_sizes_by"),(Str.ofString "_law_sizes_by"),(kA (kF 23)),(.stmts (kB (kF 23))),(kC (kF 23)),3,[],.none,.none,.none,(kS "law_uf060003_10" 640),none,(.ref 359),.none,0⟩,#[]⟩),
 (361,⟨(.type "tuple"),none,.seq #[] 0,#[]⟩),
 (363,⟨(.type "tuple"),none,.seq #[(kS "_law_script" 674),(kS "_law_first" 675),(kS "_law_second" 676),(kS "_law_pages" 677),(kS "_law_length" 678)] 0,#[]⟩),
 (364,⟨(.type "tuple"),none,.seq #[] 0,#[]⟩),
 (366,⟨(.type "code"),none,.fields #[(kS "_law_plan_by" 671),(kS "_law_plan_by" 672),(kS "/claim/cut.py" 673),(.int 224 0),(.int 1 0),(.int 0 0),(.int 0 0),(.int 3 0),(.ref 361),(.bool true),(.int 181 0),(.ref 362),.none,(.ref 363),(.ref 364),(.ref 365),(.int 679 0),(.int 224 0),(kS "/claim/cut.py" 680)],#[]⟩),
 (367,⟨(.type "function"),none,.func ⟨(Str.ofString "_law_plan_by"),(Str.ofString "_law_plan_by"),(kA (kF 24)),(.stmts (kB (kF 24))),(kC (kF 24)),3,[],.none,.none,.none,(kS "law_uf060003_10" 640),none,(.ref 366),.none,0⟩,#[]⟩),
 (368,⟨(.type "tuple"),none,.seq #[] 0,#[]⟩),
 (370,⟨(.type "tuple"),none,.seq #[(kS "_law_sizes" 685),(kS "_law_wish" 686),(kS "_law_size" 687)] 0,#[]⟩),
 (371,⟨(.type "tuple"),none,.seq #[] 0,#[]⟩),
 (373,⟨(.type "code"),none,.fields #[(kS "_law_size_by" 682),(kS "_law_size_by" 683),(kS "/claim/cut.py" 684),(.int 239 0),(.int 2 0),(.int 0 0),(.int 0 0),(.int 3 0),(.ref 368),(.bool true),(.int 181 0),(.ref 369),.none,(.ref 370),(.ref 371),(.ref 372),(.int 688 0),(.int 239 0),(kS "/claim/cut.py" 689)],#[]⟩),
 (374,⟨(.type "function"),none,.func ⟨(Str.ofString "_law_size_by"),(Str.ofString "_law_size_by"),(kA (kF 25)),(.stmts (kB (kF 25))),(kC (kF 25)),3,[],.none,.none,.none,(kS "law_uf060003_10" 640),none,(.ref 373),.none,0⟩,#[]⟩),
 (375,⟨(.type "tuple"),none,.seq #[] 0,#[]⟩),
 (377,⟨(.type "tuple"),none,.seq #[(kS "_law_model" 694),(kS "_law_size" 695),(kS "_law_best" 696),(kS "_law_page" 697),(kS "_law_row" 698)] 0,#[]⟩),
 (378,⟨(.type "tuple"),none,.seq #[] 0,#[]⟩),
 (380,⟨(.type "code"),none,.fields #[(kS "_law_fullest" 691),(kS "_law_fullest" 692),(kS "/claim/cut.py" 693),(.int 244 0),(.int 2 0),(.int 0 0),(.int 0 0),(.int 3 0),(.ref 375),(.bool true),(.int 181 0),(.ref 376),.none,(.ref 377),(.ref 378),(.ref 379),(.int 699 0),(.int 244 0),(kS "/claim/cut.py" 700)],#[]⟩),
 (381,⟨(.type "function"),none,.func ⟨(Str.ofString "_law_fullest"),(Str.ofString "_law_fullest"),(kA (kF 26)),(.stmts (kB (kF 26))),(kC (kF 26)),3,[],.none,.none,.none,(kS "law_uf060003_10" 640),none,(.ref 380),.none,0⟩,#[]⟩),
 (382,⟨(.type "tuple"),none,.seq #[] 0,#[]⟩),
 (385,⟨(.type "code"),none,.fields #[(kS "_law_fresh" 702),(kS "_law_fresh" 703),(kS "/claim/cut.py" 704),(.int 252 0),(.int 2 0),(.int 0 0),(.int 0 0),(.int 3 0),(.ref 382),(.bool true),(.int 181 0),(.ref 383),.none,.none,.none,(.ref 384),(.int 705 0),(.int 252 0),(kS "/claim/cut.py" 706)],#[]⟩),
 (386,⟨(.type "function"),none,.func ⟨(Str.ofString "_law_fresh"),(Str.ofString "_law_fresh"),(kA (kF 27)),(.stmts (kB (kF 27))),(kC (kF 27)),3,[],.none,.none,.none,(kS "law_uf060003_10" 640),none,(.ref 385),.none,0⟩,#[]⟩),
 (387,⟨(.type "tuple"),none,.seq #[] 0,#[]⟩),
 (389,⟨(.type "tuple"),none,.seq #[(kS "_law_model" 711),(kS "_law_drawn" 712),(kS "_law_wish" 713),(kS "_law_size" 714),(kS "_law_page" 715),(kS "_law_slot" 716)] 0,#[]⟩),
 (390,⟨(.type "tuple"),none,.seq #[] 0,#[]⟩),
 (392,⟨(.type "code"),none,.fields #[(kS "_law_wished" 708),(kS "_law_wished" 709),(kS "/claim/cut.py" 710),(.int 261 0),(.int 3 0),(.int 0 0),(.int 0 0),(.int 3 0),(.ref 387),(.bool true),(.int 181 0),(.ref 388),.none,(.ref 389),(.ref 390),(.ref 391),(.int 717 0),(.int 261 0),(kS "/claim/cut.py" 718)],#[]⟩),
 (393,⟨(.type "function"),none,.func ⟨(Str.ofString "_law_wished"),(Str.ofString "_law_wished"),(kA (kF 28)),(.stmts (kB (kF 28))),(kC (kF 28)),3,[],.none,.none,.none,(kS "law_uf060003_10" 640),none,(.ref 392),.none,0⟩,#[]⟩),
 (394,⟨(.type "tuple"),none,.seq #[] 0,#[]⟩),
 (396,⟨(.type "tuple"),none,.seq #[(kS "_law_model" 723),(kS "_law_length" 724),(kS "_law_found" 725),(kS "_law_page" 726),(kS "_law_row" 727),(kS "_law_slot" 728)] 0,#[]⟩),
 (397,⟨(.type "tuple"),none,.seq #[] 0,#[]⟩),
 (399,⟨(.type "code"),none,.fields #[(kS "_law_places" 720),(kS "_law_places" 721),(kS "/claim/cut.py" 722),(.int 274 0),(.int 2 0),(.int 0 0),(.int 0 0),(.int 3 0),(.ref 394),(.bool true),(.int 181 0),(.ref 395),.none,(.ref 396),(.ref 397),(.ref 398),(.int 729 0),(.int 274 0),(kS "/claim/cut.py" 730)],#[]⟩),
 (400,⟨(.type "function"),none,.func ⟨(Str.ofString "_law_places"),(Str.ofString "_law_places"),(kA (kF 29)),(.stmts (kB (kF 29))),(kC (kF 29)),3,[],.none,.none,.none,(kS "law_uf060003_10" 640),none,(.ref 399),.none,0⟩,#[]⟩),
 (401,⟨(.type "tuple"),none,.seq #[] 0,#[]⟩),
 (404,⟨(.type "code"),none,.fields #[(kS "_law_given" 732),(kS "_law_given" 733),(kS "/claim/cut.py" 734),(.int 282 0),(.int 3 0),(.int 0 0),(.int 0 0),(.int 3 0),(.ref 401),(.bool true),(.int 181 0),(.ref 402),.none,.none,.none,(.ref 403),(.int 735 0),(.int 282 0),(kS "/claim/cut.py" 736)],#[]⟩),
 (405,⟨(.type "function"),none,.func ⟨(Str.ofString "_law_given"),(Str.ofString "_law_given"),(kA (kF 30)),(.stmts (kB (kF 30))),(kC (kF 30)),3,[],.none,.none,.none,(kS "law_uf060003_10" 640),none,(.ref 404),.none,0⟩,#[]⟩),
 (406,⟨(.type "tuple"),none,.seq #[] 0,#[]⟩),
 (409,⟨(.type "code"),none,.fields #[(kS "_law_gathered_by" 738),(kS "_law_gathered_by" 739),(kS "/claim/cut.py" 740),(.int 289 0),(.int 3 0),(.int 0 0),(.int 0 0),(.int 3 0),(.ref 406),(.bool true),(.int 181 0),(.ref 407),.none,.none,.none,(.ref 408),(.int 741 0),(.int 289 0),(kS "/claim/cut.py" 742)],#[]⟩),
 (410,⟨(.type "function"),none,.func ⟨(Str.ofString "_law_gathered_by"),(Str.ofString "_law_gathered_by"),(kA (kF 31)),(.stmts (kB (kF 31))),(kC (kF 31)),3,[],.none,.none,.none,(kS "law_uf060003_10" 640),none,(.ref 409),.none,0⟩,#[]⟩),
 (411,⟨(.type "tuple"),none,.seq #[] 0,#[]⟩),
 (413,⟨(.type "tuple"),none,.seq #[(kS "_law_model" 747),(kS "_law_drawn" 748),(kS "_law_size" 749),(kS "_law_left_here" 750),(kS "_law_page" 751)] 0,#[]⟩),
 (414,⟨(.type "tuple"),none,.seq #[] 0,#[]⟩),
 (416,⟨(.type "code"),none,.fields #[(kS "_law_left" 744),(kS "_law_left" 745),(kS "/claim/cut.py" 746),(.int 305 0),(.int 3 0),(.int 0 0),(.int 0 0),(.int 3 0),(.ref 411),(.bool true),(.int 181 0),(.ref 412),.none,(.ref 413),(.ref 414),(.ref 415),(.int 752 0),(.int 305 0),(kS "/claim/cut.py" 753)],#[]⟩),
 (417,⟨(.type "function"),none,.func ⟨(Str.ofString "_law_left"),(Str.ofString "_law_left"),(kA (kF 32)),(.stmts (kB (kF 32))),(kC (kF 32)),3,[],.none,.none,.none,(kS "law_uf060003_10" 640),none,(.ref 416),.none,0⟩,#[]⟩),
 (418,⟨(.type "tuple"),none,.seq #[] 0,#[]⟩),
 (420,⟨(.type "tuple"),none,.seq #[(kS "_law_room" 758),(kS "_law_model" 759),(kS "_law_drawn" 760),(kS "_law_wish" 761),(kS "_law_size" 762),(kS "_law_found" 763)] 0,#[]⟩),
 (421,⟨(.type "tuple"),none,.seq #[] 0,#[]⟩),
 (423,⟨(.type "code"),none,.fields #[(kS "_law_told" 755),(kS "_law_told" 756),(kS "/claim/cut.py" 757),(.int 313 0),(.int 4 0),(.int 0 0),(.int 0 0),(.int 3 0),(.ref 418),(.bool true),(.int 181 0),(.ref 419),.none,(.ref 420),(.ref 421),(.ref 422),(.int 764 0),(.int 313 0),(kS "/claim/cut.py" 765)],#[]⟩),
 (424,⟨(.type "function"),none,.func ⟨(Str.ofString "_law_told"),(Str.ofString "_law_told"),(kA (kF 33)),(.stmts (kB (kF 33))),(kC (kF 33)),3,[],.none,.none,.none,(kS "law_uf060003_10" 640),none,(.ref 423),.none,0⟩,#[]⟩),
 (425,⟨(.type "tuple"),none,.seq #[] 0,#[]⟩),
 (427,⟨(.type "tuple"),none,.seq #[(kS "_law_room" 770),(kS "_law_wish" 771)] 0,#[]⟩),
 (428,⟨(.type "tuple"),none,.seq #[] 0,#[]⟩),
 (430,⟨(.type "code"),none,.fields #[(kS "_law_got" 767),(kS "_law_got" 768),(kS "/claim/cut.py" 769),(.int 320 0),(.int 2 0),(.int 0 0),(.int 0 0),(.int 3 0),(.ref 425),(.bool true),(.int 181 0),(.ref 426),.none,(.ref 427),(.ref 428),(.ref 429),(.int 772 0),(.int 320 0),(kS "/claim/cut.py" 773)],#[]⟩),
 (431,⟨(.type "function"),none,.func ⟨(Str.ofString "_law_got"),(Str.ofString "_law_got"),(kA (kF 34)),(.stmts (kB (kF 34))),(kC (kF 34)),3,[],.none,.none,.none,(kS "law_uf060003_10" 640),none,(.ref 430),.none,0⟩,#[]⟩),
 (432,⟨(.type "tuple"),none,.seq #[] 0,#[]⟩),
 (435,⟨(.type "code"),none,.fields #[(kS "_law_deed" 775),(kS "_law_deed" 776),(kS "/claim/cut.py" 777),(.int 327 0),(.int 5 0),(.int 0 0),(.int 0 0),(.int 3 0),(.ref 432),(.bool true),(.int 181 0),(.ref 433),.none,.none,.none,(.ref 434),(.int 778 0),(.int 327 0),(kS "/claim/cut.py" 779)],#[]⟩),
 (436,⟨(.type "function"),none,.func ⟨(Str.ofString "_law_deed"),(Str.ofString "_law_deed"),(kA (kF 35)),(.stmts (kB (kF 35))),(kC (kF 35)),3,[],.none,.none,.none,(kS "law_uf060003_10" 640),none,(.ref 435),.none,0⟩,#[]⟩),
 (437,⟨(.type "tuple"),none,.seq #[] 0,#[]⟩),
 (440,⟨(.type "code"),none,.fields #[(kS "_law_stands" 781),(kS "_law_stands" 782),(kS "/claim/cut.py" 783),(.int 360 0),(.int 4 0),(.int 0 0),(.int 0 0),(.int 3 0),(.ref 437),(.bool true),(.int 181 0),(.ref 438),.none,.none,.none,(.ref 439),(.int 784 0),(.int 360 0),(kS "/claim/cut.py" 785)],#[]⟩),
 (441,⟨(.type "function"),none,.func ⟨(Str.ofString "_law_stands"),(Str.ofString "_law_stands"),(kA (kF 36)),(.stmts (kB (kF 36))),(kC (kF 36)),3,[],.none,.none,.none,(kS "law_uf060003_10" 640),none,(.ref 440),.none,0⟩,#[]⟩),
 (442,⟨(.type "tuple"),none,.seq #[] 0,#[]⟩),
 (444,⟨(.type "tuple"),none,.seq #[(kS "_law_script" 790),(kS "_law_drawn" 791),(kS "_law_plan" 792),(kS "_law_rooms" 793),(kS "_law_models" 794),(kS "_law_kept" 795),(kS "_law_k" 796),(kS "_law_cell" 797),(kS "_law_which" 798),(kS "_law_room" 799),(kS "_law_model" 800)] 0,#[]⟩),
 (445,⟨(.type "tuple"),none,.seq #[] 0,#[]⟩),
 (447,⟨(.type "code"),none,.fields #[(kS "law" 787),(kS "law" 788),(kS "/claim/cut.py" 789),(.int 371 0),(.int 1 0),(.int 0 0),(.int 0 0),(.int 3 0),(.ref 442),(.bool true),(.int 181 0),(.ref 443),.none,(.ref 444),(.ref 445),(.ref 446),(.int 801 0),(.int 371 0),(kS "/claim/cut.py" 802)],#[]⟩),
 (448,⟨(.type "function"),none,.func ⟨(Str.ofString "law"),(Str.ofString "law"),(kA (kF 37)),(.stmts (kB (kF 37))),(kC (kF 37)),3,[],.none,.none,.none,(kS "law_uf060003_10" 640),none,(.ref 447),.none,0⟩,#[]⟩)]
noncomputable def lj:List (String×Addr):=[("Shelf",164),("Room",286),("Plan",335)]
noncomputable def Hn:List (String×Addr):=[("RoomError",24),("BadPlan",37),("BadWish",49),("TooLarge",61),("NoSize",73),("NoRoom",85),("NotOut",97),("OutOfThing",109)]
noncomputable def Gx (w:World) (hB:Heap) (os:OsState) (mg mb:Str→Option Value) (sa:Addr) (sv:List Value) (sn:List Int):Cx:={ prog:=PySem.Challenge.rw_uf060003_10.row.prog,w:=w,K:=K0 w.params,hB:=hB,os:=os,mg:=mg,mb:=mb,cls:=fun c=>lj.lookup c,xcl:=fun c=>Hn.lookup c,sa:=sa,sv:=sv,sn:=sn }
def xm (f:Addr) (G:Cx):Prop:= ∀(s₁:Shared) (R:Result→Shared→Prop),G.hB=s₁.heap→s₁.os=G.os→s₁.gens = #[] →
 (∀s',(∀b o,s₁.heap.get? b=some o→s'.heap.get? b=some o)→s'.os=s₁.os→s'.gens = #[]→R (.ok (.ret (.bool true))) s')→codeAny G.M callerA (.call (.ref f) ⟨[.ref G.sa],[]⟩) R s₁
structure Tp where
 w:World
 hB:Heap
 os:OsState
 mg:Str→Option Value
 mb:Str→Option Value
 sa:Addr
 sv:List Value
 sn:List Int
noncomputable def Tp.G (t:Tp):Cx:=Gx t.w t.hB t.os t.mg t.mb t.sa t.sv t.sn
def Tp.Bad (t:Tp):Prop:=bA t.G∧ ¬xm 448 t.G
noncomputable def tp:Tp:= @Classical.epsilon Tp ⟨⟨aWorld 0,default,default,fun _=>none,fun _=>none,0,[],[]⟩⟩ Tp.Bad
noncomputable def G:Cx:=tp.G
noncomputable abbrev sn:List Int:=G.sn
theorem td (h:bA G→xm 448 G) (t:Tp) (c:bA t.G):xm 448 t.G:=Classical.byContradiction fun n =>
 have b:= @Classical.epsilon_spec Tp Tp.Bad ⟨t,c,n⟩
 b.2 (h b.1)
mutual
noncomputable def aK (ι:List Addr) (h:Heap):V→Value→Prop
 | .none,cv=>cv= .none
 | .bool b,cv=>cv= .bool b
 | .int i,cv=> ∃t,cv= .int i t
 | .str x,cv=> ∃t,cv= .str (Str.ofString x) t
 | .ref i,cv=> ∃a,ι[i]? = some a∧cv= .ref a
 | .inst c i,cv=> ∃a x C o,ι[i]? = some a∧G.cls c=some C∧cv= .ref x∧h.get? x=some o∧o.cls= .ref C∧o.dict=some a∧o.data= .plain
 | .exc c,cv=> ∃x C o,G.xcl c=some C∧cv= .ref x∧h.get? x=some o∧o.cls= .ref C∧ ∃vs,o.data= .fields vs
 | .scr,cv=>cv= .ref G.sa
 | .tup xs,cv=> ∃a vs,cv= .ref a∧IsTup h a vs.toArray∧aN ι h xs vs
noncomputable def aN (ι:List Addr) (h:Heap):List V→List Value→Prop
 | [],vs=>vs=[]
 | x::xs,vs=> ∃v vs',vs=v::vs'∧aK ι h x v∧aN ι h xs vs'
end
noncomputable def kq (ι:List Addr) (h:Heap):List (Int×V)→List (Int×Value)→Prop
 | [],vs=>vs=[]
 | x::xs,vs=> ∃v vs',vs=(x.1,v)::vs'∧aK ι h x.2 v∧kq ι h xs vs'
noncomputable def rz (ι:List Addr) (h:Heap):List (String×V)→List DictEntry→Prop
 | [],es=>es=[]
 | x::xs,es=> ∃t v es',es=⟨PyData.keyHash G.w.params (Str.ofString x.1),.str (Str.ofString x.1) t,v⟩::es'∧aK ι h x.2 v∧rz ι h xs es'
noncomputable def pA (ι:List Addr) (h:Heap) (a:Addr):O→Prop
 | .list xs=> ∃vs:List Value,h.PlainList a vs.toArray∧aN ι h xs vs
 | .dict es=> ∃kvs,h.DictOf (intKind G.prog G.w) a kvs∧kq ι h es kvs
 | .flds fs=> ∃es n,h.get? a=some (dictOf es n)∧rz ι h fs es
structure eY (ι:List Addr) (H:Hp) (h:Heap):Prop where
 keep:G.hB.StaysIn h
 len:ι.length=H.length
 nodup:ι.Nodup
 fresh:∀a∈ι,G.hB.get? a=none
 obj:∀(i:Nat) (a:Addr) (o:O),ι[i]? = some a→H[i]? = some o→pA ι h a o
noncomputable def own (env:Env):List Addr:=env.locals::env.cells.map (·.2)
structure iz (env:Env) (l:aY) (ι:List Addr) (hv hl:Heap):Prop where
 kind:env.scope.kind= .function
 glob:env.globals=mainGlobals
 blt:env.builtins=builtinsNs
 loc:∃m,hl.Ns env.locals m∧ ∀x v,l x=some v→env.kindOf (Str.ofString x)=some .local→ ∃cv,m (Str.ofString x)=some cv∧aK ι hv v cv
 cel:∀x v,l x=some v→(env.kindOf (Str.ofString x)=some .cell∨env.kindOf (Str.ofString x)=some .free) →
  ∃c o cv,env.cells.lookup (Str.ofString x)=some c∧hv.get? c=some o∧o.data= .cell (some cv)∧aK ι hv v cv
 cells:∀p∈env.cells,∃o ov,hv.get? p.2=some o∧o.data= .cell ov
 ndup:(env.cells.map (·.2)).Nodup
 dis:∀a∈own env,a∉ι
 fresh:∀a∈own env,G.hB.get? a=none
def By (o:Obj):Prop:=(∃n,o.cls= .type n∧n ≠ "tuple")∨(∃es n,o.data= .dict es n)∨ ∃v,o.data= .cell v
def zN (h h':Heap):Prop:= ∀a o,h.get? a=some o→ ∃o',h'.get? a=some o'
theorem zN.refl (h:Heap):zN h h:=fun _ o e=>⟨o,e⟩
theorem zN.trans {h h' h'':Heap} (x:zN h h') (y:zN h' h''):zN h h'':=fun a o e=>let ⟨o',e'⟩:=x a o e;y a o' e'
theorem zN.of_stays {h h':Heap} (k:h.StaysIn h'):zN h h':=fun _ o e=>⟨o,k _ o e⟩
structure Kp (W fr:List Addr) (h h':Heap):Prop where
 size:zN h h'
 up:∀a o,h.get? a=some o→a∉W→ ∃sl,h'.get? a=some { o with slots:=sl }
 ex:∀a o,h.get? a=some o→a∉W→a∉fr→h'.get? a=some o
def oG (h h':Heap):Prop:= ∀a o,h.get? a=some o→ ¬By o→ ∃sl,h'.get? a=some { o with slots:=sl }
noncomputable def lX (A:Around):List Addr:=(A.frames.getD []).filterMap (·.frame)
theorem oG.refl (h:Heap):oG h h:=fun _ o e _=>⟨o.slots,e⟩
theorem oG.of_stays {h h':Heap} (k:h.StaysIn h'):oG h h':=fun _ o e _=>⟨o.slots,k _ o e⟩
section
variable {ι ι':List Addr} {h h':Heap}
theorem getElem?_prefix {α:Type} {l l':List α} (p:l<+:l') {i:Nat} {a:α} (e:l[i]? = some a):l'[i]? = some a:=by
 obtain ⟨t,rfl⟩:=p
 rw [List.getElem?_append_left (List.getElem?_eq_some_iff.mp e).1];exact e
theorem xL {o:Obj} {C:Value} (e:o.cls=C) (h1:∀n,C= .type n→n = "tuple") (h2:(∀es n,o.data≠ .dict es n)∧ ∀v,o.data≠ .cell v):¬By o:=fun m =>
 m.elim (fun ⟨n,q,q2⟩=>q2 (h1 n (e.symm.trans q))) fun m=>m.elim (fun ⟨es,n,q⟩=>h2.1 es n q) fun ⟨v,q⟩=>h2.2 v q
mutual
theorem aK.mono (p:ι<+:ι') (k:oG h h'):∀ {v:V} {cv:Value},aK ι h v cv→aK ι' h' v cv
 | .none,_,x=>x
 | .bool _,_,x=>x
 | .int _,_,x=>x
 | .str _,_,x=>x
 | .scr,_,x=>x
 | .ref _,_,x=>by obtain ⟨a,e,q⟩:=x;exact ⟨a,getElem?_prefix p e,q⟩
 | .inst _ _,_,x=>by
  obtain ⟨a,x,C,o,e,hc,q,ho,oc,od,oda⟩:=x
  obtain ⟨sl,hs⟩:=k x o ho (xL oc (fun _ h=>(nomatch h)) ⟨fun _ _ h=>(nomatch oda.symm.trans h),fun _ h=>(nomatch oda.symm.trans h)⟩)
  exact ⟨a,x,C,_,getElem?_prefix p e,hc,q,hs,oc,od,oda⟩
 | .exc _,_,x=>by
  obtain ⟨x,C,o,hc,q,ho,oc,vs,od⟩:=x
  obtain ⟨sl,hs⟩:=k x o ho (xL oc (fun _ h=>(nomatch h)) ⟨fun _ _ h=>(nomatch od.symm.trans h),fun _ h=>(nomatch od.symm.trans h)⟩)
  exact ⟨x,C,_,hc,q,hs,oc,vs,od⟩
 | .tup _,_,x=>by
  obtain ⟨a,vs,q,⟨o,ho,oc,n,od⟩,hs⟩:=x
  obtain ⟨sl,h2⟩:=k a o ho (xL oc (fun _ h=>(Value.type.inj h).symm) ⟨fun _ _ h=>(nomatch od.symm.trans h),fun _ h=>(nomatch od.symm.trans h)⟩)
  exact ⟨a,vs,q,⟨_,h2,oc,n,od⟩,aN.mono p k hs⟩
theorem aN.mono (p:ι<+:ι') (k:oG h h'):∀ {vs:List V} {cvs:List Value},aN ι h vs cvs→aN ι' h' vs cvs
 | [],_,x=>x
 | _::_,_,x=>by obtain ⟨v,vs',q,a,b⟩:=x;exact ⟨v,vs',q,aK.mono p k a,aN.mono p k b⟩
end
theorem DS:aK ι h .none .none:=rfl
theorem xd (b:Bool):aK ι h (.bool b) (.bool b):=rfl
theorem vF (i:Int) (t:Tok):aK ι h (.int i) (.int i t):=⟨t,rfl⟩
theorem vG:aN ι h [] []:=rfl
theorem nS {v:V} {cv:Value} {vs:List V} {cvs:List Value} (a:aK ι h v cv) (b:aN ι h vs cvs):aN ι h (v::vs) (cv::cvs):=⟨cv,cvs,rfl,a,b⟩
theorem kq.mono (p:ι<+:ι') (k:oG h h'):∀ {vs:List (Int×V)} {cvs:List (Int×Value)},kq ι h vs cvs→kq ι' h' vs cvs
 | [],_,x=>x
 | _::_,_,z2=>by obtain ⟨v,vs',q,a,b⟩:=z2;exact ⟨v,vs',q,a.mono p k,kq.mono p k b⟩
theorem rz.mono (p:ι<+:ι') (k:oG h h'):∀ {vs:List (String×V)} {cvs:List DictEntry},rz ι h vs cvs→rz ι' h' vs cvs
 | [],_,x=>x
 | _::_,_,z2=>by obtain ⟨t,v,vs',q,a,b⟩:=z2;exact ⟨t,v,vs',q,a.mono p k,rz.mono p k b⟩
theorem aN.length:∀ {vs:List V} {cvs:List Value},aN ι h vs cvs→cvs.length=vs.length
 | [],_,x=>by rw [show _=_ from x];rfl
 | _::_,_,z2=>by obtain ⟨_,_,q,_,b⟩:=z2;rw [q,List.length_cons,List.length_cons,aN.length b]
theorem aN.get:∀ {vs:List V} {cvs:List Value},aN ι h vs cvs→ ∀ {i:Nat} {v:V},vs[i]? = some v→ ∃cv,cvs[i]? = some cv∧aK ι h v cv
 | [],_,_,_,_,e=>by simp at e
 | x::xs,_,z2,i,w,e=>by
  obtain ⟨v,vs',q,a,b⟩:=z2
  subst q
  cases i with
  | zero=>simp at e;subst e;exact ⟨v,rfl,a⟩
  | succ i=>simpa using aN.get b (by simpa using e)
theorem aN.append:∀ {vs:List V} {cvs:List Value},aN ι h vs cvs→ ∀ {ws:List V} {cws:List Value},aN ι h ws cws→aN ι h (vs++ws) (cvs++cws)
 | [],_,x,_,_,y=>by rw [show _=[] from x];exact y
 | _::_,_,z2,_,_,y=>by obtain ⟨v,vs',q,a,b⟩:=z2;subst q;exact ⟨v,_,rfl,a,aN.append b y⟩
theorem aN.set:∀ {vs:List V} {cvs:List Value},aN ι h vs cvs→ ∀(i:Nat) {w:V} {cw:Value},aK ι h w cw→aN ι h (vs.set i w) (cvs.set i cw)
 | [],_,x,_,_,_,_=>by rw [show _=[] from x];rfl
 | _::_,_,z2,0,_,_,y=>by obtain ⟨v,vs',q,a,b⟩:=z2;subst q;exact ⟨_,_,rfl,y,b⟩
 | _::_,_,z2,i+1,_,_,y=>by obtain ⟨v,vs',q,a,b⟩:=z2;subst q;exact ⟨_,_,rfl,a,aN.set b i y⟩
theorem aN.take:∀ {vs:List V} {cvs:List Value},aN ι h vs cvs→ ∀(n:Nat),aN ι h (vs.take n) (cvs.take n)
 | [],_,x,n=>by rw [show _=[] from x];simp [aN]
 | _::_,_,z2,0=>by obtain ⟨v,vs',q,a,b⟩:=z2;simp [aN]
 | _::_,_,z2,n+1=>by obtain ⟨v,vs',q,a,b⟩:=z2;subst q;exact ⟨_,_,rfl,a,aN.take b n⟩
theorem aN.drop:∀ {vs:List V} {cvs:List Value},aN ι h vs cvs→ ∀(n:Nat),aN ι h (vs.drop n) (cvs.drop n)
 | [],_,x,n=>by rw [show _=[] from x];simp [aN]
 | _::_,_,z2,0=>by obtain ⟨v,vs',q,a,b⟩:=z2;exact ⟨v,vs',q,a,b⟩
 | _::_,_,z2,n+1=>by obtain ⟨v,vs',q,a,b⟩:=z2;subst q;exact aN.drop b n
end
def pz (fs:List Env) (ι:List Addr) (h:Heap):Prop :=
 ∀env∈fs,env.scope.kind≠ .module∧ ∃L o,env.frame=some L∧h.get? L=some o∧(∃es n,o.data= .dict es n)∧L∉ι∧G.hB.get? L=none
structure ROk (hq:Bool) (k:Nat) (A:Around):Prop where
 hd:hq=true→A.handled=none
 depth:A.depth+3*k≤800
 units:A.units+50*k≤9000
structure jD (hq:Bool) (k:Nat) (A:Around) (env:Env):Prop extends ROk hq k A where
 fr:∃fenv rest,A.frames=some (fenv::rest)∧fenv.frame=env.frame∧fenv.scope.isGenerator=false∧fenv.scope.isCoroutine=false∧fenv.builtins=builtinsNs∧fenv.globals=mainGlobals
structure cC (A:Around) (env:Env) (ι:List Addr) (q:S) (s:Shared):Prop where
 st:eY ι q.H s.heap
 fr:iz env q.l ι s.heap s.heap
 fs:pz (A.frames.getD []) ι s.heap
 gens:s.gens = #[]
 os:s.os=G.os
structure aU (A:Around) (env:Env) (ι:List Addr) (s:Shared) (ι':List Addr) (q':S) (s':Shared):Prop where
 pre:ι<+:ι'
 rel:cC A env ι' q' s'
 kp:Kp (own env++ι) (lX A) s.heap s'.heap
 new:∀a∈ι',a∈ι∨s.heap.get? a=none
def Cs (B:Heap) (fs:List Env) (L e:Addr) (C:Value) (h:Heap):Prop :=
 B.StaysIn h∧B.get? e=none∧h.FunFrames B fs∧ ∃oe vs a0,h.get? e=some oe∧oe.cls=C∧oe.data= .fields vs∧vs[0]? = some a0 ∧
  (vs[1]? = some .none∨ ∃T oT ts fl,vs[1]? = some (.ref T)∧B.get? T=none∧T≠e∧h.get? T=some oT∧oT.data= .fields ts∧ts[3]? = some fl∧(fl= .none∨fl=rawInt L))
inductive HA (fs:List Env) (fa:List Addr) (env:Env) (ι:List Addr) (h:Heap) (c:String) (ι':List Addr) (q':S) (h':Heap) (ev:Value) (e C:Addr) (B:Heap) (L:Addr):Prop
 | mk (z0:ev= .ref e) (z1:G.xcl c=some C) (z2:env.frame=some L) (z3:Cs B fs L e (.ref C) h') (z4:eY ι' q'.H B) (z5:iz env q'.l ι' B h') (z6:pz fs ι' h') (z7:∀a o,h.get? a=some o→a∉own env++ι→a∉fa→B.get? a=some o)
structure dE (A:Around) (env:Env) (ι:List Addr) (s:Shared) (c:String) (ι':List Addr) (q':S) (s':Shared) (ev:Value):Prop where
 pre:ι<+:ι'
 ex:∃e C B L,HA (A.frames.getD []) (lX A) env ι s.heap c ι' q' s'.heap ev e C B L
 size:zN s.heap s'.heap
 up:∀a o,s.heap.get? a=some o→a∉own env++ι→ ∃sl,s'.heap.get? a=some { o with slots:=sl }
 new:∀a∈ι',a∈ι∨s.heap.get? a=none
 gens:s'.gens = #[]
 os:s'.os=G.os
abbrev PT (β:Type):=(β→Shared→Prop)→(Value→Shared→Prop)→Shared→Prop
abbrev kZ {β:Type} (A:Around) (t:Sem β):PT β:=fun Q E s=>wpAny G.M A t Q E s
def aQ (A:Around) (env:Env) (ι:List Addr) (s:Shared) {α β:Type} (r:vM S α) (REL:List Addr→Heap→α→β→Prop) (T:PT β):Prop :=
 match r with
 | .ok a q'=> ∀Q E,(∀ι' b s',aU A env ι s ι' q' s'→REL ι' s'.heap a b→Q b s')→T Q E s
 | .exc c q'=> ∀Q E,(∀ι' ev s',dE A env ι s c ι' q' s' ev→E ev s')→T Q E s
 | .stuck=>True
def Fin (A:Around) (env:Env) (ι:List Addr) (s:Shared) {α β:Type} (r:vM S α) (REL:List Addr→Heap→α→β→Prop) (Q:β→Shared→Prop) (E:Value→Shared→Prop):Prop :=
 match r with
 | .ok a q''=> ∀ι'' b s'',aU A env ι s ι'' q'' s''→REL ι'' s''.heap a b→Q b s''
 | .exc c q''=> ∀ι'' ev s'',dE A env ι s c ι'' q'' s'' ev→E ev s''
 | .stuck=>False
def Sem.Is (hq:Bool) (k:Nat) (env:Env) {α β:Type} (T:Around→PT β) (m:Cm α) (REL:List Addr→Heap→α→β→Prop):Prop :=
 ∀A ι q s,jD hq k A env→cC A env ι q s→aQ A env ι s (m q) REL (T A)
abbrev Ev (hq:Bool) (k:Nat) (env:Env) (e:Expr) (m:Cm V):Prop:=Sem.Is hq k env (fun A=>kZ A (eval e env)) m (aK)
abbrev Tr (hq:Bool) (k:Nat) (env:Env) (e:Expr) (m:Cm Bool):Prop:=Sem.Is hq k env (fun A=>kZ A (isTrue e env (eval e env))) m (fun _ _ a b=>a=b)
noncomputable def ud (ι:List Addr) (h:Heap):Fl→Flow→Prop
 | .next,f=>f= .next
 | .ret v,f=> ∃cv,f= .ret cv∧aK ι h v cv
abbrev Ex (hq:Bool) (k:Nat) (env:Env) (st:Stmt) (m:Cm Fl):Prop:=Sem.Is hq k env (fun A=>kZ A (exec st env)) m (ud)
abbrev Cr (hq:Bool) (k:Nat) (env:Env) (st:List Stmt) (m:Cm Fl):Prop:=Sem.Is hq k env (fun A=>kZ A (execs st env)) m (ud)
section
variable {A:Around} {env:Env} {ι ι' ι'':List Addr} {q q' q'':S} {s s' s'':Shared} {α β γ:Type}
theorem Kp.refl (W fr:List Addr) (h:Heap):Kp W fr h h:=⟨zN.refl _,fun _ o e _=>⟨o.slots,e⟩,fun _ _ e _ _=>e⟩
theorem Kp.of_stays {W fr:List Addr} {h h':Heap} (k:h.StaysIn h'):Kp W fr h h':=⟨zN.of_stays k,fun _ o e _=>⟨o.slots,k _ o e⟩,fun _ _ e _ _=>k _ _ e⟩
theorem rS {a:Addr} {h h':Heap} (n1:∀a∈ι',a∈ι∨h.get? a=none) (sz:zN h h') (n2:∀a∈ι'',a∈ι'∨h'.get? a=none) (ha:a∈ι''):a∈ι∨h.get? a=none :=
 (n2 a ha).elim (n1 a) fun x=> .inr (by
  cases e:h.get? a with
  | none=>rfl
  | some o=>obtain ⟨o',e'⟩:=sz a o e;rw [x] at e';cases e')
theorem A9 {W:List Addr} {a:Addr} {o:Obj} {h:Heap} (n1:∀a∈ι',a∈ι∨h.get? a=none) (e:h.get? a=some o) (hW:a∉W++ι):a∉W++ι':=fun hm =>
 (List.mem_append.mp hm).elim (fun x=>hW (List.mem_append_left _ x)) fun x=>(n1 a x).elim (fun y=>hW (List.mem_append_right _ y)) fun y=>by rw [y] at e;cases e
theorem Kp.trans {W fr:List Addr} {h h' h'':Heap} (n1:∀a∈ι',a∈ι∨h.get? a=none) (x:Kp (W++ι) fr h h') (y:Kp (W++ι') fr h' h''):Kp (W++ι) fr h h'' where
 size:=x.size.trans y.size
 up:=fun a o e hW=>by
  obtain ⟨sl,e1⟩:=x.up a o e hW
  obtain ⟨sl2,e2⟩:=y.up a _ e1 (A9 n1 e hW)
  exact ⟨sl2,e2⟩
 ex:=fun a o e hW hf=>y.ex a o (x.ex a o e hW hf) (A9 n1 e hW) hf
theorem aU.trans (x:aU A env ι s ι' q' s') (y:aU A env ι' s' ι'' q'' s''):aU A env ι s ι'' q'' s'' where
 pre:=x.pre.trans y.pre
 rel:=y.rel
 kp:=x.kp.trans x.new y.kp
 new:=fun _ ha=>rS x.new x.kp.size y.new ha
theorem aU.transX {c:String} {ev:Value} (x:aU A env ι s ι' q' s') (y:dE A env ι' s' c ι'' q'' s'' ev):dE A env ι s c ι'' q'' s'' ev where
 pre:=x.pre.trans y.pre
 ex:=by
  obtain ⟨e,C,B,L,h1,h2,h3,h4,h5,h6,h7,h8⟩:=y.ex
  exact ⟨e,C,B,L,h1,h2,h3,h4,h5,h6,h7,fun a o e hW hf=>h8 a o (x.kp.ex a o e hW hf) (A9 x.new e hW) hf⟩
 size:=x.kp.size.trans y.size
 up:=fun a o e hW=>by
  obtain ⟨sl,e1⟩:=x.kp.up a o e hW
  obtain ⟨sl2,e2⟩:=y.up a _ e1 (A9 x.new e hW)
  exact ⟨sl2,e2⟩
 new:=fun _ ha=>rS x.new x.kp.size y.new ha
 gens:=y.gens
 os:=y.os
theorem eY.mut (x:eY ι q.H s.heap) {a:Addr} (ha:a∈ι):∃o,s.heap.get? a=some o∧By o:=by
 obtain ⟨i,hi,rfl⟩:=List.mem_iff_getElem.mp ha
 have hi':i<q.H.length:=x.len▸hi
 have:=x.obj i ι[i] q.H[i] (by simp) (by simp)
 cases ho:q.H[i] with
 | list xs=>rw [ho] at this;obtain ⟨vs,⟨n,e⟩,_⟩:=this;exact ⟨_,e,.inl ⟨"list",rfl,by decide⟩⟩
 | dict es=>rw [ho] at this;obtain ⟨kvs,⟨o,es',ep,e,_,hd,_⟩,_⟩:=this;exact ⟨o,e,.inr (.inl ⟨es',ep,hd⟩)⟩
 | flds fs=>rw [ho] at this;obtain ⟨es,n,e,_⟩:=this;exact ⟨_,e,.inr (.inl ⟨_,_,rfl⟩)⟩
theorem iz.mut {l:aY} {hv hl:Heap} (k:∀b o,hv.get? b=some o→hl.get? b=some o) (x:iz env l ι hv hl) {a:Addr} (ha:a∈own env):∃o,hl.get? a=some o∧By o:=by
 rcases List.mem_cons.mp ha with rfl | ha
 ·obtain ⟨m,⟨o,es,ep,ho,hd,_⟩,_⟩:=x.loc
  exact ⟨o,ho,.inr (.inl ⟨es,ep,hd⟩)⟩
 ·obtain ⟨p,hp,rfl⟩:=List.mem_map.mp ha
  obtain ⟨o,ov,ho,hd⟩:=x.cells p hp
  exact ⟨o,k _ _ ho,.inr (.inr ⟨ov,hd⟩)⟩
theorem cC.imm' (R:cC A env ι q s) {h':Heap} (up:∀a o,s.heap.get? a=some o→a∉own env++ι→ ∃sl,h'.get? a=some { o with slots:=sl }):oG s.heap h':=fun a o e hm=>up a o e fun hW=>by
 rcases List.mem_append.mp hW with h | h
 ·obtain ⟨o',e',hm'⟩:=R.fr.mut (fun _ _ e=>e) h
  rw [e] at e';cases e';exact hm hm'
 ·obtain ⟨o',e',hm'⟩:=R.st.mut h
  rw [e] at e';cases e';exact hm hm'
theorem cC.imm (R:cC A env ι q s) {fr:List Addr} {h':Heap} (k:Kp (own env++ι) fr s.heap h'):oG s.heap h':=R.imm' k.up
theorem aU.vrel {v:V} {cv:Value} (R:cC A env ι q s) (P:aU A env ι s ι' q' s') (x:aK ι s.heap v cv):aK ι' s'.heap v cv:=x.mono P.pre (R.imm P.kp)
theorem aQ.mono {r:vM S α} {REL:List Addr→Heap→α→β→Prop} {T:PT β} (P:aU A env ι s ι' q' s') (h:aQ A env ι' s' r REL T) {Q:β→Shared→Prop} {E:Value→Shared→Prop}
  (hQ:Fin A env ι s r REL Q E):T Q E s':=by
 cases r with
 | ok a q''=>exact h Q E fun ι'' b s'' x y=>hQ ι'' b s'' (P.trans x) y
 | exc c q''=>exact h Q E fun ι'' ev s'' x=>hQ ι'' ev s'' (P.transX x)
 | stuck=>exact hQ.elim
theorem aQ.imp {r:vM S α} {REL:List Addr→Heap→α→β→Prop} {T T':PT β} (h:aQ A env ι s r REL T) (k:∀Q E,T Q E s→T' Q E s):aQ A env ι s r REL T':=by
 cases r with
 | ok a q'=>exact fun Q E x=>k _ _ (h Q E x)
 | exc c q'=>exact fun Q E x=>k _ _ (h Q E x)
 | stuck=>trivial
theorem aQ.b {m:Cm α} {f:α→Cm γ} {β':Type} {REL:List Addr→Heap→α→β→Prop} {REL':List Addr→Heap→γ→β'→Prop} {T:PT β} {T':β→PT β'}
  (h:aQ A env ι s (m q) REL T)
  (k:∀a q' ι' b s',m q= .ok a q'→aU A env ι s ι' q' s'→REL ι' s'.heap a b→aQ A env ι' s' (f a q') REL' (T' b)) :
  aQ A env ι s ((m.b f) q) REL' (fun Q E s=>T (fun b s₁=>T' b Q E s₁) E s):=by
 unfold Cm.b
 cases hm:m q with
 | stuck=>trivial
 | exc c q' =>
  rw [hm] at h
  exact fun Q E x=>h _ E x
 | ok a q' =>
  rw [hm] at h
  dsimp only
  have k':=k a q'
  cases hf:f a q' with
  | stuck=>trivial
  | ok c q'' =>
   intro Q E x
   refine h _ E fun ι' b s' P R=> ?_
   have:=k' ι' b s' hm P R
   rw [hf] at this
   exact this Q E fun ι'' b' s'' P' R'=>x ι'' b' s'' (P.trans P') R'
  | exc c q'' =>
   intro Q E x
   refine h _ E fun ι' b s' P R=> ?_
   have:=k' ι' b s' hm P R
   rw [hf] at this
   exact this Q E fun ι'' ev s'' P'=>x ι'' ev s'' (P.transX P')
theorem dP {m:Cm α} {f:α→Cm β} {a:α} (e:m q= .ok a q'):(m.b f) q=f a q':=by unfold Cm.b;rw [e]
theorem bk {m:Cm α} {f:α→Cm β} (e:m q= .stuck):(m.b f) q= .stuck:=by unfold Cm.b;rw [e]
theorem fu {m:Cm α} {f:α→Cm β} {c:String} (e:m q= .exc c q'):(m.b f) q= .exc c q':=by unfold Cm.b;rw [e]
theorem Sem.Is.b {hq:Bool} {k:Nat} {m:Cm α} {f:α→Cm γ} {β':Type} {REL:List Addr→Heap→α→β→Prop} {REL':List Addr→Heap→γ→β'→Prop} {T:Around→PT β} {T':Around→β→PT β'} {T'':Around→PT β'}
  (h:Sem.Is hq k env T m REL)
  (hk:∀A a q ι b s,jD hq k A env→cC A env ι q s→REL ι s.heap a b→aQ A env ι s (f a q) REL' (T' A b))
  (hT:∀A Q E s,T A (fun b s₁=>T' A b Q E s₁) E s→T'' A Q E s):Sem.Is hq k env T'' (m.b f) REL' :=
 fun A ι q s ha hr=>(aQ.b (T':=T' A) (h A ι q s ha hr) fun a q' ι' b s' _ P R=>hk A a q' ι' b s' ha P.rel R).imp fun Q E x=>hT A Q E s x
theorem Sem.Is.imp {hq:Bool} {k:Nat} {m:Cm α} {REL:List Addr→Heap→α→β→Prop} {T T':Around→PT β} (h:Sem.Is hq k env T m REL) (hT:∀A Q E s,T A Q E s→T' A Q E s):Sem.Is hq k env T' m REL :=
 fun A ι q s ha hr=>(h A ι q s ha hr).imp fun Q E x=>hT A Q E s x
theorem BT {l:List Addr} (hn:l.Nodup) {i j:Nat} {a:Addr} (hi:l[i]? = some a) (hj:l[j]? = some a):i=j:=by
 obtain ⟨h1,e1⟩:=List.getElem?_eq_some_iff.mp hi
 obtain ⟨h2,e2⟩:=List.getElem?_eq_some_iff.mp hj
 have:=List.pairwise_iff_getElem.mp hn
 rcases Nat.lt_trichotomy i j with h | h | h
 ·exact absurd (e1.trans e2.symm) (this i j h1 h2 h)
 ·exact h
 ·exact absurd (e2.trans e1.symm) (this j i h2 h1 h)
theorem pA.there {h:Heap} {a:Addr} {o:O} (x:pA ι h a o):∃o',h.get? a=some o':=by
 cases o with
 | list xs=>obtain ⟨vs,⟨n,e⟩,r⟩:=x;exact ⟨_,e⟩
 | dict es=>obtain ⟨kvs,⟨o,es',ep,e,d⟩,r⟩:=x;exact ⟨_,e⟩
 | flds fs=>obtain ⟨es,n,e,r⟩:=x;exact ⟨_,e⟩
theorem pA.stays {h h':Heap} {a:Addr} {o:O} (p:ι<+:ι') (k:h.StaysIn h') (x:pA ι h a o):pA ι' h' a o:=by
 have im:=oG.of_stays k
 cases o with
 | list xs=>obtain ⟨vs,⟨n,e⟩,r⟩:=x;exact ⟨vs,⟨n,k _ _ e⟩,r.mono p im⟩
 | dict es=>obtain ⟨kvs,d,r⟩:=x;exact ⟨kvs,d.keep k,r.mono p im⟩
 | flds fs=>obtain ⟨es,n,e,r⟩:=x;exact ⟨es,n,k _ _ e,r.mono p im⟩
theorem pA.at {h h':Heap} {a:Addr} {o:O} (p:ι<+:ι') (im:oG h h') (k:∀o,h.get? a=some o→h'.get? a=some o) (x:pA ι h a o):pA ι' h' a o:=by
 cases o with
 | list xs=>obtain ⟨vs,⟨n,e⟩,r⟩:=x;exact ⟨vs,⟨n,k _ e⟩,r.mono p im⟩
 | dict es=>obtain ⟨kvs,⟨o,es',ep,e,d⟩,r⟩:=x;exact ⟨kvs,⟨o,es',ep,k _ e,d⟩,r.mono p im⟩
 | flds fs=>obtain ⟨es,n,e,r⟩:=x;exact ⟨es,n,k _ e,r.mono p im⟩
theorem eY.stays {H:Hp} {h h':Heap} (x:eY ι H h) (k:h.StaysIn h'):eY ι H h' where
 keep:=fun b o e=>k b o (x.keep b o e)
 len:=x.len
 nodup:=x.nodup
 fresh:=x.fresh
 obj:=fun i a o e1 e2=>(x.obj i a o e1 e2).stays (List.prefix_refl _) k
theorem iz.stays {l:aY} {hv hl hv' hl':Heap} (x:iz env l ι hv hl) (k:hv.StaysIn hv') (k':hl.StaysIn hl'):iz env l ι hv' hl' where
 kind:=x.kind
 glob:=x.glob
 blt:=x.blt
 loc:=let ⟨m,hn,hm⟩:=x.loc;⟨m,hn.keeps k',fun y v e e2=>let ⟨cv,a,b⟩:=hm y v e e2;⟨cv,a,b.mono (List.prefix_refl _) (.of_stays k)⟩⟩
 cel:=fun y v e e2=>let ⟨c,o,cv,a,b,d,f⟩:=x.cel y v e e2;⟨c,o,cv,a,k _ _ b,d,f.mono (List.prefix_refl _) (.of_stays k)⟩
 cells:=fun p hp=>let ⟨o,ov,a,b⟩:=x.cells p hp;⟨o,ov,k _ _ a,b⟩
 ndup:=x.ndup
 dis:=x.dis
 fresh:=x.fresh
theorem pz.stays {fs:List Env} {h h':Heap} (x:pz fs ι h) (k:h.StaysIn h'):pz fs ι h':=fun env he =>
 let ⟨a,L,o,b,c,d⟩:=x env he;⟨a,L,o,b,k _ _ c,d⟩
theorem cC.stays (R:cC A env ι q s) {h':Heap} {tk:Nat} (k:s.heap.StaysIn h'):cC A env ι q { s with heap:=h',toks:=tk } where
 st:=R.st.stays k
 fr:=R.fr.stays k k
 fs:=R.fs.stays k
 gens:=R.gens
 os:=R.os
theorem aU.stays (R:cC A env ι q s) {h':Heap} {tk:Nat} (k:s.heap.StaysIn h'):aU A env ι s ι q { s with heap:=h',toks:=tk } where
 pre:=List.prefix_refl _
 rel:=R.stays k
 kp:= .of_stays k
 new:=fun _ ha=> .inl ha
theorem aU.refl (R:cC A env ι q s):aU A env ι s ι q s where
 pre:=List.prefix_refl _
 rel:=R
 kp:= .refl _ _ _
 new:=fun _ ha=> .inl ha
theorem aU.toks (R:cC A env ι q s) (tk:Nat):aU A env ι s ι q { s with toks:=tk }:=aU.stays (h':=s.heap) R fun _ _ e=>e
theorem aQ.ret {a:α} {b:β} {REL:List Addr→Heap→α→β→Prop} {T:PT β} {tk:Nat} (R:cC A env ι q s) (hR:REL ι s.heap a b) (hT:∀Q E,Q b { s with toks:=tk }→T Q E s) :
  aQ A env ι s (.ok a q) REL T:=fun _ _ x=>hT _ _ (x ι b _ (aU.toks R tk) hR)
theorem aQ.ret0 {a:α} {b:β} {REL:List Addr→Heap→α→β→Prop} {T:PT β} (R:cC A env ι q s) (hR:REL ι s.heap a b) (hT:∀Q E,Q b s→T Q E s) :
  aQ A env ι s (.ok a q) REL T:=fun _ _ x=>hT _ _ (x ι b _ (aU.refl R) hR)
theorem aQ.grew {a:α} {b:β} {REL:List Addr→Heap→α→β→Prop} {T:PT β} {h':Heap} {tk:Nat} (R:cC A env ι q s) (k:s.heap.StaysIn h') (hR:REL ι h' a b)
  (hT:∀Q E,Q b { s with heap:=h',toks:=tk }→T Q E s):aQ A env ι s (.ok a q) REL T:=fun _ _ x=>hT _ _ (x ι b _ (aU.stays R k) hR)
theorem cC.fresh_ne (R:cC A env ι q s) {a:Addr} (ha:s.heap.get? a=none):A3 (a∉ι) (a∉own env) (G.hB.get? a=none):=by
 refine ⟨fun h=> ?_,fun h=> ?_,?_⟩
 ·obtain ⟨o,e,_⟩:=R.st.mut h;rw [ha] at e;cases e
 ·obtain ⟨o,e,_⟩:=R.fr.mut (fun _ _ e=>e) h;rw [ha] at e;cases e
 ·cases e:G.hB.get? a with
  | none=>rfl
  | some o=>have:=R.st.keep _ _ e;rw [ha] at this;cases this
theorem aU.alloc (R:cC A env ι q s) {h':Heap} {tk:Nat} {a:Addr} {o:O} (k:s.heap.StaysIn h') (ha:s.heap.get? a=none) (ho:pA (ι++[a]) h' a o) :
  aU A env ι s (ι++[a]) { q with H:=q.H++[o] } { s with heap:=h',toks:=tk }:=by
 have pre:ι<+:ι++[a]:=List.prefix_append _ _
 have im:=oG.of_stays k
 obtain ⟨n1,n2,n3⟩:=R.fresh_ne ha
 have R':=R.stays (tk:=tk) k
 refine ⟨pre,⟨⟨R'.st.keep,by simp [R.st.len],?_,?_,?_⟩,⟨R'.fr.kind,R'.fr.glob,R'.fr.blt,?_,?_,R'.fr.cells,R'.fr.ndup,?_,R'.fr.fresh⟩,?_,R.gens,R.os⟩,(.of_stays k),?_⟩
 ·exact List.nodup_append.mpr ⟨R.st.nodup,by simp,fun x hx y hy=>by simp at hy;subst hy;exact fun e=>n1 (e▸hx)⟩
 ·intro x hx
  rcases List.mem_append.mp hx with h | h
  ·exact R.st.fresh x h
  ·simp at h;subst h;exact n3
 ·intro i x y e1 e2
  by_cases hi:i<ι.length
  ·rw [List.getElem?_append_left hi] at e1
   rw [List.getElem?_append_left (R.st.len▸hi)] at e2
   exact (R.st.obj i x y e1 e2).stays pre k
  ·have hi':i=ι.length:=by
    have:=(List.getElem?_eq_some_iff.mp e1).1
    simp at this;exact Nat.le_antisymm (b0 0x100191c0111 this) (b0 0x1010511 hi)
   subst hi'
   simp at e1;subst e1
   rw [R.st.len] at e2;simp at e2;subst e2
   exact ho
 ·obtain ⟨m,hn,hm⟩:=R.fr.loc
  exact ⟨m,hn.keeps k,fun y v e e2=>let ⟨cv,a,b⟩:=hm y v e e2;⟨cv,a,b.mono pre im⟩⟩
 ·exact fun y v e e2=>let ⟨c,o,cv,a,b,d,f⟩:=R.fr.cel y v e e2;⟨c,o,cv,a,k _ _ b,d,f.mono pre im⟩
 ·intro x hx hm
  rcases List.mem_append.mp hm with h | h
  ·exact R.fr.dis x hx h
  ·simp at h;subst h;exact n2 hx
 ·intro env' he
  obtain ⟨b1,L,o',b2,b3,b4,b5,b6⟩:=R.fs env' he
  refine ⟨b1,L,o',b2,k _ _ b3,b4,fun hm=> ?_,b6⟩
  rcases List.mem_append.mp hm with h | h
  ·exact b5 h
  ·simp at h;subst h;rw [ha] at b3;cases b3
 ·intro x hx
  rcases List.mem_append.mp hx with h | h
  ·exact .inl h
  ·simp at h;subst h;exact .inr ha
theorem aQ.alloc {b:β} {v:α} {REL:List Addr→Heap→α→β→Prop} {T:PT β} {h':Heap} {tk:Nat} {a:Addr} {o:O} (R:cC A env ι q s) (k:s.heap.StaysIn h') (ha:s.heap.get? a=none)
  (ho:pA (ι++[a]) h' a o) (hR:REL (ι++[a]) h' v b) (hT:∀Q E,Q b { s with heap:=h',toks:=tk }→T Q E s):aQ A env ι s (.ok v { q with H:=q.H++[o] }) REL T :=
 fun _ _ x=>hT _ _ (x _ b _ (aU.alloc R k ha ho) hR)
theorem aU.set (R:cC A env ι q s) {h':Heap} {tk:Nat} {i:Nat} {a:Addr} {o':O} (hi:ι[i]? = some a) (hs:Heap.SameBut a s.heap h') (im:oG s.heap h'→pA ι h' a o') :
  aU A env ι s ι { q with H:=q.H.set i o' } { s with heap:=h',toks:=tk }:=by
 have ha:a∈ι:=List.mem_of_getElem? hi
 obtain ⟨oa,ea,hma⟩:=R.st.mut ha
 have ext:=hs.extBut
 have ne:∀b o,s.heap.get? b=some o→b∉ι→h'.get? b=some o:=fun b o e hb=>ext b o (fun q=>hb (q▸ha)) e
 have im':=R.imm' (h':=h') fun b o e hW=>⟨o.slots,ne b o e fun x=>hW (List.mem_append_right _ x)⟩
 have im:=im im'
 have kp:Kp (own env++ι) (lX A) s.heap h':=⟨fun b o e=>by
   by_cases hb:b=a
   ·subst hb;exact im.there
   ·exact ⟨o,ext b o hb e⟩,fun b o e hW=>⟨o.slots,ne b o e fun x=>hW (List.mem_append_right _ x)⟩,fun b o e hW _=>ne b o e fun x=>hW (List.mem_append_right _ x)⟩
 have pr:ι<+:ι:=List.prefix_refl _
 refine ⟨pr,⟨⟨?_,by simp [R.st.len],R.st.nodup,R.st.fresh,?_⟩,⟨R.fr.kind,R.fr.glob,R.fr.blt,?_,?_,?_,R.fr.ndup,R.fr.dis,R.fr.fresh⟩,?_,R.gens,R.os⟩,kp,fun _ h=> .inl h⟩
 ·intro b o e
  exact ext b o (fun q=>by rw [q,R.st.fresh a ha] at e;cases e) (R.st.keep b o e)
 ·intro j x y e1 e2
  dsimp only at e2
  by_cases hj:i=j
  ·subst hj
   rw [hi] at e1;cases e1
   have:i<q.H.length:=R.st.len▸(List.getElem?_eq_some_iff.mp hi).1
   rw [List.getElem?_set_self this] at e2;cases e2
   exact im
  ·rw [List.getElem?_set_ne hj] at e2
   refine (R.st.obj j x y e1 e2).at pr im' fun o e=>ext x o (fun q=>hj ?_) e
   subst q
   exact BT R.st.nodup hi e1
 ·obtain ⟨m,hn,hm⟩:=R.fr.loc
  have hL:env.locals≠a:=fun q=>R.fr.dis env.locals (.head _) (q▸ha)
  exact ⟨m,hn.extBut ext hL,fun y v e e2=>let ⟨cv,a,b⟩:=hm y v e e2;⟨cv,a,b.mono pr im'⟩⟩
 ·intro y v e e2
  obtain ⟨c,o,cv,h1,h2,h3,h4⟩:=R.fr.cel y v e e2
  have hc:c∈own env:=List.mem_cons_of_mem _ (List.mem_map.mpr ⟨_,bg h1,rfl⟩)
  exact ⟨c,o,cv,h1,ne c o h2 (R.fr.dis c hc),h3,h4.mono pr im'⟩
 ·intro p hp
  obtain ⟨o,ov,h1,h2⟩:=R.fr.cells p hp
  exact ⟨o,ov,ne p.2 o h1 (R.fr.dis p.2 (List.mem_cons_of_mem _ (List.mem_map.mpr ⟨p,hp,rfl⟩))),h2⟩
 ·intro env' he
  obtain ⟨b1,L,o',b2,b3,b4,b5,b6⟩:=R.fs env' he
  exact ⟨b1,L,o',b2,ne L o' b3 b5,b4,b5,b6⟩
where
 bg {α β:Type} [BEq α] [LawfulBEq α] {x:α} {y:β}:∀ {l:List (α×β)},l.lookup x=some y→(x,y)∈l
  | [],e=>by simp at e
  | (a,b)::r,e=>by
   rw [List.lookup_cons] at e
   split at e
   ·rename_i q;cases e;rw [eq_of_beq q];exact .head _
   ·exact .tail _ (bg e)
theorem aQ.set {b:β} {v:α} {REL:List Addr→Heap→α→β→Prop} {T:PT β} {h':Heap} {tk:Nat} {i:Nat} {a:Addr} {o':O} (R:cC A env ι q s) (hi:ι[i]? = some a) (hs:Heap.SameBut a s.heap h')
  (im:oG s.heap h'→pA ι h' a o') (hR:oG s.heap h'→REL ι h' v b) (hT:∀Q E,Q b { s with heap:=h',toks:=tk }→T Q E s):aQ A env ι s (.ok v { q with H:=q.H.set i o' }) REL T:=by
 have P:=aU.set (tk:=tk) R hi hs im
 exact fun _ _ x=>hT _ _ (x _ b _ P (hR (R.imm P.kp)))
end
set_option linter.unusedVariables false
section
variable {hq:Bool} {k:Nat} {env:Env}
noncomputable def ac (x:String):Cm V:=fun q=>match q.l x with | some v=> .ok v q | none=> .stuck
theorem aa {x:String} {pos:Pos} (hx:env.kindOf (Str.ofString x)=some .local) (hd:(Str.ofString x==("__debug__" : Str))=false):Ev hq k env (.Name (Str.ofString x) pos) (ac x):=by
 intro A ι q s ha R
 unfold ac
 cases h:q.l x with
 | none=>trivial
 | some v =>
  obtain ⟨m,hn,hm⟩:=R.fr.loc
  obtain ⟨cv,h1,h2⟩:=hm x v h hx
  exact aQ.ret0 R h2 fun Q E hQ=>wpAny_Name (wpAny_loadName_local R.fr.kind hx hn h1 hQ) hd
theorem ax {x:String} {pos:Pos} (hx:env.kindOf (Str.ofString x)=some .cell) (hd:(Str.ofString x==("__debug__" : Str))=false):Ev hq k env (.Name (Str.ofString x) pos) (ac x):=by
 intro A ι q s ha R
 unfold ac
 cases h:q.l x with
 | none=>trivial
 | some v =>
  obtain ⟨c,o,cv,h1,h2,h3,h4⟩:=R.fr.cel x v h (.inl hx)
  exact aQ.ret0 R h4 fun Q E hQ=>wpAny_Name (wpAny_loadName_cell R.fr.kind hx h1 ⟨o,h2,h3⟩ hQ) hd
theorem am {i:Int} {kk:Nat} {pos:Pos}:Ev hq k env (.Constant (.int i) kk pos) (.p (.int i)) :=
 fun _ _ _ _ _ R=>aQ.ret R ⟨_,rfl⟩ fun _ _ hQ=>wpAny_Constant_int hQ
theorem xl {kk:Nat} {pos:Pos}:Ev hq k env (.Constant .none kk pos) (.p .none) :=
 fun _ _ _ _ _ R=>aQ.ret0 R DS fun _ _ hQ=>wpAny_Constant_none hQ
theorem bP {b:Bool} {kk:Nat} {pos:Pos}:Ev hq k env (.Constant (.bool b) kk pos) (.p (.bool b)) :=
 fun _ _ _ _ _ R=>aQ.ret0 R (xd b) fun _ _ hQ=>wpAny_Constant_bool hQ
theorem lR {x:String} {kk:Nat} {pos:Pos}:Ev hq k env (.Constant (.str (Str.ofString x)) kk pos) (.p (.str x)) :=
 fun _ _ _ _ _ R=>aQ.ret R ⟨_,rfl⟩ fun _ _ hQ=>wpAny_Constant_str hQ
theorem zO (C:bA G) {x:String} {i:Int} {t:Tok} {pos:Pos} (hx:env.kindOf (Str.ofString x)=some .globalImplicit) (hv:nsIn G.K mainGlobals (Str.ofString x)=some (some (.int i t)))
  (hd:(Str.ofString x==("__debug__" : Str))=false):Ev hq k env (.Name (Str.ofString x) pos) (.p (.int i)) :=
 fun _ _ _ _ _ R=>aQ.ret0 R ⟨t,rfl⟩ fun _ _ hQ=>Calls.Name_function_global R.fr.kind hx
  (Calls.loadGlobal_global (by rw [R.fr.glob];exact C.g.keeps R.st.keep) (mg_of C.X C.g hv) hQ) hd
theorem kJ (C:bA G) {A:Around} {ι:List Addr} {q:S} {s:Shared} (R:cC A env ι q s) {x:Str} {v:Value} {pos:Pos} (hx:env.kindOf x=some .globalImplicit) (hv:nsIn G.K mainGlobals x=some (some v))
  (hd:(x==("__debug__" : Str))=false) {Q:Value→Shared→Prop} {E:Value→Shared→Prop} (h:Q v s):wpAny G.M A (eval (.Name x pos) env) Q E s :=
 Calls.Name_function_global R.fr.kind hx (Calls.loadGlobal_global (by rw [R.fr.glob];exact C.g.keeps R.st.keep) (mg_of C.X C.g hv) h) hd
theorem qr (C:bA G) {A:Around} {ι:List Addr} {q:S} {s:Shared} (R:cC A env ι q s) {x:Str} {v:Value} {pos:Pos} (hx:env.kindOf x=some .globalImplicit) (hv:nsIn G.K mainGlobals x=some none)
  (hb:bootBuiltins x=some v) (hn:x ≠ "__name__") (hd:(x==("__debug__" : Str))=false) {Q:Value→Shared→Prop} {E:Value→Shared→Prop} (h:Q v s):wpAny G.M A (eval (.Name x pos) env) Q E s :=
 Calls.Name_function_global R.fr.kind hx (Calls.loadGlobal_builtin (by rw [R.fr.glob];exact C.g.keeps R.st.keep) (mg_none_of C.X C.g hv)
  (by rw [R.fr.blt];exact C.b.keeps R.st.keep) ((C.bt x hn).trans hb) h) hd
abbrev wz (T:Around→Value→Value→PT Value) (f:V→V→Cm V):Prop :=
 ∀A env ι q s a b ca cb,bA G→(∃hq k,jD hq k A env)→cC A env ι q s→aK ι s.heap a ca→aK ι s.heap b cb→aQ A env ι s (f a b q) (aK) (T A ca cb)
theorem az (C:bA G) {l r:Expr} {op:Operator} {pos:Pos} {m1 m2:Cm V} {f:V→V→Cm V} (h1:Ev hq k env l m1) (h2:Ev hq k env r m2)
  (hf:wz (fun A a b=>kZ A (binaryOp op a b)) f):Ev hq k env (.BinOp l op r pos) (m1.b fun a=>m2.b fun b=>f a b) :=
 fun A ι q s ha R=>(aQ.b (h1 A ι q s ha R) fun a q' ι' b s' _ P hv=>aQ.b (T':=fun b' Q E s₂=>wpAny G.M A (binaryOp op b b') Q E s₂) (h2 A ι' q' s' ha P.rel) fun a2 q2 ι2 b2 s2 _ P2 hv2 =>
  hf A env ι2 q2 s2 a a2 b b2 C ⟨_,_,ha⟩ P2.rel (P2.vrel P.rel hv) hv2).imp fun Q E x=>wpAny_BinOp x
theorem jD.pylong (C:bA G) {A:Around} {ι:List Addr} {q:S} {s:Shared} (ha:∃hq k,jD hq k A env) (R:cC A env ι q s):PylongRoom G.M A s:=by
 obtain ⟨hq,k,ha⟩:=ha
 obtain ⟨fenv,rest,h1,h2,h3,h4,h5,h6⟩:=ha.fr
 refine PylongRoom.of (C.lim.keeps R.st.keep) ?_ (SeerAt.of (C.seer.keeps R.st.keep) C.tree h1 h3 h4 h5 h6)
 have:=ha.depth
 have:Builtin.pylongFrames≤150:=by decide
 show A.depth+Builtin.pylongFrames<1000
 omega
noncomputable def cS:V→V→Cm V
 | .int i,.int j=> .p (.int (i+j))
 | .str x,.str y=>if x.length+y.length≤100000 then .p (.str (x++y)) else .stk
 | .ref i,.ref j=>fun q=>match q.H[i]?,q.H[j]? with
  | some (.list xs),some (.list ys)=>if xs.length+ys.length≤1000000 then .ok (.ref q.H.length) { q with H:=q.H++[.list (xs++ys)] } else .stuck
  | _,_=> .stuck
 | _,_=> .stk
noncomputable def FW:V→V→Cm V
 | .int i,.int j=> .p (.int (i-j))
 | _,_=> .stk
noncomputable def dQ:V→V→Cm V
 | .int i,.int j=>haveI:=Classical.propDecidable (IntMulOk i j);if IntMulOk i j then .p (.int (i*j)) else .stk
 | .ref i,.int n=>fun q=>match q.H[i]? with
  | some (.list xs)=>if xs.length=1∧0≤n∧n≤1000000 then .ok (.ref q.H.length) { q with H:=q.H++[.list (List.replicate n.toNat xs).flatten] } else .stuck
  | _=> .stuck
 | _,_=> .stk
noncomputable def dG:V→V→Cm V
 | .int i,.int j=>if j=0 then .stk else .p (.int (i.fdiv j))
 | _,_=> .stk
noncomputable def bM:V→V→Cm V
 | .int i,.int j=>if j=0 then .stk else .p (.int (i.fmod j))
 | _,_=> .stk
theorem EM:wz (fun A a b=>kZ A (binaryOp .Sub a b)) FW:=by
 intro A env ι q s a b ca cb C ha R h1 h2
 cases a with
 | int i =>
  cases b with
  | int j =>
   obtain ⟨t,rfl⟩:=h1;obtain ⟨u,rfl⟩:=h2
   exact aQ.ret R ⟨_,rfl⟩ fun Q E hQ=>P.sub_int hQ
  | _=>trivial
 | _=>trivial
theorem eV:wz (fun A a b=>kZ A (binaryOp .FloorDiv a b)) dG:=by
 intro A env ι q s a b ca cb C ha R h1 h2
 cases a with
 | int i =>
  cases b with
  | int j =>
   obtain ⟨t,rfl⟩:=h1;obtain ⟨u,rfl⟩:=h2
   unfold dG;dsimp only
   split
   ·trivial
   ·exact aQ.ret R ⟨_,rfl⟩ fun Q E hQ=>floordiv_int (by assumption) hQ (.inr (jD.pylong C ha R))
  | _=>trivial
 | _=>trivial
theorem cu:wz (fun A a b=>kZ A (binaryOp .Mod a b)) bM:=by
 intro A env ι q s a b ca cb C ha R h1 h2
 cases a with
 | int i =>
  cases b with
  | int j =>
   obtain ⟨t,rfl⟩:=h1;obtain ⟨u,rfl⟩:=h2
   unfold bM;dsimp only
   split
   ·trivial
   ·exact aQ.ret R ⟨_,rfl⟩ fun Q E hQ=>mod_int' (by assumption) hQ
  | _=>trivial
 | _=>trivial
theorem eY.list {ι:List Addr} {H:Hp} {h:Heap} (x:eY ι H h) {i:Nat} {xs:List V} (e:H[i]? = some (.list xs)):∃a n vs,A3 (ι[i]? = some a) (IsL h a (List.toArray vs) n) (aN ι h xs vs):=by
 have hi:i<ι.length:=x.len▸(List.getElem?_eq_some_iff.mp e).1
 obtain ⟨vs,⟨n,h1⟩,h2⟩:=x.obj i ι[i] _ (by simp) e
 exact ⟨ι[i],n,vs,by simp,h1,h2⟩
theorem eY.dict {ι:List Addr} {H:Hp} {h:Heap} (x:eY ι H h) {i:Nat} {es:List (Int×V)} (e:H[i]? = some (.dict es)):∃a kvs,A3 (ι[i]? = some a) (h.DictOf (intKind G.prog G.w) a kvs) (kq ι h es kvs):=by
 have hi:i<ι.length:=x.len▸(List.getElem?_eq_some_iff.mp e).1
 obtain ⟨kvs,h1,h2⟩:=x.obj i ι[i] _ (by simp) e
 exact ⟨ι[i],kvs,by simp,h1,h2⟩
theorem eY.flds {ι:List Addr} {H:Hp} {h:Heap} (x:eY ι H h) {i:Nat} {fs:List (String×V)} (e:H[i]? = some (.flds fs)):∃a es n,A3 (ι[i]? = some a) (h.get? a=some (dictOf es n)) (rz ι h fs es):=by
 have hi:i<ι.length:=x.len▸(List.getElem?_eq_some_iff.mp e).1
 obtain ⟨es,n,h1,h2⟩:=x.obj i ι[i] _ (by simp) e
 exact ⟨ι[i],es,n,by simp,h1,h2⟩
theorem jm (h:Heap) (o:Obj):h.StaysIn (h.push o):=fun _ _ e=>Heap.get?_push_of_some _ e
theorem jC {ι:List Addr} {H:Hp} {h h':Heap} (x:eY ι H h) (a:Addr):aK (ι++[a]) h' (.ref H.length) (.ref a):=⟨a,by rw [← x.len];simp,rfl⟩
theorem aQ.newList {β:Type} {A:Around} {ι:List Addr} {q:S} {s:Shared} {T:PT Value} {tk:Nat} {xs:List V} {vs:List Value} (R:cC A env ι q s) (hx:aN ι s.heap xs vs)
  (hT:∀Q E,Q (.ref s.heap.objs.size) { s with heap:=s.heap.push { cls:= .type "list",data:= .seq vs.toArray },toks:=tk }→T Q E s) :
  aQ A env ι s (.ok (.ref q.H.length) { q with H:=q.H++[.list xs] }) (aK) T :=
 aQ.alloc R (jm _ _) (Heap.get?_none_of_le (Nat.le_refl _)) ⟨vs,⟨0,Heap.get?_push_size _ rfl⟩,hx.mono (List.prefix_append _ _) (.of_stays (jm _ _))⟩ (jC R.st _) hT
theorem tt (x y:String):Str.ofString x++Str.ofString y=Str.ofString (x++y):=by
 rw [Str.ofString_eq_toList,Str.ofString_eq_toList,Str.ofString_eq_toList,String.toList_append,List.map_append]
 apply Str.ext'
 show _++_=_
 simp
theorem eQ {x y:String} (h:Str.ofString x=Str.ofString y):x=y:=by
 rw [Str.ofString_eq_toList,Str.ofString_eq_toList] at h
 have h1:(x.toList.map Char.toNat)=(y.toList.map Char.toNat):=by simpa using congrArg (fun z:Str=>z.cps.toList) h
 have h2:x.toList=y.toList:=by
  refine (List.map_inj_right ?_).mp h1
  intro a b e
  exact Char.ext (UInt32.toNat.inj e)
 exact String.toList_injective h2
theorem cI:wz (fun A a b=>kZ A (binaryOp .Add a b)) cS:=by
 intro A env ι q s a b ca cb C ha R h1 h2
 cases a with
 | int i =>
  cases b with
  | int j =>
   obtain ⟨t,rfl⟩:=h1;obtain ⟨u,rfl⟩:=h2
   exact aQ.ret R ⟨_,rfl⟩ fun Q E hQ=>P.add_int hQ
  | _=>trivial
 | str x =>
  cases b with
  | str y =>
   obtain ⟨t,rfl⟩:=h1;obtain ⟨u,rfl⟩:=h2
   unfold cS;dsimp only
   split
   ·rename_i hl
    intro Q E hQ
    refine add_str (fun t' tk=> ?_) (by rw [PySem.ofString_length,PySem.ofString_length,sizeLine_eq];exact b0 0xb10c00186a0a10c011 hl)
    rw [tt]
    exact hQ ι _ _ (aU.toks R tk) ⟨t',rfl⟩
   ·trivial
  | _=>trivial
 | ref i =>
  cases b with
  | ref j =>
   obtain ⟨x,hx,rfl⟩:=h1;obtain ⟨y,hy,rfl⟩:=h2
   unfold cS;dsimp only
   cases e1:q.H[i]? with
   | none=>trivial
   | some o =>
    cases o with
    | list xs =>
     cases e2:q.H[j]? with
     | none=>trivial
     | some o =>
      cases o with
      | list ys =>
       dsimp only
       split
       ·rename_i hl
        obtain ⟨a1,n1,vs,g1,g2,g3⟩:=R.st.list e1
        obtain ⟨a2,n2,ws,k1,k2,k3⟩:=R.st.list e2
        obtain rfl:x=a1:=Option.some.inj (hx.symm.trans g1)
        obtain rfl:y=a2:=Option.some.inj (hy.symm.trans k1)
        refine aQ.newList (β:=Value) (tk:=s.toks) R (g3.append k3) fun Q E hQ=>P.add_list g2 k2 ?_ ?_
        ·simpa using hQ
        ·rw [List.size_toArray,List.size_toArray,g3.length,k3.length,sizeLine_eq];exact b0 0xb10c00f4240a10c011 hl
       ·trivial
      | _=>trivial
    | _=>trivial
  | _=>trivial
 | _=>trivial
theorem yO {ι:List Addr} {h:Heap} {xs:List V} {vs:List Value} (x:aN ι h xs vs):∀n:Nat,aN ι h (List.replicate n xs).flatten (List.replicate n vs).flatten
 | 0=>vG
 | n+1=>by
  rw [List.replicate_succ,List.replicate_succ,List.flatten_cons,List.flatten_cons]
  exact x.append (yO x n)
theorem Er {prog:Program} {w:World} {A:Around} {E:Value→Shared→Prop} {s:Shared} {l:Addr} {items:Array Value} {k:Nat} {x:Int} {u:Tok} {Q:Value→Shared→Prop}
  (hl:IsL s.heap l items k) (hlo : -(2 ^ 63:Int)≤x) (hhi:x<2 ^ 63) (hsz:items.size*x.toNat≤2 ^ 24)
  (h:Q (.ref s.heap.objs.size) { s with heap:=s.heap.push { cls:= .type "list",data:= .seq (List.foldl (fun x1 x2=>x1++x2) #[] (List.replicate (if items.isEmpty=true then 0 else x.toNat) items)) } }) :
  wpAny (model prog w) A (binaryOp .Mult (.ref l) (.int x u)) Q E s :=
 wpAny_binaryOp_repeat_ref (T := "list") (U := "int") ∅ ⟨_,hl,rfl⟩ (fun s'=>typeIs_int s' x u) noFill_list_mul F.fills_int_mul F.slot_int_rmul repeat_list F.slot_int_index.lookup
  (call_meets F.slot_int_rmul (typeIs_int s x u) F.entry_int_rmul (F.args_int_rmul_2 _ _) (int___rmul___int_list x u l items k)
   ⟨hl,rfl,⟨_,hl,rfl⟩,call_meets F.slot_list_mul ⟨_,hl,rfl⟩ F.entry_list_mul (F.args_list_mul_2 _ _)
    (AutoListH.list___mul___list_int_3 l items k x u (by simp [Builtin.List.listFitsIndex];omega) (by omega) (by simp [Builtin.List.listTooLong,sizeLine];omega))
    ⟨hl,h⟩⟩)
theorem iX:wz (fun A a b=>kZ A (binaryOp .Mult a b)) dQ:=by
 intro A env ι q s a b ca cb C ha R h1 h2
 cases a with
 | int i =>
  cases b with
  | int j =>
   obtain ⟨t,rfl⟩:=h1;obtain ⟨u,rfl⟩:=h2
   unfold dQ;dsimp only
   split
   ·exact aQ.ret R ⟨_,rfl⟩ fun Q E hQ=>P.mul_int hQ (by assumption)
   ·trivial
  | _=>trivial
 | ref i =>
  cases b with
  | int n =>
   obtain ⟨x,hx,rfl⟩:=h1;obtain ⟨u,rfl⟩:=h2
   unfold dQ;dsimp only
   cases e1:q.H[i]? with
   | none=>trivial
   | some o =>
    cases o with
    | list xs =>
     dsimp only
     split
     ·rename_i hl
      obtain ⟨a1,n1,vs,g1,g2,g3⟩:=R.st.list e1
      obtain rfl:x=a1:=Option.some.inj (hx.symm.trans g1)
      have hv:vs.length=1:=g3.length.trans hl.1
      refine aQ.newList (β:=Value) (tk:=s.toks) R (yO g3 n.toNat) fun Q E hQ=>Er g2 (by omega) (by omega) (by rw [List.size_toArray,hv];omega) ?_
      have:(List.foldl (fun x1 x2=>x1++x2) #[] (List.replicate (if vs.toArray.isEmpty=true then 0 else n.toNat) vs.toArray))=(List.replicate n.toNat vs).flatten.toArray:=listMul_foldl_if ..
      rw [this]
      exact hQ
     ·trivial
    | _=>trivial
  | _=>trivial
 | _=>trivial
end
noncomputable def dw {α β:Type} (f:α→Option β):List α→Option (List β)
 | []=>some []
 | x::xs=>(f x).bind fun d=>(dw f xs).map (d :: ·)
noncomputable def toD (H:Hp):Nat→V→Option PyData
 | 0,_=>none
 | n+1,v=>match v with
  | .none=>some .none
  | .bool b=>some (.bool b)
  | .int i=>some (.int i)
  | .str x=>some (.str (Str.ofString x))
  | .tup xs=>(dw (toD H n) xs).map .tuple
  | .ref i=>match H[i]? with
   | some (.list xs)=>(dw (toD H n) xs).map .list
   | _=>none
  | _=>none
section
variable {hq:Bool} {k:Nat} {env:Env} {A:Around} {ι:List Addr} {q:S} {s:Shared} {H:Hp} {h:Heap}
theorem gV {n:Nat} (ih:∀ {v:V} {cv:Value} {d:PyData},aK ι h v cv→toD H n v=some d→ ∃as,Reads h cv d as) :
  ∀ {xs:List V} {vs:List Value} {ds:List PyData},aN ι h xs vs→dw (toD H n) xs=some ds→ ∃as,ReadsAll h vs ds as
 | [],_,_,x,e=>by rw [show _=[] from x];cases e;exact ⟨_,.nil⟩
 | v::xs,_,_,z3,e=>by
  obtain ⟨cv,vs',q,a,b⟩:=z3
  subst q
  obtain ⟨d,h1,h2⟩:=Option.bind_eq_some_iff.mp e
  obtain ⟨ds,h3,rfl⟩:=Option.map_eq_some_iff.mp h2
  obtain ⟨as,r1⟩:=ih a h1
  obtain ⟨bs,r2⟩:=gV ih b h3
  exact ⟨_,.cons r1 r2⟩
theorem et (x:eY ι H h):∀ {n:Nat} {v:V} {cv:Value} {d:PyData},aK ι h v cv→toD H n v=some d→ ∃as,Reads h cv d as
 | 0,_,_,_,_,e=>by cases e
 | n+1,v,cv,d,r,e=>by
  have ih:= @et x n
  cases v with
  | none=>cases e;rw [show cv= .none from r];exact ⟨_,.none⟩
  | bool b=>cases e;rw [show cv= .bool b from r];exact ⟨_,.bool b⟩
  | int i=>cases e;obtain ⟨t,rfl⟩:=r;exact ⟨_,.int i t⟩
  | str y=>cases e;obtain ⟨t,rfl⟩:=r;exact ⟨_,.str _ t⟩
  | tup xs =>
   change (dw (toD H n) xs).map PyData.tuple=some d at e
   obtain ⟨ds,h1,rfl⟩:=Option.map_eq_some_iff.mp e
   obtain ⟨a,vs,rfl,⟨o,ho,hc,n',hd⟩,hv⟩:=r
   obtain ⟨as,ra⟩:=gV ih hv h1
   exact ⟨_,.tuple ho hc hd (by simpa using ra)⟩
  | ref i =>
   change (match H[i]? with | some (.list xs)=>(dw (toD H n) xs).map PyData.list | _=>none)=some d at e
   cases hx:H[i]? with
   | none=>rw [hx] at e;cases e
   | some o =>
   rw [hx] at e
   cases o with
   | list xs =>
    obtain ⟨ds,h1,rfl⟩:=Option.map_eq_some_iff.mp e
    obtain ⟨a,n',vs,g1,g2,g3⟩:=x.list hx
    obtain ⟨a',e1,rfl⟩:=r
    obtain rfl:a'=a:=Option.some.inj (e1.symm.trans g1)
    obtain ⟨as,ra⟩:=gV ih g3 h1
    exact ⟨_,.list g2 rfl rfl (by simpa using ra)⟩
   | _=>cases e
  | inst c i=>cases e
  | exc c=>cases e
  | scr=>cases e
noncomputable def CP (H:Hp) (a b:V):Option Bool:=(toD H 8 a).bind fun d=>(toD H 8 b).bind fun e=>if SeqAt.shaped d&&SeqAt.shaped e then some (PyData.eqv d e) else none
noncomputable def ET (H:Hp) (a:V) (xs:List V):Option Bool:=(toD H 8 a).bind fun d=>(dw (toD H 8) xs).bind fun ds=>if SeqAt.shaped d&&SeqAt.shaped (.list ds) then some (ds.any fun y=>PyData.eqv y d) else none
noncomputable def eqV (a b:V):Cm Bool:=fun q=>match CP q.H a b with | some x=> .ok x q | none=> .stuck
noncomputable def inV (a b:V):Cm Bool:=fun q=>match b with
 | .ref i=>(match q.H[i]?,a with
  | some (.list xs),_=>(match ET q.H a xs with | some x=> .ok x q | none=> .stuck)
  | some (.dict es),.int k=> .ok ((es.lookup k).isSome) q
  | _,_=> .stuck)
 | _=> .stuck
noncomputable def isNone:V→Bool
 | .none=>true
 | _=>false
noncomputable def BW (f:Int→Int→Bool) (a b:V):Cm Bool:=match a,b with | .int i,.int j=> .p (f i j) | _,_=> .stk
noncomputable def aL (op:CmpOp) (a b:V):Cm Bool:=match op with
 | .Eq=>eqV a b
 | .NotEq=>(eqV a b).b fun x=> .p (!x)
 | .Lt=>BW (fun i j=>decide (i<j)) a b
 | .LtE=>BW (fun i j=>decide (i≤j)) a b
 | .Gt=>BW (fun i j=>decide (i>j)) a b
 | .GtE=>BW (fun i j=>decide (i≥j)) a b
 | .Is=>(match b with | .none=> .p (isNone a) | _=> .stk)
 | .IsNot=>(match b with | .none=> .p (!isNone a) | _=> .stk)
 | .In=>inV a b
 | .NotIn=>(inV a b).b fun x=> .p (!x)
theorem jD.units_lt (ha:∃hq k,jD hq k A env):A.units+100<cLine:=by
 obtain ⟨hq,k,ha⟩:=ha
 have:=ha.units
 show A.units+100<9900
 exact b0 0x26aca000064a0c1002328a132d0c011 this
theorem xf {v:V} {cv:Value} (r:aK ι h v cv):(cv == .none)=isNone v:=by
 cases v with
 | none=>rw [show cv= .none from r];rfl
 | bool b=>rw [show cv= .bool b from r];rfl
 | int i=>obtain ⟨t,rfl⟩:=r;rfl
 | str y=>obtain ⟨t,rfl⟩:=r;rfl
 | tup xs=>obtain ⟨a,vs,rfl,_⟩:=r;rfl
 | ref i=>obtain ⟨a,_,rfl⟩:=r;rfl
 | inst c i=>obtain ⟨a,x,C,o,_,_,rfl,_⟩:=r;rfl
 | exc c=>obtain ⟨x,C,o,_,rfl,_⟩:=r;rfl
 | scr=>rw [show cv= .ref G.sa from r];rfl
abbrev Fs:List Addr→Heap→Bool→Value→Prop:=fun _ _ x cv=>cv= .bool x
theorem iA:∀ {es:List (Int×V)} {kvs:List (Int×Value)},kq ι h es kvs→ ∀(k:Int),(match es.lookup k with | some v=> ∃cv,valueAt kvs k=some cv∧aK ι h v cv | none=>valueAt kvs k=none)
 | [],_,x,k=>by rw [show _=[] from x];rfl
 | (k',v)::es,_,z2,k=>by
  obtain ⟨cv,kvs',q,a,b⟩:=z2
  subst q
  have ih:=iA b k
  rw [List.lookup_cons]
  unfold valueAt
  by_cases e:k=k'
  ·subst e;simp;exact a
  ·have:(k==k')=false:=by simpa using e
   rw [this]
   have e':¬(k'=k):=fun x=>e x.symm
   simp only [e',if_false]
   first | exact ih | simpa [valueAt,e'] using ih
end
section
variable {hq:Bool} {k:Nat} {env:Env} {A:Around} {ι:List Addr} {q:S} {s:Shared} {H:Hp} {h:Heap}
theorem mZ (C:bA G) (R:eY ι H h) {a:Addr} (ha:a∈ι):(a==sysModules)=false:=by
 obtain ⟨mm,⟨o,_,_,ho,_⟩,_⟩:=C.seer.mods
 refine beq_eq_false_iff_ne.mpr fun e=> ?_
 have:=R.fresh a ha
 rw [e,ho] at this;cases this
theorem uo {a b:V} {x:Bool} (e:CP H a b=some x):∃d f,A5 (toD H 8 a=some d) (toD H 8 b=some f) (SeqAt.shaped d=true) (SeqAt.shaped f=true) (x=PyData.eqv d f):=by
 obtain ⟨d,h1,e⟩:=Option.bind_eq_some_iff.mp e
 obtain ⟨f,h2,e⟩:=Option.bind_eq_some_iff.mp e
 split at e
 ·rename_i h;cases e;obtain ⟨h3,h4⟩:=Bool.and_eq_true_iff.mp h;exact ⟨d,f,h1,h2,h3,h4,rfl⟩
 ·cases e
theorem C6 {a:V} {xs:List V} {x:Bool} (e:ET H a xs=some x):∃d ds,A5 (toD H 8 a=some d) (dw (toD H 8) xs=some ds) (SeqAt.shaped d=true) (SeqAt.shaped (.list ds)=true) (x=ds.any fun y=>PyData.eqv y d):=by
 obtain ⟨d,h1,e⟩:=Option.bind_eq_some_iff.mp e
 obtain ⟨f,h2,e⟩:=Option.bind_eq_some_iff.mp e
 split at e
 ·rename_i h;cases e;obtain ⟨h3,h4⟩:=Bool.and_eq_true_iff.mp h;exact ⟨d,f,h1,h2,h3,h4,rfl⟩
 ·cases e
theorem wK {P:Prop} (h:∀X:Prop,(P→X)→X):P:=h P id
theorem AN {f:Int→Int→Bool} {op:CmpOp} {a b:V} {ca cb:Value} (R:cC A env ι q s) (h1:aK ι s.heap a ca) (h2:aK ι s.heap b cb) (hT:∀ {i j:Int} {t u:Tok} {Q E},Q (.bool (f i j)) s→wpAny G.M A (compareOp op (.int i t) (.int j u)) Q E s) :
  aQ A env ι s (BW f a b q) Fs (kZ A (compareOp op ca cb)):=by
 cases a with
 | int i =>
  cases b with
  | int j =>
   obtain ⟨t,rfl⟩:=h1;obtain ⟨u,rfl⟩:=h2
   exact aQ.ret0 R rfl fun Q E hQ=>hT hQ
  | _=>trivial
 | _=>trivial
theorem Ai {a b:V} {ca cb:Value} (C:bA G) (hu:A.units+100<cLine) (st:eY ι q.H s.heap) (h1:aK ι s.heap a ca) (h2:aK ι s.heap b cb):inV a b q= .stuck∨ ∃x,inV a b q= .ok x q ∧
  (∀ {Q E},(∀tk,Q (.bool x) { s with toks:=tk })→wpAny G.M A (compareOp .In ca cb) Q E s)∧ ∀ {Q E},(∀tk,Q (.bool (!x)) { s with toks:=tk })→wpAny G.M A (compareOp .NotIn ca cb) Q E s:=by
 refine wK fun G' kG=> ?_
 cases b with
 | ref i =>
  obtain ⟨ad,hi,rfl⟩:=h2
  cases hx:q.H[i]? with
  | none=>exact kG (.inl (by unfold inV;dsimp only;rw [hx]))
  | some o =>
  cases o with
  | list xs =>
   cases hy:ET q.H a xs with
   | none=>exact kG (.inl (by unfold inV;dsimp only;rw [hx];dsimp only;rw [hy]))
   | some y =>
    obtain ⟨d,ds,e1,e2,e3,e4,ey⟩:=C6 hy
    obtain ⟨as,r1⟩:=et st h1 e1
    obtain ⟨a1,n1,vs,g1,g2,g3⟩:=st.list hx
    obtain rfl:ad=a1:=Option.some.inj (hi.symm.trans g1)
    obtain ⟨bs,r2⟩:=gV (et st) g3 e2
    have r3:Reads s.heap (.ref ad) (.list ds) _:= .list g2 rfl rfl (by simpa using r2)
    refine kG (.inr ⟨y,by unfold inV;dsimp only;rw [hx];dsimp only;rw [hy],fun hQ=> ?_,fun hQ=> ?_⟩)
    ·exact SeqAt.in_list_reads r3 r1 (SeqAt.canLay_of_shaped e4) (SeqAt.canLay_of_shaped e3) (room_in_shaped e3 (b0 0x1000041a0c11000064a0c111 hu)) (ey▸hQ s.toks)
    ·exact SeqAt.notIn_list_reads r3 r1 (SeqAt.canLay_of_shaped e4) (SeqAt.canLay_of_shaped e3) (room_in_shaped e3 (b0 0x1000041a0c11000064a0c111 hu)) (ey▸hQ s.toks)
  | dict es =>
   cases a with
   | int k0 =>
    obtain ⟨t,rfl⟩:=h1
    obtain ⟨a1,kvs,g1,g2,g3⟩:=st.dict hx
    obtain rfl:ad=a1:=Option.some.inj (hi.symm.trans g1)
    have hm:=mZ C st (List.mem_of_getElem? g1)
    have hv:=iA g3 k0
    have hs:(valueAt kvs k0).isSome=(es.lookup k0).isSome:=by
     cases hl:es.lookup k0 with
     | none=>rw [hl] at hv;rw [hv];rfl
     | some v=>rw [hl] at hv;obtain ⟨cv,hv,_⟩:=hv;rw [hv];rfl
    refine kG (.inr ⟨(es.lookup k0).isSome,by unfold inV;dsimp only;rw [hx],fun hQ=> ?_,fun hQ=> ?_⟩)
    ·exact wpAny_in_of (intKind_is G.prog G.w k0 t) hm g2.mapOf (by rw [hs];exact hQ _)
    ·exact wpAny_notIn_of (intKind_is G.prog G.w k0 t) hm g2.mapOf (by rw [hs];exact hQ _)
   | _=>exact kG (.inl (by unfold inV;dsimp only;rw [hx]))
  | flds _=>exact kG (.inl (by unfold inV;dsimp only;rw [hx]))
 | _=>exact kG (.inl rfl)
theorem wy (op:CmpOp) {a b:V} {ca cb:Value} (C:bA G) (ha:∃hq k,jD hq k A env) (R:cC A env ι q s) (h1:aK ι s.heap a ca) (h2:aK ι s.heap b cb) :
  aQ A env ι s (aL op a b q) Fs (kZ A (compareOp op ca cb)):=by
 have hu:=jD.units_lt ha
 have hEq:∀ {x:Bool},CP q.H a b=some x→ ∀ {Q E},Q (.bool x) s→wpAny G.M A (compareOp .Eq ca cb) Q E s:=fun {x} e {Q E} hQ=>by
  obtain ⟨d,f,e1,e2,e3,e4,rfl⟩:=uo e
  obtain ⟨as,r1⟩:=et R.st h1 e1
  obtain ⟨bs,r2⟩:=et R.st h2 e2
  exact eq_dataH r1 r2 e3 e4 (b0 0x1000040a0c11000064a0c111 hu) hQ
 have hNe:∀ {x:Bool},CP q.H a b=some x→ ∀ {Q E},Q (.bool (!x)) s→wpAny G.M A (compareOp .NotEq ca cb) Q E s:=fun {x} e {Q E} hQ=>by
  obtain ⟨d,f,e1,e2,e3,e4,rfl⟩:=uo e
  obtain ⟨as,r1⟩:=et R.st h1 e1
  obtain ⟨bs,r2⟩:=et R.st h2 e2
  exact ne_dataH r1 r2 e3 e4 (b0 0x1000040a0c11000064a0c111 hu) hQ
 cases op with
 | Eq =>
  show aQ A env ι s (eqV a b q) _ _
  unfold eqV
  cases e:CP q.H a b with
  | none=>trivial
  | some x=>exact aQ.ret0 R rfl fun Q E hQ=>hEq e hQ
 | NotEq =>
  show aQ A env ι s (((eqV a b).b fun x=> .p (!x)) q) _ _
  unfold eqV Cm.b
  cases e:CP q.H a b with
  | none=>dsimp only;rw [e];trivial
  | some x=>dsimp only;rw [e];exact aQ.ret0 (REL:=Fs) R rfl fun Q E hQ=>hNe e hQ
 | Lt=>exact AN R h1 h2 fun hQ=>P.lt_int hQ
 | LtE=>exact AN R h1 h2 fun hQ=>P.le_int hQ
 | Gt=>exact AN R h1 h2 fun hQ=>P.gt_int hQ
 | GtE=>exact AN R h1 h2 fun hQ=>P.ge_int hQ
 | Is =>
  cases b with
  | none =>
   rw [show cb= .none from h2]
   exact aQ.ret0 R rfl fun Q E hQ=>is_none (by rw [xf h1];exact hQ)
  | _=>trivial
 | IsNot =>
  cases b with
  | none =>
   rw [show cb= .none from h2]
   exact aQ.ret0 R rfl fun Q E hQ=>isNot_none (by rw [xf h1];exact hQ)
  | _=>trivial
 | In =>
  show aQ A env ι s (inV a b q) _ _
  rcases Ai C hu R.st h1 h2 with e | ⟨x,e,h3,_⟩
  ·rw [e];trivial
  ·rw [e];exact fun Q E hQ=>h3 fun tk=>hQ ι _ _ (aU.toks R tk) rfl
 | NotIn =>
  show aQ A env ι s (((inV a b).b fun x=> .p (!x)) q) _ _
  rcases Ai C hu R.st h1 h2 with e | ⟨x,e,_,h3⟩
  ·rw [bk e];trivial
  ·rw [dP e];exact fun Q E hQ=>h3 fun tk=>hQ ι _ _ (aU.toks R tk) rfl
noncomputable def bE:V→Cm Bool
 | .bool b=> .p b
 | _=> .stk
theorem xp {v:V} {cv:Value} (R:cC A env ι q s) (h1:aK ι s.heap v cv):aQ A env ι s (bE v q) (fun _ _ x y=>x=y) (kZ A (truthy cv)):=by
 cases v with
 | bool b=>rw [show cv= .bool _ from h1];exact aQ.ret0 R rfl fun Q E hQ=>wpAny_truthy_bool hQ
 | _=>trivial
theorem yv {x:Bool} {cv:Value} (R:cC A env ι q s) (h1:cv= .bool x):aQ A env ι s (.ok x q) (fun _ _ x y=>x=y) (kZ A (truthy cv)):=by
 subst h1;exact aQ.ret0 R rfl fun Q E hQ=>wpAny_truthy_bool hQ
theorem qi (C:bA G) {l r:Expr} {op:CmpOp} {pos:Pos} {m1 m2:Cm V} (h1:Ev hq k env l m1) (h2:Ev hq k env r m2) (hm:behindInMarks op r=false) :
  Ev hq k env (.Compare l [op] [r] pos) (m1.b fun a=>m2.b fun b=>(aL op a b).b fun x=> .p (.bool x)) :=
 fun A ι q s ha R=>(aQ.b (h1 A ι q s ha R) fun a q' ι' b s' _ P hv=>aQ.b (T':=fun b' Q E s₂=>wpAny G.M A (compareOp op b b') Q E s₂) (h2 A ι' q' s' ha P.rel) fun a2 q2 ι2 b2 s2 _ P2 hv2 =>
  (aQ.b (T':=fun c Q E s=>Q c s) (wy op C ⟨_,_,ha⟩ P2.rel (P2.vrel P.rel hv) hv2) fun x q3 ι3 c s3 _ P3 hc=>aQ.ret0 P3.rel (hc▸xd x) fun Q E hQ=>hQ)).imp fun Q E x=>wpAny_Compare1 x hm
theorem aV (C:bA G) {l r:Expr} {op:CmpOp} {pos:Pos} {m1 m2:Cm V} (h1:Ev hq k env l m1) (h2:Ev hq k env r m2) (hm:behindInMarks op r=false) :
  Tr hq k env (.Compare l [op] [r] pos) (m1.b fun a=>m2.b fun b=>(aL op a b).b fun x=> .p x) :=
 fun A ι q s ha R=>(aQ.b (h1 A ι q s ha R) fun a q' ι' b s' _ P hv=>aQ.b (T':=fun b' Q E s₂=>wpAny G.M A (compareOp op b b') (fun c s₃=>wpAny G.M A (truthy c) Q E s₃) E s₂) (h2 A ι' q' s' ha P.rel) fun a2 q2 ι2 b2 s2 _ P2 hv2 =>
  (aQ.b (T':=fun c Q E s=>wpAny G.M A (truthy c) Q E s) (wy op C ⟨_,_,ha⟩ P2.rel (P2.vrel P.rel hv) hv2) fun x q3 ι3 c s3 _ P3 hc=>yv P3.rel hc)).imp fun Q E x=>wpAny_isTrue_Compare1 x hm
theorem CC (C:bA G) {l r1 r2:Expr} {o1 o2:CmpOp} {pos:Pos} {m0 m1 m2:Cm V} (h0:Ev hq k env l m0) (h1:Ev hq k env r1 m1) (h2:Ev hq k env r2 m2) (hm:lastMarks [o1,o2] [r1,r2]=false) :
  Tr hq k env (.Compare l [o1,o2] [r1,r2] pos) (m0.b fun a=>m1.b fun b=>(aL o1 a b).b fun x=>if x then m2.b fun c=>(aL o2 b c).b fun y=> .p y else .p false):=by
 intro A ι q s ha R
 refine (aQ.b (T':=fun a Q E s₁=>wpAny G.M A (eval r1 env) (fun b s₁=>wpAny G.M A (compareOp o1 a b) (fun c s₂=>wpAny G.M A (truthy c)
   (fun t s₃=>if t then wpAny G.M A (testChain pos b [o2] [eval r2 env]) Q E s₃ else Q false s₃) E s₂) E s₁) E s₁) (h0 A ι q s ha R) fun a q' ι' b s' _ P hv=> ?_).imp fun Q E x=>isTrue_chain (wpAny_mono x (fun a s₁ y=>test_link y) fun _ _ y=>y) hm
 refine aQ.b (T':=fun b' Q E s₁=>wpAny G.M A (compareOp o1 b b') (fun c s₂=>wpAny G.M A (truthy c)
   (fun t s₃=>if t then wpAny G.M A (testChain pos b' [o2] [eval r2 env]) Q E s₃ else Q false s₃) E s₂) E s₁) (h1 A ι' q' s' ha P.rel) fun a2 q2 ι2 b2 s2 _ P2 hv2=> ?_
 refine aQ.b (T':=fun c Q E s₂=>wpAny G.M A (truthy c) (fun t s₃=>if t then wpAny G.M A (testChain pos b2 [o2] [eval r2 env]) Q E s₃ else Q false s₃) E s₂) (wy o1 C ⟨_,_,ha⟩ P2.rel (P2.vrel P.rel hv) hv2) fun x q3 ι3 c s3 _ P3 hc=> ?_
 subst hc
 cases x with
 | false=>exact aQ.ret0 P3.rel rfl fun Q E hQ=>wpAny_truthy_bool hQ
 | true =>
  refine (aQ.b (T':=fun c' Q E s₁=>wpAny G.M A (compareOp o2 b2 c') (fun d s₂=>wpAny G.M A (truthy d) Q E s₂) E s₁) (h2 A ι3 q3 s3 ha P3.rel) fun a4 q4 ι4 b4 s4 _ P4 hv4=> ?_).imp fun Q E y=>wpAny_truthy_bool (test_last y)
  exact aQ.b (T':=fun c Q E s=>wpAny G.M A (truthy c) Q E s) (wy o2 C ⟨_,_,ha⟩ P4.rel (P4.vrel P3.rel (P3.vrel P2.rel hv2)) hv4) fun x q5 ι5 c s5 _ P5 hc=>yv P5.rel hc
theorem Cp (C:bA G) {l r1 r2:Expr} {o1 o2:CmpOp} {pos:Pos} {m0 m1 m2:Cm V} (h0:Ev hq k env l m0) (h1:Ev hq k env r1 m1) (h2:Ev hq k env r2 m2) (hm:lastMarks [o1,o2] [r1,r2]=false) :
  Ev hq k env (.Compare l [o1,o2] [r1,r2] pos) (m0.b fun a=>m1.b fun b=>(aL o1 a b).b fun x=>if x then m2.b fun c=>(aL o2 b c).b fun y=> .p (.bool y) else .p (.bool false)):=by
 intro A ι q s ha R
 refine (aQ.b (T':=fun a Q E s₁=>wpAny G.M A (eval r1 env) (fun b s₁=>wpAny G.M A (compareOp o1 a b) (fun c s₂=>wpAny G.M A (truthy c)
   (fun t s₃=>if t then wpAny G.M A (compareChain pos b [o2] [eval r2 env]) Q E s₃ else Q c s₃) E s₂) E s₁) E s₁) (h0 A ι q s ha R) fun a q' ι' b s' _ P hv=> ?_).imp fun Q E x=>Compare_chain (wpAny_mono x (fun a s₁ y=>chain_link y) fun _ _ y=>y) hm
 refine aQ.b (T':=fun b' Q E s₁=>wpAny G.M A (compareOp o1 b b') (fun c s₂=>wpAny G.M A (truthy c)
   (fun t s₃=>if t then wpAny G.M A (compareChain pos b' [o2] [eval r2 env]) Q E s₃ else Q c s₃) E s₂) E s₁) (h1 A ι' q' s' ha P.rel) fun a2 q2 ι2 b2 s2 _ P2 hv2=> ?_
 refine aQ.b (T':=fun c Q E s₂=>wpAny G.M A (truthy c) (fun t s₃=>if t then wpAny G.M A (compareChain pos b2 [o2] [eval r2 env]) Q E s₃ else Q c s₃) E s₂) (wy o1 C ⟨_,_,ha⟩ P2.rel (P2.vrel P.rel hv) hv2) fun x q3 ι3 c s3 _ P3 hc=> ?_
 subst hc
 cases x with
 | false=>exact aQ.ret0 P3.rel (xd false) fun Q E hQ=>wpAny_truthy_bool hQ
 | true =>
  refine (aQ.b (T':=fun c' Q E s₁=>wpAny G.M A (compareOp o2 b2 c') Q E s₁) (h2 A ι3 q3 s3 ha P3.rel) fun a4 q4 ι4 b4 s4 _ P4 hv4=> ?_).imp fun Q E y=>wpAny_truthy_bool (chain_last y)
  exact aQ.b (T':=fun c Q E s=>Q c s) (wy o2 C ⟨_,_,ha⟩ P4.rel (P4.vrel P3.rel (P3.vrel P2.rel hv2)) hv4) fun x q5 ι5 c s5 _ P5 hc=>aQ.ret0 P5.rel (hc▸xd x) fun Q E hQ=>hQ
theorem io {x:Expr} {pos:Pos} {m:Cm Bool} (h1:Tr hq k env x m):Tr hq k env (.UnaryOp .Not x pos) (m.b fun b=> .p (!b)) :=
 fun A ι q s ha R=>(aQ.b (T':=fun b Q E s₁=>Q (!b) s₁) (h1 A ι q s ha R) fun a q' ι' b s' _ P hv=>aQ.ret0 P.rel (hv▸rfl) fun Q E hQ=>hQ).imp fun Q E x=>wpAny_isTrue_Not x
theorem EK {x:Expr} {pos:Pos} {m:Cm V} (h1:Ev hq k env x m):Ev hq k env (.UnaryOp .Not x pos) (m.b fun v=>(bE v).b fun b=> .p (.bool (!b))) :=
 fun A ι q s ha R=>(aQ.b (T':=fun v Q E s₁=>wpAny G.M A (truthy v) (fun b s₁=>Q (.bool (!b)) s₁) E s₁) (h1 A ι q s ha R) fun a q' ι' b s' _ P hv =>
  aQ.b (T':=fun b Q E s₁=>Q (Value.bool (!b)) s₁) (xp P.rel hv) fun a2 q2 ι2 b2 s2 _ P2 hv2=>by subst hv2;exact aQ.ret0 P2.rel (xd _) fun Q E hQ=>hQ).imp fun Q E x=>wpAny_UnaryOp (wpAny_mono x (fun v s₁ y=>not_value y) fun _ _ y=>y)
noncomputable def xK:V→Cm V
 | .int i=> .p (.int (-i))
 | _=> .stk
theorem sC {x:Expr} {pos:Pos} {m:Cm V} (h1:Ev hq k env x m):Ev hq k env (.UnaryOp .USub x pos) (m.b fun v=>xK v) :=
 fun A ι q s ha R=>(aQ.b (T':=fun v Q E s₁=>wpAny G.M A (unaryOp .USub v) Q E s₁) (h1 A ι q s ha R) fun a q' ι' b s' _ P hv=>by
  cases a with
  | int i=>obtain ⟨t,rfl⟩:=hv;exact aQ.ret P.rel (vF _ _) fun Q E hQ=>PySem.P.neg_int hQ
  | _=>trivial).imp fun Q E x=>wpAny_UnaryOp x
theorem gr {e:Expr} {m:Cm V} (h1:Ev hq k env e m) (he:isTrue e env (eval e env)=(do let v ← eval e env;standAt e.pos;holding [v] (truthy v))):Tr hq k env e (m.b fun v=>bE v) :=
 fun A ι q s ha R=>(aQ.b (T':=fun v Q E s₁=>wpAny G.M A (truthy v) Q E s₁) (h1 A ι q s ha R) fun a q' ι' b s' _ P hv=>xp P.rel hv).imp fun Q E x=>wpAny_isTrue_value x he
abbrev Fq (hq:Bool) (k:Nat) (env:Env) (op:BoolOp) (es:List Expr) (m:Cm Bool):Prop:=Sem.Is hq k env (fun A=>kZ A (allTrue op es env)) m (fun _ _ a b=>a=b)
theorem qm:Fq hq k env .And [] (.p true):=fun A ι q s ha R=>aQ.ret0 R rfl fun Q E hQ=>wpAny_allTrue_And_nil hQ
theorem jY:Fq hq k env .Or [] (.p false):=fun A ι q s ha R=>aQ.ret0 R rfl fun Q E hQ=>wpAny_allTrue_Or_nil hQ
theorem jX {x:Expr} {es:List Expr} {m m':Cm Bool} (h1:Tr hq k env x m) (h2:Fq hq k env .And es m'):Fq hq k env .And (x::es) (m.b fun b=>if b then m' else .p false) :=
 fun A ι q s ha R=>(aQ.b (T':=fun b Q E s₁=>if b then wpAny G.M A (allTrue .And es env) Q E s₁ else Q false s₁) (h1 A ι q s ha R) fun a q' ι' b s' _ P hv=>by
  subst hv
  cases a with
  | true=>exact (h2 A ι' q' s' ha P.rel).imp fun Q E x=>x
  | false=>exact aQ.ret0 P.rel rfl fun Q E hQ=>hQ).imp fun Q E x=>wpAny_allTrue_And_cons x
theorem fL {x:Expr} {es:List Expr} {m m':Cm Bool} (h1:Tr hq k env x m) (h2:Fq hq k env .Or es m'):Fq hq k env .Or (x::es) (m.b fun b=>if b then .p true else m') :=
 fun A ι q s ha R=>(aQ.b (T':=fun b Q E s₁=>if b then Q true s₁ else wpAny G.M A (allTrue .Or es env) Q E s₁) (h1 A ι q s ha R) fun a q' ι' b s' _ P hv=>by
  subst hv
  cases a with
  | true=>exact aQ.ret0 P.rel rfl fun Q E hQ=>hQ
  | false=>exact (h2 A ι' q' s' ha P.rel).imp fun Q E x=>x).imp fun Q E x=>wpAny_allTrue_Or_cons x
theorem fG {op:BoolOp} {es:List Expr} {pos:Pos} {m:Cm Bool} (h1:Fq hq k env op es m):Tr hq k env (.BoolOp op es pos) m :=
 fun A ι q s ha R=>(h1 A ι q s ha R).imp fun Q E x=>wpAny_isTrue_BoolOp x
abbrev GW (hq:Bool) (k:Nat) (env:Env) (op:BoolOp) (es:List Expr) (m:Cm V):Prop:= ∀pos,Sem.Is hq k env (fun A=>kZ A (boolOp pos op (evalEach es env))) m (aK)
theorem ry {op:BoolOp} {e:Expr} {m:Cm V} (h1:Ev hq k env e m):GW hq k env op [e] m:=fun pos A ι q s ha R=>(h1 A ι q s ha R).imp fun Q E x=>x
theorem pw {x y:Expr} {es:List Expr} {m m':Cm V} (h1:Ev hq k env x m) (h2:GW hq k env .And (y::es) m') :
  GW hq k env .And (x::y::es) (m.b fun v=>(bE v).b fun b=>if b then m' else .p v):=fun pos A ι q s ha R=>by
 refine (aQ.b (T':=fun v Q E s₁=>wpAny G.M A (truthy v) (fun t s₂=>if t then wpAny G.M A (boolOp pos .And (evalEach (y::es) env)) Q E s₂ else Q v s₂) E s₁) (h1 A ι q s ha R) fun a q' ι' b s' _ P hv =>
  aQ.b (T':=fun t Q E s₂=>if t then wpAny G.M A (boolOp pos .And (evalEach (y::es) env)) Q E s₂ else Q b s₂) (xp P.rel hv) fun a2 q2 ι2 b2 s2 _ P2 hv2=> ?_).imp fun Q E x=> ?_
 ·subst hv2
  cases a2 with
  | true=>exact (h2 pos A ι2 q2 s2 ha P2.rel).imp fun Q E x=>x
  | false=>exact aQ.ret0 P2.rel (P2.vrel P.rel hv) fun Q E hQ=>hQ
 ·show wpAny G.M A (do
   let v ← eval _ env
   standAt pos
   let t ← holding [v] (truthy v)
   match BoolOp.And,t with
   | .And,false | .Or,true=>pure v
   | _,_=>boolOp pos .And (evalEach (y::es) env)) Q E s
  refine wpAny_bind (wpAny_mono x (fun v s₁ h₁=>wpAny_bind (wpAny_standAt (wpAny_bind (wpAny_holding (wpAny_mono h₁ (fun t s₂ h₂=> ?_) fun _ _ x=>x))))) fun _ _ x=>x)
  cases t with
  | false=>exact wpAny_pure h₂
  | true=>exact h₂
theorem kr {op:BoolOp} {es:List Expr} {pos:Pos} {m:Cm V} (h1:GW hq k env op es m):Ev hq k env (.BoolOp op es pos) m :=
 fun A ι q s ha R=>(h1 pos A ι q s ha R).imp fun Q E x=>x
end
section
variable {hq:Bool} {k:Nat} {env:Env} {A:Around} {ι:List Addr} {q:S} {s:Shared} {H:Hp} {h:Heap}
theorem bg {α β:Type} [BEq α] [LawfulBEq α] {x:α} {y:β}:∀ {l:List (α×β)},l.lookup x=some y→(x,y)∈l
  | [],e=>by simp at e
  | (a,b)::r,e=>by
   rw [List.lookup_cons] at e
   split at e
   ·rename_i q;cases e;rw [eq_of_beq q];exact .head _
   ·exact .tail _ (bg e)
theorem aU.ownChange (R:cC A env ι q s) {h':Heap} {tk:Nat} {a:Addr} {l':aY} (ha:a∈own env) (hs:Heap.SameBut a s.heap h')
  (ho:∀o,s.heap.get? a=some o→ ∀es n,o.data= .dict es n→ ∃o',h'.get? a=some o'∧ ∃es n,o'.data= .dict es n)
  (fr':oG s.heap h'→iz env l' ι h' h'):aU A env ι s ι ⟨l',q.H⟩ { s with heap:=h',toks:=tk }:=by
 have ext:=hs.extBut
 have ne:∀b o,s.heap.get? b=some o→b∉own env++ι→h'.get? b=some o:=fun b o e hb=>ext b o (fun q=>hb (List.mem_append_left _ (q▸ha))) e
 have im:=R.imm' (h':=h') fun b o e hW=>⟨o.slots,ne b o e hW⟩
 have kp:Kp (own env++ι) (lX A) s.heap h':=⟨fun b o e=>by
   by_cases hb:b=a
   ·subst hb;obtain ⟨o',e',_⟩:=(fr' im).mut (fun _ _ e=>e) ha;exact ⟨o',e'⟩
   ·exact ⟨o,ext b o hb e⟩,fun b o e hW=>⟨o.slots,ne b o e hW⟩,fun b o e hW _=>ne b o e hW⟩
 have pr:ι<+:ι:=List.prefix_refl _
 have hai:a∉ι:=R.fr.dis a ha
 refine ⟨pr,⟨⟨?_,R.st.len,R.st.nodup,R.st.fresh,?_⟩,fr' im,?_,R.gens,R.os⟩,kp,fun _ h=> .inl h⟩
 ·intro b o e
  exact ext b o (fun q=>by rw [q,R.fr.fresh a ha] at e;cases e) (R.st.keep b o e)
 ·intro j x y e1 e2
  exact (R.st.obj j x y e1 e2).at pr im fun o e=>ext x o (fun q=>hai (q▸List.mem_of_getElem? e1)) e
 ·intro env' he
  obtain ⟨b1,L,o',b2,b3,⟨es,n,b4⟩,b5,b6⟩:=R.fs env' he
  by_cases hL:L=a
  ·subst hL
   obtain ⟨o2,c1,es',n',c2⟩:=ho o' b3 es n b4
   exact ⟨b1,L,o2,b2,c1,⟨es',n',c2⟩,b5,b6⟩
  ·exact ⟨b1,L,o',b2,ext L o' hL b3,⟨es,n,b4⟩,b5,b6⟩
theorem gq {l:aY} {x y:String} {v w:V} (e:upd l x v y=some w):(y=x∧w=v)∨(y≠x∧l y=some w):=by
 unfold upd at e
 split at e
 ·rename_i h;exact .inl ⟨h,(Option.some.inj e).symm⟩
 ·rename_i h;exact .inr ⟨h,e⟩
def yq (env:Env) (x:String):Prop:=env.kindOf (Str.ofString x)=some .local∨(env.kindOf (Str.ofString x)=some .cell∧(env.cells.lookup (Str.ofString x)).isSome=true)
theorem qk {x:String} {v:V} {cv:Value} (hx:yq env x) (R:cC A env ι q s) (hv:aK ι s.heap v cv) :
  aQ A env ι s (.ok () ⟨upd q.l x v,q.H⟩) (fun _ _ _ _=>True) (kZ A (storeName env (Str.ofString x) cv)):=by
 intro Q E hQ
 have hp:(env.scope.kind == .class||(env.scope.kind == .module&&env.locals != env.globals))=false:=by rw [R.fr.kind];rfl
 rcases hx with hx | ⟨hx,hc⟩
 ·obtain ⟨m,hn,hm⟩:=R.fr.loc
  refine wpAny_storeName_local hx hn (fun h' hn' hs=> ?_) hp
  refine hQ ι () _ (aU.ownChange R (.head _) hs (fun o _ es n _=> ?_) fun im=> ?_) trivial
  ·obtain ⟨o',es',ep',h1,h2,_⟩:=hn';exact ⟨o',h1,es',ep',h2⟩
  ·have pr:ι<+:ι:=List.prefix_refl _
   refine ⟨R.fr.kind,R.fr.glob,R.fr.blt,⟨_,hn',fun y w e1 e2=> ?_⟩,fun y w e1 e2=> ?_,fun p hp=> ?_,R.fr.ndup,R.fr.dis,R.fr.fresh⟩
   ·rcases gq e1 with ⟨rfl,rfl⟩ | ⟨hne,e1⟩
    ·exact ⟨cv,by simp,hv.mono pr im⟩
    ·obtain ⟨cw,a,b⟩:=hm y w e1 e2
     exact ⟨cw,by rw [if_neg (fun q=>hne (eQ q))];exact a,b.mono pr im⟩
   ·rcases gq e1 with ⟨rfl,rfl⟩ | ⟨hne,e1⟩
    ·rw [hx] at e2;rcases e2 with e2 | e2<;>cases e2
    ·obtain ⟨c,o,cw,a,b,d,f⟩:=R.fr.cel y w e1 e2
     refine ⟨c,o,cw,a,hs.extBut c o (fun q=> ?_) b,d,f.mono pr im⟩
     obtain ⟨oL,es,ep,hL,hd,_⟩:=hn
     rw [q,hL] at b;cases b;rw [hd] at d;cases d
   ·obtain ⟨o,ov,a,b⟩:=R.fr.cells p hp
    refine ⟨o,ov,hs.extBut p.2 o (fun q=> ?_) a,b⟩
    obtain ⟨oL,es,ep,hL,hd,_⟩:=hn
    rw [q,hL] at a;cases a;rw [hd] at b;cases b
 ·obtain ⟨c,hc⟩:=Option.isSome_iff_exists.mp hc
  have hmem:=bg hc
  have hown:c∈own env:=List.mem_cons_of_mem _ (List.mem_map.mpr ⟨_,hmem,rfl⟩)
  obtain ⟨o,ov,h1,h2⟩:=R.fr.cells _ hmem
  refine wpAny_storeName_cell R.fr.kind hx hc ⟨o,h1,h2⟩ (fun h' hc' hs=> ?_)
  obtain ⟨o',h3,h4⟩:=hc'
  refine hQ ι () _ (aU.ownChange (tk:=s.toks) R hown hs (fun o2 e es n d=> ?_) fun im=> ?_) trivial
  ·dsimp only at h1;rw [h1] at e;cases e;rw [h2] at d;cases d
  ·have pr:ι<+:ι:=List.prefix_refl _
   refine ⟨R.fr.kind,R.fr.glob,R.fr.blt,?_,fun y w e1 e2=> ?_,fun p hp=> ?_,R.fr.ndup,R.fr.dis,R.fr.fresh⟩
   ·obtain ⟨m,hn,hm⟩:=R.fr.loc
    refine ⟨m,hn.sameBut hs (fun q=> ?_),fun y w e1 e2=> ?_⟩
    ·obtain ⟨oL,es,ep,hL,hd,_⟩:=hn
     dsimp only at h1
     rw [q,h1] at hL;cases hL;rw [h2] at hd;cases hd
    ·rcases gq e1 with ⟨rfl,rfl⟩ | ⟨hne,e1⟩
     ·rw [hx] at e2;cases e2
     ·obtain ⟨cw,a,b⟩:=hm y w e1 e2;exact ⟨cw,a,b.mono pr im⟩
   ·rcases gq e1 with ⟨rfl,rfl⟩ | ⟨hne,e1⟩
    ·exact ⟨c,o',cv,hc,h3,h4,hv.mono pr im⟩
    ·obtain ⟨c2,o2,cw,a,b,d,f⟩:=R.fr.cel y w e1 e2
     refine ⟨c2,o2,cw,a,hs.extBut c2 o2 (fun q=> ?_) b,d,f.mono pr im⟩
     subst q
     have hm2:=bg a
     exact hne (eQ (congrArg (·.1) (nodup_snd R.fr.ndup hm2 hmem)))
   ·by_cases hpc:p.2=c
    ·exact ⟨o',some cv,by rw [hpc];exact h3,h4⟩
    ·obtain ⟨o2,ov2,a,b⟩:=R.fr.cells p hp
     exact ⟨o2,ov2,hs.extBut p.2 o2 hpc a,b⟩
where
 nodup_snd:∀ {l:List (Str×Addr)} {x y:Str} {c:Addr},(l.map (·.2)).Nodup→(x,c)∈l→(y,c)∈l→((x,c):Str×Addr)=(y,c)
  | [],_,_,_,_,h,_=>nomatch h
  | p::r,x,y,c,hn,h1,h2=>by
   rw [List.map_cons,List.nodup_cons] at hn
   rcases List.mem_cons.mp h1 with e1 | h1<;>rcases List.mem_cons.mp h2 with e2 | h2
   ·rw [e1,e2]
   ·exact absurd (List.mem_map.mpr ⟨_,h2,by rw [← e1]⟩) hn.1
   ·exact absurd (List.mem_map.mpr ⟨_,h1,by rw [← e2]⟩) hn.1
   ·exact nodup_snd hn.2 h1 h2
theorem wG:ud ι h .next .next:=rfl
noncomputable def an (x:String) (v:V):Cm Unit:=fun q=> .ok () ⟨upd q.l x v,q.H⟩
theorem ak {x:String} {p pos:Pos} {e:Expr} {m:Cm V} (hx:yq env x) (h1:Ev hq k env e m) (hs:swapsWith e (some (.Name (Str.ofString x) p)) pos.line env=pure false) :
  Ex hq k env (.Assign [.Name (Str.ofString x) p] e pos) (m.b fun v=>(an x v).b fun _=> .p .next) :=
 fun A ι q s ha R=>(aQ.b (T':=fun v Q E s₁=>wpAny G.M A (storeName env (Str.ofString x) v) (fun _=>Q .next) E s₁) (h1 A ι q s ha R) fun a q' ι' b s' _ P hv =>
  aQ.b (m:=an x a) (T':=fun _ Q E s₁=>Q Flow.next s₁) (qk hx P.rel hv) fun a2 q2 ι2 b2 s2 _ P2 _=>aQ.ret0 (REL:=ud) P2.rel wG fun Q E hQ=>hQ).imp fun Q E x=>wpAny_Assign_Name x hs
theorem aX {e:Expr} {pos:Pos} {m:Cm V} (h1:Ev hq k env e m):Ex hq k env (.Return (some e) pos) (m.b fun v=> .p (.ret v)) :=
 fun A ι q s ha R=>(aQ.b (T':=fun v Q E s₁=>Q (.ret v) s₁) (h1 A ι q s ha R) fun a q' ι' b s' _ P hv=>aQ.ret0 P.rel ⟨b,rfl,hv⟩ fun Q E hQ=>hQ).imp fun Q E x=>wpAny_Return_some x
theorem cj {test:Expr} {body orelse:List Stmt} {pos:Pos} {m:Cm Bool} {m1 m2:Cm Fl} (h0:Tr hq k env test m) (h1:Cr hq k env body m1) (h2:Cr hq k env orelse m2) :
  Ex hq k env (.If test body orelse pos) (m.b fun b=>if b then m1 else m2) :=
 fun A ι q s ha R=>(aQ.b (T':=fun b Q E s₂=>if b then wpAny G.M A (execs body env) Q E s₂ else wpAny G.M A (execs orelse env) Q E s₂) (h0 A ι q s ha R) fun a q' ι' b s' _ P hv=>by
  subst hv
  cases a with
  | true=>exact (h1 A ι' q' s' ha P.rel).imp fun Q E x=>x
  | false=>exact (h2 A ι' q' s' ha P.rel).imp fun Q E x=>x).imp fun Q E x=>wpAny_If x
noncomputable def au (m:Cm Fl) (m':Cm Fl):Cm Fl:=m.b fun f=>match f with | .next=>m' | .ret v=> .p (.ret v)
theorem aP:Cr hq k env [] (.p .next):=fun A ι q s ha R=>aQ.ret0 R wG fun Q E hQ=>wpAny_execs_nil hQ
theorem ag {st:Stmt} {rest:List Stmt} {m m':Cm Fl} (h1:Ex hq k env st m) (h2:Cr hq k env rest m'):Cr hq k env (st::rest) (au m m') :=
 fun A ι q s ha R=>(aQ.b (T':=fun f Q E s'=>match f with | .next=>wpAny G.M A (execs rest env) Q E s' | f=>Q f s') (h1 A ι q s ha R) fun a q' ι' b s' _ P hv=>by
  cases a with
  | next=>rw [show b= .next from hv];exact (h2 A ι' q' s' ha P.rel).imp fun Q E x=>x
  | ret v=>obtain ⟨cv,rfl,hv⟩:=hv;exact aQ.ret0 P.rel ⟨cv,rfl,hv⟩ fun Q E hQ=>hQ).imp fun Q E x=>wpAny_execs_cons x
theorem al {st:Stmt} {m:Cm Fl} (h1:Ex hq k env st m):Cr hq k env [st] m :=
 fun A ι q s ha R=>(h1 A ι q s ha R).imp fun Q E x=>wpAny_execs_cons (wpAny_mono x (fun f s' y=>by cases f<;>first | exact wpAny_execs_nil y | exact y) fun _ _ y=>y)
theorem dM {e:Expr} {pos:Pos} {m:Cm V} (h1:Ev hq k env e m) (hi:interactive env=false) (hs:swapsWith e none pos.line env=pure false) :
  Ex hq k env (.Expr e pos) (m.b fun _=> .p .next) :=
 fun A ι q s ha R=>(aQ.b (T':=fun v Q E s₁=>Q .next s₁) (h1 A ι q s ha R) fun a q' ι' b s' _ P hv=>aQ.ret0 P.rel wG fun Q E hQ=>hQ).imp fun Q E x=>by
  show wpAny _ _ _ _ _ _
  rw [exec_Expr env e pos hi hs]
  refine wpAny_bind (wpAny_standAt (wpAny_bind (wpAny_mono x (fun v s' h'=> ?_) fun _ _ x=>x)))
  exact wpAny_dropValue h'
end
section
variable {hq:Bool} {k:Nat} {env:Env} {A:Around} {ι:List Addr} {q:S} {s:Shared} {H:Hp} {h:Heap}
noncomputable def vN (f:String) (v:V):List (String×V)→List (String×V)
 | []=>[(f,v)]
 | (g,w)::r=>if g=f then (g,v)::r else (g,w)::vN f v r
theorem ia {f g:String} {t:Tok}:(Value.str (Str.ofString g) t).isStr (Str.ofString f)=decide (g=f):=by
 show (Str.ofString g==Str.ofString f)=_
 by_cases e:g=f
 ·subst e;simp
 ·have:¬Str.ofString g=Str.ofString f:=fun x=>e (eQ x)
  simp [e,this]
theorem qx:∀ {fs:List (String×V)} {es:List DictEntry},rz ι h fs es→ ∀(f:String),
  (match fs.lookup f with | some v=> ∃cv,getL (Str.ofString f) es=some (some cv)∧aK ι h v cv | none=>getL (Str.ofString f) es=some none)
 | [],_,x,f=>by rw [show _=[] from x];rfl
 | (g,w)::fs,_,z2,f=>by
  obtain ⟨t,cv,es',q,a,b⟩:=z2
  subst q
  have ih:=qx b f
  rw [List.lookup_cons]
  dsimp only at a ⊢
  by_cases e:f=g
  ·subst e
   simp only [beq_self_eq_true]
   refine ⟨cv,?_,a⟩
   unfold getL
   rw [List.find?_cons_of_pos (by show Value.isStr _ _=true;rw [ia];simp)]
  ·have e':(f==g)=false:=by simpa using e
   rw [e']
   have hne:¬(g=f):=fun x=>e x.symm
   have:getL (Str.ofString f) (⟨PyData.keyHash G.w.params (Str.ofString g),.str (Str.ofString g) t,cv⟩::es')=getL (Str.ofString f) es':=by
    unfold getL
    rw [List.find?_cons_of_neg (by show ¬(Value.isStr _ _=true);rw [ia];simpa using hne)]
    have:(DictEntry.refKey ⟨PyData.keyHash G.w.params (Str.ofString g),.str (Str.ofString g) t,cv⟩)=false:=rfl
    simp only [List.any_cons,this,Bool.false_or]
   rw [this]
   exact ih
theorem yT {f:String} {v:V} {cv:Value} {tk:Tok} (hv:aK ι h v cv):∀ {fs:List (String×V)} {es:List DictEntry},rz ι h fs es →
  rz ι h (vN f v fs) (putL (Str.ofString f) (PyData.keyHash G.w.params (Str.ofString f)) (.str (Str.ofString f) tk) cv es)
 | [],_,x=>by rw [show _=[] from x];exact ⟨tk,cv,[],rfl,hv,rfl⟩
 | (g,w)::fs,_,z2=>by
  obtain ⟨t,cw,es',q,a,b⟩:=z2
  subst q
  show rz ι h (if g=f then (g,v)::fs else (g,w)::vN f v fs) (if (Value.str (Str.ofString g) t).isStr (Str.ofString f) then _ else _::putL (Str.ofString f) (PyData.keyHash G.w.params (Str.ofString f)) (.str (Str.ofString f) tk) cv es')
  rw [ia]
  by_cases e:g=f
  ·subst e;simp only [decide_true,if_true];exact ⟨t,cv,es',rfl,hv,b⟩
  ·simp only [e,decide_false,Bool.false_eq_true,if_false];exact ⟨t,cw,_,rfl,a,yT hv b⟩
theorem yS:∀ {fs:List (String×V)} {es:List DictEntry},rz ι h fs es→es.length=fs.length
 | [],_,x=>by rw [show _=[] from x];rfl
 | _::_,_,z2=>by obtain ⟨_,_,_,q,_,b⟩:=z2;subst q;simp [yS b]
noncomputable def zS (K:Frag) (C:Addr) (name:Str):Bool:=plainGet K C name&&hasDictIn K C&&(match findIn K (.ref C) name with | some attr=>noGet K attr | none=>false)
noncomputable def DM (K:Frag) (C:Addr) (name:Str):Bool :=
 (findIn K (.ref C) "__setattr__" == some (some (.builtin "object.__setattr__")))&&plainOver K C&&(takerIn K C name==some none)&&hasDictIn K C
def s8 (f:String):Prop:= ∀c C,G.cls c=some C→zS G.K C (Str.ofString f)=true
def s9 (f:String):Prop:= ∀c C,G.cls c=some C→DM G.K C (Str.ofString f)=true
theorem zK {v:V} {cv:Value} (r:aK ι h v cv):handedIn cv=true:=by
 cases v with
 | none=>rw [show cv= .none from r];rfl
 | bool b=>rw [show cv= .bool b from r];rfl
 | int i=>obtain ⟨t,rfl⟩:=r;rfl
 | str y=>obtain ⟨t,rfl⟩:=r;rfl
 | tup xs=>obtain ⟨a,vs,rfl,_⟩:=r;rfl
 | ref i=>obtain ⟨a,_,rfl⟩:=r;rfl
 | inst c i=>obtain ⟨a,x,C,o,_,_,rfl,_⟩:=r;rfl
 | exc c=>obtain ⟨x,C,o,_,rfl,_⟩:=r;rfl
 | scr=>rw [show cv= .ref G.sa from r];rfl
theorem xD (R:eY ι H h) {c:String} {i:Nat} {cv:Value} {fs:List (String×V)} (r:aK ι h (.inst c i) cv) (e:H[i]? = some (.flds fs)) :
  ∃a x C ox es n,A7 (ι[i]? = some a) (G.cls c=some C) (cv= .ref x) (InstAt h x ox C (some (dictOf es n))) (ox.dict=some a) (h.get? a=some (dictOf es n)) (rz ι h fs es):=by
 obtain ⟨a,x,C,o,h1,h2,h3,h4,h5,h6,h7⟩:=r
 obtain ⟨a',es,n,g1,g2,g3⟩:=R.flds e
 obtain rfl:a=a':=Option.some.inj (h1.symm.trans g1)
 exact ⟨a,x,C,o,es,n,h1,h2,h3,⟨h4,h5,by unfold notCls;rw [h7],by rw [h6];exact g2⟩,h6,g2,g3⟩
noncomputable def aA (f:String):V→Cm V
 | .inst _ i=>fun q=>match q.H[i]? with
  | some (.flds fs)=>(match fs.lookup f with | some v=> .ok v q | none=> .stuck)
  | _=> .stuck
 | _=> .stk
theorem Fh (C:bA G) {f:String} (hf:s8 f) {v:V} {cv:Value} {ex:Bool} (R:cC A env ι q s) (h1:aK ι s.heap v cv):aQ A env ι s (aA f v q) (aK) (kZ A (getAttr cv (Str.ofString f) ex)):=by
 cases v with
 | inst c i =>
  unfold aA;dsimp only
  cases e:q.H[i]? with
  | none=>trivial
  | some o =>
  cases o with
  | flds fs =>
   obtain ⟨a,x,C',ox,es,n,g1,g2,rfl,I,g3,g4,g5⟩:=xD R.st h1 e
   have hg:=qx g5 f
   dsimp only
   cases hv:fs.lookup f with
   | none=>trivial
   | some v =>
    rw [hv] at hg
    obtain ⟨cw,hl,hr⟩:=hg
    have hok:=hf c C' g2
    unfold zS at hok
    rw [Bool.and_eq_true,Bool.and_eq_true] at hok
    obtain ⟨⟨k1,k2⟩,k3⟩:=hok
    cases ha:findIn G.K (.ref C') (Str.ofString f) with
    | some attr =>
     rw [ha] at k3
     exact aQ.ret R hr fun Q E hQ=>get_value (C.X.keeps R.st.keep) I (plainGet_of k1).1 (findObj_own k2 ha k3 hl) (zK hr) hQ
    | none=>rw [ha] at k3;cases k3
  | _=>trivial
 | _=>trivial
theorem aC (C:bA G) {f:String} (hf:s8 f) {e:Expr} {pos:Pos} {m:Cm V} (h1:Ev hq k env e m)
  (he:eval (.Attribute e (Str.ofString f) pos) env=(do let o ← eval e env;standAt pos.atName;let r ← holding [o] (getAttr o (Str.ofString f) true);letTemporaryGo e o r;pure r)) :
  Ev hq k env (.Attribute e (Str.ofString f) pos) (m.b fun v=>aA f v) :=
 fun A ι q s ha R=>(aQ.b (T':=fun v Q E s₁=>wpAny G.M A (getAttr v (Str.ofString f) true) Q E s₁) (h1 A ι q s ha R) fun a q' ι' b s' _ P hv=>Fh C hf P.rel hv).imp fun Q E x=>Attribute_any_ x he
theorem Et {prog:Program} {w:World} {K:Frag} {C x dx:Addr} {ox:Obj} {R:Result→Shared→Prop} {name:Str} {tk:Tok} {v:Value} {es:List DictEntry} {n:Nat} {s:Shared} {A:Around} (X:K.In s.heap)
  (I:InstAt s.heap x ox C (some (dictOf es n))) (hd:ox.dict=some dx) (D:s.heap.get? dx=some (dictOf es n)) (hp:plainOver K C=true) (ht:takerIn K C name=some none) (hh:hasDictIn K C=true)
  (hl:(getL name es).isSome=true) (hz:(putL name (PyData.keyHash w.params name) (.str name s.toks) v es).length≤1000)
  (h:∀h',h'.get? dx=some (dictOf (putL name (PyData.keyHash w.params name) (.str name s.toks) v es) (putN name es n))→Heap.SameBut dx s.heap h'→R (.ok (.ret .none)) { s with heap:=h',toks:=s.toks+1 }) :
  codeAny (model prog w) A (.call (.builtin "object.__setattr__") ⟨[.ref x,.str name tk,v],[]⟩) R s:=by
 refine osa_open X I hp ht fun b=> ?_
 obtain ⟨cd,hc,hd'⟩:=any_some hh
 obtain ⟨hx,hcl,hn,-⟩:=I
 obtain ⟨oc,odi,oda,osl⟩:=ox
 dsimp only at hcl hd
 subst hcl hd
 refine wpAny_bind (wpAny_pure (wpAny_bind (wpAny_bind (wpAny_loadPart hx (wpAny_bind ((looks_clsIn X hc).here ?_))))))
 rw [hd']
 refine wpAny_pure (a:=some dx) (wpAny_bind (wpAny_pure (wpAny_bind ?_)))
 unfold nsSet
 refine wpAny_bind (wpAny_bind (wpAny_askSetting (wpAny_pure (wpAny_bind (wpAny_mkText (wpAny_bind (wpAny_loadPart D ?_)))))))
 dsimp only
 have c:(!(es.toArray).any (·.key.isStr name)&&(es.toArray).any (·.refKey))=false:=by
  unfold getL at hl
  split at hl
  ·rename_i en he
   have:(es.toArray).any (·.key.isStr name)=true:=by simpa using ⟨en,List.mem_of_find?_eq_some he,by simpa using List.find?_some he⟩
   rw [this];rfl
  ·split at hl
   ·cases hl
   ·rename_i z
    have:(es.toArray).any (·.refKey)=false:=by simpa using z
    rw [this,Bool.and_false]
 have U:=Heap.get?_update_self (h:=s.heap) (Obj.putName name (PyData.keyHash w.params name) (.str name s.toks) v) D (by rw [putName_dict];rfl)
 rw [putName_dict] at U
 rw [aRefKeyMayBeTheName_at,c]
 refine wpAny_updatePart D ?_
 refine wpAny_bind (wpAny_lookBehind U (pastItsLine_dict (by rw [List.size_toArray,sizeLine_eq];exact bz 0x190bc000003e8a0011 hz)) ?_)
 exact wpAny_pure (h _ U (Heap.SameBut.update ..))
noncomputable def bV (f:String) (v:V):V→Cm Unit
 | .inst _ i=>fun q=>match q.H[i]? with
  | some (.flds fs)=>if fs.length<100 then .ok () { q with H:=q.H.set i (.flds (vN f v fs)) } else .stuck
  | _=> .stuck
 | _=> .stk
theorem yU (f:String) (v:V):∀fs:List (String×V),(vN f v fs).length≤fs.length+1
 | []=>Nat.le_refl _
 | (g,w)::r=>by
  show List.length (if g=f then (g,v)::r else (g,w)::vN f v r)≤_
  split
  ·exact Nat.le_succ _
  ·exact Nat.succ_le_succ (yU f v r)
theorem Bz (C:bA G) {f:String} (hf:s9 f) {o v:V} {co cv:Value} (R:cC A env ι q s) (h1:aK ι s.heap o co) (h2:aK ι s.heap v cv) :
  aQ A env ι s (bV f v o q) (fun _ _ _ _=>True) (kZ A (setAttr co (Str.ofString f) cv)):=by
 cases o with
 | inst c i =>
  unfold bV;dsimp only
  cases e:q.H[i]? with
  | none=>trivial
  | some o =>
  cases o with
  | flds fs =>
   dsimp only
   split
   ·rename_i hlen
    obtain ⟨a,x,C',ox,es,n,g1,g2,rfl,I,g3,g4,g5⟩:=xD R.st h1 e
    have hok:=hf c C' g2
    unfold DM at hok
    simp only [Bool.and_eq_true,beq_iff_eq] at hok
    obtain ⟨⟨⟨k1,k2⟩,k3⟩,k4⟩:=hok
    have hg:=qx g5 f
    have hl:(getL (Str.ofString f) es).isSome=true:=by
     cases hv:fs.lookup f with
     | some v=>rw [hv] at hg;obtain ⟨cw,hg,_⟩:=hg;rw [hg];rfl
     | none=>rw [hv] at hg;rw [hg];rfl
    intro Q E hQ
    have fr:=yT (tk:=s.toks+1) (f:=f) h2 g5
    refine set_plain (C.X.keeps R.st.keep) I k1 (Et (s:={ s with toks:=s.toks+1 }) (C.X.keeps R.st.keep) I g3 g4 k2 k3 k4 hl ?_ fun h' e1 e2=> ?_)
    ·show (putL _ _ (Value.str _ (s.toks+1)) _ _).length≤1000
     rw [yS fr]
     have:=yU f v fs
     exact b0 0x3e8a10190c101000064a0112 hlen this
    ·exact hQ ι () _ (aU.set R g1 e2 fun im=>⟨_,_,e1,fr.mono (List.prefix_refl _) im⟩) trivial
   ·trivial
  | _=>trivial
 | _=>trivial
theorem eA (C:bA G) {f:String} (hf:s9 f) {o e:Expr} {p pos:Pos} {m1 m2:Cm V} (h1:Ev hq k env e m1) (h2:Ev hq k env o m2)
  (hs:swapsWith e (some (.Attribute o (Str.ofString f) p)) pos.line env=pure false) :
  Ex hq k env (.Assign [.Attribute o (Str.ofString f) p] e pos) (m1.b fun v=>m2.b fun o=>(bV f v o).b fun _=> .p .next) :=
 fun A ι q s ha R=>(aQ.b (T':=fun v Q E s₁=>wpAny G.M A (eval o env) (fun ov s₂=>wpAny G.M A (setAttr ov (Str.ofString f) v) (fun _=>Q .next) E s₂) E s₁) (h1 A ι q s ha R) fun a q' ι' b s' _ P hv =>
  aQ.b (T':=fun ov Q E s₁=>wpAny G.M A (setAttr ov (Str.ofString f) b) (fun _=>Q Flow.next) E s₁) (h2 A ι' q' s' ha P.rel) fun a2 q2 ι2 b2 s2 _ P2 hv2 =>
  aQ.b (T':=fun _ Q E s₁=>Q Flow.next s₁) (Bz C hf P2.rel hv2 (P2.vrel P.rel hv)) fun a3 q3 ι3 b3 s3 _ P3 _=>aQ.ret0 P3.rel wG fun Q E hQ=>hQ).imp fun Q E x=>plainObj_wpAny_Assign_Attribute x hs
end
section
variable {hq:Bool} {k:Nat} {env:Env} {A:Around} {ι:List Addr} {q:S} {s:Shared} {H:Hp} {h:Heap}
theorem yY:∀ {vs:List Value} {ns:List Int},IntsAre vs ns→ ∀ {i:Nat} {n:Int},ns[i]? = some n→ ∃t,vs[i]? = some (.int n t)
 | [],[],_,i,n,e=>by simp at e
 | [],_::_,x,_,_,_=>by cases x
 | _::_,[],x,_,_,_=>by cases x
 | v::vs,n0::ns,x,i,n,e=>by
  have hx:(∃t,v= .int n0 t)∧IntsAre vs ns:=by
   cases x with
   | cons a b=>exact ⟨⟨_,rfl⟩,by assumption⟩
  obtain ⟨⟨t,rfl⟩,hx⟩:=hx
  cases i with
  | zero=>simp at e;subst e;exact ⟨t,rfl⟩
  | succ i=>simpa using yY hx (by simpa using e)
theorem pO:∀ {vs:List Value} {ns:List Int},IntsAre vs ns→aN ι h (ns.map .int) vs
 | [],[],_=>vG
 | [],_::_,x=>by cases x
 | _::_,[],x=>by cases x
 | v::vs,n0::ns,x=>by
  have hx:(∃t,v= .int n0 t)∧IntsAre vs ns:=by
   cases x with
   | cons a b=>exact ⟨⟨_,rfl⟩,by assumption⟩
  obtain ⟨⟨t,rfl⟩,hx⟩:=hx
  exact nS (vF _ _) (pO hx)
noncomputable def aj (o i:V):Cm V:=fun q=>match o,i with
 | .ref r,.int k=>(match q.H[r]? with
  | some (.list xs)=>if 0≤k∧k<1000000 then (match xs[k.toNat]? with | some v=> .ok v q | none=> .stuck) else .stuck
  | some (.dict es)=>(match es.lookup k with | some v=> .ok v q | none=> .stuck)
  | _=> .stuck)
 | .tup xs,.int k=>if 0≤k∧k<1000000 then (match xs[k.toNat]? with | some v=> .ok v q | none=> .stuck) else .stuck
 | .scr,.int k=>if 0≤k∧k<1000000 then (match sn[k.toNat]? with | some n=> .ok (.int n) q | none=> .stuck) else .stuck
 | _,_=> .stuck
noncomputable def GZ {α:Type} (q:S) (P:α→Prop):vM S α→Prop
 | .ok v q'=>q'=q∧P v
 | .exc _ _=>False
 | .stuck=>True
theorem aQ.ro {r:vM S V} {T:PT Value} (R:cC A env ι q s) (h:GZ q (fun v=> ∀Q E,(∀cv tk,aK ι s.heap v cv→Q cv { s with toks:=tk })→T Q E s) r):aQ A env ι s r (aK) T:=by
 cases r with
 | ok v q'=>obtain ⟨rfl,h⟩:=h;exact fun Q E x=>h Q E fun cv tk hr=>x ι cv _ (aU.toks R tk) hr
 | exc _ _=>exact h.elim
 | stuck=>trivial
theorem AW (C:bA G) {value slice:Expr} (hs:∀o i,subscripted slice false o i=operate [o,i] (getItem o i)) {o i:V} {co ci:Value} (st:eY ι q.H s.heap) (h1:aK ι s.heap o co) (h2:aK ι s.heap i ci) :
  GZ q (fun v=> ∀Q E,(∀cv tk,aK ι s.heap v cv→Q cv { s with toks:=tk })→wpAny G.M A (subscriptTail value slice co ci) Q E s) (aj o i q):=by
 cases o with
 | ref r =>
  cases i with
  | int k =>
   obtain ⟨a,ha,rfl⟩:=h1
   obtain ⟨t,rfl⟩:=h2
   unfold aj;dsimp only
   cases e:q.H[r]? with
   | none=>trivial
   | some o =>
    cases o with
    | list xs =>
     dsimp only
     split
     ·rename_i hk
      cases hv:xs[k.toNat]? with
      | some v =>
       obtain ⟨a1,n1,vs,g1,g2,g3⟩:=st.list e
       obtain rfl:a=a1:=Option.some.inj (ha.symm.trans g1)
       obtain ⟨cv,hcv,hr⟩:=g3.get hv
       have hl:=g2.isList
       refine ⟨rfl,fun Q E hQ=> ?_⟩;have hQ:=hQ cv s.toks hr;exact tail_any hl.typeIs slot_list_getitem.lookup (wpAny_getItem_list hl hk.1 (by omega) (by simpa using hcv) hQ) (hs _ _)
      | none=>trivial
     ·trivial
    | dict es =>
     dsimp only
     cases hv:es.lookup k with
     | some v =>
      obtain ⟨a1,kvs,g1,g2,g3⟩:=st.dict e
      obtain rfl:a=a1:=Option.some.inj (ha.symm.trans g1)
      have hg:=iA g3 k
      rw [hv] at hg
      obtain ⟨cv,hcv,hr⟩:=hg
      refine ⟨rfl,fun Q E hQ=> ?_⟩;exact tail_any g2.mapOf.typeIs slot_dict_getitem.lookup (wpAny_getItem_of (intKind_is G.prog G.w k t) g2.mapOf hcv (hQ cv _ hr)) (hs _ _)
     | none=>trivial
    | _=>trivial
  | _=>trivial
 | tup xs =>
  cases i with
  | int k =>
   obtain ⟨a,vs,rfl,ht,hv⟩:=h1
   obtain ⟨t,rfl⟩:=h2
   unfold aj;dsimp only
   split
   ·rename_i hk
    cases hx:xs[k.toNat]? with
    | some v =>
     obtain ⟨cv,hcv,hr⟩:=hv.get hx
     have hlen:=(List.getElem?_eq_some_iff.mp hcv).1
     have hj:seqIndex? k vs.toArray.size=some k.toNat:=by
      unfold seqIndex?
      rw [List.size_toArray]
      have:¬(k<0):=cK 0x90d009811 hk.1
      simp only [this,if_false]
      have h2:0≤k∧k<(vs.length:Int):=⟨hk.1,rU 0x1f090f08110112 hlen (Int.self_le_toNat _)⟩
      simp only [h2,and_self,if_true,decide_true,Bool.and_true,Bool.and_self]
     refine ⟨rfl,fun Q E hQ=> ?_⟩;have hQ:=hQ cv s.toks hr;exact tail_any ht.typeIs slot_tuple_getitem.lookup (getItem_tuple ht (by omega) (by omega) hj (by simpa using hcv) hQ) (hs _ _)
    | none=>trivial
   ·trivial
  | _=>trivial
 | scr =>
  cases i with
  | int k =>
   rw [show co= .ref G.sa from h1]
   obtain ⟨t,rfl⟩:=h2
   unfold aj;dsimp only
   split
   ·rename_i hk
    cases hn:sn[k.toNat]? with
    | some n =>
     obtain ⟨t',ht'⟩:=yY C.isInts hn
     have hl:s.heap.IsList G.sa G.sv.toArray:=C.scr.at fun o e=>st.keep _ _ e
     refine ⟨rfl,fun Q E hQ=> ?_⟩;have hQ:=hQ _ s.toks (vF n t');exact tail_any hl.typeIs slot_list_getitem.lookup (wpAny_getItem_list hl hk.1 (by omega) (by simpa using ht') hQ) (hs _ _)
    | none=>trivial
   ·trivial
  | _=>trivial
 | _=>trivial
theorem Fj (C:bA G) {value slice:Expr} (hs:∀o i,subscripted slice false o i=operate [o,i] (getItem o i)) {o i:V} {co ci:Value} (R:cC A env ι q s) (h1:aK ι s.heap o co) (h2:aK ι s.heap i ci) :
  aQ A env ι s (aj o i q) (aK) (kZ A (subscriptTail value slice co ci)):= .ro R (AW C hs R.st h1 h2)
theorem BO (o i:V) (q:S):GZ q (fun _=>True) (aj o i q):=by
 cases o with
 | ref r =>
  cases i with
  | int k =>
   unfold aj;dsimp only
   cases q.H[r]? with
   | none=>trivial
   | some o =>
    cases o with
    | list xs =>
     dsimp only
     by_cases hk:0≤k∧k<1000000
     ·rw [if_pos hk];cases xs[k.toNat]? with
      | some v=>exact ⟨rfl,trivial⟩
      | none=>trivial
     ·rw [if_neg hk];trivial
    | dict es =>
     dsimp only
     cases es.lookup k with
     | some v=>exact ⟨rfl,trivial⟩
     | none=>trivial
    | _=>trivial
  | _=>trivial
 | tup xs =>
  cases i with
  | int k =>
   unfold aj;dsimp only
   by_cases hk:0≤k∧k<1000000
   ·rw [if_pos hk];cases xs[k.toNat]? with
    | some v=>exact ⟨rfl,trivial⟩
    | none=>trivial
   ·rw [if_neg hk];trivial
  | _=>trivial
 | scr =>
  cases i with
  | int k =>
   unfold aj;dsimp only
   by_cases hk:0≤k∧k<1000000
   ·rw [if_pos hk];cases sn[k.toNat]? with
    | some v=>exact ⟨rfl,trivial⟩
    | none=>trivial
   ·rw [if_neg hk];trivial
  | _=>trivial
 | _=>trivial
theorem aw (C:bA G) {e i:Expr} {pos:Pos} {m1 m2:Cm V} (h1:Ev hq k env e m1) (h2:Ev hq k env i m2) (hs:∀o v,subscripted i false o v=operate [o,v] (getItem o v)) :
  Ev hq k env (.Subscript e i pos) (m1.b fun o=>m2.b fun v=>aj o v) :=
 fun A ι q s ha R=>(aQ.b (h1 A ι q s ha R) fun a q' ι' b s' _ P hv=>aQ.b (T':=fun v Q E s₁=>wpAny G.M A (subscriptTail e i b v) Q E s₁) (h2 A ι' q' s' ha P.rel) fun a2 q2 ι2 b2 s2 _ P2 hv2 =>
  Fj C hs P2.rel (P2.vrel P.rel hv) hv2).imp fun Q E x=>Subscript_ x
noncomputable def qu (k:Int) (v:V) (es:List (Int×V)):List (Int×V):=if (es.lookup k).isSome then es.map (fun e=>if e.1=k then (e.1,v) else e) else es++[(k,v)]
noncomputable def bu (o i v:V):Cm Unit:=fun q=>match o,i with
 | .ref r,.int k=>(match q.H[r]? with
  | some (.list xs)=>if 0≤k∧k<1000000∧k<xs.length then .ok () { q with H:=q.H.set r (.list (xs.set k.toNat v)) } else .stuck
  | some (.dict es)=>if es.length<1000000 then .ok () { q with H:=q.H.set r (.dict (qu k v es)) } else .stuck
  | _=> .stuck)
 | _,_=> .stuck
theorem uj:∀ {es:List (Int×V)} {kvs:List (Int×Value)},kq ι h es kvs→kvs.length=es.length
 | [],_,x=>by rw [show _=[] from x];rfl
 | _::_,_,z2=>by obtain ⟨_,_,q,_,b⟩:=z2;subst q;simp [uj b]
theorem uk {k:Int} {v:V} {cv:Value} (hv:aK ι h v cv):∀ {es:List (Int×V)} {kvs:List (Int×Value)},kq ι h es kvs→kq ι h (es.map (fun e=>if e.1=k then (e.1,v) else e)) (kvs.map (fun kv=>if kv.1=k then (kv.1,cv) else kv))
 | [],_,x=>by rw [show _=[] from x];rfl
 | (k',w)::es,_,z2=>by
  obtain ⟨cw,kvs',q,a,b⟩:=z2
  subst q
  rw [List.map_cons,List.map_cons]
  dsimp only
  by_cases e:k'=k
  ·simp only [e,if_true];exact ⟨cv,_,rfl,hv,uk hv b⟩
  ·simp only [e,if_false];exact ⟨cw,_,rfl,a,uk hv b⟩
theorem sF:∀ {es:List (Int×V)} {kvs:List (Int×Value)},kq ι h es kvs→ ∀ {es':List (Int×V)} {kvs':List (Int×Value)},kq ι h es' kvs'→kq ι h (es++es') (kvs++kvs')
 | [],_,x,_,_,y=>by rw [show _=[] from x];exact y
 | _::_,_,z2,_,_,y=>by obtain ⟨cv,kvs',q,a,b⟩:=z2;subst q;exact ⟨cv,_,rfl,a,sF b y⟩
theorem yK {k:Int}:∀ {es:List (Int×V)} {kvs:List (Int×Value)},kq ι h es kvs→kvs.any (fun kv=>kv.1=k)=(es.lookup k).isSome
 | [],_,x=>by rw [show _=[] from x];rfl
 | (k',w)::es,_,z2=>by
  obtain ⟨cw,kvs',q,a,b⟩:=z2
  subst q
  rw [List.any_cons,List.lookup_cons,yK b]
  dsimp only
  by_cases e:k=k'
  ·subst e;simp
  ·have e':(k==k')=false:=by simpa using e
   have e2:¬(k'=k):=fun x=>e x.symm
   rw [e'];simp [e2]
theorem CK {k:Int} {v:V} {cv:Value} (hv:aK ι h v cv) {es:List (Int×V)} {kvs:List (Int×Value)} (x:kq ι h es kvs):kq ι h (qu k v es) (stored kvs k cv):=by
 unfold qu stored
 rw [yK x]
 split
 ·exact uk hv x
 ·exact sF x ⟨cv,[],rfl,hv,rfl⟩
theorem BA (C:bA G) {o i v:V} {co ci cv:Value} (R:cC A env ι q s) (h1:aK ι s.heap o co) (h2:aK ι s.heap i ci) (h3:aK ι s.heap v cv) :
  aQ A env ι s (bu o i v q) (fun _ _ _ _=>True) (kZ A (setItem co ci cv)):=by
 cases o with
 | ref r =>
  cases i with
  | int k =>
   obtain ⟨a,ha,rfl⟩:=h1
   obtain ⟨t,rfl⟩:=h2
   unfold bu;dsimp only
   cases e:q.H[r]? with
   | none=>trivial
   | some o =>
    cases o with
    | list xs =>
     dsimp only
     split
     ·rename_i hk
      obtain ⟨a1,n1,vs,g1,g2,g3⟩:=R.st.list e
      obtain rfl:a=a1:=Option.some.inj (ha.symm.trans g1)
      have hlen:=g3.length
      intro Q E hQ
      refine setItem_plain g2 hk.1 (by omega) (by rw [List.size_toArray,hlen];exact hk.2.2) fun h' e1 e2=> ?_
      refine hQ ι () _ (aU.set (tk:=s.toks) R g1 e2 fun im=>⟨vs.set k.toNat cv,?_,(g3.mono (List.prefix_refl _) im).set _ (h3.mono (List.prefix_refl _) im)⟩) trivial
      simpa using e1
     ·trivial
    | dict es =>
     dsimp only
     split
     ·rename_i hk
      obtain ⟨a1,kvs,g1,g2,g3⟩:=R.st.dict e
      obtain rfl:a=a1:=Option.some.inj (ha.symm.trans g1)
      intro Q E hQ
      refine wpAny_setItem_pairs (intKind_is G.prog G.w k t) g2 (fun h' e1 e2=> ?_) (by rw [uj g3,sizeLine_eq];exact bz 0xb000f4240a0111 hk)
      exact hQ ι () _ (aU.set R g1 e2 fun im=>⟨_,e1,CK (h3.mono (List.prefix_refl _) im) (g3.mono (List.prefix_refl _) im)⟩) trivial
     ·trivial
    | _=>trivial
  | _=>trivial
 | _=>trivial
where
 setItem_plain {prog:Program} {w:World} {A:Around} {E:Value→Shared→Prop} {s:Shared} {l:Addr} {items:Array Value} {n:Nat} {k:Int} {t:Tok} {v:Value} {Q:Unit→Shared→Prop} (hl:IsL s.heap l items n)
   (h0:0≤k) (hfit:k<2 ^ 63) (hn:k<items.size)
   (hQ:∀h',h'.PlainList l (items.setIfInBounds k.toNat v)→Heap.SameBut l s.heap h'→Q () { s with heap:=h' }) :
   wpAny (model prog w) A (setItem (.ref l) (.int k t) v) Q E s :=
  ki_setAt hl h0 hfit hn (hQ _ ⟨_,hl.update _⟩ (Heap.SameBut.update ..))
theorem dI (C:bA G) {o i e:Expr} {p pos:Pos} {m1 m2 m3:Cm V} (h1:Ev hq k env e m1) (h2:Ev hq k env o m2) (h3:Ev hq k env i m3)
  (hs:swapsWith e (some (.Subscript o i p)) pos.line env=pure false) :
  Ex hq k env (.Assign [.Subscript o i p] e pos) (m1.b fun v=>m2.b fun o=>m3.b fun i=>(bu o i v).b fun _=> .p .next) :=
 fun A ι q s ha R=>(aQ.b (T':=fun v Q E s₁=>wpAny G.M A (eval o env) (fun ov s₂=>wpAny G.M A (eval i env) (fun iv s₃=>wpAny G.M A (setItem ov iv v) (fun _=>Q Flow.next) E s₃) E s₂) E s₁) (h1 A ι q s ha R) fun a q' ι' b s' _ P hv =>
  aQ.b (T':=fun ov Q E s₁=>wpAny G.M A (eval i env) (fun iv s₃=>wpAny G.M A (setItem ov iv b) (fun _=>Q Flow.next) E s₃) E s₁) (h2 A ι' q' s' ha P.rel) fun a2 q2 ι2 b2 s2 _ P2 hv2 =>
  aQ.b (T':=fun iv Q E s₁=>wpAny G.M A (setItem b2 iv b) (fun _=>Q Flow.next) E s₁) (h3 A ι2 q2 s2 ha P2.rel) fun a3 q3 ι3 b3 s3 _ P3 hv3 =>
  aQ.b (T':=fun _ Q E s₁=>Q Flow.next s₁) (BA C P3.rel (P3.vrel P2.rel hv2) hv3 (P3.vrel P2.rel (P2.vrel P.rel hv))) fun a4 q4 ι4 b4 s4 _ P4 _=>aQ.ret0 P4.rel wG fun Q E hQ=>hQ).imp fun Q E x=>wpAny_Assign_Subscript x hs
abbrev Bx (hq:Bool) (k:Nat) (env:Env) (es:List Expr) (m:Cm (List V)):Prop:= ∀pos,Sem.Is hq k env (fun A=>kZ A (spliced (backTo pos (starEach es env)))) m (aN)
theorem ai:Bx hq k env [] (.p []):=fun pos A ι q s ha R=>aQ.ret0 R vG fun Q E hQ=>wpAny_items_nil hQ
theorem ae {e:Expr} {es:List Expr} {m:Cm V} {m':Cm (List V)} (h1:Ev hq k env e m) (h2:Bx hq k env es m') (he:starEach (e::es) env=(false,eval e env)::starEach es env) :
  Bx hq k env (e::es) (m.b fun v=>m'.b fun vs=> .p (v::vs)) :=
 fun pos A ι q s ha R=>(aQ.b (T':=fun v Q E s₁=>wpAny G.M A (spliced (backTo pos (starEach es env))) (fun vs s₂=>Q (v::vs) s₂) E s₁) (h1 A ι q s ha R) fun a q' ι' b s' _ P hv =>
  aQ.b (T':=fun vs Q E s₁=>Q (b::vs) s₁) (h2 pos A ι' q' s' ha P.rel) fun a2 q2 ι2 b2 s2 _ P2 hv2=>aQ.ret0 P2.rel (nS (P2.vrel P.rel hv) hv2) fun Q E hQ=>hQ).imp fun Q E x=>wpAny_items_cons x he
noncomputable def dz (vs:List V):Cm V:=fun q=>if vs.length≤1000000 then .ok (.ref q.H.length) { q with H:=q.H++[.list vs] } else .stuck
theorem cD {es:List Expr} {pos:Pos} {m:Cm (List V)} (h1:Bx hq k env es m):Ev hq k env (.List es pos) (m.b fun vs=>dz vs) :=
 fun A ι q s ha R=>(aQ.b (T':=fun vs Q E s₁=>vs.length≤sizeLine∧Q (Value.ref s₁.heap.objs.size) { s₁ with heap:=s₁.heap.push { cls:= .type "list",data:= .seq vs.toArray } }) (h1 pos A ι q s ha R) fun a q' ι' b s' _ P hv=>by
  unfold dz
  split
  ·rename_i hl
   refine aQ.newList (β:=Value) (tk:=s'.toks) P.rel hv fun Q E hQ=>⟨?_,hQ⟩
   rw [hv.length,sizeLine_eq];exact bz 0xb000f4240a0011 hl
  ·trivial).imp fun Q E x=>wpAny_List x
theorem DT {xs:List V} {vs:List Value} (R:cC A env ι q s) (hx:aN ι s.heap xs vs):aK ι (s.heap.push { cls:= .type "tuple",data:= .seq vs.toArray }) (.tup xs) (.ref s.heap.objs.size) :=
 ⟨_,vs,rfl,⟨_,Heap.get?_push_size _ rfl,rfl,0,rfl⟩,hx.mono (List.prefix_refl _) (.of_stays (jm _ _))⟩
noncomputable def kO (vs:List V):Cm V:=if vs.length≤1000000 then .p (.tup vs) else .stk
noncomputable def Ar:Cm V:=fun q=> .ok (.ref q.H.length) { q with H:=q.H++[.dict []] }
theorem dR {es:List Expr} {kk:Nat} {pos:Pos} {m:Cm (List V)} (h1:Bx hq k env es m):Ev hq k env (.Tuple es kk pos) (m.b fun vs=>kO vs) :=
 fun A ι q s ha R=>(aQ.b (T':=fun vs Q E s₁=>vs.length≤sizeLine∧Q (Value.ref s₁.heap.objs.size) { s₁ with heap:=s₁.heap.push { cls:= .type "tuple",data:= .seq vs.toArray } }) (h1 pos A ι q s ha R) fun a q' ι' b s' _ P hv=>by
  unfold kO
  split
  ·rename_i hl
   refine aQ.grew (tk:=s'.toks) P.rel (jm _ _) (DT P.rel hv) fun Q E hQ=>⟨?_,hQ⟩
   rw [hv.length,sizeLine_eq];exact bz 0xb000f4240a0011 hl
  ·trivial).imp fun Q E x=>wpAny_Tuple x
theorem xj {pos:Pos}:Ev hq k env (.Dict [] [] pos) Ar:=fun A ι q s ha R =>
 aQ.alloc (tk:=s.toks) (h':=s.heap.push { cls:= .type "dict",data:= .dict #[] }) R (jm _ _) (Heap.get?_none_of_le (Nat.le_refl _))
  ⟨[],⟨_,#[],0,Heap.get?_push_size _ rfl,⟨rfl,rfl,rfl⟩,rfl,fun _ he=>by simp at he,Pairs.nil,List.nodup_nil⟩,rfl⟩ (jC R.st _) fun Q E hQ=>by
  show wpAny _ _ (do standAt pos;dictDisplay []) Q E s
  refine wpAny_bind (wpAny_standAt ?_)
  show wpAny _ _ newDict Q E s
  exact wpAny_newObj_type hQ
noncomputable def ay (o:V) (H:Hp):Option (List V):=match o with
 | .ref i=>(match H[i]? with | some (.list xs)=>some xs | _=>none)
 | .scr=>some (sn.map .int)
 | _=>none
noncomputable def wY (o u:V):Cm V:=fun q=>match ay o q.H,u with
 | some xs,.int b=>if 0≤b∧xs.length≤1000000 then .ok (.ref q.H.length) { q with H:=q.H++[.list (xs.take b.toNat)] } else .stuck
 | _,_=> .stuck
noncomputable def yM (o u:V):Cm V:=fun q=>match ay o q.H,u with
 | some xs,.int b=>if 0≤b∧xs.length≤1000000 then .ok (.ref q.H.length) { q with H:=q.H++[.list (xs.drop b.toNat)] } else .stuck
 | _,_=> .stuck
theorem gc (C:bA G) {o:V} {co:Value} {xs:List V} (R:eY ι H h) (r:aK ι h o co) (e:ay o H=some xs):∃a vs,A3 (co= .ref a) (h.IsList a (List.toArray vs)) (aN ι h xs vs):=by
 refine wK fun X' kX=> ?_
 cases o with
 | ref i =>
  unfold ay at e;dsimp only at e
  cases hx:H[i]? with
  | none=>rw [hx] at e;cases e
  | some o =>
   rw [hx] at e
   cases o with
   | list ys =>
    cases e
    obtain ⟨a,ha,rfl⟩:=r
    obtain ⟨a1,n1,vs,g1,g2,g3⟩:=R.list hx
    obtain rfl:a=a1:=Option.some.inj (ha.symm.trans g1)
    exact kX ⟨a,vs,rfl,g2.isList,g3⟩
   | _=>cases e
 | scr =>
  cases e
  obtain rfl:co= .ref G.sa:=r
  exact kX ⟨_,_,rfl,C.scr.at fun o e=>R.keep _ _ e,pO C.isInts⟩
 | _=>cases e
theorem uz {o:V} {co:Value} {xs:List V} {ι':List Addr} {h':Heap} (e:ay o H=some xs) (r:aK ι h o co) (p:ι<+:ι'):aK ι' h' o co:=by
 cases o with
 | ref i=>obtain ⟨a,e1,e2⟩:=r;exact ⟨a,getElem?_prefix p e1,e2⟩
 | scr=>exact r
 | _=>cases e
theorem Al {o:V} {xs:List V} (e:ay o H=some xs):(∃i,o= .ref i)∨o= .scr:=by
 cases o with
 | ref i=>exact .inl ⟨_,rfl⟩
 | scr=>exact .inr rfl
 | _=>cases e
theorem wX {value:Expr} {lower upper:Option Expr} {p:Pos} {l:Addr} {vs:List Value} {vl vu:Value} {lo hi:Option Int} {A:Around} {E:Value→Shared→Prop} {s:Shared} {Q:Value→Shared→Prop} {prog:Program} {w:World}
  (hl:s.heap.IsList l vs.toArray) (pl:IsPart vl lo) (pu:IsPart vu hi) (hsz:vs.length≤sizeLine)
  (h:Q (.ref (s.heap.objs.size+1)) { s with heap:=(s.heap.push { cls:= .type "slice",data:= .fields #[vl,vu,.none] }).push { cls:= .type "list",data:= .seq (slicePick vs.toArray lo hi none) } }) :
  wpAny (model prog w) A (subscriptTail value (.Slice lower upper none p) (.ref l) (.ref s.heap.objs.size)) Q E { s with heap:=s.heap.push { cls:= .type "slice",data:= .fields #[vl,vu,.none] } }:=by
 have hl':=hl.push { cls:= .type "slice",data:= .fields #[vl,vu,.none] }
 refine tail_any (ops:=[.ref s.heap.objs.size,.ref l]) (Heap.IsList.typeIs (s:={ s with heap:=s.heap.push { cls:= .type "slice",data:= .fields #[vl,vu,.none] } }) hl') slot_list_getitem.lookup ?_ rfl
 refine wpAny_getItem_list_slice hl' (Heap.IsSliceOf.new ..) pl pu .none (by simp) ?_ (by simpa using hsz)
 rw [Heap.size_push]
 exact h
theorem Cq (C:bA G) {e u:Expr} {p pos:Pos} {m1 m2:Cm V} (h1:Ev hq k env e m1) (h2:Ev hq k env u m2) :
  Ev hq k env (.Subscript e (.Slice none (some u) none p) pos) (m1.b fun o=>m2.b fun v=>wY o v):=by
 intro A ι q s ha R
 refine (aQ.b (h1 A ι q s ha R) fun a q' ι' b s' _ P hv=>aQ.b (T':=fun v Q E s₁=>wpAny G.M A (subscriptTail e (.Slice none (some u) none p) b (.ref s₁.heap.objs.size)) Q E { s₁ with heap:=s₁.heap.push { cls:= .type "slice",data:= .fields #[.none,v,.none] } })
  (h2 A ι' q' s' ha P.rel) fun a2 q2 ι2 b2 s2 _ P2 hv2=> ?_).imp fun Q E x=>Subscript_ (wpAny_mono x (fun o s₁ y=>wpAny_Slice (wpAny_pure (wpAny_mono y (fun v s₂ z=>wpAny_pure z) fun _ _ z=>z))) fun _ _ y=>y)
 unfold wY
 cases e1:ay a q2.H with
 | none=>trivial
 | some xs =>
 cases a2 with
 | int n =>
  dsimp only
  split
  ·rename_i hn
   obtain ⟨t,rfl⟩:=hv2
   obtain ⟨l,vs,rfl,g1,g2⟩:=gc C P2.rel.st (P2.vrel P.rel hv) e1
   refine aQ.alloc (tk:=s2.toks) P2.rel (a:=s2.heap.objs.size+1) (h':=(s2.heap.push { cls:= .type "slice",data:= .fields #[.none,.int n t,.none] }).push { cls:= .type "list",data:= .seq (vs.take n.toNat).toArray }) (fun b o e=>Heap.get?_push_of_some _ (Heap.get?_push_of_some _ e)) (Heap.get?_none_of_le (Nat.le_succ _)) ⟨vs.take n.toNat,⟨0,?_⟩,?_⟩ (jC P2.rel.st _) fun Q E hQ=> ?_
   ·have:=Heap.get?_push_size (s2.heap.push { cls:= .type "slice",data:= .fields #[.none,.int n t,.none] }) (o:={ cls:= .type "list",data:= .seq (vs.take n.toNat).toArray }) rfl
    rwa [Heap.size_push] at this
   ·exact (g2.take n.toNat).mono (List.prefix_append _ _) (.of_stays fun b o e=>Heap.get?_push_of_some _ (Heap.get?_push_of_some _ e))
   ·refine wX g1 .none (.int n t) (by rw [g2.length,sizeLine_eq];exact bz 0xb000f4240a0011 hn.2) ?_
    have:=slicePick_upto' vs.toArray n.toNat
    rw [Int.toNat_of_nonneg hn.1] at this
    rw [this]
    exact hQ
  ·trivial
 | _=>trivial
theorem Fe (C:bA G) {e u:Expr} {p pos:Pos} {m1 m2:Cm V} (h1:Ev hq k env e m1) (h2:Ev hq k env u m2) :
  Ev hq k env (.Subscript e (.Slice (some u) none none p) pos) (m1.b fun o=>m2.b fun v=>yM o v):=by
 intro A ι q s ha R
 refine (aQ.b (h1 A ι q s ha R) fun a q' ι' b s' _ P hv=>aQ.b (T':=fun v Q E s₁=>wpAny G.M A (subscriptTail e (.Slice (some u) none none p) b (.ref s₁.heap.objs.size)) Q E { s₁ with heap:=s₁.heap.push { cls:= .type "slice",data:= .fields #[v,.none,.none] } })
  (h2 A ι' q' s' ha P.rel) fun a2 q2 ι2 b2 s2 _ P2 hv2=> ?_).imp fun Q E x=>Subscript_ (wpAny_mono x (fun o s₁ y=>wpAny_Slice (wpAny_mono y (fun v s₂ z=>wpAny_pure (wpAny_pure z)) fun _ _ z=>z)) fun _ _ y=>y)
 unfold yM
 cases e1:ay a q2.H with
 | none=>trivial
 | some xs =>
 cases a2 with
 | int n =>
  dsimp only
  split
  ·rename_i hn
   obtain ⟨t,rfl⟩:=hv2
   obtain ⟨l,vs,rfl,g1,g2⟩:=gc C P2.rel.st (P2.vrel P.rel hv) e1
   refine aQ.alloc (tk:=s2.toks) P2.rel (a:=s2.heap.objs.size+1) (h':=(s2.heap.push { cls:= .type "slice",data:= .fields #[.int n t,.none,.none] }).push { cls:= .type "list",data:= .seq (vs.drop n.toNat).toArray }) (fun b o e=>Heap.get?_push_of_some _ (Heap.get?_push_of_some _ e)) (Heap.get?_none_of_le (Nat.le_succ _)) ⟨vs.drop n.toNat,⟨0,?_⟩,?_⟩ (jC P2.rel.st _) fun Q E hQ=> ?_
   ·have:=Heap.get?_push_size (s2.heap.push { cls:= .type "slice",data:= .fields #[.int n t,.none,.none] }) (o:={ cls:= .type "list",data:= .seq (vs.drop n.toNat).toArray }) rfl
    rwa [Heap.size_push] at this
   ·exact (g2.drop n.toNat).mono (List.prefix_append _ _) (.of_stays fun b o e=>Heap.get?_push_of_some _ (Heap.get?_push_of_some _ e))
   ·refine wX g1 (.int n t) .none (by rw [g2.length,sizeLine_eq];exact bz 0xb000f4240a0011 hn.2) ?_
    have:=slicePick_from' vs.toArray n.toNat
    rw [Int.toNat_of_nonneg hn.1] at this
    rw [this]
    exact hQ
  ·trivial
 | _=>trivial
end
structure uc (A:Around) (ι:List Addr) (s:Shared) (ι':List Addr) (H':Hp) (s':Shared):Prop where
 pre:ι<+:ι'
 st:eY ι' H' s'.heap
 fs:pz (A.frames.getD []) ι' s'.heap
 kp:Kp ι (lX A) s.heap s'.heap
 new:∀a∈ι',a∈ι∨s.heap.get? a=none
 gens:s'.gens = #[]
 os:s'.os=G.os
inductive G8 (fs:List Env) (fa:List Addr) (ι:List Addr) (h:Heap) (c:String) (ι':List Addr) (H':Hp) (h':Heap) (ev:Value) (e C:Addr) (B:Heap) (a0:Value):Prop
 | mk (z0:ev= .ref e) (z1:G.xcl c=some C) (z2:Heap.FlyingW B fs e (.ref C) a0 h') (z3:eY ι' H' B) (z4:pz fs ι' h') (z5:∀a o,h.get? a=some o→a∉ι→a∉fa→B.get? a=some o)
structure pv (A:Around) (ι:List Addr) (s:Shared) (c:String) (ι':List Addr) (H':Hp) (s':Shared) (ev:Value):Prop where
 pre:ι<+:ι'
 ex:∃e C B a0,G8 (A.frames.getD []) (lX A) ι s.heap c ι' H' s'.heap ev e C B a0
 size:zN s.heap s'.heap
 up:∀a o,s.heap.get? a=some o→a∉ι→ ∃sl,s'.heap.get? a=some { o with slots:=sl }
 new:∀a∈ι',a∈ι∨s.heap.get? a=none
 gens:s'.gens = #[]
 os:s'.os=G.os
def bQ (hq:Bool) (k:Nat) (f:Addr) (F:Fc):Prop :=
 ∀A ι H s vs cvs,ROk hq k A→(∃fs,A.frames=some fs)→eY ι H s.heap→pz (A.frames.getD []) ι s.heap→s.gens = #[]→s.os=G.os→aN ι s.heap vs cvs →
  match F vs H with
  | .ok v H'=> ∀R:Result→Shared→Prop,(∀ι' cv s',uc A ι s ι' H' s'→aK ι' s'.heap v cv→R (.ok (.ret cv)) s')→codeAny G.M A (.call (.ref f) ⟨cvs,[]⟩) R s
  | .exc c H'=> ∀R:Result→Shared→Prop,(∀ι' ev s',pv A ι s c ι' H' s' ev→R (.error ev) s')→codeAny G.M A (.call (.ref f) ⟨cvs,[]⟩) R s
  | .stuck=>True
section
variable {hq:Bool} {k:Nat} {env:Env} {A:Around} {ι ι':List Addr} {q:S} {s s':Shared} {H H':Hp} {h:Heap}
theorem ROk.mono {k':Nat} (x:ROk hq k A) (hk:k'≤k):ROk hq k' A:=⟨x.hd,by have:=x.depth;exact tn 0x320a003d2c0000320a103d2c0110032 hk this,by have:=x.units;omega⟩
theorem bQ.mono {f:Addr} {F:Fc} {k':Nat} (x:bQ hq k f F) (hk:k≤k'):bQ hq k' f F:=fun A ι H s vs cvs r=>x A ι H s vs cvs (r.mono hk)
theorem ec (R:pz (A.frames.getD []) ι h) {a:Addr} (ha:a∈lX A):∃o,h.get? a=some o∧ ∃es n,o.data= .dict es n:=by
 obtain ⟨e,he,hf⟩:=List.mem_filterMap.mp ha
 obtain ⟨_,L,o,h1,h2,h3,_⟩:=R e he
 obtain rfl:L=a:=Option.some.inj (h1.symm.trans hf)
 exact ⟨o,h2,h3⟩
theorem iz.after (R:cC A env ι q s) {hv hl:Heap} (pre:ι<+:ι') (new:∀a∈ι',a∈ι∨s.heap.get? a=none)
  (up:∀a o,s.heap.get? a=some o→a∉ι→ ∃sl,hl.get? a=some { o with slots:=sl })
  (ex:∀a o,s.heap.get? a=some o→a∉ι→a∉lX A→hv.get? a=some o):iz env q.l ι' hv hl:=by
 have im:oG s.heap hv:=fun a o e hm=>⟨o.slots,ex a o e (fun hi=>by
   obtain ⟨o',e',hm'⟩:=R.st.mut hi
   rw [e] at e';cases e';exact hm hm') fun hf=>by
   obtain ⟨o',e',es,n,hd⟩:=ec R.fs hf
   rw [e] at e';cases e';exact hm (.inr (.inl ⟨es,n,hd⟩))⟩
 have cellEx:∀c o v,s.heap.get? c=some o→o.data= .cell v→c∈own env→hv.get? c=some o:=fun c o v e hd ho=>ex c o e (R.fr.dis c ho) fun hf=>by
   obtain ⟨o',e',es,n,hd'⟩:=ec R.fs hf
   rw [e] at e';cases e';rw [hd] at hd';cases hd'
 refine ⟨R.fr.kind,R.fr.glob,R.fr.blt,?_,?_,?_,R.fr.ndup,?_,R.fr.fresh⟩
 ·obtain ⟨m,⟨o,es,ep,ho,hd,r⟩,hm⟩:=R.fr.loc
  obtain ⟨sl,hs⟩:=up env.locals o ho (R.fr.dis _ (.head _))
  exact ⟨m,⟨_,es,ep,hs,hd,r⟩,fun y v e e2=>let ⟨cv,a,b⟩:=hm y v e e2;⟨cv,a,b.mono pre im⟩⟩
 ·intro y v e e2
  obtain ⟨c,o,cv,h1,h2,h3,h4⟩:=R.fr.cel y v e e2
  exact ⟨c,o,cv,h1,cellEx c o _ h2 h3 (List.mem_cons_of_mem _ (List.mem_map.mpr ⟨_,bg h1,rfl⟩)),h3,h4.mono pre im⟩
 ·intro p hp
  obtain ⟨o,ov,h1,h2⟩:=R.fr.cells p hp
  exact ⟨o,ov,cellEx p.2 o _ h1 h2 (List.mem_cons_of_mem _ (List.mem_map.mpr ⟨p,hp,rfl⟩)),h2⟩
 ·intro a ha hi
  rcases new a hi with h1 | h1
  ·exact R.fr.dis a ha h1
  ·obtain ⟨o,e,_⟩:=R.fr.mut (fun _ _ e=>e) ha
   rw [h1] at e;cases e
theorem aU.ofC (R:cC A env ι q s) (c:uc A ι s ι' H' s'):aU A env ι s ι' ⟨q.l,H'⟩ s' where
 pre:=c.pre
 rel:=⟨c.st,iz.after R c.pre c.new c.kp.up c.kp.ex,c.fs,c.gens,c.os⟩
 kp:=⟨c.kp.size,fun a o e hW=>c.kp.up a o e fun h=>hW (List.mem_append_right _ h),fun a o e hW hf=>c.kp.ex a o e (fun h=>hW (List.mem_append_right _ h)) hf⟩
 new:=c.new
theorem dE.ofC {c:String} {ev:Value} (ha:jD hq k A env) (R:cC A env ι q s) (x:pv A ι s c ι' H' s' ev):dE A env ι s c ι' ⟨q.l,H'⟩ s' ev where
 pre:=x.pre
 ex:=by
  obtain ⟨e,C,B,a0,h1,h2,h3,h4,h5,h6⟩:=x.ex
  obtain ⟨fenv,rest,f1,f2,_⟩:=ha.fr
  have hm:fenv∈A.frames.getD []:=by rw [f1];exact .head _
  obtain ⟨_,L,o,g1,_⟩:=R.fs fenv hm
  refine ⟨e,C,B,L,h1,h2,by rw [← f2];exact g1,?_,h4,iz.after R x.pre x.new x.up h6,h5,fun a o e' hW hf=>h6 a o e' (fun h=>hW (List.mem_append_right _ h)) hf⟩
  obtain ⟨b1,b2,b3,oe,vs,T,oT,ts,c1,⟨c2,c2'⟩,c3,c4,c5,c6,c7,c8,c9⟩:=h3
  exact ⟨b1,b2,b3,oe,vs,a0,c1,c2,c3,c2',.inr ⟨T,oT,ts,.none,c4,c5,c6,c7,c8,c9,.inl rfl⟩⟩
 size:=x.size
 up:=fun a o e hW=>x.up a o e fun h=>hW (List.mem_append_right _ h)
 new:=x.new
 gens:=x.gens
 os:=x.os
noncomputable def aD (F:Fc) (vs:List V):Cm V:=fun q=>match F vs q.H with
 | .ok v H'=> .ok v ⟨q.l,H'⟩
 | .exc c H'=> .exc c ⟨q.l,H'⟩
 | .stuck=> .stuck
abbrev zL (Q:Value→Shared→Prop) (E:Value→Shared→Prop):Result→Shared→Prop:=fun r s'=>match r with | .ok (.ret v)=>Q v s' | .ok _=>False | .error e=>E e s'
theorem Cv {f:Addr} {F:Fc} {k0:Nat} (hF:bQ hq k0 f F) (hk:k0≤k) (ha:jD hq k A env) (R:cC A env ι q s) {vs:List V} {cvs:List Value} (hv:aN ι s.heap vs cvs) :
  aQ A env ι s (aD F vs q) (aK) (fun Q E s=>codeAny G.M A (.call (.ref f) ⟨cvs,[]⟩) (zL Q E) s):=by
 have hr:=hF A ι q.H s vs cvs (ha.toROk.mono hk) (let ⟨fenv,rest,h1,_⟩:=ha.fr;⟨_,h1⟩) R.st R.fs R.gens R.os hv
 unfold aD
 cases h:F vs q.H with
 | stuck=>trivial
 | ok v H'=>rw [h] at hr;exact fun Q E hQ=>hr _ fun ι' cv s' c r=>hQ ι' cv s' (aU.ofC R c) r
 | exc c H'=>rw [h] at hr;exact fun Q E hQ=>hr _ fun ι' ev s' x=>hQ ι' ev s' (dE.ofC ha R x)
theorem cE {M:Model} {A:Around} {E:Value→Shared→Prop} {s:Shared} {f:Value} {Q:Args→Shared→Prop}:∀ {args:List (Bool×Sem Value)},args.any (·.1)=false →
  wpAny M A (spliced args) (fun vs s'=>Q ⟨vs,[]⟩ s') E s→wpAny M A (evalArgs f true args []) Q E s
 | [],_,h=>by
  unfold evalArgs
  show wpAny M A (spliced [] >>= _) Q E s
  refine wpAny_bind (wpAny_mono h (fun vs s' h'=> ?_) fun _ _ x=>x)
  refine wpAny_bind (wpAny_pure ?_)
  refine wpAny_holding ?_
  exact wpAny_bind (wpAny_pure (wpAny_bind (wpAny_pure (wpAny_pure h'))))
 | (false,x)::rest,_,h=>Calls.evalArgs_plain h
 | (true,x)::rest,hp,_=>by simp at hp
theorem bG (C:bA G) {x:String} {f:Addr} {F:Fc} {k0:Nat} {es:List Expr} {p pos:Pos} {m:Cm (List V)} (hx:env.kindOf (Str.ofString x)=some .globalImplicit)
  (hv:nsIn G.K mainGlobals (Str.ofString x)=some (some (.ref f))) (hfn:fnIn G.K f=true) (hd:(Str.ofString x==("__debug__" : Str))=false) (hF:bQ hq k0 f F) (hk:k0≤k) (h1:Bx hq k env es m)
  (hp:(backTo pos (starEach es env)).any (·.1)=false) :
  Ev hq k env (.Call (.Name (Str.ofString x) p) es [] pos) (m.b fun vs=>aD F vs):=by
 intro A ι q s ha R
 unfold fnIn at hfn
 split at hfn
 ·rename_i oc od fd sl hl
  refine (aQ.b (T':=fun vs Q E s₁=>s₁.heap.get? f=some ⟨oc,od,.func fd,sl⟩∧codeAny G.M A (.call (.ref f) ⟨vs,[]⟩) (zL Q E) s₁) (h1 pos A ι q s ha R) fun a q' ι' b s' _ P hv =>
   (Cv hF hk ha P.rel hv).imp fun Q E z=>⟨P.rel.st.keep _ _ (C.X _ _ hl),z⟩).imp fun Q E y=> ?_
  show wpAny G.M A (do callWith pos (← eval (.Name (Str.ofString x) p) env) [] (backTo pos (starEach es env)) []) Q E s
  refine wpAny_bind (kJ C R hx hv hd ?_)
  exact Calls.callWith_function (cE hp (wpAny_mono y (fun vs s₁ z=>⟨⟨z.1,rfl⟩,wpAny_call z.2⟩) fun _ _ z=>z))
 ·cases hfn
end
section
variable {hq:Bool} {k:Nat} {env:Env} {A:Around} {ι ι':List Addr} {q:S} {s s':Shared} {H H':Hp} {h:Heap}
theorem mO {M:Model} {A:Around} {E:Value→Shared→Prop} {s:Shared} {o:Expr} {name:Str} {apos pos:Pos} {args:List Expr} {Q:Value→Shared→Prop}
  (hbase:attributeBase o name env (eval o env)=eval o env) (hform:methodCallForm args.length (backTo pos (starEach args env)) []=true) (hline:(apos.endLine==pos.line)=true)
  (h:wpAny M A (eval o env) (fun ov s₁=>wpAny M A (getMethod ov name (do return (← importBound o env).getD true)) (fun fp s₂=>wpAny M A (callWith pos fp.1 fp.2 (backTo pos (starEach args env)) []) Q E s₂) E s₁) E s) :
  wpAny M A (eval (.Call (.Attribute o name apos) args [] pos) env) Q E s:=by
 rw [arm_eval_Call,hbase]
 refine wpAny_bind (wpAny_mono h (fun ov s₁ h₁=>wpAny_bind (wpAny_standAt ?_)) fun _ _ e=>e)
 have hform':methodCallForm (args.length+([]:List Keyword).length) (backTo pos (starEach args env)) (backToKw pos (keywordEach [] env))=true:=hform
 have hpos:methodCallPos true o env apos pos=pure pos:=by unfold methodCallPos;simp [hline]
 unfold methodCall
 rw [hform']
 show wpAny M A (holding [ov] (getMethod ov name _) >>= _) Q E s₁
 exact wpAny_bind (wpAny_holding (wpAny_mono h₁ (fun fp s₂ h₂=>wpAny_bind (wpAny_of_eq hpos h₂)) fun _ _ e=>e))
noncomputable def bX (K:Frag) (C f:Addr) (name:Str):Bool:=plainGet K C name&&(findIn K (.ref C) name==some (some (.ref f)))&&isFn K (.ref f)&&fnIn K f
noncomputable def aJ (c0 f:String) (v:V):Cm Unit:=fun q=>match v with
 | .inst c i=>if c=c0 then (match q.H[i]? with
  | some (.flds fs)=>(match fs.lookup f with | some _=> .stuck | none=> .ok () q)
  | _=> .stuck) else .stuck
 | _=> .stuck
theorem Dj {c0 f:String} {v:V} {q:S}:aJ c0 f v q= .stuck∨(aJ c0 f v q= .ok () q∧ ∃i fs,v= .inst c0 i∧q.H[i]? = some (.flds fs)∧fs.lookup f=none):=by
 cases v with
 | inst c i =>
  unfold aJ;dsimp only
  split
  ·rename_i hc
   subst hc
   cases e:q.H[i]? with
   | none=>exact .inl rfl
   | some o =>
   cases o with
   | flds fs =>
    dsimp only
    cases hn:fs.lookup f with
    | some _=>exact .inl rfl
    | none=>exact .inr ⟨rfl,i,fs,rfl,e,hn⟩
   | _=>exact .inl rfl
  ·exact .inl rfl
 | _=>exact .inl rfl
theorem aO (C:bA G) {c0 name:String} {C0 f:Addr} {F:Fc} {k0:Nat} {o:Expr} {es:List Expr} {apos pos:Pos} {m0:Cm V} {m:Cm (List V)} (hc:G.cls c0=some C0) (hok:bX G.K C0 f (Str.ofString name)=true)
  (hF:bQ hq k0 f F) (hk:k0≤k) (h0:Ev hq k env o m0) (h1:Bx hq k env es m)
  (hbase:attributeBase o (Str.ofString name) env (eval o env)=eval o env) (hform:methodCallForm es.length (backTo pos (starEach es env)) []=true) (hline:(apos.endLine==pos.line)=true)
  (hp:(backTo pos (starEach es env)).any (·.1)=false) :
  Ev hq k env (.Call (.Attribute o (Str.ofString name) apos) es [] pos) (m0.b fun v=>(aJ c0 name v).b fun _=>m.b fun vs=>aD F (v::vs)):=by
 intro A ι q s ha R
 unfold bX at hok
 simp only [Bool.and_eq_true,beq_iff_eq] at hok
 obtain ⟨⟨⟨k1,k2⟩,k3⟩,k4⟩:=hok
 unfold fnIn at k4
 split at k4
 ·rename_i oc od fd sl hl
  refine (aQ.b (T':=fun ov Q E s₁=>wpAny G.M A (getMethod ov (Str.ofString name) (do return (← importBound o env).getD true)) (fun fp s₂=>wpAny G.M A (callWith pos fp.1 fp.2 (backTo pos (starEach es env)) []) Q E s₂) E s₁)
   (h0 A ι q s ha R) fun v q' ι' b s' _ P hv=> ?_).imp fun Q E y=>mO hbase hform hline y
  rcases Dj (c0:=c0) (f:=name) (v:=v) (q:=q') with hst | ⟨hok,i,fs,rfl,e,hnone⟩
  ·rw [bk hst];trivial
  ·rw [dP hok]
   obtain ⟨a,x,C',ox,es',n,g1,g2,rfl,I,g3,g4,g5⟩:=xD P.rel.st hv e
   have hgl:=qx g5 name
   rw [hnone] at hgl
   obtain rfl:C'=C0:=Option.some.inj (g2.symm.trans hc)
   refine (aQ.b (T':=fun vs Q E s₁=>s₁.heap.get? f=some ⟨oc,od,.func fd,sl⟩∧codeAny G.M A (.call (.ref f) ⟨.ref x::vs,[]⟩) (zL Q E) s₁) (h1 pos A ι' q' s' ha P.rel) fun vs q2 ι2 b2 s2 _ P2 hv2=> ?_).imp fun Q E y=> ?_
   ·exact (Cv hF hk ha P2.rel (nS (P2.vrel P.rel hv) hv2)).imp fun Q E z=>⟨P2.rel.st.keep _ _ (C.X _ _ hl),z⟩
   ·refine method_fn (C.X.keeps P.rel.st.keep) I (plainGet_of k1).1 (plainGet_of k1).2 k2 (beq_iff_eq.mp k3) (by show (lookIn _ (dictOf es' n)).map _=_;rw [lookIn_dict,hgl];rfl) ?_
    exact Calls.callWith_function (cE hp (wpAny_mono y (fun vs s₁ z=>⟨⟨z.1,rfl⟩,wpAny_call z.2⟩) fun _ _ z=>z))
 ·cases k4
noncomputable def ll (k:Int) (es:List (Int×V)):List (Int×V):=es.filter fun e=>e.1≠k
noncomputable def bC (o:V):Cm Bool:=fun q=>match o with
 | .ref i=>(match q.H[i]? with | some (.list _)=> .ok true q | some (.dict _)=> .ok false q | _=> .stuck)
 | _=> .stuck
noncomputable def eB (o v:V):Cm V:=fun q=>match o with
 | .ref i=>(match q.H[i]? with
  | some (.list xs)=>if xs.length<1000000 then .ok .none { q with H:=q.H.set i (.list (xs++[v])) } else .stuck
  | _=> .stuck)
 | _=> .stuck
noncomputable def jF (o v:V):Cm V:=fun q=>match o,v with
 | .ref i,.int k=>(match q.H[i]? with
  | some (.dict es)=>if es.length≤1000000 then (match es.lookup k with | some x=> .ok x { q with H:=q.H.set i (.dict (ll k es)) } | none=> .stuck) else .stuck
  | _=> .stuck)
 | _,_=> .stuck
noncomputable def rI (o v:V):Cm V:=fun q=>match o with
 | .ref i=>(match q.H[i]? with
  | some (.list xs)=>(match toD q.H 8 v,dw (toD q.H 8) xs with
   | some d,some ds=>if (SeqAt.shaped d=true∧SeqAt.shaped (.list ds)=true)∧ds.length≤1000000∧ds.findIdx (fun y=>PyData.eqv y d)<ds.length then .ok (.int (ds.findIdx fun y=>PyData.eqv y d)) q else .stuck
   | _,_=> .stuck)
  | _=> .stuck)
 | _=> .stuck
noncomputable def j4 (o v:V):Cm V:=fun q=>match o with
 | .ref i=>(match q.H[i]? with
  | some (.list xs)=>(match toD q.H 8 v,dw (toD q.H 8) xs with
   | some d,some ds=>if SeqAt.shaped d=true∧SeqAt.shaped (.list ds)=true then .ok (.int (ds.countP fun y=>PyData.eqv y d)) q else .stuck
   | _,_=> .stuck)
  | _=> .stuck)
 | _=> .stuck
noncomputable def rO (name:String) (kd:Bool) (o:V):Cm V:=fun q=>match o with
 | .ref i=>(match kd,name,q.H[i]? with
  | true, "clear",some (.list xs)=>if xs.length≤1000000 then .ok .none { q with H:=q.H.set i (.list []) } else .stuck
  | _,_,_=> .stuck)
 | _=> .stuck
theorem uD {o:V} {q:S}:bC o q= .stuck∨(∃i xs,o= .ref i∧q.H[i]? = some (.list xs)∧bC o q= .ok true q)∨(∃i es,o= .ref i∧q.H[i]? = some (.dict es)∧bC o q= .ok false q):=by
 cases o with
 | ref i =>
  cases e:q.H[i]? with
  | none=>exact .inl (by unfold bC;dsimp only;rw [e])
  | some o =>
  cases o with
  | list xs=>exact .inr (.inl ⟨i,xs,rfl,e,by unfold bC;dsimp only;rw [e]⟩)
  | dict es=>exact .inr (.inr ⟨i,es,rfl,e,by unfold bC;dsimp only;rw [e]⟩)
  | flds _=>exact .inl (by unfold bC;dsimp only;rw [e])
 | _=>exact .inl rfl
theorem yL {k:Int}:∀ {es:List (Int×V)} {kvs:List (Int×Value)},kq ι h es kvs→kq ι h (ll k es) (without kvs k)
 | [],_,x=>by rw [show _=[] from x];rfl
 | (k',w)::es,_,z2=>by
  obtain ⟨cw,kvs',q,a,b⟩:=z2
  subst q
  have ih:=yL (k:=k) b
  unfold ll without at ih ⊢
  rw [List.filter_cons,List.filter_cons]
  dsimp only at a ⊢
  by_cases e:k'=k
  ·simp only [e,ne_eq,not_true,decide_false,Bool.false_eq_true,if_false];exact ih
  ·simp only [e,ne_eq,not_false_eq_true,decide_true,if_true];exact ⟨cw,_,rfl,a,ih⟩
theorem yN (ha:∃hq k,jD hq k A env) (R:cC A env ι q s) {v:V} {cv:Value} {xs:List V} {vs:List Value} {d:PyData} {ds:List PyData} (h1:aK ι s.heap v cv) (h2:aN ι s.heap xs vs)
  (e1:toD q.H 8 v=some d) (e2:dw (toD q.H 8) xs=some ds) (s1:SeqAt.shaped d=true) (s2:SeqAt.shaped (.list ds)=true) :
  (∀y,y∈vs.toArray→SeqAt.EqAt A.in1 s y cv (PyData.eqv (SeqAt.readOf s.heap y) d))∧vs.map (SeqAt.readOf s.heap)=ds:=by
 have hu:=jD.units_lt ha
 obtain ⟨as,r1⟩:=et R.st h1 e1
 obtain ⟨bs,r2⟩:=gV (et R.st) h2 e2
 have c2:PyData.canLayAll0 ds=true:=SeqAt.canLay_of_shaped s2
 exact ⟨SeqAt.items_eqAt (by simpa using r2) r1 c2 (SeqAt.canLay_of_shaped s1) (room_in_shaped s1 (b0 0x1000041a0c11000064a0c111 hu)),SeqAt.readsAll_map _ _ _ c2 r2⟩
theorem zX {α:Type} (p:α→Bool):∀(l:List α),l.findIdx p<l.length→(∃x,l[l.findIdx p]? = some x∧p x=true)∧ ∀m,m<l.findIdx p→ ∀y,l[m]? = some y→p y=false:=by
 intro l hl
 refine ⟨⟨l[l.findIdx p],by simp,List.findIdx_getElem⟩,fun m hm y hy=> ?_⟩
 obtain ⟨h1,rfl⟩:=List.getElem?_eq_some_iff.mp hy
 have:=List.not_of_lt_findIdx hm
 simpa using this
theorem iV (C:bA G) {o v:V} {co cv:Value} (ha:∃hq k,jD hq k A env) (R:cC A env ι q s) (h1:aK ι s.heap o co) (h2:aK ι s.heap v cv) :
  aQ A env ι s (eB o v q) (aK) (kZ A (call (.builtin "list.append") [co,cv])):=by
 cases o with
 | ref i =>
  obtain ⟨a,hi,rfl⟩:=h1
  unfold eB;dsimp only
  cases e:q.H[i]? with
  | none=>trivial
  | some o =>
  cases o with
  | list xs =>
   dsimp only
   split
   ·rename_i hl
    obtain ⟨a1,n1,vs,g1,g2,g3⟩:=R.st.list e
    obtain rfl:a=a1:=Option.some.inj (hi.symm.trans g1)
    refine aQ.set (tk:=s.toks) R g1 (Heap.SameBut.update s.heap a (Obj.mapSeq fun x=>x.push cv)) (fun im=>⟨vs++[cv],?_,(g3.mono (List.prefix_refl _) im).append (nS (h2.mono (List.prefix_refl _) im) vG)⟩) (fun im=>DS) fun Q E hQ=> ?_
    ·have:=g2.update fun x=>x.push cv
     exact ⟨_,by simpa using this⟩
    ·exact call_meets F.slot_list_append ⟨_,g2,rfl⟩ F.entry_list_append (F.args_list_append_2 _ _) (list_append a vs.toArray n1 cv (by rw [List.size_toArray,g3.length,sizeLine_eq];exact bz 0xb000f4240a0111 hl)) ⟨g2,hQ⟩
   ·trivial
  | _=>trivial
 | _=>trivial
theorem pB (C:bA G) {o v:V} {co cv:Value} (ha:∃hq k,jD hq k A env) (R:cC A env ι q s) (h1:aK ι s.heap o co) (h2:aK ι s.heap v cv) :
  aQ A env ι s (jF o v q) (aK) (kZ A (call (.builtin "dict.pop") [co,cv])):=by
 cases o with
 | ref i =>
  cases v with
  | int k =>
   obtain ⟨a,hi,rfl⟩:=h1
   unfold jF;dsimp only
   cases e:q.H[i]? with
   | none=>trivial
   | some o =>
   cases o with
   | dict es =>
    dsimp only
    split
    ·rename_i hl
     cases hx:es.lookup k with
     | none=>trivial
     | some x =>
      obtain ⟨a1,kvs,g1,g2,g3⟩:=R.st.dict e
      obtain rfl:a=a1:=Option.some.inj (hi.symm.trans g1)
      obtain ⟨t,rfl⟩:=h2
      have hg:=iA g3 k
      rw [hx] at hg
      obtain ⟨cx,hcx,hrx⟩:=hg
      intro Q E hQ
      refine call_meetsIn F.slot_dict_pop g2.mapOf.typeIs F.entry_dict_pop (F.args_dict_pop_2 _ _) (meets_dict_pop_there (knd:=intKind G.prog G.w) a (intKind_is G.prog G.w k t) [] (.inl rfl) rfl) ⟨kvs,cx,g2,by rw [uj g3,sizeLine_eq];exact bz 0xb000f4240a0011 hl,hcx,fun h' e1 e2=> ?_⟩
      have P:=aU.set (tk:=s.toks+1) (o':= .dict (ll k es)) R g1 e2 fun im=>⟨_,e1,yL (g3.mono (List.prefix_refl _) im)⟩
      exact hQ ι cx _ P (hrx.mono (List.prefix_refl _) (R.imm P.kp))
    ·trivial
   | _=>trivial
  | _=>trivial
 | _=>trivial
theorem AM (C:bA G) {o v:V} {co cv:Value} (ha:∃hq k,jD hq k A env) (R:cC A env ι q s) (h1:aK ι s.heap o co) (h2:aK ι s.heap v cv) :
  aQ A env ι s (rI o v q) (aK) (kZ A (call (.builtin "list.index") [co,cv])):=by
 cases o with
 | ref i =>
  obtain ⟨a,hi,rfl⟩:=h1
  unfold rI;dsimp only
  cases e:q.H[i]? with
  | none=>trivial
  | some o =>
  cases o with
  | list xs =>
   dsimp only
   cases e1:toD q.H 8 v with
   | none=>trivial
   | some d =>
   cases e2:dw (toD q.H 8) xs with
   | none=>trivial
   | some ds =>
    dsimp only
    split
    ·rename_i hc
     obtain ⟨⟨s1,s2⟩,l1,l2⟩:=hc
     obtain ⟨a1,n1,vs,g1,g2,g3⟩:=R.st.list e
     obtain rfl:a=a1:=Option.some.inj (hi.symm.trans g1)
     obtain ⟨k1,k2⟩:=yN ha R h2 g3 e1 e2 s1 s2
     have hlen:vs.length=ds.length:=by rw [← k2,List.length_map]
     have hj:ds.findIdx (fun y=>PyData.eqv y d)<vs.toArray.size:=by rw [List.size_toArray,hlen];exact l2
     obtain ⟨⟨x,hx,hpx⟩,hno⟩:=zX _ ds l2
     have key:∀m (hm:m<vs.length),ds[m]? = some (SeqAt.readOf s.heap vs[m]):=fun m hm=>by rw [← k2];simp [hm]
     refine aQ.ret R (vF _ _) fun Q E hQ=>call_meets F.slot_list_index ⟨_,g2,rfl⟩ F.entry_list_index (F.args_list_index_2 _ _)
      (SeqAt.list_indexAt a vs.toArray n1 none #[] cv (fun y=>PyData.eqv (SeqAt.readOf s.heap y) d) (ds.findIdx fun y=>PyData.eqv y d) hj (by omega) ?_ fun m hm hlt=> ?_) ⟨g2,k1,hQ⟩
     ·have:=key (ds.findIdx fun y=>PyData.eqv y d) (by rw [hlen];exact l2)
      rw [hx] at this
      simp only [List.getElem_toArray];rw [← Option.some.inj this];exact hpx
     ·have:=key m (by simpa using hm)
      exact hno m hlt _ this
    ·trivial
  | _=>trivial
 | _=>trivial
theorem nV (C:bA G) {o v:V} {co cv:Value} (ha:∃hq k,jD hq k A env) (R:cC A env ι q s) (h1:aK ι s.heap o co) (h2:aK ι s.heap v cv) :
  aQ A env ι s (j4 o v q) (aK) (kZ A (call (.builtin "list.count") [co,cv])):=by
 cases o with
 | ref i =>
  obtain ⟨a,hi,rfl⟩:=h1
  unfold j4;dsimp only
  cases e:q.H[i]? with
  | none=>trivial
  | some o =>
  cases o with
  | list xs =>
   dsimp only
   cases e1:toD q.H 8 v with
   | none=>trivial
   | some d =>
   cases e2:dw (toD q.H 8) xs with
   | none=>trivial
   | some ds =>
    dsimp only
    split
    ·rename_i hc
     obtain ⟨s1,s2⟩:=hc
     obtain ⟨a1,n1,vs,g1,g2,g3⟩:=R.st.list e
     obtain rfl:a=a1:=Option.some.inj (hi.symm.trans g1)
     obtain ⟨k1,k2⟩:=yN ha R h2 g3 e1 e2 s1 s2
     refine aQ.ret (tk:=s.toks+1) R (vF _ s.toks) fun Q E hQ=>call_meets F.slot_list_count ⟨_,g2,rfl⟩ F.entry_list_count (F.args_list_count_2 _ _)
      (SeqAt.list_countAt a vs.toArray n1 none #[] cv fun y=>PyData.eqv (SeqAt.readOf s.heap y) d) ⟨g2,k1,?_⟩
     have:(vs.toArray.toList.countP fun y=>PyData.eqv (SeqAt.readOf s.heap y) d)=ds.countP fun y=>PyData.eqv y d:=by
      rw [← k2,List.countP_map];rfl
     rw [this];exact hQ
    ·trivial
  | _=>trivial
 | _=>trivial
theorem D0 (C:bA G) {name:String} {kd:Bool} {o:V} {co:Value} (R:cC A env ι q s) (h1:aK ι s.heap o co) :
  aQ A env ι s (rO name kd o q) (aK) (kZ A (call (.builtin ((if kd then "list." else "dict.")++name)) [co])):=by
 unfold rO
 split
 ·rename_i i
  obtain ⟨a,hi,rfl⟩:=h1
  split
  ·rename_i xs e
   split
   ·rename_i hl
    obtain ⟨a1,n1,vs,g1,g2,g3⟩:=R.st.list e
    obtain rfl:a=a1:=Option.some.inj (hi.symm.trans g1)
    refine aQ.set (tk:=s.toks) R g1 (Heap.SameBut.update s.heap a (Obj.mapSeq fun _ => #[])) (fun im=>⟨[],⟨_,g2.update fun _ => #[]⟩,vG⟩) (fun im=>DS) fun Q E hQ=> ?_
    exact call_meets F.slot_list_clear ⟨_,g2,rfl⟩ F.entry_list_clear (F.args_list_clear_1 _) (AutoSeq1.list_clear_list_0 a vs.toArray n1 (by rw [List.size_toArray,g3.length,sizeLine_eq];exact bz 0xb000f4240a0011 hl)) ⟨g2,hQ⟩
   ·trivial
  ·trivial
 ·trivial
structure sB (name:String) (kd:Bool):Prop where
 slot:Slot (if kd then "list" else "dict") (Str.ofString name) ((if kd then "list." else "dict.")++name)
 ty:typeOf (.builtin ((if kd then "list." else "dict.")++name))=pure (.type "method_descriptor")
theorem gx:sB "append" true:=⟨F.slot_list_append,F.type_list_append⟩
theorem yA:sB "index" true:=⟨F.slot_list_index,F.type_list_index⟩
theorem kx:sB "count" true:=⟨F.slot_list_count,F.type_list_count⟩
theorem CF:sB "clear" true:=⟨F.slot_list_clear,F.type_list_clear⟩
theorem lg:sB "pop" false:=⟨F.slot_dict_pop,F.type_dict_pop⟩
theorem CU {name:String} {kd:Bool} (B:sB name kd) {o:V} {co:Value} (R:cC A env ι q s) (h1:aK ι s.heap o co) (hk:bC o q= .ok kd q) {pl:Sem Bool} {Q:Value×List Value→Shared→Prop} {E:Value→Shared→Prop}
  (h:Q (.builtin ((if kd then "list." else "dict.")++name),[co]) s):wpAny G.M A (getMethod co (Str.ofString name) pl) Q E s:=by
 rcases uD (o:=o) (q:=q) with hst | ⟨i,xs,rfl,e,hk'⟩ | ⟨i,es,rfl,e,hk'⟩
 ·rw [hst] at hk;cases hk
 ·rw [hk'] at hk;cases hk
  obtain ⟨a1,n1,vs,g1,g2,g3⟩:=R.st.list e
  obtain ⟨a,hi,rfl⟩:=h1
  obtain rfl:a=a1:=Option.some.inj (hi.symm.trans g1)
  exact getMethod_builtin ⟨_,g2,rfl⟩ F.plainAttrs_list B.slot B.ty (fun b e=>by cases e;exact ⟨_,g2,rfl⟩) h
 ·rw [hk'] at hk;cases hk
  obtain ⟨a1,kvs,g1,g2,g3⟩:=R.st.dict e
  obtain ⟨a,hi,rfl⟩:=h1
  obtain rfl:a=a1:=Option.some.inj (hi.symm.trans g1)
  exact getMethod_builtin g2.mapOf.typeIs F.plainAttrs_dict B.slot B.ty g2.mapOf.noDict h
theorem eU (C:bA G) {name:String} (kd:Bool) {f:V→V→Cm V} (B:sB name kd)
  (hP:∀ {A:Around} {ι:List Addr} {q:S} {s:Shared} {o v:V} {co cv:Value},(∃hq k,jD hq k A env)→cC A env ι q s→aK ι s.heap o co→aK ι s.heap v cv→aQ A env ι s (f o v q) (aK) (kZ A (call (.builtin ((if kd then "list." else "dict.")++name)) [co,cv])))
  {o e:Expr} {apos pos:Pos} {m0 m1:Cm V} (h0:Ev hq k env o m0) (h1:Ev hq k env e m1)
  (hbase:attributeBase o (Str.ofString name) env (eval o env)=eval o env) (hform:methodCallForm 1 (backTo pos (starEach [e] env)) []=true) (hline:(apos.endLine==pos.line)=true)
  (he:starEach [e] env=(false,eval e env)::starEach [] env) (hp:(backTo pos (starEach [e] env)).any (·.1)=false) :
  Ev hq k env (.Call (.Attribute o (Str.ofString name) apos) [e] [] pos) (m0.b fun o=>(bC o).b fun kd'=>if kd'=kd then m1.b fun v=>f o v else .stk):=by
 intro A ι q s ha R
 refine (aQ.b (T':=fun ov Q E s₁=>wpAny G.M A (getMethod ov (Str.ofString name) (do return (← importBound o env).getD true)) (fun fp s₂=>wpAny G.M A (callWith pos fp.1 fp.2 (backTo pos (starEach [e] env)) []) Q E s₂) E s₁)
   (h0 A ι q s ha R) fun v q' ι' b s' _ P hv=> ?_).imp fun Q E y=>mO hbase hform hline y
 have td:bC v q'= .ok kd q'→aQ A env ι' s' ((m1.b fun w=>f v w) q') (aK) (fun Q E s₁=>wpAny G.M A (getMethod b (Str.ofString name) (do return (← importBound o env).getD true)) (fun fp s₂=>wpAny G.M A (callWith pos fp.1 fp.2 (backTo pos (starEach [e] env)) []) Q E s₂) E s₁):=by
  intro hk
  refine (aQ.b (T':=fun w Q E s₁=>wpAny G.M A (call (.builtin ((if kd then "list." else "dict.")++name)) [b,w]) Q E s₁) (h1 A ι' q' s' ha P.rel) fun w q2 ι2 b2 s2 _ P2 hv2=>hP ⟨_,_,ha⟩ P2.rel (P2.vrel P.rel hv) hv2).imp fun Q E y=> ?_
  refine CU B P.rel hv hk (Calls.callWith_builtin hp (cE hp (wpAny_items_cons (wpAny_mono y (fun w s₁ z=>wpAny_items_nil z) fun _ _ z=>z) he)))
 rcases uD (o:=v) (q:=q') with hst | ⟨i,xs,rfl,e',hk'⟩ | ⟨i,es,rfl,e',hk'⟩
 ·rw [bk hst];trivial
 ·rw [dP hk']
  by_cases hb:true=kd
  ·rw [if_pos hb];exact td (hb▸hk')
  ·rw [if_neg hb];trivial
 ·rw [dP hk']
  by_cases hb:false=kd
  ·rw [if_pos hb];exact td (hb▸hk')
  ·rw [if_neg hb];trivial
theorem Gg (C:bA G) {name:String} (B1:sB name true) {o:Expr} {apos pos:Pos} {m0:Cm V} (h0:Ev hq k env o m0)
  (hbase:attributeBase o (Str.ofString name) env (eval o env)=eval o env) (hline:(apos.endLine==pos.line)=true) :
  Ev hq k env (.Call (.Attribute o (Str.ofString name) apos) [] [] pos) (m0.b fun o=>(bC o).b fun kd=>if kd then rO name true o else .stk):=by
 intro A ι q s ha R
 refine (aQ.b (T':=fun ov Q E s₁=>wpAny G.M A (getMethod ov (Str.ofString name) (do return (← importBound o env).getD true)) (fun fp s₂=>wpAny G.M A (callWith pos fp.1 fp.2 (backTo pos (starEach [] env)) []) Q E s₂) E s₁)
   (h0 A ι q s ha R) fun v q' ι' b s' _ P hv=> ?_).imp fun Q E y=>mO hbase rfl hline y
 rcases uD (o:=v) (q:=q') with hst | ⟨i,xs,rfl,e',hk'⟩ | ⟨i,es,rfl,e',hk'⟩
 ·rw [bk hst];trivial
 ·rw [dP hk']
  refine (D0 C P.rel hv).imp fun Q E y=>CU B1 P.rel hv hk' (Calls.callWith_builtin rfl (cE rfl (wpAny_items_nil (pos:=pos) (env:=env) y)))
 ·rw [dP hk'];trivial
end
section
variable {hq:Bool} {k:Nat} {env:Env} {A:Around} {ι ι':List Addr} {q:S} {s s':Shared} {H H':Hp} {h:Heap}
def tN (bv:Value):Prop:= ∀(M:Model) (A:Around) (pos:Pos) (args:List (Bool×Sem Value)) (Q:Value→Shared→Prop) (E:Value→Shared→Prop) (s:Shared),args.any (·.1)=false →
 wpAny M A (evalArgs bv true args []) (fun a s₁=>wpAny M A (call bv ([]++a.pos) a.kw) Q E s₁) E s→wpAny M A (callWith pos bv [] args []) Q E s
theorem ar (id:String):tN (.builtin id):=fun _ _ _ _ _ _ _ hp h=>Calls.callWith_builtin hp h
theorem dq (T:String):tN (.type T):=fun _ _ _ _ _ _ _ hp h=>callWith_excType hp h
theorem bT (C:bA G) {x:String} {bv:Value} {es:List Expr} {p pos:Pos} {m:Cm (List V)} {f:List V→Cm V} (hx:env.kindOf (Str.ofString x)=some .globalImplicit) (hv:nsIn G.K mainGlobals (Str.ofString x)=some none)
  (hb:bootBuiltins (Str.ofString x)=some bv) (hn:Str.ofString x ≠ "__name__") (hd:(Str.ofString x==("__debug__" : Str))=false) (hc:tN bv) (h1:Bx hq k env es m) (hp:(backTo pos (starEach es env)).any (·.1)=false)
  (hf:∀A ι q s vs cvs,jD hq k A env→cC A env ι q s→aN ι s.heap vs cvs→aQ A env ι s (f vs q) (aK) (kZ A (call bv cvs))) :
  Ev hq k env (.Call (.Name (Str.ofString x) p) es [] pos) (m.b fun vs=>f vs):=by
 intro A ι q s ha R
 refine (aQ.b (T':=fun vs Q E s₁=>wpAny G.M A (call bv vs) Q E s₁) (h1 pos A ι q s ha R) fun a q' ι' b s' _ P hv=>hf A ι' q' s' a b ha P.rel hv).imp fun Q E y=> ?_
 show wpAny G.M A (do callWith pos (← eval (.Name (Str.ofString x) p) env) [] (backTo pos (starEach es env)) []) Q E s
 refine wpAny_bind (qr C R hx hv hb hn hd ?_)
 exact hc _ _ _ _ _ _ _ hp (cE hp (wpAny_mono y (fun vs s₁ z=>z) fun _ _ z=>z))
noncomputable def fg:List V→Cm V
 | [.ref i]=>fun q=>(match q.H[i]? with
  | some (.list xs)=>if xs.length<1000000 then .ok (.int xs.length) q else .stuck
  | _=> .stuck)
 | [.tup xs]=>if xs.length<1000000 then .p (.int xs.length) else .stk
 | [.scr]=> .p (.int sn.length)
 | _=> .stk
theorem iW (C:bA G) (R:cC A env ι q s) {vs:List V} {cvs:List Value} (hv:aN ι s.heap vs cvs):aQ A env ι s (fg vs q) (aK) (kZ A (call (.builtin "len") cvs)):=by
 cases vs with
 | nil=>trivial
 | cons o os =>
 cases os with
 | cons _ _=>cases o<;>trivial
 | nil =>
 obtain ⟨cv,_,rfl,h1,h2⟩:=hv;rw [show _=[] from h2]
 cases o with
 | ref i =>
  obtain ⟨a,hi,rfl⟩:=h1
  unfold fg;dsimp only
  cases e:q.H[i]? with
  | none=>trivial
  | some o =>
   cases o with
   | list xs =>
    dsimp only
    split
    ·rename_i hl
     obtain ⟨a1,n1,vs,g1,g2,g3⟩:=R.st.list e
     obtain rfl:a=a1:=Option.some.inj (hi.symm.trans g1)
     have:((vs.toArray.size:Nat):Int)=(xs.length:Int):=by rw [List.size_toArray,g3.length]
     exact aQ.ret R (vF _ _) fun Q E hQ=>Calls.call_len_list g2.isList (by rw [this];omega) (by rw [this];exact hQ)
    ·trivial
   | _=>trivial
 | tup xs =>
  obtain ⟨a,ws,rfl,ht,hw⟩:=h1
  unfold fg;dsimp only
  split
  ·rename_i hl
   have:((ws.toArray.size:Nat):Int)=(xs.length:Int):=by rw [List.size_toArray,hw.length]
   exact aQ.ret R (vF _ _) fun Q E hQ=>len_tuple ht (by rw [this];omega) (by rw [this];exact hQ)
  ·trivial
 | scr =>
  rw [show cv= .ref G.sa from h1]
  have hl:s.heap.IsList G.sa G.sv.toArray:=C.scr.at fun o e=>R.st.keep _ _ e
  have:((G.sv.toArray.size:Nat):Int)=(sn.length:Int):=by rw [List.size_toArray,IntsAre.length C.isInts]
  have hs:sn.length≤63:=C.short
  exact aQ.ret R (vF _ _) fun Q E hQ=>Calls.call_len_list hl (by rw [this];omega) (by rw [this];exact hQ)
 | _=>trivial
noncomputable def C7:List V→Cm V
 | [.bool b]=> .p (.int (if b then 1 else 0))
 | _=> .stk
theorem Gk (R:cC A env ι q s) {vs:List V} {cvs:List Value} (hv:aN ι s.heap vs cvs):aQ A env ι s (C7 vs q) (aK) (kZ A (call (.type "int") cvs)):=by
 unfold C7
 split
 ·obtain ⟨cv,_,rfl,h1,h2⟩:=hv;rw [show _=[] from h2]
  rw [show cv= .bool _ from h1]
  exact aQ.ret R (vF _ _) fun Q E hQ=>call_int_bool hQ
 ·trivial
noncomputable def iK:List V→Cm V
 | [o]=>fun q=>(match ay o q.H with
  | some xs=>if xs.length≤1000000 then .ok (.ref q.H.length) { q with H:=q.H++[.list xs] } else .stuck
  | none=> .stuck)
 | _=> .stk
theorem qj (C:bA G) (R:cC A env ι q s) {vs:List V} {cvs:List Value} (hv:aN ι s.heap vs cvs):aQ A env ι s (iK vs q) (aK) (kZ A (call (.type "list") cvs)):=by
 cases vs with
 | nil=>trivial
 | cons o os =>
 cases os with
 | cons _ _=>trivial
 | nil =>
  obtain ⟨cv,_,rfl,h1,h2⟩:=hv;rw [show _=[] from h2]
  unfold iK;dsimp only
  cases e:ay o q.H with
  | none=>trivial
  | some xs =>
   dsimp only
   split
   ·rename_i hl
    obtain ⟨l,vs,rfl,g1,g2⟩:=gc C R.st h1 e
    obtain ⟨o,ho,hc,n,hd⟩:=g1
    intro Q E hQ
    refine call_list_seq l (.inl rfl) ho hc hd (fun h' c' hk hD=> ?_) (by rw [List.size_toArray,g2.length,sizeLine_eq];exact bz 0xb000f4240a0011 hl)
    exact hQ _ _ _ (aU.alloc (tk:=s.toks) R hk (Heap.get?_none_of_le (Nat.le_refl _)) ⟨vs,⟨c',hD⟩,g2.mono (List.prefix_append _ _) (.of_stays hk)⟩) (jC R.st _)
   ·trivial
noncomputable def AG (H:Hp):V→Option String
 | .none=>some "NoneType"
 | .bool _=>some "bool"
 | .int _=>some "int"
 | .str _=>some "str"
 | .tup _=>some "tuple"
 | .scr=>some "list"
 | .ref i=>(match H[i]? with | some (.list _)=>some "list" | some (.dict _)=>some "dict" | _=>none)
 | _=>none
noncomputable def vO (T:String) (v:V):Cm V:=fun q=>match AG q.H v with
 | some t=> .ok (.bool (t==T||(t == "bool" && T == "int"))) q
 | none=> .stuck
theorem FL (C:bA G) (R:eY ι H h) {v:V} {cv:Value} {t:String} (r:aK ι h v cv) (e:AG H v=some t):∃P:Heap→Prop,A4 (KitX G.K cv (.type t) P) (P h) (cv≠ .builtin "__main__.__loader__#opaque") (t = "NoneType" ∨ t = "bool" ∨ t = "int" ∨ t = "str" ∨ t = "tuple" ∨ t = "list" ∨ t = "dict"):=by
 refine wK fun X' kX=> ?_
 have nb:∀ {r:Addr},Value.ref r≠ .builtin "__main__.__loader__#opaque" := fun q=>by cases q
 cases v with
 | none=>cases e;obtain rfl:cv= .none:=r;exact kX ⟨_,kitx_none,trivial,(by intro q;cases q),.inl rfl⟩
 | bool b=>cases e;obtain rfl:cv= .bool _:=r;exact kX ⟨_,kitx_bool,trivial,(by intro q;cases q),.inr (.inl rfl)⟩
 | int i=>cases e;obtain ⟨t,rfl⟩:=r;exact kX ⟨_,kitx_int,trivial,(by intro q;cases q),.inr (.inr (.inl rfl))⟩
 | str x=>cases e;obtain ⟨t,rfl⟩:=r;exact kX ⟨_,kitx_str,trivial,(by intro q;cases q),.inr (.inr (.inr (.inl rfl)))⟩
 | tup xs=>cases e;obtain ⟨a,vs,rfl,⟨o,ho,hc,_⟩,_⟩:=r;exact kX ⟨_,kitx_tuple,⟨o,ho,hc⟩,nb,.inr (.inr (.inr (.inr (.inl rfl))))⟩
 | scr =>
  cases e
  obtain ⟨o,ho,hc,_⟩:=C.scr
  obtain rfl:cv= .ref G.sa:=r
  exact kX ⟨_,kitx_list,⟨o,R.keep _ _ ho,hc⟩,nb,.inr (.inr (.inr (.inr (.inr (.inl rfl)))))⟩
 | ref i =>
  unfold AG at e;dsimp only at e
  cases hx:H[i]? with
  | none=>rw [hx] at e;cases e
  | some o =>
  rw [hx] at e
  obtain ⟨a,hi,rfl⟩:=r
  cases o with
  | list xs =>
   cases e
   obtain ⟨a1,n1,vs,g1,g2,g3⟩:=R.list hx
   obtain rfl:a=a1:=Option.some.inj (hi.symm.trans g1)
   exact kX ⟨_,kitx_list,⟨_,g2,rfl⟩,nb,.inr (.inr (.inr (.inr (.inr (.inl rfl)))))⟩
  | dict es =>
   cases e
   obtain ⟨a1,kvs,g1,⟨o,es,ep,ho,hc,_⟩,g3⟩:=R.dict hx
   obtain rfl:a=a1:=Option.some.inj (hi.symm.trans g1)
   exact kX ⟨_,kitx_dict,⟨_,ho,hc.1⟩,nb,.inr (.inr (.inr (.inr (.inr (.inr rfl)))))⟩
  | _=>cases e
 | _=>cases e
noncomputable def rL (K:Frag) (T:String):Bool:=(["NoneType", "bool", "int", "str", "tuple", "list", "dict"]).all fun t=>kitOne K (.type t) (.type T)==some (t==T||(t == "bool" && T == "int"))
theorem Gl (C:bA G) {T:String} (hT:rL G.K T=true) {v:V} {cv:Value} (R:cC A env ι q s) (hv:aK ι s.heap v cv):aQ A env ι s (vO T v q) (aK) (kZ A (call (.builtin "isinstance") [cv,.type T])):=by
 unfold vO
 cases e:AG q.H v with
 | none=>trivial
 | some t =>
  obtain ⟨P,Z,p,hne,ht⟩:=FL C R.st hv e
  have hk:kitOne G.K (.type t) (.type T)=some (t==T||(t == "bool" && T == "int")):=by
   unfold rL at hT
   rw [List.all_eq_true] at hT
   exact beq_iff_eq.mp (hT t (by rcases ht with rfl | rfl | rfl | rfl | rfl | rfl | rfl<;>decide))
  exact fun Q E hQ=>kia_one Z (C.X.keeps R.st.keep) p hk hne fun tk=>hQ ι _ _ (aU.toks R tk) (xd _)
theorem yr (C:bA G) {T:String} (hT:rL G.K T=true) {e:Expr} {p p2 pos:Pos} {m:Cm V} (hx:env.kindOf (Str.ofString "isinstance")=some .globalImplicit) (hv:nsIn G.K mainGlobals (Str.ofString "isinstance")=some none)
  (hx2:env.kindOf (Str.ofString T)=some .globalImplicit) (hv2:nsIn G.K mainGlobals (Str.ofString T)=some none) (hb2:bootBuiltins (Str.ofString T)=some (.type T)) (hn2:Str.ofString T ≠ "__name__")
  (hd2:(Str.ofString T==("__debug__" : Str))=false) (h1:Ev hq k env e m) (he:starEach [e,.Name (Str.ofString T) p2] env=(false,eval e env)::starEach [.Name (Str.ofString T) p2] env)
  (hp:(backTo pos (starEach [e,.Name (Str.ofString T) p2] env)).any (·.1)=false) :
  Ev hq k env (.Call (.Name (Str.ofString "isinstance") p) [e,.Name (Str.ofString T) p2] [] pos) (m.b fun v=>vO T v):=by
 intro A ι q s ha R
 refine (aQ.b (T':=fun v Q E s₁=>wpAny G.M A (eval (.Name (Str.ofString T) p2) env) (fun w s₂=>wpAny G.M A (call (.builtin "isinstance") [v,w]) Q E s₂) E s₁) (h1 A ι q s ha R) fun a q' ι' b s' _ P hv' =>
  (Gl C hT P.rel hv').imp fun Q E z=>qr C P.rel hx2 hv2 hb2 hn2 hd2 z).imp fun Q E y=> ?_
 show wpAny G.M A (do callWith pos (← eval (.Name (Str.ofString "isinstance") p) env) [] (backTo pos (starEach [e,.Name (Str.ofString T) p2] env)) []) Q E s
 refine wpAny_bind (qr C R hx hv (v:= .builtin "isinstance") ∅ ∅ ∅ ?_)
 refine Calls.callWith_builtin hp (cE hp (wpAny_items_cons (wpAny_mono y (fun v s₁ z=>wpAny_items_cons (wpAny_mono z (fun w s₂ u=>wpAny_items_nil u) fun _ _ u=>u)) fun _ _ z=>z) he))
end
section
variable {hq:Bool} {k:Nat} {env:Env} {A:Around} {ι ι':List Addr} {q q':S} {s s':Shared} {H H':Hp} {h:Heap}
theorem xM {x:Value} {env env':Env} (e:env.frame=env'.frame):noteFrame x env=noteFrame x env':=by
 unfold noteFrame PySem.frameOf;rw [e]
theorem pz.slots {fs:List Env} {h h':Heap} (x:pz fs ι h) (k:h.UpToSlots h'):pz fs ι h':=fun env he=>by
 obtain ⟨a,L,o,b,c,⟨es,n,d⟩,f⟩:=x env he
 obtain ⟨sl,hs⟩:=k L o c fun vs q=>by rw [d] at q;cases q
 exact ⟨a,L,_,b,hs,⟨es,n,d⟩,f⟩
theorem iz.slots {l:aY} {hv hl hl':Heap} (x:iz env l ι hv hl) (k:hl.UpToSlots hl'):iz env l ι hv hl' :=
 ⟨x.kind,x.glob,x.blt,let ⟨m,hn,hm⟩:=x.loc;⟨m,k.ns hn,hm⟩,x.cel,x.cells,x.ndup,x.dis,x.fresh⟩
theorem dE.at {c:String} {ev:Value} {e C L:Addr} {B:Heap} {h'':Heap} (x:dE A env ι s c ι' q' s' ev) (h1:ev= .ref e) (h2:G.xcl c=some C) (h3:env.frame=some L)
  (fl:Cs B (A.frames.getD []) L e (.ref C) h'') (h5:eY ι' q'.H B) (h6:iz env q'.l ι' B s'.heap) (h7:pz (A.frames.getD []) ι' s'.heap)
  (h8:∀a o,s.heap.get? a=some o→a∉own env++ι→a∉lX A→B.get? a=some o) (up:s'.heap.UpToSlots h''):dE A env ι s c ι' q' { s' with heap:=h'' } ev:=by
 have fs:=h7.slots up
 have fr:=h6.slots up
 refine ⟨x.pre,⟨e,C,B,L,h1,h2,h3,fl,h5,fr,fs,h8⟩,?_,?_,x.new,x.gens,x.os⟩
 ·intro a o ea
  by_cases h1:a∈own env
  ·obtain ⟨o',e',_⟩:=fr.mut fl.1 h1;exact ⟨o',e'⟩
  ·by_cases h2:a∈ι
   ·obtain ⟨i,hi⟩:=List.mem_iff_getElem?.mp h2
    have hi':=getElem?_prefix x.pre hi
    obtain ⟨oa,hoa⟩:∃oa,q'.H[i]? = some oa:=⟨_,List.getElem?_eq_getElem (h5.len▸(List.getElem?_eq_some_iff.mp hi').1)⟩
    obtain ⟨o',e'⟩:=(h5.obj i a oa hi' hoa).there
    exact ⟨o',fl.1 _ _ e'⟩
   ·by_cases h3:a∈lX A
    ·obtain ⟨o',e',_⟩:=ec fs h3;exact ⟨o',e'⟩
    ·exact ⟨o,fl.1 _ _ (h8 a o ea (fun hm=>(List.mem_append.mp hm).elim h1 h2) h3)⟩
 ·intro a o ea hW
  by_cases h3:a∈lX A
  ·obtain ⟨sl,e1⟩:=x.up a o ea hW
   obtain ⟨o',e',es,n,d⟩:=ec h7 h3
   rw [e1] at e';cases e'
   obtain ⟨sl2,e2⟩:=up a _ e1 fun vs q=>by rw [d] at q;cases q
   exact ⟨sl2,e2⟩
  ·exact ⟨o.slots,fl.1 _ _ (h8 a o ea hW h3)⟩
def Gi (env:Env) (e:Addr) (h:Heap):Prop:= ∃L oe vs T oT ts,env.frame=some L∧h.get? e=some oe∧oe.data= .fields vs∧vs[1]? = some (.ref T)∧h.get? T=some oT∧oT.data= .fields ts∧ts[3]? = some (rawInt L)
theorem dE.noted {c:String} {ev:Value} {Q:Unit→Shared→Prop} {E:Value→Shared→Prop} (ha:jD hq k A env) (x:dE A env ι s c ι' q' s' ev)
  (hQ:∀e s'',ev= .ref e→Gi env e s''.heap→dE A env ι s c ι' q' s'' ev→Q () s''):wpAny G.M A (noteFrame ev env) Q E s':=by
 obtain ⟨e,C,B,L,rfl,h2,h3,fl,h5,h6,h7,h8⟩:=x.ex
 obtain ⟨fenv,rest,f1,f2,_⟩:=ha.fr
 have hfs:A.frames.getD []=fenv::rest:=by rw [f1];rfl
 obtain ⟨b1,b2,b3,oe,vs,a0,c1,c2,c3,c4,c5⟩:=id fl
 rw [hfs] at b3
 rw [xM f2.symm]
 rcases c5 with c5 | ⟨T,oT,ts,fl',d1,d2,d3,d4,d5,d6,d7⟩
 ·unfold noteFrame
  simp only [f2.trans h3]
  refine wpAny_bind (wpAny_field c1 c3 c5 ?_)
  rw [if_neg ∅]
  refine wpAny_entryW f1 b3 (f2.trans h3) c1 b1 b2 c3 (Array.getElem?_eq_some_iff.mp c5).1 c4 fun h' hN=> ?_
  obtain ⟨k1,k2,⟨oe',vs',T,oT,ts,e1,e2,e3,e4,e5,e6,e7,e8,e9⟩,k4⟩:=hN
  refine hQ e _ rfl ⟨L,oe',vs',T,oT,ts,h3,e1,e3,e4,e7,e8,e9⟩ (x.at rfl h2 h3 ?_ h5 h6 h7 h8 k4)
  exact ⟨k1,b2,by rw [hfs];exact k2,oe',vs',a0,e1,e2.1.trans c2,e3,e2.2,.inr ⟨T,oT,ts,rawInt L,e4,e5,e6,e7,e8,e9,.inr rfl⟩⟩
 ·rcases d7 with rfl | rfl
  ·refine wpAny_noteFrame_onW f1 b3 (f2.trans h3) ⟨oe,vs,T,oT,ts,c1,⟨c2,c4⟩,c3,d1,d2,d3,d4,d5,d6⟩ b1 b2 fun h' hN=> ?_
   obtain ⟨k1,k2,⟨oe',vs',T,oT,ts,e1,e2,e3,e4,e5,e6,e7,e8,e9⟩,k4⟩:=hN
   refine hQ e _ rfl ⟨L,oe',vs',T,oT,ts,h3,e1,e3,e4,e7,e8,e9⟩ (x.at rfl h2 h3 ?_ h5 h6 h7 h8 k4)
   exact ⟨k1,b2,by rw [hfs];exact k2,oe',vs',a0,e1,e2.1,e3,e2.2,.inr ⟨T,oT,ts,rawInt L,e4,e5,e6,e7,e8,e9,.inr rfl⟩⟩
  ·exact wpAny_noteFrame_againW (f2.trans h3) ⟨oe,vs,T,oT,ts,c1,⟨c2,c4⟩,c3,d1,d2,d3,d4,d5,d6⟩ (hQ e _ rfl ⟨L,oe,vs,T,oT,ts,h3,c1,c3,d1,d4,d5,d6⟩ x)
theorem CG {e:Addr} {E:Value→Shared→Prop} (hh:Gi env e s.heap) (hE:E (.ref e) s):cameBackBy G.M A env E (.ref e) s:=by
 obtain ⟨L,oe,vs,T,oT,ts,h0,h1,h2,h3,h4,h5,h6⟩:=hh
 show wpAny _ _ _ _ _ _
 refine wpAny_bind (wpAny_field h1 h2 h3 ?_)
 rw [if_neg (show ¬((Value.ref T==Value.none)=true) from by simp)]
 have step:wpAny G.M A (setFlight (.ref e) env.frame) (fun _ s''=>E (.ref e) s'') E s:=by
  unfold setFlight
  refine wpAny_bind (wpAny_field h1 h2 h3 ?_)
  rw [if_pos (show (Value.ref T != Value.none)=true from by simp),h0]
  refine wpAny_setField h4 h5 (Array.getElem?_eq_some_iff.mp h6).1 ?_
  show E (.ref e) { s with heap:=s.heap.update T (Obj.mapFields (·.setIfInBounds 3 (rawInt L))) }
  rw [Heap.update_setField_same s.heap T oT ts 3 (rawInt L) h4 h5 h6]
  exact hE
 first
  | exact wpAny_bind (wpAny_pure step)
  | exact step
theorem dE.passes {c:String} {ev:Value} {E:Value→Shared→Prop} (ha:jD hq k A env) (x:dE A env ι s c ι' q' s' ev) (hE:∀s'',dE A env ι s c ι' q' s'' ev→E ev s'') :
  notedBy G.M A env (cameBackBy G.M A env E) ev s' :=
 dE.noted ha x fun e s'' he hh y=>by subst he;exact CG hh (hE s'' y)
end
structure It where
 xs:List V
 g:Hp→Prop
structure Gc (A:Around) (target:Expr) (I:Addr) (priv:List Addr) (ι0:List Addr) (it:It) (St:Nat→Heap→Prop):Prop where
 mu:∀i h,St i h→ ∀b∈priv,∃o,h.get? b=some o∧By o
 frame:∀i h h',St i h→(∀b∈priv,∀o,h.get? b=some o→h'.get? b=some o)→St i h'
 item:∀i x (s:Shared) ι H (Q:Value→Shared→Prop) E,it.xs[i]? = some x→ι0<+:ι→(∀b∈priv,b∉ι)→eY ι H s.heap→it.g H→St i s.heap →
  (∀v h' tk,(∀b o,b∉priv→s.heap.get? b=some o→h'.get? b=some o)→aK ι h' x v→St (i+1) h'→Q v { s with heap:=h',toks:=tk }) →
  wpAny G.M A (pyNext (.ref I)) (fun r s₁=>match r with | none=>False | some v=>wpAny G.M A (letOwnedTupleGo target (.ref I) v) (fun _ s₂=>Q v s₂) E s₁) E s
 done:∀(s:Shared) ι H (Q:Shared→Prop) E,ι0<+:ι→(∀b∈priv,b∉ι)→eY ι H s.heap→it.g H→St it.xs.length s.heap →
  (∀h' tk,(∀b o,b∉priv→s.heap.get? b=some o→h'.get? b=some o)→Q { s with heap:=h',toks:=tk }) →
  wpAny G.M A (pyNext (.ref I)) (fun r s₁=>match r with | none=>Q s₁ | some v=>False) E s
 self:∀i (s:Shared) (Q:Value→Shared→Prop) (E:Value→Shared→Prop),St i s.heap→Q (.ref I) s→wpAny G.M A (pyIter (.ref I)) Q E s
def yu (A:Around) (target:Expr) (h0:Heap) (ι:List Addr) (h:Heap) (it:It) (cv:Value):Prop :=
 ∃I priv St,cv= .ref I∧St 0 h∧(∀b∈priv,h0.get? b=none∧b∉ι)∧(∀H,eY ι H h→True)∧Gc A target I priv ι it St
def Ff (hq:Bool) (k:Nat) (env:Env) (target iter:Expr) (m:Cm It):Prop :=
 ∀A ι q s,jD hq k A env→cC A env ι q s→aQ A env ι s (m q) (fun ι' h it cv=>yu A target s.heap ι' h it cv∧ ∀q',m q= .ok it q'→it.g q'.H)
  (fun Q E s=>wpAny G.M A (eval iter env) (fun x s₁=>wpAny G.M A (pyIter x) Q E s₁) E s)
open Classical in
noncomputable def zI (g:Hp→Prop) (rest:Cm Fl):Fl→Cm Fl
 | .next=>fun q=>if g q.H then rest q else .stuck
 | .ret v=> .p (.ret v)
noncomputable def bH (g:Hp→Prop) (bd:V→Cm Unit) (body:Cm Fl):List V→Cm Fl
 | []=> .p .next
 | v::r=>(bd v).b fun _=>body.b (zI g (bH g bd body r))
def sy (hq:Bool) (k:Nat) (env:Env) (target:Expr) (bd:V→Cm Unit):Prop :=
 ∀A ι q s v cv,jD hq k A env→cC A env ι q s→aK ι s.heap v cv→aQ A env ι s (bd v q) (fun _ _ _ _=>True) (kZ A (assign target env cv))
section
variable {hq:Bool} {k:Nat} {env:Env} {A:Around} {ι ι':List Addr} {q q':S} {s s':Shared} {H H':Hp} {h:Heap}
theorem aQ.of {α β:Type} {r:vM S α} {REL:List Addr→Heap→α→β→Prop} {T:PT β}
  (h:∀Q E,Fin A env ι s r REL Q E→T Q E s):aQ A env ι s r REL T:=by
 cases r with
 | ok a q'=>exact fun Q E x=>h Q E x
 | exc c q'=>exact fun Q E x=>h Q E x
 | stuck=>trivial
theorem cC.off {priv:List Addr} {h':Heap} {tk:Nat} (R:cC A env ι q s) (hi:∀b∈priv,b∉ι∧b∉own env∧b∉lX A∧G.hB.get? b=none) (hm:∀b∈priv,∃o,s.heap.get? b=some o∧By o)
  (hk:∀b o,b∉priv→s.heap.get? b=some o→h'.get? b=some o):cC A env ι q { s with heap:=h',toks:=tk }∧oG s.heap h':=by
 have im:oG s.heap h':=fun a o e hmu=>⟨o.slots,hk a o (fun hp=>by obtain ⟨o',e',m'⟩:=hm a hp;rw [e] at e';cases e';exact hmu m') e⟩
 have pr:ι<+:ι:=List.prefix_refl _
 refine ⟨⟨⟨fun b o e=>hk b o (fun hp=>by rw [(hi b hp).2.2.2] at e;cases e) (R.st.keep b o e),R.st.len,R.st.nodup,R.st.fresh,fun i a o e1 e2=> ?_⟩,
  ⟨R.fr.kind,R.fr.glob,R.fr.blt,?_,?_,?_,R.fr.ndup,R.fr.dis,R.fr.fresh⟩,?_,R.gens,R.os⟩,im⟩
 ·exact (R.st.obj i a o e1 e2).at pr im fun o' e=>hk a o' (fun hp=>(hi a hp).1 (List.mem_of_getElem? e1)) e
 ·obtain ⟨m,hn,hmm⟩:=R.fr.loc
  exact ⟨m,hn.at' fun o e=>hk _ o (fun hp=>(hi _ hp).2.1 (.head _)) e,fun y v e e2=>let ⟨cv,a,b⟩:=hmm y v e e2;⟨cv,a,b.mono pr im⟩⟩
 ·intro y v e e2
  obtain ⟨c,o,cv,h1,h2,h3,h4⟩:=R.fr.cel y v e e2
  exact ⟨c,o,cv,h1,hk c o (fun hp=>(hi c hp).2.1 (List.mem_cons_of_mem _ (List.mem_map.mpr ⟨_,bg h1,rfl⟩))) h2,h3,h4.mono pr im⟩
 ·intro p hp
  obtain ⟨o,ov,h1,h2⟩:=R.fr.cells p hp
  exact ⟨o,ov,hk p.2 o (fun hp'=>(hi _ hp').2.1 (List.mem_cons_of_mem _ (List.mem_map.mpr ⟨p,hp,rfl⟩))) h1,h2⟩
 ·intro env' he
  obtain ⟨b1,L,o',b2,b3,b4,b5,b6⟩:=R.fs env' he
  exact ⟨b1,L,o',b2,hk L o' (fun hp=>(hi L hp).2.2.1 (List.mem_filterMap.mpr ⟨env',he,b2⟩)) b3,b4,b5,b6⟩
theorem cC.fresh3 (R:cC A env ι q s) {a:Addr} (ha:s.heap.get? a=none):a∉own env∧a∉lX A∧G.hB.get? a=none:=by
 obtain ⟨_,n2,n3⟩:=R.fresh_ne ha
 refine ⟨n2,fun hf=> ?_,n3⟩
 obtain ⟨o,e,_⟩:=ec R.fs hf
 rw [ha] at e;cases e
theorem aU.off {priv:List Addr} {h':Heap} {tk:Nat} (R:cC A env ι q s) (P:aU A env ι s ι' q' s') (hp:∀b∈priv,s.heap.get? b=none∧b∉ι') (hm:∀b∈priv,∃o,s'.heap.get? b=some o∧By o)
  (hk:∀b o,b∉priv→s'.heap.get? b=some o→h'.get? b=some o):aU A env ι s ι' q' { s' with heap:=h',toks:=tk }∧oG s'.heap h':=by
 have off:∀b o,s.heap.get? b=some o→b∉priv:=fun b o e hb=>by rw [(hp b hb).1] at e;cases e
 obtain ⟨R',im⟩:=P.rel.off (tk:=tk) (fun b hb=>let ⟨x,y,z⟩:=R.fresh3 (hp b hb).1;⟨(hp b hb).2,x,y,z⟩) hm hk
 refine ⟨⟨P.pre,R',⟨fun a o e=> ?_,fun a o e hW=> ?_,fun a o e hW hf=> ?_⟩,P.new⟩,im⟩
 ·obtain ⟨o',e'⟩:=P.kp.size a o e;exact ⟨o',hk a o' (off a o e) e'⟩
 ·obtain ⟨sl,e'⟩:=P.kp.up a o e hW;exact ⟨sl,hk a _ (off a o e) e'⟩
 ·exact hk a o (off a o e) (P.kp.ex a o e hW hf)
theorem Gj {target:Expr} {body:List Stmt} {bd:V→Cm Unit} {m:Cm Fl} {I:Addr} {priv:List Addr} {ι1:List Addr} {it:It} {St:Nat→Heap→Prop} {q1:S} {s1:Shared} (ha:jD hq k A env) (R:cC A env ι q s)
  (hb:sy hq k env target bd) (hm:Cr hq k env body m) (P1:aU A env ι s ι1 q1 s1) (hI:Gc A target I priv ι1 it St) (h0:St 0 s1.heap) (hp:∀b∈priv,s.heap.get? b=none∧b∉ι1) (hg:it.g q1.H)
  {Q:Flow→Shared→Prop} {E:Value→Shared→Prop}
  (hQ:Fin A env ι s (bH it.g bd m it.xs q1) (ud) Q E) :
  codeAny G.M A (.forLoop target (.ref I) body [] env) (fun r s'=>match r with | .ok f=>Q f s' | .error e=>cameBackBy G.M A env E e s') s1:=by
 obtain ⟨J,toJ,ofJ⟩:∃J:Nat→Shared→Prop,(∀n s',(∃i ι' q',i≤it.xs.length∧n=it.xs.length+1-i∧ι1<+:ι'∧aU A env ι s ι' q' s'∧St i s'.heap∧it.g q'.H∧(∀b∈priv,b∉ι')∧bH it.g bd m (it.xs.drop i) q'=bH it.g bd m it.xs q1)→J n s')∧ ∀n s',J n s'→ ∃i ι' q',i≤it.xs.length∧n=it.xs.length+1-i∧ι1<+:ι'∧aU A env ι s ι' q' s'∧St i s'.heap∧it.g q'.H∧(∀b∈priv,b∉ι')∧bH it.g bd m (it.xs.drop i) q'=bH it.g bd m it.xs q1:=⟨_,fun _ _ h=>h,fun _ _ h=>h⟩
 refine codeAny_forLoop_any J ?_ (it.xs.length+1) (toJ _ _ ⟨0,ι1,q1,Nat.zero_le _,rfl,List.prefix_refl _,P1,h0,hg,fun b hb=>(hp b hb).2,by rw [List.drop_zero]⟩)
 intro n s' hJ
 obtain ⟨i,ι',q',hi,rfl,hpre,P,hst,hg',hpi,hr⟩:=ofJ n s' hJ
 have hp':∀b∈priv,s.heap.get? b=none∧b∉ι':=fun b hb=>⟨(hp b hb).1,hpi b hb⟩
 rcases Nat.lt_or_ge i it.xs.length with hlt | hge
 ·obtain ⟨x,hx⟩:∃x,it.xs[i]? = some x:=⟨_,List.getElem?_eq_getElem hlt⟩
  have hdrop:it.xs.drop i=x::it.xs.drop (i+1):=by
   rw [List.drop_eq_getElem_cons hlt];congr 1;rw [List.getElem?_eq_getElem hlt] at hx;exact Option.some.inj hx
  rw [hdrop] at hr
  refine wpAny_mono (hI.item i x s' ι' q'.H (fun v s₂=>wpAny G.M A (assign target env v) (fun _ s₂=>wpAny G.M A (execs body env) (fun f s₃=>match f with
      | .next | .cont=> ∃m',m'<it.xs.length+1-i∧J m' s₃
      | .brk=>Q .next s₃
      | .ret v=>Q (.ret v) s₃) (notedBy G.M A env (cameBackBy G.M A env E)) s₂) (notedBy G.M A env (cameBackBy G.M A env E)) s₂) (notedBy G.M A env (cameBackBy G.M A env E)) hx hpre hpi P.rel.st hg' hst
   fun v h' tk hk hv hst'=> ?_) (fun r s₁ y=> ?_) fun _ _ y=>y
  ·obtain ⟨P2,im⟩:=aU.off (tk:=tk) R P hp' (hI.mu _ _ hst) hk
   have hA:=hb A ι' q' _ x v ha P2.rel hv
   have hno:∀b∈priv,b∉own env∧b∉lX A:=fun b hb=>let ⟨x,y,_⟩:=R.fresh3 (hp b hb).1;⟨x,y⟩
   have stp:∀ {ιa ιb:List Addr} {qa qb:S} {sa sb:Shared},St (i+1) sa.heap→(∀b∈priv,b∉ιa)→aU A env ιa sa ιb qb sb→St (i+1) sb.heap∧ ∀b∈priv,b∉ιb:=fun {ιa ιb qa qb sa sb} hs hn Pa=>by
    refine ⟨hI.frame _ _ _ hs fun b hb o e=>Pa.kp.ex b o e (fun hm=>(List.mem_append.mp hm).elim (hno b hb).1 (hn b hb)) (hno b hb).2,fun b hb hm=> ?_⟩
    rcases Pa.new b hm with h1 | h1
    ·exact hn b hb h1
    ·obtain ⟨o,e,_⟩:=hI.mu _ _ hs b hb;rw [h1] at e;cases e
   cases hbd:bd x q' with
   | stuck =>
    have:bH it.g bd m it.xs q1= .stuck:=by rw [← hr];exact bk hbd
    rw [this] at hQ;exact hQ.elim
   | exc c q2 =>
    have e:bH it.g bd m it.xs q1= .exc c q2:=by rw [← hr];exact fu hbd
    rw [e] at hQ
    rw [hbd] at hA
    exact hA _ _ fun ι2 ev s2 x=>(P2.transX x).passes ha fun s'' y=>hQ ι2 ev s'' y
   | ok u q2 =>
    rw [hbd] at hA
    refine hA _ _ fun ι2 u' s2 Pa _=> ?_
    obtain ⟨hsa,hna⟩:=stp (qa:=q') hst' hpi Pa
    have hr2:(m.b (zI it.g (bH it.g bd m (it.xs.drop (i+1))))) q2=bH it.g bd m it.xs q1:=by
     rw [← hr];exact (dP (f:=fun _=>m.b (zI it.g (bH it.g bd m (it.xs.drop (i+1))))) hbd).symm
    have P3:=P2.trans Pa
    have hB:=hm A ι2 q2 s2 ha P3.rel
    cases hmb:m q2 with
    | stuck=>rw [bk hmb] at hr2;rw [← hr2] at hQ;exact hQ.elim
    | exc c q3 =>
     rw [fu hmb] at hr2;rw [← hr2] at hQ
     rw [hmb] at hB
     exact hB _ _ fun ι3 ev s3 x=>(P3.transX x).passes ha fun s'' y=>hQ ι3 ev s'' y
    | ok f q3 =>
     rw [dP hmb] at hr2
     rw [hmb] at hB
     refine hB _ _ fun ι3 cf s3 Pb hf=> ?_
     have P4:=P3.trans Pb
     cases f with
     | ret v =>
      obtain ⟨cv,rfl,hv⟩:=hf
      rw [← hr2] at hQ
      exact hQ ι3 (.ret cv) s3 P4 ⟨cv,rfl,hv⟩
     | next =>
      rw [show cf= .next from hf]
      unfold zI at hr2
      dsimp only at hr2 ⊢
      obtain ⟨hsb,hnb⟩:=stp (qa:=q2) hsa hna Pb
      by_cases hg3:it.g q3.H
      ·rw [if_pos hg3] at hr2
       exact ⟨it.xs.length+1-(i+1),Cl 0x30113c192c01192c191c0c212 (Nat.sub_add_cancel (b0 0x191c190c010011 hi)) (sA _ _),toJ _ _ ⟨i+1,ι3,q3,hlt,rfl,hpre.trans (Pa.pre.trans Pb.pre),P4,hsb,hg3,hnb,hr2⟩⟩
      ·rw [if_neg hg3] at hr2;rw [← hr2] at hQ;exact hQ.elim
  ·cases r with
   | none=>exact y.elim
   | some v=>exact y
 ·have hi':i=it.xs.length:=Nat.le_antisymm (hi) (hge)
  subst hi'
  rw [List.drop_length] at hr
  refine wpAny_mono (hI.done s' ι' q'.H (fun s₁=>Q .next s₁) _ hpre hpi P.rel.st hg' hst fun h' tk hk=> ?_) (fun r s₁ y=> ?_) fun _ _ y=>y
  ·obtain ⟨P2,im⟩:=aU.off (tk:=tk) R P hp' (hI.mu _ _ hst) hk
   rw [← hr] at hQ
   exact hQ ι' .next _ P2 rfl
  ·cases r with
   | none=>exact wpAny_execs_nil y
   | some v=>exact y.elim
end
section
variable {hq:Bool} {k:Nat} {env:Env} {A:Around} {ι ι':List Addr} {q q':S} {s s':Shared} {H H':Hp} {h:Heap}
theorem dS {target iter:Expr} {body:List Stmt} {pos:Pos} {mi:Cm It} {bd:V→Cm Unit} {m:Cm Fl} (h1:Ff hq k env target iter mi) (hb:sy hq k env target bd) (hm:Cr hq k env body m)
  (hs:∀x,foldedSetIterable iter env x=pure x):Ex hq k env (.For target iter body [] pos) (mi.b fun it=>bH it.g bd m it.xs):=by
 intro A ι q s ha R
 have hi:=h1 A ι q s ha R
 refine aQ.of fun Q E hQ=>wpAny_For ?_ hs
 cases hmi:mi q with
 | stuck=>rw [bk hmi] at hQ;exact hQ.elim
 | exc c q1=>rw [fu hmi] at hQ;rw [hmi] at hi;exact hi _ _ hQ
 | ok it q1 =>
  rw [dP hmi] at hQ
  rw [hmi] at hi
  refine hi _ _ fun ι1 cv s1 P1 hr=> ?_
  obtain ⟨⟨I,priv,St,rfl,h0,hp,_,hI⟩,hg⟩:=hr
  exact Gj ha R hb hm P1 hI h0 hp (hg q1 rfl) hQ
theorem aW {x:String} {p:Pos} (hx:yq env x):sy hq k env (.Name (Str.ofString x) p) (an x) :=
 fun A ι q s v cv ha R hv=>(qk hx R hv).imp fun Q E y=>wpAny_assign_Name y
noncomputable def jp (x y:String):V→Cm Unit
 | .tup [a,b]=>(an x a).b fun _=>an y b
 | _=> .stk
theorem ub {x y:String} {p p2 pos:Pos} {kk:Nat} (hh:hq=true) (hx:yq env x) (hy:yq env y):sy hq k env (.Tuple [.Name (Str.ofString x) p,.Name (Str.ofString y) p2] kk pos) (jp x y):=by
 intro A ι q s v cv ha R hv
 cases v with
 | tup l =>
  cases l with
  | nil=>trivial
  | cons a l =>
  cases l with
  | nil=>trivial
  | cons b l =>
  cases l with
  | cons _ _=>trivial
  | nil =>
  obtain ⟨t,vs,rfl,ht,ca,vs1,rfl,ra,cb,vs2,rfl,rb,e⟩:=hv
  rw [show vs2=[] from e] at ht
  have key:∀h',s.heap.StaysIn h'→aQ A env ι { s with heap:=h' } (((an x a).b fun _=>an y b) q) (fun _ _ _ _=>True) (fun Q E s₁=>wpAny G.M A (storeName env (Str.ofString x) ca) (fun _ s₂=>wpAny G.M A (storeName env (Str.ofString y) cb) Q E s₂) E s₁):=fun h' st=>by
   have R':=R.stays (tk:=s.toks) st
   have im:=oG.of_stays st
   exact aQ.b (m:=an x a) (T':=fun _ Q E s₁=>wpAny G.M A (storeName env (Str.ofString y) cb) Q E s₁) (qk hx R' (ra.mono (List.prefix_refl _) im)) fun _ q2 ι2 _ s2 _ P2 _ =>
    qk hy P2.rel (P2.vrel R' (rb.mono (List.prefix_refl _) im))
  show aQ A env ι s (.ok () ⟨upd (upd q.l x a) y b,q.H⟩) _ _
  intro Q E hQ
  refine assign_Tuple_tuple (ha.hd hh) ht rfl rfl fun h' he=> ?_
  have st:s.heap.StaysIn h':=fun b o e=>he b o (Nat.ne_of_lt (Heap.lt_size e)) e
  show wpAny G.M A (do holding _ (assign (.Name (Str.ofString x) p) env ca);do holding _ (assign (.Name (Str.ofString y) p2) env cb);pure ()) Q E { s with heap:=h' }
  refine wpAny_bind (wpAny_holding (wpAny_assign_Name ?_))
  refine wpAny_mono (key h' st (fun u s₂=>Q () s₂) E fun ι2 u s2 P2 _=>hQ ι2 () s2 ((aU.stays (tk:=s.toks) R st).trans P2) trivial) (fun u s₂ y=> ?_) fun _ _ y=>y
  exact wpAny_bind (wpAny_holding (wpAny_assign_Name (wpAny_mono y (fun u s₂ z=>wpAny_pure z) fun _ _ z=>z)))
 | _=>trivial
inductive Gn:Expr→Prop
 | name (x:Str) (p:Pos):Gn (.Name x p)
 | pair (es:List Expr) (kk:Nat) (p:Pos):Gn (.Tuple es kk p)
theorem Ao {target:Expr} (ht:Gn target) {I l:Addr} {i:Nat} {v:Value} {Q:Unit→Shared→Prop} {E:Value→Shared→Prop} (hit:s.heap.IsListIter I l i) (hQ:Q () s) :
  wpAny G.M A (letOwnedTupleGo target (.ref I) v) Q E s:=by
 cases ht with
 | name x p=>exact wpAny_pure hQ
 | pair es kk p =>
  cases v with
  | ref T=>exact wpAny_letOwnedTupleGo_listiter hit hQ
  | _=>exact wpAny_pure hQ
noncomputable def cQ (v:V):Cm It:=fun q=>match ay v q.H with
 | some xs=> .ok ⟨xs,fun H=>ay v H=some xs⟩ q
 | none=> .stuck
theorem iJ {h:Heap} {I l:Addr} {i:Nat} (x:h.IsListIter I l i):∃o,h.get? I=some o∧By o:=let ⟨o,ho,hc,_⟩:=x;⟨o,ho,.inl ⟨_,hc,by decide⟩⟩
theorem Ee {h h':Heap} {I:Addr} (hm:∃o,h.get? I=some o∧By o) (hs:Heap.ExtBut I h h'):oG h h':=fun a o e hmu=>⟨o.slots,hs a o (fun q=>by
 obtain ⟨o',e',m'⟩:=hm;rw [← q,e] at e';cases e';exact hmu m') e⟩
theorem Db (C:bA G) (hh:A.handled=none) {target:Expr} (ht:Gn target) {I l:Addr} {v:V} {xs:List V} (hv:∀ι',ι<+:ι'→ ∀h,aK ι' h v (.ref l)) (hs:(∃j,v= .ref j)∨v= .scr) (hI:l≠I) :
  Gc A target I [I] ι ⟨xs,fun H=>ay v H=some xs⟩ (fun i h=>h.IsListIter I l i) where
 mu:=fun i h st b hb=>by simp at hb;subst hb;exact iJ st
 frame:=fun i h h' st hk=>st.at fun o e=>hk I (by simp) o e
 item:=fun i x s ι' H Q E hx hpre hpi R hg st hQ=>by
  obtain ⟨a,vs,e,g1,g2⟩:=gc C R (hv ι' hpre s.heap) hg
  cases e
  obtain ⟨cv,c1,c2⟩:=g2.get hx
  refine wpAny_pyNext_list_item st g1 (x:=cv) (by simpa using c1) fun h' st' hs=> ?_
  exact Ao ht st' (hQ cv h' s.toks (fun b o hb e=>hs.extBut b o (fun q=>hb (by simp [q])) e) (c2.mono (List.prefix_refl _) (Ee (iJ st) hs.extBut)) st')
 done:=fun s ι' H Q E hpre hpi R hg st hQ=>by
  obtain ⟨a,vs,e,g1,g2⟩:=gc C R (hv ι' hpre s.heap) hg
  cases e
  refine wpAny_pyNext_list_end hh st g1 (by simp [g2.length]) fun h' hs=> ?_
  exact hQ h' s.toks fun b o hb e=>hs b o (fun q=>hb (by simp [q])) e
 self:=fun i s Q E st hQ=>wpAny_pyIter_listiter st hQ
theorem bj (C:bA G) (hh:hq=true) {target iter:Expr} (ht:Gn target) {m:Cm V} (h1:Ev hq k env iter m):Ff hq k env target iter (m.b fun v=>cQ v):=by
 intro A ι q s ha R
 refine aQ.of fun Q E hQ=> ?_
 have h1':=h1 A ι q s ha R
 cases hm:m q with
 | stuck=>rw [bk hm] at hQ;exact hQ.elim
 | exc c q1=>rw [fu hm] at hQ;rw [hm] at h1';exact h1' _ _ hQ
 | ok v q1 =>
  rw [dP hm] at hQ
  rw [hm] at h1'
  refine h1' _ _ fun ι1 cv s1 P1 hv=> ?_
  unfold cQ at hQ
  cases hi:ay v q1.H with
  | none=>rw [hi] at hQ;exact hQ.elim
  | some xs =>
   rw [hi] at hQ
   obtain ⟨l,vs,rfl,g1,g2⟩:=gc C P1.rel.st hv hi
   refine wpAny_pyIter_list g1 ?_
   have st:s1.heap.StaysIn (s1.heap.push { cls:= .type "list_iterator",data:= .fields #[.ref l,.int 0 0] }):=fun b o e=>Heap.get?_push_of_some _ e
   have nw:s1.heap.get? s1.heap.objs.size=none:=Heap.get?_none_of_le (Nat.le_refl _)
   have P2:=P1.trans (aU.stays (tk:=s1.toks) P1.rel st)
   have hv2:∀ι',ι1<+:ι'→ ∀h,aK ι' h v (.ref l):=fun ι' hp h=>uz hi hv hp
   refine hQ ι1 _ _ P2 ⟨⟨s1.heap.objs.size,[s1.heap.objs.size],_,rfl,⟨_,Heap.get?_push_size _ rfl,rfl,rfl⟩,fun b hb=> ?_,fun _ _=>trivial,Db C (ha.hd hh) ht hv2 ?_ fun e=> ?_⟩,fun q' e=> ?_⟩
   ·simp at hb;subst hb
    refine ⟨?_,(P1.rel.fresh_ne nw).1⟩
    cases e:s.heap.get? s1.heap.objs.size with
    | none=>rfl
    | some o=>obtain ⟨o',e'⟩:=P1.kp.size _ _ e;rw [nw] at e';cases e'
   ·exact Al hi
   ·obtain ⟨o,e',_⟩:=g1
    rw [e,nw] at e';cases e'
   ·cases e
    exact hi
theorem EL (C:bA G) {target:Expr} {x:String} {bv:Value} {es:List Expr} {p pos:Pos} {m:Cm (List V)} {f:List V→Cm It} (hx:env.kindOf (Str.ofString x)=some .globalImplicit) (hv:nsIn G.K mainGlobals (Str.ofString x)=some none)
  (hb:bootBuiltins (Str.ofString x)=some bv) (hn:Str.ofString x ≠ "__name__") (hd:(Str.ofString x==("__debug__" : Str))=false) (hc:tN bv) (h1:Bx hq k env es m) (hp:(backTo pos (starEach es env)).any (·.1)=false)
  (hf:∀A ι q s vs cvs,jD hq k A env→cC A env ι q s→aN ι s.heap vs cvs→aQ A env ι s (f vs q) (fun ι' h it cv=>yu A target s.heap ι' h it cv∧ ∀q',f vs q= .ok it q'→it.g q'.H)
   (fun Q E s=>wpAny G.M A (call bv cvs) (fun x s₁=>wpAny G.M A (pyIter x) Q E s₁) E s)) :
  Ff hq k env target (.Call (.Name (Str.ofString x) p) es [] pos) (m.b fun vs=>f vs):=by
 intro A ι q s ha R
 refine aQ.of fun Q E hQ=> ?_
 have h1':=h1 pos A ι q s ha R
 show wpAny G.M A (do callWith pos (← eval (.Name (Str.ofString x) p) env) [] (backTo pos (starEach es env)) []) _ E s
 refine wpAny_bind (qr C R hx hv hb hn hd ?_)
 refine hc _ _ _ _ _ _ _ hp (cE hp ?_)
 cases hm:m q with
 | stuck=>rw [bk hm] at hQ;exact hQ.elim
 | exc c q1=>rw [fu hm] at hQ;rw [hm] at h1';exact h1' _ _ hQ
 | ok vs q1 =>
  rw [dP hm] at hQ
  rw [hm] at h1'
  refine h1' _ _ fun ι1 cvs s1 P1 hv=> ?_
  have h2:=hf A ι1 q1 s1 vs cvs ha P1.rel hv
  refine aQ.mono P1 h2 ?_
  cases hfv:f vs q1 with
  | stuck=>rw [hfv] at hQ;exact hQ
  | exc c q2=>rw [hfv] at hQ;exact hQ
  | ok it q2 =>
   rw [hfv] at hQ
   refine fun ι2 cv s2 P2 r=>hQ ι2 cv s2 P2 ⟨?_,fun q' e=> ?_⟩
   ·obtain ⟨⟨I,priv,St,e1,e2,e3,e4,e5⟩,_⟩:=r
    refine ⟨I,priv,St,e1,e2,fun b hb=>⟨?_,(e3 b hb).2⟩,e4,e5⟩
    cases e:s.heap.get? b with
    | none=>rfl
    | some o=>obtain ⟨o',e'⟩:=P1.kp.size _ _ e;rw [(e3 b hb).1] at e';cases e'
   ·exact r.2 q' e
noncomputable def ba (a:Int):Nat→List V
 | 0=>[]
 | n+1=> .int a::ba (a+1) n
theorem fm:∀(n:Nat) (a:Int),(ba a n).length=n
 | 0,_=>rfl
 | n+1,a=>by rw [ba,List.length_cons,fm n]
theorem uZ:∀(n:Nat) (a:Int) (i:Nat) (x:V),(ba a n)[i]? = some x→x= .int (a+i)∧i<n
 | 0,a,i,x,e=>by simp [ba] at e
 | n+1,a,0,x,e=>by simp [ba] at e;exact ⟨by rw [← e];simp,bz 0x190c0910⟩
 | n+1,a,i+1,x,e=>by
  simp [ba] at e
  obtain ⟨h1,h2⟩:=uZ n (a+1) i x e
  exact ⟨by rw [h1];congr 1;push_cast;exact Int.le_antisymm (kb 0x190fc0c0f190cc80) (kb 0xf190cc190fc0c80),b0 0x191c190c110111 h2⟩
noncomputable def cN:List V→Cm It
 | [.int b]=>if -1000000<b∧b<1000000 then .p ⟨ba 0 b.toNat,fun _=>True⟩ else .stk
 | [.int a,.int b]=>if (-1000000<a∧a<1000000) ∧ -1000000<b∧b<1000000 then .p ⟨ba a (b-a).toNat,fun _=>True⟩ else .stk
 | _=> .stk
theorem BP (hh:A.handled=none) {x:Str} {p:Pos} {I:Addr} (a:Int) (n:Nat) :
  Gc A (.Name x p) I [I] ι ⟨ba a n,fun _=>True⟩ (fun i h=>IsRangeIter h I (a+(i:Nat)) ((n:Int)-(i:Nat)) 1) where
 mu:=fun i h st b hb=>by simp at hb;subst hb;exact ⟨_,st,.inl ⟨_,rfl,by decide⟩⟩
 frame:=fun i h h' st hk=>hk I (by simp) _ st
 item:=fun i x s ι' H Q E hx hpre hpi R hg st hQ=>by
  obtain ⟨rfl,hlt⟩:=uZ _ _ _ _ hx
  refine wpAny_pyNext_range_item st (b0 0xf1fe09910111 hlt) fun h' st' hs=> ?_
  refine wpAny_pure (hQ _ h' _ (fun b o hb e=>hs.extBut b o (fun q=>hb (by simp [q])) e) (vF _ _) ?_)
  rw [show a+((i+1:Nat):Int)=a+(i:Int)+1 by push_cast;exact Int.le_antisymm (kb 0x190f0cc190fc0c80) (kb 0x190fc0c190f0cc80),show (n:Int)-((i+1:Nat):Int)=(n:Int)-(i:Int)-1 by push_cast;exact Int.le_antisymm (b0 0x191f0fee191fc0fe80) (b0 0x191fc0fe191f0fee80)]
  exact st'
 done:=fun s ι' H Q E hpre hpi R hg st hQ=>by
  refine wpAny_pyNext_range_end hh st (by dsimp only;rw [fm];exact bz 0x90f0fe80) fun h' hs=> ?_
  exact hQ h' s.toks fun b o hb e=>hs b o (fun q=>hb (by simp [q])) e
 self:=fun i s Q E st hQ=>wpAny_pyIter_rangeiter st hQ
theorem sD (hh:A.handled=none) {x:Str} {p:Pos} {a b:Int} {t u v:Tok} {tk:Nat} (R:cC A env ι q s) (ha : -1000000<a∧a<1000000) (hb : -1000000<b∧b<1000000) {Q:Value→Shared→Prop} {E:Value→Shared→Prop}
  (hQ:∀ι'' cv s'',aU A env ι s ι'' q s''→(yu A (.Name x p) s.heap ι'' s''.heap ⟨ba a (b-a).toNat,fun _=>True⟩ cv)→Q cv s'') :
  wpAny G.M A (pyIter (.ref s.heap.objs.size)) Q E { s with heap:=s.heap.push { cls:= .type "range",data:= .fields #[.int a t,.int b u,.int 1 v] },toks:=tk }:=by
 have hsz:Builtin.Range.rangeSize a b 1=(((b-a).toNat:Nat):Int):=by
  unfold Builtin.Range.rangeSize
  simp
  split<;>omega
 refine wpAny_pyIter_range (Heap.get?_push_size _ rfl) ?_ ?_
 ·unfold Builtin.Range.small
  have ft:∀z:Int,-1000000<z→z<2000000→Builtin.Range.rangeFitsLong z=true:=fun z h1 h2=>by unfold Builtin.Range.rangeFitsLong;simp;omega
  simp [hsz,ft a ha.1 (cK 0x1e8480a090f4240a0911 ha.2),ft b hb.1 (cK 0x1e8480a090f4240a0911 hb.2),ft 1 (by omega) (by omega),ft (max (b-a) 0) (by omega) (by omega)]
 ·rw [hsz]
  have st:s.heap.StaysIn ((s.heap.push { cls:= .type "range",data:= .fields #[.int a t,.int b u,.int 1 v] }).push { cls:= .type "range_iterator",data:= .fields #[rawInt a,rawInt (((b-a).toNat:Nat):Int),rawInt 1] }) :=
   fun c o e=>Heap.get?_push_of_some _ (Heap.get?_push_of_some _ e)
  refine hQ ι _ _ (aU.stays R st) ⟨_,[_],_,rfl,?_,fun c hc=> ?_,fun _ _=>trivial,BP hh a (b-a).toNat⟩
  ·have:=Heap.get?_push_size (s.heap.push { cls:= .type "range",data:= .fields #[.int a t,.int b u,.int 1 v] }) (o:={ cls:= .type "range_iterator",data:= .fields #[rawInt a,rawInt (((b-a).toNat:Nat):Int),rawInt 1] }) rfl
   simpa using this
  ·simp at hc;subst hc
   have nw:s.heap.get? (s.heap.push { cls:= .type "range",data:= .fields #[.int a t,.int b u,.int 1 v] }).objs.size=none:=Heap.get?_none_of_le (by rw [Heap.size_push];exact bz 0x190c000)
   rw [Heap.size_push] at nw
   exact ⟨nw,(R.fresh_ne nw).1⟩
theorem D4 (hh:A.handled=none) {x:Str} {p:Pos} (R:cC A env ι q s) {vs:List V} {cvs:List Value} (hv:aN ι s.heap vs cvs) :
  aQ A env ι s (cN vs q) (fun ι' h it cv=>yu A (.Name x p) s.heap ι' h it cv∧ ∀q',cN vs q= .ok it q'→it.g q'.H)
   (fun Q E s=>wpAny G.M A (call (.type "range") cvs) (fun x s₁=>wpAny G.M A (pyIter x) Q E s₁) E s):=by
 cases vs with
 | nil=>trivial
 | cons v vs =>
 cases v with
 | int a =>
  cases vs with
  | nil =>
   obtain ⟨cv,_,rfl,⟨t,rfl⟩,e⟩:=hv;rw [show _=[] from e]
   unfold cN;dsimp only
   split
   ·rename_i hb
    intro Q E hQ
    refine call_range_1 (sD (b:=a) hh R (by omega) hb fun ι2 cv s2 P r=>hQ ι2 cv s2 P ⟨by simpa using r,fun q' e=> ?_⟩)
    cases e;trivial
   ·trivial
  | cons v vs =>
  cases vs with
  | cons _ _=>cases v<;>trivial
  | nil =>
  cases v with
  | int b =>
   obtain ⟨cv,_,rfl,⟨t,rfl⟩,cv2,_,rfl,⟨t2,rfl⟩,e⟩:=hv;rw [show _=[] from e]
   unfold cN;dsimp only
   split
   ·rename_i hb
    intro Q E hQ
    refine call_range_2 (sD (b:=b) hh R hb.1 hb.2 fun ι2 cv s2 P r=>hQ ι2 cv s2 P ⟨r,fun q' e=> ?_⟩)
    cases e;trivial
   ·trivial
  | _=>trivial
 | _=>trivial
theorem fR (C:bA G) (hh:hq=true) {x:Str} {px p pos:Pos} {es:List Expr} {m:Cm (List V)} (hx:env.kindOf (Str.ofString "range")=some .globalImplicit) (hv:nsIn G.K mainGlobals (Str.ofString "range")=some none)
  (h1:Bx hq k env es m) (hp:(backTo pos (starEach es env)).any (·.1)=false):Ff hq k env (.Name x px) (.Call (.Name (Str.ofString "range") p) es [] pos) (m.b fun vs=>cN vs) :=
 EL C hx hv (bv:= .type "range") ∅ ∅ ∅ (dq _) h1 hp fun A ι q s vs cvs ha R hv=>D4 (ha.hd hh) R hv
end
noncomputable def qM (K:Frag) (N:Addr):Bool:=match K.lookup N with
 | some ⟨_,_,.dict es _,_⟩=>es.toList.all (fun e=>match e.key with | .str _ _=>true | _=>false)&&(nsFind es "__init__").isNone
 | _=>false
noncomputable def CE:List Value:=[.type "ValueError",.type "Exception",.type "BaseException",.type "object"]
noncomputable def Bv (K:Frag):List Value→Bool
 | .ref a::tl=>(match K.lookup a with | some ⟨_,_,.cls cd,_⟩=>qM K cd.ns&&Bv K tl | _=>false)
 | l=>decide (l=CE)
noncomputable def pq (K:Frag) (C:Addr):Bool:=match K.lookup C with
 | some ⟨.type "type",_,.cls cd,sl⟩=>(match cd.mro with
   | .ref C'::bm=>decide (C'=C)&&Bv K bm
   | _=>false) && !cd.hasDel&&decide (sl.size=6)&&decide (sl[4]? = some (some (.builtin "ValueError.__new__")))&&qM K cd.ns
 | _=>false
theorem uQ {K:Frag} {N:Addr} {h:Heap} (X:K.In h) (x:qM K N=true):∃m,h.Ns N m∧m "__init__" = none:=by
 unfold qM at x
 cases hl:K.lookup N with
 | none=>rw [hl] at x;cases x
 | some o =>
 rw [hl] at x
 obtain ⟨c,d,da,sl⟩:=o
 cases da with
 | dict es n =>
  dsimp only at x
  rw [Bool.and_eq_true,List.all_eq_true] at x
  refine ⟨nsFind es,⟨_,es,n,X _ _ hl,rfl,fun e he=> ?_,fun _=>rfl⟩,Option.isNone_iff_eq_none.mp x.2⟩
  have:=x.1 e (Array.mem_toList_iff.mpr he)
  cases hk:e.key with
  | str a b=>exact ⟨_,_,rfl⟩
  | _=>rw [hk] at this;cases this
 | _=>cases x
theorem xh {K:Frag} {h:Heap} (X:K.In h):∀ {l:List Value},Bv K l=true→OwnTail h CE l
 | [],x=>(nomatch of_decide_eq_true (p:=[]=CE) x)
 | v::tl,x=>by
  cases v with
  | ref a =>
   change (match K.lookup a with | some ⟨_,_,.cls cd,_⟩=>qM K cd.ns&&Bv K tl | _=>false)=true at x
   cases hl:K.lookup a with
   | none=>rw [hl] at x;cases x
   | some o =>
   rw [hl] at x
   obtain ⟨c,d,da,sl⟩:=o
   cases da with
   | cls cd =>
    dsimp only at x
    rw [Bool.and_eq_true] at x
    obtain ⟨m,hn,hi⟩:=uQ X x.1
    exact .own (X _ _ hl) hn hi (xh X x.2)
   | _=>cases x
  | _=>rw [show _=CE from of_decide_eq_true x];exact .base
theorem Gb {K:Frag} {C:Addr} {h:Heap} (X:K.In h) (x:pq K C=true) :
  ∃nm q N bs bm hdct sx sub ab col dd k0 k1 k2 k3 k5 mN,A5 (h.get? C=some (excClassObj nm q C N bs bm hdct sx sub ab col dd k0 k1 k2 k3 k5 "ValueError.__new__")) (K.lookup C=some (excClassObj nm q C N bs bm hdct sx sub ab col dd k0 k1 k2 k3 k5 "ValueError.__new__")) (h.Ns N mN) (mN "__init__" = none) (OwnTail h CE bm):=by
 refine wK fun X' kX=> ?_
 unfold pq at x
 split at x
 ·rename_i oc dd cd sl hl
  obtain ⟨nm,bs,mro,N,q,hdct,sx,sub,ab,col,hdel⟩:=cd
  simp only [Bool.and_eq_true,decide_eq_true_eq,Bool.not_eq_true'] at x
  obtain ⟨⟨⟨⟨hm,hdl⟩,hsz⟩,hmk⟩,hns⟩:=x
  split at hm
  ·rename_i C' bm
   simp only [Bool.and_eq_true,decide_eq_true_eq] at hm
   obtain ⟨rfl,ht⟩:=hm
   obtain ⟨l⟩:=sl
   obtain ⟨k0,k1,k2,k3,k5,rfl⟩:=six_places (l:=l) (by simpa using hsz) (by simpa using hmk)
   obtain rfl:hdel=false:=hdl
   obtain ⟨m,hn,hi⟩:=uQ X hns
   exact kX ⟨nm,q,N,bs,bm,hdct,sx,sub,ab,col,dd,k0,k1,k2,k3,k5,m,X _ _ hl,hl,hn,hi,xh X ht⟩
  ·cases hm
 ·cases x
section
variable {hq:Bool} {k:Nat} {env:Env} {A:Around} {ι ι':List Addr} {q q':S} {s s':Shared} {H H':Hp} {h:Heap}
theorem dE.made {c:String} {C e:Addr} {args:List Value} {h':Heap} {tk:Nat} (ha:jD hq k A env) (R:cC A env ι q s) (hc:G.xcl c=some C) (hm:Heap.MadeExcOf s.heap h' e (.ref C) args) :
  dE A env ι s c ι q { s with heap:=h',toks:=tk } (.ref e):=by
 have fsn:∀env'∈A.frames.getD [],∀L,env'.frame=some L→L∈lX A:=fun env' he L hf=>List.mem_filterMap.mpr ⟨env',he,hf⟩
 have frm:∀a∈lX A,∃o,s.heap.get? a=some o∧(∃es n,o.data= .dict es n)∧a∉ι∧G.hB.get? a=none:=fun a hf=>by
  obtain ⟨e',he,hf'⟩:=List.mem_filterMap.mp hf
  obtain ⟨_,L,o,h1,h2,h3,h4,h5⟩:=R.fs e' he
  obtain rfl:L=a:=Option.some.inj (h1.symm.trans hf')
  exact ⟨o,h2,h3,h4,h5⟩
 have get:∀a o,s.heap.get? a=some o→a∉lX A→(hideAll s.heap (lX A)).get? a=some o:=fun a o e n=>hideAll_get _ e n
 have im:oG s.heap (hideAll s.heap (lX A)):=fun a o e hmu=>⟨o.slots,get a o e fun hf=>by
  obtain ⟨o',e',⟨es,n,d⟩,_⟩:=frm a hf
  rw [e] at e';cases e';exact hmu (.inr (.inl ⟨es,n,d⟩))⟩
 have bs:(hideAll s.heap (lX A)).StaysIn h':=fun b o e=>hm.keeps b o (of_hideAll _ e)
 have st:eY ι q.H (hideAll s.heap (lX A)):=⟨fun b o e=>get b o (R.st.keep b o e) (fun hf=>by obtain ⟨_,_,_,_,n⟩:=frm b hf;rw [n] at e;cases e),R.st.len,R.st.nodup,R.st.fresh,
  fun i a o e1 e2=>(R.st.obj i a o e1 e2).at (List.prefix_refl _) im fun o' e'=>get a o' e' fun hf=>by obtain ⟨_,_,_,n,_⟩:=frm a hf;exact n (List.mem_of_getElem? e1)⟩
 obtain ⟨fenv,rest,f1,f2,_⟩:=ha.fr
 have hfm:fenv∈A.frames.getD []:=by rw [f1];exact .head _
 obtain ⟨_,L,oL,g1,_⟩:=R.fs fenv hfm
 obtain ⟨t,ht,htn,ht'⟩:=hm.there
 have cellEx:∀c o v,s.heap.get? c=some o→o.data= .cell v→(hideAll s.heap (lX A)).get? c=some o:=fun c o v e hd=>get c o e fun hf=>by
  obtain ⟨o',e',⟨es,n,d⟩,_⟩:=frm c hf
  rw [e] at e';cases e';rw [hd] at d;cases d
 refine ⟨List.prefix_refl _,⟨e,C,hideAll s.heap (lX A),L,rfl,hc,f2.symm.trans g1,⟨bs,?_,?_,_,_,.ref t,ht,rfl,rfl,rfl,.inl rfl⟩,st,?_,R.fs.stays hm.keeps,fun a o e hW hf=>get a o e hf⟩,
  zN.of_stays hm.keeps,fun a o e _=>⟨o.slots,hm.keeps a o e⟩,fun _ h=> .inl h,R.gens,R.os⟩
 ·cases q:(hideAll s.heap (lX A)).get? e with
  | none=>rfl
  | some o=>have:=of_hideAll _ q;rw [hm.new] at this;cases this
 ·have:∀fs:List Env,(∀e∈fs,e∈A.frames.getD [])→h'.FunFrames (hideAll s.heap (lX A)) fs:=fun fs=>by
   induction fs with
   | nil=>intro _;trivial
   | cons f r ih =>
    intro hmem
    obtain ⟨n1,L',o',n2,n3,⟨es,n,n4⟩,_⟩:=R.fs f (hmem f (.head _))
    exact ⟨n1,⟨L',o',n2,hideAll_none _ (fsn f (hmem f (.head _)) L' n2),hm.keeps _ _ n3,fun vs q=>by rw [n4] at q;cases q⟩,ih fun e he=>hmem e (.tail _ he)⟩
  exact this _ fun e he=>he
 ·refine ⟨R.fr.kind,R.fr.glob,R.fr.blt,?_,?_,?_,R.fr.ndup,R.fr.dis,R.fr.fresh⟩
  ·obtain ⟨m,hn,hmm⟩:=R.fr.loc
   exact ⟨m,hn.keeps hm.keeps,fun y v e e2=>let ⟨cv,a,b⟩:=hmm y v e e2;⟨cv,a,b.mono (List.prefix_refl _) im⟩⟩
  ·intro y v e e2
   obtain ⟨c,o,cv,h1,h2,h3,h4⟩:=R.fr.cel y v e e2
   exact ⟨c,o,cv,h1,cellEx c o _ h2 h3,h3,h4.mono (List.prefix_refl _) im⟩
  ·intro p hp
   obtain ⟨o,ov,h1,h2⟩:=R.fr.cells p hp
   exact ⟨o,ov,cellEx p.2 o _ h1 h2,h2⟩
noncomputable def gE {α:Type} (c:String):Cm α:=fun q=> .exc c q
theorem fo (C:bA G) (hh:hq=true) {x:String} {a:Addr} {es:List Expr} {np cpos pos:Pos} {m:Cm (List V)} (hx:env.kindOf (Str.ofString x)=some .globalImplicit)
  (hv:nsIn G.K mainGlobals (Str.ofString x)=some (some (.ref a))) (hc:G.xcl x=some a) (ho:pq G.K a=true) (hd:(Str.ofString x==("__debug__" : Str))=false) (h1:Bx hq k env es m) (hl:es.length≤5)
  (hp:(backTo cpos (starEach es env)).any (·.1)=false) (hlen:∀q vs q',m q= .ok vs q'→vs.length≤1000) :
  Ex hq k env (.Raise (some (.Call (.Name (Str.ofString x) np) es [] cpos)) none pos) (m.b fun _=>gE x):=by
 intro A ι q s ha R
 refine aQ.of fun Q E hQ=> ?_
 obtain ⟨nm,qn,N,bs,bm,hdct,sx,sub,ab,col,dd,k0,k1,k2,k3,k5,mN,hC,_,hN,hni,T⟩:=Gb C.X ho
 refine wpAny_Raise_call_subT (C:=a) (nm:=nm) (q:=qn) (N:=N) (bs:=bs) (bm:=bm) (hdct:=hdct) (sn:=sx) (sub:=sub) (ab:=ab) (col:=col) (dd:=dd) (k0:=k0) (k1:=k1) (k2:=k2) (k3:=k3) (k5:=k5) (mN:=mN)
  F.excBase_ValueError (T.hasType ∅) (ha.hd hh) hp hni (kJ C R hx hv hd ⟨rfl,cE hp ?_⟩)
 have h1':=h1 cpos A ι q s ha R
 cases hm:m q with
 | stuck=>rw [bk hm] at hQ;exact hQ.elim
 | exc c q1=>rw [fu hm] at hQ;rw [hm] at h1';exact h1' _ _ hQ
 | ok vs q1 =>
  rw [dP hm] at hQ
  rw [hm] at h1'
  refine h1' _ _ fun ι1 cvs s1 P1 hv1=>⟨rfl,by have:=hlen q vs q1 hm;rw [hv1.length,sizeLine_eq];exact bz 0xb000003e8a0011 this,P1.rel.st.keep _ _ hC,hN.keeps P1.rel.st.keep,T.keeps P1.rel.st.keep,fun h' e hme=> ?_⟩
  exact hQ ι1 (.ref e) _ (P1.transX (dE.made (tk:=s1.toks) ha P1.rel hc hme))
end
section
variable {hq:Bool} {k:Nat} {env:Env} {A:Around} {ι ι':List Addr} {q q':S} {s s':Shared} {H H':Hp} {h:Heap}
theorem cC.mark {e:Option Value} (R:cC A env ι q s):cC (A.mark e) env ι q s:=⟨R.st,R.fr,R.fs,R.gens,R.os⟩
theorem cC.unmark {e:Option Value} (R:cC (A.mark e) env ι q s):cC A env ι q s:=⟨R.st,R.fr,R.fs,R.gens,R.os⟩
theorem aU.unmark {e:Option Value} (P:aU (A.mark e) env ι s ι' q' s'):aU A env ι s ι' q' s':=⟨P.pre,P.rel.unmark,P.kp,P.new⟩
def xo (e C:Addr) (h:Heap):Prop:= ∃oe vs T oT ts,h.get? e=some oe∧oe.cls= .ref C∧oe.data= .fields vs∧vs[1]? = some (.ref T)∧h.get? T=some oT∧oT.data= .fields ts∧ts[3]? = some .none
theorem dE.caught {c:String} {ev:Value} {Q:Unit→Shared→Prop} {E:Value→Shared→Prop} (ha:jD hq k A env) (x:dE A env ι s c ι' q' s' ev)
  (hQ:∀e C s₃,ev= .ref e→G.xcl c=some C→xo e C s₃.heap→aU A env ι s ι' q' s₃→Q () s₃) :
  wpAny G.M A (noteFrame ev env) (fun _ s₂=>wpAny G.M A (setFlight ev none) Q E s₂) E s':=by
 refine x.noted ha fun e s₂ he hh y=> ?_
 subst he
 obtain ⟨e1,C,B,L,g1,g2,g3,fl,g5,g6,g7,g8⟩:=y.ex
 cases g1
 obtain ⟨b1,b2,b3,oe,vs,a0,c1,c2,c3,c4,c5⟩:=id fl
 obtain ⟨L',oe',vs',T',oT',ts',h0,h1,h2,h3,h4,h5,h6⟩:=hh
 rw [c1] at h1;cases h1
 rw [c3] at h2;cases h2
 rw [g3] at h0;cases h0
 rcases c5 with c5 | ⟨T,oT,ts,fl',d1,d2,d3,d4,d5,d6,d7⟩
 ·rw [c5] at h3;cases h3
 ·rw [d1] at h3;cases h3
  rw [d4] at h4;cases h4
  rw [d5] at h5;cases h5
  rw [d6] at h6;cases h6
  have held:Heap.HeldW B (A.frames.getD []) e (.ref C) a0 L s₂.heap:=⟨b1,b2,b3,_,_,_,_,_,c1,⟨c2,c4⟩,c3,d1,d2,d3,d4,d5,d6⟩
  refine wpAny_landsW held fun h₃ hf up=> ?_
  obtain ⟨k1,k2,k3,oe3,vs3,T3,oT3,ts3,e1,⟨e2,e2'⟩,e3,e4,e5,e6,e7,e8,e9⟩:=hf
  have z:=y.at rfl g2 g3 ⟨k1,k2,k3,oe3,vs3,a0,e1,e2,e3,e2',.inr ⟨T3,oT3,ts3,.none,e4,e5,e6,e7,e8,e9,.inl rfl⟩⟩ g5 g6 g7 g8 up
  refine hQ e C _ rfl g2 ⟨oe3,vs3,T3,oT3,ts3,e1,e2,e3,e4,e7,e8,e9⟩ ⟨z.pre,⟨g5.stays k1,(g6.slots up).stays k1 fun _ _ e=>e,g7.slots up,z.gens,z.os⟩,⟨z.size,z.up,fun a o e hW hf=>k1 _ _ (g8 a o e hW hf)⟩,z.new⟩
theorem xF {e C:Addr} {Q:Unit→Shared→Prop} {E:Value→Shared→Prop} (hl:xo e C s.heap) (hQ:Q () s):wpAny G.M A (setFlight (.ref e) none) Q E s:=by
 obtain ⟨oe,vs,T,oT,ts,h1,h2,h3,h4,h5,h6,h7⟩:=hl
 unfold setFlight
 refine wpAny_bind (wpAny_field h1 h3 h4 ?_)
 rw [if_pos (show (Value.ref T != Value.none)=true from by simp)]
 refine wpAny_setField h5 h6 (Array.getElem?_eq_some_iff.mp h7).1 ?_
 show Q () { s with heap:=s.heap.update T (Obj.mapFields (·.setIfInBounds 3 .none)) }
 rw [Heap.update_setField_same s.heap T oT ts 3 .none h5 h6 h7]
 exact hQ
def yt (k:Nat) (env:Env) (hs:List ExceptHandler) (c:String) (m:Cm Fl):Prop :=
 ∀A ι q s e C,jD false k A env→cC A env ι q s→G.xcl c=some C→xo e C s.heap →
  match m q with
  | .ok f q'=> ∀Q E,(∀ι' b s',aU A env ι s ι' q' s'→ud ι' s'.heap f b→Q b s')→wpAny G.M A (handleBy (.ref e) env hs) Q E s
  | _=>True
theorem C5 {hs:List ExceptHandler} {c:String}:yt k env hs c .stk:=fun A ι q s e C _ _ _ _=>trivial
noncomputable def AF (m:Cm Fl) (sel:String→Cm Fl):Cm Fl:=fun q=>match m q with
 | .ok f q'=> .ok f q'
 | .exc c q'=>(match sel c q' with | .ok f q''=> .ok f q'' | _=> .stuck)
 | .stuck=> .stuck
theorem jD.any (ha:jD hq k A env):jD false k A env:=⟨⟨(fun h=>by cases h),ha.depth,ha.units⟩,ha.fr⟩
theorem EN {body:List Stmt} {h0:ExceptHandler} {hs:List ExceptHandler} {pos:Pos} {m:Cm Fl} {sel:String→Cm Fl} (h1:Cr hq k env body m) (h2:∀c,yt k env (h0::hs) c (sel c)) :
  Ex hq k env (.Try body (h0::hs) [] [] pos) (AF m sel):=by
 intro A ι q s ha R
 refine aQ.of fun Q E hQ=>wpAny_Try_except ?_
 have h1':=h1 A ι q s ha R
 unfold AF at hQ
 cases hm:m q with
 | stuck=>rw [hm] at hQ;exact hQ.elim
 | ok f q1 =>
  rw [hm] at hQ h1'
  refine h1' _ _ fun ι1 cf s1 P1 hf=> ?_
  have:=hQ ι1 cf s1 P1 hf
  cases f with
  | next=>rw [show cf= .next from hf] at this ⊢;exact wpAny_execs_nil this
  | ret v=>obtain ⟨cv,rfl,_⟩:=hf;exact this
 | exc c q1 =>
  rw [hm] at hQ h1'
  dsimp only at hQ
  refine h1' _ _ fun ι1 ev s1 x=> ?_
  refine x.caught ha fun e C s3 he hc hl P=> ?_
  subst he
  have h2':=h2 c A ι1 q1 s3 e C ha.any P.rel hc hl
  cases hs:sel c q1 with
  | stuck=>rw [hs] at hQ;exact hQ.elim
  | exc c q2=>rw [hs] at hQ;exact hQ.elim
  | ok f q2 =>
   rw [hs] at hQ h2'
   exact h2' Q E fun ι2 b s4 P4 hf=>hQ ι2 b s4 (P.trans P4) hf
theorem Di {e:Value} (ha:jD false k A env):jD false k (A.mark (some e)) env:=⟨⟨(fun h=>by cases h),ha.depth,ha.units⟩,ha.fr⟩
theorem qy (C:bA G) {e a b:Addr} {r:Bool} (R:cC A env ι q s) (hl:xo e a s.heap) (hx:exmOne G.K (.ref a) (.ref b)=some r) {Q:Bool→Shared→Prop} {E:Value→Shared→Prop} (hQ:Q r s) :
  wpAny G.M A (excMatches (.ref e) (.ref b)) Q E s:=by
 obtain ⟨oe,vs,T,oT,ts,h1,h2,_⟩:=hl
 have X:=C.X.keeps R.st.keep
 refine exm_one (M:=G.M) (h:=s.heap) X ?_ hx A Q E s (fun _ _ e=>e) hQ
 rw [← h2]
 exact (Looks.ld h1).andThen .now
theorem Fg (C:bA G) {x c:String} {np pos:Pos} {a b:Addr} {name:Option Str} {b₀:Stmt} {suite:List Stmt} {rest:List ExceptHandler} {m:Cm Fl} (hx:env.kindOf (Str.ofString x)=some .globalImplicit)
  (hv:nsIn G.K mainGlobals (Str.ofString x)=some (some (.ref b))) (hd:(Str.ofString x==("__debug__" : Str))=false) (hc:G.xcl c=some a) (hm:exmOne G.K (.ref a) (.ref b)=some false) (h1:yt k env rest c m) :
  yt k env (.ExceptHandler (some (.Name (Str.ofString x) np)) name (b₀::suite) pos::rest) c m:=by
 intro A ι q s e a' ha R hc' hl
 obtain rfl:a=a':=Option.some.inj (hc.symm.trans hc')
 have h1':=h1 A ι q s e a ha R hc' hl
 cases hmq:m q with
 | stuck=>trivial
 | exc c q1=>trivial
 | ok f q1 =>
  rw [hmq] at h1'
  intro Q E hQ
  have R':cC (A.mark (some (.ref e))) env ι q s:=R.mark
  refine wpAny_handleBy_cons (codeAny_handlers_test (kJ C R' hx hv hd (qy C R' hl hm ?_))) (by intro q;cases q)
  exact h1' Q E hQ
theorem Cu (C:bA G) {x c:String} {np pos:Pos} {a b:Addr} {b₀:Stmt} {suite:List Stmt} {rest:List ExceptHandler} {m:Cm Fl} (hx:env.kindOf (Str.ofString x)=some .globalImplicit)
  (hv:nsIn G.K mainGlobals (Str.ofString x)=some (some (.ref b))) (hd:(Str.ofString x==("__debug__" : Str))=false) (hc:G.xcl c=some a) (hm:exmOne G.K (.ref a) (.ref b)=some true) (h1:Cr false k env (b₀::suite) m) :
  yt k env (.ExceptHandler (some (.Name (Str.ofString x) np)) none (b₀::suite) pos::rest) c m:=by
 intro A ι q s e a' ha R hc' hl
 obtain rfl:a=a':=Option.some.inj (hc.symm.trans hc')
 have R':cC (A.mark (some (.ref e))) env ι q s:=R.mark
 have h1':=h1 (A.mark (some (.ref e))) ι q s (Di ha) R'
 cases hmq:m q with
 | stuck=>trivial
 | exc c q1=>trivial
 | ok f q1 =>
  rw [hmq] at h1'
  intro Q E hQ
  refine wpAny_handleBy_cons (codeAny_handlers_test (kJ C R' hx hv hd (qy C R' hl hm ?_))) (by intro q;cases q)
  refine codeAny_handlers_suite (xF hl ?_)
  exact h1' _ _ fun ι' b s' P hf=>hQ ι' b s' P.unmark hf
end
noncomputable def aT:List String→List V→aY
 | p::ps,v::vs=>upd (aT ps vs) p v
 | _,_=>fun _=>none
noncomputable def gS (ps:List String) (m:Cm Fl):Fc:=fun vs H=>if vs.length=ps.length then (match m ⟨aT ps vs,H⟩ with
 | .ok (.ret v) q=> .ok v q.H
 | .ok .next q=> .ok .none q.H
 | .exc c q=> .exc c q.H
 | .stuck=> .stuck) else .stuck
section
variable {hq:Bool} {k:Nat} {env:Env} {A:Around} {ι ι':List Addr} {q q':S} {s s':Shared} {H H':Hp} {h:Heap}
noncomputable def tc (ps:List String) (vs:List Value):List (Str×Value):=(ps.map Str.ofString).zip vs
theorem pC {kindOf:Str→Option NameKind}:∀(ps:List String) (vs:List V) (cvs:List Value) (m:Str→Option Value),ps.Nodup→aN ι h vs cvs→vs.length=ps.length →
  (∀x v,aT ps vs x=some v→kindOf (Str.ofString x)=some .local→ ∃cv,bindL kindOf (tc ps cvs) m (Str.ofString x)=some cv∧aK ι h v cv) ∧
  (∀x v,aT ps vs x=some v→kindOf (Str.ofString x)≠some .local→ ∃cv,bindC kindOf (tc ps cvs) m (Str.ofString x)=some cv∧aK ι h v cv) ∧
  (∀x,x∉ps.map Str.ofString→bindL kindOf (tc ps cvs) m x=m x∧bindC kindOf (tc ps cvs) m x=m x)∧ ∀x v,aT ps vs x=some v→x∈ps
 | [],vs,cvs,m,_,hv,hl=>by
  have:vs=[]:=List.length_eq_zero_iff.mp hl
  subst this
  exact ⟨fun x v e=>by simp [aT] at e,fun x v e=>by simp [aT] at e,fun x _=>⟨rfl,rfl⟩,fun x v e=>by simp [aT] at e⟩
 | p::ps,[],cvs,m,_,hv,hl=>by simp at hl
 | p::ps,v::vs,cvs,m,hn,z5,hl=>by
  obtain ⟨cv,cvs',e,r1,r2⟩:=z5
  subst e
  rw [List.nodup_cons] at hn
  have hl':vs.length=ps.length:=by simpa using hl
  have hp:Str.ofString p∉ps.map Str.ofString:=fun hm=>by
   obtain ⟨y,hy,e⟩:=List.mem_map.mp hm
   exact hn.1 (eQ e▸hy)
  have step:tc (p::ps) (cv::cvs')=(Str.ofString p,cv)::tc ps cvs':=rfl
  have hin:∀x v',aT (p::ps) (v::vs) x=some v'→(x=p∧v'=v)∨(x≠p∧aT ps vs x=some v'):=fun x v' e=>gq e
  have B:=fun m'=>pC (kindOf:=kindOf) ps vs cvs' m' hn.2 r2 hl'
  refine ⟨fun x v' e1 e2=> ?_,fun x v' e1 e2=> ?_,fun x hx=> ?_,fun x v' e1=> ?_⟩
  ·rcases hin x v' e1 with ⟨rfl,rfl⟩ | ⟨hne,e⟩
   ·rw [step];unfold bindL;rw [if_pos e2,((B _).2.2.1 _ hp).1];exact ⟨cv,if_pos rfl,r1⟩
   ·rw [step];unfold bindL;exact (B _).1 x v' e e2
  ·rcases hin x v' e1 with ⟨rfl,rfl⟩ | ⟨hne,e⟩
   ·rw [step];unfold bindC;rw [if_neg e2,((B _).2.2.1 _ hp).2];exact ⟨cv,if_pos rfl,r1⟩
   ·rw [step];unfold bindC;exact (B _).2.1 x v' e e2
  ·rw [List.map_cons,List.mem_cons,not_or] at hx
   rw [step]
   unfold bindL bindC
   refine ⟨((B _).2.2.1 x hx.2).1.trans ?_,((B _).2.2.1 x hx.2).2.trans ?_⟩
   ·split<;>first | exact if_neg hx.1 | rfl
   ·split<;>first | exact if_neg hx.1 | rfl
  ·rcases hin x v' e1 with ⟨rfl,rfl⟩ | ⟨hne,e⟩
   ·exact .head _
   ·exact .tail _ ((B (fun _=>none)).2.2.2 x v' e)
theorem dE.leave {c:String} {ev:Value} {outer:List Env} {R:Result→Shared→Prop} {E:Value→Shared→Prop} {s₁:Shared} {fA:Around} (hf:fA.frames=some (env::outer)) (hA:A.frames=some outer) (x:dE fA env ι s₁ c ι' q' s' ev)
  (st:s.heap.StaysIn s₁.heap) (own0:∀a∈own env,s.heap.get? a=none) (frm:env.frame=some env.locals)
  (hR:∀s'',pv A ι s c ι' q'.H s'' ev→R (.error ev) s''):wpAny G.M fA (leaving env ev) (fun _ s''=>R (.error ev) s'') E s':=by
 obtain ⟨e,C,B,L,rfl,h2,h3,fl,h5,h6,h7,h8⟩:=x.ex
 have hfs:fA.frames.getD []=env::outer:=by rw [hf];rfl
 have hAs:A.frames.getD []=outer:=by rw [hA];rfl
 have hL:L=env.locals:=Option.some.inj (h3.symm.trans frm)
 have hfr:lX fA=env.locals::lX A:=by
  show (fA.frames.getD []).filterMap (·.frame)=_
  rw [hfs,List.filterMap_cons,frm]
  show _=env.locals::(A.frames.getD []).filterMap (·.frame)
  rw [hAs]
 rw [hfs] at fl h7
 obtain ⟨b1,b2,b3,oe,vs,a0,c1,c2,c3,c4,c5⟩:=id fl
 have nf:∀a o,s.heap.get? a=some o→a∉ι→a∉lX A→a∉own env++ι∧a∉lX fA:=fun a o e hi hfa=>by
  have ho:a∉own env:=fun ho=>by rw [own0 a ho] at e;cases e
  exact ⟨fun hm=>(List.mem_append.mp hm).elim ho hi,fun hm=>by
   rw [hfr] at hm
   rcases List.mem_cons.mp hm with rfl | hm
   ·exact ho (.head _)
   ·exact hfa hm⟩
 have exB:∀a o,s.heap.get? a=some o→a∉ι→a∉lX A→B.get? a=some o:=fun a o e hi hfa=>h8 a o (st a o e) (nf a o e hi hfa).1 (nf a o e hi hfa).2
 have td:∀h'',Heap.FlyingW B outer e (.ref C) a0 h''→s'.heap.UpToSlots h''→R (.error (.ref e)) { s' with heap:=h'' }:=fun h'' fw up=>by
  have fs'':pz outer ι' h'':=fun env' he=>(h7.slots up) env' (.tail _ he)
  refine hR _ ⟨x.pre,⟨e,C,B,a0,rfl,h2,by rw [hAs];exact fw,h5,by rw [hAs];exact fs'',exB⟩,fun a o ea=> ?_,fun a o ea hi=> ?_,fun a ha=> ?_,x.gens,x.os⟩
  ·by_cases h2:a∈ι
   ·obtain ⟨i,hi⟩:=List.mem_iff_getElem?.mp h2
    have hi':=getElem?_prefix x.pre hi
    obtain ⟨oa,hoa⟩:∃oa,q'.H[i]? = some oa:=⟨_,List.getElem?_eq_getElem (h5.len▸(List.getElem?_eq_some_iff.mp hi').1)⟩
    obtain ⟨o',e'⟩:=(h5.obj i a oa hi' hoa).there
    exact ⟨o',fw.1 _ _ e'⟩
   ·by_cases h3:a∈lX A
    ·obtain ⟨o',e',_⟩:=ec (A:=A) (by rw [hAs];exact fs'') h3;exact ⟨o',e'⟩
    ·exact ⟨o,fw.1 _ _ (exB a o ea h2 h3)⟩
  ·by_cases h3:a∈lX A
   ·have ho:a∉own env:=fun ho=>by rw [own0 a ho] at ea;cases ea
    obtain ⟨sl,e1⟩:=x.up a o (st a o ea) fun hm=>(List.mem_append.mp hm).elim ho hi
    obtain ⟨o',e',es,n,d⟩:=ec (A:=A) (ι:=ι') (h:=s'.heap) (fun env' he=>h7 env' (by rw [hAs] at he;exact .tail _ he)) h3
    rw [e1] at e';cases e'
    obtain ⟨sl2,e2⟩:=up a _ e1 fun vs q=>by rw [d] at q;cases q
    exact ⟨sl2,e2⟩
   ·exact ⟨o.slots,fw.1 _ _ (exB a o ea hi h3)⟩
  ·rcases x.new a ha with h1 | h1
   ·exact .inl h1
   ·refine .inr ?_
    cases e:s.heap.get? a with
    | none=>rfl
    | some o=>rw [st a o e] at h1;cases h1
 rcases c5 with c5 | ⟨T,oT,ts,fl',d1,d2,d3,d4,d5,d6,d7⟩
 ·refine wpAny_leaving_firstW hf b3 h3 c1 b1 b2 c3 c5 c4 fun h'' hl=> ?_
  obtain ⟨k1,⟨_,_,k2⟩,k3,k4⟩:=hl
  exact td h'' ⟨k1,b2,k2,by rw [← c2];exact k3⟩ k4
 ·rcases d7 with rfl | rfl
  ·refine wpAny_leaving_nextW (cls:= .ref C) (a0:=a0) hf b3 h3 ⟨oe,vs,T,oT,ts,c1,⟨c2,c4⟩,c3,d1,d2,d3,d4,d5,d6⟩ b1 b2 fun h'' hl=> ?_
   obtain ⟨k1,⟨_,_,k2⟩,k3,k4⟩:=hl
   exact td h'' ⟨k1,b2,k2,k3⟩ k4
  ·unfold leaving
   refine wpAny_bind (wpAny_noteFrame_againW h3 ⟨oe,vs,T,oT,ts,c1,⟨c2,c4⟩,c3,d1,d2,d3,d4,d5,d6⟩ ?_)
   refine wpAny_landsW (base:=B) (l:=env::outer) (cls:= .ref C) (a0:=a0) (L:=L) ⟨b1,b2,b3,oe,vs,T,oT,ts,c1,⟨c2,c4⟩,c3,d1,d2,d3,d4,d5,d6⟩ fun h'' hl up=> ?_
   obtain ⟨k1,k2,⟨_,_,k3⟩,k4⟩:=hl
   exact td h'' ⟨k1,k2,k3,k4⟩ up
structure AL (K:Frag) (f:Addr) (fd:FuncData) (ps:List String) (body:List Stmt):Prop where
 at':∃oc od sl,K.lookup f=some ⟨oc,od,.func fd,sl⟩
 code:codeIn K fd.code fd.qualname=true
 body:fd.body= .stmts body
 clo:fd.closure=[]
 glob:fd.globals=mainGlobals
 blt:fd.builtins=builtinsNs
 bind:∀vals,vals.length=ps.length→bindArgs fd ⟨vals,[]⟩=pure (tc ps vals)
 kinds:∀x∈ps,fd.scope.names.lookup (Str.ofString x)=some .local∨fd.scope.names.lookup (Str.ofString x)=some .cell
 nd:ps.Nodup
 ndc:((cellsFrom 0 fd.scope.names []).map (·.1)).Nodup
 co:fd.scope.isCoroutine=false
 gen:fd.scope.isGenerator=false
 kd:fd.scope.kind= .function
theorem bQ.of (C:bA G) {f:Addr} {fd:FuncData} {ps:List String} {body:List Stmt} {m:Cm Fl} (Z:AL G.K f fd ps body) (hm:∀L,Cr hq k (callEnvC fd L f) body m):bQ hq (k+1) f (gS ps m):=by
 intro A ι H s vs cvs ha ⟨fs,hfs⟩ S0 F0 hgens hos hv
 have hfs':A.frames.getD []=fs:=by rw [hfs];rfl
 unfold gS
 by_cases hlen:vs.length=ps.length
 ·rw [if_pos hlen]
  have hlc:cvs.length=ps.length:=hv.length.trans hlen
  obtain ⟨oc,od,sl,hK⟩:=Z.at'
  have X:=C.X.keeps S0.keep
  have key:∀R:Result→Shared→Prop,(∀s₁,InCallC s (callEnvC fd s.heap.objs.size f).locals (bindL (callEnvC fd s.heap.objs.size f).kindOf (tc ps cvs) fun _=>none) (callEnvC fd s.heap.objs.size f).cells
    (bindC (callEnvC fd s.heap.objs.size f).kindOf (tc ps cvs) fun _=>none) s₁ →
   wpAny (model G.prog G.w) (A.deeper (callEnvC fd s.heap.objs.size f)) (execs body (callEnvC fd s.heap.objs.size f)) (fun f s'=>R (.ok (.ret (match f with | .ret v=>v | _=> .none))) s')
    (fun e s'=>wpAny (model G.prog G.w) (A.deeper (callEnvC fd s.heap.objs.size f)) (leaving (callEnvC fd s.heap.objs.size f) e) (fun _ s''=>R (.error e) s'') (fun e' s''=>R (.error e') s'') s') s₁) →
    codeAny G.M A (.call (.ref f) ⟨cvs,[]⟩) R s:=fun R hh=>by
   refine codeAny_call_cells (fd:=fd) (body:=body) (by have:=ha.depth;show A.depth<1000;exact b0 0x3e8a01000320a191c03d0c011 this) (X _ _ hK) rfl (C.lim.keeps S0.keep) (codeRec_of X Z.code) Z.body (Z.bind cvs hlc) Z.clo (fun x hx=> ?_) hh Z.co Z.gen Z.kd
   have:x.1∈ps.map Str.ofString:=(List.of_mem_zip hx).1
   obtain ⟨y,hy,e⟩:=List.mem_map.mp this
   rw [← e]
   rcases Z.kinds y hy with h1 | h1
   ·exact .inl h1
   ·exact .inr ⟨h1,cellsFrom_some _ _ _ (.inl h1)⟩
  have start:∀s₁,InCallC s (callEnvC fd s.heap.objs.size f).locals (bindL (callEnvC fd s.heap.objs.size f).kindOf (tc ps cvs) fun _=>none) (callEnvC fd s.heap.objs.size f).cells
    (bindC (callEnvC fd s.heap.objs.size f).kindOf (tc ps cvs) fun _=>none) s₁ →
    jD hq k (A.deeper (callEnvC fd s.heap.objs.size f)) (callEnvC fd s.heap.objs.size f)∧cC (A.deeper (callEnvC fd s.heap.objs.size f)) (callEnvC fd s.heap.objs.size f) ι ⟨aT ps vs,H⟩ s₁∧s.heap.StaysIn s₁.heap ∧
     ∀a∈own (callEnvC fd s.heap.objs.size f),s.heap.get? a=none:=fun s₁ I=>by
   have st:s.heap.StaysIn s₁.heap:=I.toInCall.keep
   have ab:∀a∈own (callEnvC fd s.heap.objs.size f),s.heap.get? a=none:=fun a ha=>by
    refine Heap.get?_none_of_le ?_
    rcases List.mem_cons.mp ha with rfl | ha
    ·exact Nat.le_refl _
    ·obtain ⟨p,hp,rfl⟩:=List.mem_map.mp ha
     exact Nat.le_of_lt (I.above p.1 p.2 hp)
   have dis:∀a∈own (callEnvC fd s.heap.objs.size f),a∉ι∧G.hB.get? a=none:=fun a ha=>by
    have n:=ab a ha
    refine ⟨fun hi=> ?_,?_⟩
    ·obtain ⟨o,e,_⟩:=eY.mut (q:=⟨fun _=>none,H⟩) S0 hi;rw [n] at e;cases e
    ·cases e:G.hB.get? a with
     | none=>rfl
     | some o=>rw [S0.keep a o e] at n;cases n
   obtain ⟨hh,tk,es⟩:=I.toInCall.same
   have hv1:=hv.mono (List.prefix_refl ι) (oG.of_stays st)
   obtain ⟨bl,_,_,mem⟩:=pC (kindOf:=(callEnvC fd s.heap.objs.size f).kindOf) ps vs cvs (fun _=>none) Z.nd hv1 hlen
   obtain ⟨_,bc,_,_⟩:=pC (kindOf:=(callEnvC fd s.heap.objs.size f).kindOf) ps vs cvs (fun _=>none) Z.nd hv1 hlen
   have cellAt:∀p∈(callEnvC fd s.heap.objs.size f).cells,(callEnvC fd s.heap.objs.size f).cells.lookup p.1=some p.2:=fun p hp=>by
    refine lookup_of_mem_nodup ?_ hp
    show ((cellsFrom (s.heap.objs.size+1) fd.scope.names []).map (·.1)).Nodup
    rw [cellsFrom_names fd.scope.names (s.heap.objs.size+1) 0 [] [] rfl]
    exact Z.ndc
   refine ⟨⟨⟨ha.hd,by have:=ha.depth;show A.depth+1+3*k≤800;exact b0 0x320a103d190cc0000320a191c03d0c011 this,by have:=ha.units;show A.units+3+50*k≤9000;exact b0 0x2328a132d390cc0002328a191c32d0c011 this⟩,?_⟩,⟨S0.stays st,?_,?_,?_,?_⟩,st,ab⟩
   ·exact ⟨callEnvC fd s.heap.objs.size f,fs,Around.frames_deeper hfs,rfl,Z.gen,Z.co,Z.blt,Z.glob⟩
   ·refine ⟨Z.kd,Z.glob,Z.blt,⟨_,I.toInCall.ns,bl⟩,fun x v e1 e2=> ?_,fun p hp=> ?_,?_,fun a ha=>(dis a ha).1,fun a ha=>(dis a ha).2⟩
    ·obtain ⟨cv,c1,c2⟩:=bc x v e1 (by rcases e2 with e2 | e2<;>rw [e2]<;>decide)
     have hk:fd.scope.names.lookup (Str.ofString x)=some .cell:=by
      rcases Z.kinds x (mem x v e1) with h1 | h1
      ·have e3:(callEnvC fd s.heap.objs.size f).kindOf (Str.ofString x)=some .local:=h1
       rw [e3] at e2;rcases e2 with e2 | e2<;>cases e2
      ·exact h1
     obtain ⟨c,hc⟩:=Option.isSome_iff_exists.mp (cellsFrom_some fd.scope.names (s.heap.objs.size+1) [] (.inl hk))
     obtain ⟨o,ho,hd⟩:=I.cell _ _ hc
     rw [c1] at hd
     exact ⟨c,o,cv,hc,ho,hd,c2⟩
    ·obtain ⟨o,ho,hd⟩:=I.cell _ _ (cellAt p hp)
     exact ⟨o,_,ho,hd⟩
    ·exact List.pairwise_map.mpr I.apart
   ·show pz ((A.deeper (callEnvC fd s.heap.objs.size f)).frames.getD []) ι s₁.heap
    rw [Around.frames_deeper hfs]
    intro env' he
    rcases List.mem_cons.mp he with rfl | he
    ·obtain ⟨o,es',ep,ho,hd,_⟩:=I.toInCall.ns
     exact ⟨by rw [show (callEnvC fd s.heap.objs.size f).scope.kind= .function from Z.kd];decide,_,o,rfl,ho,⟨es',ep,hd⟩,(dis _ (.head _)).1,(dis _ (.head _)).2⟩
    ·rw [hfs'] at F0;exact F0.stays st env' he
   ·rw [es];exact hgens
   ·rw [es];exact hos
  have back:∀ {s₁ ι' q' s'},aU (A.deeper (callEnvC fd s.heap.objs.size f)) (callEnvC fd s.heap.objs.size f) ι s₁ ι' q' s'→s.heap.StaysIn s₁.heap→(∀a∈own (callEnvC fd s.heap.objs.size f),s.heap.get? a=none) →
    uc A ι s ι' q'.H s':=fun {s₁ ι' q' s'} P st ab=>by
   have nf:∀a o,s.heap.get? a=some o→a∉ι→a∉own (callEnvC fd s.heap.objs.size f)++ι:=fun a o e hi hm=>(List.mem_append.mp hm).elim (fun ho=>by rw [ab a ho] at e;cases e) hi
   refine ⟨P.pre,P.rel.st,fun env' he=> ?_,⟨fun a o e=>P.kp.size a o (st a o e),fun a o e hi=>P.kp.up a o (st a o e) (nf a o e hi),fun a o e hi hf=>P.kp.ex a o (st a o e) (nf a o e hi) fun hm=> ?_⟩,fun a ha=> ?_,P.rel.gens,P.rel.os⟩
   ·have:=P.rel.fs
    rw [Around.frames_deeper hfs] at this
    rw [hfs'] at he
    exact this env' (.tail _ he)
   ·unfold lX at hm hf
    rw [Around.frames_deeper hfs] at hm
    rw [hfs'] at hf
    rcases List.mem_cons.mp hm with rfl | hm
    ·have:s.heap.get? s.heap.objs.size=some o:=e
     rw [Heap.get?_none_of_le (Nat.le_refl _)] at this;cases this
    ·exact hf hm
   ·rcases P.new a ha with h1 | h1
    ·exact .inl h1
    ·refine .inr ?_
     cases e:s.heap.get? a with
     | none=>rfl
     | some o=>rw [st a o e] at h1;cases h1
  cases hmm:m ⟨aT ps vs,H⟩ with
  | stuck=>trivial
  | ok fl q1 =>
   cases fl with
   | next =>
    intro R hR
    refine key R fun s₁ I=> ?_
    obtain ⟨ha',R',st,ab⟩:=start s₁ I
    have h1:=hm s.heap.objs.size _ _ _ _ ha' R'
    rw [hmm] at h1
    refine h1 _ _ fun ι' cf s' P hf=> ?_
    rw [show cf= .next from hf]
    exact hR ι' .none s' (back P st ab) rfl
   | ret v =>
    intro R hR
    refine key R fun s₁ I=> ?_
    obtain ⟨ha',R',st,ab⟩:=start s₁ I
    have h1:=hm s.heap.objs.size _ _ _ _ ha' R'
    rw [hmm] at h1
    refine h1 _ _ fun ι' cf s' P hf=> ?_
    obtain ⟨cv,rfl,hv⟩:=hf
    exact hR ι' cv s' (back P st ab) hv
  | exc c q1 =>
   intro R hR
   refine key R fun s₁ I=> ?_
   obtain ⟨ha',R',st,ab⟩:=start s₁ I
   have h1:=hm s.heap.objs.size _ _ _ _ ha' R'
   rw [hmm] at h1
   refine h1 _ _ fun ι' ev s' x=> ?_
   exact x.leave (A:=A) (Around.frames_deeper hfs) hfs st ab rfl fun s'' y=>hR ι' ev s'' y
 ·rw [if_neg hlen];trivial
end
section
variable {hq:Bool} {k:Nat} {env:Env} {A:Around} {ι ι':List Addr} {q q':S} {s s':Shared} {H H':Hp} {h:Heap}
noncomputable def mV (c:String) (F:Fc) (vs:List V):Cm V:=fun q=>match F (.inst c q.H.length::vs) (q.H++[.flds []]) with
 | .ok .none H'=> .ok (.inst c q.H.length) ⟨q.l,H'⟩
 | .ok _ _=> .stuck
 | .exc c' H'=> .exc c' ⟨q.l,H'⟩
 | .stuck=> .stuck
theorem aK.none_of {cv:Value} (x:aK ι h .none cv):cv= .none:=x
theorem uc.frames {A':Around} (e:A'.frames=A.frames) (x:uc A' ι s ι' H' s'):uc A ι s ι' H' s' :=
 ⟨x.pre,x.st,by rw [← e];exact x.fs,by have:=x.kp;unfold lX at *;rw [← e];exact this,x.new,x.gens,x.os⟩
theorem pv.frames {A':Around} {c:String} {ev:Value} (e:A'.frames=A.frames) (x:pv A' ι s c ι' H' s' ev):pv A ι s c ι' H' s' ev :=
 ⟨x.pre,by have:=x.ex;unfold lX at *;rw [← e];exact this,x.size,x.up,x.new,x.gens,x.os⟩
theorem Fk (C:bA G) {c:String} {a fI:Addr} {F:Fc} {k0:Nat} (hc:G.cls c=some a) (hm:makesIn G.K a=true) (hi:findIn G.K (.ref a) "__init__" = some (some (.ref fI))) (hf:typeIn G.K (.ref fI)=some (.type "function"))
  (hF:bQ hq k0 fI F) (hk:k0<k) (ha:jD hq k A env) (R:cC A env ι q s) {vs:List V} {cvs:List Value} (hv:aN ι s.heap vs cvs) :
  aQ A env ι s (mV c F vs q) (aK) (fun Q E s=>codeAny G.M A (.call (.ref a) ⟨cvs,[]⟩) (zL Q E) s):=by
 have X:=C.X.keeps R.st.keep
 have st:s.heap.StaysIn ((s.heap.push emptyDict).push (instObj a s.heap.objs.size)):=fun b o e=>Heap.get?_push_of_some _ (Heap.get?_push_of_some _ e)
 have nw:s.heap.get? s.heap.objs.size=none:=Heap.get?_none_of_le (Nat.le_refl _)
 have gd:((s.heap.push emptyDict).push (instObj a s.heap.objs.size)).get? s.heap.objs.size=some emptyDict:=by heap_get
 have gi:((s.heap.push emptyDict).push (instObj a s.heap.objs.size)).get? (s.heap.objs.size+1)=some (instObj a s.heap.objs.size):=by heap_get
 have P1:aU A env ι s (ι++[s.heap.objs.size]) { q with H:=q.H++[.flds []] } { s with heap:=(s.heap.push emptyDict).push (instObj a s.heap.objs.size),toks:=s.toks } :=
  aU.alloc R st nw ⟨[],0,gd,rfl⟩
 have vi:∀ {ι' h'},(ι++[s.heap.objs.size])<+:ι'→oG ((s.heap.push emptyDict).push (instObj a s.heap.objs.size)) h'→aK ι' h' (.inst c q.H.length) (.ref (s.heap.objs.size+1)):=fun {ι' h'} hp him =>
  aK.mono (v:= .inst c q.H.length) hp him ⟨s.heap.objs.size,s.heap.objs.size+1,a,_,by rw [← R.st.len];simp,hc,rfl,gi,rfl,rfl,rfl⟩
 have hu:(A.under (.builtin "type.__call__" ⟨.ref a::cvs,[]⟩)).frames=A.frames:=rfl
 have hr:=hF (A.under (.builtin "type.__call__" ⟨.ref a::cvs,[]⟩)) (ι++[s.heap.objs.size]) (q.H++[.flds []]) { s with heap:=(s.heap.push emptyDict).push (instObj a s.heap.objs.size),toks:=s.toks } (.inst c q.H.length::vs) (.ref (s.heap.objs.size+1)::cvs)
  ⟨ha.hd,by have:=ha.depth;show A.depth+1+3*k0≤800;omega,by have:=ha.units;show A.units+(1+3*0)+50*k0≤9000;omega⟩ (let ⟨fenv,rest,h1,_⟩:=ha.fr;⟨_,h1⟩) P1.rel.st P1.rel.fs P1.rel.gens P1.rel.os
  (nS (vi (List.prefix_refl _) (.refl _)) (hv.mono P1.pre (oG.of_stays st)))
 have core:∀R':Result→Shared→Prop,codeAny G.M (A.under (.builtin "type.__call__" ⟨.ref a::cvs,[]⟩)) (.call (.ref fI) ⟨.ref (s.heap.objs.size+1)::cvs,[]⟩) (InitBack (s.heap.objs.size+1) R') { s with heap:=(s.heap.push emptyDict).push (instObj a s.heap.objs.size),toks:=s.toks } →
   codeAny G.M A (.call (.ref a) ⟨cvs,[]⟩) R' s:=fun R' z=>by
  obtain ⟨hh,g,d,t,os⟩:=s
  exact make_core (makes_of X hm) (looks_findIn X hi) (fun self=>bind_fn X self hf) (.inl rfl) z
 unfold mV
 cases hFv:F (.inst c q.H.length::vs) (q.H++[.flds []]) with
 | stuck=>trivial
 | ok v H' =>
  rw [hFv] at hr
  cases v<;>try trivial
  intro Q E hQ
  refine core _ (hr _ fun ι' cv s' c r=> ?_)
  rw [aK.none_of r]
  have P2:=aU.ofC P1.rel (uc.frames hu c)
  exact ⟨rfl,hQ ι' _ s' (P1.trans P2) (vi P2.pre (P1.rel.imm P2.kp))⟩
 | exc c' H' =>
  rw [hFv] at hr
  intro Q E hQ
  refine core _ (hr _ fun ι' ev s' x=> ?_)
  exact hQ ι' ev s' (P1.transX (dE.ofC (q:={ q with H:=q.H++[.flds []] }) ha P1.rel (pv.frames hu x)))
theorem xk (C:bA G) {x:String} {a fI:Addr} {F:Fc} {k0:Nat} {es:List Expr} {p pos:Pos} {m:Cm (List V)} (hx:env.kindOf (Str.ofString x)=some .globalImplicit)
  (hv:nsIn G.K mainGlobals (Str.ofString x)=some (some (.ref a))) (hkeep:keepIn G.K (.ref a)=true) (hd:(Str.ofString x==("__debug__" : Str))=false) (hc:G.cls x=some a) (hm:makesIn G.K a=true)
  (hi:findIn G.K (.ref a) "__init__" = some (some (.ref fI))) (hf:typeIn G.K (.ref fI)=some (.type "function")) (hF:bQ hq k0 fI F) (hk:k0<k) (h1:Bx hq k env es m)
  (hp:(backTo pos (starEach es env)).any (·.1)=false) :
  Ev hq k env (.Call (.Name (Str.ofString x) p) es [] pos) (m.b fun vs=>mV x F vs):=by
 intro A ι q s ha R
 refine (aQ.b (T':=fun vs Q E s₁=>G.K.In s₁.heap∧codeAny G.M A (.call (.ref a) ⟨vs,[]⟩) (zL Q E) s₁) (h1 pos A ι q s ha R) fun a' q' ι' b s' _ P hv =>
  (Fk C hc hm hi hf hF hk ha P.rel hv).imp fun Q E z=>⟨C.X.keeps P.rel.st.keep,z⟩).imp fun Q E y=> ?_
 show wpAny G.M A (do callWith pos (← eval (.Name (Str.ofString x) p) env) [] (backTo pos (starEach es env)) []) Q E s
 refine wpAny_bind (kJ C R hx hv hd ?_)
 exact callWith_of (P:=G.K.In) (by rw [hp];rfl) (keeps_K hkeep) (cE hp (wpAny_mono y (fun vs s₁ z=>⟨z.1,wpAny_call z.2⟩) fun _ _ z=>z))
end
section
variable {hq:Bool} {k:Nat} {env:Env} {A:Around} {ι ι':List Addr} {q q':S} {s s':Shared} {H H':Hp} {h:Heap}
theorem CZ {hs:List ExceptHandler} {x c:String} {m m':Cm Fl} (h1:yt k env hs x m) (h2:yt k env hs c m'):yt k env hs c (if c=x then m else m'):=by
 by_cases e:c=x
 ·subst e;rw [if_pos rfl];exact h1
 ·rw [if_neg e];exact h2
theorem uF {L:List (String×Addr)} {c:String} {a:Addr} (e:L.lookup c=some a):(c,a)∈L:=bg e
theorem iH {f:String} {L:List (String×Addr)} (hL:∀c,G.cls c=L.lookup c) (h:(L.all fun p=>zS G.K p.2 (Str.ofString f))=true):s8 f:=fun c a e =>
 (List.all_eq_true.mp h) (c,a) (uF ((hL c).symm.trans e))
theorem iI {f:String} {L:List (String×Addr)} (hL:∀c,G.cls c=L.lookup c) (h:(L.all fun p=>DM G.K p.2 (Str.ofString f))=true):s9 f:=fun c a e =>
 (List.all_eq_true.mp h) (c,a) (uF ((hL c).symm.trans e))
end
theorem Gy {α:Type} {l:List α} (h:l.length=1):∃a,l=[a]:=List.length_eq_one_iff.mp h
theorem Ej {α:Type} {n:Nat} {l:List α} (h:l.length=n+1):∃a r,l=a::r∧r.length=n:=by
 cases l with
 | nil=>cases h
 | cons a r=>exact ⟨a,r,rfl,by simpa using h⟩
theorem Gz {α:Type} {l:List α} (h:l.length=2):∃a b,l=[a,b]:=by obtain ⟨a,r,rfl,h2⟩:=Ej h;obtain ⟨b,rfl⟩:=Gy h2;exact ⟨a,b,rfl⟩
theorem GB {α:Type} {l:List α} (h:l.length=3):∃a b c,l=[a,b,c]:=by obtain ⟨a,r,rfl,h2⟩:=Ej h;obtain ⟨b,c,rfl⟩:=Gz h2;exact ⟨a,b,c,rfl⟩
theorem GC {α:Type} {l:List α} (h:l.length=4):∃a b c d,l=[a,b,c,d]:=by obtain ⟨a,r,rfl,h2⟩:=Ej h;obtain ⟨b,c,d,rfl⟩:=GB h2;exact ⟨a,b,c,d,rfl⟩
theorem Hi {α:Type} {l:List α} (h:l.length=5):∃a b c d e,l=[a,b,c,d,e]:=by obtain ⟨a,r,rfl,h2⟩:=Ej h;obtain ⟨b,c,d,e,rfl⟩:=GC h2;exact ⟨a,b,c,d,e,rfl⟩
theorem FT (C:bA G) {f:Addr} {F:Fc} {k:Nat} (hF:bQ true k f F) (hk:k≤100) {s₁:Shared} (hB:G.hB=s₁.heap) (hos:s₁.os=G.os) (hg:s₁.gens = #[]) (hval:∃H',F [.scr] []= .ok (.bool true) H')
  {R:Result→Shared→Prop} (hR:∀s',(∀b o,s₁.heap.get? b=some o→s'.heap.get? b=some o)→s'.os=s₁.os→s'.gens = #[]→R (.ok (.ret (.bool true))) s') :
  codeAny G.M callerA (.call (.ref f) ⟨[.ref G.sa],[]⟩) R s₁:=by
 obtain ⟨H',hv⟩:=hval
 have st:eY [] [] s₁.heap:=⟨by rw [hB];exact fun _ _ e=>e,rfl,List.nodup_nil,fun a ha=>(nomatch ha),fun i a o e=>by simp at e⟩
 have:=hF callerA [] [] s₁ [.scr] [.ref G.sa] ⟨fun _=>rfl,by show 301+3*k≤800;exact bz 0x320a003d00012dac0000064a0031 hk,by show 4+50*k≤9000;omega⟩ ⟨[],rfl⟩ st (fun env he=>by cases he) hg hos (nS rfl vG)
 rw [hv] at this
 refine this R fun ι' cv s' P r=> ?_
 rw [show cv= .bool true from r]
 exact hR s' (fun b o e=>P.st.keep b o (by rw [hB];exact e)) (by rw [P.os,hos]) P.gens
set_option linter.unusedSimpArgs false
section
variable {α β:Type} {q q':S} {l:aY} {H:Hp}
theorem ni (m:Cm α) (f:α→Cm β) (q:S):(m.b f) q=match m q with | .ok a q'=>f a q' | .exc c q'=> .exc c q' | .stuck=> .stuck:=rfl
theorem DF (a:α) (q:S):Cm.p a q= .ok a q:=rfl
theorem DD (x:String) (l:aY) (H:Hp):ac x ⟨l,H⟩=match l x with | some v=> .ok v ⟨l,H⟩ | none=> .stuck:=rfl
theorem uY (x:String) (v:V) (l:aY) (H:Hp):an x v ⟨l,H⟩= .ok () ⟨upd l x v,H⟩:=rfl
theorem Bh (m m':Cm Fl) (q:S):au m m' q=match m q with | .ok .next q'=>m' q' | .ok (.ret v) q'=> .ok (.ret v) q' | .exc c q'=> .exc c q' | .stuck=> .stuck:=by
 unfold au Cm.b
 cases m q with
 | ok a q'=>cases a<;>rfl
 | exc c q'=>rfl
 | stuck=>rfl
theorem pY (F:Fc) (vs:List V) (l:aY) (H:Hp):aD F vs ⟨l,H⟩=match F vs H with | .ok v H'=> .ok v ⟨l,H'⟩ | .exc c H'=> .exc c ⟨l,H'⟩ | .stuck=> .stuck:=rfl
theorem Aw (c:String) (F:Fc) (vs:List V) (l:aY) (H:Hp):mV c F vs ⟨l,H⟩=match F (.inst c H.length::vs) (H++[.flds []]) with
 | .ok .none H'=> .ok (.inst c H.length) ⟨l,H'⟩ | .ok _ _=> .stuck | .exc c' H'=> .exc c' ⟨l,H'⟩ | .stuck=> .stuck:=rfl
theorem E5 (m:Cm Fl) (sel:String→Cm Fl) (q:S):AF m sel q=match m q with | .ok f q'=> .ok f q' | .exc c q'=>(match sel c q' with | .ok f q''=> .ok f q'' | _=> .stuck) | .stuck=> .stuck:=rfl
theorem FR (ps:List String) (m:Cm Fl) (vs:List V) (H:Hp):gS ps m vs H=if vs.length=ps.length then (match m ⟨aT ps vs,H⟩ with
 | .ok (.ret v) q=> .ok v q.H | .ok .next q=> .ok .none q.H | .exc c q=> .exc c q.H | .stuck=> .stuck) else .stuck:=rfl
theorem lF (vs:List V) (l:aY) (H:Hp):dz vs ⟨l,H⟩=if vs.length≤1000000 then .ok (.ref H.length) ⟨l,H++[.list vs]⟩ else .stuck:=rfl
theorem DC (f c:String) (i:Nat) (l:aY) (H:Hp):aA f (.inst c i) ⟨l,H⟩=match H[i]? with | some (.flds fs)=>(match fs.lookup f with | some v=> .ok v ⟨l,H⟩ | none=> .stuck) | _=> .stuck:=rfl
theorem BZ (f c:String) (v:V) (i:Nat) (l:aY) (H:Hp):bV f v (.inst c i) ⟨l,H⟩=match H[i]? with | some (.flds fs)=>if fs.length<100 then .ok () ⟨l,H.set i (.flds (vN f v fs))⟩ else .stuck | _=> .stuck:=rfl
theorem DE (c0 f c:String) (i:Nat) (l:aY) (H:Hp):aJ c0 f (.inst c i) ⟨l,H⟩=if c=c0 then (match H[i]? with | some (.flds fs)=>(match fs.lookup f with | some _=> .stuck | none=> .ok () ⟨l,H⟩) | _=> .stuck) else .stuck:=rfl
theorem nj (i:Nat) (l:aY) (H:Hp):bC (.ref i) ⟨l,H⟩=match H[i]? with | some (.list _)=> .ok true ⟨l,H⟩ | some (.dict _)=> .ok false ⟨l,H⟩ | _=> .stuck:=rfl
theorem GN (T:String) (v:V) (l:aY) (H:Hp):vO T v ⟨l,H⟩=match AG H v with | some t=> .ok (.bool (t==T||(t == "bool" && T == "int"))) ⟨l,H⟩ | none=> .stuck:=rfl
theorem rZ (v:V) (l:aY) (H:Hp):cQ v ⟨l,H⟩=match ay v H with | some xs=> .ok ⟨xs,fun H=>ay v H=some xs⟩ ⟨l,H⟩ | none=> .stuck:=rfl
theorem GO (f:Int→Int→Bool) (i j:Int) (q:S):BW f (.int i) (.int j) q= .ok (f i j) q:=rfl
theorem jn {i:Nat} {xs:List V} (v:V) (l:aY) (H:Hp) (h:H[i]? = some (.list xs)) (hl:xs.length<1000000):eB (.ref i) v ⟨l,H⟩= .ok .none ⟨l,H.set i (.list (xs++[v]))⟩:=by
 unfold eB;dsimp only;rw [h];exact if_pos hl
theorem qP {o:V} {xs:List V} (l:aY) (H:Hp) (h:ay o H=some xs) (hl:xs.length≤1000000):iK [o] ⟨l,H⟩= .ok (.ref H.length) ⟨l,H++[.list xs]⟩:=by
 unfold iK;dsimp only;rw [h];exact if_pos hl
theorem gp (l:aY) (x:String) (v:V):upd l x v x=some v:=if_pos rfl
theorem kj (l:aY) {x y:String} (v:V) (h:y≠x):upd l x v y=l y:=if_neg h
end
section
variable {g:Hp→Prop} {bd:V→Cm Unit} {body:Cm Fl}
open Classical in
theorem wH (x:V) (r:List V) (q:S):bH g bd body (x::r) q=match ((bd x).b fun _=>body) q with
  | .ok .next q'=>if g q'.H then bH g bd body r q' else .stuck
  | .ok (.ret v) q'=> .ok (.ret v) q'
  | .exc c q'=> .exc c q'
  | .stuck=> .stuck:=by
 show ((bd x).b fun _=>body.b (zI g (bH g bd body r))) q=_
 simp only [ni]
 cases bd x q with
 | stuck=>rfl
 | exc c q'=>rfl
 | ok u q' =>
  dsimp only
  cases body q' with
  | stuck=>rfl
  | exc c q'=>rfl
  | ok f q'=>cases f<;>rfl
theorem bf {x:V} {r:List V} {q q':S} (h:((bd x).b fun _=>body) q= .ok .next q') (hg:g q'.H):bH g bd body (x::r) q=bH g bd body r q':=by rw [wH,h];exact if_pos hg
theorem yQ {x:V} {r:List V} {q q':S} {v:V} (h:((bd x).b fun _=>body) q= .ok (.ret v) q'):bH g bd body (x::r) q= .ok (.ret v) q':=by rw [wH,h]
theorem fj (I:List V→S→Prop) (step:∀x r q,I (x::r) q→ ∃q',((bd x).b fun _=>body) q= .ok .next q'∧g q'.H∧I r q'):∀xs q,I xs q→ ∃q',bH g bd body xs q= .ok .next q'∧I [] q'
 | [],q,h=>⟨q,rfl,h⟩
 | x::r,q,h=>by
  obtain ⟨q',h1,h2,h3⟩:=step x r q h
  rw [bf h1 h2]
  exact fj I step r q' h3
end
theorem qd (i:Int):SeqAt.shaped (.int i)=true:=by simp [SeqAt.shaped,PyData.canLay0,PyData.depth]
theorem jS (i:Bool):SeqAt.shaped (.bool i)=true:=by simp [SeqAt.shaped,PyData.canLay0,PyData.depth]
def Sh (n:Nat) (d:PyData):Prop:=d.canLay0=true∧d.depth≤n
theorem AD (n:Nat) (i:Int):Sh n (.int i):=⟨by simp [PyData.canLay0],by simp [PyData.depth]⟩
theorem EC (n:Nat) (i:Bool):Sh n (.bool i):=⟨by simp [PyData.canLay0],by simp [PyData.depth]⟩
theorem AC {n:Nat}:∀ {ds:List PyData},(∀d∈ds,Sh n d)→PyData.canLayAll0 ds=true∧PyData.depthAll ds≤n
 | [],_=>⟨by simp [PyData.canLayAll0],by simp [PyData.depthAll]⟩
 | d::ds,h=>by
  obtain ⟨h1,h2⟩:=AC (n:=n) fun e he=>h e (.tail _ he)
  obtain ⟨h3,h4⟩:=h d (.head _)
  exact ⟨by simp [PyData.canLayAll0,h1,h3],by simp only [PyData.depthAll];exact Nat.max_le.mpr ⟨h4,h2⟩⟩
theorem tY {n:Nat} {ds:List PyData} (h:∀d∈ds,Sh n d):Sh (n+1) (.list ds):=by
 obtain ⟨h1,h2⟩:=AC h
 exact ⟨by simpa [PyData.canLay0] using h1,by simp [PyData.depth];exact h2⟩
theorem DP {n:Nat} {ds:List PyData} (h:∀d∈ds,Sh n d):Sh (n+1) (.tuple ds):=by
 obtain ⟨h1,h2⟩:=AC h
 exact ⟨by simpa [PyData.canLay0] using h1,by simp [PyData.depth];exact h2⟩
theorem Sh.shaped {n:Nat} {d:PyData} (h:Sh n d) (hn:n≤64):SeqAt.shaped d=true:=by
 unfold SeqAt.shaped;rw [h.1];have:=h.2;simp;exact b0 0x40a100101000040a0012 hn this
theorem uK {α β γ:Type} (f:β→Option γ) (g:α→β) (h:α→γ) (e:∀x,f (g x)=some (h x)):∀xs:List α,dw f (xs.map g)=some (xs.map h)
 | []=>rfl
 | x::xs=>by
  show ((f (g x)).bind fun d=>(dw f (xs.map g)).map (d :: ·))=_
  rw [e x,uK f g h e xs];rfl
theorem vE (H:Hp) (i:Int):toD H 8 (.int i)=some (.int i):=rfl
theorem oz (H:Hp) (i:Bool):toD H 8 (.bool i)=some (.bool i):=rfl
theorem zH (H:Hp) (i:Nat) {xs:List V} {ds:List PyData} (h:H[i]? = some (.list xs)) (hd:dw (toD H 7) xs=some ds):toD H 8 (.ref i)=some (.list ds):=by
 show (match H[i]? with | some (.list xs)=>(dw (toD H 7) xs).map PyData.list | _=>none)=_
 rw [h];dsimp only;rw [hd];rfl
theorem rq (H:Hp) (n:Nat) (xs:List Int):dw (toD H (n+1)) (xs.map V.int)=some (xs.map PyData.int):=uK (toD H (n+1)) V.int PyData.int (fun _=>rfl) xs
theorem oA (H:Hp) (n:Nat) (xs:List Bool):dw (toD H (n+1)) (xs.map V.bool)=some (xs.map PyData.bool):=uK (toD H (n+1)) V.bool PyData.bool (fun _=>rfl) xs
theorem yd (xs:List Int):Sh 1 (.list (xs.map PyData.int)):=tY fun d hd=>by obtain ⟨i,_,rfl⟩:=List.mem_map.mp hd;exact AD _ _
theorem q6 (xs:List Bool):Sh 1 (.list (xs.map PyData.bool)):=tY fun d hd=>by obtain ⟨i,_,rfl⟩:=List.mem_map.mp hd;exact EC _ _
theorem pF {α:Type} [DecidableEq α] (f:α→PyData) (h:∀x y,PyData.eqv (f x) (f y)=decide (x=y)):∀xs ys:List α,PyData.eqvAll (xs.map f) (ys.map f)=decide (xs=ys)
 | [],[]=>rfl
 | [],y::ys=>rfl
 | x::xs,[]=>rfl
 | x::xs,y::ys=>by
  show (PyData.eqv (f x) (f y)&&PyData.eqvAll (xs.map f) (ys.map f))=_
  rw [h,pF f h xs ys,← Bool.decide_and]
  exact decide_eq_decide.mpr (by rw [List.cons.injEq])
theorem tR (i j:Int):PyData.eqv (.int i) (.int j)=decide (i=j):=rfl
theorem uq (i j:Bool):PyData.eqv (.bool i) (.bool j)=decide (i=j):=rfl
theorem qO (i j:Int) (q:S):eqV (.int i) (.int j) q= .ok (decide (i=j)) q:=by
 unfold eqV CP;rw [vE,vE,Option.bind_some,Option.bind_some,qd,qd];rfl
theorem iT {i j:Nat} {xs ys:List Int} {q:S} (h1:q.H[i]? = some (.list (xs.map .int))) (h2:q.H[j]? = some (.list (ys.map .int))):eqV (.ref i) (.ref j) q= .ok (decide (xs=ys)) q:=by
 have t1:toD q.H 8 (.ref i)=some (.list (xs.map PyData.int)):=zH _ _ h1 (rq _ _ _)
 have t2:toD q.H 8 (.ref j)=some (.list (ys.map PyData.int)):=zH _ _ h2 (rq _ _ _)
 unfold eqV CP
 rw [t1,t2,Option.bind_some,Option.bind_some,(yd xs).shaped (by omega),(yd ys).shaped (by omega)]
 show vM.ok (PyData.eqvAll _ _) q=_
 rw [pF PyData.int tR]
theorem ol {i:Nat} {a:Int} {xs:List Int} {q:S} (h1:q.H[i]? = some (.list (xs.map .int))):inV (.int a) (.ref i) q= .ok (decide (a∈xs)) q:=by
 have:∀xs:List Int,((xs.map PyData.int).any fun y=>PyData.eqv y (.int a))=decide (a∈xs):=fun xs=>by
  induction xs with
  | nil=>simp
  | cons x xs ih=>simp only [List.map_cons,List.any_cons,ih,tR,List.mem_cons,Bool.decide_or,@eq_comm _ x a]
 unfold inV ET;dsimp only;rw [h1];dsimp only
 rw [vE,rq,Option.bind_some,Option.bind_some,qd,(yd xs).shaped (by omega),this];rfl
theorem aG (H:Hp) (o:O):(H++[o])[H.length]? = some o:=by simp
theorem wL (H:Hp) (o o':O):(H++[o]).set H.length o'=H++[o']:=by simp
theorem av {H H':Hp} (p:H<+:H') {i:Nat} {o:O} (e:H[i]? = some o):H'[i]? = some o:=getElem?_prefix p e
theorem eh (b:Int) (q:S) (h : -1000000<b∧b<1000000):cN [.int b] q= .ok ⟨ba 0 b.toNat,fun _=>True⟩ q:=by
 unfold cN;dsimp only;rw [if_pos h];rfl
theorem cn (a b:Int) (hb:0<b):0≤a.fmod b∧a.fmod b<b:=⟨Int.fmod_nonneg_of_pos a hb,Int.fmod_lt_of_pos a hb⟩
section
variable {m m':Cm Fl} {q:S} {P P':S→Prop} {R:V→Hp→Prop}
theorem ah {q':S} {r:vM S Fl} (h:m q= .ok .next q') (k:m' q'=r):au m m' q=r:=by rw [Bh,h];exact k
end
section
variable {m:Cm Fl} {ps:List String} {vs:List V} {H:Hp} {q:S} {v:V} {c:String}
theorem lx (hl:vs.length=ps.length) (h:m ⟨aT ps vs,H⟩= .ok .next q):gS ps m vs H= .ok .none q.H:=by rw [FR,if_pos hl,h]
theorem aS (hl:vs.length=ps.length) (h:m ⟨aT ps vs,H⟩= .ok (.ret v) q):gS ps m vs H= .ok v q.H:=by rw [FR,if_pos hl,h]
theorem lw (hl:vs.length=ps.length) (h:m ⟨aT ps vs,H⟩= .exc c q):gS ps m vs H= .exc c q.H:=by rw [FR,if_pos hl,h]
theorem dD {m m':Cm Fl} {q q':S} {v:V} (h:m q= .ok (.ret v) q'):au m m' q= .ok (.ret v) q':=by rw [Bh,h]
theorem lI {m m':Cm Fl} {q q':S} {c:String} (h:m q= .exc c q'):au m m' q= .exc c q':=by rw [Bh,h]
end
noncomputable def dX (caps:List String) (l:aY):aY:=fun x=>if x∈caps then l x else none
open Classical in
noncomputable def sJ {α:Type} (l:aY):vM S α→vM Hp α
 | .ok a q=>if q.l=l then .ok a q.H else .stuck
 | _=> .stuck
noncomputable def bR (bd:V→Cm Unit) (tst:Cm Bool) (elt:Cm V) (lc:aY) (v:V) (H:Hp):vM Hp (Option V):=match bd v ⟨lc,H⟩ with
 | .ok _ q1=>(match sJ q1.l (tst q1) with
  | .ok true H2=>(match sJ q1.l (elt ⟨q1.l,H2⟩) with | .ok y H3=> .ok (some y) H3 | _=> .stuck)
  | .ok false H2=> .ok none H2
  | _=> .stuck)
 | _=> .stuck
open Classical in
noncomputable def fh (g:Hp→Prop) (bd:V→Cm Unit) (tst:Cm Bool) (elt:Cm V) (lc:aY):List V→Hp→vM Hp (List V)
 | [],H=> .ok [] H
 | v::r,H=>match bR bd tst elt lc v H with
  | .ok o H'=>if g H' then (match fh g bd tst elt lc r H' with | .ok ys H''=> .ok (o.toList++ys) H'' | _=> .stuck) else .stuck
  | _=> .stuck
noncomputable def be (caps:List String) (mi:Cm It) (bd:V→Cm Unit) (tst:Cm Bool) (elt:Cm V):Cm V:=mi.b fun it=>fun q =>
 if it.xs.length≤1000000 then (match fh it.g bd tst elt (dX caps q.l) it.xs q.H with
  | .ok ys H'=> .ok (.ref H'.length) ⟨q.l,H'++[.list ys]⟩
  | _=> .stuck) else .stuck
theorem uC {α:Type} {l:aY} {r:vM S α} {a:α} {H:Hp} (e:sJ l r= .ok a H):r= .ok a ⟨l,H⟩:=by
 cases r with
 | ok b q =>
  unfold sJ at e;dsimp only at e
  split at e
  ·rename_i h
   cases e
   obtain ⟨ql,qH⟩:=q
   dsimp only at h
   subst h
   rfl
  ·cases e
 | _=>cases e
theorem uB {α:Type} {l:aY} {a:α} {H:Hp}:sJ l (.ok a ⟨l,H⟩)= .ok a H:=by unfold sJ;exact if_pos rfl
theorem sE {bd:V→Cm Unit} {tst:Cm Bool} {elt:Cm V} {lc:aY} {v:V} {H H':Hp} {o:Option V} (e:bR bd tst elt lc v H= .ok o H') :
  ∃u q1,bd v ⟨lc,H⟩= .ok u q1∧((tst q1= .ok false ⟨q1.l,H'⟩∧o=none)∨ ∃H2 y,tst q1= .ok true ⟨q1.l,H2⟩∧elt ⟨q1.l,H2⟩= .ok y ⟨q1.l,H'⟩∧o=some y):=by
 refine wK fun X' kX=> ?_
 unfold bR at e
 cases h1:bd v ⟨lc,H⟩ with
 | ok u q1 =>
  rw [h1] at e;dsimp only at e
  cases h2:sJ q1.l (tst q1) with
  | ok b H2 =>
   rw [h2] at e
   cases b with
   | true =>
    dsimp only at e
    cases h3:sJ q1.l (elt ⟨q1.l,H2⟩) with
    | ok y H3 =>
     rw [h3] at e
     cases e
     exact kX ⟨u,q1,h1,.inr ⟨H2,y,uC h2,uC h3,rfl⟩⟩
    | _=>rw [h3] at e;cases e
   | false =>
    cases e
    exact kX ⟨u,q1,h1,.inl ⟨uC h2,rfl⟩⟩
  | _=>rw [h2] at e;cases e
 | _=>rw [h1] at e;cases e
open Classical in
theorem ug {g:Hp→Prop} {bd:V→Cm Unit} {tst:Cm Bool} {elt:Cm V} {lc:aY} (v:V) (r:List V) (H:Hp):fh g bd tst elt lc (v::r) H=match bR bd tst elt lc v H with
  | .ok o H'=>if g H' then (match fh g bd tst elt lc r H' with | .ok ys H''=> .ok (o.toList++ys) H'' | _=> .stuck) else .stuck
  | _=> .stuck:=rfl
theorem yH {g:Hp→Prop} {bd:V→Cm Unit} {tst:Cm Bool} {elt:Cm V} {lc:aY} {v:V} {r:List V} {H Hf:Hp} {ys:List V} (e:fh g bd tst elt lc (v::r) H= .ok ys Hf) :
  ∃o H' zs,A4 (bR bd tst elt lc v H= .ok o H') (g H') (fh g bd tst elt lc r H'= .ok zs Hf) (ys=o.toList++zs):=by
 refine wK fun X' kX=> ?_
 rw [ug] at e
 cases h1:bR bd tst elt lc v H with
 | ok o H' =>
  rw [h1] at e;dsimp only at e
  by_cases hg:g H'
  ·rw [if_pos hg] at e
   cases h2:fh g bd tst elt lc r H' with
   | ok zs H'' =>
    rw [h2] at e
    cases e
    exact kX ⟨o,H',zs,h1,hg,h2,rfl⟩
   | _=>rw [h2] at e;cases e
  ·rw [if_neg hg] at e;cases e
 | _=>rw [h1] at e;cases e
noncomputable def gM (scope:Scope) (env:Env):List (Str×Addr):=scope.names.foldl (fun cs p=>if p.2 == .free then (p.1,(env.cells.lookup p.1).getD 0)::cs else cs) []
noncomputable def yR (scope:Scope):List Str:=(scope.names.filter fun p=>p.2 == .free).map (·.1)
noncomputable def FJ:Option NameKind→Bool
 | some .cell=>true
 | some .free=>true
 | _=>false
theorem yZ {k:Option NameKind} (h:FJ k=true):k=some .cell∨k=some .free:=by
 cases k with
 | none=>cases h
 | some k =>
  cases k with
  | cell=>exact .inl rfl
  | free=>exact .inr rfl
  | _=>cases h
noncomputable def yF (scope:Scope) (env:Env) (caps:List String):Bool :=
 (scope.kind == .function)&&(scope.names.all fun p=>p.2 != .cell)&&(scope.names.all fun p=>p.2 != .local||scope.names.lookup p.1==some .local) &&
 (scope.names.all fun p=>p.2 != .free||(env.cells.lookup p.1).isSome)&&decide (yR scope).Nodup&&((yR scope).all fun n=>caps.any fun x=>n==Str.ofString x) &&
 (caps.all fun x=>(yR scope).contains (Str.ofString x))&&(caps.all fun x=>FJ ((relabel scope env).names.lookup (Str.ofString x)))&&(caps.all fun x=>FJ (env.kindOf (Str.ofString x)))
structure fF (env:Env) (scope:Scope) (cl:List (Str×Addr)) (caps:List String):Prop where
 kind:scope.kind= .function
 cell:∀y∈scope.names,y.2≠ .cell
 names:∀x∈scope.names,x.2= .local→scope.names.lookup x.1=some .local
 at':∀p∈cl,env.cells.lookup p.1=some p.2
 nd:(cl.map (·.1)).Nodup
 all:∀p∈cl,∃x∈caps,p.1=Str.ofString x
 cap:∀x∈caps,Str.ofString x∈cl.map (·.1)
 kc:∀x∈caps,(relabel scope env).names.lookup (Str.ofString x)=some .cell∨(relabel scope env).names.lookup (Str.ofString x)=some .free
 ke:∀x∈caps,env.kindOf (Str.ofString x)=some .cell∨env.kindOf (Str.ofString x)=some .free
theorem yD (env:Env):∀(l:List (Str×NameKind)) (acc:List (Str×Addr)),
  l.foldl (fun cs p=>if p.2 == .free then (p.1,(env.cells.lookup p.1).getD 0)::cs else cs) acc=((l.filter fun p=>p.2 == .free).map fun p=>(p.1,(env.cells.lookup p.1).getD 0)).reverse++acc
 | [],acc=>rfl
 | p::r,acc=>by
  rw [List.foldl_cons,yD env r]
  cases h:p.2 == .free with
  | true=>rw [List.filter_cons_of_pos (by exact h)];simp
  | false=>rw [List.filter_cons_of_neg (by rw [h];simp)];simp
theorem yC (scope:Scope) (env:Env):gM scope env=((scope.names.filter fun p=>p.2 == .free).map fun p=>(p.1,(env.cells.lookup p.1).getD 0)).reverse:=by
 unfold gM;rw [yD];simp
theorem rB (scope:Scope) (env:Env):(gM scope env).map (·.1)=(yR scope).reverse:=by
 rw [yC,List.map_reverse,List.map_map];rfl
theorem fF.of {env:Env} {scope:Scope} {caps:List String} (h:yF scope env caps=true):fF env scope (gM scope env) caps:=by
 unfold yF at h
 simp only [Bool.and_eq_true] at h
 obtain ⟨⟨⟨⟨⟨⟨⟨⟨h1,h2⟩,h3⟩,h4⟩,h5⟩,h6⟩,h7⟩,h8⟩,h9⟩:=h
 rw [List.all_eq_true] at h2 h3 h4 h6 h7 h8 h9
 refine ⟨beq_iff_eq.mp h1,fun y hy=>by simpa using h2 y hy,fun x hx e=> ?_,fun p hp=> ?_,?_,fun p hp=> ?_,fun x hx=> ?_,fun x hx=>yZ (h8 x hx),fun x hx=>yZ (h9 x hx)⟩
 ·have:=h3 x hx
  rw [e] at this
  simpa using this
 ·rw [yC,List.mem_reverse,List.mem_map] at hp
  obtain ⟨p',hp',rfl⟩:=hp
  obtain ⟨m1,m2⟩:=List.mem_filter.mp hp'
  have:=h4 p' m1
  rw [show p'.2= .free from beq_iff_eq.mp m2] at this
  have h':(env.cells.lookup p'.1).isSome=true:=by simpa using this
  obtain ⟨a,ha⟩:=Option.isSome_iff_exists.mp h'
  dsimp only
  rw [ha];rfl
 ·rw [rB];exact List.pairwise_reverse.mpr ((of_decide_eq_true h5:(yR scope).Nodup).imp fun h=>Ne.symm h)
 ·have hm:p.1∈(gM scope env).map (·.1):=List.mem_map.mpr ⟨p,hp,rfl⟩
  rw [rB,List.mem_reverse] at hm
  obtain ⟨x,hx,e⟩:=List.any_eq_true.mp (h6 _ hm)
  exact ⟨x,hx,beq_iff_eq.mp e⟩
 ·rw [rB,List.mem_reverse]
  simpa using h7 x hx
theorem rT {l:List (Str×Addr)} {x y:Str} {c:Addr} (hn:(l.map (·.2)).Nodup) (h1:(x,c)∈l) (h2:(y,c)∈l):x=y:=by
 induction l with
 | nil=>cases h1
 | cons p r ih =>
  rw [List.map_cons,List.nodup_cons] at hn
  rcases List.mem_cons.mp h1 with e1 | h1<;>rcases List.mem_cons.mp h2 with e2 | h2
  ·rw [← e1] at e2;exact (congrArg Prod.fst e2).symm
  ·exact absurd (List.mem_map.mpr ⟨_,h2,by rw [← e1]⟩) hn.1
  ·exact absurd (List.mem_map.mpr ⟨_,h1,by rw [← e2]⟩) hn.1
  ·exact ih hn.2 h1 h2
theorem qL {l:List (Str×Addr)} (hn:(l.map (·.1)).Nodup) (h:∀p∈l,∀p'∈l,p.2=p'.2→p.1=p'.1):(l.map (·.2)).Nodup:=by
 induction l with
 | nil=>exact List.nodup_nil
 | cons p r ih =>
  rw [List.map_cons,List.nodup_cons] at hn ⊢
  refine ⟨fun hm=> ?_,ih hn.2 fun a ha b hb=>h a (.tail _ ha) b (.tail _ hb)⟩
  obtain ⟨p',hp',e⟩:=List.mem_map.mp hm
  exact hn.1 (List.mem_map.mpr ⟨p',hp',h p' (.tail _ hp') p (.head _) e⟩)
section
variable {hq:Bool} {k:Nat} {env:Env} {A:Around} {ι ι' ι0:List Addr} {q q':S} {s s' s0:Shared} {H H':Hp} {h:Heap} {scope:Scope} {cl:List (Str×Addr)} {caps:List String} {Cd:Addr}
theorem iz.weaken {l l':aY} {hv hl:Heap} (x:iz env l ι hv hl) (h:∀y v,l' y=some v→l y=some v):iz env l' ι hv hl :=
 ⟨x.kind,x.glob,x.blt,let ⟨m,hn,hm⟩:=x.loc;⟨m,hn,fun y v e e2=>hm y v (h y v e) e2⟩,fun y v e e2=>x.cel y v (h y v e) e2,x.cells,x.ndup,x.dis,x.fresh⟩
theorem cC.weaken {l':aY} (R:cC A env ι q s) (h:∀y v,l' y=some v→q.l y=some v):cC A env ι ⟨l',q.H⟩ s:=⟨R.st,R.fr.weaken h,R.fs,R.gens,R.os⟩
theorem nn {l:aY} {x:String} {v:V} (e:dX caps l x=some v):x∈caps∧l x=some v:=by
 unfold dX at e
 split at e
 ·rename_i h;exact ⟨h,e⟩
 ·cases e
theorem fF.mem (Z:fF env scope cl caps) {p:Str×Addr} (hp:p∈cl):p∈env.cells:=bg (Z.at' p hp)
theorem fF.own (Z:fF env scope cl caps) {a:Addr} (ha:a∈cl.map (·.2)):a∈own env:=by
 obtain ⟨p,hp,rfl⟩:=List.mem_map.mp ha
 exact List.mem_cons_of_mem _ (List.mem_map.mpr ⟨p,Z.mem hp,rfl⟩)
theorem fF.look (Z:fF env scope cl caps) {x:String} (hx:x∈caps) {a:Addr} (h:env.cells.lookup (Str.ofString x)=some a):cl.lookup (Str.ofString x)=some a:=by
 obtain ⟨p,hp,e⟩:=List.mem_map.mp (Z.cap x hx)
 have h1:=Z.at' p hp
 rw [e,h] at h1
 have:p=(Str.ofString x,a):=by obtain ⟨p1,p2⟩:=p;dsimp only at e h1;rw [e,Option.some.inj h1]
 exact lookup_of_mem_nodup Z.nd (this▸hp)
theorem jD.comp (ha:jD hq k A env):jD hq k A (compEnvC scope cl Cd env):=⟨ha.toROk,ha.fr⟩
theorem cC.comp (Z:fF env scope cl caps) (R:cC A env ι q s) {m:Str→Option Value} (hn:s.heap.Ns Cd m) (hC:Cd∉ι∧G.hB.get? Cd=none) :
  cC A (compEnvC scope cl Cd env) ι ⟨dX caps q.l,q.H⟩ s where
 st:=R.st
 fs:=R.fs
 gens:=R.gens
 os:=R.os
 fr:={
  kind:=Z.kind
  glob:=R.fr.glob
  blt:=R.fr.blt
  loc:=⟨m,hn,fun x v e e2=>by
   obtain ⟨hx,_⟩:=nn e
   have e2':(relabel scope env).names.lookup (Str.ofString x)=some .local:=e2
   rcases Z.kc x hx with h1 | h1<;>rw [h1] at e2'<;>cases e2'⟩
  cel:=fun x v e _=>by
   obtain ⟨hx,e⟩:=nn e
   obtain ⟨c,o,cv,h1,h2,h3,h4⟩:=R.fr.cel x v e (Z.ke x hx)
   exact ⟨c,o,cv,Z.look hx h1,h2,h3,h4⟩
  cells:=fun p hp=>R.fr.cells p (Z.mem hp)
  ndup:=qL Z.nd fun p hp p' hp' e=>rT (c:=p.2) R.fr.ndup (Z.mem hp) (by rw [e];exact Z.mem hp')
  dis:=fun a ha=>by
   rcases List.mem_cons.mp ha with rfl | ha
   ·exact hC.1
   ·exact R.fr.dis a (Z.own ha)
  fresh:=fun a ha=>by
   rcases List.mem_cons.mp ha with rfl | ha
   ·exact hC.2
   ·exact R.fr.fresh a (Z.own ha) }
theorem aU.comp (Z:fF env scope cl caps) {q0 qc:S} (R0:cC A env ι0 q0 s0) (P0:aU A env ι0 s0 ι q s) (hC:s0.heap.get? Cd=none) (Rc:cC A (compEnvC scope cl Cd env) ι qc s)
  (P:aU A (compEnvC scope cl Cd env) ι s ι' q' s') (hl:∀x∈caps,q'.l x=q.l x):aU A env ι0 s0 ι' ⟨q.l,q'.H⟩ s':=by
 have im:oG s.heap s'.heap:=Rc.imm P.kp
 have R:=P0.rel
 obtain ⟨cO,cF,cB⟩:=R0.fresh3 hC
 have isCell:∀a∈env.cells.map (·.2),∃o ov,s.heap.get? a=some o∧o.data= .cell ov:=fun a ha=>by
  obtain ⟨p,hp,rfl⟩:=List.mem_map.mp ha;exact R.fr.cells p hp
 have notFr:∀a∈env.cells.map (·.2),a∉lX A:=fun a ha hf=>by
  obtain ⟨o,ov,e,d⟩:=isCell a ha
  obtain ⟨o',e',es,n,d'⟩:=ec R.fs hf
  rw [e] at e';cases e';rw [d] at d';cases d'
 have cellEx:∀a∈env.cells.map (·.2),a∉cl.map (·.2)→ ∀o,s.heap.get? a=some o→s'.heap.get? a=some o:=fun a ha hn o e=>by
  have hao:a∈own env:=List.mem_cons_of_mem _ ha
  refine P.kp.ex a o e (fun hm=> ?_) (notFr a ha)
  rcases List.mem_append.mp hm with h1 | h1
  ·rcases List.mem_cons.mp h1 with h1 | h1
   ·exact cO ((show a=Cd from h1)▸hao)
   ·exact hn h1
  ·exact R.fr.dis a hao h1
 refine ⟨P0.pre.trans P.pre,⟨P.rel.st,⟨R.fr.kind,R.fr.glob,R.fr.blt,?_,?_,?_,R.fr.ndup,?_,R.fr.fresh⟩,P.rel.fs,P.rel.gens,P.rel.os⟩,?_,fun a ha=>rS P0.new P0.kp.size P.new ha⟩
 ·obtain ⟨m,⟨o,es,ep,ho,hd,r⟩,hm⟩:=R.fr.loc
  obtain ⟨sl,hs⟩:=P.kp.up env.locals o ho fun hm=>by
   rcases List.mem_append.mp hm with h1 | h1
   ·rcases List.mem_cons.mp h1 with h1 | h1
    ·exact cO ((show env.locals=Cd from h1) ▸ .head _)
    ·have h1':env.locals∈cl.map (·.2):=h1
     obtain ⟨p,hp,e⟩:=List.mem_map.mp h1'
     obtain ⟨o',ov,e',d'⟩:=isCell env.locals (List.mem_map.mpr ⟨p,Z.mem hp,e⟩)
     rw [ho] at e';cases e';rw [hd] at d';cases d'
   ·exact R.fr.dis _ (.head _) h1
  exact ⟨m,⟨_,es,ep,hs,hd,r⟩,fun y v e e2=>let ⟨cv,a,b⟩:=hm y v e e2;⟨cv,a,b.mono P.pre im⟩⟩
 ·intro x v e e2
  obtain ⟨c,o,cv,h1,h2,h3,h4⟩:=R.fr.cel x v e e2
  have hmem:=bg h1
  by_cases hc:c∈cl.map (·.2)
  ·obtain ⟨p,hp,e3⟩:=List.mem_map.mp hc
   obtain ⟨y,hy,e4⟩:=Z.all p hp
   have e5:p.1=Str.ofString x:=rT (c:=c) R.fr.ndup (by have:=Z.mem hp;rw [← e3];exact this) hmem
   obtain rfl:y=x:=eQ (e4.symm.trans e5)
   obtain ⟨c',o',cv',k1,k2,k3,k4⟩:=P.rel.fr.cel y v ((hl y hy).trans e) (Z.kc y hy)
   exact ⟨c',o',cv',Z.at' _ (bg k1),k2,k3,k4⟩
  ·exact ⟨c,o,cv,h1,cellEx c (List.mem_map.mpr ⟨_,hmem,rfl⟩) hc o h2,h3,h4.mono P.pre im⟩
 ·intro p hp
  by_cases hc:p.2∈cl.map (·.2)
  ·obtain ⟨p',hp',e⟩:=List.mem_map.mp hc
   rw [← e]
   exact P.rel.fr.cells p' hp'
  ·obtain ⟨o,ov,h1,h2⟩:=R.fr.cells p hp
   exact ⟨o,ov,cellEx p.2 (List.mem_map.mpr ⟨p,hp,rfl⟩) hc o h1,h2⟩
 ·intro a ha hi
  rcases P.new a hi with h1 | h1
  ·exact R.fr.dis a ha h1
  ·obtain ⟨o,e,_⟩:=R.fr.mut (fun _ _ e=>e) ha
   rw [h1] at e;cases e
 ·have off:∀a o,s0.heap.get? a=some o→a∉own env++ι0→a∉own (compEnvC scope cl Cd env)++ι:=fun a o e hW hm=>by
   rcases List.mem_append.mp hm with h1 | h1
   ·rcases List.mem_cons.mp h1 with h1 | h1
    ·rw [show a=Cd from h1,hC] at e;cases e
    ·exact hW (List.mem_append_left _ (Z.own h1))
   ·rcases P0.new a h1 with h2 | h2
    ·exact hW (List.mem_append_right _ h2)
    ·rw [h2] at e;cases e
  refine ⟨P0.kp.size.trans P.kp.size,fun a o e hW=> ?_,fun a o e hW hf=>P.kp.ex a o (P0.kp.ex a o e hW hf) (off a o e hW) hf⟩
  obtain ⟨sl,e1⟩:=P0.kp.up a o e hW
  obtain ⟨sl2,e2⟩:=P.kp.up a _ e1 (off a o e hW)
  exact ⟨sl2,e2⟩
theorem aU.join {q0:S} {D:Addr} {o:O} (R:cC A env ι q0 s) (P:aU A env ι s ι' q' s') (hs:s.heap.get? D=none) (hD:D∉ι') (ho:pA (ι'++[D]) s'.heap D o) :
  aU A env ι s (ι'++[D]) ⟨q'.l,q'.H++[o]⟩ s':=by
 have pre:ι'<+:ι'++[D]:=List.prefix_append _ _
 have im:=oG.refl s'.heap
 obtain ⟨n2,n4,n3⟩:=R.fresh3 hs
 have R':=P.rel
 refine ⟨P.pre.trans pre,⟨⟨R'.st.keep,by simp [R'.st.len],?_,?_,?_⟩,⟨R'.fr.kind,R'.fr.glob,R'.fr.blt,?_,?_,R'.fr.cells,R'.fr.ndup,?_,R'.fr.fresh⟩,?_,R'.gens,R'.os⟩,P.kp,?_⟩
 ·exact List.nodup_append.mpr ⟨R'.st.nodup,by simp,fun x hx y hy=>by simp at hy;subst hy;exact fun e=>hD (e▸hx)⟩
 ·intro x hx
  rcases List.mem_append.mp hx with h | h
  ·exact R'.st.fresh x h
  ·simp at h;subst h;exact n3
 ·intro i x y e1 e2
  dsimp only at e2
  by_cases hi:i<ι'.length
  ·rw [List.getElem?_append_left hi] at e1
   rw [List.getElem?_append_left (R'.st.len▸hi)] at e2
   exact (R'.st.obj i x y e1 e2).stays pre fun _ _ e=>e
  ·have hi':i=ι'.length:=by
    have:=(List.getElem?_eq_some_iff.mp e1).1
    simp at this;exact Nat.le_antisymm (b0 0x100191c0111 this) (b0 0x1010511 hi)
   subst hi'
   simp at e1;subst e1
   rw [R'.st.len] at e2;simp at e2;subst e2
   exact ho
 ·obtain ⟨m,hn,hm⟩:=R'.fr.loc
  exact ⟨m,hn,fun y v e e2=>let ⟨cv,a,b⟩:=hm y v e e2;⟨cv,a,b.mono pre im⟩⟩
 ·exact fun y v e e2=>let ⟨c,o,cv,a,b,d,f⟩:=R'.fr.cel y v e e2;⟨c,o,cv,a,b,d,f.mono pre im⟩
 ·intro x hx hm
  rcases List.mem_append.mp hm with h | h
  ·exact R'.fr.dis x hx h
  ·simp at h;subst h;exact n2 hx
 ·intro env' he
  obtain ⟨b1,L,o',b2,b3,b4,b5,b6⟩:=R'.fs env' he
  refine ⟨b1,L,o',b2,b3,b4,fun hm=> ?_,b6⟩
  rcases List.mem_append.mp hm with h | h
  ·exact b5 h
  ·simp at h;subst h;exact n4 (List.mem_filterMap.mpr ⟨env',he,b2⟩)
 ·intro x hx
  rcases List.mem_append.mp hx with h | h
  ·exact P.new x h
  ·simp at h;subst h;exact .inr hs
end
abbrev Go (hq:Bool) (k:Nat) (env:Env) (ifs:List Expr) (m:Cm Bool):Prop :=
 Sem.Is hq k env (fun A=>kZ A (forIn ifs true fun c r=>if r=true then do let ok ← isTrue c env (eval c env);pure (ForInStep.yield ok) else pure (ForInStep.yield r))) m (fun _ _ a b=>a=b)
def Co (caps:List String) (bd:V→Cm Unit):Prop:= ∀v q u q',bd v q= .ok u q'→ ∀x∈caps,q'.l x=q.l x
section
variable {hq:Bool} {k:Nat} {env:Env} {A:Around} {ι ι' ι0:List Addr} {q q':S} {s s' s0:Shared} {H H':Hp} {h:Heap} {scope:Scope} {cl:List (Str×Addr)} {caps:List String} {Cd:Addr}
theorem jZ:Go hq k env [] (.p true):=fun A ι q s ha R=>aQ.ret0 R rfl fun Q E hQ=>wpAny_tests_nil hQ
theorem eZ {c:Expr} {m:Cm Bool} (h:Tr hq k env c m):Go hq k env [c] m:=fun A ι q s ha R=>(h A ι q s ha R).imp fun Q E x=>wpAny_tests_one x
theorem bN {x:String} (hx:x∉caps):Co caps (an x):=fun v q u q' e y hy=>by
 cases e
 have hne:y≠x:=fun e=>hx (e▸hy)
 show upd q.l x v y=q.l y
 exact kj _ _ hne
theorem AO {x y:String} (hx:x∉caps) (hy:y∉caps):Co caps (jp x y):=fun v q u q' e z hz=>by
 cases v with
 | tup l =>
  cases l with
  | nil=>cases e
  | cons a l =>
  cases l with
  | nil=>cases e
  | cons b l =>
  cases l with
  | cons _ _=>cases e
  | nil =>
  cases e
  have h1:z≠y:=fun e=>hy (e▸hz)
  have h2:z≠x:=fun e=>hx (e▸hz)
  show upd (upd q.l x _) y _ z=q.l z
  rw [kj _ _ h1,kj _ _ h2]
 | _=>cases e
theorem xw {elt target iter:Expr} {ifs:List Expr} {pos:Pos} {it acc:Value} {cenv:Env} {R:Result→Shared→Prop} (I:Nat→Shared→Prop)
  (turn:∀n s,I n s→wpAny G.M A (pyNext it) (fun r s₁=>match r with
   | none=>R (.ok .next) s₁
   | some v=>wpAny G.M A (letOwnedTupleGo target it v) (fun _ s₂=>wpAny G.M A (assign target cenv v) (fun _ s₂ =>
     wpAny G.M A (forIn ifs true fun c r=>if r=true then do let ok ← isTrue c cenv (eval c cenv);pure (ForInStep.yield ok) else pure (ForInStep.yield r)) (fun ok s₃ =>
      if ok=true then wpAny G.M A (eval elt cenv) (fun x s₄ =>
       wpAny G.M A (call (.builtin "list.append") [acc,x]) (fun _ s₅=> ∃m,m<n∧I m s₅) (notedBy G.M A cenv fun e s'=>R (.error e) s') s₄) (notedBy G.M A cenv fun e s'=>R (.error e) s') s₃
      else ∃m,m<n∧I m s₃) (notedBy G.M A cenv fun e s'=>R (.error e) s') s₂) (notedBy G.M A cenv fun e s'=>R (.error e) s') s₂) (notedBy G.M A cenv fun e s'=>R (.error e) s') s₁)
    (notedBy G.M A cenv fun e s'=>R (.error e) s') s)
  (n:Nat) (h:I n s):codeAny G.M A (.compLoop (.ListComp elt [⟨target,iter,ifs,0⟩] scope pos) 0 it acc cenv) R s:=by
 refine codeAny_loop rfl I (fun n s hI=> ?_) n h
 show wpAny _ A ((compTurn (.ListComp elt [⟨target,iter,ifs,0⟩] scope pos) 0 it acc cenv).onRaise (fun x=>do noteFrame x cenv;theTreesLotGoes x)) _ _ s
 refine wpAny_noted ?_
 rw [compTurn_list]
 refine wpAny_bind (wpAny_standAt (wpAny_bind (wpAny_mono (turn n s hI) (fun r s₁ h₁=> ?_) fun _ _ h'=>h')))
 cases r with
 | none=>exact wpAny_pure h₁
 | some v =>
  refine wpAny_bind (wpAny_mono h₁ (fun _ s₂ h₂=>wpAny_bind (wpAny_mono h₂ (fun _ s₃ h₃=>wpAny_bind (wpAny_mono h₃ (fun ok s₄ h₄=> ?_) fun _ _ h'=>h')) fun _ _ h'=>h')) fun _ _ h'=>h')
  cases ok with
  | false=>exact wpAny_pure ⟨rfl,h₄⟩
  | true =>
   exact wpAny_bind (wpAny_bind (wpAny_mono h₄ (fun x s₅ h₅=>wpAny_bind (wpAny_mono h₅ (fun _ s₆ h₆=>wpAny_pure (wpAny_pure ⟨rfl,h₆⟩)) fun _ _ h'=>h')) fun _ _ h'=>h'))
theorem BX {h:Heap} {a:Addr} {xs:Array Value} (x:h.PlainList a xs):∃o,h.get? a=some o∧By o:=let ⟨n,e⟩:=x;⟨_,e,.inl ⟨"list",rfl,by decide⟩⟩
inductive CI (A:Around) (env cenv:Env) (ι ι1:List Addr) (s:Shared) (l1 lc:aY) (St:Nat→Heap→Prop) (priv:List Addr) (D Cd:Addr) (gg:Hp→Prop) (N:Nat) (Fn:Nat→Hp→List V→Prop) (ys:List V) (i:Nat) (ι':List Addr) (H':Hp) (ya:List V) (yc:List Value) (zs:List V) (s':Shared):Prop
 | mk (z0:i≤N) (z1:ι1<+:ι') (z2:aU A env ι s ι' ⟨l1,H'⟩ s') (z3:cC A cenv ι' ⟨lc,H'⟩ s') (z4:St i s'.heap) (z5:gg H') (z6:∀b∈priv,b∉ι') (z7:D∉ι') (z8:Cd∉ι') (z9:s'.heap.PlainList D (List.toArray yc)) (z10:aN ι' s'.heap ya yc) (z11:ya.length≤i) (z12:Fn i H' zs) (z13:ya++zs=ys)
inductive CN (A:Around) (env cenv:Env) (ι:List Addr) (s:Shared) (l1 lc:aY) (St:Nat→Heap→Prop) (priv:List Addr) (D Cd:Addr) (i:Nat) (ya:List V) (yc:List Value) (ι4:List Addr) (H4:Hp) (s4:Shared):Prop
 | mk (z0:aU A env ι s ι4 ⟨l1,H4⟩ s4) (z1:cC A cenv ι4 ⟨lc,H4⟩ s4) (z2:St i s4.heap) (z3:∀b∈priv,b∉ι4) (z4:D∉ι4) (z5:Cd∉ι4) (z6:s4.heap.PlainList D (List.toArray yc)) (z7:aN ι4 s4.heap ya yc)
theorem Cw (Z:fF env scope cl caps) {elt target iter:Expr} {ifs:List Expr} {pos:Pos} {bd:V→Cm Unit} {tst:Cm Bool} {melt:Cm V} {I:Addr} {priv:List Addr} {ι1:List Addr} {it:It} {St:Nat→Heap→Prop} {q1:S} {s1:Shared}
  (ha:jD hq k A env) (R:cC A env ι q s) (hb:∀L,sy hq k (compEnvC scope cl L env) target bd) (hbd:Co caps bd) (ht:∀L,Go hq k (compEnvC scope cl L env) ifs tst)
  (he:∀L,Ev hq k (compEnvC scope cl L env) elt melt) (P1:aU A env ι s ι1 q1 s1) (hI:Gc A target I priv ι1 it St) (h0:St 0 s1.heap) (hp:∀b∈priv,s.heap.get? b=none∧b∉ι1) (hg:it.g q1.H)
  (hlen:it.xs.length≤1000000) {ys:List V} {Hf:Hp} (hc:fh it.g bd tst melt (dX caps q1.l) it.xs q1.H= .ok ys Hf) {RR:Value→Addr→Result→Shared→Prop} {E:Value→Shared→Prop}
  (hRR:∀ι' D Cd m' s',aU A env ι s (ι'++[D]) ⟨q1.l,Hf++[.list ys]⟩ s'→ι'.length=Hf.length→s.heap.get? Cd=none→Cd∉ι'++[D]→s'.heap.Ns Cd m'→RR (.ref D) Cd (.ok .next) s') :
  wpAny G.M A (newList []) (fun acc s₃=>wpAny G.M A (newFunctionEnv scope env.globals cl [] env.qual none .none (some env)) (fun cenv s₄ =>
   codeAny G.M A (.compStart (.ListComp elt [⟨target,iter,ifs,0⟩] scope pos) 0 (.ref I) acc { cenv with scope:=relabel scope env }) (RR acc cenv.locals) s₄) E s₃) E s1:=by
 refine wpAny_newObj_type (wpAny_newFunctionEnv Z.cell (by intro y hy;simp at hy) (fun h₁ hns₁ hsb₁=> ?_) Z.kind)
 dsimp only at hns₁ hsb₁ ⊢
 generalize hH2:s1.heap.push { cls:= .type "list",dict:=none,data:= .seq ([]:List Value).toArray }=H2 at hns₁ hsb₁ ⊢
 generalize hDe:s1.heap.objs.size=D at hns₁ hsb₁ ⊢
 have hC:H2.objs.size=D+1:=by rw [← hH2,Heap.size_push,hDe]
 generalize hCe:H2.objs.size=Cd at hns₁ hsb₁ hC ⊢
 have hDC:D≠Cd:=fun x9=>b0 0x90960131191c0312 hC x9
 have nD1:s1.heap.get? D=none:=Heap.get?_none_of_le (b0 0x10010211 hDe)
 have nC1:s1.heap.get? Cd=none:=Heap.get?_none_of_le (tn 0x200191c23110212 hDe hC)
 have up0:∀a,s1.heap.get? a=none→s.heap.get? a=none:=fun a ha=>by
  cases e:s.heap.get? a with
  | none=>rfl
  | some o=>obtain ⟨o',e'⟩:=P1.kp.size a o e;rw [ha] at e';cases e'
 have nD:=up0 D nD1
 have nC:=up0 Cd nC1
 obtain ⟨dO,dF,dB⟩:=R.fresh3 nD
 obtain ⟨cO,cF,cB⟩:=R.fresh3 nC
 have old:s1.heap.StaysIn h₁:=fun b o e=>hsb₁.extBut b o (Nat.ne_of_lt (Nat.lt_of_lt_of_le (Heap.lt_size e) (by rw [hDe,hC];exact Nat.le_succ _))) (Heap.get?_push_of_some _ (hH2▸Heap.get?_push_of_some _ e))
 have hacc:h₁.PlainList D #[]:=⟨_,hsb₁.extBut _ _ hDC (Heap.get?_push_of_some _ (by rw [← hH2,← hDe];exact Heap.get?_push_size _ rfl))⟩
 have pNe:∀b∈priv,b≠D∧b≠Cd:=fun b hb=>by
  obtain ⟨o,e,_⟩:=hI.mu _ _ h0 b hb
  have lt:=Heap.lt_size e
  rw [hDe] at lt
  exact ⟨Nat.ne_of_lt lt,Nat.ne_of_lt (by rw [hC];exact Nat.lt_succ_of_lt lt)⟩
 have pFr:∀b∈priv,b∉own env∧b∉lX A∧G.hB.get? b=none:=fun b hb=>R.fresh3 (hp b hb).1
 have pOwn:∀b∈priv,b∉own (compEnvC scope cl Cd env):=fun b hb hm=>by
  rcases List.mem_cons.mp hm with h1 | h1
  ·exact (pNe b hb).2 h1
  ·exact (pFr b hb).1 (Z.own h1)
 have dOwn:D∉own (compEnvC scope cl Cd env):=fun hm=>by
  rcases List.mem_cons.mp hm with h1 | h1
  ·exact hDC h1
  ·exact dO (Z.own h1)
 have haC:jD hq k A (compEnvC scope cl Cd env):=ha.comp
 have loop:∀s₂:Shared,s₂={ s1 with heap:=h₁,toks:=s1.toks+([]:List (Str×Value)).length } →
   codeAny G.M A (.compLoop (.ListComp elt [⟨target,iter,ifs,0⟩] scope pos) 0 (.ref I) (.ref D) (compEnvC scope cl Cd env)) (RR (.ref D) Cd) s₂:=by
  rintro s₂ rfl
  have P2:aU A env ι s ι1 q1 { s1 with heap:=h₁,toks:=s1.toks+([]:List (Str×Value)).length }:=P1.trans (aU.stays P1.rel old)
  have cI1:Cd∉ι1:=(P1.rel.fresh_ne nC1).1
  have dI1:D∉ι1:=(P1.rel.fresh_ne nD1).1
  obtain ⟨J,toJ,ofJ⟩:∃J:Nat→Shared→Prop,(∀n s',(∃i ι' H' ya yc zs,n=it.xs.length+1-i∧CI A env (compEnvC scope cl Cd env) ι ι1 s q1.l (dX caps q1.l) St priv D Cd it.g it.xs.length (fun i H' zs=>fh it.g bd tst melt (dX caps q1.l) (it.xs.drop i) H'= .ok zs Hf) ys i ι' H' ya yc zs s')→J n s')∧ ∀n s',J n s'→ ∃i ι' H' ya yc zs,n=it.xs.length+1-i∧CI A env (compEnvC scope cl Cd env) ι ι1 s q1.l (dX caps q1.l) St priv D Cd it.g it.xs.length (fun i H' zs=>fh it.g bd tst melt (dX caps q1.l) (it.xs.drop i) H'= .ok zs Hf) ys i ι' H' ya yc zs s':=⟨_,fun _ _ h=>h,fun _ _ h=>h⟩
  refine xw J ?_ (it.xs.length+1) (toJ _ _ ⟨0,ι1,q1.H,[],[],ys,rfl,Nat.zero_le _,List.prefix_refl _,P2,cC.comp Z P2.rel hns₁ ⟨cI1,cB⟩,hI.frame _ _ _ h0 (fun b _ o e=>old b o e),hg,fun b hb=>(hp b hb).2,dI1,cI1,hacc,vG,Nat.le_refl _,by rw [List.drop_zero];exact hc,rfl⟩)
  intro n s' hJ
  obtain ⟨i,ι',H',ya,yc,zs,rfl,hi,hpre,P,Rc,hst,hg',hpi,hDi,hCi,hpl,hvr,hyl,hcf,hys⟩:=ofJ n s' hJ
  have hp':∀b∈priv,s.heap.get? b=none∧b∉ι':=fun b hb=>⟨(hp b hb).1,hpi b hb⟩
  have hcp:∀b∈priv,b∉ι'∧b∉own (compEnvC scope cl Cd env)∧b∉lX A∧G.hB.get? b=none:=fun b hb=>⟨hpi b hb,pOwn b hb,(pFr b hb).2.1,(pFr b hb).2.2⟩
  rcases Nat.lt_or_ge i it.xs.length with hlt | hge
  ·obtain ⟨x,hx⟩:∃x,it.xs[i]? = some x:=⟨_,List.getElem?_eq_getElem hlt⟩
   have hdrop:it.xs.drop i=x::it.xs.drop (i+1):=by
    rw [List.drop_eq_getElem_cons hlt];congr 1;rw [List.getElem?_eq_getElem hlt] at hx;exact Option.some.inj hx
   rw [hdrop] at hcf
   obtain ⟨o,H2',zs',hstep,hg2,hrest,hz⟩:=yH hcf
   obtain ⟨u,qa,hbx,hcase⟩:=sE hstep
   refine wpAny_mono (hI.item i x s' ι' H' _ _ hx hpre hpi P.rel.st hg' hst fun v h' tk hk hv hst'=> ?_) (fun r s₁ y=>by
    cases r with
    | none=>exact y.elim
    | some v=>exact y) fun _ _ y=>y
   obtain ⟨Pa,im⟩:=aU.off (tk:=tk) R P hp' (hI.mu _ _ hst) hk
   obtain ⟨Rc2,_⟩:=Rc.off (tk:=tk) hcp (hI.mu _ _ hst) hk
   have hpl2:h'.PlainList D yc.toArray:=hpl.at fun o e=>hk D o (fun hm=>(pNe D hm).1 rfl) e
   have hvr2:=hvr.mono (List.prefix_refl _) im
   have hA:=hb Cd A ι' ⟨dX caps q1.l,H'⟩ _ x v haC Rc2 hv
   rw [hbx] at hA
   refine hA _ _ fun ι2 _ s3 Pb _=> ?_
   have hT:=ht Cd A ι2 qa s3 haC Pb.rel
   have hcaps:∀y∈caps,qa.l y=q1.l y:=fun y hy=>(hbd _ _ _ _ hbx y hy).trans (if_pos hy)
   have next:∀ {ι4:List Addr} {H4:Hp} {s4:Shared},aU A (compEnvC scope cl Cd env) ι' { s' with heap:=h',toks:=tk } ι4 ⟨qa.l,H4⟩ s4 →
     CN A env (compEnvC scope cl Cd env) ι s q1.l (dX caps q1.l) St priv D Cd (i+1) ya yc ι4 H4 s4:=fun {ι4 H4 s4} Pc=>by
    have there:∀b o,h'.get? b=some o→b∉ι'→b∉ι4:=fun b o e hn hm=>by
     rcases Pc.new b hm with h1 | h1
     ·exact hn h1
     ·have h1':h'.get? b=none:=h1
      rw [e] at h1';cases h1'
    refine ⟨aU.comp Z R Pa nC Rc2 Pc hcaps,Pc.rel.weaken fun y v e=> ?_,hI.frame _ _ _ hst' fun b hb o e=> ?_,fun b hb=> ?_,?_,?_,?_,hvr2.mono Pc.pre (Rc2.imm Pc.kp)⟩
    ·obtain ⟨hy,e⟩:=nn e
     exact (hcaps y hy).trans e
    ·exact Pc.kp.ex b o e (fun hm=>(List.mem_append.mp hm).elim (pOwn b hb) (hpi b hb)) (pFr b hb).2.1
    ·obtain ⟨o,e,_⟩:=hI.mu _ _ hst' b hb
     exact there b o e (hpi b hb)
    ·obtain ⟨n,e⟩:=hpl2
     exact there D _ e hDi
    ·obtain ⟨m,⟨o,es,ep,e,_⟩,_⟩:=Rc2.fr.loc
     exact there Cd o e hCi
    ·exact hpl2.at fun o e=>Pc.kp.ex D o e (fun hm=>(List.mem_append.mp hm).elim dOwn hDi) dF
   rcases hcase with ⟨htst,rfl⟩ | ⟨H3,y,htst,helt,rfl⟩
   ·rw [htst] at hT
    refine hT _ _ fun ι3 bb s4 Pt hbb=> ?_
    cases hbb
    simp only [Bool.false_eq_true,if_false]
    obtain ⟨a1,a2,a3,a4,a5,a6,a7,a8⟩:=next (Pb.trans Pt)
    exact ⟨it.xs.length+1-(i+1),Cl 0x30113c192c01192c191c0c212 (Nat.sub_add_cancel (b0 0x191c190c010011 hi)) (sA _ _),toJ _ _ ⟨i+1,ι3,H2',ya,yc,zs',rfl,hlt,hpre.trans ((Pb.trans Pt).pre),a1,a2,a3,hg2,a4,a5,a6,a7,a8,Nat.le_succ_of_le hyl,hrest,by rw [← hys,hz];rfl⟩⟩
   ·rw [htst] at hT
    refine hT _ _ fun ι3 bb s4 Pt hbb=> ?_
    cases hbb
    simp only [if_true]
    have hE:=he Cd A ι3 ⟨qa.l,H3⟩ s4 haC Pt.rel
    rw [helt] at hE
    refine hE _ _ fun ι4 cy s5 Pe hvy=> ?_
    obtain ⟨a1,a2,a3,a4,a5,a6,a7,a8⟩:=next ((Pb.trans Pt).trans Pe)
    have hyc:yc.length=ya.length:=a8.length
    refine wpAny_list_append_plain a7 (fun h5 hpl5 hs5=> ?_) (by rw [List.size_toArray,hyc,sizeLine_eq];exact tn 0xb20120101010f4240a0013 hlen hi hyl)
    have hmD:∀b∈[D],∃o,s5.heap.get? b=some o∧By o:=fun b hb=>by simp at hb;subst hb;exact BX a7
    have hk5:∀b o,b∉[D]→s5.heap.get? b=some o→h5.get? b=some o:=fun b o hb e=>hs5.extBut b o (fun q=>hb (by simp [q])) e
    obtain ⟨P6,im6⟩:=aU.off (tk:=s5.toks) R a1 (priv:=[D]) (fun b hb=>by simp at hb;subst hb;exact ⟨nD,a5⟩) hmD hk5
    obtain ⟨R6,_⟩:=a2.off (tk:=s5.toks) (priv:=[D]) (fun b hb=>by simp at hb;subst hb;exact ⟨a5,dOwn,dF,dB⟩) hmD hk5
    have hpush:yc.toArray.push cy=(yc++[cy]).toArray:=by simp
    rw [hpush] at hpl5
    refine ⟨it.xs.length+1-(i+1),Cl 0x30113c192c01192c191c0c212 (Nat.sub_add_cancel (b0 0x191c190c010011 hi)) (sA _ _),toJ _ _ ⟨i+1,ι4,H2',ya++[y],yc++[cy],zs',rfl,hlt,hpre.trans (((Pb.trans Pt).trans Pe).pre),P6,R6,hI.frame _ _ _ a3 fun b hb o e=>hs5.extBut b o (pNe b hb).1 e,hg2,a4,a5,a6,hpl5,
     (a8.append (nS hvy vG)).mono (List.prefix_refl _) im6,by rw [List.length_append];exact Nat.succ_le_succ hyl,hrest,by rw [← hys,hz,List.append_assoc];rfl⟩⟩
  ·have hi':i=it.xs.length:=Nat.le_antisymm (hi) (hge)
   subst hi'
   rw [List.drop_length] at hcf
   cases hcf
   rw [List.append_nil] at hys
   subst hys
   refine wpAny_mono (hI.done s' ι' Hf (fun s₁=>RR (.ref D) Cd (.ok .next) s₁) _ hpre hpi P.rel.st hg' hst fun h' tk hk=> ?_) (fun r s₁ y=> ?_) fun _ _ y=>y
   ·obtain ⟨P2,im⟩:=aU.off (tk:=tk) R P hp' (hI.mu _ _ hst) hk
    obtain ⟨Rc2,_⟩:=Rc.off (tk:=tk) hcp (hI.mu _ _ hst) hk
    have hpl2:h'.PlainList D yc.toArray:=hpl.at fun o e=>hk D o (fun hm=>(pNe D hm).1 rfl) e
    obtain ⟨m,hn,_⟩:=Rc2.fr.loc
    exact hRR ι' D Cd m _ (aU.join R P2 nD hDi ⟨yc,hpl2,hvr.mono (List.prefix_append _ _) im⟩) P.rel.st.len nC (fun hm=>(List.mem_append.mp hm).elim hCi fun h1=>by simp at h1;exact hDC h1.symm) hn
   ·cases r with
    | none=>exact y
    | some v=>exact y.elim
 have hst₁:St 0 h₁:=hI.frame _ _ _ h0 fun b _ o e=>old b o e
 exact codeAny_compStart_list (loop _ rfl) (hI.self 0 _ _ _ hst₁ (loop _ rfl))
theorem ui {mi:Cm It} {bd:V→Cm Unit} {tst:Cm Bool} {melt:Cm V} {it:It} {q1:S} (e:mi q= .ok it q1) :
  be caps mi bd tst melt q= .stuck∨ ∃ys Hf,it.xs.length≤1000000∧fh it.g bd tst melt (dX caps q1.l) it.xs q1.H= .ok ys Hf∧be caps mi bd tst melt q= .ok (.ref Hf.length) ⟨q1.l,Hf++[.list ys]⟩:=by
 unfold be
 rw [dP e]
 by_cases hl:it.xs.length≤1000000
 ·cases h:fh it.g bd tst melt (dX caps q1.l) it.xs q1.H with
  | ok ys Hf=>exact .inr ⟨ys,Hf,hl,rfl,if_pos hl⟩
  | _=>exact .inl (if_pos hl)
 ·exact .inl (if_neg hl)
theorem FO {h:Heap} {a:Addr} {m:Str→Option Value} (x:h.Ns a m):∃o,h.get? a=some o∧By o:=let ⟨o,es,ep,e,d,_⟩:=x;⟨o,e,.inr (.inl ⟨es,ep,d⟩)⟩
theorem dL {elt target iter:Expr} {ifs:List Expr} {pos:Pos} (caps:List String) {mi:Cm It} {bd:V→Cm Unit} {tst:Cm Bool} {melt:Cm V} (hB:yF scope env caps=true) (hclos:closureFor scope env=pure (gM scope env))
  (hi:Ff hq k env target iter mi) (hb:∀L,sy hq k (compEnvC scope (gM scope env) L env) target bd) (hbd:Co caps bd) (ht:∀L,Go hq k (compEnvC scope (gM scope env) L env) ifs tst)
  (he:∀L,Ev hq k (compEnvC scope (gM scope env) L env) elt melt) (hs:∀x,foldedSetIterable iter env x=pure x) :
  Ev hq k env (.ListComp elt [⟨target,iter,ifs,0⟩] scope pos) (be caps mi bd tst melt):=by
 intro A ι q s ha R
 have Z:=fF.of hB
 refine aQ.of fun Q E hQ=> ?_
 rw [eval_ListComp]
 refine wpAny_comprehension_free (use:=none) rfl hs hclos Z.kind Z.names ?_
 have hi':=hi A ι q s ha R
 cases hmi:mi q with
 | stuck=>unfold be at hQ;rw [bk hmi] at hQ;exact hQ.elim
 | exc c q1=>unfold be at hQ;rw [fu hmi] at hQ;rw [hmi] at hi';exact hi' _ _ hQ
 | ok it q1 =>
  rw [hmi] at hi'
  rcases ui (caps:=caps) (bd:=bd) (tst:=tst) (melt:=melt) hmi with hst | ⟨ys,Hf,hl,hc,hok⟩
  ·rw [hst] at hQ;exact hQ.elim
  ·rw [hok] at hQ
   refine hi' _ _ fun ι1 cv s1 P1 hr=> ?_
   obtain ⟨⟨I,priv,St,rfl,h0,hp,_,hI⟩,hg⟩:=hr
   refine Cw (RR:=fun acc C=>compPost G.M A E none Q acc C) Z ha R hb hbd ht he P1 hI h0 hp (hg q1 rfl) hl hc fun ι' D Cd m' s' P hlen nC hCi hn=> ?_
   refine ⟨m',hn,fun h' hs'=> ?_⟩
   obtain ⟨P2,_⟩:=aU.off (tk:=s'.toks) R P (priv:=[Cd]) (fun b hb=>by simp at hb;subst hb;exact ⟨nC,hCi⟩) (fun b hb=>by simp at hb;subst hb;exact FO hn) fun b o hb e=>hs'.extBut b o (fun q=>hb (by simp [q])) e
   exact hQ _ (.ref D) _ P2 ⟨D,by rw [← hlen];simp,rfl⟩
theorem fM {elt target iter:Expr} {ifs:List Expr} {pos py spos:Pos} {y:String} (caps:List String) {mi:Cm It} {bd:V→Cm Unit} {tst:Cm Bool} {melt:Cm V} (hB:yF scope env caps=true)
  (hclos:closureFor scope env=pure (gM scope env))
  (hi:Ff hq k env target iter mi) (hb:∀L,sy hq k (compEnvC scope (gM scope env) L env) target bd) (hbd:Co caps bd) (ht:∀L,Go hq k (compEnvC scope (gM scope env) L env) ifs tst)
  (he:∀L,Ev hq k (compEnvC scope (gM scope env) L env) elt melt) (hs:∀x,foldedSetIterable iter env x=pure x)
  (hsw:swapsWith (.ListComp elt [⟨target,iter,ifs,0⟩] scope pos) (some (.Name (Str.ofString y) py)) spos.line env=pure true) (hy:env.kindOf (Str.ofString y)=some .local) :
  Ex hq k env (.Assign [.Name (Str.ofString y) py] (.ListComp elt [⟨target,iter,ifs,0⟩] scope pos) spos) ((be caps mi bd tst melt).b fun v=>(an y v).b fun _=> .p .next):=by
 intro A ι q s ha R
 have Z:=fF.of hB
 refine aQ.of fun Q E hQ=> ?_
 rw [exec_Assign_Name_used _ _ _ _ hsw]
 refine wpAny_bind (wpAny_standAt (wpAny_bind ?_))
 show wpAny _ A (do let _ ← comprehension (.ListComp elt [⟨target,iter,ifs,0⟩] scope pos) scope env _ (newList []) false (eval iter env) (some (assign (.Name (Str.ofString y) py) env))) _ _ s
 refine wpAny_bind (wpAny_mono (wpAny_comprehension_free (use:=some (assign (.Name (Str.ofString y) py) env)) (Q:=fun _ s'=>Q .next s') rfl hs hclos Z.kind Z.names ?_) (fun _ s' hq=>wpAny_pure (wpAny_pure hq)) fun _ _ e=>e)
 have hi':=hi A ι q s ha R
 cases hmi:mi q with
 | stuck=>rw [bk (show be caps mi bd tst melt q= .stuck by unfold be;exact bk hmi)] at hQ;exact hQ.elim
 | exc c q1=>rw [fu (show be caps mi bd tst melt q= .exc c q1 by unfold be;exact fu hmi)] at hQ;rw [hmi] at hi';exact hi' _ _ hQ
 | ok it q1 =>
  rw [hmi] at hi'
  rcases ui (caps:=caps) (bd:=bd) (tst:=tst) (melt:=melt) hmi with hst | ⟨ys,Hf,hl,hc,hok⟩
  ·rw [bk hst] at hQ;exact hQ.elim
  ·rw [dP hok] at hQ
   refine hi' _ _ fun ι1 cv s1 P1 hr=> ?_
   obtain ⟨⟨I,priv,St,rfl,h0,hp,_,hI⟩,hg⟩:=hr
   refine Cw (RR:=fun acc C=>compPost G.M A E (some (assign (.Name (Str.ofString y) py) env)) (fun _ s'=>Q .next s') acc C) Z ha R hb hbd ht he P1 hI h0 hp (hg q1 rfl) hl hc fun ι' D Cd m' s' P hlen nC hCi hn=> ?_
   show wpAny _ A (assign (.Name (Str.ofString y) py) env (.ref D)) _ _ _
   refine wpAny_assign_Name (qk (v:= .ref Hf.length) (.inl hy) P.rel ⟨D,by rw [← hlen];simp,rfl⟩ _ _ fun ι2 u s2 P2 _=> ?_)
   have P3:=P.trans P2
   have cO:=R.fresh3 nC
   obtain ⟨oC,es,ep,eC,dC,r⟩:=hn
   have eC2:s2.heap.get? Cd=some oC:=P2.kp.ex Cd oC eC (fun hm=>(List.mem_append.mp hm).elim cO.1 hCi) cO.2.1
   have hC2:Cd∉ι2:=fun hm=>by
    rcases P2.new Cd hm with h1 | h1
    ·exact hCi h1
    ·rw [eC] at h1;cases h1
   refine ⟨m',⟨oC,es,ep,eC2,dC,r⟩,fun h' hs'=> ?_⟩
   obtain ⟨P4,_⟩:=aU.off (tk:=s2.toks) R P3 (priv:=[Cd]) (fun b hb=>by simp at hb;subst hb;exact ⟨nC,hC2⟩) (fun b hb=>by simp at hb;subst hb;exact ⟨oC,eC2,.inr (.inl ⟨es,ep,dC⟩)⟩)
    fun b o hb e=>hs'.extBut b o (fun q=>hb (by simp [q])) e
   exact hQ _ .next _ P4 rfl
noncomputable def fZ (i:Int):List V→List V
 | []=>[]
 | x::r=> .tup [.int i,x]::fZ (i+1) r
theorem iB:∀(xs:List V) (i:Int),(fZ i xs).length=xs.length
 | [],_=>rfl
 | x::r,i=>by rw [fZ,List.length_cons,iB r,List.length_cons]
theorem wF:∀(xs:List V) (a:Int) (i:Nat) (y:V),(fZ a xs)[i]? = some y→ ∃x,xs[i]? = some x∧y= .tup [.int (a+i),x]
 | [],a,i,y,e=>by simp [fZ] at e
 | x::r,a,0,y,e=>by simp [fZ] at e;exact ⟨x,rfl,by rw [← e];simp⟩
 | x::r,a,i+1,y,e=>by
  simp [fZ] at e
  obtain ⟨z,h1,h2⟩:=wF r (a+1) i y e
  exact ⟨z,by simpa using h1,by rw [h2];congr 3;push_cast;exact Int.le_antisymm (kb 0x190fc0c0f190cc80) (kb 0xf190cc190fc0c80)⟩
noncomputable def lW:List V→Cm It
 | [o]=>fun q=>(match ay o q.H with
  | some xs=> .ok ⟨fZ 0 xs,fun H=>ay o H=some xs⟩ q
  | none=> .stuck)
 | _=> .stk
theorem Da (C:bA G) (hh:A.handled=none) {es:List Expr} {kk:Nat} {p:Pos} {e it l:Addr} {v:V} {xs:List V} (hv:∀ι',ι<+:ι'→ ∀h,aK ι' h v (.ref l)) (hei:e≠it) (hle:l≠e) (hli:l≠it) :
  Gc A (.Tuple es kk p) e [e,it] ι ⟨fZ 0 xs,fun H=>ay v H=some xs⟩ (fun i h=>(∃old,IsEnum h e it (i:Nat) old)∧h.IsListIter it l i) where
 mu:=fun i h st b hb=>by
  obtain ⟨⟨old,he⟩,hit⟩:=st
  simp at hb
  rcases hb with rfl | rfl
  ·exact ⟨_,he,.inl ⟨_,rfl,by decide⟩⟩
  ·exact iJ hit
 frame:=fun i h h' st hk=>⟨let ⟨old,he⟩:=st.1;⟨old,hk e (by simp) _ he⟩,st.2.at fun o x=>hk it (by simp) o x⟩
 item:=fun i x s ι' H Q E hx hpre hpi R hg st hQ=>by
  obtain ⟨⟨old,he⟩,hit⟩:=st
  obtain ⟨xi,hxi,rfl⟩:=wF _ _ _ _ hx
  obtain ⟨a,vs,e',g1,g2⟩:=gc C R (hv ι' hpre s.heap) hg
  cases e'
  obtain ⟨cv,c1,c2⟩:=g2.get hxi
  refine wpAny_pyNext_enum_item he hit g1 (x:=cv) (by simpa using c1) hei fun h' ho hit' hT hsz hk=> ?_
  refine wpAny_letOwnedTupleGo_enum ho fun h'' he'' hs''=> ?_
  have hs2:Heap.SameBut e h' h'':=hs''
  have helt:e<s.heap.objs.size:=Heap.lt_size he
  have kk2:∀b o,b∉[e,it]→s.heap.get? b=some o→h''.get? b=some o:=fun b o hb e'=>hs2.extBut b o (fun q=>hb (by simp [q])) (hk b o (fun q=>hb (by simp [q])) (fun q=>hb (by simp [q])) e')
  have im:oG s.heap h'':=fun b o e' hmu=>⟨o.slots,kk2 b o (fun hb=>by
   simp at hb
   rcases hb with rfl | rfl
   ·rw [he] at e';cases e';exact hmu (.inl ⟨_,rfl,by decide⟩)
   ·obtain ⟨o',e2,m2⟩:=iJ hit;rw [e'] at e2;cases e2;exact hmu m2) e'⟩
  refine hQ _ h'' _ kk2 ⟨_,[.int i s.toks,cv],rfl,⟨_,hs2.extBut _ _ (Nat.ne_of_gt helt) hT,rfl,_,rfl⟩,?_⟩ ⟨⟨cv,by simpa using he''⟩,hit'.at fun o y=>hs2.extBut _ _ hei.symm y⟩
  exact nS ⟨s.toks,by simp⟩ (nS (c2.mono (List.prefix_refl _) im) vG)
 done:=fun s ι' H Q E hpre hpi R hg st hQ=>by
  obtain ⟨⟨old,he⟩,hit⟩:=st
  obtain ⟨a,vs,e',g1,g2⟩:=gc C R (hv ι' hpre s.heap) hg
  cases e'
  dsimp only at he hit
  rw [iB] at he hit
  refine wpAny_pyNext_enum_end hh he hit g1 (by simp [g2.length]) fun h' hs=> ?_
  exact hQ h' s.toks fun b o hb e'=>hs b o (fun q=>hb (by simp [q])) e'
 self:=fun i s Q E st hQ=>let ⟨⟨old,he⟩,_⟩:=st;wpAny_pyIter_enum he hQ
theorem Fi (C:bA G) (hh:A.handled=none) {es:List Expr} {kk:Nat} {p:Pos} (R:cC A env ι q s) {vs:List V} {cvs:List Value} (hv:aN ι s.heap vs cvs) :
  aQ A env ι s (lW vs q) (fun ι' h it cv=>yu A (.Tuple es kk p) s.heap ι' h it cv∧ ∀q',lW vs q= .ok it q'→it.g q'.H)
   (fun Q E s=>wpAny G.M A (call (.type "enumerate") cvs) (fun x s₁=>wpAny G.M A (pyIter x) Q E s₁) E s):=by
 cases vs with
 | nil=>trivial
 | cons v vs =>
 cases vs with
 | cons _ _=>trivial
 | nil =>
  obtain ⟨cv,_,rfl,h1,e⟩:=hv;rw [show _=[] from e]
  unfold lW;dsimp only
  cases hi:ay v q.H with
  | none=>trivial
  | some xs =>
   obtain ⟨l,vs,rfl,g1,g2⟩:=gc C R.st h1 hi
   intro Q E hQ
   have hl:l<s.heap.objs.size:=by obtain ⟨o,e,_⟩:=g1;exact Heap.lt_size e
   have hv2:∀ι',ι<+:ι'→ ∀h,aK ι' h v (.ref l):=fun ι' hp h=>uz hi h1 hp
   refine call_enumerate_list g1 fun h' hE hL hsz hk=>wpAny_pyIter_enum hE ?_
   have n0:s.heap.get? s.heap.objs.size=none:=Heap.get?_none_of_le (Nat.le_refl _)
   have n1:s.heap.get? (s.heap.objs.size+1)=none:=Heap.get?_none_of_le (bz 0x190c000)
   refine hQ ι _ _ (aU.stays (tk:=s.toks) R hk) ⟨⟨_,[s.heap.objs.size+1,s.heap.objs.size],_,rfl,⟨⟨_,by simpa using hE⟩,hL⟩,fun b hb=> ?_,fun _ _=>trivial,
    Da C hh hv2 (Nat.succ_ne_self _) (Nat.ne_of_lt (Nat.lt_succ_of_lt hl)) (Nat.ne_of_lt hl)⟩,fun q' e=> ?_⟩
   ·simp at hb
    rcases hb with rfl | rfl
    ·exact ⟨n1,(R.fresh_ne n1).1⟩
    ·exact ⟨n0,(R.fresh_ne n0).1⟩
   ·cases e;exact hi
theorem zP (C:bA G) (hh:hq=true) {ts:List Expr} {kk:Nat} {pt p pos:Pos} {es:List Expr} {m:Cm (List V)} (hx:env.kindOf (Str.ofString "enumerate")=some .globalImplicit)
  (hv:nsIn G.K mainGlobals (Str.ofString "enumerate")=some none) (h1:Bx hq k env es m) (hp:(backTo pos (starEach es env)).any (·.1)=false) :
  Ff hq k env (.Tuple ts kk pt) (.Call (.Name (Str.ofString "enumerate") p) es [] pos) (m.b fun vs=>lW vs) :=
 EL C hx hv (bv:= .type "enumerate") ∅ ∅ ∅ (dq _) h1 hp fun A ι q s vs cvs ha R hv=>Fi C (ha.hd hh) R hv
end
section
variable {g:Hp→Prop} {bd:V→Cm Unit} {tst:Cm Bool} {elt:Cm V} {lc l1:aY} {H H2 H3:Hp} {v y:V} {u:Unit} {caps:List String}
theorem fY (h1:bd v ⟨lc,H⟩= .ok u ⟨l1,H⟩) (h2:tst ⟨l1,H⟩= .ok true ⟨l1,H2⟩) (h3:elt ⟨l1,H2⟩= .ok y ⟨l1,H3⟩):bR bd tst elt lc v H= .ok (some y) H3:=by
 unfold bR;rw [h1];dsimp only;rw [h2,uB];dsimp only;rw [h3,uB]
theorem gN (h1:bd v ⟨lc,H⟩= .ok u ⟨l1,H⟩) (h2:tst ⟨l1,H⟩= .ok false ⟨l1,H2⟩):bR bd tst elt lc v H= .ok none H2:=by
 unfold bR;rw [h1];dsimp only;rw [h2,uB]
theorem yG {r:List V} {o:Option V} {ys:List V} (h:bR bd tst elt lc v H= .ok o H2) (hg:g H2) (h2:fh g bd tst elt lc r H2= .ok ys H3):fh g bd tst elt lc (v::r) H= .ok (o.toList++ys) H3:=by
 rw [ug,h];dsimp only;rw [if_pos hg,h2]
theorem qw {α β:Type} (φ : α→Option β) (x:α) (xs:List α):(φ x).toList++xs.filterMap φ = (x::xs).filterMap φ := by
 cases e : φ x with
 | none=>rw [List.filterMap_cons_none e];rfl
 | some z=>rw [List.filterMap_cons_some e];rfl
theorem fN (hg:g H) (φ : V→Option V):∀xs:List V,(∀x∈xs,bR bd tst elt lc x H= .ok (φ x) H)→fh g bd tst elt lc xs H= .ok (xs.filterMap φ) H
 | [],_=>rfl
 | x::xs,h=>by rw [yG (h x (.head _)) hg (fN hg φ xs fun z hz=>h z (.tail _ hz)),qw]
theorem fO {mi:Cm It} {it:It} {l:aY} {H1:Hp} {ys:List V} (h1:mi ⟨l,H⟩= .ok it ⟨l,H1⟩) (hl:it.xs.length≤1000000) (hc:fh it.g bd tst elt (dX caps l) it.xs H1= .ok ys H2) :
  be caps mi bd tst elt ⟨l,H⟩= .ok (.ref H2.length) ⟨l,H2++[.list ys]⟩:=by
 unfold be
 rw [dP h1]
 dsimp only
 rw [if_pos hl,hc]
theorem Bk {l:aY} {x:String} (h:x∈caps):dX caps l x=l x:=if_pos h
end
noncomputable def aR:List Bool→Option Nat
 | []=>none
 | false::_=>some 0
 | true::r=>(aR r).map (· + 1)
theorem fP:∀ {bs:List Bool} {j:Nat},aR bs=some j→j<bs.length∧bs[j]? = some false
 | [],_,e=>by cases e
 | false::r,_,e=>by cases e;exact ⟨by simp,rfl⟩
 | true::r,j,e=>by
  obtain ⟨k,h1,rfl⟩:=Option.map_eq_some_iff.mp e
  obtain ⟨h2,h3⟩:=fP h1
  exact ⟨by simp;exact h2,by simpa using h3⟩
noncomputable def gu (a:Int):List Bool→List Int
 | []=>[]
 | false::r=>a::gu (a+1) r
 | true::r=>gu (a+1) r
theorem nY:∀(bs:List Bool) (a:Int),(gu a bs).length+bs.count true=bs.length
 | [],_=>rfl
 | false::r,a=>by
  have:=nY r (a+1)
  rw [List.count_cons_of_ne ∅,List.length_cons,← this,Nat.add_right_comm];rfl
 | true::r,a=>by
  have:=nY r (a+1)
  rw [List.count_cons_self,List.length_cons,← this,← Nat.add_assoc];rfl
theorem wB:∀bs:List Bool,((bs.map PyData.bool).any fun y=>PyData.eqv y (.bool false))=(aR bs).isSome
 | []=>rfl
 | false::r=>rfl
 | true::r=>by
  rw [List.map_cons,List.any_cons,wB r]
  show (false||_)=((aR r).map (· + 1)).isSome
  rw [Option.isSome_map,Bool.false_or]
theorem wM:∀bs:List Bool,((bs.map PyData.bool).findIdx fun y=>PyData.eqv y (.bool false))=(aR bs).getD bs.length
 | []=>rfl
 | false::r=>by rw [List.map_cons,List.findIdx_cons];rfl
 | true::r=>by
  rw [List.map_cons,List.findIdx_cons,wM r]
  show (aR r).getD r.length+1=((aR r).map (· + 1)).getD (r.length+1)
  cases aR r<;>rfl
section
variable {H:Hp} {i:Nat} {bs:List Bool} {l:aY}
theorem uX (h:H[i]? = some (.list (bs.map .bool))):inV (.bool false) (.ref i) ⟨l,H⟩= .ok (aR bs).isSome ⟨l,H⟩:=by
 unfold inV ET;dsimp only;rw [h];dsimp only
 rw [oz,oA,Option.bind_some,Option.bind_some,jS,(q6 bs).shaped (by omega),wB];rfl
theorem o0 {j:Nat} (h:H[i]? = some (.list (bs.map .bool))) (hl:bs.length≤1000) (hj:aR bs=some j):rI (.ref i) (.bool false) ⟨l,H⟩= .ok (.int j) ⟨l,H⟩:=by
 have e:((bs.map PyData.bool).findIdx fun y=>PyData.eqv y (.bool false))=j:=by rw [wM,hj];rfl
 have hlt:=(fP hj).1
 unfold rI;dsimp only;rw [h];dsimp only;rw [oz,oA];dsimp only;rw [e]
 rw [if_pos ⟨⟨jS _,(q6 bs).shaped (by omega)⟩,by simp;exact bz 0xf4240a000003e8a0011 hl,by simpa using hlt⟩]
theorem gU {k:Int} {b:Bool} (h:H[i]? = some (.list (bs.map .bool))) (h0:0≤k) (h1:k<1000000) (hb:bs[k.toNat]? = some b):aj (.ref i) (.int k) ⟨l,H⟩= .ok (.bool b) ⟨l,H⟩:=by
 unfold aj;dsimp only;rw [h];dsimp only;rw [if_pos ⟨h0,h1⟩,List.getElem?_map,hb];rfl
theorem er {k:Int} {b:Bool} (h:H[i]? = some (.list (bs.map .bool))) (h0:0≤k) (h1:k<1000000) (hb:k<bs.length):bu (.ref i) (.int k) (.bool b) ⟨l,H⟩= .ok () ⟨l,H.set i (.list ((bs.set k.toNat b).map .bool))⟩:=by
 unfold bu;dsimp only;rw [h];dsimp only;rw [if_pos ⟨h0,h1,by rw [List.length_map];exact hb⟩,List.map_set]
theorem bY {xs:List V} (h:H[i]? = some (.list xs)) (hl:xs.length<1000000):fg [.ref i] ⟨l,H⟩= .ok (.int xs.length) ⟨l,H⟩:=by
 unfold fg;dsimp only;rw [h];exact if_pos hl
end
noncomputable def oS (bs:List Bool) (k:Int):Bool:=if 0≤k∧k<bs.length then (bs[k.toNat]?).getD false else false
noncomputable def GJ:V→Option V
 | .tup [.int i,.bool b]=>if b then none else some (.int i)
 | _=>none
theorem pD:∀(bs:List Bool) (a:Int),(fZ a (bs.map V.bool)).filterMap GJ=(gu a bs).map V.int
 | [],_=>rfl
 | true::r,a=>pD r (a+1)
 | false::r,a=>congrArg (V.int a :: ·) (pD r (a+1))
theorem un:∀(bs:List Bool) (a:Int) (x:V),x∈fZ a (bs.map V.bool)→ ∃i b,x= .tup [.int i,.bool b]
 | [],_,_,h=>by cases h
 | b::r,a,x,h=>by
  rw [List.map_cons,fZ] at h
  rcases List.mem_cons.mp h with rfl | h
  ·exact ⟨_,_,rfl⟩
  ·exact un r _ x h
noncomputable def GH:V→Option V
 | .bool true=>some (.bool true)
 | _=>none
theorem rN:∀bs:List Bool,(bs.map V.bool).filterMap GH=List.replicate (bs.count true) (V.bool true)
 | []=>rfl
 | true::r=>by rw [List.map_cons,List.filterMap_cons_some (by rfl),rN r,List.count_cons_self,List.replicate_succ]
 | false::r=>by rw [List.map_cons,List.filterMap_cons_none (by rfl),rN r,List.count_cons_of_ne ∅]
noncomputable def Ak (x:Int):List Int→List Int
 | []=>[x]
 | y::r=>if x≤y then x::y::r else y::Ak x r
noncomputable def dH:List Int→List Int
 | []=>[]
 | x::r=>Ak x (dH r)
theorem rJ (x:Int):∀l:List Int,(Ak x l).Perm (x::l)
 | []=> .refl _
 | y::r=>by
  unfold Ak
  split
  ·exact .refl _
  ·exact ((rJ x r).cons y).trans (.swap x y r)
theorem gG:∀l:List Int,(dH l).Perm l
 | []=> .refl _
 | x::r=>(rJ x _).trans ((gG r).cons x)
theorem sH (x:Int):∀ {l:List Int},l.Pairwise (· ≤ ·)→(Ak x l).Pairwise (· ≤ ·)
 | [],_=>by simp [Ak]
 | y::r,h=>by
  unfold Ak
  rw [List.pairwise_cons] at h
  split
  ·rename_i hxy
   refine List.pairwise_cons.mpr ⟨fun z hz=> ?_,List.pairwise_cons.mpr h⟩
   rcases List.mem_cons.mp hz with rfl | hz
   ·exact hxy
   ·exact Int.le_trans hxy (h.1 z hz)
  ·rename_i hxy
   refine List.pairwise_cons.mpr ⟨fun z hz=> ?_,sH x h.2⟩
   rcases List.mem_cons.mp ((rJ x r).mem_iff.mp hz) with rfl | hz
   ·exact ru 0x1810c11 hxy
   ·exact h.1 z hz
theorem q9:∀l:List Int,(dH l).Pairwise (· ≤ ·)
 | []=>by simp [dH]
 | x::r=>sH x (q9 r)
theorem va {a b:List Int} (p:a.Perm b) (h:a.Pairwise (· ≤ ·)):a=dH b:=lks_uniq (p.trans (gG b).symm) h (q9 b)
noncomputable def xT {α:Type} (lt:Nat→Nat→Bool):KasT α→α
 | .ret a=>a
 | .ask i j k=>xT lt (k (lt i j))
noncomputable def dh {α:Type} (P:Nat→Prop) (L:α→Prop):KasT α→Prop
 | .ret a=>L a
 | .ask i j k=>P i∧P j∧ ∀b,dh P L (k b)
theorem dh.bind {α β:Type} {P:Nat→Prop} {L:α→Prop} {L':β→Prop} {f:α→KasT β} (hf:∀a,L a→dh P L' (f a)):∀ {t:KasT α},dh P L t→dh P L' (t.bind f)
 | .ret a,h=>hf a h
 | .ask i j k,h=>⟨h.1,h.2.1,fun b=>dh.bind hf (h.2.2 b)⟩
theorem dh.run {α:Type} {P:Nat→Prop} {L:α→Prop} (lt:Nat→Nat→Bool):∀ {t:KasT α},dh P L t→L (xT lt t)
 | .ret a,h=>h
 | .ask i j k,h=>show L (xT lt (k (lt i j))) from dh.run lt (h.2.2 _)
theorem dh.wp {α:Type} {P:Nat→Prop} {L:α→Prop} {lt:Nat→Nat→Bool} {cmp:Nat→Nat→(Bool→Shared→Prop)→Shared→Prop} {s:Shared} {Q:α→Shared→Prop}
  (hc:∀i j (C:Bool→Shared→Prop),P i→P j→C (lt i j) s→cmp i j C s):∀ {t:KasT α},dh P L t→Q (xT lt t) s→t.kasWp cmp Q s
 | .ret a,_,hQ=>hQ
 | .ask i j k,h,hQ=>hc i j _ h.1 h.2.1 (dh.wp hc (h.2.2 _) hQ)
def Pm (n:Nat) (p:Array Nat):Prop:=p.toList.Perm (List.range n)
theorem Pm.ent {n:Nat} {p:Array Nat} (h:Pm n p) (hn:0<n) (i:Nat):p.getD i 0<n:=by
 unfold Array.getD
 split
 ·rename_i hi
  have:p[i]∈p.toList:=by simp
  exact List.mem_range.mp (h.mem_iff.mp this)
 ·exact hn
theorem Pm.rev {n:Nat} {p:Array Nat} (h:Pm n p) (i j:Nat):Pm n (kas_rev p i j):=(Array.perm_iff_toList_perm.mp (mirror_perm _ _ _ _)).trans h
theorem Pm.bub {n:Nat} {p:Array Nat} (h:Pm n p) (i j:Nat):Pm n (bubble p i j):=(Array.perm_iff_toList_perm.mp (bubble_perm _ _ _)).trans h
theorem ux {n:Nat} (hn:0<n) {p:Array Nat} (h:Pm n p):∀(f k:Nat),dh (· < n) (fun _=>True) (kas_asc p f k)
 | 0,k=>trivial
 | f+1,k=>⟨h.ent hn _,h.ent hn _,fun b=>by
  cases b with
  | true=>exact trivial
  | false=>exact ux hn h f (k+1)⟩
theorem nZ {n:Nat} (hn:0<n):∀(f:Nat) (p:Array Nat) (k q:Nat),Pm n p→dh (· < n) (fun r=>Pm n r.1) (kas_desc f p k q)
 | 0,p,k,q,h=>h
 | f+1,p,k,q,h=>by
  refine ⟨h.ent hn _,h.ent hn _,fun b=> ?_⟩
  cases b with
  | true =>
   show dh _ _ (if q>0 then _ else _)
   split
   ·exact nZ hn f _ _ _ (h.rev _ _)
   ·exact nZ hn f _ _ _ h
  | false =>
   refine ⟨h.ent hn _,h.ent hn _,fun d=> ?_⟩
   cases d with
   | true=>exact h
   | false=>exact nZ hn f _ _ _ h
theorem uy {n:Nat} (hn:0<n) (k r:Nat) {p:Array Nat} (h:Pm n p):dh (· < n) (fun r=>Pm n r.2) (kas_tail3 k r p) :=
 by
 unfold kas_tail3
 refine dh.bind (L:=fun _=>True) (f:=fun m=>KasT.ret (m,kas_rev p 0 k)) (fun _ _=> ?_) (ux hn (h.rev _ _) _ _)
 show Pm n _
 exact h.rev _ _
theorem oU {n:Nat} (hn:0<n) (k r:Nat) {p:Array Nat} (h:Pm n p):dh (· < n) (fun r=>Pm n r.2) (kas_descPart k r p):=by
 refine dh.bind (fun a ha=> ?_) (nZ hn _ p _ _ h)
 split
 ·exact uy hn _ _ (Pm.rev ha _ _)
 ·exact uy hn _ _ ha
theorem Ab {n:Nat} (hn:0<n) (r:Nat) {p:Array Nat} (h:Pm n p):dh (· < n) (fun r=>Pm n r.2) (kas_count r p):=by
 refine dh.bind (fun k _=> ?_) (ux hn h _ _)
 split
 ·exact h
 ·split
  ·refine ⟨h.ent hn _,h.ent hn _,fun b=> ?_⟩
   cases b with
   | true=>exact h
   | false=>exact oU hn _ _ (h.rev _ _)
  ·exact oU hn _ _ h
theorem pK {n:Nat} (hn:0<n) {p:Array Nat} (h:Pm n p) (k:Nat):∀(f l r:Nat),dh (· < n) (fun _=>True) (kas_place p k f l r)
 | 0,l,r=>trivial
 | f+1,l,r=>by
  unfold kas_place
  split
  ·trivial
  ·refine ⟨h.ent hn _,h.ent hn _,fun b=> ?_⟩
   cases b with
   | true=>exact pK hn h k f _ _
   | false=>exact pK hn h k f _ _
theorem yV {n:Nat} (hn:0<n):∀(f:Nat) (p:Array Nat) (k:Nat),Pm n p→dh (· < n) (Pm n) (kas_bin f p k)
 | 0,p,k,h=>h
 | f+1,p,k,h=>dh.bind (fun l _=>yV hn f _ _ (h.bub _ _)) (pK hn h k _ _ _)
theorem rH {n:Nat} (hn:0<n):dh (· < n) (Pm n) (kas_sort n):=by
 refine dh.bind (fun r hr=> ?_) (Ab hn n (p:=List.toArray (List.range n)) (by unfold Pm;exact List.Perm.refl _))
 split
 ·exact yV hn _ _ _ hr
 ·exact hr
noncomputable def kK (a b:Int×Int):Bool:=if a.1==b.1 then decide (a.2<b.2) else decide (a.1<b.1)
noncomputable def nt (ps:List (Int×Int)):List (Int×Int) :=
 if ps.length<2 then ps else (xT (fun i j=>kK (ps.getD i (0,0)) (ps.getD j (0,0))) (kas_sort ps.length)).toList.map fun i=>ps.getD i (0,0)
theorem Ax {α:Type} (d:α):∀l:List α,(List.range l.length).map (fun i=>l.getD i d)=l:=fun l=>by
 apply List.ext_getElem?
 intro i
 by_cases h:i<l.length
 ·simp [h]
 ·simp [h]
theorem vc (ps:List (Int×Int)):(nt ps).Perm ps:=by
 unfold nt
 split
 ·exact .refl _
 ·rename_i h
  have hp:=(rH (n:=ps.length) (by omega)).run (fun i j=>kK (ps.getD i (0,0)) (ps.getD j (0,0)))
  have:=List.Perm.map (fun i=>ps.getD i (0,0)) hp
  rwa [Ax] at this
noncomputable def sI:V→Option Int
 | .int i=>some i
 | _=>none
noncomputable def aE (p:Int×Int):V:= .tup [.int p.1,.int p.2]
noncomputable def BY:V→Option (Int×Int)
 | .tup [.int a,.int b]=>some (a,b)
 | _=>none
theorem pN:∀ns:List Int,dw sI (ns.map V.int)=some ns
 | []=>rfl
 | n::ns=>by
  show (some n).bind (fun d=>(dw sI (ns.map V.int)).map (d :: ·))=_
  rw [pN ns];rfl
theorem wV:∀ps:List (Int×Int),dw BY (ps.map aE)=some ps
 | []=>rfl
 | p::ps=>by
  show (some p).bind (fun d=>(dw BY (ps.map aE)).map (d :: ·))=_
  rw [wV ps];rfl
theorem rK:∀ {xs:List V} {ns:List Int},dw sI xs=some ns→xs=ns.map V.int
 | [],_,e=>by cases e;rfl
 | x::xs,ns,e=>by
  obtain ⟨d,h1,h2⟩:=Option.bind_eq_some_iff.mp e
  obtain ⟨ds,h3,rfl⟩:=Option.map_eq_some_iff.mp h2
  cases x with
  | int i=>cases h1;rw [List.map_cons,rK h3]
  | _=>cases h1
theorem Eu {x:V} {p:Int×Int} (e:BY x=some p):x=aE p:=by
 cases x with
 | tup l =>
  cases l with
  | nil=>cases e
  | cons a l =>
  cases a with
  | int a =>
   cases l with
   | nil=>cases e
   | cons b l =>
   cases b with
   | int b =>
    cases l with
    | nil=>cases e;rfl
    | cons _ _=>cases e
   | _=>cases e
  | _=>cases e
 | _=>cases e
theorem zl:∀ {xs:List V} {ps:List (Int×Int)},dw BY xs=some ps→xs=ps.map aE
 | [],_,e=>by cases e;rfl
 | x::xs,ns,e=>by
  obtain ⟨d,h1,h2⟩:=Option.bind_eq_some_iff.mp e
  obtain ⟨ds,h3,rfl⟩:=Option.map_eq_some_iff.mp h2
  rw [List.map_cons,zl h3,Eu h1]
noncomputable def bn:List V→Cm V
 | [.ref i]=>fun q=>(match q.H[i]? with
  | some (.dict es)=>if es.length<64 then .ok (.ref q.H.length) { q with H:=q.H++[.list ((dH (es.map (·.1))).map V.int)] } else .stuck
  | some (.list xs)=>(match dw sI xs with
   | some ns=>if ns.length<64 then .ok (.ref q.H.length) { q with H:=q.H++[.list ((dH ns).map V.int)] } else .stuck
   | none=>(match dw BY xs with
    | some ps=>if ps.length<64 then .ok (.ref q.H.length) { q with H:=q.H++[.list ((nt ps).map aE)] } else .stuck
    | none=> .stuck))
  | _=> .stuck)
 | _=> .stk
section
variable {hq:Bool} {k:Nat} {env:Env} {A:Around} {ι ι':List Addr} {q q':S} {s s':Shared} {H H':Hp} {h:Heap}
theorem qg:∀ {ns:List Int} {vs:List Value},aN ι h (ns.map V.int) vs→IntsAre vs ns
 | [],_,e=>by rw [show _=[] from e];exact .nil
 | n::ns,_,z2=>by obtain ⟨v,vs',e,⟨t,r⟩,b⟩:=z2;subst e;subst r;exact .cons n t (qg b)
theorem sY {h1:Heap} {vs:List Value} {out:Array Value} (hk:s.heap.StaysIn h1) :
  s.heap.StaysIn (sortedHeap (h1.push (seqObj "list" vs.toArray 0)) h1.objs.size vs out)∧ ∃e,(sortedHeap (h1.push (seqObj "list" vs.toArray 0)) h1.objs.size vs out).get? h1.objs.size=some (seqObj "list" out e):=by
 refine ⟨fun b o e=> ?_,sortedHeap_at (n:=0) (Heap.get?_push_size _ rfl)⟩
 have hb:=hk b o e
 have hlt:=Heap.lt_size hb
 rw [sortedHeap_old (Nat.ne_of_lt hlt) (by rw [size_push'];exact Nat.lt_succ_of_lt hlt)]
 exact Heap.get?_push_of_some _ hb
theorem aQ.sortedI {ns:List Int} {T:PT Value} (R:cC A env ι q s)
  (hT:∀Q E,(∀h1 tk vs out ns',s.heap.StaysIn h1→IntsAre (Array.toList out) ns'→ns'.Perm ns→ns'.Pairwise (· ≤ ·)→Q (.ref h1.objs.size) { s with heap:=sortedHeap (h1.push (seqObj "list" (List.toArray vs) 0)) h1.objs.size vs out,toks:=tk })→T Q E s) :
  aQ A env ι s (.ok (.ref q.H.length) { q with H:=q.H++[.list ((dH ns).map V.int)] }) (aK) T:=fun Q E hQ=>by
 refine hT Q E fun h1 tk vs out ns' hk hI hp hs=> ?_
 obtain ⟨st,e,he⟩:=sY (vs:=vs) (out:=out) hk
 obtain rfl:=va hp hs
 have hn:s.heap.get? h1.objs.size=none:=by
  cases hx:s.heap.get? h1.objs.size with
  | none=>rfl
  | some o=>exact absurd (Heap.lt_size (hk _ _ hx)) (Nat.lt_irrefl _)
 refine hQ _ _ _ (aU.alloc R st hn ⟨out.toList,⟨e,by rw [Array.toArray_toList];exact he⟩,?_⟩) (jC R.st _)
 exact pO hI
theorem nX:∀ {es:List (Int×V)} {kvs:List (Int×Value)},kq ι h es kvs→kvs.map (·.1)=es.map (·.1)
 | [],_,x=>by rw [show _=[] from x];rfl
 | _::_,_,z2=>by obtain ⟨v,vs',q,_,b⟩:=z2;subst q;simp [nX b]
theorem pP:∀ {kvs:List (Int×Value)} {vs:List Value},vs.length=kvs.length→(∀(j:Nat) (v:Value),vs[j]? = some v→ ∃k x,kvs[j]? = some (k,x)∧(intKind G.prog G.w).is k v=true)→IntsAre vs (kvs.map (·.1))
 | [],[],_,_=> .nil
 | [],_::_,e,_=>by simp at e
 | _::_,[],e,_=>by simp at e
 | (k,x)::kvs,v::vs,e,h=>by
  obtain ⟨k',x',h1,h2⟩:=h 0 v rfl
  simp at h1
  obtain ⟨rfl,rfl⟩:=h1
  obtain ⟨t,rfl⟩:=Value.isInt_shape h2
  exact .cons _ t (pP (by simpa using e) fun j u hu=>by simpa using h (j+1) u (by simpa using hu))
theorem te {a:Addr} {vs:List Value} {n:Nat} {P:PySem.Fin→Shared→Prop} {E:Value→Shared→Prop} {ps:List (Int×Int)} (ho:s.heap.get? a=some (seqObj "list" vs.toArray n)) (hv:aN ι s.heap (ps.map aE) vs)
  (ha:∀(b:Addr) (xs:Array Value),IsTup s.heap b xs→b≠a) (h64:vs.length<64)
  (hP:∀out:Array Value,aN ι s.heap ((nt ps).map aE) out.toList→P (.done (.ret .none)) { s with heap:=sortedHeap s.heap a vs out }) :
  wpAny G.M A (Builtin.«list.sort» ⟨[.ref a],[]⟩) P E s:=by
 rw [list_sort_plain]
 have hlt:a<s.heap.objs.size:=Heap.lt_size ho
 refine wpAny_bind (listItems_at ho rfl ?_)
 refine wpAny_bind (listUpdate_at ho rfl ?_)
 obtain ⟨e1,ho1⟩:∃e1,(s.heap.update a (Obj.mapSeq fun _ => #[])).get? a=some (seqObj "list" #[] e1):=⟨_,get?_update_seq ho (fun _ => #[])⟩
 refine wpAny_bind (seqEpoch_at ho1 rfl ?_)
 refine wpAny_bind (wpAny_newTuple ?_)
 refine wpAny_bind (wpAny_newList ?_)
 refine wpAny_holding ?_
 have ho6:(((s.heap.update a (Obj.mapSeq fun _ => #[])).push (seqObj "tuple" vs.toArray 0)).push (seqObj "list" #[] 0)).get? a=some (seqObj "list" #[] e1):=by
  rw [Heap.get?_push_ne _ _ _ (by rw [size_push',Heap.size_update];exact Nat.ne_of_lt (Nat.lt_succ_of_lt hlt)),Heap.get?_push_ne _ _ _ (by rw [Heap.size_update];exact Nat.ne_of_lt hlt)]
  exact ho1
 show wpAny G.M A _ P E { s with heap:=((s.heap.update a (Obj.mapSeq fun _ => #[])).push (seqObj "tuple" vs.toArray 0)).push (seqObj "list" #[] 0) }
 generalize hh6:(((s.heap.update a (Obj.mapSeq fun _ => #[])).push (seqObj "tuple" vs.toArray 0)).push (seqObj "list" #[] 0))=h6 at ho6 ⊢
 have kp:∀b o,b≠a→s.heap.get? b=some o→h6.get? b=some o:=fun b o hb e=>by
  rw [← hh6]
  refine Heap.get?_push_of_some _ (Heap.get?_push_of_some _ ?_)
  rw [Heap.get?_update_ne _ _ _ _ hb];exact e
 dsimp only
 have hsz:vs.toArray.size=vs.length:=by simp
 have hlen:vs.length=ps.length:=by rw [hv.length];simp
 have td:∀out:Array Value,h6.update a (Obj.mapSeq fun _=>out)=sortedHeap s.heap a vs out:=fun out=>by rw [← hh6];rfl
 by_cases h2:vs.toArray.size<2
 ·rw [if_pos h2,if_pos h2]
  refine wpAny_bind (wpAny_pure ?_)
  rw [StateT.run_pure]
  refine wpAny_bind (wpAny_pure ?_)
  dsimp only
  refine wpAny_bind (seqEpoch_at (s:={ s with heap:=h6 }) ho6 rfl ?_)
  refine wpAny_bind (listUpdate_at (s:={ s with heap:=h6 }) ho6 rfl ?_ (hsz2:=by rw [Array.size_map];show (pairsOf vs).size≤_;rw [pairsOf_size,sizeLine_eq];exact bz 0x190bc00000040a0111 h64))
  simp only [bne_self_eq_false,Bool.false_eq_true,if_false]
  refine wpAny_pure ?_
  have hout:(arrOf (SortSt.mk' general' (vs.toArray.zip vs.toArray) #[] 7 none)).map (·.2)=vs.toArray:=by
   show (vs.toArray.zip vs.toArray).map (·.2)=vs.toArray
   apply Array.toList_inj.mp
   simp [List.map_snd_zip]
  rw [hout]
  show P _ { s with heap:=h6.update a (Obj.mapSeq fun _=>vs.toArray) }
  rw [td]
  refine hP vs.toArray ?_
  unfold nt
  rw [if_pos (by rw [← hlen,← hsz];exact h2)]
  simpa using hv
 ·rw [if_neg h2,if_neg h2]
  have h2':2≤vs.length:=by rw [hsz] at h2;exact bz 0x290290511 h2
  have item:∀i,i<ps.length→ ∃x t u,vs.getD i Value.none= .ref x∧IsTup h6 x #[.int (ps.getD i (0,0)).1 t,.int (ps.getD i (0,0)).2 u]:=fun i hi=>by
   obtain ⟨cv,c1,c2⟩:=hv.get (i:=i) (v:=aE ps[i]) (by simp [hi])
   obtain ⟨x,ws,rfl,ht,v1,ws1,rfl,⟨t,rfl⟩,v2,ws2,rfl,⟨u,rfl⟩,e⟩:=c2
   rw [show ws2=[] from e] at ht
   have hg:ps.getD i (0,0)=ps[i]:=by simp [hi]
   refine ⟨x,t,u,by simp [List.getD,c1],?_⟩
   rw [hg]
   obtain ⟨o,e1,e2,m,e3⟩:=ht
   exact ⟨o,kp x o (ha x _ ⟨o,e1,e2,m,e3⟩) e1,e2,m,e3⟩
  have tups:∀(l:List (Int×Int)) (ws:List Value),aN ι s.heap (l.map aE) ws→ ∃fs,KatTups h6 ws fs∧fs.length=l.length∧ ∀v∈fs,∃i t,v= .int i t:=fun l=>by
   induction l with
   | nil=>exact fun ws e=>by rw [show ws=[] from e];exact ⟨[],trivial,rfl,by simp⟩
   | cons p l ih =>
    rintro ws ⟨v,ws',rfl,hvp,hrest⟩
    obtain ⟨fs,f1,f2,f3⟩:=ih ws' hrest
    obtain ⟨x,us,rfl,ht,v1,us1,rfl,⟨t,rfl⟩,v2,us2,rfl,⟨u,rfl⟩,e⟩:=hvp
    rw [show us2=[] from e] at ht
    obtain ⟨o,e1,e2,m,e3⟩:=ht
    refine ⟨.int p.1 t::fs,KatTups.cons (kp x o (ha x _ ⟨o,e1,e2,m,e3⟩) e1) e2 e3 (by simp) f1,by simp [f2],fun v hv=> ?_⟩
    rcases List.mem_cons.mp hv with rfl | hv
    ·exact ⟨_,_,rfl⟩
    ·exact f3 v hv
  obtain ⟨fs,f1,f2,f3⟩:=tups ps vs hv
  refine wpAny_bind (kat_kind (s:={ s with heap:=h6 }) (T:= .type "int") f1 (by omega) (fun v hv=>by obtain ⟨i,t,rfl⟩:=f3 v hv;exact .now) rfl ?_)
  refine wpAny_bind (wpAny_mono (kat_run (s:={ s with heap:=h6 }) (κ:=tuples' (Value.type "int" != Value.type "tuple")) (Q:=fun st' s'=>s'={ s with heap:=h6 }∧failedOf st'=none∧(arrOf st').map (·.2)=List.toArray ((xT (fun i j=>kK (ps.getD i (0,0)) (ps.getD j (0,0))) (kas_sort ps.length)).toList.map fun i=>vs.getD i Value.none))
   (G:=fun p s'=>s'={ s with heap:=h6 }∧p=xT (fun i j=>kK (ps.getD i (0,0)) (ps.getD j (0,0))) (kas_sort ps.length)) (ks:=vs) rfl h2' h64 (fun p st' s' hp har hf hg=>⟨hg.1,hf,by rw [← hg.2];exact kat_snds rfl har⟩) ?_) ?_ fun _ _ e=>e)
  ·rw [hlen]
   refine dh.wp (L:=Pm ps.length) (lt:=fun i j=>kK (ps.getD i (0,0)) (ps.getD j (0,0))) (fun i j C hi hj hC=> ?_) (rH (by omega)) ⟨rfl,rfl⟩
   obtain ⟨x,t,u,ex,o,ox,oc,m,od⟩:=item i hi
   obtain ⟨y,t',u',ey,o',oy,oc',m',od'⟩:=item j hj
   show wpAny G.M A (keyLt' _ (vs.getD i Value.none) (vs.getD j Value.none)) C (fun _ _=>False) _
   rw [ex,ey]
   refine kat_lt ox od oy od' ?_
   show KatLex _ _ _ _ _ _ [(_,_),(_,_)] 0 _
   refine kat_cons (wpAny_eqBool_int (kat_go (fun e1=> ?_) fun e1=> ?_))
   ·refine kat_yes (kat_cons (wpAny_eqBool_int (kat_go (fun e2=> ?_) fun e2=> ?_)))
    ·refine kat_yes (kat_nil ?_)
     have:kK (ps.getD i (0,0)) (ps.getD j (0,0))=false:=by
      unfold kK;rw [if_pos e1];have:=beq_iff_eq.mp e2;rw [this];simp
     rw [this] at hC
     simpa using hC
    ·refine kat_no ?_
     have:kK (ps.getD i (0,0)) (ps.getD j (0,0))=decide ((ps.getD i (0,0)).2<(ps.getD j (0,0)).2):=by unfold kK;rw [if_pos e1]
     rw [this] at hC
     exact kat_one _ _ (PySem.P.lt_int hC)
   ·refine kat_no ?_
    have:kK (ps.getD i (0,0)) (ps.getD j (0,0))=decide ((ps.getD i (0,0)).1<(ps.getD j (0,0)).1):=by unfold kK;rw [if_neg (by rw [e1];simp)]
    rw [this] at hC
    exact oneLt_int hC
  ·rintro ⟨⟨⟩,st'⟩ s' ⟨rfl,hf,hout⟩
   dsimp only at hf hout ⊢
   rw [hout]
   have hpm:Pm ps.length (xT (fun i j=>kK (ps.getD i (0,0)) (ps.getD j (0,0))) (kas_sort ps.length)):=(rH (by omega)).run _
   generalize hrun:xT (fun i j=>kK (ps.getD i (0,0)) (ps.getD j (0,0))) (kas_sort ps.length)=pp at hpm
   refine wpAny_bind (seqEpoch_at (s:={ s with heap:=h6 }) ho6 rfl ?_)
   refine wpAny_bind (listUpdate_at (s:={ s with heap:=h6 }) ho6 rfl ?_ (hsz2:=by rw [List.size_toArray,List.length_map,hpm.length_eq,List.length_range,sizeLine_eq];exact b0 0x190bc101031000040a0112 h64 hlen))
   rw [hf]
   simp only [bne_self_eq_false,Bool.false_eq_true,if_false]
   refine wpAny_pure ?_
   show P _ { s with heap:=h6.update a (Obj.mapSeq fun _=>List.toArray (pp.toList.map fun i=>vs.getD i Value.none)) }
   rw [td]
   refine hP _ ?_
   unfold nt
   rw [if_neg (by exact b0 0x29150290110212 hlen h2'),hrun]
   have:∀is:List Nat,(∀i∈is,i<ps.length)→aN ι s.heap ((is.map fun i=>ps.getD i (0,0)).map aE) (is.map fun i=>vs.getD i Value.none):=fun is=>by
    induction is with
    | nil=>exact fun _=>vG
    | cons i is ih =>
     intro hi
     have hlt:=hi i (.head _)
     obtain ⟨cv,c1,c2⟩:=hv.get (i:=i) (v:=aE ps[i]) (by simp [hlt])
     refine nS ?_ (ih fun j hj=>hi j (.tail _ hj))
     show aK ι s.heap (aE (ps.getD i (0,0))) (vs.getD i Value.none)
     rw [show ps.getD i (0,0)=ps[i] by simp [hlt],show vs.getD i Value.none=cv by simp [List.getD,c1]]
     exact c2
   exact this _ fun i hi=>List.mem_range.mp (hpm.mem_iff.mp hi)
end
noncomputable def gY (ns:List Int):Int:=preSum (fun i=>ns.getD i 0) ns.length
theorem zB:gY []=0:=rfl
theorem kR (n:Int) (ns:List Int):gY (n::ns)=n+gY ns:=by
 unfold gY
 rw [List.length_cons,kdu_shift]
 rfl
noncomputable def zC:List V→Cm V
 | [.ref i]=>fun q=>(match q.H[i]? with
  | some (.list xs)=>(match dw sI xs with
   | some ns=>if ns.length≤1000000 then .ok (.int (gY ns)) q else .stuck
   | none=> .stuck)
  | _=> .stuck)
 | _=> .stk
section
variable {hq:Bool} {k:Nat} {env:Env} {A:Around} {ι ι':List Addr} {q q':S} {s s':Shared} {H H':Hp} {h:Heap}
theorem yX {vs:List Value} {ns:List Int} (hI:IntsAre vs ns):∀(i:Nat) (v:Value),vs[i]? = some v→ ∃t,v= .int (ns.getD i 0) t:=by
 induction hI with
 | nil=>intro i v e;simp at e
 | cons n t r ih =>
  intro i v e
  cases i with
  | zero=>simp at e;exact ⟨t,by rw [← e];rfl⟩
  | succ i=>simpa using ih i v (by simpa using e)
theorem Cy (hh:A.handled=none) (R:cC A env ι q s) {vs:List V} {cvs:List Value} (hv:aN ι s.heap vs cvs):aQ A env ι s (zC vs q) (aK) (kZ A (call (.builtin "sum") cvs)):=by
 cases vs with
 | nil=>trivial
 | cons v vs =>
 cases vs with
 | cons _ _=>cases v<;>trivial
 | nil =>
 cases v with
 | ref i =>
  obtain ⟨cv,_,rfl,⟨a,hi,rfl⟩,e⟩:=hv;rw [show _=[] from e]
  unfold zC;dsimp only
  cases hx:q.H[i]? with
  | none=>trivial
  | some o =>
  cases o with
  | list xs =>
   dsimp only
   cases hn:dw sI xs with
   | none=>trivial
   | some ns =>
    dsimp only
    split
    ·rename_i hl
     obtain rfl:=rK hn
     obtain ⟨a1,n1,ws,g1,g2,g3⟩:=R.st.list hx
     obtain rfl:a=a1:=Option.some.inj (hi.symm.trans g1)
     have hI:=qg g3
     have hL:s.heap.IsList a ws.toArray:=⟨_,g2,rfl,n1,rfl⟩
     have hlt:a<s.heap.objs.size:=Heap.lt_size g2
     intro Q E hQ
     refine call_sum_walkAnyS (wpAny_pyIter_list hL ?_)
     refine ⟨s.heap.objs.size,_,_,_,_,_,_,fun i=>ns.getD i 0,rfl,(Walks.list (prog:=G.prog) (w:=G.w) (A:=A.in1) hh s.heap.objs.size a (Nat.ne_of_lt hlt) ws.toArray).toS,⟨⟨_,Heap.get?_push_size _ rfl,rfl,rfl⟩,⟨_,Heap.get?_push_of_some _ g2,rfl,n1,rfl⟩⟩,fun b hb=> ?_,fun i v e=> ?_,fun s' t' hm=> ?_⟩
     ·show b<(s.heap.push _).objs.size
      rw [Heap.size_push]
      rcases List.mem_cons.mp hb with e | hb
      ·rw [e];exact Nat.lt_succ_self _
      ·rw [List.mem_singleton.mp hb];exact Nat.lt_succ_of_lt hlt
     ·exact yX hI i v (by simpa using e)
     ·have hk:s.heap.StaysIn s'.heap:=fun b o e =>
       hm.heap b o (fun hI=>absurd (Heap.lt_size e) (by rw [List.mem_singleton.mp hI];exact Nat.lt_irrefl _)) (Heap.get?_push_of_some _ e)
      have hlen:ws.toArray.size=ns.length:=by rw [List.size_toArray,IntsAre.length hI]
      rw [Moved.eq_with hm,hlen]
      exact hQ ι _ _ (aU.stays (tk:=s'.toks) R hk) ⟨t',rfl⟩
    ·trivial
  | _=>trivial
 | _=>trivial
theorem AE {h1:Heap} {vs:List Value} {out:Array Value}:oG (h1.push (seqObj "list" vs.toArray 0)) (sortedHeap (h1.push (seqObj "list" vs.toArray 0)) h1.objs.size vs out):=fun b o e hmu=>by
 by_cases hb:b=h1.objs.size
 ·subst hb
  have:(h1.push (seqObj "list" vs.toArray 0)).get? h1.objs.size=some (seqObj "list" vs.toArray 0):=Heap.get?_push_size _ rfl
  rw [this] at e;cases e
  exact absurd (.inl ⟨"list",rfl,by decide⟩) hmu
 ·exact ⟨o.slots,by rw [sortedHeap_old hb (Heap.lt_size e)];exact e⟩
theorem cT (C:bA G) (hh:A.handled=none) (R:cC A env ι q s) {vs:List V} {cvs:List Value} (hv:aN ι s.heap vs cvs):aQ A env ι s (bn vs q) (aK) (kZ A (call (.builtin "sorted") cvs)):=by
 cases vs with
 | nil=>trivial
 | cons v vs =>
 cases vs with
 | cons _ _=>cases v<;>trivial
 | nil =>
 cases v with
 | ref i =>
  obtain ⟨cv,_,rfl,⟨a,hi,rfl⟩,e⟩:=hv;rw [show _=[] from e]
  unfold bn;dsimp only
  cases hx:q.H[i]? with
  | none=>trivial
  | some o =>
  cases o with
  | dict es =>
   dsimp only
   split
   ·rename_i hl
    obtain ⟨a1,kvs,g1,g2,g3⟩:=R.st.dict hx
    obtain rfl:a=a1:=Option.some.inj (hi.symm.trans g1)
    have hm:=mZ C R.st (List.mem_of_getElem? g1)
    have hlen:kvs.length=es.length:=by have:=congrArg List.length (nX g3);simpa using this
    obtain ⟨ep,hat⟩:=g2.dictAt
    refine aQ.sortedI (ns:=es.map (·.1)) R fun Q E hQ=> ?_
    refine Calls.call_function_entry kind_sorted plain_sorted entry_sorted (args_sorted1 _) ?_
    unfold Builtin.«sorted»
    refine wpAny_bind (m:=checkCount "sorted" 1 1 _) (wpAny_pure ?_)
    refine wpAny_bind (kdu_collect (A:=A.in1) (kdl_dict (knd:=intKind G.prog G.w) (kvs:=kvs) (ep:=ep) hm) hh hat (by rw [hlen,sizeLine_eq];exact bz 0xb00000040a0111 hl) fun h1 tk acc hk hacc=> ?_)
    have hI:IntsAre acc.toList (es.map (·.1)):=by
     rw [← nX g3]
     exact pP (by rw [Array.length_toList];exact hacc.1) fun j v e=>hacc.2 j v (by rw [← Array.getElem?_toList];exact e)
    have hal:acc.toList.length<64:=by rw [Array.length_toList,hacc.1,hlen];exact hl
    refine wpAny_bind (wpAny_newList ?_ (by rw [sizeLine_eq];exact bz 0xb00000040a0111 hal))
    have hoL:(h1.push (seqObj "list" acc.toList.toArray 0)).get? h1.objs.size=some (seqObj "list" acc.toList.toArray 0):=Heap.get?_push_size _ rfl
    refine wpAny_bind (wpAny_holding (wpAny_call_entry slot_list_sort ⟨_,hoL,rfl⟩ entry_list_sort (list_sort_tree (s:={ s with heap:=h1.push (seqObj "list" acc.toList.toArray 0),toks:=tk }) hoL hI hal fun out ns' a1 a2 a3=>⟨_,rfl,?_⟩) (args_list_sort _)))
    exact wpAny_pure ⟨_,rfl,hQ h1 tk acc.toList out ns' hk a1 a2 a3⟩
   ·trivial
  | list xs =>
   obtain ⟨a1,n1,ws,g1,g2,g3⟩:=R.st.list hx
   obtain rfl:a=a1:=Option.some.inj (hi.symm.trans g1)
   have hL:s.heap.IsList a ws.toArray:=⟨_,g2,rfl,n1,rfl⟩
   have hk1:s.heap.StaysIn ((s.heap.push (seqObj "list" #[] 0)).update s.heap.objs.size (Obj.mapSeq (· ++ ws.toArray))):=fun b o e=>by
    rw [Heap.get?_update_ne _ _ _ _ (Nat.ne_of_lt (Heap.lt_size e))];exact Heap.get?_push_of_some _ e
   have hs1:((s.heap.push (seqObj "list" #[] 0)).update s.heap.objs.size (Obj.mapSeq (· ++ ws.toArray))).objs.size=s.heap.objs.size+1:=by rw [Heap.size_update,size_push']
   dsimp only
   cases hn:dw sI xs with
   | some ns =>
    dsimp only
    split
    ·rename_i hl
     obtain rfl:=rK hn
     have hI:=qg g3
     refine aQ.sortedI (ns:=ns) R fun Q E hQ=>sorted_ints hL hI (by rw [IntsAre.length hI];exact hl) fun out ns' a1 a2 a3=> ?_
     have:=hQ _ s.toks ws out ns' hk1 a1 a2 a3
     rw [hs1] at this
     exact this
    ·trivial
   | none =>
    dsimp only
    cases hp:dw BY xs with
    | none=>trivial
    | some ps =>
     dsimp only
     split
     ·rename_i hl
      obtain rfl:=zl hp
      have hwl:ws.length=ps.length:=by rw [g3.length];simp
      intro Q E hQ
      refine Calls.call_function_entry kind_sorted plain_sorted entry_sorted (args_sorted1 _) ?_
      unfold Builtin.«sorted»
      refine wpAny_bind (m:=checkCount "sorted" 1 1 _) (wpAny_pure ?_)
      refine wpAny_bind (collect_list hL ?_ (by rw [sizeLine_eq];exact b0 0xb100121000040a0112 hl hwl))
      refine wpAny_bind (wpAny_newList ?_ (by rw [sizeLine_eq];exact b0 0xb100121000040a0112 hl hwl))
      generalize hh1:(s.heap.push (seqObj "list" #[] 0)).update s.heap.objs.size (Obj.mapSeq (· ++ ws.toArray))=h1 at hk1 hs1
      have hoL:(h1.push (seqObj "list" ws.toArray 0)).get? h1.objs.size=some (seqObj "list" ws.toArray 0):=Heap.get?_push_size _ rfl
      have hk2:s.heap.StaysIn (h1.push (seqObj "list" ws.toArray 0)):=fun b o e=>Heap.get?_push_of_some _ (hk1 b o e)
      show wpAny _ _ _ _ _ { s with heap:=h1.push (seqObj "list" ws.toArray 0) }
      refine wpAny_bind (wpAny_holding (wpAny_call_entry slot_list_sort ⟨_,hoL,rfl⟩ entry_list_sort (te (s:={ s with heap:=h1.push (seqObj "list" ws.toArray 0) }) (ι:=ι) hoL (g3.mono (List.prefix_refl _) (.of_stays hk2)) (fun b xs ht e=> ?_) (by rw [hwl];exact hl) fun out hvr=>⟨_,rfl,?_⟩) (args_list_sort _)))
      ·obtain ⟨o,e1,e2,_⟩:=ht
       rw [e,hoL] at e1;cases e1
       exact absurd (show Value.type "list" = Value.type "tuple" from e2) ∅
      ·refine wpAny_pure ⟨_,rfl,?_⟩
       obtain ⟨st,e,he⟩:=sY (vs:=ws) (out:=out) hk1
       have hn:s.heap.get? h1.objs.size=none:=Heap.get?_none_of_le (by rw [hs1];exact Nat.le_succ _)
       refine hQ _ _ _ (aU.alloc (tk:=s.toks) R st hn ⟨out.toList,⟨e,by rw [Array.toArray_toList];exact he⟩,?_⟩) (jC R.st _)
       exact hvr.mono (List.prefix_append _ _) AE
     ·trivial
  | _=>trivial
 | _=>trivial
theorem BC {elts:List Expr} {kk:Nat} {tpos pos:Pos} {e:Expr} {m:Cm V} {bd:V→Cm Unit} (h1:Ev hq k env e m) (hb:sy hq k env (.Tuple elts kk tpos) bd)
  (hs:swapsWithSole [.Tuple elts kk tpos] e pos.line env=pure false) (hw:swappedStores [.Tuple elts kk tpos] e env=pure none) :
  Ex hq k env (.Assign [.Tuple elts kk tpos] e pos) (m.b fun v=>(bd v).b fun _=> .p .next) :=
 fun A ι q s ha R=>(aQ.b (T':=fun v Q E s₁=>wpAny G.M A (assign (.Tuple elts kk tpos) env v) (fun _=>Q .next) E s₁) (h1 A ι q s ha R) fun a q' ι' b s' _ P hv =>
  aQ.b (T':=fun _ Q E s₁=>Q Flow.next s₁) (hb A ι' q' s' a b ha P.rel hv) fun a2 q2 ι2 b2 s2 _ P2 _=>aQ.ret0 (REL:=ud) P2.rel wG fun Q E hQ=>hQ).imp fun Q E x=>Assign_Tuple x hs hw
end
def lU {α:Type} (m:Cm α):Prop:= ∀q a q',m q= .ok a q'→q'=q
theorem lU.b {α β:Type} {m:Cm α} {f:α→Cm β} (h:lU m) (hf:∀a,lU (f a)):lU (m.b f):=fun q b q' e=>by
 unfold Cm.b at e
 cases hm:m q with
 | ok a q1=>rw [hm] at e;obtain rfl:=h q a q1 hm;exact hf a q1 b q' e
 | exc c q1=>rw [hm] at e;cases e
 | stuck=>rw [hm] at e;cases e
theorem lU.of {α:Type} {m:Cm α} {P:α→Prop} (h:∀q,GZ q P (m q)):lU m:=fun q b q' e=>by
 have:=h q;rw [e] at this;exact this.1
theorem lU.p {α:Type} (a:α):lU (Cm.p a):=fun q b q' e=>by cases e;rfl
theorem lU.stk {α:Type}:lU (Cm.stk:Cm α):=fun q b q' e=>by cases e
theorem lU.get (x:String):lU (ac x):= .of (P:=fun _=>True) fun q=>by
 unfold ac
 cases q.l x with
 | some v=>exact ⟨rfl,trivial⟩
 | none=>trivial
theorem lU.item (o i:V):lU (aj o i):= .of (BO o i)
theorem lU.inV (a b:V):lU (inV a b):= .of (P:=fun _=>True) fun q=>by
 cases b with
 | ref i =>
  unfold Mine.Lake.inV;dsimp only
  cases q.H[i]? with
  | none=>trivial
  | some o =>
   cases o with
   | list xs =>
    dsimp only
    cases ET q.H a xs with
    | some x=>exact ⟨rfl,trivial⟩
    | none=>trivial
   | dict es =>
    cases a with
    | int k=>exact ⟨rfl,trivial⟩
    | _=>trivial
   | flds _=>trivial
 | _=>trivial
theorem lU.eqV (a b:V):lU (eqV a b):= .of (P:=fun _=>True) fun q=>by
 unfold Mine.Lake.eqV
 cases CP q.H a b with
 | some v=>exact ⟨rfl,trivial⟩
 | none=>trivial
def RO (hq:Bool) (k:Nat) (env:Env) {α β:Type} (T:Around→PT β) (m:Cm α) (REL:List Addr→Heap→α→β→Prop):Prop :=
 lU m∧ ∀A ι q s,jD hq k A env→eY ι q.H s.heap→iz env q.l ι s.heap s.heap→ ∀a,m q= .ok a q→ ∀Q E,(∀b tk,REL ι s.heap a b→Q b { s with toks:=tk })→T A Q E s
abbrev CB (hq:Bool) (k:Nat) (env:Env) (e:Expr) (m:Cm V):Prop:=RO hq k env (fun A=>kZ A (eval e env)) m (aK)
abbrev Gm (hq:Bool) (k:Nat) (env:Env) (e:Expr) (m:Cm Bool):Prop:=RO hq k env (fun A=>kZ A (isTrue e env (eval e env))) m (fun _ _ a b=>a=b)
abbrev GY (hq:Bool) (k:Nat) (env:Env) (es:List Expr) (m:Cm Bool):Prop:=RO hq k env (fun A=>kZ A (allTrue .And es env)) m (fun _ _ a b=>a=b)
theorem gJ {α β:Type} {m:Cm α} {f:α→Cm β} {q:S} {b:β} (h:lU m) (e:(m.b f) q= .ok b q):∃a,m q= .ok a q∧f a q= .ok b q:=by
 unfold Cm.b at e
 cases hm:m q with
 | ok a q1=>rw [hm] at e;obtain rfl:=h q a q1 hm;exact ⟨a,rfl,e⟩
 | exc c q1=>rw [hm] at e;cases e
 | stuck=>rw [hm] at e;cases e
section
variable {hq:Bool} {k:Nat} {env:Env} {A:Around} {ι ι':List Addr} {q q':S} {s s':Shared} {H H':Hp} {h:Heap} {scope:Scope} {cl:List (Str×Addr)} {caps:List String} {Cd:Addr}
theorem CA {x:String} {pos:Pos} (hx:env.kindOf (Str.ofString x)=some .local) (hd:(Str.ofString x==("__debug__" : Str))=false):CB hq k env (.Name (Str.ofString x) pos) (ac x):=by
 refine ⟨lU.get x,fun A ι q s ha st fr a e Q E hQ=> ?_⟩
 unfold ac at e
 split at e
 ·rename_i v h
  cases e
  obtain ⟨m,hn,hm⟩:=fr.loc
  obtain ⟨cv,h1,h2⟩:=hm x _ h hx
  exact wpAny_Name (wpAny_loadName_local fr.kind hx hn h1 (hQ cv s.toks h2)) hd
 ·cases e
theorem xq {x:String} {pos:Pos} (hx:env.kindOf (Str.ofString x)=some .cell) (hd:(Str.ofString x==("__debug__" : Str))=false):CB hq k env (.Name (Str.ofString x) pos) (ac x):=by
 refine ⟨lU.get x,fun A ι q s ha st fr a e Q E hQ=> ?_⟩
 unfold ac at e
 split at e
 ·rename_i v h
  cases e
  obtain ⟨c,o,cv,h1,h2,h3,h4⟩:=fr.cel x _ h (.inl hx)
  exact wpAny_Name (wpAny_loadName_cell fr.kind hx h1 ⟨o,h2,h3⟩ (hQ cv s.toks h4)) hd
 ·cases e
theorem zQ {i:Int} {kk:Nat} {pos:Pos}:CB hq k env (.Constant (.int i) kk pos) (.p (.int i)) :=
 ⟨lU.p _,fun A ι q s ha st fr a e Q E hQ=>by cases e;exact wpAny_Constant_int (hQ _ _ ⟨_,rfl⟩)⟩
theorem D5 {b:Bool} {kk:Nat} {pos:Pos}:CB hq k env (.Constant (.bool b) kk pos) (.p (.bool b)) :=
 ⟨lU.p _,fun A ι q s ha st fr a e Q E hQ=>by cases e;exact wpAny_Constant_bool (hQ _ s.toks rfl)⟩
theorem Eg (C:bA G) {value slice:Expr} (hs:∀o i,subscripted slice false o i=operate [o,i] (getItem o i)) {o i v:V} {co ci:Value} (st:eY ι q.H s.heap) (h1:aK ι s.heap o co) (h2:aK ι s.heap i ci) (e:aj o i q= .ok v q)
  {Q:Value→Shared→Prop} {E:Value→Shared→Prop} (hQ:∀cv tk,aK ι s.heap v cv→Q cv { s with toks:=tk }):wpAny G.M A (subscriptTail value slice co ci) Q E s:=by
 have h:=AW (A:=A) C (value:=value) hs st h1 h2
 rw [e] at h;exact h.2 Q E hQ
theorem uf (C:bA G) {e i:Expr} {pos:Pos} {m1 m2:Cm V} (h1:CB hq k env e m1) (h2:CB hq k env i m2) (hs:∀o v,subscripted i false o v=operate [o,v] (getItem o v)) :
  CB hq k env (.Subscript e i pos) (m1.b fun o=>m2.b fun v=>aj o v):=by
 refine ⟨h1.1.b fun o=>h2.1.b fun v=>lU.item o v,fun A ι q s ha st fr a ea Q E hQ=>Subscript_ ?_⟩
 obtain ⟨o,e1,ea⟩:=gJ h1.1 ea
 obtain ⟨v,e2,e3⟩:=gJ h2.1 ea
 refine h1.2 A ι q s ha st fr o e1 _ _ fun co tk ro=> ?_
 refine h2.2 A ι q { s with toks:=tk } ha st fr v e2 _ _ fun cv tk2 rv=> ?_
 exact Eg (s:={ s with toks:=tk2 }) C hs st ro rv e3 hQ
theorem Fp (C:bA G) {l r:Expr} {pos:Pos} {m1 m2:Cm V} (h1:CB hq k env l m1) (h2:CB hq k env r m2) (hm:behindInMarks .Eq r=false) :
  Gm hq k env (.Compare l [.Eq] [r] pos) (m1.b fun a=>m2.b fun b=>(aL .Eq a b).b fun x=> .p x):=by
 refine ⟨h1.1.b fun o=>h2.1.b fun v=>(lU.eqV o v).b fun x=>lU.p x,fun A ι q s ha st fr a ea Q E hQ=>wpAny_isTrue_Compare1 ?_ hm⟩
 obtain ⟨o,e1,ea⟩:=gJ h1.1 ea
 obtain ⟨v,e2,e3⟩:=gJ h2.1 ea
 obtain ⟨x,e4,e5⟩:=gJ (lU.eqV o v) e3
 cases e5
 refine h1.2 A ι q s ha st fr o e1 _ _ fun co tk ro=> ?_
 refine h2.2 A ι q { s with toks:=tk } ha st fr v e2 _ _ fun cv tk2 rv=> ?_
 have hu:=jD.units_lt ⟨_,_,ha⟩
 have e4':eqV o v q= .ok a q:=e4
 unfold eqV at e4'
 split at e4'
 ·rename_i y hy
  cases e4'
  obtain ⟨d,f,d1,d2,d3,d4,rfl⟩:=uo hy
  obtain ⟨as,r1⟩:=et st ro d1
  obtain ⟨bs,r2⟩:=et st rv d2
  exact eq_dataH (s:={ s with toks:=tk2 }) r1 r2 d3 d4 (b0 0x1000040a0c11000064a0c111 hu) (wpAny_truthy_bool (hQ _ tk2 rfl))
 ·cases e4'
theorem BB (C:bA G) {l r:Expr} {pos:Pos} {m1 m2:Cm V} (h1:CB hq k env l m1) (h2:CB hq k env r m2) (hm:behindInMarks .NotIn r=false) :
  Gm hq k env (.Compare l [.NotIn] [r] pos) (m1.b fun a=>m2.b fun b=>(aL .NotIn a b).b fun x=> .p x):=by
 refine ⟨h1.1.b fun o=>h2.1.b fun v=>((lU.inV o v).b fun x=>lU.p (!x)).b fun x=>lU.p x,fun A ι q s ha st fr a ea Q E hQ=>wpAny_isTrue_Compare1 ?_ hm⟩
 obtain ⟨o,e1,ea⟩:=gJ h1.1 ea
 obtain ⟨v,e2,e3⟩:=gJ h2.1 ea
 obtain ⟨x,e4,e5⟩:=gJ ((lU.inV o v).b fun x=>lU.p (!x)) e3
 cases e5
 obtain ⟨x',e6,e7⟩:=gJ (lU.inV o v) e4
 cases e7
 refine h1.2 A ι q s ha st fr o e1 _ _ fun co tk ro=> ?_
 refine h2.2 A ι q { s with toks:=tk } ha st fr v e2 _ _ fun cv tk2 rv=> ?_
 have hu:=jD.units_lt ⟨_,_,ha⟩
 rcases Ai (s:={ s with toks:=tk2 }) C hu st ro rv with h | ⟨y,e,_,hn⟩
 ·rw [h] at e6;cases e6
 ·rw [e] at e6;cases e6;exact hn fun tk3=>wpAny_truthy_bool (hQ _ tk3 rfl)
theorem D6:GY hq k env [] (.p true):=⟨lU.p _,fun A ι q s ha st fr a e Q E hQ=>by cases e;exact wpAny_allTrue_And_nil (hQ _ s.toks rfl)⟩
theorem yw {x:Expr} {es:List Expr} {m m':Cm Bool} (h1:Gm hq k env x m) (h2:GY hq k env es m'):GY hq k env (x::es) (m.b fun b=>if b then m' else .p false):=by
 refine ⟨h1.1.b fun b=>by cases b;exact lU.p _;exact h2.1,fun A ι q s ha st fr a e Q E hQ=>wpAny_allTrue_And_cons ?_⟩
 obtain ⟨b,e1,e2⟩:=gJ h1.1 e
 refine h1.2 A ι q s ha st fr b e1 _ _ fun b' tk rb=> ?_
 subst rb
 cases b with
 | false=>cases e2;exact hQ _ tk rfl
 | true=>exact h2.2 A ι q { s with toks:=tk } ha st fr a e2 _ _ fun b2 tk2 r2=>hQ b2 tk2 r2
theorem D7 {es:List Expr} {pos:Pos} {m:Cm Bool} (h1:GY hq k env es m):Gm hq k env (.BoolOp .And es pos) m :=
 ⟨h1.1,fun A ι q s ha st fr a e Q E hQ=>wpAny_isTrue_BoolOp (h1.2 A ι q s ha st fr a e Q E hQ)⟩
noncomputable def gz (v:V):Cm It:=fun q=>match v with
 | .ref i=>(match q.H[i]? with | some (.dict es)=> .ok ⟨es.map fun e=> .int e.1,fun H=>H[i]? = some (.dict es)⟩ q | _=> .stuck)
 | _=> .stuck
theorem zU (v:V) (q:S):gz v q= .stuck∨ ∃i es,v= .ref i∧q.H[i]? = some (.dict es)∧gz v q= .ok ⟨es.map fun e=> .int e.1,fun H=>H[i]? = some (.dict es)⟩ q:=by
 cases v with
 | ref i =>
  cases h:q.H[i]? with
  | none=>exact .inl (by unfold gz;dsimp only;rw [h])
  | some o =>
   cases o with
   | dict es=>exact .inr ⟨i,es,rfl,h,by unfold gz;dsimp only;rw [h]⟩
   | list _=>exact .inl (by unfold gz;dsimp only;rw [h])
   | flds _=>exact .inl (by unfold gz;dsimp only;rw [h])
 | _=>exact .inl rfl
noncomputable def EY (r:vM S Bool):Bool:=match r with | .ok b _=>b | _=>false
theorem uh {g:Hp→Prop} {x:String} {tst:Cm Bool} (hro:lU tst) {lc:aY} {H:Hp}:∀ {xs ys:List V} {Hf:Hp},fh g (an x) tst (ac x) lc xs H= .ok ys Hf →
  A3 (Hf=H) (∀v∈xs,∃b,tst ⟨upd lc x v,H⟩= .ok b ⟨upd lc x v,H⟩) (ys=xs.filter fun v=>EY (tst ⟨upd lc x v,H⟩))
 | [],ys,Hf,e=>by cases e;exact ⟨rfl,by simp,rfl⟩
 | v::r,ys,Hf,e=>by
  obtain ⟨o,H',zs,h1,h2,h3,rfl⟩:=yH e
  obtain ⟨u,q1,b1,b2⟩:=sE h1
  cases b1
  have hg:ac x ⟨upd lc x v,H⟩= .ok v ⟨upd lc x v,H⟩:=by simp [ac,upd]
  rcases b2 with ⟨t1,rfl⟩ | ⟨H2,y,t1,t2,rfl⟩
  ·have e2:=hro _ _ _ t1
   dsimp only at t1 e2
   obtain rfl:H'=H:=congrArg S.H e2
   obtain ⟨a1,a2,a3⟩:=uh hro h3
   refine ⟨a1,fun w hw=> ?_,?_⟩
   ·rcases List.mem_cons.mp hw with rfl | hw
    ·exact ⟨_,t1⟩
    ·exact a2 w hw
   ·rw [List.filter_cons_of_neg (by rw [t1];simp [EY]),← a3];rfl
  ·have e2:=hro _ _ _ t1
   dsimp only at t1 t2 e2
   obtain rfl:H2=H:=congrArg S.H e2
   rw [hg] at t2
   cases t2
   obtain ⟨a1,a2,a3⟩:=uh hro h3
   refine ⟨a1,fun w hw=> ?_,?_⟩
   ·rcases List.mem_cons.mp hw with rfl | hw
    ·exact ⟨_,t1⟩
    ·exact a2 w hw
   ·rw [List.filter_cons_of_pos (by rw [t1];simp [EY]),← a3];rfl
theorem iz.comp (Z:fF env scope cl caps) {l:aY} {hh:Heap} (R:iz env l ι hh hh) {m:Str→Option Value} (hn:hh.Ns Cd m) (hC:Cd∉ι∧G.hB.get? Cd=none) {x:String} {v:V} {cv:Value}
  (hx:(relabel scope env).names.lookup (Str.ofString x)=some .local) (hm:m (Str.ofString x)=some cv) (hv:aK ι hh v cv):iz (compEnvC scope cl Cd env) (upd (dX caps l) x v) ι hh hh where
 kind:=Z.kind
 glob:=R.glob
 blt:=R.blt
 loc:=⟨m,hn,fun y w e e2=>by
  rcases gq e with ⟨rfl,rfl⟩ | ⟨hne,e⟩
  ·exact ⟨cv,hm,hv⟩
  ·obtain ⟨hy,_⟩:=nn e
   have e2':(relabel scope env).names.lookup (Str.ofString y)=some .local:=e2
   rcases Z.kc y hy with h1 | h1<;>rw [h1] at e2'<;>cases e2'⟩
 cel:=fun y w e e2=>by
  rcases gq e with ⟨rfl,rfl⟩ | ⟨hne,e⟩
  ·have hx':(compEnvC scope cl Cd env).kindOf (Str.ofString y)=some .local:=hx
   rw [hx'] at e2;rcases e2 with e2 | e2<;>cases e2
  ·obtain ⟨hy,e⟩:=nn e
   obtain ⟨c,o,cv,h1,h2,h3,h4⟩:=R.cel y w e (Z.ke y hy)
   exact ⟨c,o,cv,Z.look hy h1,h2,h3,h4⟩
 cells:=fun p hp=>R.cells p (Z.mem hp)
 ndup:=qL Z.nd fun p hp p' hp' e=>rT (c:=p.2) R.ndup (Z.mem hp) (by rw [e];exact Z.mem hp')
 dis:=fun a ha=>by
  rcases List.mem_cons.mp ha with rfl | ha
  ·exact hC.1
  ·exact R.dis a (Z.own ha)
 fresh:=fun a ha=>by
  rcases List.mem_cons.mp ha with rfl | ha
  ·exact hC.2
  ·exact R.fresh a (Z.own ha)
theorem aU.allocStore (R:cC A env ι q s) {h':Heap} {tk:Nat} {D:Addr} {o:O} {y:String} {m m':Str→Option Value} (hy:env.kindOf (Str.ofString y)=some .local) (kp:∀b o,b≠env.locals→s.heap.get? b=some o→h'.get? b=some o)
  (hm:s.heap.Ns env.locals m) (hm':h'.Ns env.locals m') (he:∀z,m' z=if z=Str.ofString y then some (.ref D) else m z) (hD:s.heap.get? D=none) (ho:pA (ι++[D]) h' D o) :
  aU A env ι s (ι++[D]) ⟨upd q.l y (.ref q.H.length),q.H++[o]⟩ { s with heap:=h',toks:=tk }:=by
 have pre:ι<+:ι++[D]:=List.prefix_append _ _
 obtain ⟨n1,n2,n3⟩:=R.fresh_ne hD
 have hLm:∃oL,s.heap.get? env.locals=some oL∧By oL:=R.fr.mut (fun _ _ e=>e) (.head _)
 have im:oG s.heap h':=fun a o e hmu=>⟨o.slots,kp a o (fun q=>by obtain ⟨oL,e',mL⟩:=hLm;rw [← q,e] at e';cases e';exact hmu mL) e⟩
 have ne:∀a,G.hB.get? a≠none→a≠env.locals:=fun a h e=>h (e▸R.fr.fresh _ (.head _))
 have hmuniq:∀m2,s.heap.Ns env.locals m2→m2=m:=fun m2 h2=>by
  obtain ⟨o1,es1,ep1,a1,b1,c1⟩:=h2
  obtain ⟨o2,es2,ep2,a2,b2,c2⟩:=hm
  rw [a1] at a2;cases a2
  rw [b1] at b2
  cases b2
  exact funext fun z=>(c1.2 z).symm.trans (c2.2 z)
 refine ⟨pre,⟨⟨fun b o e=>kp b o (ne b (by rw [e];simp)) (R.st.keep b o e),by simp [R.st.len],?_,?_,?_⟩,⟨R.fr.kind,R.fr.glob,R.fr.blt,?_,?_,?_,R.fr.ndup,?_,R.fr.fresh⟩,?_,R.gens,R.os⟩,⟨?_,?_,?_⟩,?_⟩
 ·exact List.nodup_append.mpr ⟨R.st.nodup,by simp,fun x hx y hy=>by simp at hy;subst hy;exact fun e=>n1 (e▸hx)⟩
 ·intro x hx
  rcases List.mem_append.mp hx with h | h
  ·exact R.st.fresh x h
  ·simp at h;subst h;exact n3
 ·intro i x yy e1 e2
  dsimp only at e2
  by_cases hi:i<ι.length
  ·rw [List.getElem?_append_left hi] at e1
   rw [List.getElem?_append_left (R.st.len▸hi)] at e2
   exact (R.st.obj i x yy e1 e2).at pre im fun o' e=>kp x o' (fun q=>R.fr.dis _ (.head _) (q▸List.mem_of_getElem? e1)) e
  ·have hi':i=ι.length:=by
    have:=(List.getElem?_eq_some_iff.mp e1).1
    simp at this;exact Nat.le_antisymm (b0 0x100191c0111 this) (b0 0x1010511 hi)
   subst hi'
   simp at e1;subst e1
   rw [R.st.len] at e2;simp at e2;subst e2
   exact ho
 ·obtain ⟨m0,hn0,hm0⟩:=R.fr.loc
  obtain rfl:=hmuniq m0 hn0
  refine ⟨m',hm',fun z v e e2=> ?_⟩
  rw [he]
  rcases gq e with ⟨rfl,rfl⟩ | ⟨hne,e⟩
  ·exact ⟨_,if_pos rfl,D,by rw [← R.st.len];simp,rfl⟩
  ·obtain ⟨cv,a,b⟩:=hm0 z v e e2
   exact ⟨cv,by rw [if_neg fun q=>hne (eQ q)];exact a,b.mono pre im⟩
 ·intro z v e e2
  rcases gq e with ⟨rfl,rfl⟩ | ⟨hne,e⟩
  ·rw [hy] at e2;rcases e2 with e2 | e2<;>cases e2
  ·obtain ⟨c,o',cv,a,b,d,f⟩:=R.fr.cel z v e e2
   refine ⟨c,o',cv,a,kp c o' (fun q=> ?_) b,d,f.mono pre im⟩
   obtain ⟨oL,es,ep,hL,hdL,_⟩:=hm
   rw [q,hL] at b;cases b;rw [hdL] at d;cases d
 ·intro p hp
  obtain ⟨o',ov,a,b⟩:=R.fr.cells p hp
  refine ⟨o',ov,kp p.2 o' (fun q=> ?_) a,b⟩
  obtain ⟨oL,es,ep,hL,hdL,_⟩:=hm
  rw [q,hL] at a;cases a;rw [hdL] at b;cases b
 ·intro x hx hmem
  rcases List.mem_append.mp hmem with h | h
  ·exact R.fr.dis x hx h
  ·simp at h;subst h;exact n2 hx
 ·intro env' he'
  obtain ⟨b1,L,o',b2,b3,⟨es,n,b4⟩,b5,b6⟩:=R.fs env' he'
  have hnD:L∉ι++[D]:=fun hmem=>by
   rcases List.mem_append.mp hmem with h | h
   ·exact b5 h
   ·simp at h;subst h;rw [hD] at b3;cases b3
  by_cases hL:L=env.locals
  ·subst hL
   obtain ⟨oL,es',ep',e',d',_⟩:=hm'
   exact ⟨b1,_,oL,b2,e',⟨es',ep',d'⟩,hnD,b6⟩
  ·exact ⟨b1,L,o',b2,kp L o' hL b3,⟨es,n,b4⟩,hnD,b6⟩
 ·intro a o' e
  by_cases hL:a=env.locals
  ·subst hL;obtain ⟨oL,_,_,e',_⟩:=hm';exact ⟨oL,e'⟩
  ·exact ⟨o',kp a o' hL e⟩
 ·intro a o' e hW
  exact ⟨o'.slots,kp a o' (fun q=>hW (List.mem_append_left _ (q ▸ .head _))) e⟩
 ·intro a o' e hW _
  exact kp a o' (fun q=>hW (List.mem_append_left _ (q ▸ .head _))) e
 ·intro x hx
  rcases List.mem_append.mp hx with h | h
  ·exact .inl h
  ·simp at h;subst h;exact .inr hD
theorem pI {φ : Int→Bool} {p:Value→Bool} (hp:∀k t,p (.int k t) = φ k):∀ {ks:List Int} {vs ys:List Value},IntsAre vs ks→Paired (fun v y=>y=v) (vs.filter p) ys→aN ι h ((ks.filter φ).map V.int) ys
 | [],_,_,.nil,h2=>by cases h2;exact vG
 | k::ks,_,ys,.cons _ t r,h2=>by
  rename_i vs
  cases hφ : φ k with
  | true =>
   rw [List.filter_cons_of_pos (by rw [hp];exact hφ)] at h2
   rw [List.filter_cons_of_pos hφ,List.map_cons]
   cases h2 with
   | cons e h2=>subst e;exact nS (vF k t) (pI hp r h2)
  | false =>
   rw [List.filter_cons_of_neg (by rw [hp,hφ];simp)] at h2
   rw [List.filter_cons_of_neg (by rw [hφ];simp)]
   exact pI hp r h2
theorem zR (C:bA G) (hh:hq=true) {iter c:Expr} {x y:String} {px p2 pos py spos:Pos} (caps:List String) {m:Cm V} {tst:Cm Bool} (hB:yF scope env caps=true) (hclos:closureFor scope env=pure (gM scope env))
  (hi:Ev hq k env iter m) (ht:∀L,Gm hq k (compEnvC scope (gM scope env) L env) c tst) (hx:scope.names.lookup (Str.ofString x)=some .local) (hxd:(Str.ofString x==("__debug__" : Str))=false)
  (hs:∀z,foldedSetIterable iter env z=pure z)
  (hsw:swapsWith (.ListComp (.Name (Str.ofString x) p2) [⟨.Name (Str.ofString x) px,iter,[c],0⟩] scope pos) (some (.Name (Str.ofString y) py)) spos.line env=pure true) (hy:env.kindOf (Str.ofString y)=some .local) :
  Ex hq k env (.Assign [.Name (Str.ofString y) py] (.ListComp (.Name (Str.ofString x) p2) [⟨.Name (Str.ofString x) px,iter,[c],0⟩] scope pos) spos)
   ((be caps (m.b fun v=>gz v) (an x) tst (ac x)).b fun v=>(an y v).b fun _=> .p .next):=by
 intro A ι q s ha R
 have Z:=fF.of hB
 have hA:=ha.hd hh
 have hro:lU tst:=(ht 0).1
 have hxr:(relabel scope env).names.lookup (Str.ofString x)=some .local:=lookup_relabel_local hx
 refine aQ.of fun Q E hQ=> ?_
 have hp0:(env.scope.kind == .class||(env.scope.kind == .module&&env.locals != env.globals))=false:=by rw [R.fr.kind];rfl
 have hi':=hi A ι q s ha R
 cases hm:m q with
 | stuck=>rw [bk (show be caps (m.b fun v=>gz v) (an x) tst (ac x) q= .stuck by unfold be;exact bk (bk hm))] at hQ;exact hQ.elim
 | exc e q1 =>
  rw [fu (show be caps (m.b fun v=>gz v) (an x) tst (ac x) q= .exc e q1 by unfold be;exact fu (fu hm))] at hQ
  rw [hm] at hi'
  exact wpAny_Assign_ListComp_free (fun _=>true) (fun _ _=>True) hsw hclos Z.cell Z.kind Z.names hx hy hp0 (hi' _ _ hQ) hs
 | ok v q1 =>
  rw [hm] at hi'
  rcases zU v q1 with hd | ⟨i,es,rfl,hes,hd⟩
  ·rw [bk (show be caps (m.b fun v=>gz v) (an x) tst (ac x) q= .stuck by unfold be;exact bk ((dP hm).trans hd))] at hQ;exact hQ.elim
  have hmi:(m.b fun v=>gz v) q= .ok _ q1:=(dP hm).trans hd
  rcases ui (caps:=caps) (bd:=an x) (tst:=tst) (melt:=ac x) hmi with hst | ⟨ys,Hf,hl,hc,hok⟩
  ·rw [bk hst] at hQ;exact hQ.elim
  ·rw [dP hok] at hQ
   dsimp only at hc hl
   obtain ⟨rfl,hall,hys⟩:=uh hro hc
   refine wpAny_Assign_ListComp_free (fun u=>match u with | .int kk _=>EY (tst ⟨upd (dX caps q1.l) x (.int kk),q1.H⟩) | _=>false) (fun v y=>y=v) hsw hclos Z.cell Z.kind Z.names hx hy hp0 (hi' _ _ fun ι1 cv s1 P1 hr=> ?_) hs
   obtain ⟨a,hia,rfl⟩:=hr
   obtain ⟨a1,kvs,g1,g2,g3⟩:=P1.rel.st.dict hes
   obtain rfl:a=a1:=Option.some.inj (hia.symm.trans g1)
   have hmod:=mZ C P1.rel.st (List.mem_of_getElem? g1)
   obtain ⟨ep,hat⟩:=g2.dictAt
   have hks:=nX g3
   have hlen:kvs.length=es.length:=by have:=congrArg List.length hks;simpa using this
   have K:=kdl_dict (prog:=G.prog) (w:=G.w) (knd:=intKind G.prog G.w) (d:=a) (kvs:=kvs) (ep:=ep) hmod
   obtain ⟨oI,St,hit,W,st⟩:=K.iter A s1 hA hat
   obtain ⟨mL,hnL,hmL⟩:=P1.rel.fr.loc
   have hI:s1.heap.get? s1.heap.objs.size=none:=Heap.get?_none_of_le (Nat.le_refl _)
   have hLI:env.locals≠s1.heap.objs.size:=Nat.ne_of_lt hnL.lt
   have hpush:s1.heap.StaysIn (s1.heap.push oI):=fun b o e=>Heap.get?_push_of_some _ e
   refine hit _ _ ⟨s1.heap.objs.size,_,_,_,_,St,mL,rfl,W,by rw [hlen,sizeLine_eq];simp at hl;exact bz 0xb000f4240a0011 hl,st,fun b hb=> ?_,fun hm=>hLI (List.mem_singleton.mp hm),hnL.keeps hpush,⟨fun Cd i u s3 m3 E' hC hP hn hmx hk htk=> ?_,fun Cd i u s3 m3 E' hC hP hpu hn hmx hk htk=> ?_⟩,fun D h' tk ys' vs hD hlD hplD hvl hvP hF hnL' hkeep=> ?_⟩
   ·show b<(s1.heap.push oI).objs.size
    rw [size_push']
    rcases List.mem_cons.mp hb with e | hb
    ·rw [e];exact Nat.lt_succ_self _
    ·rw [List.mem_singleton.mp hb];exact Nat.lt_succ_of_lt (K.there _ hat).2
   ·obtain ⟨kk,xv,hkx,hkk⟩:=hP
    obtain ⟨t,rfl⟩:=Value.isInt_shape hkk
    have hst3:s1.heap.StaysIn s3.heap:=fun b o e=>hk b o (fun q=>absurd (Heap.lt_size e) (by rw [List.mem_singleton.mp q];exact Nat.lt_irrefl _)) (hpush b o e)
    have hC':(s1.heap.push oI).objs.size≤Cd:=hC
    rw [size_push'] at hC'
    have hCn:s1.heap.get? Cd=none:=Heap.get?_none_of_le (Nat.le_of_succ_le hC')
    obtain ⟨c1,c2,c3⟩:=P1.rel.fresh_ne hCn
    have fr:=iz.comp (cl:=gM scope env) Z (P1.rel.fr.stays hst3 hst3) hn ⟨c1,c3⟩ (v:= .int kk) hxr hmx ⟨t,rfl⟩
    have hmem:V.int kk∈es.map fun e=>V.int e.1:=by
     have:kk∈kvs.map (·.1):=List.mem_map.mpr ⟨_,List.mem_of_getElem? hkx,rfl⟩
     rw [hks] at this
     obtain ⟨e,he,rfl⟩:=List.mem_map.mp this
     exact List.mem_map.mpr ⟨e,he,rfl⟩
    obtain ⟨b,hb⟩:=hall _ hmem
    refine wpAny_tests_one ((ht Cd).2 A ι1 ⟨upd (dX caps q1.l) x (.int kk),q1.H⟩ s3 ha.comp (P1.rel.st.stays hst3) fr b hb _ _ fun b' tk rb=> ?_)
    subst rb
    exact ⟨by show b=EY (tst ⟨upd (dX caps q1.l) x (.int kk),q1.H⟩);rw [hb];rfl,s3.heap,tk,rfl,fun _ _ e=>e⟩
   ·obtain ⟨kk,xv,hkx,hkk⟩:=hP
    obtain ⟨t,rfl⟩:=Value.isInt_shape hkk
    have hkd:(compEnvC scope (gM scope env) Cd env).kindOf (Str.ofString x)=some .local:=hxr
    exact wpAny_Name (wpAny_loadName_local (by show (relabel scope env).kind= .function;exact Z.kind) hkd hn hmx ⟨rfl,s3.heap,s3.toks,rfl,fun _ _ e=>e⟩) hxd
   ·have hD1:s1.heap.get? D=none:=by
     cases e:s1.heap.get? D with
     | none=>rfl
     | some o=>have h2:(s1.heap.push oI).get? D=none:=hD;rw [hpush D o e] at h2;cases h2
    have kp:∀b o,b≠env.locals→s1.heap.get? b=some o→h'.get? b=some o:=fun b o hb e =>
     hkeep b o hb (fun q=>absurd (Heap.lt_size e) (by rw [List.mem_singleton.mp q];exact Nat.lt_irrefl _)) (hpush b o e)
    have hInt:IntsAre vs (es.map (·.1)):=by rw [← hks];exact pP hvl hvP
    have hvr:aN (ι1++[D]) h' (((es.map (·.1)).filter fun kk=>EY (tst ⟨upd (dX caps q1.l) x (.int kk),q1.H⟩)).map V.int) ys'.toList:=pI (φ := fun kk=>EY (tst ⟨upd (dX caps q1.l) x (.int kk),q1.H⟩)) (fun _ _=>rfl) hInt hF
    have hyeq:ys=((es.map (·.1)).filter fun kk=>EY (tst ⟨upd (dX caps q1.l) x (.int kk),q1.H⟩)).map V.int:=by
     rw [hys,show (es.map fun e=>V.int e.1)=(es.map (·.1)).map V.int by simp,List.filter_map];rfl
    rw [← hyeq] at hvr
    have P2:=aU.allocStore (tk:=tk) (y:=y) P1.rel hy kp hnL hnL' (fun _=>rfl) hD1 (o:= .list ys) ⟨ys'.toList,by rw [Array.toArray_toList];exact hplD,hvr⟩
    exact hQ _ .next _ (P1.trans P2) rfl
end
abbrev nG (x:String) (v:Option Value):Prop:=nsIn G.K mainGlobals (Str.ofString x)=some v
noncomputable def HD (K:Frag) (fd:FuncData) (ps:List String):Bool :=
 codeIn K fd.code fd.qualname&&(fd.closure.isEmpty&&(decide (fd.globals=mainGlobals)&&(decide (fd.builtins=builtinsNs)&&(decide (∀x∈ps,fd.scope.names.lookup (Str.ofString x)=some .local∨fd.scope.names.lookup (Str.ofString x)=some .cell)&&(decide ps.Nodup&&(decide ((cellsFrom 0 fd.scope.names []).map (·.1)).Nodup&&(!fd.scope.isCoroutine&&(!fd.scope.isGenerator&&decide (fd.scope.kind= .function)))))))))
theorem jr {K:Frag} {f:Addr} {fd:FuncData} {ps:List String} {body:List Stmt} (a:∃oc od sl,K.lookup f=some ⟨oc,od,.func fd,sl⟩) (b:∀vals,vals.length=ps.length→bindArgs fd ⟨vals,[]⟩=pure (tc ps vals)) (h:HD K fd ps=true) (e:fd.body= .stmts body):AL K f fd ps body :=
 have h1:=Bool.and_eq_true_iff.mp h
 have h2:=Bool.and_eq_true_iff.mp h1.2
 have h3:=Bool.and_eq_true_iff.mp h2.2
 have h4:=Bool.and_eq_true_iff.mp h3.2
 have h5:=Bool.and_eq_true_iff.mp h4.2
 have h6:=Bool.and_eq_true_iff.mp h5.2
 have h7:=Bool.and_eq_true_iff.mp h6.2
 have h8:=Bool.and_eq_true_iff.mp h7.2
 have h9:=Bool.and_eq_true_iff.mp h8.2
 ⟨a,h1.1,e,List.isEmpty_iff.mp h2.1,of_decide_eq_true h3.1,of_decide_eq_true h4.1,b,of_decide_eq_true h5.1,of_decide_eq_true h6.1,of_decide_eq_true h7.1,(Bool.not_eq_true' _).mp h8.1,(Bool.not_eq_true' _).mp h9.1,of_decide_eq_true h9.2⟩
theorem BE {P:List Value→Prop} (h:∀a0,P [a0]):∀vs:List Value,vs.length=1→P vs:=fun _ e=>let ⟨a0,q⟩:=Gy e;q▸h a0
theorem yp {P:List Value→Prop} (h:∀a0 a1,P [a0,a1]):∀vs:List Value,vs.length=2→P vs:=fun _ e=>let ⟨a0,a1,q⟩:=Gz e;q▸h a0 a1
theorem D8 {P:List Value→Prop} (h:∀a0 a1 a2,P [a0,a1,a2]):∀vs:List Value,vs.length=3→P vs:=fun _ e=>let ⟨a0,a1,a2,q⟩:=GB e;q▸h a0 a1 a2
theorem Ge {P:List Value→Prop} (h:∀a0 a1 a2 a3,P [a0,a1,a2,a3]):∀vs:List Value,vs.length=4→P vs:=fun _ e=>let ⟨a0,a1,a2,a3,q⟩:=GC e;q▸h a0 a1 a2 a3
theorem HC {P:List Value→Prop} (h:∀a0 a1 a2 a3 a4,P [a0,a1,a2,a3,a4]):∀vs:List Value,vs.length=5→P vs:=fun _ e=>let ⟨a0,a1,a2,a3,a4,q⟩:=Hi e;q▸h a0 a1 a2 a3 a4
section
theorem pV:nG "BadPlan" (some (.ref 37)):=by kernel_rfl
theorem As:nG "BadWish" (some (.ref 49)):=by kernel_rfl
theorem uR:nG "MOST_LENGTH" (some (.int 60 568)):=by kernel_rfl
theorem vR:nG "MOST_PAGES" (some (.int 40 566)):=by kernel_rfl
theorem vS:nG "MOST_SIZES" (some (.int 8 570)):=by kernel_rfl
theorem oi:nG "NoRoom" (some (.ref 85)):=by kernel_rfl
theorem BV:nG "NoSize" (some (.ref 73)):=by kernel_rfl
theorem rV:nG "NotOut" (some (.ref 97)):=by kernel_rfl
theorem vT:nG "OutOfThing" (some (.ref 109)):=by kernel_rfl
theorem Es:nG "Plan" (some (.ref 335)):=by kernel_rfl
theorem Ba:nG "Room" (some (.ref 286)):=by kernel_rfl
theorem Dn:nG "Shelf" (some (.ref 164)):=by kernel_rfl
theorem m9:nG "TooLarge" (some (.ref 61)):=by kernel_rfl
theorem fC:nG "_law_cell_at" (some (.ref 346)):=by kernel_rfl
theorem xN:nG "_law_deed" (some (.ref 436)):=by kernel_rfl
theorem vU:nG "_law_fresh" (some (.ref 386)):=by kernel_rfl
theorem tq:nG "_law_fullest" (some (.ref 381)):=by kernel_rfl
theorem oD:nG "_law_gathered_by" (some (.ref 410)):=by kernel_rfl
theorem vV:nG "_law_given" (some (.ref 405)):=by kernel_rfl
theorem zj:nG "_law_got" (some (.ref 431)):=by kernel_rfl
theorem xO:nG "_law_left" (some (.ref 417)):=by kernel_rfl
theorem ng:nG "_law_places" (some (.ref 400)):=by kernel_rfl
theorem tr:nG "_law_plan_by" (some (.ref 367)):=by kernel_rfl
theorem mh:nG "_law_size_by" (some (.ref 374)):=by kernel_rfl
theorem rW:nG "_law_sizes_by" (some (.ref 360)):=by kernel_rfl
theorem jk:nG "_law_stands" (some (.ref 441)):=by kernel_rfl
theorem xP:nG "_law_told" (some (.ref 424)):=by kernel_rfl
theorem kf:nG "_law_whole" (some (.ref 353)):=by kernel_rfl
theorem uS:nG "_law_wished" (some (.ref 393)):=by kernel_rfl
theorem pW:nG "between" (some (.ref 304)):=by kernel_rfl
theorem Bb:nG "bool" none:=by kernel_rfl
theorem lE:nG "enumerate" none:=by kernel_rfl
theorem At:nG "int" none:=by kernel_rfl
theorem fk:nG "isinstance" none:=by kernel_rfl
theorem fK:nG "len" none:=by kernel_rfl
theorem qN:nG "list" none:=by kernel_rfl
theorem eg:nG "range" none:=by kernel_rfl
theorem cg:nG "sorted" none:=by kernel_rfl
theorem Au:nG "sum" none:=by kernel_rfl
theorem uT:nG "whole" (some (.ref 297)):=by kernel_rfl
theorem AV:rL G.K "int" = true:=by kernel_rfl
theorem y0:rL G.K "bool" = true:=by kernel_rfl
theorem C8:rL G.K "list" = true:=by kernel_rfl
theorem nU:pq G.K 37=true:=by kernel_rfl
theorem zM:pq G.K 49=true:=by kernel_rfl
theorem yo:pq G.K 61=true:=by kernel_rfl
theorem AK:pq G.K 73=true:=by kernel_rfl
theorem vJ:pq G.K 85=true:=by kernel_rfl
theorem qh:pq G.K 97=true:=by kernel_rfl
theorem vK:pq G.K 109=true:=by kernel_rfl
theorem An:keepIn G.K (.ref 164)=true:=by kernel_rfl
theorem zg:makesIn G.K 164=true:=by kernel_rfl
theorem Aj:findIn G.K (.ref 164) "__init__" = some (some (.ref 125)):=by kernel_rfl
theorem wO:keepIn G.K (.ref 286)=true:=by kernel_rfl
theorem uJ:makesIn G.K 286=true:=by kernel_rfl
theorem wN:findIn G.K (.ref 286) "__init__" = some (some (.ref 182)):=by kernel_rfl
theorem BQ:keepIn G.K (.ref 335)=true:=by kernel_rfl
theorem Aq:makesIn G.K 335=true:=by kernel_rfl
theorem BN:findIn G.K (.ref 335) "__init__" = some (some (.ref 318)):=by kernel_rfl
theorem ka:bX G.K 335 332 (Str.ofString "per")=true:=by kernel_rfl
theorem fB:bX G.K 286 204 (Str.ofString "begin")=true:=by kernel_rfl
theorem ic:bX G.K 164 135 (Str.ofString "free")=true:=by kernel_rfl
theorem l9:bX G.K 164 147 (Str.ofString "take")=true:=by kernel_rfl
theorem tg:bX G.K 286 273 (Str.ofString "moved")=true:=by kernel_rfl
theorem gh:bX G.K 286 197 (Str.ofString "of_size")=true:=by kernel_rfl
theorem lZ:bX G.K 164 140 (Str.ofString "gone")=true:=by kernel_rfl
theorem cL:bX G.K 164 130 (Str.ofString "out")=true:=by kernel_rfl
theorem rP:bX G.K 286 268 (Str.ofString "gather")=true:=by kernel_rfl
theorem cP:bX G.K 286 192 (Str.ofString "empty_pages")=true:=by kernel_rfl
theorem mX:bX G.K 164 154 (Str.ofString "has")=true:=by kernel_rfl
theorem lY:bX G.K 286 211 (Str.ofString "found")=true:=by kernel_rfl
theorem tj:bX G.K 164 161 (Str.ofString "give")=true:=by kernel_rfl
theorem oB:bX G.K 286 230 (Str.ofString "give_back")=true:=by kernel_rfl
theorem mW:bX G.K 286 249 (Str.ofString "cell")=true:=by kernel_rfl
theorem uL:bX G.K 286 256 (Str.ofString "read")=true:=by kernel_rfl
theorem uM:bX G.K 286 237 (Str.ofString "trim")=true:=by kernel_rfl
theorem ti:bX G.K 286 263 (Str.ofString "write")=true:=by kernel_rfl
theorem jh:bX G.K 335 325 (Str.ofString "size_for")=true:=by kernel_rfl
theorem ji:bX G.K 286 187 (Str.ofString "pile")=true:=by kernel_rfl
theorem tf:bX G.K 286 218 (Str.ofString "fresh")=true:=by kernel_rfl
theorem uN:bX G.K 286 225 (Str.ofString "wish")=true:=by kernel_rfl
theorem pT:bX G.K 286 242 (Str.ofString "room_for")=true:=by kernel_rfl
theorem qJ:bX G.K 286 283 (Str.ofString "shelves")=true:=by kernel_rfl
theorem rQ:bX G.K 286 278 (Str.ofString "things")=true:=by kernel_rfl
end
section
theorem je:s8 "cells" := iH (L:=lj) (fun _=>rfl) ∅
theorem fQ:s8 "length" := iH (L:=lj) (fun _=>rfl) ∅
theorem wJ:s8 "page" := iH (L:=lj) (fun _=>rfl) ∅
theorem pL:s8 "pages" := iH (L:=lj) (fun _=>rfl) ∅
theorem eP:s8 "plan" := iH (L:=lj) (fun _=>rfl) ∅
theorem aM:s8 "racks" := iH (L:=lj) (fun _=>rfl) ∅
theorem dk:s8 "size" := iH (L:=lj) (fun _=>rfl) ∅
theorem pM:s8 "sizes" := iH (L:=lj) (fun _=>rfl) ∅
theorem du:s8 "taken" := iH (L:=lj) (fun _=>rfl) ∅
theorem Ad:s9 "cells" := iI (L:=lj) (fun _=>rfl) ∅
theorem yW:s9 "length" := iI (L:=lj) (fun _=>rfl) ∅
theorem BK:s9 "page" := iI (L:=lj) (fun _=>rfl) ∅
theorem Ae:s9 "pages" := iI (L:=lj) (fun _=>rfl) ∅
theorem BL:s9 "plan" := iI (L:=lj) (fun _=>rfl) ∅
theorem Af:s9 "racks" := iI (L:=lj) (fun _=>rfl) ∅
theorem BM:s9 "size" := iI (L:=lj) (fun _=>rfl) ∅
theorem Ag:s9 "sizes" := iI (L:=lj) (fun _=>rfl) ∅
theorem Ah:s9 "taken" := iI (L:=lj) (fun _=>rfl) ∅
abbrev FX (k:Nat) (f:Addr) (F:Fc):Prop:=bQ true k f F
variable (C:bA G)
include C
def Cb:Cm Fl:=((((ac "number").b fun v2=>vO "int" v2).b fun v7=>(bE v7).b fun b8=>if b8 then (((ac "number").b fun v4=>vO "bool" v4).b fun v5=>(bE v5).b fun b6=>Cm.p (V.bool (!b6))) else Cm.p v7).b fun v9=>Cm.p (Fl.ret v9))
def Eo:Cm Fl:=(Cb)
def qv:Fc:=gS ["number"] (Eo)
theorem yb:FX 1 297 (qv) :=
 bQ.of C (k:=0) (jr ⟨_,_,_,rfl⟩ (BE fun _=>∅) ∅ rfl) fun L =>
 (al (aX (kr (pw (yr C AV ∅ fk ∅ At ∅ ∅ ∅ (aa ∅ ∅) ∅ ∅) (ry (EK (yr C y0 ∅ fk ∅ Bb ∅ ∅ ∅ (aa ∅ ∅) ∅ ∅)))))))
def zD:Cm Fl:=(((((ac "number").b fun v2=>(Cm.p []).b fun vs3=>Cm.p (v2::vs3)).b fun vs1=>aD (qv) vs1).b fun v9=>(bE v9).b fun b10=>if b10 then ((ac "least").b fun v4=>(ac "number").b fun v5=>(aL .LtE v4 v5).b fun x6=>if x6 then (ac "most").b fun v7=>(aL .LtE v5 v7).b fun x8=>Cm.p (V.bool x8) else Cm.p (V.bool false)) else Cm.p v9).b fun v11=>Cm.p (Fl.ret v11))
def wQ:Cm Fl:=(zD)
def kD:Fc:=gS ["number", "least", "most"] (wQ)
theorem r9:FX 2 304 (kD) :=
 bQ.of C (k:=1) (jr ⟨_,_,_,rfl⟩ (D8 fun _ _ _=>∅) ∅ rfl) fun L =>
 (al (aX (kr (pw (bG C ∅ uT ∅ ∅ (yb C) ∅ (ae (aa ∅ ∅) ai ∅) ∅) (ry (Cp C (aa ∅ ∅) (aa ∅ ∅) (aa ∅ ∅) ∅))))))
def wa:Cm Fl:=(((((((ac "pages").b fun v6=>((Cm.p (V.int 1)).b fun v4=>((Cm.p (V.int 40)).b fun v2=>(Cm.p []).b fun vs3=>Cm.p (v2::vs3)).b fun vs5=>Cm.p (v4::vs5)).b fun vs7=>Cm.p (v6::vs7)).b fun vs1=>aD (kD) vs1).b fun v8=>bE v8).b fun b9=>Cm.p (!b9)).b fun b20=>if b20 then Cm.p true else ((((((ac "length").b fun v15=>((Cm.p (V.int 1)).b fun v13=>((Cm.p (V.int 60)).b fun v11=>(Cm.p []).b fun vs12=>Cm.p (v11::vs12)).b fun vs14=>Cm.p (v13::vs14)).b fun vs16=>Cm.p (v15::vs16)).b fun vs10=>aD (kD) vs10).b fun v17=>bE v17).b fun b18=>Cm.p (!b18)).b fun b19=>if b19 then Cm.p true else (Cm.p false))).b fun b23=>if b23 then (((Cm.p (V.str "pages or their length")).b fun v21=>(Cm.p []).b fun vs22=>Cm.p (v21::vs22)).b fun _=>gE "BadPlan") else (Cm.p Fl.next))
def wb:Cm Fl:=((((((ac "sizes").b fun v25=>vO "list" v25).b fun v26=>bE v26).b fun b27=>Cm.p (!b27)).b fun b38=>if b38 then Cm.p true else ((((Cm.p (V.int 1)).b fun v31=>(((ac "sizes").b fun v29=>(Cm.p []).b fun vs30=>Cm.p (v29::vs30)).b fun vs28=>fg vs28).b fun v32=>(aL .LtE v31 v32).b fun x33=>if x33 then (Cm.p (V.int 8)).b fun v34=>(aL .LtE v32 v34).b fun x35=>Cm.p x35 else Cm.p false).b fun b36=>Cm.p (!b36)).b fun b37=>if b37 then Cm.p true else (Cm.p false))).b fun b41=>if b41 then (((Cm.p (V.str "a list of sizes")).b fun v39=>(Cm.p []).b fun vs40=>Cm.p (v39::vs40)).b fun _=>gE "BadPlan") else (Cm.p Fl.next))
def wc:Cm Fl:=((Cm.p (V.int 0)).b fun v42=>(an "last" v42).b fun _=>Cm.p Fl.next)
def oH:Cm Fl:=(au ((((((ac "size").b fun v51=>(((ac "last").b fun v45=>(Cm.p (V.int 1)).b fun v46=>cS v45 v46).b fun v49=>((ac "length").b fun v47=>(Cm.p []).b fun vs48=>Cm.p (v47::vs48)).b fun vs50=>Cm.p (v49::vs50)).b fun vs52=>Cm.p (v51::vs52)).b fun vs44=>aD (kD) vs44).b fun v53=>bE v53).b fun b54=>Cm.p (!b54)).b fun b57=>if b57 then (((Cm.p (V.str "sizes rise up to the length")).b fun v55=>(Cm.p []).b fun vs56=>Cm.p (v55::vs56)).b fun _=>gE "BadPlan") else (Cm.p Fl.next)) ((ac "size").b fun v58=>(an "last" v58).b fun _=>Cm.p Fl.next))
def wd:Cm Fl:=(((ac "sizes").b fun v43=>cQ v43).b fun it59=>bH it59.g (an "size") (oH) it59.xs)
def we:Cm Fl:=((ac "pages").b fun v60=>(ac "self").b fun v61=>(bV "pages" v60 v61).b fun _=>Cm.p Fl.next)
def wf:Cm Fl:=((ac "length").b fun v62=>(ac "self").b fun v63=>(bV "length" v62 v63).b fun _=>Cm.p Fl.next)
def wg:Cm Fl:=((((ac "sizes").b fun v65=>(Cm.p []).b fun vs66=>Cm.p (v65::vs66)).b fun vs64=>iK vs64).b fun v67=>(ac "self").b fun v68=>(bV "sizes" v67 v68).b fun _=>Cm.p Fl.next)
def sK:Cm Fl:=(au (wa) (au (wb) (au (wc) (au (wd) (au (we) (au (wf) (wg)))))))
def jH:Fc:=gS ["self", "pages", "length", "sizes"] (sK)
theorem zr:FX 3 318 (jH) :=
 bQ.of C (k:=2) (jr ⟨_,_,_,rfl⟩ (Ge fun _ _ _ _=>∅) ∅ rfl) fun L =>
 (ag (cj (fG (fL (io (gr (bG C ∅ pW ∅ ∅ (r9 C) ∅ (ae (aa ∅ ∅) (ae am (ae (zO C ∅ vR ∅) ai ∅) ∅) ∅) ∅) rfl)) (fL (io (gr (bG C ∅ pW ∅ ∅ (r9 C) ∅ (ae (aa ∅ ∅) (ae am (ae (zO C ∅ uR ∅) ai ∅) ∅) ∅) ∅) rfl)) jY))) (al (fo C rfl ∅ pV ∅ nU ∅ (ae lR ai ∅) ∅ ∅ (by intro q vs q' h;cases h;decide))) aP) (ag (cj (fG (fL (io (gr (yr C C8 ∅ fk ∅ qN ∅ ∅ ∅ (aa ∅ ∅) ∅ ∅) rfl)) (fL (io (CC C am (bT (bv:=(.builtin "len")) C ∅ fK ∅ ∅ ∅ (ar _) (ae (aa ∅ ∅) ai ∅) ∅ (fun A ι q s vs cvs ha R hv=>iW C R hv)) (zO C ∅ vS ∅) ∅)) jY))) (al (fo C rfl ∅ pV ∅ nU ∅ (ae lR ai ∅) ∅ ∅ (by intro q vs q' h;cases h;decide))) aP) (ag (ak (.inl ∅) am rfl) (ag (dS (bj C rfl (.name _ _) (aa ∅ ∅)) (aW (.inl ∅)) (ag (cj (io (gr (bG C ∅ pW ∅ ∅ (r9 C) ∅ (ae (aa ∅ ∅) (ae (az C (aa ∅ ∅) am cI) (ae (aa ∅ ∅) ai ∅) ∅) ∅) ∅) rfl)) (al (fo C rfl ∅ pV ∅ nU ∅ (ae lR ai ∅) ∅ ∅ (by intro q vs q' h;cases h;decide))) aP) (al (ak (.inl ∅) (aa ∅ ∅) rfl))) (fun _=>rfl)) (ag (eA C Ae (aa ∅ ∅) (aa ∅ ∅) rfl) (ag (eA C yW (aa ∅ ∅) (aa ∅ ∅) rfl) (al (eA C Ag (bT (bv:=(.type "list")) C ∅ qN ∅ ∅ ∅ (dq _) (ae (aa ∅ ∅) ai ∅) ∅ (fun A ι q s vs cvs ha R hv=>qj C R hv)) (aa ∅ ∅) rfl))))))))
def wk:Cm Fl:=((ac "plan").b fun v1=>(ac "self").b fun v2=>(bV "plan" v1 v2).b fun _=>Cm.p Fl.next)
def wl:Cm Fl:=(Ar.b fun v3=>(ac "self").b fun v4=>(bV "racks" v3 v4).b fun _=>Cm.p Fl.next)
def wm:Cm Fl:=(((((Cm.p (V.int 0)).b fun v5=>(Cm.p []).b fun vs6=>Cm.p (v5::vs6)).b fun vs7=>dz vs7).b fun v12=>(((ac "plan").b fun v8=>aA "pages" v8).b fun v10=>((ac "plan").b fun v9=>aA "length" v9).b fun v11=>dQ v10 v11).b fun v13=>dQ v12 v13).b fun v14=>(ac "self").b fun v15=>(bV "cells" v14 v15).b fun _=>Cm.p Fl.next)
def sM:Cm Fl:=(au (wk) (au (wl) (wm)))
def gO:Fc:=gS ["self", "plan"] (sM)
theorem sW:FX 1 182 (gO) :=
 bQ.of C (k:=0) (jr ⟨_,_,_,rfl⟩ (yp fun _ _=>∅) ∅ rfl) fun L =>
 (ag (eA C BL (aa ∅ ∅) (aa ∅ ∅) rfl) (ag (eA C Af xj (aa ∅ ∅) rfl) (al (eA C Ad (az C (cD (ae am ai ∅)) (az C (aC C pL (aa ∅ ∅) rfl) (aC C fQ (aa ∅ ∅) rfl) iX) iX) (aa ∅ ∅) rfl))))
def yf:Cm Fl:=(((((((ac "size").b fun v2=>(Cm.p []).b fun vs3=>Cm.p (v2::vs3)).b fun vs1=>aD (qv) vs1).b fun v4=>bE v4).b fun b5=>Cm.p (!b5)).b fun b11=>if b11 then Cm.p true else (((ac "size").b fun v7=>((ac "self").b fun v6=>aA "sizes" v6).b fun v8=>(aL .NotIn v7 v8).b fun x9=>Cm.p x9).b fun b10=>if b10 then Cm.p true else (Cm.p false))).b fun b14=>if b14 then (((Cm.p (V.str "no such size")).b fun v12=>(Cm.p []).b fun vs13=>Cm.p (v12::vs13)).b fun _=>gE "NoSize") else (Cm.p Fl.next))
def yg:Cm Fl:=((((ac "self").b fun v15=>aA "length" v15).b fun v16=>(ac "size").b fun v17=>dG v16 v17).b fun v18=>Cm.p (Fl.ret v18))
def pR:Cm Fl:=(au (yf) (yg))
def gB:Fc:=gS ["self", "size"] (pR)
theorem pZ:FX 2 332 (gB) :=
 bQ.of C (k:=1) (jr ⟨_,_,_,rfl⟩ (yp fun _ _=>∅) ∅ rfl) fun L =>
 (ag (cj (fG (fL (io (gr (bG C ∅ uT ∅ ∅ (yb C) ∅ (ae (aa ∅ ∅) ai ∅) ∅) rfl)) (fL (aV C (aa ∅ ∅) (aC C pM (aa ∅ ∅) rfl) ∅) jY))) (al (fo C rfl ∅ BV ∅ AK ∅ (ae lR ai ∅) ∅ ∅ (by intro q vs q' h;cases h;decide))) aP) (al (aX (az C (aC C fQ (aa ∅ ∅) rfl) (aa ∅ ∅) eV))))
def vf:Cm Fl:=(((((ac "shelf").b fun v1=>aA "page" v1).b fun v4=>(((ac "self").b fun v2=>aA "plan" v2).b fun v3=>aA "length" v3).b fun v5=>dQ v4 v5).b fun v9=>((ac "slot").b fun v7=>((ac "shelf").b fun v6=>aA "size" v6).b fun v8=>dQ v7 v8).b fun v10=>cS v9 v10).b fun v11=>Cm.p (Fl.ret v11))
def qz:Cm Fl:=(vf)
def eJ:Fc:=gS ["self", "shelf", "slot"] (qz)
theorem iN:FX 1 204 (eJ) :=
 bQ.of C (k:=0) (jr ⟨_,_,_,rfl⟩ (D8 fun _ _ _=>∅) ∅ rfl) fun L =>
 (al (aX (az C (az C (aC C wJ (aa ∅ ∅) rfl) (aC C fQ (aC C eP (aa ∅ ∅) rfl) rfl) iX) (az C (aa ∅ ∅) (aC C dk (aa ∅ ∅) rfl) iX) cI)))
def mJ:Cm V:=be [] ((((ac "self").b fun v1=>aA "taken" v1).b fun v2=>(Cm.p []).b fun vs3=>Cm.p (v2::vs3)).b fun vs4=>lW vs4) (jp "slot" "one") (((ac "one").b fun v5=>bE v5).b fun b6=>Cm.p (!b6)) (ac "slot")
def vq:Cm Fl:=((mJ).b fun v7=>Cm.p (Fl.ret v7))
def qD:Cm Fl:=(vq)
def eK:Fc:=gS ["self"] (qD)
theorem lG:FX 1 135 (eK) :=
 bQ.of C (k:=0) (jr ⟨_,_,_,rfl⟩ (BE fun _=>∅) ∅ rfl) fun L =>
 (al (aX (dL [] ∅ ∅ (zP C rfl ∅ lE (ae (aC C du (aa ∅ ∅) rfl) ai ∅) ∅) (fun _=>(ub rfl (.inl ∅) (.inl ∅))) (AO ∅ ∅) (fun _=>(eZ (io (gr (aa ∅ ∅) rfl)))) (fun _=>(aa ∅ ∅)) (fun _=>rfl))))
def cJ:Cm Fl:=((((((ac "self").b fun v8=>aA "taken" v8).b fun v9=>(ac "slot").b fun v10=>aj v9 v10).b fun v11=>bE v11).b fun b12=>Cm.p (!b12)).b fun b18=>if b18 then (au ((Cm.p (V.bool true)).b fun v13=>((ac "self").b fun v14=>aA "taken" v14).b fun v15=>(ac "slot").b fun v16=>(bu v15 v16 v13).b fun _=>Cm.p Fl.next) ((ac "slot").b fun v17=>Cm.p (Fl.ret v17))) else (Cm.p Fl.next))
def nI:Cm Fl:=(((((((ac "self").b fun v2=>aA "taken" v2).b fun v3=>(Cm.p []).b fun vs4=>Cm.p (v3::vs4)).b fun vs1=>fg vs1).b fun v5=>(Cm.p []).b fun vs6=>Cm.p (v5::vs6)).b fun vs7=>cN vs7).b fun it19=>bH it19.g (an "slot") (cJ) it19.xs)
def vz:Cm Fl:=(((Cm.p (V.str "no slot is free")).b fun v20=>(Cm.p []).b fun vs21=>Cm.p (v20::vs21)).b fun _=>gE "NoRoom")
def lC:Cm Fl:=(au (nI) (vz))
def f8:Fc:=gS ["self"] (lC)
theorem qW:FX 1 147 (f8) :=
 bQ.of C (k:=0) (jr ⟨_,_,_,rfl⟩ (BE fun _=>∅) ∅ rfl) fun L =>
 (ag (dS (fR C rfl ∅ eg (ae (bT (bv:=(.builtin "len")) C ∅ fK ∅ ∅ ∅ (ar _) (ae (aC C du (aa ∅ ∅) rfl) ai ∅) ∅ (fun A ι q s vs cvs ha R hv=>iW C R hv)) ai ∅) ∅) (aW (.inl ∅)) (al (cj (io (gr (aw C (aC C du (aa ∅ ∅) rfl) (aa ∅ ∅) (fun _ _=>rfl)) rfl)) (ag (dI C bP (aC C du (aa ∅ ∅) rfl) (aa ∅ ∅) rfl) (al (aX (aa ∅ ∅)))) aP)) (fun _=>rfl)) (al (fo C rfl ∅ oi ∅ vJ ∅ (ae lR ai ∅) ∅ ∅ (by intro q vs q' h;cases h;decide))))
def ja:Cm V:=be ["self"] ((ac "stay").b fun v1=>cQ v1) (an "page") (((((ac "self").b fun v3=>aA "racks" v3).b fun v4=>(ac "page").b fun v5=>aj v4 v5).b fun v6=>(aJ "Shelf" "free" v6).b fun _=>(Cm.p []).b fun vs2=>aD (eK) (v6::vs2)).b fun v8=>((Cm.p []).b fun vs7=>dz vs7).b fun v9=>(aL .NotEq v8 v9).b fun x10=>Cm.p x10) (((ac "self").b fun v11=>aA "racks" v11).b fun v12=>(ac "page").b fun v13=>aj v12 v13)
def nB:Cm Fl:=(((ja).b fun v14=>(Cm.p (V.int 0)).b fun v15=>aj v14 v15).b fun v16=>(an "shelf" v16).b fun _=>Cm.p Fl.next)
def nE:Cm Fl:=(((ac "self").b fun v18=>(aJ "Room" "begin" v18).b fun _=>((ac "shelf").b fun v23=>(((ac "shelf").b fun v20=>(aJ "Shelf" "take" v20).b fun _=>(Cm.p []).b fun vs19=>aD (f8) (v20::vs19)).b fun v21=>(Cm.p []).b fun vs22=>Cm.p (v21::vs22)).b fun vs24=>Cm.p (v23::vs24)).b fun vs17=>aD (eJ) (v18::vs17)).b fun v25=>(an "there" v25).b fun _=>Cm.p Fl.next)
def mH:Cm Fl:=((((ac "self").b fun v29=>aA "cells" v29).b fun v30=>((ac "place").b fun v32=>(ac "step").b fun v33=>cS v32 v33).b fun v31=>aj v30 v31).b fun v34=>((ac "self").b fun v35=>aA "cells" v35).b fun v38=>((ac "there").b fun v36=>(ac "step").b fun v37=>cS v36 v37).b fun v39=>(bu v38 v39 v34).b fun _=>Cm.p Fl.next)
def nH:Cm Fl:=((((ac "size").b fun v26=>(Cm.p []).b fun vs27=>Cm.p (v26::vs27)).b fun vs28=>cN vs28).b fun it40=>bH it40.g (an "step") (mH) it40.xs)
def vo:Cm Fl:=((((ac "place").b fun v43=>((ac "there").b fun v41=>(Cm.p []).b fun vs42=>Cm.p (v41::vs42)).b fun vs44=>Cm.p (v43::vs44)).b fun vs45=>kO vs45).b fun v46=>Cm.p (Fl.ret v46))
def qB:Cm Fl:=(au (nB) (au (nE) (au (nH) (vo))))
def lp:Fc:=gS ["self", "place", "stay", "size"] (qB)
theorem xV:FX 2 273 (lp) :=
 bQ.of C (k:=1) (jr ⟨_,_,_,rfl⟩ (Ge fun _ _ _ _=>∅) ∅ rfl) fun L =>
 (ag (ak (.inl ∅) (aw C (dL ["self"] ∅ ∅ (bj C rfl (.name _ _) (aa ∅ ∅)) (fun _=>(aW (.inl ∅))) (bN ∅) (fun _=>(eZ (aV C (aO C ∅ ic (lG C) ∅ (aw C (aC C aM (ax ∅ ∅) rfl) (aa ∅ ∅) (fun _ _=>rfl)) ai rfl rfl ∅ ∅) (cD ai) ∅))) (fun _=>(aw C (aC C aM (ax ∅ ∅) rfl) (aa ∅ ∅) (fun _ _=>rfl))) (fun _=>rfl)) am (fun _ _=>rfl)) rfl) (ag (ak (.inl ∅) (aO C ∅ fB (iN C) ∅ (ax ∅ ∅) (ae (aa ∅ ∅) (ae (aO C ∅ l9 (qW C) ∅ (aa ∅ ∅) ai rfl rfl ∅ ∅) ai ∅) ∅) rfl rfl ∅ ∅) rfl) (ag (dS (fR C rfl ∅ eg (ae (aa ∅ ∅) ai ∅) ∅) (aW (.inl ∅)) (al (dI C (aw C (aC C je (ax ∅ ∅) rfl) (az C (aa ∅ ∅) (aa ∅ ∅) cI) (fun _ _=>rfl)) (aC C je (ax ∅ ∅) rfl) (az C (aa ∅ ∅) (aa ∅ ∅) cI) rfl)) (fun _=>rfl)) (al (aX (dR (ae (aa ∅ ∅) (ae (aa ∅ ∅) ai ∅) ∅)))))))
def ky:Cm V:=be ["size", "self"] (((((ac "self").b fun v2=>aA "racks" v2).b fun v3=>(Cm.p []).b fun vs4=>Cm.p (v3::vs4)).b fun vs1=>bn vs1).b fun v5=>cQ v5) (an "page") (((((ac "self").b fun v6=>aA "racks" v6).b fun v7=>(ac "page").b fun v8=>aj v7 v8).b fun v9=>aA "size" v9).b fun v10=>(ac "size").b fun v11=>(aL .Eq v10 v11).b fun x12=>Cm.p x12) (ac "page")
def kT:Cm Fl:=((ky).b fun v13=>Cm.p (Fl.ret v13))
def jg:Cm Fl:=(kT)
def dj:Fc:=gS ["self", "size"] (jg)
theorem jo:FX 1 197 (dj) :=
 bQ.of C (k:=0) (jr ⟨_,_,_,rfl⟩ (yp fun _ _=>∅) ∅ rfl) fun L =>
 (al (aX (dL ["size", "self"] ∅ ∅ (bj C rfl (.name _ _) (bT (bv:=(.builtin "sorted")) C ∅ cg ∅ ∅ ∅ (ar _) (ae (aC C aM (ax ∅ ∅) rfl) ai ∅) ∅ (fun A ι q s vs cvs ha R hv=>cT C (ha.hd rfl) R hv))) (fun _=>(aW (.inl ∅))) (bN ∅) (fun _=>(eZ (aV C (aC C dk (aw C (aC C aM (ax ∅ ∅) rfl) (aa ∅ ∅) (fun _ _=>rfl)) rfl) (ax ∅ ∅) ∅))) (fun _=>(aa ∅ ∅)) (fun _=>rfl))))
def mK:Cm V:=be [] ((((ac "self").b fun v1=>aA "taken" v1).b fun v2=>(Cm.p []).b fun vs3=>Cm.p (v2::vs3)).b fun vs4=>lW vs4) (jp "slot" "one") ((ac "one").b fun v5=>bE v5) (ac "slot")
def vv:Cm Fl:=((mK).b fun v6=>Cm.p (Fl.ret v6))
def qE:Cm Fl:=(vv)
def iF:Fc:=gS ["self"] (qE)
theorem qV:FX 1 140 (iF) :=
 bQ.of C (k:=0) (jr ⟨_,_,_,rfl⟩ (BE fun _=>∅) ∅ rfl) fun L =>
 (al (aX (dL [] ∅ ∅ (zP C rfl ∅ lE (ae (aC C du (aa ∅ ∅) rfl) ai ∅) ∅) (fun _=>(ub rfl (.inl ∅) (.inl ∅))) (AO ∅ ∅) (fun _=>(eZ (gr (aa ∅ ∅) rfl))) (fun _=>(aa ∅ ∅)) (fun _=>rfl))))
def oN:Cm V:=be [] (((ac "self").b fun v2=>aA "taken" v2).b fun v3=>cQ v3) (an "one") ((ac "one").b fun v4=>bE v4) (ac "one")
def wu:Cm Fl:=((((oN).b fun v5=>(Cm.p []).b fun vs6=>Cm.p (v5::vs6)).b fun vs1=>fg vs1).b fun v7=>Cm.p (Fl.ret v7))
def sS:Cm Fl:=(wu)
def bK:Fc:=gS ["self"] (sS)
theorem ez:FX 1 130 (bK) :=
 bQ.of C (k:=0) (jr ⟨_,_,_,rfl⟩ (BE fun _=>∅) ∅ rfl) fun L =>
 (al (aX (bT (bv:=(.builtin "len")) C ∅ fK ∅ ∅ ∅ (ar _) (ae (dL [] ∅ ∅ (bj C rfl (.name _ _) (aC C du (aa ∅ ∅) rfl)) (fun _=>(aW (.inl ∅))) (bN ∅) (fun _=>(eZ (gr (aa ∅ ∅) rfl))) (fun _=>(aa ∅ ∅)) (fun _=>rfl)) ai ∅) ∅ (fun A ι q s vs cvs ha R hv=>iW C R hv))))
def ii:Cm Fl:=((((ac "self").b fun v2=>aA "plan" v2).b fun v3=>(aJ "Plan" "per" v3).b fun _=>((ac "size").b fun v4=>(Cm.p []).b fun vs5=>Cm.p (v4::vs5)).b fun vs1=>aD (gB) (v3::vs1)).b fun v6=>(an "per" v6).b fun _=>Cm.p Fl.next)
def mq:Cm Fl:=(((ac "self").b fun v8=>(aJ "Room" "of_size" v8).b fun _=>((ac "size").b fun v9=>(Cm.p []).b fun vs10=>Cm.p (v9::vs10)).b fun vs7=>aD (dj) (v8::vs7)).b fun v11=>(an "pages" v11).b fun _=>Cm.p Fl.next)
def hX:Cm V:=be ["self"] ((ac "pages").b fun v13=>cQ v13) (an "page") (Cm.p true) ((((ac "self").b fun v15=>aA "racks" v15).b fun v16=>(ac "page").b fun v17=>aj v16 v17).b fun v18=>(aJ "Shelf" "out" v18).b fun _=>(Cm.p []).b fun vs14=>aD (bK) (v18::vs14))
def mr:Cm Fl:=((((hX).b fun v19=>(Cm.p []).b fun vs20=>Cm.p (v19::vs20)).b fun vs12=>zC vs12).b fun v21=>(an "many" v21).b fun _=>Cm.p Fl.next)
def hY:Cm V:=be ["self"] ((ac "pages").b fun v23=>cQ v23) (an "page") (Cm.p true) (((((((ac "self").b fun v25=>aA "racks" v25).b fun v26=>(ac "page").b fun v27=>aj v26 v27).b fun v28=>(aJ "Shelf" "out" v28).b fun _=>(Cm.p []).b fun vs24=>aD (bK) (v28::vs24)).b fun v29=>xK v29).b fun v32=>((ac "page").b fun v30=>(Cm.p []).b fun vs31=>Cm.p (v30::vs31)).b fun vs33=>Cm.p (v32::vs33)).b fun vs34=>kO vs34)
def mw:Cm Fl:=((((hY).b fun v35=>(Cm.p []).b fun vs36=>Cm.p (v35::vs36)).b fun vs22=>bn vs22).b fun v37=>(an "ranks" v37).b fun _=>Cm.p Fl.next)
def hZ:Cm V:=be [] (((ac "ranks").b fun v39=>((((ac "many").b fun v41=>(ac "per").b fun v42=>cS v41 v42).b fun v43=>(Cm.p (V.int 1)).b fun v44=>FW v43 v44).b fun v45=>(ac "per").b fun v46=>dG v45 v46).b fun v40=>wY v39 v40).b fun v47=>cQ v47) (an "rank") (Cm.p true) ((ac "rank").b fun v48=>(Cm.p (V.int 1)).b fun v49=>aj v48 v49)
def ij:Cm Fl:=((((hZ).b fun v50=>(Cm.p []).b fun vs51=>Cm.p (v50::vs51)).b fun vs38=>bn vs38).b fun v52=>(an "stay" v52).b fun _=>Cm.p Fl.next)
def ik:Cm Fl:=(((Cm.p []).b fun vs53=>dz vs53).b fun v54=>(an "moves" v54).b fun _=>Cm.p Fl.next)
def hG:Cm Fl:=(((ac "moves").b fun v66=>(bC v66).b fun kd84=>if kd84=true then ((ac "self").b fun v68=>(aJ "Room" "moved" v68).b fun _=>(((ac "self").b fun v70=>(aJ "Room" "begin" v70).b fun _=>((((ac "self").b fun v71=>aA "racks" v71).b fun v72=>(ac "page").b fun v73=>aj v72 v73).b fun v76=>((ac "slot").b fun v74=>(Cm.p []).b fun vs75=>Cm.p (v74::vs75)).b fun vs77=>Cm.p (v76::vs77)).b fun vs69=>aD (eJ) (v70::vs69)).b fun v82=>((ac "stay").b fun v80=>((ac "size").b fun v78=>(Cm.p []).b fun vs79=>Cm.p (v78::vs79)).b fun vs81=>Cm.p (v80::vs81)).b fun vs83=>Cm.p (v82::vs83)).b fun vs67=>aD (lp) (v68::vs67)).b fun v85=>eB v66 v85 else Cm.stk).b fun _=>Cm.p Fl.next)
def fq:Cm Fl:=(((ac "page").b fun v56=>(ac "stay").b fun v57=>(aL .NotIn v56 v57).b fun x58=>Cm.p x58).b fun b87=>if b87 then ((((((ac "self").b fun v60=>aA "racks" v60).b fun v61=>(ac "page").b fun v62=>aj v61 v62).b fun v63=>(aJ "Shelf" "gone" v63).b fun _=>(Cm.p []).b fun vs59=>aD (iF) (v63::vs59)).b fun v64=>cQ v64).b fun it86=>bH it86.g (an "slot") (hG) it86.xs) else (Cm.p Fl.next))
def mx:Cm Fl:=(((ac "pages").b fun v55=>cQ v55).b fun it88=>bH it88.g (an "page") (fq) it88.xs)
def hH:Cm Fl:=(((ac "page").b fun v90=>(ac "stay").b fun v91=>(aL .NotIn v90 v91).b fun x92=>Cm.p x92).b fun b98=>if b98 then ((((ac "self").b fun v94=>aA "racks" v94).b fun v95=>(bC v95).b fun kd96=>if kd96=false then (ac "page").b fun v97=>jF v95 v97 else Cm.stk).b fun _=>Cm.p Fl.next) else (Cm.p Fl.next))
def my:Cm Fl:=(((ac "pages").b fun v89=>cQ v89).b fun it99=>bH it99.g (an "page") (hH) it99.xs)
def tx:Cm Fl:=((ac "moves").b fun v100=>Cm.p (Fl.ret v100))
def oV:Cm Fl:=(au (ii) (au (mq) (au (mr) (au (mw) (au (ij) (au (ik) (au (mx) (au (my) (tx)))))))))
def j5:Fc:=gS ["self", "size"] (oV)
theorem vX:FX 3 268 (j5) :=
 bQ.of C (k:=2) (jr ⟨_,_,_,rfl⟩ (yp fun _ _=>∅) ∅ rfl) fun L =>
 (ag (ak (.inl ∅) (aO C ∅ ka (pZ C) ∅ (aC C eP (ax ∅ ∅) rfl) (ae (aa ∅ ∅) ai ∅) rfl rfl ∅ ∅) rfl) (ag (ak (.inl ∅) (aO C ∅ gh (jo C) ∅ (ax ∅ ∅) (ae (aa ∅ ∅) ai ∅) rfl rfl ∅ ∅) rfl) (ag (ak (.inl ∅) (bT (bv:=(.builtin "sum")) C ∅ Au ∅ ∅ ∅ (ar _) (ae (dL ["self"] ∅ ∅ (bj C rfl (.name _ _) (aa ∅ ∅)) (fun _=>(aW (.inl ∅))) (bN ∅) (fun _=>jZ) (fun _=>(aO C ∅ cL (ez C) ∅ (aw C (aC C aM (ax ∅ ∅) rfl) (aa ∅ ∅) (fun _ _=>rfl)) ai rfl rfl ∅ ∅)) (fun _=>rfl)) ai ∅) ∅ (fun A ι q s vs cvs ha R hv=>Cy (ha.hd rfl) R hv)) rfl) (ag (ak (.inl ∅) (bT (bv:=(.builtin "sorted")) C ∅ cg ∅ ∅ ∅ (ar _) (ae (dL ["self"] ∅ ∅ (bj C rfl (.name _ _) (aa ∅ ∅)) (fun _=>(aW (.inl ∅))) (bN ∅) (fun _=>jZ) (fun _=>(dR (ae (sC (aO C ∅ cL (ez C) ∅ (aw C (aC C aM (ax ∅ ∅) rfl) (aa ∅ ∅) (fun _ _=>rfl)) ai rfl rfl ∅ ∅)) (ae (aa ∅ ∅) ai ∅) ∅))) (fun _=>rfl)) ai ∅) ∅ (fun A ι q s vs cvs ha R hv=>cT C (ha.hd rfl) R hv)) rfl) (ag (ak (.inl ∅) (bT (bv:=(.builtin "sorted")) C ∅ cg ∅ ∅ ∅ (ar _) (ae (dL [] ∅ ∅ (bj C rfl (.name _ _) (Cq C (aa ∅ ∅) (az C (az C (az C (aa ∅ ∅) (aa ∅ ∅) cI) am EM) (aa ∅ ∅) eV))) (fun _=>(aW (.inl ∅))) (bN ∅) (fun _=>jZ) (fun _=>(aw C (aa ∅ ∅) am (fun _ _=>rfl))) (fun _=>rfl)) ai ∅) ∅ (fun A ι q s vs cvs ha R hv=>cT C (ha.hd rfl) R hv)) rfl) (ag (ak (.inl ∅) (cD ai) rfl) (ag (dS (bj C rfl (.name _ _) (aa ∅ ∅)) (aW (.inl ∅)) (al (cj (aV C (aa ∅ ∅) (aa ∅ ∅) ∅) (al (dS (bj C rfl (.name _ _) (aO C ∅ lZ (qV C) ∅ (aw C (aC C aM (ax ∅ ∅) rfl) (aa ∅ ∅) (fun _ _=>rfl)) ai rfl rfl ∅ ∅)) (aW (.inl ∅)) (al (dM (eU C true gx (iV C) (aa ∅ ∅) (aO C ∅ tg (xV C) ∅ (ax ∅ ∅) (ae (aO C ∅ fB (iN C) ∅ (ax ∅ ∅) (ae (aw C (aC C aM (ax ∅ ∅) rfl) (aa ∅ ∅) (fun _ _=>rfl)) (ae (aa ∅ ∅) ai ∅) ∅) rfl rfl ∅ ∅) (ae (aa ∅ ∅) (ae (aa ∅ ∅) ai ∅) ∅) ∅) rfl rfl ∅ ∅) rfl rfl ∅ ∅ ∅) rfl rfl)) (fun _=>rfl))) aP)) (fun _=>rfl)) (ag (dS (bj C rfl (.name _ _) (aa ∅ ∅)) (aW (.inl ∅)) (al (cj (aV C (aa ∅ ∅) (aa ∅ ∅) ∅) (al (dM (eU C false lg (pB C) (aC C aM (ax ∅ ∅) rfl) (aa ∅ ∅) rfl rfl ∅ ∅ ∅) rfl rfl)) aP)) (fun _=>rfl)) (al (aX (aa ∅ ∅)))))))))))
def mI:Cm V:=be ["self"] (((((ac "self").b fun v2=>aA "racks" v2).b fun v3=>(Cm.p []).b fun vs4=>Cm.p (v3::vs4)).b fun vs1=>bn vs1).b fun v5=>cQ v5) (an "page") (((((ac "self").b fun v7=>aA "racks" v7).b fun v8=>(ac "page").b fun v9=>aj v8 v9).b fun v10=>(aJ "Shelf" "out" v10).b fun _=>(Cm.p []).b fun vs6=>aD (bK) (v10::vs6)).b fun v11=>(Cm.p (V.int 0)).b fun v12=>(aL .Eq v11 v12).b fun x13=>Cm.p x13) (ac "page")
def nu:Cm Fl:=((mI).b fun v14=>Cm.p (Fl.ret v14))
def jf:Cm Fl:=(nu)
def bW:Fc:=gS ["self"] (jf)
theorem dA:FX 2 192 (bW) :=
 bQ.of C (k:=1) (jr ⟨_,_,_,rfl⟩ (BE fun _=>∅) ∅ rfl) fun L =>
 (al (aX (dL ["self"] ∅ ∅ (bj C rfl (.name _ _) (bT (bv:=(.builtin "sorted")) C ∅ cg ∅ ∅ ∅ (ar _) (ae (aC C aM (ax ∅ ∅) rfl) ai ∅) ∅ (fun A ι q s vs cvs ha R hv=>cT C (ha.hd rfl) R hv))) (fun _=>(aW (.inl ∅))) (bN ∅) (fun _=>(eZ (aV C (aO C ∅ cL (ez C) ∅ (aw C (aC C aM (ax ∅ ∅) rfl) (aa ∅ ∅) (fun _ _=>rfl)) ai rfl rfl ∅ ∅) am ∅))) (fun _=>(aa ∅ ∅)) (fun _=>rfl))))
def wt:Cm Fl:=((((Cm.p (V.int 0)).b fun v1=>(ac "slot").b fun v2=>(aL .LtE v1 v2).b fun x3=>if x3 then ((((ac "self").b fun v5=>aA "taken" v5).b fun v6=>(Cm.p []).b fun vs7=>Cm.p (v6::vs7)).b fun vs4=>fg vs4).b fun v8=>(aL .Lt v2 v8).b fun x9=>Cm.p (V.bool x9) else Cm.p (V.bool false)).b fun v13=>(bE v13).b fun b14=>if b14 then (((ac "self").b fun v10=>aA "taken" v10).b fun v11=>(ac "slot").b fun v12=>aj v11 v12) else Cm.p v13).b fun v15=>Cm.p (Fl.ret v15))
def sR:Cm Fl:=(wt)
def jK:Fc:=gS ["self", "slot"] (sR)
theorem sX:FX 1 154 (jK) :=
 bQ.of C (k:=0) (jr ⟨_,_,_,rfl⟩ (yp fun _ _=>∅) ∅ rfl) fun L =>
 (al (aX (kr (pw (Cp C am (aa ∅ ∅) (bT (bv:=(.builtin "len")) C ∅ fK ∅ ∅ ∅ (ar _) (ae (aC C du (aa ∅ ∅) rfl) ai ∅) ∅ (fun A ι q s vs cvs ha R hv=>iW C R hv)) ∅) (ry (aw C (aC C du (aa ∅ ∅) rfl) (aa ∅ ∅) (fun _ _=>rfl)))))))
def vg:Cm Fl:=(((ac "place").b fun v3=>(((ac "self").b fun v1=>aA "plan" v1).b fun v2=>aA "length" v2).b fun v4=>dG v3 v4).b fun v5=>(an "page" v5).b fun _=>Cm.p Fl.next)
def vh:Cm Fl:=(((ac "page").b fun v7=>((ac "self").b fun v6=>aA "racks" v6).b fun v8=>(aL .NotIn v7 v8).b fun x9=>Cm.p x9).b fun b12=>if b12 then (((Cm.p (V.str "no shelf is there")).b fun v10=>(Cm.p []).b fun vs11=>Cm.p (v10::vs11)).b fun _=>gE "NotOut") else (Cm.p Fl.next))
def vj:Cm Fl:=((((ac "self").b fun v13=>aA "racks" v13).b fun v14=>(ac "page").b fun v15=>aj v14 v15).b fun v16=>(an "shelf" v16).b fun _=>Cm.p Fl.next)
def vk:Cm Fl:=(((ac "place").b fun v19=>(((ac "self").b fun v17=>aA "plan" v17).b fun v18=>aA "length" v18).b fun v20=>bM v19 v20).b fun v21=>(an "step" v21).b fun _=>Cm.p Fl.next)
def vm:Cm Fl:=(((((ac "step").b fun v23=>((ac "shelf").b fun v22=>aA "size" v22).b fun v24=>bM v23 v24).b fun v25=>(Cm.p (V.int 0)).b fun v26=>(aL .NotEq v25 v26).b fun x27=>Cm.p x27).b fun b38=>if b38 then Cm.p true else (((((ac "shelf").b fun v29=>(aJ "Shelf" "has" v29).b fun _=>(((ac "step").b fun v31=>((ac "shelf").b fun v30=>aA "size" v30).b fun v32=>dG v31 v32).b fun v33=>(Cm.p []).b fun vs34=>Cm.p (v33::vs34)).b fun vs28=>aD (jK) (v29::vs28)).b fun v35=>bE v35).b fun b36=>Cm.p (!b36)).b fun b37=>if b37 then Cm.p true else (Cm.p false))).b fun b41=>if b41 then (((Cm.p (V.str "no thing begins there")).b fun v39=>(Cm.p []).b fun vs40=>Cm.p (v39::vs40)).b fun _=>gE "NotOut") else (Cm.p Fl.next))
def vn:Cm Fl:=((((ac "shelf").b fun v47=>(((ac "step").b fun v43=>((ac "shelf").b fun v42=>aA "size" v42).b fun v44=>dG v43 v44).b fun v45=>(Cm.p []).b fun vs46=>Cm.p (v45::vs46)).b fun vs48=>Cm.p (v47::vs48)).b fun vs49=>kO vs49).b fun v50=>Cm.p (Fl.ret v50))
def qA:Cm Fl:=(au (vg) (au (vh) (au (vj) (au (vk) (au (vm) (vn))))))
def iC:Fc:=gS ["self", "place"] (qA)
theorem qU:FX 2 211 (iC) :=
 bQ.of C (k:=1) (jr ⟨_,_,_,rfl⟩ (yp fun _ _=>∅) ∅ rfl) fun L =>
 (ag (ak (.inl ∅) (az C (aa ∅ ∅) (aC C fQ (aC C eP (aa ∅ ∅) rfl) rfl) eV) rfl) (ag (cj (aV C (aa ∅ ∅) (aC C aM (aa ∅ ∅) rfl) ∅) (al (fo C rfl ∅ rV ∅ qh ∅ (ae lR ai ∅) ∅ ∅ (by intro q vs q' h;cases h;decide))) aP) (ag (ak (.inl ∅) (aw C (aC C aM (aa ∅ ∅) rfl) (aa ∅ ∅) (fun _ _=>rfl)) rfl) (ag (ak (.inl ∅) (az C (aa ∅ ∅) (aC C fQ (aC C eP (aa ∅ ∅) rfl) rfl) cu) rfl) (ag (cj (fG (fL (aV C (az C (aa ∅ ∅) (aC C dk (aa ∅ ∅) rfl) cu) am ∅) (fL (io (gr (aO C ∅ mX (sX C) ∅ (aa ∅ ∅) (ae (az C (aa ∅ ∅) (aC C dk (aa ∅ ∅) rfl) eV) ai ∅) rfl rfl ∅ ∅) rfl)) jY))) (al (fo C rfl ∅ rV ∅ qh ∅ (ae lR ai ∅) ∅ ∅ (by intro q vs q' h;cases h;decide))) aP) (al (aX (dR (ae (aa ∅ ∅) (ae (az C (aa ∅ ∅) (aC C dk (aa ∅ ∅) rfl) eV) ai ∅) ∅)))))))))
def vr:Cm Fl:=(((((ac "self").b fun v2=>(aJ "Shelf" "has" v2).b fun _=>((ac "slot").b fun v3=>(Cm.p []).b fun vs4=>Cm.p (v3::vs4)).b fun vs1=>aD (jK) (v2::vs1)).b fun v5=>bE v5).b fun b6=>Cm.p (!b6)).b fun b9=>if b9 then (((Cm.p (V.str "no such slot is out")).b fun v7=>(Cm.p []).b fun vs8=>Cm.p (v7::vs8)).b fun _=>gE "NotOut") else (Cm.p Fl.next))
def vt:Cm Fl:=((Cm.p (V.bool false)).b fun v10=>((ac "self").b fun v11=>aA "taken" v11).b fun v12=>(ac "slot").b fun v13=>(bu v12 v13 v10).b fun _=>Cm.p Fl.next)
def lB:Cm Fl:=(au (vr) (vt))
def lq:Fc:=gS ["self", "slot"] (lB)
theorem xX:FX 2 161 (lq) :=
 bQ.of C (k:=1) (jr ⟨_,_,_,rfl⟩ (yp fun _ _=>∅) ∅ rfl) fun L =>
 (ag (cj (io (gr (aO C ∅ mX (sX C) ∅ (aa ∅ ∅) (ae (aa ∅ ∅) ai ∅) rfl rfl ∅ ∅) rfl)) (al (fo C rfl ∅ rV ∅ qh ∅ (ae lR ai ∅) ∅ ∅ (by intro q vs q' h;cases h;decide))) aP) (al (dI C bP (aC C du (aa ∅ ∅) rfl) (aa ∅ ∅) rfl)))
def jt:Cm Fl:=(((ac "self").b fun v2=>(aJ "Room" "found" v2).b fun _=>((ac "place").b fun v3=>(Cm.p []).b fun vs4=>Cm.p (v3::vs4)).b fun vs1=>aD (iC) (v2::vs1)).b fun v5=>(an "both" v5).b fun _=>Cm.p Fl.next)
def ju:Cm Fl:=(((ac "both").b fun v6=>(Cm.p (V.int 0)).b fun v7=>aj v6 v7).b fun v8=>(an "shelf" v8).b fun _=>Cm.p Fl.next)
def jv:Cm Fl:=(((ac "shelf").b fun v10=>(aJ "Shelf" "give" v10).b fun _=>(((ac "both").b fun v11=>(Cm.p (V.int 1)).b fun v12=>aj v11 v12).b fun v13=>(Cm.p []).b fun vs14=>Cm.p (v13::vs14)).b fun vs9=>aD (lq) (v10::vs9)).b fun _=>Cm.p Fl.next)
def fJ:Cm V:=be ["shelf", "self"] (((ac "self").b fun v16=>(aJ "Room" "empty_pages" v16).b fun _=>(Cm.p []).b fun vs15=>aD (bW) (v16::vs15)).b fun v17=>cQ v17) (an "page") (((((ac "self").b fun v18=>aA "racks" v18).b fun v19=>(ac "page").b fun v20=>aj v19 v20).b fun v21=>aA "size" v21).b fun v23=>((ac "shelf").b fun v22=>aA "size" v22).b fun v24=>(aL .Eq v23 v24).b fun x25=>Cm.p x25) (ac "page")
def jw:Cm Fl:=((fJ).b fun v26=>(an "others" v26).b fun _=>Cm.p Fl.next)
def jx:Cm Fl:=(((((ac "shelf").b fun v28=>(aJ "Shelf" "out" v28).b fun _=>(Cm.p []).b fun vs27=>aD (bK) (v28::vs27)).b fun v29=>(Cm.p (V.int 0)).b fun v30=>(aL .Eq v29 v30).b fun x31=>Cm.p x31).b fun b39=>if b39 then (((((ac "others").b fun v33=>(Cm.p []).b fun vs34=>Cm.p (v33::vs34)).b fun vs32=>fg vs32).b fun v35=>(Cm.p (V.int 1)).b fun v36=>(aL .Gt v35 v36).b fun x37=>Cm.p x37).b fun b38=>if b38 then (Cm.p true) else Cm.p false) else Cm.p false).b fun b46=>if b46 then ((((ac "self").b fun v41=>aA "racks" v41).b fun v42=>(bC v42).b fun kd44=>if kd44=false then ((ac "shelf").b fun v43=>aA "page" v43).b fun v45=>jF v42 v45 else Cm.stk).b fun _=>Cm.p Fl.next) else (Cm.p Fl.next))
def kL:Cm Fl:=(au (jt) (au (ju) (au (jv) (au (jw) (jx)))))
def di:Fc:=gS ["self", "place"] (kL)
theorem r6:FX 3 230 (di) :=
 bQ.of C (k:=2) (jr ⟨_,_,_,rfl⟩ (yp fun _ _=>∅) ∅ rfl) fun L =>
 (ag (ak (.inl ∅) (aO C ∅ lY (qU C) ∅ (ax ∅ ∅) (ae (aa ∅ ∅) ai ∅) rfl rfl ∅ ∅) rfl) (ag (ak (.inr ⟨∅,∅⟩) (aw C (aa ∅ ∅) am (fun _ _=>rfl)) rfl) (ag (dM (aO C ∅ tj (xX C) ∅ (ax ∅ ∅) (ae (aw C (aa ∅ ∅) am (fun _ _=>rfl)) ai ∅) rfl rfl ∅ ∅) rfl rfl) (ag (fM ["shelf", "self"] ∅ ∅ (bj C rfl (.name _ _) (aO C ∅ cP (dA C) ∅ (ax ∅ ∅) ai rfl rfl ∅ ∅)) (fun _=>(aW (.inl ∅))) (bN ∅) (fun _=>(eZ (aV C (aC C dk (aw C (aC C aM (ax ∅ ∅) rfl) (aa ∅ ∅) (fun _ _=>rfl)) rfl) (aC C dk (ax ∅ ∅) rfl) ∅))) (fun _=>(aa ∅ ∅)) (fun _=>rfl) rfl ∅) (al (cj (fG (jX (aV C (aO C ∅ cL (ez C) ∅ (ax ∅ ∅) ai rfl rfl ∅ ∅) am ∅) (jX (aV C (bT (bv:=(.builtin "len")) C ∅ fK ∅ ∅ ∅ (ar _) (ae (aa ∅ ∅) ai ∅) ∅ (fun A ι q s vs cvs ha R hv=>iW C R hv)) am ∅) qm))) (al (dM (eU C false lg (pB C) (aC C aM (ax ∅ ∅) rfl) (aC C wJ (ax ∅ ∅) rfl) rfl rfl ∅ ∅ ∅) rfl rfl)) aP))))))
def wh:Cm Fl:=((((ac "self").b fun v2=>(aJ "Room" "found" v2).b fun _=>((ac "place").b fun v3=>(Cm.p []).b fun vs4=>Cm.p (v3::vs4)).b fun vs1=>aD (iC) (v2::vs1)).b fun v5=>(Cm.p (V.int 0)).b fun v6=>aj v5 v6).b fun v7=>(an "shelf" v7).b fun _=>Cm.p Fl.next)
def wi:Cm Fl:=((((Cm.p (V.int 0)).b fun v8=>(ac "step").b fun v9=>(aL .LtE v8 v9).b fun x10=>if x10 then ((ac "shelf").b fun v11=>aA "size" v11).b fun v12=>(aL .Lt v9 v12).b fun x13=>Cm.p x13 else Cm.p false).b fun b14=>Cm.p (!b14)).b fun b17=>if b17 then (((Cm.p (V.str "no such step")).b fun v15=>(Cm.p []).b fun vs16=>Cm.p (v15::vs16)).b fun _=>gE "OutOfThing") else (Cm.p Fl.next))
def wj:Cm Fl:=(((ac "place").b fun v18=>(ac "step").b fun v19=>cS v18 v19).b fun v20=>Cm.p (Fl.ret v20))
def sL:Cm Fl:=(au (wh) (au (wi) (wj)))
def jI:Fc:=gS ["self", "place", "step"] (sL)
theorem sV:FX 3 249 (jI) :=
 bQ.of C (k:=2) (jr ⟨_,_,_,rfl⟩ (D8 fun _ _ _=>∅) ∅ rfl) fun L =>
 (ag (ak (.inl ∅) (aw C (aO C ∅ lY (qU C) ∅ (aa ∅ ∅) (ae (aa ∅ ∅) ai ∅) rfl rfl ∅ ∅) am (fun _ _=>rfl)) rfl) (ag (cj (io (CC C am (aa ∅ ∅) (aC C dk (aa ∅ ∅) rfl) ∅)) (al (fo C rfl ∅ vT ∅ vK ∅ (ae lR ai ∅) ∅ ∅ (by intro q vs q' h;cases h;decide))) aP) (al (aX (az C (aa ∅ ∅) (aa ∅ ∅) cI)))))
def wo:Cm Fl:=((((ac "self").b fun v1=>aA "cells" v1).b fun v2=>((ac "self").b fun v5=>(aJ "Room" "cell" v5).b fun _=>((ac "place").b fun v8=>((ac "step").b fun v6=>(Cm.p []).b fun vs7=>Cm.p (v6::vs7)).b fun vs9=>Cm.p (v8::vs9)).b fun vs4=>aD (jI) (v5::vs4)).b fun v3=>aj v2 v3).b fun v10=>Cm.p (Fl.ret v10))
def sP:Cm Fl:=(wo)
def jJ:Fc:=gS ["self", "place", "step"] (sP)
theorem zt:FX 4 256 (jJ) :=
 bQ.of C (k:=3) (jr ⟨_,_,_,rfl⟩ (D8 fun _ _ _=>∅) ∅ rfl) fun L =>
 (al (aX (aw C (aC C je (aa ∅ ∅) rfl) (aO C ∅ mW (sV C) ∅ (aa ∅ ∅) (ae (aa ∅ ∅) (ae (aa ∅ ∅) ai ∅) ∅) rfl rfl ∅ ∅) (fun _ _=>rfl))))
def o5:Cm Fl:=(((ac "self").b fun v2=>(aJ "Room" "empty_pages" v2).b fun _=>(Cm.p []).b fun vs1=>aD (bW) (v2::vs1)).b fun v3=>(an "pages" v3).b fun _=>Cm.p Fl.next)
def oJ:Cm Fl:=((((ac "self").b fun v6=>aA "racks" v6).b fun v7=>(bC v7).b fun kd8=>if kd8=false then (ac "page").b fun v9=>jF v7 v9 else Cm.stk).b fun _=>Cm.p Fl.next)
def wq:Cm Fl:=(((ac "pages").b fun v4=>cQ v4).b fun it10=>bH it10.g (an "page") (oJ) it10.xs)
def wr:Cm Fl:=((((ac "pages").b fun v12=>(Cm.p []).b fun vs13=>Cm.p (v12::vs13)).b fun vs11=>fg vs11).b fun v14=>Cm.p (Fl.ret v14))
def sQ:Cm Fl:=(au (o5) (au (wq) (wr)))
def mQ:Fc:=gS ["self"] (sQ)
theorem zu:FX 3 237 (mQ) :=
 bQ.of C (k:=2) (jr ⟨_,_,_,rfl⟩ (BE fun _=>∅) ∅ rfl) fun L =>
 (ag (ak (.inl ∅) (aO C ∅ cP (dA C) ∅ (aa ∅ ∅) ai rfl rfl ∅ ∅) rfl) (ag (dS (bj C rfl (.name _ _) (aa ∅ ∅)) (aW (.inl ∅)) (al (dM (eU C false lg (pB C) (aC C aM (aa ∅ ∅) rfl) (aa ∅ ∅) rfl rfl ∅ ∅ ∅) rfl rfl)) (fun _=>rfl)) (al (aX (bT (bv:=(.builtin "len")) C ∅ fK ∅ ∅ ∅ (ar _) (ae (aa ∅ ∅) ai ∅) ∅ (fun A ι q s vs cvs ha R hv=>iW C R hv))))))
def vp:Cm Fl:=((ac "number").b fun v1=>((ac "self").b fun v2=>aA "cells" v2).b fun v9=>((ac "self").b fun v4=>(aJ "Room" "cell" v4).b fun _=>((ac "place").b fun v7=>((ac "step").b fun v5=>(Cm.p []).b fun vs6=>Cm.p (v5::vs6)).b fun vs8=>Cm.p (v7::vs8)).b fun vs3=>aD (jI) (v4::vs3)).b fun v10=>(bu v9 v10 v1).b fun _=>Cm.p Fl.next)
def qC:Cm Fl:=(vp)
def iE:Fc:=gS ["self", "place", "step", "number"] (qC)
theorem xW:FX 4 263 (iE) :=
 bQ.of C (k:=3) (jr ⟨_,_,_,rfl⟩ (Ge fun _ _ _ _=>∅) ∅ rfl) fun L =>
 (al (dI C (aa ∅ ∅) (aC C je (aa ∅ ∅) rfl) (aO C ∅ mW (sV C) ∅ (aa ∅ ∅) (ae (aa ∅ ∅) (ae (aa ∅ ∅) ai ∅) ∅) rfl rfl ∅ ∅) rfl))
def cY:Cm V:=be ["_law_size", "_law_model"] ((((ac "_law_model").b fun v2=>(Cm.p []).b fun vs3=>Cm.p (v2::vs3)).b fun vs1=>bn vs1).b fun v4=>cQ v4) (an "_law_page") ((((ac "_law_model").b fun v5=>(ac "_law_page").b fun v6=>aj v5 v6).b fun v7=>(Cm.p (V.int 0)).b fun v8=>aj v7 v8).b fun v9=>(ac "_law_size").b fun v10=>(aL .Eq v9 v10).b fun x11=>Cm.p x11) (ac "_law_page")
def ip:Cm Fl:=((cY).b fun v12=>(an "_law_pages" v12).b fun _=>Cm.p Fl.next)
def iq:Cm Fl:=(((ac "_law_length").b fun v13=>(ac "_law_size").b fun v14=>dG v13 v14).b fun v15=>(an "_law_slots" v15).b fun _=>Cm.p Fl.next)
def cZ:Cm V:=be ["_law_model"] ((ac "_law_pages").b fun v17=>cQ v17) (an "_law_page") (Cm.p true) ((((ac "_law_model").b fun v19=>(ac "_law_page").b fun v20=>aj v19 v20).b fun v21=>(Cm.p (V.int 1)).b fun v22=>aj v21 v22).b fun v23=>(bC v23).b fun kd24=>if kd24=true then (Cm.p (V.bool true)).b fun v25=>j4 v23 v25 else Cm.stk)
def ir:Cm Fl:=(((((((cZ).b fun v26=>(Cm.p []).b fun vs27=>Cm.p (v26::vs27)).b fun vs16=>zC vs16).b fun v28=>(ac "_law_slots").b fun v29=>cS v28 v29).b fun v30=>(Cm.p (V.int 1)).b fun v31=>FW v30 v31).b fun v32=>(ac "_law_slots").b fun v33=>dG v32 v33).b fun v34=>(an "_law_needed" v34).b fun _=>Cm.p Fl.next)
def db:Cm V:=be ["_law_model"] ((ac "_law_pages").b fun v36=>cQ v36) (an "_law_page") (Cm.p true) (((((((ac "_law_model").b fun v38=>(ac "_law_page").b fun v39=>aj v38 v39).b fun v40=>(Cm.p (V.int 1)).b fun v41=>aj v40 v41).b fun v42=>(bC v42).b fun kd43=>if kd43=true then (Cm.p (V.bool true)).b fun v44=>j4 v42 v44 else Cm.stk).b fun v45=>xK v45).b fun v48=>((ac "_law_page").b fun v46=>(Cm.p []).b fun vs47=>Cm.p (v46::vs47)).b fun vs49=>Cm.p (v48::vs49)).b fun vs50=>kO vs50)
def iu:Cm Fl:=(((((db).b fun v51=>(Cm.p []).b fun vs52=>Cm.p (v51::vs52)).b fun vs35=>bn vs35).b fun v53=>(ac "_law_needed").b fun v54=>wY v53 v54).b fun v55=>(an "_law_ranked" v55).b fun _=>Cm.p Fl.next)
def fc:Cm V:=be [] ((ac "_law_ranked").b fun v57=>cQ v57) (an "_law_pair") (Cm.p true) ((ac "_law_pair").b fun v58=>(Cm.p (V.int 1)).b fun v59=>aj v58 v59)
def iw:Cm Fl:=((((fc).b fun v60=>(Cm.p []).b fun vs61=>Cm.p (v60::vs61)).b fun vs56=>bn vs56).b fun v62=>(an "_law_stay" v62).b fun _=>Cm.p Fl.next)
def iy:Cm Fl:=(((Cm.p []).b fun vs63=>dz vs63).b fun v64=>(an "_law_moves" v64).b fun _=>Cm.p Fl.next)
def de:Cm V:=be ["_law_stay"] ((ac "_law_pages").b fun v65=>cQ v65) (an "_law_page") ((ac "_law_page").b fun v66=>(ac "_law_stay").b fun v67=>(aL .NotIn v66 v67).b fun x68=>Cm.p x68) (ac "_law_page")
def fe:Cm V:=be ["_law_model"] ((ac "_law_stay").b fun v80=>cQ v80) (an "_law_one") ((Cm.p (V.bool false)).b fun v85=>(((ac "_law_model").b fun v81=>(ac "_law_one").b fun v82=>aj v81 v82).b fun v83=>(Cm.p (V.int 1)).b fun v84=>aj v83 v84).b fun v86=>(aL .In v85 v86).b fun x87=>Cm.p x87) (ac "_law_one")
def cX:Cm Fl:=((((((ac "_law_model").b fun v73=>(ac "_law_page").b fun v74=>aj v73 v74).b fun v75=>(Cm.p (V.int 1)).b fun v76=>aj v75 v76).b fun v77=>(ac "_law_slot").b fun v78=>aj v77 v78).b fun v79=>bE v79).b fun b128=>if b128 then (au (((fe).b fun v88=>(Cm.p (V.int 0)).b fun v89=>aj v88 v89).b fun v90=>(an "_law_goal" v90).b fun _=>Cm.p Fl.next) (au (((((ac "_law_model").b fun v92=>(ac "_law_goal").b fun v93=>aj v92 v93).b fun v94=>(Cm.p (V.int 1)).b fun v95=>aj v94 v95).b fun v96=>(bC v96).b fun kd97=>if kd97=true then (Cm.p (V.bool false)).b fun v98=>rI v96 v98 else Cm.stk).b fun v99=>(an "_law_there" v99).b fun _=>Cm.p Fl.next) (au ((Cm.p (V.bool true)).b fun v100=>(((ac "_law_model").b fun v101=>(ac "_law_goal").b fun v102=>aj v101 v102).b fun v103=>(Cm.p (V.int 1)).b fun v104=>aj v103 v104).b fun v105=>(ac "_law_there").b fun v106=>(bu v105 v106 v100).b fun _=>Cm.p Fl.next) (((ac "_law_moves").b fun v108=>(bC v108).b fun kd126=>if kd126=true then (((((ac "_law_page").b fun v109=>(ac "_law_length").b fun v110=>dQ v109 v110).b fun v113=>((ac "_law_slot").b fun v111=>(ac "_law_size").b fun v112=>dQ v111 v112).b fun v114=>cS v113 v114).b fun v123=>((((ac "_law_goal").b fun v115=>(ac "_law_length").b fun v116=>dQ v115 v116).b fun v119=>((ac "_law_there").b fun v117=>(ac "_law_size").b fun v118=>dQ v117 v118).b fun v120=>cS v119 v120).b fun v121=>(Cm.p []).b fun vs122=>Cm.p (v121::vs122)).b fun vs124=>Cm.p (v123::vs124)).b fun vs125=>kO vs125).b fun v127=>eB v108 v127 else Cm.stk).b fun _=>Cm.p Fl.next)))) else (Cm.p Fl.next))
def fb:Cm Fl:=(au ((((ac "_law_slots").b fun v70=>(Cm.p []).b fun vs71=>Cm.p (v70::vs71)).b fun vs72=>cN vs72).b fun it129=>bH it129.g (an "_law_slot") (cX) it129.xs) (((ac "_law_model").b fun v131=>(bC v131).b fun kd132=>if kd132=false then (ac "_law_page").b fun v133=>jF v131 v133 else Cm.stk).b fun _=>Cm.p Fl.next))
def oE:Cm Fl:=(((de).b fun v69=>cQ v69).b fun it134=>bH it134.g (an "_law_page") (fb) it134.xs)
def oF:Cm Fl:=((ac "_law_moves").b fun v135=>Cm.p (Fl.ret v135))
def jO:Cm Fl:=(au (ip) (au (iq) (au (ir) (au (iu) (au (iw) (au (iy) (au (oE) (oF))))))))
def f9:Fc:=gS ["_law_model", "_law_length", "_law_size"] (jO)
theorem qX:FX 1 410 (f9) :=
 bQ.of C (k:=0) (jr ⟨_,_,_,rfl⟩ (D8 fun _ _ _=>∅) ∅ rfl) fun L =>
 (ag (fM ["_law_size", "_law_model"] ∅ ∅ (bj C rfl (.name _ _) (bT (bv:=(.builtin "sorted")) C ∅ cg ∅ ∅ ∅ (ar _) (ae (ax ∅ ∅) ai ∅) ∅ (fun A ι q s vs cvs ha R hv=>cT C (ha.hd rfl) R hv))) (fun _=>(aW (.inl ∅))) (bN ∅) (fun _=>(eZ (aV C (aw C (aw C (ax ∅ ∅) (aa ∅ ∅) (fun _ _=>rfl)) am (fun _ _=>rfl)) (ax ∅ ∅) ∅))) (fun _=>(aa ∅ ∅)) (fun _=>rfl) rfl ∅) (ag (ak (.inl ∅) (az C (aa ∅ ∅) (ax ∅ ∅) eV) rfl) (ag (ak (.inl ∅) (az C (az C (az C (bT (bv:=(.builtin "sum")) C ∅ Au ∅ ∅ ∅ (ar _) (ae (dL ["_law_model"] ∅ ∅ (bj C rfl (.name _ _) (aa ∅ ∅)) (fun _=>(aW (.inl ∅))) (bN ∅) (fun _=>jZ) (fun _=>(eU C true kx (nV C) (aw C (aw C (ax ∅ ∅) (aa ∅ ∅) (fun _ _=>rfl)) am (fun _ _=>rfl)) bP rfl rfl ∅ ∅ ∅)) (fun _=>rfl)) ai ∅) ∅ (fun A ι q s vs cvs ha R hv=>Cy (ha.hd rfl) R hv)) (aa ∅ ∅) cI) am EM) (aa ∅ ∅) eV) rfl) (ag (ak (.inl ∅) (Cq C (bT (bv:=(.builtin "sorted")) C ∅ cg ∅ ∅ ∅ (ar _) (ae (dL ["_law_model"] ∅ ∅ (bj C rfl (.name _ _) (aa ∅ ∅)) (fun _=>(aW (.inl ∅))) (bN ∅) (fun _=>jZ) (fun _=>(dR (ae (sC (eU C true kx (nV C) (aw C (aw C (ax ∅ ∅) (aa ∅ ∅) (fun _ _=>rfl)) am (fun _ _=>rfl)) bP rfl rfl ∅ ∅ ∅)) (ae (aa ∅ ∅) ai ∅) ∅))) (fun _=>rfl)) ai ∅) ∅ (fun A ι q s vs cvs ha R hv=>cT C (ha.hd rfl) R hv)) (aa ∅ ∅)) rfl) (ag (ak (.inr ⟨∅,∅⟩) (bT (bv:=(.builtin "sorted")) C ∅ cg ∅ ∅ ∅ (ar _) (ae (dL [] ∅ ∅ (bj C rfl (.name _ _) (aa ∅ ∅)) (fun _=>(aW (.inl ∅))) (bN ∅) (fun _=>jZ) (fun _=>(aw C (aa ∅ ∅) am (fun _ _=>rfl))) (fun _=>rfl)) ai ∅) ∅ (fun A ι q s vs cvs ha R hv=>cT C (ha.hd rfl) R hv)) rfl) (ag (ak (.inl ∅) (cD ai) rfl) (ag (dS (bj C rfl (.name _ _) (dL ["_law_stay"] ∅ ∅ (bj C rfl (.name _ _) (aa ∅ ∅)) (fun _=>(aW (.inl ∅))) (bN ∅) (fun _=>(eZ (aV C (aa ∅ ∅) (ax ∅ ∅) ∅))) (fun _=>(aa ∅ ∅)) (fun _=>rfl))) (aW (.inl ∅)) (ag (dS (fR C rfl ∅ eg (ae (aa ∅ ∅) ai ∅) ∅) (aW (.inl ∅)) (al (cj (gr (aw C (aw C (aw C (ax ∅ ∅) (aa ∅ ∅) (fun _ _=>rfl)) am (fun _ _=>rfl)) (aa ∅ ∅) (fun _ _=>rfl)) rfl) (ag (ak (.inl ∅) (aw C (dL ["_law_model"] ∅ ∅ (bj C rfl (.name _ _) (ax ∅ ∅)) (fun _=>(aW (.inl ∅))) (bN ∅) (fun _=>(eZ (aV C bP (aw C (aw C (ax ∅ ∅) (aa ∅ ∅) (fun _ _=>rfl)) am (fun _ _=>rfl)) ∅))) (fun _=>(aa ∅ ∅)) (fun _=>rfl)) am (fun _ _=>rfl)) rfl) (ag (ak (.inl ∅) (eU C true yA (AM C) (aw C (aw C (ax ∅ ∅) (aa ∅ ∅) (fun _ _=>rfl)) am (fun _ _=>rfl)) bP rfl rfl ∅ ∅ ∅) rfl) (ag (dI C bP (aw C (aw C (ax ∅ ∅) (aa ∅ ∅) (fun _ _=>rfl)) am (fun _ _=>rfl)) (aa ∅ ∅) rfl) (al (dM (eU C true gx (iV C) (aa ∅ ∅) (dR (ae (az C (az C (aa ∅ ∅) (aa ∅ ∅) iX) (az C (aa ∅ ∅) (ax ∅ ∅) iX) cI) (ae (az C (az C (aa ∅ ∅) (aa ∅ ∅) iX) (az C (aa ∅ ∅) (ax ∅ ∅) iX) cI) ai ∅) ∅)) rfl rfl ∅ ∅ ∅) rfl rfl))))) aP)) (fun _=>rfl)) (al (dM (eU C false lg (pB C) (ax ∅ ∅) (aa ∅ ∅) rfl rfl ∅ ∅ ∅) rfl rfl))) (fun _=>rfl)) (al (aX (aa ∅ ∅))))))))))
def pi:Cm Fl:=(((ac "_law_place").b fun v1=>(ac "_law_length").b fun v2=>dG v1 v2).b fun v3=>(an "_law_page" v3).b fun _=>Cm.p Fl.next)
def pj:Cm Fl:=(((ac "_law_model").b fun v4=>(ac "_law_page").b fun v5=>aj v4 v5).b fun v6=>(an "_law_row" v6).b fun _=>Cm.p Fl.next)
def pk:Cm Fl:=((Cm.p (V.bool false)).b fun v7=>((ac "_law_row").b fun v8=>(Cm.p (V.int 1)).b fun v9=>aj v8 v9).b fun v16=>(((ac "_law_place").b fun v10=>(ac "_law_length").b fun v11=>bM v10 v11).b fun v14=>((ac "_law_row").b fun v12=>(Cm.p (V.int 0)).b fun v13=>aj v12 v13).b fun v15=>dG v14 v15).b fun v17=>(bu v16 v17 v7).b fun _=>Cm.p Fl.next)
def oQ:Cm V:=be ["_law_row", "_law_model"] ((ac "_law_model").b fun v36=>gz v36) (an "_law_one") (((((ac "_law_model").b fun v18=>(ac "_law_one").b fun v19=>aj v18 v19).b fun v20=>(Cm.p (V.int 0)).b fun v21=>aj v20 v21).b fun v24=>((ac "_law_row").b fun v22=>(Cm.p (V.int 0)).b fun v23=>aj v22 v23).b fun v25=>(aL .Eq v24 v25).b fun x26=>Cm.p x26).b fun b35=>if b35 then (((Cm.p (V.bool true)).b fun v31=>(((ac "_law_model").b fun v27=>(ac "_law_one").b fun v28=>aj v27 v28).b fun v29=>(Cm.p (V.int 1)).b fun v30=>aj v29 v30).b fun v32=>(aL .NotIn v31 v32).b fun x33=>Cm.p x33).b fun b34=>if b34 then (Cm.p true) else Cm.p false) else Cm.p false) (ac "_law_one")
def pn:Cm Fl:=((oQ).b fun v37=>(an "_law_empty" v37).b fun _=>Cm.p Fl.next)
def po:Cm Fl:=((((Cm.p (V.bool true)).b fun v40=>((ac "_law_row").b fun v38=>(Cm.p (V.int 1)).b fun v39=>aj v38 v39).b fun v41=>(aL .NotIn v40 v41).b fun x42=>Cm.p x42).b fun b50=>if b50 then (((((ac "_law_empty").b fun v44=>(Cm.p []).b fun vs45=>Cm.p (v44::vs45)).b fun vs43=>fg vs43).b fun v46=>(Cm.p (V.int 1)).b fun v47=>(aL .Gt v46 v47).b fun x48=>Cm.p x48).b fun b49=>if b49 then (Cm.p true) else Cm.p false) else Cm.p false).b fun b55=>if b55 then (((ac "_law_model").b fun v52=>(bC v52).b fun kd53=>if kd53=false then (ac "_law_page").b fun v54=>jF v52 v54 else Cm.stk).b fun _=>Cm.p Fl.next) else (Cm.p Fl.next))
def sT:Cm Fl:=(au (pi) (au (pj) (au (pk) (au (pn) (po)))))
def gQ:Fc:=gS ["_law_model", "_law_length", "_law_place"] (sT)
theorem zx:FX 1 405 (gQ) :=
 bQ.of C (k:=0) (jr ⟨_,_,_,rfl⟩ (D8 fun _ _ _=>∅) ∅ rfl) fun L =>
 (ag (ak (.inl ∅) (az C (aa ∅ ∅) (aa ∅ ∅) eV) rfl) (ag (ak (.inr ⟨∅,∅⟩) (aw C (ax ∅ ∅) (aa ∅ ∅) (fun _ _=>rfl)) rfl) (ag (dI C bP (aw C (ax ∅ ∅) am (fun _ _=>rfl)) (az C (az C (aa ∅ ∅) (aa ∅ ∅) cu) (aw C (ax ∅ ∅) am (fun _ _=>rfl)) eV) rfl) (ag (zR C rfl ["_law_row", "_law_model"] ∅ ∅ (ax ∅ ∅) (fun _=>(D7 (yw (Fp C (uf C (uf C (xq ∅ ∅) (CA ∅ ∅) (fun _ _=>rfl)) zQ (fun _ _=>rfl)) (uf C (xq ∅ ∅) zQ (fun _ _=>rfl)) ∅) (yw (BB C D5 (uf C (uf C (xq ∅ ∅) (CA ∅ ∅) (fun _ _=>rfl)) zQ (fun _ _=>rfl)) ∅) D6)))) ∅ ∅ (fun _=>rfl) rfl ∅) (al (cj (fG (jX (aV C bP (aw C (ax ∅ ∅) am (fun _ _=>rfl)) ∅) (jX (aV C (bT (bv:=(.builtin "len")) C ∅ fK ∅ ∅ ∅ (ar _) (ae (aa ∅ ∅) ai ∅) ∅ (fun A ι q s vs cvs ha R hv=>iW C R hv)) am ∅) qm))) (al (dM (eU C false lg (pB C) (ax ∅ ∅) (aa ∅ ∅) rfl rfl ∅ ∅ ∅) rfl rfl)) aP))))))
def jT:Cm Fl:=(((((((ac "wish").b fun v2=>(Cm.p []).b fun vs3=>Cm.p (v2::vs3)).b fun vs1=>aD (qv) vs1).b fun v4=>bE v4).b fun b5=>Cm.p (!b5)).b fun b10=>if b10 then Cm.p true else (((ac "wish").b fun v6=>(Cm.p (V.int 1)).b fun v7=>(aL .Lt v6 v7).b fun x8=>Cm.p x8).b fun b9=>if b9 then Cm.p true else (Cm.p false))).b fun b13=>if b13 then (((Cm.p (V.str "a wish is from 1 on")).b fun v11=>(Cm.p []).b fun vs12=>Cm.p (v11::vs12)).b fun _=>gE "BadWish") else (Cm.p Fl.next))
def fS:Cm Fl:=(((ac "size").b fun v16=>(ac "wish").b fun v17=>(aL .GtE v16 v17).b fun x18=>Cm.p x18).b fun b20=>if b20 then ((ac "size").b fun v19=>Cm.p (Fl.ret v19)) else (Cm.p Fl.next))
def jU:Cm Fl:=((((ac "self").b fun v14=>aA "sizes" v14).b fun v15=>cQ v15).b fun it21=>bH it21.g (an "size") (fS) it21.xs)
def re:Cm Fl:=(((Cm.p (V.str "beyond the greatest size")).b fun v22=>(Cm.p []).b fun vs23=>Cm.p (v22::vs23)).b fun _=>gE "TooLarge")
def fz:Cm Fl:=(au (jT) (au (jU) (re)))
def fx:Fc:=gS ["self", "wish"] (fz)
theorem mn:FX 2 325 (fx) :=
 bQ.of C (k:=1) (jr ⟨_,_,_,rfl⟩ (yp fun _ _=>∅) ∅ rfl) fun L =>
 (ag (cj (fG (fL (io (gr (bG C ∅ uT ∅ ∅ (yb C) ∅ (ae (aa ∅ ∅) ai ∅) ∅) rfl)) (fL (aV C (aa ∅ ∅) am ∅) jY))) (al (fo C rfl ∅ As ∅ zM ∅ (ae lR ai ∅) ∅ ∅ (by intro q vs q' h;cases h;decide))) aP) (ag (dS (bj C rfl (.name _ _) (aC C pM (aa ∅ ∅) rfl)) (aW (.inl ∅)) (al (cj (aV C (aa ∅ ∅) (aa ∅ ∅) ∅) (al (aX (aa ∅ ∅))) aP)) (fun _=>rfl)) (al (fo C rfl ∅ m9 ∅ yo ∅ (ae lR ai ∅) ∅ ∅ (by intro q vs q' h;cases h;decide)))))
def oM:Cm V:=be ["self"] (((((ac "self").b fun v1=>aA "plan" v1).b fun v2=>aA "pages" v2).b fun v3=>(Cm.p []).b fun vs4=>Cm.p (v3::vs4)).b fun vs5=>cN vs5) (an "page") ((ac "page").b fun v7=>((ac "self").b fun v6=>aA "racks" v6).b fun v8=>(aL .NotIn v7 v8).b fun x9=>Cm.p x9) (ac "page")
def wn:Cm Fl:=((oM).b fun v10=>Cm.p (Fl.ret v10))
def sO:Cm Fl:=(wn)
def gP:Fc:=gS ["self"] (sO)
theorem nq:FX 1 187 (gP) :=
 bQ.of C (k:=0) (jr ⟨_,_,_,rfl⟩ (BE fun _=>∅) ∅ rfl) fun L =>
 (al (aX (dL ["self"] ∅ ∅ (fR C rfl ∅ eg (ae (aC C pL (aC C eP (ax ∅ ∅) rfl) rfl) ai ∅) ∅) (fun _=>(aW (.inl ∅))) (bN ∅) (fun _=>(eZ (aV C (aa ∅ ∅) (aC C aM (ax ∅ ∅) rfl) ∅))) (fun _=>(aa ∅ ∅)) (fun _=>rfl))))
def vw:Cm Fl:=((ac "page").b fun v1=>(ac "self").b fun v2=>(bV "page" v1 v2).b fun _=>Cm.p Fl.next)
def vx:Cm Fl:=((ac "size").b fun v3=>(ac "self").b fun v4=>(bV "size" v3 v4).b fun _=>Cm.p Fl.next)
def vy:Cm Fl:=(((((Cm.p (V.bool false)).b fun v5=>(Cm.p []).b fun vs6=>Cm.p (v5::vs6)).b fun vs7=>dz vs7).b fun v8=>(ac "slots").b fun v9=>dQ v8 v9).b fun v10=>(ac "self").b fun v11=>(bV "taken" v10 v11).b fun _=>Cm.p Fl.next)
def qF:Cm Fl:=(au (vw) (au (vx) (vy)))
def iG:Fc:=gS ["self", "page", "size", "slots"] (qF)
theorem xY:FX 1 125 (iG) :=
 bQ.of C (k:=0) (jr ⟨_,_,_,rfl⟩ (Ge fun _ _ _ _=>∅) ∅ rfl) fun L =>
 (ag (eA C BK (aa ∅ ∅) (aa ∅ ∅) rfl) (ag (eA C BM (aa ∅ ∅) (aa ∅ ∅) rfl) (al (eA C Ah (az C (cD (ae bP ai ∅)) (aa ∅ ∅) iX) (aa ∅ ∅) rfl))))
def nv:Cm Fl:=(((ac "self").b fun v2=>(aJ "Room" "pile" v2).b fun _=>(Cm.p []).b fun vs1=>aD (gP) (v2::vs1)).b fun v3=>(an "pages" v3).b fun _=>Cm.p Fl.next)
def js:Cm Fl:=(((ac "pages").b fun v5=>((Cm.p []).b fun vs4=>dz vs4).b fun v6=>(aL .Eq v5 v6).b fun x7=>Cm.p x7).b fun b11=>if b11 then (((ac "self").b fun v9=>(aJ "Room" "empty_pages" v9).b fun _=>(Cm.p []).b fun vs8=>aD (bW) (v9::vs8)).b fun v10=>(an "pages" v10).b fun _=>Cm.p Fl.next) else (Cm.p Fl.next))
def gk:Cm Fl:=(((ac "pages").b fun v13=>((Cm.p []).b fun vs12=>dz vs12).b fun v14=>(aL .Eq v13 v14).b fun x15=>Cm.p x15).b fun b18=>if b18 then (((Cm.p (V.str "no page is free")).b fun v16=>(Cm.p []).b fun vs17=>Cm.p (v16::vs17)).b fun _=>gE "NoRoom") else (Cm.p Fl.next))
def ny:Cm Fl:=(((((ac "pages").b fun v20=>(Cm.p (V.int 0)).b fun v21=>aj v20 v21).b fun v31=>((ac "size").b fun v29=>((((ac "self").b fun v23=>aA "plan" v23).b fun v24=>(aJ "Plan" "per" v24).b fun _=>((ac "size").b fun v25=>(Cm.p []).b fun vs26=>Cm.p (v25::vs26)).b fun vs22=>aD (gB) (v24::vs22)).b fun v27=>(Cm.p []).b fun vs28=>Cm.p (v27::vs28)).b fun vs30=>Cm.p (v29::vs30)).b fun vs32=>Cm.p (v31::vs32)).b fun vs19=>mV "Shelf" (iG) vs19).b fun v33=>((ac "self").b fun v34=>aA "racks" v34).b fun v37=>((ac "pages").b fun v35=>(Cm.p (V.int 0)).b fun v36=>aj v35 v36).b fun v38=>(bu v37 v38 v33).b fun _=>Cm.p Fl.next)
def nA:Cm Fl:=((((ac "self").b fun v39=>aA "racks" v39).b fun v40=>((ac "pages").b fun v42=>(Cm.p (V.int 0)).b fun v43=>aj v42 v43).b fun v41=>aj v40 v41).b fun v44=>Cm.p (Fl.ret v44))
def iL:Cm Fl:=(au (nv) (au (js) (au (gk) (au (ny) (nA)))))
def iD:Fc:=gS ["self", "size"] (iL)
theorem xU:FX 3 218 (iD) :=
 bQ.of C (k:=2) (jr ⟨_,_,_,rfl⟩ (yp fun _ _=>∅) ∅ rfl) fun L =>
 (ag (ak (.inl ∅) (aO C ∅ ji (nq C) ∅ (aa ∅ ∅) ai rfl rfl ∅ ∅) rfl) (ag (cj (aV C (aa ∅ ∅) (cD ai) ∅) (al (ak (.inl ∅) (aO C ∅ cP (dA C) ∅ (aa ∅ ∅) ai rfl rfl ∅ ∅) rfl)) aP) (ag (cj (aV C (aa ∅ ∅) (cD ai) ∅) (al (fo C rfl ∅ oi ∅ vJ ∅ (ae lR ai ∅) ∅ ∅ (by intro q vs q' h;cases h;decide))) aP) (ag (dI C (xk C ∅ Dn An ∅ ∅ zg Aj ∅ (xY C) ∅ (ae (aw C (aa ∅ ∅) am (fun _ _=>rfl)) (ae (aa ∅ ∅) (ae (aO C ∅ ka (pZ C) ∅ (aC C eP (aa ∅ ∅) rfl) (ae (aa ∅ ∅) ai ∅) rfl rfl ∅ ∅) ai ∅) ∅) ∅) ∅) (aC C aM (aa ∅ ∅) rfl) (aw C (aa ∅ ∅) am (fun _ _=>rfl)) rfl) (al (aX (aw C (aC C aM (aa ∅ ∅) rfl) (aw C (aa ∅ ∅) am (fun _ _=>rfl)) (fun _ _=>rfl))))))))
def o6:Cm Fl:=((((ac "self").b fun v2=>aA "plan" v2).b fun v3=>(aJ "Plan" "size_for" v3).b fun _=>((ac "places").b fun v4=>(Cm.p []).b fun vs5=>Cm.p (v4::vs5)).b fun vs1=>aD (fx) (v3::vs1)).b fun v6=>(an "size" v6).b fun _=>Cm.p Fl.next)
def o7:Cm Fl:=((Cm.p V.none).b fun v7=>(an "best" v7).b fun _=>Cm.p Fl.next)
def j3:Cm Fl:=(au ((((ac "self").b fun v13=>aA "racks" v13).b fun v14=>(ac "page").b fun v15=>aj v14 v15).b fun v16=>(an "shelf" v16).b fun _=>Cm.p Fl.next) (((((ac "shelf").b fun v18=>(aJ "Shelf" "free" v18).b fun _=>(Cm.p []).b fun vs17=>aD (eK) (v18::vs17)).b fun v20=>((Cm.p []).b fun vs19=>dz vs19).b fun v21=>(aL .NotEq v20 v21).b fun x22=>Cm.p x22).b fun b36=>if b36 then ((((ac "best").b fun v23=>(Cm.p V.none).b fun v24=>(aL .Is v23 v24).b fun x25=>Cm.p x25).b fun b34=>if b34 then Cm.p true else ((((ac "shelf").b fun v27=>(aJ "Shelf" "out" v27).b fun _=>(Cm.p []).b fun vs26=>aD (bK) (v27::vs26)).b fun v30=>((ac "best").b fun v29=>(aJ "Shelf" "out" v29).b fun _=>(Cm.p []).b fun vs28=>aD (bK) (v29::vs28)).b fun v31=>(aL .Gt v30 v31).b fun x32=>Cm.p x32).b fun b33=>if b33 then Cm.p true else (Cm.p false))).b fun b35=>if b35 then (Cm.p true) else Cm.p false) else Cm.p false).b fun b38=>if b38 then ((ac "shelf").b fun v37=>(an "best" v37).b fun _=>Cm.p Fl.next) else (Cm.p Fl.next)))
def o8:Cm Fl:=((((ac "self").b fun v9=>(aJ "Room" "of_size" v9).b fun _=>((ac "size").b fun v10=>(Cm.p []).b fun vs11=>Cm.p (v10::vs11)).b fun vs8=>aD (dj) (v9::vs8)).b fun v12=>cQ v12).b fun it39=>bH it39.g (an "page") (j3) it39.xs)
def kg:Cm Fl:=(((ac "best").b fun v40=>(Cm.p V.none).b fun v41=>(aL .Is v40 v41).b fun x42=>Cm.p x42).b fun b48=>if b48 then (((ac "self").b fun v44=>(aJ "Room" "fresh" v44).b fun _=>((ac "size").b fun v45=>(Cm.p []).b fun vs46=>Cm.p (v45::vs46)).b fun vs43=>aD (iD) (v44::vs43)).b fun v47=>(an "best" v47).b fun _=>Cm.p Fl.next) else (Cm.p Fl.next))
def kh:Cm Fl:=(((ac "self").b fun v50=>(aJ "Room" "begin" v50).b fun _=>((ac "best").b fun v55=>(((ac "best").b fun v52=>(aJ "Shelf" "take" v52).b fun _=>(Cm.p []).b fun vs51=>aD (f8) (v52::vs51)).b fun v53=>(Cm.p []).b fun vs54=>Cm.p (v53::vs54)).b fun vs56=>Cm.p (v55::vs56)).b fun vs49=>aD (eJ) (v50::vs49)).b fun v57=>(an "place" v57).b fun _=>Cm.p Fl.next)
def oK:Cm Fl:=((Cm.p (V.int 0)).b fun v61=>((ac "self").b fun v62=>aA "cells" v62).b fun v65=>((ac "place").b fun v63=>(ac "step").b fun v64=>cS v63 v64).b fun v66=>(bu v65 v66 v61).b fun _=>Cm.p Fl.next)
def ki:Cm Fl:=((((ac "size").b fun v58=>(Cm.p []).b fun vs59=>Cm.p (v58::vs59)).b fun vs60=>cN vs60).b fun it67=>bH it67.g (an "step") (oK) it67.xs)
def o9:Cm Fl:=((ac "place").b fun v68=>Cm.p (Fl.ret v68))
def gT:Cm Fl:=(au (o6) (au (o7) (au (o8) (au (kg) (au (kh) (au (ki) (o9)))))))
def d8:Fc:=gS ["self", "places"] (gT)
theorem zv:FX 4 225 (d8) :=
 bQ.of C (k:=3) (jr ⟨_,_,_,rfl⟩ (yp fun _ _=>∅) ∅ rfl) fun L =>
 (ag (ak (.inl ∅) (aO C ∅ jh (mn C) ∅ (aC C eP (aa ∅ ∅) rfl) (ae (aa ∅ ∅) ai ∅) rfl rfl ∅ ∅) rfl) (ag (ak (.inl ∅) xl rfl) (ag (dS (bj C rfl (.name _ _) (aO C ∅ gh (jo C) ∅ (aa ∅ ∅) (ae (aa ∅ ∅) ai ∅) rfl rfl ∅ ∅)) (aW (.inl ∅)) (ag (ak (.inl ∅) (aw C (aC C aM (aa ∅ ∅) rfl) (aa ∅ ∅) (fun _ _=>rfl)) rfl) (al (cj (fG (jX (aV C (aO C ∅ ic (lG C) ∅ (aa ∅ ∅) ai rfl rfl ∅ ∅) (cD ai) ∅) (jX (fG (fL (aV C (aa ∅ ∅) xl ∅) (fL (aV C (aO C ∅ cL (ez C) ∅ (aa ∅ ∅) ai rfl rfl ∅ ∅) (aO C ∅ cL (ez C) ∅ (aa ∅ ∅) ai rfl rfl ∅ ∅) ∅) jY))) qm))) (al (ak (.inl ∅) (aa ∅ ∅) rfl)) aP))) (fun _=>rfl)) (ag (cj (aV C (aa ∅ ∅) xl ∅) (al (ak (.inl ∅) (aO C ∅ tf (xU C) ∅ (aa ∅ ∅) (ae (aa ∅ ∅) ai ∅) rfl rfl ∅ ∅) rfl)) aP) (ag (ak (.inl ∅) (aO C ∅ fB (iN C) ∅ (aa ∅ ∅) (ae (aa ∅ ∅) (ae (aO C ∅ l9 (qW C) ∅ (aa ∅ ∅) ai rfl rfl ∅ ∅) ai ∅) ∅) rfl rfl ∅ ∅) rfl) (ag (dS (fR C rfl ∅ eg (ae (aa ∅ ∅) ai ∅) ∅) (aW (.inl ∅)) (al (dI C am (aC C je (aa ∅ ∅) rfl) (az C (aa ∅ ∅) (aa ∅ ∅) cI) rfl)) (fun _=>rfl)) (al (aX (aa ∅ ∅)))))))))
def zE:Cm Fl:=(AF (((ac "_law_room").b fun v2=>(aJ "Room" "wish" v2).b fun _=>((ac "_law_wish").b fun v3=>(Cm.p []).b fun vs4=>Cm.p (v3::vs4)).b fun vs1=>aD (d8) (v2::vs1)).b fun v5=>Cm.p (Fl.ret v5)) (fun c=>if c = "TooLarge" then (((Cm.p (V.int 2)).b fun v8=>xK v8).b fun v9=>Cm.p (Fl.ret v9)) else if c = "NoRoom" then (((Cm.p (V.int 1)).b fun v6=>xK v6).b fun v7=>Cm.p (Fl.ret v7)) else Cm.stk))
def wR:Cm Fl:=(zE)
def kH:Fc:=gS ["_law_room", "_law_wish"] (wR)
theorem B2:FX 5 431 (kH) :=
 bQ.of C (k:=4) (jr ⟨_,_,_,rfl⟩ (yp fun _ _=>∅) ∅ rfl) fun L =>
 (al (EN (al (aX (aO C ∅ uN (zv C) ∅ (aa ∅ ∅) (ae (aa ∅ ∅) ai ∅) rfl rfl ∅ ∅))) (fun c=>(CZ (Fg (a:=61) C ∅ oi ∅ ∅ ∅ (Cu (a:=61) C ∅ m9 ∅ ∅ ∅ (al (aX (sC am))))) (CZ (Cu (a:=85) C ∅ oi ∅ ∅ ∅ (al (aX (sC am)))) C5)))))
def vA:Cm Fl:=(((Cm.p []).b fun vs1=>dz vs1).b fun v2=>(an "_law_found" v2).b fun _=>Cm.p Fl.next)
def fU:Cm Fl:=(((((ac "_law_row").b fun v18=>(Cm.p (V.int 1)).b fun v19=>aj v18 v19).b fun v20=>(ac "_law_slot").b fun v21=>aj v20 v21).b fun v22=>bE v22).b fun b42=>if b42 then (((ac "_law_found").b fun v24=>(bC v24).b fun kd40=>if kd40=true then (((((ac "_law_page").b fun v25=>(ac "_law_length").b fun v26=>dQ v25 v26).b fun v31=>((ac "_law_slot").b fun v29=>((ac "_law_row").b fun v27=>(Cm.p (V.int 0)).b fun v28=>aj v27 v28).b fun v30=>dQ v29 v30).b fun v32=>cS v31 v32).b fun v37=>(((ac "_law_row").b fun v33=>(Cm.p (V.int 0)).b fun v34=>aj v33 v34).b fun v35=>(Cm.p []).b fun vs36=>Cm.p (v35::vs36)).b fun vs38=>Cm.p (v37::vs38)).b fun vs39=>kO vs39).b fun v41=>eB v24 v41 else Cm.stk).b fun _=>Cm.p Fl.next) else (Cm.p Fl.next))
def iY:Cm Fl:=(au (((ac "_law_model").b fun v7=>(ac "_law_page").b fun v8=>aj v7 v8).b fun v9=>(an "_law_row" v9).b fun _=>Cm.p Fl.next) (((((((ac "_law_row").b fun v11=>(Cm.p (V.int 1)).b fun v12=>aj v11 v12).b fun v13=>(Cm.p []).b fun vs14=>Cm.p (v13::vs14)).b fun vs10=>fg vs10).b fun v15=>(Cm.p []).b fun vs16=>Cm.p (v15::vs16)).b fun vs17=>cN vs17).b fun it43=>bH it43.g (an "_law_slot") (fU) it43.xs))
def vB:Cm Fl:=(((((ac "_law_model").b fun v4=>(Cm.p []).b fun vs5=>Cm.p (v4::vs5)).b fun vs3=>bn vs3).b fun v6=>cQ v6).b fun it44=>bH it44.g (an "_law_page") (iY) it44.xs)
def vC:Cm Fl:=((ac "_law_found").b fun v45=>Cm.p (Fl.ret v45))
def qG:Cm Fl:=(au (vA) (au (vB) (vC)))
def ga:Fc:=gS ["_law_model", "_law_length"] (qG)
theorem qY:FX 1 400 (ga) :=
 bQ.of C (k:=0) (jr ⟨_,_,_,rfl⟩ (yp fun _ _=>∅) ∅ rfl) fun L =>
 (ag (ak (.inl ∅) (cD ai) rfl) (ag (dS (bj C rfl (.name _ _) (bT (bv:=(.builtin "sorted")) C ∅ cg ∅ ∅ ∅ (ar _) (ae (aa ∅ ∅) ai ∅) ∅ (fun A ι q s vs cvs ha R hv=>cT C (ha.hd rfl) R hv))) (aW (.inl ∅)) (ag (ak (.inl ∅) (aw C (aa ∅ ∅) (aa ∅ ∅) (fun _ _=>rfl)) rfl) (al (dS (fR C rfl ∅ eg (ae (bT (bv:=(.builtin "len")) C ∅ fK ∅ ∅ ∅ (ar _) (ae (aw C (aa ∅ ∅) am (fun _ _=>rfl)) ai ∅) ∅ (fun A ι q s vs cvs ha R hv=>iW C R hv)) ai ∅) ∅) (aW (.inl ∅)) (al (cj (gr (aw C (aw C (aa ∅ ∅) am (fun _ _=>rfl)) (aa ∅ ∅) (fun _ _=>rfl)) rfl) (al (dM (eU C true gx (iV C) (aa ∅ ∅) (dR (ae (az C (az C (aa ∅ ∅) (aa ∅ ∅) iX) (az C (aa ∅ ∅) (aw C (aa ∅ ∅) am (fun _ _=>rfl)) iX) cI) (ae (aw C (aa ∅ ∅) am (fun _ _=>rfl)) ai ∅) ∅)) rfl rfl ∅ ∅ ∅) rfl rfl)) aP)) (fun _=>rfl)))) (fun _=>rfl)) (al (aX (aa ∅ ∅)))))
def gm:Cm Fl:=((((ac "self").b fun v2=>aA "plan" v2).b fun v3=>(aJ "Plan" "size_for" v3).b fun _=>((ac "places").b fun v4=>(Cm.p []).b fun vs5=>Cm.p (v4::vs5)).b fun vs1=>aD (fx) (v3::vs1)).b fun v6=>(an "size" v6).b fun _=>Cm.p Fl.next)
def fV:Cm V:=be ["self"] (((ac "self").b fun v9=>(aJ "Room" "of_size" v9).b fun _=>((ac "size").b fun v10=>(Cm.p []).b fun vs11=>Cm.p (v10::vs11)).b fun vs8=>aD (dj) (v9::vs8)).b fun v12=>cQ v12) (an "page") (Cm.p true) ((((((ac "self").b fun v15=>aA "racks" v15).b fun v16=>(ac "page").b fun v17=>aj v16 v17).b fun v18=>(aJ "Shelf" "free" v18).b fun _=>(Cm.p []).b fun vs14=>aD (eK) (v18::vs14)).b fun v19=>(Cm.p []).b fun vs20=>Cm.p (v19::vs20)).b fun vs13=>fg vs13)
def jV:Cm Fl:=((((fV).b fun v21=>(Cm.p []).b fun vs22=>Cm.p (v21::vs22)).b fun vs7=>zC vs7).b fun v23=>(an "free" v23).b fun _=>Cm.p Fl.next)
def fW:Cm V:=be ["size", "self"] (((ac "self").b fun v25=>(aJ "Room" "empty_pages" v25).b fun _=>(Cm.p []).b fun vs24=>aD (bW) (v25::vs24)).b fun v26=>cQ v26) (an "page") (((((ac "self").b fun v27=>aA "racks" v27).b fun v28=>(ac "page").b fun v29=>aj v28 v29).b fun v30=>aA "size" v30).b fun v31=>(ac "size").b fun v32=>(aL .NotEq v31 v32).b fun x33=>Cm.p x33) (ac "page")
def jW:Cm Fl:=((fW).b fun v34=>(an "others" v34).b fun _=>Cm.p Fl.next)
def rh:Cm Fl:=(((ac "free").b fun v52=>((((((ac "self").b fun v37=>(aJ "Room" "pile" v37).b fun _=>(Cm.p []).b fun vs36=>aD (gP) (v37::vs36)).b fun v38=>(Cm.p []).b fun vs39=>Cm.p (v38::vs39)).b fun vs35=>fg vs35).b fun v43=>(((ac "others").b fun v41=>(Cm.p []).b fun vs42=>Cm.p (v41::vs42)).b fun vs40=>fg vs40).b fun v44=>cS v43 v44).b fun v50=>(((ac "self").b fun v46=>aA "plan" v46).b fun v47=>(aJ "Plan" "per" v47).b fun _=>((ac "size").b fun v48=>(Cm.p []).b fun vs49=>Cm.p (v48::vs49)).b fun vs45=>aD (gB) (v47::vs45)).b fun v51=>dQ v50 v51).b fun v53=>cS v52 v53).b fun v54=>Cm.p (Fl.ret v54))
def ib:Cm Fl:=(au (gm) (au (jV) (au (jW) (rh))))
def fy:Fc:=gS ["self", "places"] (ib)
theorem tv:FX 3 242 (fy) :=
 bQ.of C (k:=2) (jr ⟨_,_,_,rfl⟩ (yp fun _ _=>∅) ∅ rfl) fun L =>
 (ag (ak (.inr ⟨∅,∅⟩) (aO C ∅ jh (mn C) ∅ (aC C eP (ax ∅ ∅) rfl) (ae (aa ∅ ∅) ai ∅) rfl rfl ∅ ∅) rfl) (ag (ak (.inl ∅) (bT (bv:=(.builtin "sum")) C ∅ Au ∅ ∅ ∅ (ar _) (ae (dL ["self"] ∅ ∅ (bj C rfl (.name _ _) (aO C ∅ gh (jo C) ∅ (ax ∅ ∅) (ae (ax ∅ ∅) ai ∅) rfl rfl ∅ ∅)) (fun _=>(aW (.inl ∅))) (bN ∅) (fun _=>jZ) (fun _=>(bT (bv:=(.builtin "len")) C ∅ fK ∅ ∅ ∅ (ar _) (ae (aO C ∅ ic (lG C) ∅ (aw C (aC C aM (ax ∅ ∅) rfl) (aa ∅ ∅) (fun _ _=>rfl)) ai rfl rfl ∅ ∅) ai ∅) ∅ (fun A ι q s vs cvs ha R hv=>iW C R hv))) (fun _=>rfl)) ai ∅) ∅ (fun A ι q s vs cvs ha R hv=>Cy (ha.hd rfl) R hv)) rfl) (ag (fM ["size", "self"] ∅ ∅ (bj C rfl (.name _ _) (aO C ∅ cP (dA C) ∅ (ax ∅ ∅) ai rfl rfl ∅ ∅)) (fun _=>(aW (.inl ∅))) (bN ∅) (fun _=>(eZ (aV C (aC C dk (aw C (aC C aM (ax ∅ ∅) rfl) (aa ∅ ∅) (fun _ _=>rfl)) rfl) (ax ∅ ∅) ∅))) (fun _=>(aa ∅ ∅)) (fun _=>rfl) rfl ∅) (al (aX (az C (aa ∅ ∅) (az C (az C (bT (bv:=(.builtin "len")) C ∅ fK ∅ ∅ ∅ (ar _) (ae (aO C ∅ ji (nq C) ∅ (ax ∅ ∅) ai rfl rfl ∅ ∅) ai ∅) ∅ (fun A ι q s vs cvs ha R hv=>iW C R hv)) (bT (bv:=(.builtin "len")) C ∅ fK ∅ ∅ ∅ (ar _) (ae (aa ∅ ∅) ai ∅) ∅ (fun A ι q s vs cvs ha R hv=>iW C R hv)) cI) (aO C ∅ ka (pZ C) ∅ (aC C eP (ax ∅ ∅) rfl) (ae (ax ∅ ∅) ai ∅) rfl rfl ∅ ∅) iX) cI))))))
def yj:Cm Fl:=((Cm.p (V.int 0)).b fun v1=>(an "_law_left_here" v1).b fun _=>Cm.p Fl.next)
def fT:Cm Fl:=((((ac "_law_page").b fun v7=>(ac "_law_model").b fun v8=>(aL .NotIn v7 v8).b fun x9=>Cm.p x9).b fun b18=>if b18 then Cm.p true else (((Cm.p (V.bool true)).b fun v14=>(((ac "_law_model").b fun v10=>(ac "_law_page").b fun v11=>aj v10 v11).b fun v12=>(Cm.p (V.int 1)).b fun v13=>aj v12 v13).b fun v15=>(aL .NotIn v14 v15).b fun x16=>Cm.p x16).b fun b17=>if b17 then Cm.p true else (Cm.p false))).b fun b45=>if b45 then (((ac "_law_left_here").b fun v23=>(((ac "_law_drawn").b fun v19=>(Cm.p (V.int 1)).b fun v20=>aj v19 v20).b fun v21=>(ac "_law_size").b fun v22=>dG v21 v22).b fun v24=>cS v23 v24).b fun v25=>(an "_law_left_here" v25).b fun _=>Cm.p Fl.next) else (((((ac "_law_model").b fun v26=>(ac "_law_page").b fun v27=>aj v26 v27).b fun v28=>(Cm.p (V.int 0)).b fun v29=>aj v28 v29).b fun v30=>(ac "_law_size").b fun v31=>(aL .Eq v30 v31).b fun x32=>Cm.p x32).b fun b44=>if b44 then (((ac "_law_left_here").b fun v41=>((((ac "_law_model").b fun v34=>(ac "_law_page").b fun v35=>aj v34 v35).b fun v36=>(Cm.p (V.int 1)).b fun v37=>aj v36 v37).b fun v38=>(bC v38).b fun kd39=>if kd39=true then (Cm.p (V.bool false)).b fun v40=>j4 v38 v40 else Cm.stk).b fun v42=>cS v41 v42).b fun v43=>(an "_law_left_here" v43).b fun _=>Cm.p Fl.next) else (Cm.p Fl.next)))
def yk:Cm Fl:=(((((ac "_law_drawn").b fun v2=>(Cm.p (V.int 0)).b fun v3=>aj v2 v3).b fun v4=>(Cm.p []).b fun vs5=>Cm.p (v4::vs5)).b fun vs6=>cN vs6).b fun it46=>bH it46.g (an "_law_page") (fT) it46.xs)
def yl:Cm Fl:=((ac "_law_left_here").b fun v47=>Cm.p (Fl.ret v47))
def uH:Cm Fl:=(au (yj) (au (yk) (yl)))
def pG:Fc:=gS ["_law_model", "_law_drawn", "_law_size"] (uH)
theorem AA:FX 1 417 (pG) :=
 bQ.of C (k:=0) (jr ⟨_,_,_,rfl⟩ (D8 fun _ _ _=>∅) ∅ rfl) fun L =>
 (ag (ak (.inl ∅) am rfl) (ag (dS (fR C rfl ∅ eg (ae (aw C (aa ∅ ∅) am (fun _ _=>rfl)) ai ∅) ∅) (aW (.inl ∅)) (al (cj (fG (fL (aV C (aa ∅ ∅) (aa ∅ ∅) ∅) (fL (aV C bP (aw C (aw C (aa ∅ ∅) (aa ∅ ∅) (fun _ _=>rfl)) am (fun _ _=>rfl)) ∅) jY))) (al (ak (.inl ∅) (az C (aa ∅ ∅) (az C (aw C (aa ∅ ∅) am (fun _ _=>rfl)) (aa ∅ ∅) eV) cI) rfl)) (al (cj (aV C (aw C (aw C (aa ∅ ∅) (aa ∅ ∅) (fun _ _=>rfl)) am (fun _ _=>rfl)) (aa ∅ ∅) ∅) (al (ak (.inl ∅) (az C (aa ∅ ∅) (eU C true kx (nV C) (aw C (aw C (aa ∅ ∅) (aa ∅ ∅) (fun _ _=>rfl)) am (fun _ _=>rfl)) bP rfl rfl ∅ ∅ ∅) cI) rfl)) aP)))) (fun _=>rfl)) (al (aX (aa ∅ ∅)))))
def hV:Cm Fl:=(((ac "_law_size").b fun v2=>(ac "_law_wish").b fun v3=>(aL .GtE v2 v3).b fun x4=>Cm.p x4).b fun b6=>if b6 then ((ac "_law_size").b fun v5=>Cm.p (Fl.ret v5)) else (Cm.p Fl.next))
def mG:Cm Fl:=(((ac "_law_sizes").b fun v1=>cQ v1).b fun it7=>bH it7.g (an "_law_size") (hV) it7.xs)
def tM:Cm Fl:=((Cm.p (V.int 0)).b fun v8=>Cm.p (Fl.ret v8))
def j9:Cm Fl:=(au (mG) (tM))
def dK:Fc:=gS ["_law_sizes", "_law_wish"] (j9)
theorem o4:FX 1 374 (dK) :=
 bQ.of C (k:=0) (jr ⟨_,_,_,rfl⟩ (yp fun _ _=>∅) ∅ rfl) fun L =>
 (ag (dS (bj C rfl (.name _ _) (aa ∅ ∅)) (aW (.inl ∅)) (al (cj (aV C (aa ∅ ∅) (aa ∅ ∅) ∅) (al (aX (aa ∅ ∅))) aP)) (fun _=>rfl)) (al (aX am)))
def wx:Cm Fl:=((((ac "_law_found").b fun v2=>vO "int" v2).b fun v7=>(bE v7).b fun b8=>if b8 then (((ac "_law_found").b fun v4=>vO "bool" v4).b fun v5=>(bE v5).b fun b6=>Cm.p (V.bool (!b6))) else Cm.p v7).b fun v9=>Cm.p (Fl.ret v9))
def ze:Cm Fl:=(wx)
def gR:Fc:=gS ["_law_found"] (ze)
theorem nr:FX 1 353 (gR) :=
 bQ.of C (k:=0) (jr ⟨_,_,_,rfl⟩ (BE fun _=>∅) ∅ rfl) fun L =>
 (al (aX (kr (pw (yr C AV ∅ fk ∅ At ∅ ∅ ∅ (aa ∅ ∅) ∅ ∅) (ry (EK (yr C y0 ∅ fk ∅ Bb ∅ ∅ ∅ (aa ∅ ∅) ∅ ∅)))))))
def rk:Cm Fl:=(((((ac "_law_drawn").b fun v2=>(Cm.p (V.int 2)).b fun v3=>aj v2 v3).b fun v6=>((ac "_law_wish").b fun v4=>(Cm.p []).b fun vs5=>Cm.p (v4::vs5)).b fun vs7=>Cm.p (v6::vs7)).b fun vs1=>aD (dK) vs1).b fun v8=>(an "_law_size" v8).b fun _=>Cm.p Fl.next)
def rn:Cm Fl:=(AF (((ac "_law_room").b fun v10=>(aJ "Room" "room_for" v10).b fun _=>((ac "_law_wish").b fun v11=>(Cm.p []).b fun vs12=>Cm.p (v11::vs12)).b fun vs9=>aD (fy) (v10::vs9)).b fun v13=>(an "_law_found" v13).b fun _=>Cm.p Fl.next) (fun c=>if c = "TooLarge" then (((ac "_law_size").b fun v14=>(Cm.p (V.int 0)).b fun v15=>(aL .Eq v14 v15).b fun x16=>Cm.p (V.bool x16)).b fun v17=>Cm.p (Fl.ret v17)) else Cm.stk))
def ym:Cm Fl:=((((ac "_law_size").b fun v18=>(Cm.p (V.int 0)).b fun v19=>(aL .Gt v18 v19).b fun x20=>Cm.p (V.bool x20)).b fun v36=>(bE v36).b fun b37=>if b37 then ((((ac "_law_found").b fun v22=>(Cm.p []).b fun vs23=>Cm.p (v22::vs23)).b fun vs21=>aD (gR) vs21).b fun v34=>(bE v34).b fun b35=>if b35 then ((ac "_law_found").b fun v31=>(((ac "_law_model").b fun v29=>((ac "_law_drawn").b fun v27=>((ac "_law_size").b fun v25=>(Cm.p []).b fun vs26=>Cm.p (v25::vs26)).b fun vs28=>Cm.p (v27::vs28)).b fun vs30=>Cm.p (v29::vs30)).b fun vs24=>aD (pG) vs24).b fun v32=>(aL .Eq v31 v32).b fun x33=>Cm.p (V.bool x33)) else Cm.p v34) else Cm.p v36).b fun v38=>Cm.p (Fl.ret v38))
def pS:Cm Fl:=(au (rk) (au (rn) (ym)))
def pH:Fc:=gS ["_law_room", "_law_model", "_law_drawn", "_law_wish"] (pS)
theorem AB:FX 4 424 (pH) :=
 bQ.of C (k:=3) (jr ⟨_,_,_,rfl⟩ (Ge fun _ _ _ _=>∅) ∅ rfl) fun L =>
 (ag (ak (.inl ∅) (bG C ∅ mh ∅ ∅ (o4 C) ∅ (ae (aw C (aa ∅ ∅) am (fun _ _=>rfl)) (ae (aa ∅ ∅) ai ∅) ∅) ∅) rfl) (ag (EN (al (ak (.inl ∅) (aO C ∅ pT (tv C) ∅ (aa ∅ ∅) (ae (aa ∅ ∅) ai ∅) rfl rfl ∅ ∅) rfl)) (fun c=>(CZ (Cu (a:=61) C ∅ m9 ∅ ∅ ∅ (al (aX (qi C (aa ∅ ∅) am ∅)))) C5))) (al (aX (kr (pw (qi C (aa ∅ ∅) am ∅) (pw (bG C ∅ kf ∅ ∅ (nr C) ∅ (ae (aa ∅ ∅) ai ∅) ∅) (ry (qi C (aa ∅ ∅) (bG C ∅ xO ∅ ∅ (AA C) ∅ (ae (aa ∅ ∅) (ae (aa ∅ ∅) (ae (aa ∅ ∅) ai ∅) ∅) ∅) ∅) ∅)))))))))
def oO:Cm V:=be ["_law_model"] (((ac "_law_pages").b fun v1=>(Cm.p []).b fun vs2=>Cm.p (v1::vs2)).b fun vs3=>cN vs3) (an "_law_page") ((ac "_law_page").b fun v4=>(ac "_law_model").b fun v5=>(aL .NotIn v4 v5).b fun x6=>Cm.p x6) (ac "_law_page")
def pe:Cm Fl:=((oO).b fun v7=>(an "_law_bare" v7).b fun _=>Cm.p Fl.next)
def oP:Cm V:=be ["_law_model"] ((((ac "_law_model").b fun v9=>(Cm.p []).b fun vs10=>Cm.p (v9::vs10)).b fun vs8=>bn vs8).b fun v11=>cQ v11) (an "_law_page") ((Cm.p (V.bool true)).b fun v16=>(((ac "_law_model").b fun v12=>(ac "_law_page").b fun v13=>aj v12 v13).b fun v14=>(Cm.p (V.int 1)).b fun v15=>aj v14 v15).b fun v17=>(aL .NotIn v16 v17).b fun x18=>Cm.p x18) (ac "_law_page")
def pf:Cm Fl:=((oP).b fun v19=>(an "_law_empty" v19).b fun _=>Cm.p Fl.next)
def ph:Cm Fl:=(((ac "_law_bare").b fun v21=>((Cm.p []).b fun vs20=>dz vs20).b fun v22=>(aL .NotEq v21 v22).b fun x23=>Cm.p x23).b fun b27=>if b27 then (((ac "_law_bare").b fun v24=>(Cm.p (V.int 0)).b fun v25=>aj v24 v25).b fun v26=>Cm.p (Fl.ret v26)) else (Cm.p Fl.next))
def wv:Cm Fl:=(((ac "_law_empty").b fun v29=>((Cm.p []).b fun vs28=>dz vs28).b fun v30=>(aL .NotEq v29 v30).b fun x31=>Cm.p x31).b fun b41=>if b41 then (au (((ac "_law_model").b fun v33=>(bC v33).b fun kd36=>if kd36=false then ((ac "_law_empty").b fun v34=>(Cm.p (V.int 0)).b fun v35=>aj v34 v35).b fun v37=>jF v33 v37 else Cm.stk).b fun _=>Cm.p Fl.next) (((ac "_law_empty").b fun v38=>(Cm.p (V.int 0)).b fun v39=>aj v38 v39).b fun v40=>Cm.p (Fl.ret v40))) else (Cm.p Fl.next))
def ww:Cm Fl:=(((Cm.p (V.int 1)).b fun v42=>xK v42).b fun v43=>Cm.p (Fl.ret v43))
def jN:Cm Fl:=(au (pe) (au (pf) (au (ph) (au (wv) (ww)))))
def jL:Fc:=gS ["_law_model", "_law_pages"] (jN)
theorem zw:FX 1 386 (jL) :=
 bQ.of C (k:=0) (jr ⟨_,_,_,rfl⟩ (yp fun _ _=>∅) ∅ rfl) fun L =>
 (ag (fM ["_law_model"] ∅ ∅ (fR C rfl ∅ eg (ae (aa ∅ ∅) ai ∅) ∅) (fun _=>(aW (.inl ∅))) (bN ∅) (fun _=>(eZ (aV C (aa ∅ ∅) (ax ∅ ∅) ∅))) (fun _=>(aa ∅ ∅)) (fun _=>rfl) rfl ∅) (ag (fM ["_law_model"] ∅ ∅ (bj C rfl (.name _ _) (bT (bv:=(.builtin "sorted")) C ∅ cg ∅ ∅ ∅ (ar _) (ae (ax ∅ ∅) ai ∅) ∅ (fun A ι q s vs cvs ha R hv=>cT C (ha.hd rfl) R hv))) (fun _=>(aW (.inl ∅))) (bN ∅) (fun _=>(eZ (aV C bP (aw C (aw C (ax ∅ ∅) (aa ∅ ∅) (fun _ _=>rfl)) am (fun _ _=>rfl)) ∅))) (fun _=>(aa ∅ ∅)) (fun _=>rfl) rfl ∅) (ag (cj (aV C (aa ∅ ∅) (cD ai) ∅) (al (aX (aw C (aa ∅ ∅) am (fun _ _=>rfl)))) aP) (ag (cj (aV C (aa ∅ ∅) (cD ai) ∅) (ag (dM (eU C false lg (pB C) (ax ∅ ∅) (aw C (aa ∅ ∅) am (fun _ _=>rfl)) rfl rfl ∅ ∅ ∅) rfl rfl) (al (aX (aw C (aa ∅ ∅) am (fun _ _=>rfl))))) aP) (al (aX (sC am)))))))
def mB:Cm Fl:=(((Cm.p (V.int 1)).b fun v1=>xK v1).b fun v2=>(an "_law_best" v2).b fun _=>Cm.p Fl.next)
def hU:Cm Fl:=(au (((ac "_law_model").b fun v7=>(ac "_law_page").b fun v8=>aj v7 v8).b fun v9=>(an "_law_row" v9).b fun _=>Cm.p Fl.next) (((((ac "_law_row").b fun v10=>(Cm.p (V.int 0)).b fun v11=>aj v10 v11).b fun v12=>(ac "_law_size").b fun v13=>(aL .Eq v12 v13).b fun x14=>Cm.p x14).b fun b21=>if b21 then (((Cm.p (V.bool false)).b fun v17=>((ac "_law_row").b fun v15=>(Cm.p (V.int 1)).b fun v16=>aj v15 v16).b fun v18=>(aL .In v17 v18).b fun x19=>Cm.p x19).b fun b20=>if b20 then (Cm.p true) else Cm.p false) else Cm.p false).b fun b46=>if b46 then ((((ac "_law_best").b fun v22=>(Cm.p (V.int 0)).b fun v23=>(aL .Lt v22 v23).b fun x24=>Cm.p x24).b fun b43=>if b43 then Cm.p true else (((((ac "_law_row").b fun v26=>(Cm.p (V.int 1)).b fun v27=>aj v26 v27).b fun v28=>(bC v28).b fun kd29=>if kd29=true then (Cm.p (V.bool true)).b fun v30=>j4 v28 v30 else Cm.stk).b fun v39=>((((ac "_law_model").b fun v32=>(ac "_law_best").b fun v33=>aj v32 v33).b fun v34=>(Cm.p (V.int 1)).b fun v35=>aj v34 v35).b fun v36=>(bC v36).b fun kd37=>if kd37=true then (Cm.p (V.bool true)).b fun v38=>j4 v36 v38 else Cm.stk).b fun v40=>(aL .Gt v39 v40).b fun x41=>Cm.p x41).b fun b42=>if b42 then Cm.p true else (Cm.p false))).b fun b45=>if b45 then ((ac "_law_page").b fun v44=>(an "_law_best" v44).b fun _=>Cm.p Fl.next) else (Cm.p Fl.next)) else (Cm.p Fl.next)))
def tG:Cm Fl:=(((((ac "_law_model").b fun v4=>(Cm.p []).b fun vs5=>Cm.p (v4::vs5)).b fun vs3=>bn vs3).b fun v6=>cQ v6).b fun it47=>bH it47.g (an "_law_page") (hU) it47.xs)
def tH:Cm Fl:=((ac "_law_best").b fun v48=>Cm.p (Fl.ret v48))
def oX:Cm Fl:=(au (mB) (au (tG) (tH)))
def fi:Fc:=gS ["_law_model", "_law_size"] (oX)
theorem vZ:FX 1 381 (fi) :=
 bQ.of C (k:=0) (jr ⟨_,_,_,rfl⟩ (yp fun _ _=>∅) ∅ rfl) fun L =>
 (ag (ak (.inl ∅) (sC am) rfl) (ag (dS (bj C rfl (.name _ _) (bT (bv:=(.builtin "sorted")) C ∅ cg ∅ ∅ ∅ (ar _) (ae (aa ∅ ∅) ai ∅) ∅ (fun A ι q s vs cvs ha R hv=>cT C (ha.hd rfl) R hv))) (aW (.inl ∅)) (ag (ak (.inl ∅) (aw C (aa ∅ ∅) (aa ∅ ∅) (fun _ _=>rfl)) rfl) (al (cj (fG (jX (aV C (aw C (aa ∅ ∅) am (fun _ _=>rfl)) (aa ∅ ∅) ∅) (jX (aV C bP (aw C (aa ∅ ∅) am (fun _ _=>rfl)) ∅) qm))) (al (cj (fG (fL (aV C (aa ∅ ∅) am ∅) (fL (aV C (eU C true kx (nV C) (aw C (aa ∅ ∅) am (fun _ _=>rfl)) bP rfl rfl ∅ ∅ ∅) (eU C true kx (nV C) (aw C (aw C (aa ∅ ∅) (aa ∅ ∅) (fun _ _=>rfl)) am (fun _ _=>rfl)) bP rfl rfl ∅ ∅ ∅) ∅) jY))) (al (ak (.inl ∅) (aa ∅ ∅) rfl)) aP)) aP))) (fun _=>rfl)) (al (aX (aa ∅ ∅)))))
def nP:Cm Fl:=(((((ac "_law_drawn").b fun v2=>(Cm.p (V.int 2)).b fun v3=>aj v2 v3).b fun v6=>((ac "_law_wish").b fun v4=>(Cm.p []).b fun vs5=>Cm.p (v4::vs5)).b fun vs7=>Cm.p (v6::vs7)).b fun vs1=>aD (dK) vs1).b fun v8=>(an "_law_size" v8).b fun _=>Cm.p Fl.next)
def nQ:Cm Fl:=(((ac "_law_size").b fun v9=>(Cm.p (V.int 0)).b fun v10=>(aL .Eq v9 v10).b fun x11=>Cm.p x11).b fun b14=>if b14 then (((Cm.p (V.int 2)).b fun v12=>xK v12).b fun v13=>Cm.p (Fl.ret v13)) else (Cm.p Fl.next))
def jy:Cm Fl:=((((ac "_law_model").b fun v18=>((ac "_law_size").b fun v16=>(Cm.p []).b fun vs17=>Cm.p (v16::vs17)).b fun vs19=>Cm.p (v18::vs19)).b fun vs15=>aD (fi) vs15).b fun v20=>(an "_law_page" v20).b fun _=>Cm.p Fl.next)
def gn:Cm Fl:=(((ac "_law_page").b fun v21=>(Cm.p (V.int 0)).b fun v22=>(aL .Lt v21 v22).b fun x23=>Cm.p x23).b fun b55=>if b55 then (au ((((ac "_law_model").b fun v29=>(((ac "_law_drawn").b fun v25=>(Cm.p (V.int 0)).b fun v26=>aj v25 v26).b fun v27=>(Cm.p []).b fun vs28=>Cm.p (v27::vs28)).b fun vs30=>Cm.p (v29::vs30)).b fun vs24=>aD (jL) vs24).b fun v31=>(an "_law_page" v31).b fun _=>Cm.p Fl.next) (au (((ac "_law_page").b fun v32=>(Cm.p (V.int 0)).b fun v33=>(aL .Lt v32 v33).b fun x34=>Cm.p x34).b fun b37=>if b37 then (((Cm.p (V.int 1)).b fun v35=>xK v35).b fun v36=>Cm.p (Fl.ret v36)) else (Cm.p Fl.next)) ((((ac "_law_size").b fun v49=>(((((Cm.p (V.bool false)).b fun v38=>(Cm.p []).b fun vs39=>Cm.p (v38::vs39)).b fun vs40=>dz vs40).b fun v45=>(((ac "_law_drawn").b fun v41=>(Cm.p (V.int 1)).b fun v42=>aj v41 v42).b fun v43=>(ac "_law_size").b fun v44=>dG v43 v44).b fun v46=>dQ v45 v46).b fun v47=>(Cm.p []).b fun vs48=>Cm.p (v47::vs48)).b fun vs50=>Cm.p (v49::vs50)).b fun vs51=>dz vs51).b fun v52=>(ac "_law_model").b fun v53=>(ac "_law_page").b fun v54=>(bu v53 v54 v52).b fun _=>Cm.p Fl.next))) else (Cm.p Fl.next))
def jz:Cm Fl:=(((((ac "_law_model").b fun v57=>(ac "_law_page").b fun v58=>aj v57 v58).b fun v59=>(Cm.p (V.int 1)).b fun v60=>aj v59 v60).b fun v61=>(bC v61).b fun kd62=>if kd62=true then (Cm.p (V.bool false)).b fun v63=>rI v61 v63 else Cm.stk).b fun v64=>(an "_law_slot" v64).b fun _=>Cm.p Fl.next)
def jA:Cm Fl:=((Cm.p (V.bool true)).b fun v65=>(((ac "_law_model").b fun v66=>(ac "_law_page").b fun v67=>aj v66 v67).b fun v68=>(Cm.p (V.int 1)).b fun v69=>aj v68 v69).b fun v70=>(ac "_law_slot").b fun v71=>(bu v70 v71 v65).b fun _=>Cm.p Fl.next)
def nR:Cm Fl:=((((ac "_law_page").b fun v74=>((ac "_law_drawn").b fun v72=>(Cm.p (V.int 1)).b fun v73=>aj v72 v73).b fun v75=>dQ v74 v75).b fun v78=>((ac "_law_slot").b fun v76=>(ac "_law_size").b fun v77=>dQ v76 v77).b fun v79=>cS v78 v79).b fun v80=>Cm.p (Fl.ret v80))
def gf:Cm Fl:=(au (nP) (au (nQ) (au (jy) (au (gn) (au (jz) (au (jA) (nR)))))))
def eO:Fc:=gS ["_law_model", "_law_drawn", "_law_wish"] (gf)
theorem xZ:FX 2 393 (eO) :=
 bQ.of C (k:=1) (jr ⟨_,_,_,rfl⟩ (D8 fun _ _ _=>∅) ∅ rfl) fun L =>
 (ag (ak (.inl ∅) (bG C ∅ mh ∅ ∅ (o4 C) ∅ (ae (aw C (aa ∅ ∅) am (fun _ _=>rfl)) (ae (aa ∅ ∅) ai ∅) ∅) ∅) rfl) (ag (cj (aV C (aa ∅ ∅) am ∅) (al (aX (sC am))) aP) (ag (ak (.inl ∅) (bG C ∅ tq ∅ ∅ (vZ C) ∅ (ae (aa ∅ ∅) (ae (aa ∅ ∅) ai ∅) ∅) ∅) rfl) (ag (cj (aV C (aa ∅ ∅) am ∅) (ag (ak (.inl ∅) (bG C ∅ vU ∅ ∅ (zw C) ∅ (ae (aa ∅ ∅) (ae (aw C (aa ∅ ∅) am (fun _ _=>rfl)) ai ∅) ∅) ∅) rfl) (ag (cj (aV C (aa ∅ ∅) am ∅) (al (aX (sC am))) aP) (al (dI C (cD (ae (aa ∅ ∅) (ae (az C (cD (ae bP ai ∅)) (az C (aw C (aa ∅ ∅) am (fun _ _=>rfl)) (aa ∅ ∅) eV) iX) ai ∅) ∅)) (aa ∅ ∅) (aa ∅ ∅) rfl)))) aP) (ag (ak (.inl ∅) (eU C true yA (AM C) (aw C (aw C (aa ∅ ∅) (aa ∅ ∅) (fun _ _=>rfl)) am (fun _ _=>rfl)) bP rfl rfl ∅ ∅ ∅) rfl) (ag (dI C bP (aw C (aw C (aa ∅ ∅) (aa ∅ ∅) (fun _ _=>rfl)) am (fun _ _=>rfl)) (aa ∅ ∅) rfl) (al (aX (az C (az C (aa ∅ ∅) (aw C (aa ∅ ∅) am (fun _ _=>rfl)) iX) (az C (aa ∅ ∅) (aa ∅ ∅) iX) cI)))))))))
def rj:Cm Fl:=(((ac "_law_cell").b fun v1=>(Cm.p (V.int 9)).b fun v2=>dG v1 v2).b fun v3=>(an "_law_more" v3).b fun _=>Cm.p Fl.next)
def k9:Cm Fl:=(au ((((ac "_law_room").b fun v35=>(((Cm.p (V.int 1)).b fun v31=>((ac "_law_more").b fun v29=>((ac "_law_drawn").b fun v27=>(Cm.p (V.int 1)).b fun v28=>aj v27 v28).b fun v30=>bM v29 v30).b fun v32=>cS v31 v32).b fun v33=>(Cm.p []).b fun vs34=>Cm.p (v33::vs34)).b fun vs36=>Cm.p (v35::vs36)).b fun vs26=>aD (kH) vs26).b fun v37=>(an "_law_found" v37).b fun _=>Cm.p Fl.next) (((((((ac "_law_found").b fun v39=>(Cm.p []).b fun vs40=>Cm.p (v39::vs40)).b fun vs38=>aD (gR) vs38).b fun v41=>bE v41).b fun b42=>Cm.p (!b42)).b fun b60=>if b60 then Cm.p true else (((ac "_law_found").b fun v56=>(((ac "_law_model").b fun v54=>((ac "_law_drawn").b fun v52=>(((Cm.p (V.int 1)).b fun v48=>((ac "_law_more").b fun v46=>((ac "_law_drawn").b fun v44=>(Cm.p (V.int 1)).b fun v45=>aj v44 v45).b fun v47=>bM v46 v47).b fun v49=>cS v48 v49).b fun v50=>(Cm.p []).b fun vs51=>Cm.p (v50::vs51)).b fun vs53=>Cm.p (v52::vs53)).b fun vs55=>Cm.p (v54::vs55)).b fun vs43=>aD (eO) vs43).b fun v57=>(aL .NotEq v56 v57).b fun x58=>Cm.p x58).b fun b59=>if b59 then Cm.p true else (Cm.p false))).b fun b62=>if b62 then ((Cm.p (V.bool false)).b fun v61=>Cm.p (Fl.ret v61)) else (Cm.p Fl.next)))
def iO:Cm Fl:=((((ac "_law_cell").b fun v4=>(Cm.p (V.int 9)).b fun v5=>bM v4 v5).b fun v6=>(Cm.p (V.int 4)).b fun v7=>(aL .Lt v6 v7).b fun x8=>Cm.p x8).b fun b65=>if b65 then (au ((Cm.p (V.int 1)).b fun v9=>(an "_law_many" v9).b fun _=>Cm.p Fl.next) (au ((((ac "_law_cell").b fun v10=>(Cm.p (V.int 9)).b fun v11=>bM v10 v11).b fun v12=>(Cm.p (V.int 3)).b fun v13=>(aL .Eq v12 v13).b fun x14=>Cm.p x14).b fun b22=>if b22 then (((Cm.p (V.int 1)).b fun v19=>(((ac "_law_more").b fun v15=>(Cm.p (V.int 2)).b fun v16=>dG v15 v16).b fun v17=>(Cm.p (V.int 6)).b fun v18=>bM v17 v18).b fun v20=>cS v19 v20).b fun v21=>(an "_law_many" v21).b fun _=>Cm.p Fl.next) else (Cm.p Fl.next)) (au ((((ac "_law_many").b fun v23=>(Cm.p []).b fun vs24=>Cm.p (v23::vs24)).b fun vs25=>cN vs25).b fun it63=>bH it63.g (an "_law_turn") (k9) it63.xs) ((Cm.p (V.bool true)).b fun v64=>Cm.p (Fl.ret v64))))) else (Cm.p Fl.next))
def iP:Cm Fl:=((((ac "_law_cell").b fun v66=>(Cm.p (V.int 9)).b fun v67=>bM v66 v67).b fun v68=>(Cm.p (V.int 6)).b fun v69=>(aL .Eq v68 v69).b fun x70=>Cm.p x70).b fun b87=>if b87 then ((((ac "_law_room").b fun v84=>((ac "_law_model").b fun v82=>((ac "_law_drawn").b fun v80=>(((Cm.p (V.int 1)).b fun v76=>((ac "_law_more").b fun v74=>((ac "_law_drawn").b fun v72=>(Cm.p (V.int 1)).b fun v73=>aj v72 v73).b fun v75=>bM v74 v75).b fun v77=>cS v76 v77).b fun v78=>(Cm.p []).b fun vs79=>Cm.p (v78::vs79)).b fun vs81=>Cm.p (v80::vs81)).b fun vs83=>Cm.p (v82::vs83)).b fun vs85=>Cm.p (v84::vs85)).b fun vs71=>aD (pH) vs71).b fun v86=>Cm.p (Fl.ret v86)) else (Cm.p Fl.next))
def iQ:Cm Fl:=((((ac "_law_cell").b fun v88=>(Cm.p (V.int 9)).b fun v89=>bM v88 v89).b fun v90=>(Cm.p (V.int 7)).b fun v91=>(aL .NotEq v90 v91).b fun x92=>Cm.p x92).b fun b160=>if b160 then (au ((((ac "_law_model").b fun v98=>(((ac "_law_drawn").b fun v94=>(Cm.p (V.int 1)).b fun v95=>aj v94 v95).b fun v96=>(Cm.p []).b fun vs97=>Cm.p (v96::vs97)).b fun vs99=>Cm.p (v98::vs99)).b fun vs93=>aD (ga) vs93).b fun v100=>(an "_law_places_here" v100).b fun _=>Cm.p Fl.next) (au (((ac "_law_places_here").b fun v102=>((Cm.p []).b fun vs101=>dz vs101).b fun v103=>(aL .Eq v102 v103).b fun x104=>Cm.p x104).b fun b106=>if b106 then ((Cm.p (V.bool true)).b fun v105=>Cm.p (Fl.ret v105)) else (Cm.p Fl.next)) (au (((ac "_law_places_here").b fun v107=>((ac "_law_more").b fun v112=>(((ac "_law_places_here").b fun v110=>(Cm.p []).b fun vs111=>Cm.p (v110::vs111)).b fun vs109=>fg vs109).b fun v113=>bM v112 v113).b fun v108=>aj v107 v108).b fun v114=>((jp "_law_place" "_law_size") v114).b fun _=>Cm.p Fl.next) (au ((((ac "_law_cell").b fun v115=>(Cm.p (V.int 9)).b fun v116=>bM v115 v116).b fun v117=>(Cm.p (V.int 8)).b fun v118=>(aL .Eq v117 v118).b fun x119=>Cm.p x119).b fun b142=>if b142 then (au (((ac "_law_room").b fun v121=>(aJ "Room" "write" v121).b fun _=>((ac "_law_place").b fun v128=>(((ac "_law_more").b fun v122=>(ac "_law_size").b fun v123=>bM v122 v123).b fun v126=>((ac "_law_more").b fun v124=>(Cm.p []).b fun vs125=>Cm.p (v124::vs125)).b fun vs127=>Cm.p (v126::vs127)).b fun vs129=>Cm.p (v128::vs129)).b fun vs120=>aD (iE) (v121::vs120)).b fun _=>Cm.p Fl.next) ((((ac "_law_room").b fun v131=>(aJ "Room" "read" v131).b fun _=>((ac "_law_place").b fun v136=>(((ac "_law_more").b fun v132=>(ac "_law_size").b fun v133=>bM v132 v133).b fun v134=>(Cm.p []).b fun vs135=>Cm.p (v134::vs135)).b fun vs137=>Cm.p (v136::vs137)).b fun vs130=>aD (jJ) (v131::vs130)).b fun v138=>(ac "_law_more").b fun v139=>(aL .Eq v138 v139).b fun x140=>Cm.p (V.bool x140)).b fun v141=>Cm.p (Fl.ret v141))) else (Cm.p Fl.next)) (au ((((ac "_law_model").b fun v150=>(((ac "_law_drawn").b fun v144=>(Cm.p (V.int 1)).b fun v145=>aj v144 v145).b fun v148=>((ac "_law_place").b fun v146=>(Cm.p []).b fun vs147=>Cm.p (v146::vs147)).b fun vs149=>Cm.p (v148::vs149)).b fun vs151=>Cm.p (v150::vs151)).b fun vs143=>aD (gQ) vs143).b fun _=>Cm.p Fl.next) ((((ac "_law_room").b fun v153=>(aJ "Room" "give_back" v153).b fun _=>((ac "_law_place").b fun v154=>(Cm.p []).b fun vs155=>Cm.p (v154::vs155)).b fun vs152=>aD (di) (v153::vs152)).b fun v156=>(Cm.p V.none).b fun v157=>(aL .Is v156 v157).b fun x158=>Cm.p (V.bool x158)).b fun v159=>Cm.p (Fl.ret v159))))))) else (Cm.p Fl.next))
def iR:Cm Fl:=((((ac "_law_more").b fun v161=>(Cm.p (V.int 3)).b fun v162=>bM v161 v162).b fun v163=>(Cm.p (V.int 0)).b fun v164=>(aL .Gt v163 v164).b fun x165=>Cm.p x165).b fun b210=>if b210 then (au ((((ac "_law_drawn").b fun v166=>(Cm.p (V.int 2)).b fun v167=>aj v166 v167).b fun v168=>(((ac "_law_more").b fun v170=>(Cm.p (V.int 3)).b fun v171=>dG v170 v171).b fun v177=>((((ac "_law_drawn").b fun v173=>(Cm.p (V.int 2)).b fun v174=>aj v173 v174).b fun v175=>(Cm.p []).b fun vs176=>Cm.p (v175::vs176)).b fun vs172=>fg vs172).b fun v178=>bM v177 v178).b fun v169=>aj v168 v169).b fun v179=>(an "_law_size" v179).b fun _=>Cm.p Fl.next) (au (((ac "_law_room").b fun v181=>(aJ "Room" "gather" v181).b fun _=>((ac "_law_size").b fun v182=>(Cm.p []).b fun vs183=>Cm.p (v182::vs183)).b fun vs180=>aD (j5) (v181::vs180)).b fun v184=>(an "_law_found" v184).b fun _=>Cm.p Fl.next) (au (((ac "_law_kept").b fun v186=>(bC v186).b fun kd195=>if kd195=true then (((ac "_law_found").b fun v192=>((((ac "_law_found").b fun v188=>(Cm.p []).b fun vs189=>Cm.p (v188::vs189)).b fun vs187=>iK vs187).b fun v190=>(Cm.p []).b fun vs191=>Cm.p (v190::vs191)).b fun vs193=>Cm.p (v192::vs193)).b fun vs194=>kO vs194).b fun v196=>eB v186 v196 else Cm.stk).b fun _=>Cm.p Fl.next) (((ac "_law_found").b fun v206=>(((ac "_law_model").b fun v204=>(((ac "_law_drawn").b fun v198=>(Cm.p (V.int 1)).b fun v199=>aj v198 v199).b fun v202=>((ac "_law_size").b fun v200=>(Cm.p []).b fun vs201=>Cm.p (v200::vs201)).b fun vs203=>Cm.p (v202::vs203)).b fun vs205=>Cm.p (v204::vs205)).b fun vs197=>aD (f9) vs197).b fun v207=>(aL .Eq v206 v207).b fun x208=>Cm.p (V.bool x208)).b fun v209=>Cm.p (Fl.ret v209))))) else (Cm.p Fl.next))
def qs:Cm V:=be ["_law_model"] ((((ac "_law_model").b fun v212=>(Cm.p []).b fun vs213=>Cm.p (v212::vs213)).b fun vs211=>bn vs211).b fun v214=>cQ v214) (an "_law_page") ((Cm.p (V.bool true)).b fun v219=>(((ac "_law_model").b fun v215=>(ac "_law_page").b fun v216=>aj v215 v216).b fun v217=>(Cm.p (V.int 1)).b fun v218=>aj v217 v218).b fun v220=>(aL .NotIn v219 v220).b fun x221=>Cm.p x221) (ac "_law_page")
def lK:Cm Fl:=((qs).b fun v222=>(an "_law_empty" v222).b fun _=>Cm.p Fl.next)
def lb:Cm Fl:=(((ac "_law_model").b fun v225=>(bC v225).b fun kd226=>if kd226=false then (ac "_law_page").b fun v227=>jF v225 v227 else Cm.stk).b fun _=>Cm.p Fl.next)
def lL:Cm Fl:=(((ac "_law_empty").b fun v223=>cQ v223).b fun it228=>bH it228.g (an "_law_page") (lb) it228.xs)
def lM:Cm Fl:=(((ac "_law_room").b fun v230=>(aJ "Room" "trim" v230).b fun _=>(Cm.p []).b fun vs229=>aD (mQ) (v230::vs229)).b fun v231=>(an "_law_found" v231).b fun _=>Cm.p Fl.next)
def lO:Cm Fl:=(((((ac "_law_found").b fun v233=>(Cm.p []).b fun vs234=>Cm.p (v233::vs234)).b fun vs232=>aD (gR) vs232).b fun v241=>(bE v241).b fun b242=>if b242 then ((ac "_law_found").b fun v238=>(((ac "_law_empty").b fun v236=>(Cm.p []).b fun vs237=>Cm.p (v236::vs237)).b fun vs235=>fg vs235).b fun v239=>(aL .Eq v238 v239).b fun x240=>Cm.p (V.bool x240)) else Cm.p v241).b fun v243=>Cm.p (Fl.ret v243))
def uG:Cm Fl:=(au (rj) (au (iO) (au (iP) (au (iQ) (au (iR) (au (lK) (au (lL) (au (lM) (lO)))))))))
def lr:Fc:=gS ["_law_room", "_law_model", "_law_drawn", "_law_kept", "_law_cell"] (uG)
theorem Az:FX 6 436 (lr) :=
 bQ.of C (k:=5) (jr ⟨_,_,_,rfl⟩ (HC fun _ _ _ _ _=>∅) ∅ rfl) fun L =>
 (ag (ak (.inl ∅) (az C (aa ∅ ∅) am eV) rfl) (ag (cj (aV C (az C (aa ∅ ∅) am cu) am ∅) (ag (ak (.inl ∅) am rfl) (ag (cj (aV C (az C (aa ∅ ∅) am cu) am ∅) (al (ak (.inl ∅) (az C am (az C (az C (aa ∅ ∅) am eV) am cu) cI) rfl)) aP) (ag (dS (fR C rfl ∅ eg (ae (aa ∅ ∅) ai ∅) ∅) (aW (.inl ∅)) (ag (ak (.inl ∅) (bG C ∅ zj ∅ ∅ (B2 C) ∅ (ae (aa ∅ ∅) (ae (az C am (az C (aa ∅ ∅) (aw C (aa ∅ ∅) am (fun _ _=>rfl)) cu) cI) ai ∅) ∅) ∅) rfl) (al (cj (fG (fL (io (gr (bG C ∅ kf ∅ ∅ (nr C) ∅ (ae (aa ∅ ∅) ai ∅) ∅) rfl)) (fL (aV C (aa ∅ ∅) (bG C ∅ uS ∅ ∅ (xZ C) ∅ (ae (ax ∅ ∅) (ae (aa ∅ ∅) (ae (az C am (az C (aa ∅ ∅) (aw C (aa ∅ ∅) am (fun _ _=>rfl)) cu) cI) ai ∅) ∅) ∅) ∅) ∅) jY))) (al (aX bP)) aP))) (fun _=>rfl)) (al (aX bP))))) aP) (ag (cj (aV C (az C (aa ∅ ∅) am cu) am ∅) (al (aX (bG C ∅ xP ∅ ∅ (AB C) ∅ (ae (aa ∅ ∅) (ae (ax ∅ ∅) (ae (aa ∅ ∅) (ae (az C am (az C (aa ∅ ∅) (aw C (aa ∅ ∅) am (fun _ _=>rfl)) cu) cI) ai ∅) ∅) ∅) ∅) ∅))) aP) (ag (cj (aV C (az C (aa ∅ ∅) am cu) am ∅) (ag (ak (.inl ∅) (bG C ∅ ng ∅ ∅ (qY C) ∅ (ae (ax ∅ ∅) (ae (aw C (aa ∅ ∅) am (fun _ _=>rfl)) ai ∅) ∅) ∅) rfl) (ag (cj (aV C (aa ∅ ∅) (cD ai) ∅) (al (aX bP)) aP) (ag (BC (aw C (aa ∅ ∅) (az C (aa ∅ ∅) (bT (bv:=(.builtin "len")) C ∅ fK ∅ ∅ ∅ (ar _) (ae (aa ∅ ∅) ai ∅) ∅ (fun A ι q s vs cvs ha R hv=>iW C R hv)) cu) (fun _ _=>rfl)) (ub rfl (.inl ∅) (.inl ∅)) rfl rfl) (ag (cj (aV C (az C (aa ∅ ∅) am cu) am ∅) (ag (dM (aO C ∅ ti (xW C) ∅ (aa ∅ ∅) (ae (aa ∅ ∅) (ae (az C (aa ∅ ∅) (aa ∅ ∅) cu) (ae (aa ∅ ∅) ai ∅) ∅) ∅) rfl rfl ∅ ∅) rfl rfl) (al (aX (qi C (aO C ∅ uL (zt C) ∅ (aa ∅ ∅) (ae (aa ∅ ∅) (ae (az C (aa ∅ ∅) (aa ∅ ∅) cu) ai ∅) ∅) rfl rfl ∅ ∅) (aa ∅ ∅) ∅)))) aP) (ag (dM (bG C ∅ vV ∅ ∅ (zx C) ∅ (ae (ax ∅ ∅) (ae (aw C (aa ∅ ∅) am (fun _ _=>rfl)) (ae (aa ∅ ∅) ai ∅) ∅) ∅) ∅) rfl rfl) (al (aX (qi C (aO C ∅ oB (r6 C) ∅ (aa ∅ ∅) (ae (aa ∅ ∅) ai ∅) rfl rfl ∅ ∅) xl ∅)))))))) aP) (ag (cj (aV C (az C (aa ∅ ∅) am cu) am ∅) (ag (ak (.inl ∅) (aw C (aw C (aa ∅ ∅) am (fun _ _=>rfl)) (az C (az C (aa ∅ ∅) am eV) (bT (bv:=(.builtin "len")) C ∅ fK ∅ ∅ ∅ (ar _) (ae (aw C (aa ∅ ∅) am (fun _ _=>rfl)) ai ∅) ∅ (fun A ι q s vs cvs ha R hv=>iW C R hv)) cu) (fun _ _=>rfl)) rfl) (ag (ak (.inl ∅) (aO C ∅ rP (vX C) ∅ (aa ∅ ∅) (ae (aa ∅ ∅) ai ∅) rfl rfl ∅ ∅) rfl) (ag (dM (eU C true gx (iV C) (aa ∅ ∅) (dR (ae (aa ∅ ∅) (ae (bT (bv:=(.type "list")) C ∅ qN ∅ ∅ ∅ (dq _) (ae (aa ∅ ∅) ai ∅) ∅ (fun A ι q s vs cvs ha R hv=>qj C R hv)) ai ∅) ∅)) rfl rfl ∅ ∅ ∅) rfl rfl) (al (aX (qi C (aa ∅ ∅) (bG C ∅ oD ∅ ∅ (qX C) ∅ (ae (ax ∅ ∅) (ae (aw C (aa ∅ ∅) am (fun _ _=>rfl)) (ae (aa ∅ ∅) ai ∅) ∅) ∅) ∅) ∅)))))) aP) (ag (fM ["_law_model"] ∅ ∅ (bj C rfl (.name _ _) (bT (bv:=(.builtin "sorted")) C ∅ cg ∅ ∅ ∅ (ar _) (ae (ax ∅ ∅) ai ∅) ∅ (fun A ι q s vs cvs ha R hv=>cT C (ha.hd rfl) R hv))) (fun _=>(aW (.inl ∅))) (bN ∅) (fun _=>(eZ (aV C bP (aw C (aw C (ax ∅ ∅) (aa ∅ ∅) (fun _ _=>rfl)) am (fun _ _=>rfl)) ∅))) (fun _=>(aa ∅ ∅)) (fun _=>rfl) rfl ∅) (ag (dS (bj C rfl (.name _ _) (aa ∅ ∅)) (aW (.inl ∅)) (al (dM (eU C false lg (pB C) (ax ∅ ∅) (aa ∅ ∅) rfl rfl ∅ ∅ ∅) rfl rfl)) (fun _=>rfl)) (ag (ak (.inl ∅) (aO C ∅ uM (zu C) ∅ (aa ∅ ∅) ai rfl rfl ∅ ∅) rfl) (al (aX (kr (pw (bG C ∅ kf ∅ ∅ (nr C) ∅ (ae (aa ∅ ∅) ai ∅) ∅) (ry (qi C (aa ∅ ∅) (bT (bv:=(.builtin "len")) C ∅ fK ∅ ∅ ∅ (ar _) (ae (aa ∅ ∅) ai ∅) ∅ (fun A ι q s vs cvs ha R hv=>iW C R hv)) ∅))))))))))))))
def tE:Cm Fl:=(((ac "_law_k").b fun v4=>(((ac "_law_script").b fun v2=>(Cm.p []).b fun vs3=>Cm.p (v2::vs3)).b fun vs1=>fg vs1).b fun v5=>(aL .Lt v4 v5).b fun x6=>Cm.p x6).b fun b10=>if b10 then (((ac "_law_script").b fun v7=>(ac "_law_k").b fun v8=>aj v7 v8).b fun v9=>Cm.p (Fl.ret v9)) else (Cm.p Fl.next))
def tF:Cm Fl:=((Cm.p (V.int 0)).b fun v11=>Cm.p (Fl.ret v11))
def j8:Cm Fl:=(au (tE) (tF))
def dJ:Fc:=gS ["_law_script", "_law_k"] (j8)
theorem gK:FX 1 346 (dJ) :=
 bQ.of C (k:=0) (jr ⟨_,_,_,rfl⟩ (yp fun _ _=>∅) ∅ rfl) fun L =>
 (ag (cj (aV C (aa ∅ ∅) (bT (bv:=(.builtin "len")) C ∅ fK ∅ ∅ ∅ (ar _) (ae (aa ∅ ∅) ai ∅) ∅ (fun A ι q s vs cvs ha R hv=>iW C R hv)) ∅) (al (aX (aw C (aa ∅ ∅) (aa ∅ ∅) (fun _ _=>rfl)))) aP) (al (aX am)))
def sj:Cm Fl:=(((Cm.p []).b fun vs1=>dz vs1).b fun v2=>(an "_law_found" v2).b fun _=>Cm.p Fl.next)
def sk:Cm Fl:=((Cm.p (V.int 0)).b fun v3=>(an "_law_before" v3).b fun _=>Cm.p Fl.next)
def sp:Cm Fl:=(((ac "_law_cell").b fun v4=>(Cm.p (V.int 3)).b fun v5=>dG v4 v5).b fun v6=>(an "_law_rest" v6).b fun _=>Cm.p Fl.next)
def sq:Cm Fl:=((Cm.p (V.int 4)).b fun v7=>(an "_law_span" v7).b fun _=>Cm.p Fl.next)
def kU:Cm Fl:=((((ac "_law_cell").b fun v8=>(Cm.p (V.int 3)).b fun v9=>bM v8 v9).b fun v10=>(Cm.p (V.int 0)).b fun v11=>(aL .Eq v10 v11).b fun x12=>Cm.p x12).b fun b14=>if b14 then ((ac "_law_length").b fun v13=>(an "_law_span" v13).b fun _=>Cm.p Fl.next) else (Cm.p Fl.next))
def ku:Cm Fl:=(au ((((ac "_law_before").b fun v18=>(Cm.p (V.int 1)).b fun v19=>cS v18 v19).b fun v22=>((ac "_law_rest").b fun v20=>(ac "_law_span").b fun v21=>bM v20 v21).b fun v23=>cS v22 v23).b fun v24=>(an "_law_before" v24).b fun _=>Cm.p Fl.next) (au (((ac "_law_rest").b fun v25=>(ac "_law_span").b fun v26=>dG v25 v26).b fun v27=>(an "_law_rest" v27).b fun _=>Cm.p Fl.next) (((ac "_law_before").b fun v28=>(ac "_law_length").b fun v29=>(aL .LtE v28 v29).b fun x30=>Cm.p x30).b fun b35=>if b35 then (((ac "_law_found").b fun v32=>(bC v32).b fun kd33=>if kd33=true then (ac "_law_before").b fun v34=>eB v32 v34 else Cm.stk).b fun _=>Cm.p Fl.next) else (Cm.p Fl.next))))
def sr:Cm Fl:=((((ac "_law_many").b fun v15=>(Cm.p []).b fun vs16=>Cm.p (v15::vs16)).b fun vs17=>cN vs17).b fun it36=>bH it36.g (an "_law_turn") (ku) it36.xs)
def kW:Cm Fl:=(((ac "_law_found").b fun v38=>((Cm.p []).b fun vs37=>dz vs37).b fun v39=>(aL .Eq v38 v39).b fun x40=>Cm.p x40).b fun b45=>if b45 then (((ac "_law_found").b fun v42=>(bC v42).b fun kd43=>if kd43=true then (ac "_law_length").b fun v44=>eB v42 v44 else Cm.stk).b fun _=>Cm.p Fl.next) else (Cm.p Fl.next))
def su:Cm Fl:=((ac "_law_found").b fun v46=>Cm.p (Fl.ret v46))
def mU:Cm Fl:=(au (sj) (au (sk) (au (sp) (au (sq) (au (kU) (au (sr) (au (kW) (su))))))))
def jd:Fc:=gS ["_law_cell", "_law_length", "_law_many"] (mU)
theorem u9:FX 1 360 (jd) :=
 bQ.of C (k:=0) (jr ⟨_,_,_,rfl⟩ (D8 fun _ _ _=>∅) ∅ rfl) fun L =>
 (ag (ak (.inl ∅) (cD ai) rfl) (ag (ak (.inl ∅) am rfl) (ag (ak (.inl ∅) (az C (aa ∅ ∅) am eV) rfl) (ag (ak (.inl ∅) am rfl) (ag (cj (aV C (az C (aa ∅ ∅) am cu) am ∅) (al (ak (.inl ∅) (aa ∅ ∅) rfl)) aP) (ag (dS (fR C rfl ∅ eg (ae (aa ∅ ∅) ai ∅) ∅) (aW (.inl ∅)) (ag (ak (.inl ∅) (az C (az C (aa ∅ ∅) am cI) (az C (aa ∅ ∅) (aa ∅ ∅) cu) cI) rfl) (ag (ak (.inl ∅) (az C (aa ∅ ∅) (aa ∅ ∅) eV) rfl) (al (cj (aV C (aa ∅ ∅) (aa ∅ ∅) ∅) (al (dM (eU C true gx (iV C) (aa ∅ ∅) (aa ∅ ∅) rfl rfl ∅ ∅ ∅) rfl rfl)) aP)))) (fun _=>rfl)) (ag (cj (aV C (aa ∅ ∅) (cD ai) ∅) (al (dM (eU C true gx (iV C) (aa ∅ ∅) (aa ∅ ∅) rfl rfl ∅ ∅ ∅) rfl rfl)) aP) (al (aX (aa ∅ ∅))))))))))
def mC:Cm Fl:=((((ac "_law_script").b fun v4=>((Cm.p (V.int 0)).b fun v2=>(Cm.p []).b fun vs3=>Cm.p (v2::vs3)).b fun vs5=>Cm.p (v4::vs5)).b fun vs1=>aD (dJ) vs1).b fun v6=>(an "_law_first" v6).b fun _=>Cm.p Fl.next)
def mD:Cm Fl:=((((ac "_law_script").b fun v10=>((Cm.p (V.int 1)).b fun v8=>(Cm.p []).b fun vs9=>Cm.p (v8::vs9)).b fun vs11=>Cm.p (v10::vs11)).b fun vs7=>aD (dJ) vs7).b fun v12=>(an "_law_second" v12).b fun _=>Cm.p Fl.next)
def mE:Cm Fl:=(((Cm.p (V.int 1)).b fun v15=>((ac "_law_first").b fun v13=>(Cm.p (V.int 6)).b fun v14=>bM v13 v14).b fun v16=>cS v15 v16).b fun v17=>(an "_law_pages" v17).b fun _=>Cm.p Fl.next)
def mF:Cm Fl:=(((Cm.p (V.int 1)).b fun v20=>((ac "_law_second").b fun v18=>(Cm.p (V.int 12)).b fun v19=>bM v18 v19).b fun v21=>cS v20 v21).b fun v22=>(an "_law_length" v22).b fun _=>Cm.p Fl.next)
def tI:Cm Fl:=(((((ac "_law_first").b fun v23=>(Cm.p (V.int 6)).b fun v24=>dG v23 v24).b fun v25=>(Cm.p (V.int 8)).b fun v26=>bM v25 v26).b fun v27=>(Cm.p (V.int 1)).b fun v28=>(aL .Eq v27 v28).b fun x29=>Cm.p x29).b fun b42=>if b42 then (au (((Cm.p (V.int 1)).b fun v34=>(((ac "_law_first").b fun v30=>(Cm.p (V.int 48)).b fun v31=>dG v30 v31).b fun v32=>(Cm.p (V.int 40)).b fun v33=>bM v32 v33).b fun v35=>cS v34 v35).b fun v36=>(an "_law_pages" v36).b fun _=>Cm.p Fl.next) (((Cm.p (V.int 1)).b fun v39=>((ac "_law_second").b fun v37=>(Cm.p (V.int 4)).b fun v38=>bM v37 v38).b fun v40=>cS v39 v40).b fun v41=>(an "_law_length" v41).b fun _=>Cm.p Fl.next)) else (Cm.p Fl.next))
def tJ:Cm Fl:=(((((ac "_law_first").b fun v43=>(Cm.p (V.int 6)).b fun v44=>dG v43 v44).b fun v45=>(Cm.p (V.int 8)).b fun v46=>bM v45 v46).b fun v47=>(Cm.p (V.int 2)).b fun v48=>(aL .Eq v47 v48).b fun x49=>Cm.p x49).b fun b62=>if b62 then (au (((Cm.p (V.int 1)).b fun v54=>(((ac "_law_first").b fun v50=>(Cm.p (V.int 48)).b fun v51=>dG v50 v51).b fun v52=>(Cm.p (V.int 2)).b fun v53=>bM v52 v53).b fun v55=>cS v54 v55).b fun v56=>(an "_law_pages" v56).b fun _=>Cm.p Fl.next) (((Cm.p (V.int 1)).b fun v59=>((ac "_law_second").b fun v57=>(Cm.p (V.int 60)).b fun v58=>bM v57 v58).b fun v60=>cS v59 v60).b fun v61=>(an "_law_length" v61).b fun _=>Cm.p Fl.next)) else (Cm.p Fl.next))
def tK:Cm Fl:=(((((ac "_law_first").b fun v63=>(Cm.p (V.int 6)).b fun v64=>dG v63 v64).b fun v65=>(Cm.p (V.int 8)).b fun v66=>bM v65 v66).b fun v67=>(Cm.p (V.int 3)).b fun v68=>(aL .Eq v67 v68).b fun x69=>Cm.p x69).b fun b82=>if b82 then (au (((Cm.p (V.int 1)).b fun v74=>(((ac "_law_first").b fun v70=>(Cm.p (V.int 48)).b fun v71=>dG v70 v71).b fun v72=>(Cm.p (V.int 40)).b fun v73=>bM v72 v73).b fun v75=>cS v74 v75).b fun v76=>(an "_law_pages" v76).b fun _=>Cm.p Fl.next) (((Cm.p (V.int 1)).b fun v79=>((ac "_law_second").b fun v77=>(Cm.p (V.int 60)).b fun v78=>bM v77 v78).b fun v80=>cS v79 v80).b fun v81=>(an "_law_length" v81).b fun _=>Cm.p Fl.next)) else (Cm.p Fl.next))
def tL:Cm Fl:=((((ac "_law_pages").b fun v108=>((ac "_law_length").b fun v106=>((((((ac "_law_script").b fun v87=>((Cm.p (V.int 2)).b fun v85=>(Cm.p []).b fun vs86=>Cm.p (v85::vs86)).b fun vs88=>Cm.p (v87::vs88)).b fun vs84=>aD (dJ) vs84).b fun v102=>((ac "_law_length").b fun v100=>(((Cm.p (V.int 1)).b fun v96=>((((ac "_law_script").b fun v92=>((Cm.p (V.int 3)).b fun v90=>(Cm.p []).b fun vs91=>Cm.p (v90::vs91)).b fun vs93=>Cm.p (v92::vs93)).b fun vs89=>aD (dJ) vs89).b fun v94=>(Cm.p (V.int 8)).b fun v95=>bM v94 v95).b fun v97=>cS v96 v97).b fun v98=>(Cm.p []).b fun vs99=>Cm.p (v98::vs99)).b fun vs101=>Cm.p (v100::vs101)).b fun vs103=>Cm.p (v102::vs103)).b fun vs83=>aD (jd) vs83).b fun v104=>(Cm.p []).b fun vs105=>Cm.p (v104::vs105)).b fun vs107=>Cm.p (v106::vs107)).b fun vs109=>Cm.p (v108::vs109)).b fun vs110=>kO vs110).b fun v111=>Cm.p (Fl.ret v111))
def oY:Cm Fl:=(au (mC) (au (mD) (au (mE) (au (mF) (au (tI) (au (tJ) (au (tK) (tL))))))))
def j7:Fc:=gS ["_law_script"] (oY)
theorem v0:FX 2 367 (j7) :=
 bQ.of C (k:=1) (jr ⟨_,_,_,rfl⟩ (BE fun _=>∅) ∅ rfl) fun L =>
 (ag (ak (.inl ∅) (bG C ∅ fC ∅ ∅ (gK C) ∅ (ae (aa ∅ ∅) (ae am ai ∅) ∅) ∅) rfl) (ag (ak (.inl ∅) (bG C ∅ fC ∅ ∅ (gK C) ∅ (ae (aa ∅ ∅) (ae am ai ∅) ∅) ∅) rfl) (ag (ak (.inl ∅) (az C am (az C (aa ∅ ∅) am cu) cI) rfl) (ag (ak (.inl ∅) (az C am (az C (aa ∅ ∅) am cu) cI) rfl) (ag (cj (aV C (az C (az C (aa ∅ ∅) am eV) am cu) am ∅) (ag (ak (.inl ∅) (az C am (az C (az C (aa ∅ ∅) am eV) am cu) cI) rfl) (al (ak (.inl ∅) (az C am (az C (aa ∅ ∅) am cu) cI) rfl))) aP) (ag (cj (aV C (az C (az C (aa ∅ ∅) am eV) am cu) am ∅) (ag (ak (.inl ∅) (az C am (az C (az C (aa ∅ ∅) am eV) am cu) cI) rfl) (al (ak (.inl ∅) (az C am (az C (aa ∅ ∅) am cu) cI) rfl))) aP) (ag (cj (aV C (az C (az C (aa ∅ ∅) am eV) am cu) am ∅) (ag (ak (.inl ∅) (az C am (az C (az C (aa ∅ ∅) am eV) am cu) cI) rfl) (al (ak (.inl ∅) (az C am (az C (aa ∅ ∅) am cu) cI) rfl))) aP) (al (aX (dR (ae (aa ∅ ∅) (ae (aa ∅ ∅) (ae (bG C ∅ rW ∅ ∅ (u9 C) ∅ (ae (bG C ∅ fC ∅ ∅ (gK C) ∅ (ae (aa ∅ ∅) (ae am ai ∅) ∅) ∅) (ae (aa ∅ ∅) (ae (az C am (az C (bG C ∅ fC ∅ ∅ (gK C) ∅ (ae (aa ∅ ∅) (ae am ai ∅) ∅) ∅) am cu) cI) ai ∅) ∅) ∅) ∅) ai ∅) ∅) ∅)))))))))))
def gy:Cm V:=be ["self"] (((((ac "self").b fun v2=>aA "racks" v2).b fun v3=>(Cm.p []).b fun vs4=>Cm.p (v3::vs4)).b fun vs1=>bn vs1).b fun v5=>cQ v5) (an "page") (Cm.p true) (((ac "page").b fun v19=>(((((ac "self").b fun v6=>aA "racks" v6).b fun v7=>(ac "page").b fun v8=>aj v7 v8).b fun v9=>aA "size" v9).b fun v17=>(((((ac "self").b fun v11=>aA "racks" v11).b fun v12=>(ac "page").b fun v13=>aj v12 v13).b fun v14=>(aJ "Shelf" "out" v14).b fun _=>(Cm.p []).b fun vs10=>aD (bK) (v14::vs10)).b fun v15=>(Cm.p []).b fun vs16=>Cm.p (v15::vs16)).b fun vs18=>Cm.p (v17::vs18)).b fun vs20=>Cm.p (v19::vs20)).b fun vs21=>kO vs21)
def sg:Cm Fl:=((gy).b fun v22=>Cm.p (Fl.ret v22))
def mT:Cm Fl:=(sg)
def jc:Fc:=gS ["self"] (mT)
theorem u8:FX 2 283 (jc) :=
 bQ.of C (k:=1) (jr ⟨_,_,_,rfl⟩ (BE fun _=>∅) ∅ rfl) fun L =>
 (al (aX (dL ["self"] ∅ ∅ (bj C rfl (.name _ _) (bT (bv:=(.builtin "sorted")) C ∅ cg ∅ ∅ ∅ (ar _) (ae (aC C aM (ax ∅ ∅) rfl) ai ∅) ∅ (fun A ι q s vs cvs ha R hv=>cT C (ha.hd rfl) R hv))) (fun _=>(aW (.inl ∅))) (bN ∅) (fun _=>jZ) (fun _=>(dR (ae (aa ∅ ∅) (ae (aC C dk (aw C (aC C aM (ax ∅ ∅) rfl) (aa ∅ ∅) (fun _ _=>rfl)) rfl) (ae (aO C ∅ cL (ez C) ∅ (aw C (aC C aM (ax ∅ ∅) rfl) (aa ∅ ∅) (fun _ _=>rfl)) ai rfl rfl ∅ ∅) ai ∅) ∅) ∅))) (fun _=>rfl))))
def mA:Cm Fl:=(((Cm.p []).b fun vs1=>dz vs1).b fun v2=>(an "found" v2).b fun _=>Cm.p Fl.next)
def fv:Cm V:=be ["shelf", "self"] (((ac "shelf").b fun v13=>(aJ "Shelf" "gone" v13).b fun _=>(Cm.p []).b fun vs12=>aD (iF) (v13::vs12)).b fun v14=>cQ v14) (an "slot") (Cm.p true) ((((ac "self").b fun v16=>(aJ "Room" "begin" v16).b fun _=>((ac "shelf").b fun v19=>((ac "slot").b fun v17=>(Cm.p []).b fun vs18=>Cm.p (v17::vs18)).b fun vs20=>Cm.p (v19::vs20)).b fun vs15=>aD (eJ) (v16::vs15)).b fun v24=>(((ac "shelf").b fun v21=>aA "size" v21).b fun v22=>(Cm.p []).b fun vs23=>Cm.p (v22::vs23)).b fun vs25=>Cm.p (v24::vs25)).b fun vs26=>kO vs26)
def lV:Cm Fl:=(au ((((ac "self").b fun v8=>aA "racks" v8).b fun v9=>(ac "page").b fun v10=>aj v9 v10).b fun v11=>(an "shelf" v11).b fun _=>Cm.p Fl.next) (((ac "found").b fun v27=>(fv).b fun v28=>cS v27 v28).b fun v29=>(an "found" v29).b fun _=>Cm.p Fl.next))
def tz:Cm Fl:=((((((ac "self").b fun v4=>aA "racks" v4).b fun v5=>(Cm.p []).b fun vs6=>Cm.p (v5::vs6)).b fun vs3=>bn vs3).b fun v7=>cQ v7).b fun it30=>bH it30.g (an "page") (lV) it30.xs)
def tD:Cm Fl:=((ac "found").b fun v31=>Cm.p (Fl.ret v31))
def oW:Cm Fl:=(au (mA) (au (tz) (tD)))
def j6:Fc:=gS ["self"] (oW)
theorem vY:FX 2 278 (j6) :=
 bQ.of C (k:=1) (jr ⟨_,_,_,rfl⟩ (BE fun _=>∅) ∅ rfl) fun L =>
 (ag (ak (.inl ∅) (cD ai) rfl) (ag (dS (bj C rfl (.name _ _) (bT (bv:=(.builtin "sorted")) C ∅ cg ∅ ∅ ∅ (ar _) (ae (aC C aM (ax ∅ ∅) rfl) ai ∅) ∅ (fun A ι q s vs cvs ha R hv=>cT C (ha.hd rfl) R hv))) (aW (.inl ∅)) (ag (ak (.inr ⟨∅,∅⟩) (aw C (aC C aM (ax ∅ ∅) rfl) (aa ∅ ∅) (fun _ _=>rfl)) rfl) (al (ak (.inl ∅) (az C (aa ∅ ∅) (dL ["shelf", "self"] ∅ ∅ (bj C rfl (.name _ _) (aO C ∅ lZ (qV C) ∅ (ax ∅ ∅) ai rfl rfl ∅ ∅)) (fun _=>(aW (.inl ∅))) (bN ∅) (fun _=>jZ) (fun _=>(dR (ae (aO C ∅ fB (iN C) ∅ (ax ∅ ∅) (ae (ax ∅ ∅) (ae (aa ∅ ∅) ai ∅) ∅) rfl rfl ∅ ∅) (ae (aC C dk (ax ∅ ∅) rfl) ai ∅) ∅))) (fun _=>rfl)) cI) rfl))) (fun _=>rfl)) (al (aX (aa ∅ ∅)))))
def iZ:Cm Fl:=(((ac "_law_one").b fun v2=>(ac "_law_copy").b fun v3=>(aL .NotEq v2 v3).b fun x4=>Cm.p x4).b fun b6=>if b6 then ((Cm.p (V.bool false)).b fun v5=>Cm.p (Fl.ret v5)) else (Cm.p Fl.next))
def vD:Cm Fl:=(((ac "_law_kept").b fun v1=>cQ v1).b fun it7=>bH it7.g (jp "_law_one" "_law_copy") (iZ) it7.xs)
def fX:Cm V:=be ["_law_model"] ((((ac "_law_model").b fun v9=>(Cm.p []).b fun vs10=>Cm.p (v9::vs10)).b fun vs8=>bn vs8).b fun v11=>cQ v11) (an "_law_page") (Cm.p true) (((ac "_law_page").b fun v28=>((((ac "_law_model").b fun v12=>(ac "_law_page").b fun v13=>aj v12 v13).b fun v14=>(Cm.p (V.int 0)).b fun v15=>aj v14 v15).b fun v26=>(((((ac "_law_model").b fun v17=>(ac "_law_page").b fun v18=>aj v17 v18).b fun v19=>(Cm.p (V.int 1)).b fun v20=>aj v19 v20).b fun v21=>(bC v21).b fun kd22=>if kd22=true then (Cm.p (V.bool true)).b fun v23=>j4 v21 v23 else Cm.stk).b fun v24=>(Cm.p []).b fun vs25=>Cm.p (v24::vs25)).b fun vs27=>Cm.p (v26::vs27)).b fun vs29=>Cm.p (v28::vs29)).b fun vs30=>kO vs30)
def nJ:Cm Fl:=((fX).b fun v31=>(an "_law_shelves" v31).b fun _=>Cm.p Fl.next)
def mM:Cm V:=be ["_law_model"] ((((ac "_law_drawn").b fun v32=>(Cm.p (V.int 0)).b fun v33=>aj v32 v33).b fun v34=>(Cm.p []).b fun vs35=>Cm.p (v34::vs35)).b fun vs36=>cN vs36) (an "_law_page") ((ac "_law_page").b fun v37=>(ac "_law_model").b fun v38=>(aL .NotIn v37 v38).b fun x39=>Cm.p x39) (ac "_law_page")
def nK:Cm Fl:=((mM).b fun v40=>(an "_law_pile" v40).b fun _=>Cm.p Fl.next)
def nL:Cm Fl:=(((((ac "_law_room").b fun v42=>(aJ "Room" "shelves" v42).b fun _=>(Cm.p []).b fun vs41=>aD (jc) (v42::vs41)).b fun v51=>(((ac "_law_room").b fun v44=>(aJ "Room" "pile" v44).b fun _=>(Cm.p []).b fun vs43=>aD (gP) (v44::vs43)).b fun v49=>(((ac "_law_room").b fun v46=>(aJ "Room" "things" v46).b fun _=>(Cm.p []).b fun vs45=>aD (j6) (v46::vs45)).b fun v47=>(Cm.p []).b fun vs48=>Cm.p (v47::vs48)).b fun vs50=>Cm.p (v49::vs50)).b fun vs52=>Cm.p (v51::vs52)).b fun vs53=>dz vs53).b fun v54=>(an "_law_found" v54).b fun _=>Cm.p Fl.next)
def nM:Cm Fl:=(((ac "_law_kept").b fun v56=>(bC v56).b fun kd57=>if kd57 then rO "clear" true v56 else Cm.stk).b fun _=>Cm.p Fl.next)
def i9:Cm Fl:=(((ac "_law_kept").b fun v60=>(bC v60).b fun kd69=>if kd69=true then (((ac "_law_one").b fun v66=>((((ac "_law_one").b fun v62=>(Cm.p []).b fun vs63=>Cm.p (v62::vs63)).b fun vs61=>iK vs61).b fun v64=>(Cm.p []).b fun vs65=>Cm.p (v64::vs65)).b fun vs67=>Cm.p (v66::vs67)).b fun vs68=>kO vs68).b fun v70=>eB v60 v70 else Cm.stk).b fun _=>Cm.p Fl.next)
def nN:Cm Fl:=(((ac "_law_found").b fun v58=>cQ v58).b fun it71=>bH it71.g (an "_law_one") (i9) it71.xs)
def nO:Cm Fl:=(((ac "_law_found").b fun v86=>(((ac "_law_shelves").b fun v83=>((ac "_law_pile").b fun v81=>((((ac "_law_model").b fun v77=>(((ac "_law_drawn").b fun v73=>(Cm.p (V.int 1)).b fun v74=>aj v73 v74).b fun v75=>(Cm.p []).b fun vs76=>Cm.p (v75::vs76)).b fun vs78=>Cm.p (v77::vs78)).b fun vs72=>aD (ga) vs72).b fun v79=>(Cm.p []).b fun vs80=>Cm.p (v79::vs80)).b fun vs82=>Cm.p (v81::vs82)).b fun vs84=>Cm.p (v83::vs84)).b fun vs85=>dz vs85).b fun v87=>(aL .Eq v86 v87).b fun x88=>Cm.p (V.bool x88)).b fun v89=>Cm.p (Fl.ret v89))
def qI:Cm Fl:=(au (vD) (au (nJ) (au (nK) (au (nL) (au (nM) (au (nN) (nO)))))))
def gb:Fc:=gS ["_law_room", "_law_model", "_law_drawn", "_law_kept"] (qI)
theorem lH:FX 3 441 (gb) :=
 bQ.of C (k:=2) (jr ⟨_,_,_,rfl⟩ (Ge fun _ _ _ _=>∅) ∅ rfl) fun L =>
 (ag (dS (bj C rfl (.pair _ _ _) (aa ∅ ∅)) (ub rfl (.inl ∅) (.inl ∅)) (al (cj (aV C (aa ∅ ∅) (aa ∅ ∅) ∅) (al (aX bP)) aP)) (fun _=>rfl)) (ag (fM ["_law_model"] ∅ ∅ (bj C rfl (.name _ _) (bT (bv:=(.builtin "sorted")) C ∅ cg ∅ ∅ ∅ (ar _) (ae (ax ∅ ∅) ai ∅) ∅ (fun A ι q s vs cvs ha R hv=>cT C (ha.hd rfl) R hv))) (fun _=>(aW (.inl ∅))) (bN ∅) (fun _=>jZ) (fun _=>(dR (ae (aa ∅ ∅) (ae (aw C (aw C (ax ∅ ∅) (aa ∅ ∅) (fun _ _=>rfl)) am (fun _ _=>rfl)) (ae (eU C true kx (nV C) (aw C (aw C (ax ∅ ∅) (aa ∅ ∅) (fun _ _=>rfl)) am (fun _ _=>rfl)) bP rfl rfl ∅ ∅ ∅) ai ∅) ∅) ∅))) (fun _=>rfl) rfl ∅) (ag (fM ["_law_model"] ∅ ∅ (fR C rfl ∅ eg (ae (aw C (aa ∅ ∅) am (fun _ _=>rfl)) ai ∅) ∅) (fun _=>(aW (.inl ∅))) (bN ∅) (fun _=>(eZ (aV C (aa ∅ ∅) (ax ∅ ∅) ∅))) (fun _=>(aa ∅ ∅)) (fun _=>rfl) rfl ∅) (ag (ak (.inl ∅) (cD (ae (aO C ∅ qJ (u8 C) ∅ (aa ∅ ∅) ai rfl rfl ∅ ∅) (ae (aO C ∅ ji (nq C) ∅ (aa ∅ ∅) ai rfl rfl ∅ ∅) (ae (aO C ∅ rQ (vY C) ∅ (aa ∅ ∅) ai rfl rfl ∅ ∅) ai ∅) ∅) ∅)) rfl) (ag (dM (Gg C CF (aa ∅ ∅) rfl ∅) rfl rfl) (ag (dS (bj C rfl (.name _ _) (aa ∅ ∅)) (aW (.inl ∅)) (al (dM (eU C true gx (iV C) (aa ∅ ∅) (dR (ae (aa ∅ ∅) (ae (bT (bv:=(.type "list")) C ∅ qN ∅ ∅ ∅ (dq _) (ae (aa ∅ ∅) ai ∅) ∅ (fun A ι q s vs cvs ha R hv=>qj C R hv)) ai ∅) ∅)) rfl rfl ∅ ∅ ∅) rfl rfl)) (fun _=>rfl)) (al (aX (qi C (aa ∅ ∅) (cD (ae (aa ∅ ∅) (ae (aa ∅ ∅) (ae (bG C ∅ ng ∅ ∅ (qY C) ∅ (ae (ax ∅ ∅) (ae (aw C (aa ∅ ∅) am (fun _ _=>rfl)) ai ∅) ∅) ∅) ai ∅) ∅) ∅)) ∅)))))))))
def Bm:Cm Fl:=((((ac "_law_script").b fun v2=>(Cm.p []).b fun vs3=>Cm.p (v2::vs3)).b fun vs1=>aD (j7) vs1).b fun v4=>(an "_law_drawn" v4).b fun _=>Cm.p Fl.next)
def Bn:Cm Fl:=(((((ac "_law_drawn").b fun v6=>(Cm.p (V.int 0)).b fun v7=>aj v6 v7).b fun v19=>(((ac "_law_drawn").b fun v8=>(Cm.p (V.int 1)).b fun v9=>aj v8 v9).b fun v17=>(((((ac "_law_drawn").b fun v11=>(Cm.p (V.int 2)).b fun v12=>aj v11 v12).b fun v13=>(Cm.p []).b fun vs14=>Cm.p (v13::vs14)).b fun vs10=>iK vs10).b fun v15=>(Cm.p []).b fun vs16=>Cm.p (v15::vs16)).b fun vs18=>Cm.p (v17::vs18)).b fun vs20=>Cm.p (v19::vs20)).b fun vs5=>mV "Plan" (jH) vs5).b fun v21=>(an "_law_plan" v21).b fun _=>Cm.p Fl.next)
def Bo:Cm Fl:=((((((ac "_law_plan").b fun v23=>(Cm.p []).b fun vs24=>Cm.p (v23::vs24)).b fun vs22=>mV "Room" (gO) vs22).b fun v30=>((((ac "_law_plan").b fun v26=>(Cm.p []).b fun vs27=>Cm.p (v26::vs27)).b fun vs25=>mV "Room" (gO) vs25).b fun v28=>(Cm.p []).b fun vs29=>Cm.p (v28::vs29)).b fun vs31=>Cm.p (v30::vs31)).b fun vs32=>dz vs32).b fun v33=>(an "_law_rooms" v33).b fun _=>Cm.p Fl.next)
def Bp:Cm Fl:=(((Ar.b fun v36=>(Ar.b fun v34=>(Cm.p []).b fun vs35=>Cm.p (v34::vs35)).b fun vs37=>Cm.p (v36::vs37)).b fun vs38=>dz vs38).b fun v39=>(an "_law_models" v39).b fun _=>Cm.p Fl.next)
def Bq:Cm Fl:=(((((Cm.p []).b fun vs40=>dz vs40).b fun v44=>(((Cm.p []).b fun vs41=>dz vs41).b fun v42=>(Cm.p []).b fun vs43=>Cm.p (v42::vs43)).b fun vs45=>Cm.p (v44::vs45)).b fun vs46=>dz vs46).b fun v47=>(an "_law_kept" v47).b fun _=>Cm.p Fl.next)
def tP:Cm Fl:=(au ((((((ac "_law_k").b fun v54=>(Cm.p (V.int 3)).b fun v55=>bM v54 v55).b fun v56=>(Cm.p (V.int 2)).b fun v57=>(aL .Eq v56 v57).b fun x58=>Cm.p (V.bool x58)).b fun v59=>(Cm.p []).b fun vs60=>Cm.p (v59::vs60)).b fun vs53=>C7 vs53).b fun v61=>(an "_law_which" v61).b fun _=>Cm.p Fl.next) (au (((ac "_law_rooms").b fun v62=>(ac "_law_which").b fun v63=>aj v62 v63).b fun v64=>(an "_law_room" v64).b fun _=>Cm.p Fl.next) (au (((ac "_law_models").b fun v65=>(ac "_law_which").b fun v66=>aj v65 v66).b fun v67=>(an "_law_model" v67).b fun _=>Cm.p Fl.next) (au ((((((ac "_law_room").b fun v79=>((ac "_law_model").b fun v77=>((ac "_law_drawn").b fun v75=>(((ac "_law_kept").b fun v69=>(ac "_law_which").b fun v70=>aj v69 v70).b fun v73=>((ac "_law_cell").b fun v71=>(Cm.p []).b fun vs72=>Cm.p (v71::vs72)).b fun vs74=>Cm.p (v73::vs74)).b fun vs76=>Cm.p (v75::vs76)).b fun vs78=>Cm.p (v77::vs78)).b fun vs80=>Cm.p (v79::vs80)).b fun vs68=>aD (lr) vs68).b fun v81=>bE v81).b fun b82=>Cm.p (!b82)).b fun b84=>if b84 then ((Cm.p (V.bool false)).b fun v83=>Cm.p (Fl.ret v83)) else (Cm.p Fl.next)) (((((ac "_law_k").b fun v85=>(Cm.p (V.int 5)).b fun v86=>bM v85 v86).b fun v87=>(Cm.p (V.int 4)).b fun v88=>(aL .Eq v87 v88).b fun x89=>Cm.p x89).b fun b104=>if b104 then ((((((ac "_law_room").b fun v99=>((ac "_law_model").b fun v97=>((ac "_law_drawn").b fun v95=>(((ac "_law_kept").b fun v91=>(ac "_law_which").b fun v92=>aj v91 v92).b fun v93=>(Cm.p []).b fun vs94=>Cm.p (v93::vs94)).b fun vs96=>Cm.p (v95::vs96)).b fun vs98=>Cm.p (v97::vs98)).b fun vs100=>Cm.p (v99::vs100)).b fun vs90=>aD (gb) vs90).b fun v101=>bE v101).b fun b102=>Cm.p (!b102)).b fun b103=>if b103 then (Cm.p true) else Cm.p false) else Cm.p false).b fun b106=>if b106 then ((Cm.p (V.bool false)).b fun v105=>Cm.p (Fl.ret v105)) else (Cm.p Fl.next))))))
def ED:Cm Fl:=(((((ac "_law_script").b fun v48=>(Cm.p (V.int 4)).b fun v49=>yM v48 v49).b fun v50=>(Cm.p []).b fun vs51=>Cm.p (v50::vs51)).b fun vs52=>lW vs52).b fun it107=>bH it107.g (jp "_law_k" "_law_cell") (tP) it107.xs)
def yh:Cm Fl:=(((((((ac "_law_plan").b fun v108=>aA "pages" v108).b fun v112=>(((ac "_law_plan").b fun v109=>aA "length" v109).b fun v110=>(Cm.p []).b fun vs111=>Cm.p (v110::vs111)).b fun vs113=>Cm.p (v112::vs113)).b fun vs114=>kO vs114).b fun v124=>((((ac "_law_drawn").b fun v115=>(Cm.p (V.int 0)).b fun v116=>aj v115 v116).b fun v121=>(((ac "_law_drawn").b fun v117=>(Cm.p (V.int 1)).b fun v118=>aj v117 v118).b fun v119=>(Cm.p []).b fun vs120=>Cm.p (v119::vs120)).b fun vs122=>Cm.p (v121::vs122)).b fun vs123=>kO vs123).b fun v125=>(aL .NotEq v124 v125).b fun x126=>Cm.p x126).b fun b134=>if b134 then Cm.p true else ((((ac "_law_plan").b fun v127=>aA "sizes" v127).b fun v130=>((ac "_law_drawn").b fun v128=>(Cm.p (V.int 2)).b fun v129=>aj v128 v129).b fun v131=>(aL .NotEq v130 v131).b fun x132=>Cm.p x132).b fun b133=>if b133 then Cm.p true else (Cm.p false))).b fun b136=>if b136 then ((Cm.p (V.bool false)).b fun v135=>Cm.p (Fl.ret v135)) else (Cm.p Fl.next))
def yi:Cm Fl:=(((((((ac "_law_rooms").b fun v138=>(Cm.p (V.int 0)).b fun v139=>aj v138 v139).b fun v150=>(((ac "_law_models").b fun v140=>(Cm.p (V.int 0)).b fun v141=>aj v140 v141).b fun v148=>((ac "_law_drawn").b fun v146=>(((ac "_law_kept").b fun v142=>(Cm.p (V.int 0)).b fun v143=>aj v142 v143).b fun v144=>(Cm.p []).b fun vs145=>Cm.p (v144::vs145)).b fun vs147=>Cm.p (v146::vs147)).b fun vs149=>Cm.p (v148::vs149)).b fun vs151=>Cm.p (v150::vs151)).b fun vs137=>aD (gb) vs137).b fun v152=>bE v152).b fun b153=>Cm.p (!b153)).b fun b155=>if b155 then ((Cm.p (V.bool false)).b fun v154=>Cm.p (Fl.ret v154)) else (Cm.p Fl.next))
def Br:Cm Fl:=(((((ac "_law_rooms").b fun v157=>(Cm.p (V.int 1)).b fun v158=>aj v157 v158).b fun v169=>(((ac "_law_models").b fun v159=>(Cm.p (V.int 1)).b fun v160=>aj v159 v160).b fun v167=>((ac "_law_drawn").b fun v165=>(((ac "_law_kept").b fun v161=>(Cm.p (V.int 1)).b fun v162=>aj v161 v162).b fun v163=>(Cm.p []).b fun vs164=>Cm.p (v163::vs164)).b fun vs166=>Cm.p (v165::vs166)).b fun vs168=>Cm.p (v167::vs168)).b fun vs170=>Cm.p (v169::vs170)).b fun vs156=>aD (gb) vs156).b fun v171=>Cm.p (Fl.ret v171))
def EV:Cm Fl:=(au (Bm) (au (Bn) (au (Bo) (au (Bp) (au (Bq) (au (ED) (au (yh) (au (yi) (Br)))))))))
def ER:Fc:=gS ["_law_script"] (EV)
theorem GP:FX 7 448 (ER) :=
 bQ.of C (k:=6) (jr ⟨_,_,_,rfl⟩ (BE fun _=>∅) ∅ rfl) fun L =>
 (ag (ak (.inl ∅) (bG C ∅ tr ∅ ∅ (v0 C) ∅ (ae (aa ∅ ∅) ai ∅) ∅) rfl) (ag (ak (.inl ∅) (xk C ∅ Es BQ ∅ ∅ Aq BN ∅ (zr C) ∅ (ae (aw C (aa ∅ ∅) am (fun _ _=>rfl)) (ae (aw C (aa ∅ ∅) am (fun _ _=>rfl)) (ae (bT (bv:=(.type "list")) C ∅ qN ∅ ∅ ∅ (dq _) (ae (aw C (aa ∅ ∅) am (fun _ _=>rfl)) ai ∅) ∅ (fun A ι q s vs cvs ha R hv=>qj C R hv)) ai ∅) ∅) ∅) ∅) rfl) (ag (ak (.inl ∅) (cD (ae (xk C ∅ Ba wO ∅ ∅ uJ wN ∅ (sW C) ∅ (ae (aa ∅ ∅) ai ∅) ∅) (ae (xk C ∅ Ba wO ∅ ∅ uJ wN ∅ (sW C) ∅ (ae (aa ∅ ∅) ai ∅) ∅) ai ∅) ∅)) rfl) (ag (ak (.inl ∅) (cD (ae xj (ae xj ai ∅) ∅)) rfl) (ag (ak (.inl ∅) (cD (ae (cD ai) (ae (cD ai) ai ∅) ∅)) rfl) (ag (dS (zP C rfl ∅ lE (ae (Fe C (aa ∅ ∅) am) ai ∅) ∅) (ub rfl (.inl ∅) (.inl ∅)) (ag (ak (.inl ∅) (bT (bv:=(.type "int")) C ∅ At ∅ ∅ ∅ (dq _) (ae (qi C (az C (aa ∅ ∅) am cu) am ∅) ai ∅) ∅ (fun A ι q s vs cvs ha R hv=>Gk R hv)) rfl) (ag (ak (.inl ∅) (aw C (aa ∅ ∅) (aa ∅ ∅) (fun _ _=>rfl)) rfl) (ag (ak (.inl ∅) (aw C (aa ∅ ∅) (aa ∅ ∅) (fun _ _=>rfl)) rfl) (ag (cj (io (gr (bG C ∅ xN ∅ ∅ (Az C) ∅ (ae (aa ∅ ∅) (ae (aa ∅ ∅) (ae (aa ∅ ∅) (ae (aw C (aa ∅ ∅) (aa ∅ ∅) (fun _ _=>rfl)) (ae (aa ∅ ∅) ai ∅) ∅) ∅) ∅) ∅) ∅) rfl)) (al (aX bP)) aP) (al (cj (fG (jX (aV C (az C (aa ∅ ∅) am cu) am ∅) (jX (io (gr (bG C ∅ jk ∅ ∅ (lH C) ∅ (ae (aa ∅ ∅) (ae (aa ∅ ∅) (ae (aa ∅ ∅) (ae (aw C (aa ∅ ∅) (aa ∅ ∅) (fun _ _=>rfl)) ai ∅) ∅) ∅) ∅) ∅) rfl)) qm))) (al (aX bP)) aP)))))) (fun _=>rfl)) (ag (cj (fG (fL (aV C (dR (ae (aC C pL (aa ∅ ∅) rfl) (ae (aC C fQ (aa ∅ ∅) rfl) ai ∅) ∅)) (dR (ae (aw C (aa ∅ ∅) am (fun _ _=>rfl)) (ae (aw C (aa ∅ ∅) am (fun _ _=>rfl)) ai ∅) ∅)) ∅) (fL (aV C (aC C pM (aa ∅ ∅) rfl) (aw C (aa ∅ ∅) am (fun _ _=>rfl)) ∅) jY))) (al (aX bP)) aP) (ag (cj (io (gr (bG C ∅ jk ∅ ∅ (lH C) ∅ (ae (aw C (aa ∅ ∅) am (fun _ _=>rfl)) (ae (aw C (aa ∅ ∅) am (fun _ _=>rfl)) (ae (aa ∅ ∅) (ae (aw C (aa ∅ ∅) am (fun _ _=>rfl)) ai ∅) ∅) ∅) ∅) ∅) rfl)) (al (aX bP)) aP) (al (aX (bG C ∅ jk ∅ ∅ (lH C) ∅ (ae (aw C (aa ∅ ∅) am (fun _ _=>rfl)) (ae (aw C (aa ∅ ∅) am (fun _ _=>rfl)) (ae (aa ∅ ∅) (ae (aw C (aa ∅ ∅) am (fun _ _=>rfl)) ai ∅) ∅) ∅) ∅) ∅)))))))))))
end
theorem lh {P:Prop} (h:∀G:Prop,(P→G)→G):P:=h P id
section
variable {α β:Type} {q q':S} {l l':aY} {H H':Hp} {x y z:String} {v w u:V}
theorem bq {m:Cm α} {f:α→Cm β} {a:α} {r:vM S β} (h:m q= .ok a q') (k:f a q'=r):(m.b f) q=r:=by rw [ni,h];exact k
theorem bx {m:Cm α} {f:α→Cm β} {c:String} (h:m q= .exc c q'):(m.b f) q= .exc c q':=by rw [ni,h]
theorem g_get (h:l x=some v):ac x ⟨l,H⟩= .ok v ⟨l,H⟩:=by rw [DD,h]
theorem g_set (e:upd l x v=l'):an x v ⟨l,H⟩= .ok () ⟨l',H⟩:=by rw [uY,e]
theorem g_call {F:Fc} {vs:List V} (h:F vs H= .ok v H'):aD F vs ⟨l,H⟩= .ok v ⟨l,H'⟩:=by rw [pY,h]
theorem tU {F:Fc} {vs:List V} {c:String} (h:F vs H= .exc c H'):aD F vs ⟨l,H⟩= .exc c ⟨l,H'⟩:=by rw [pY,h]
theorem it_t {b:Bool} {m m':Cm α} {r:vM S α} (hb:b=true) (h:m q=r):(if b=true then m else m') q=r:=by rw [hb];exact h
theorem it_f {b:Bool} {m m':Cm α} {r:vM S α} (hb:b=false) (h:m' q=r):(if b=true then m else m') q=r:=by rw [hb];exact h
theorem it_k {b:Bool} {m m':Cm α} {r:vM S α} (hb:b=false) (h:m q=r):(if b=false then m else m') q=r:=by rw [hb];exact h
theorem gv {i j k:Int} (h:j≠0) (e:i.fdiv j=k):dG (.int i) (.int j) q= .ok (.int k) q:=by rw [← e];exact congrFun (if_neg h) q
theorem eW {i j k:Int} (h:j≠0) (e:i.fmod j=k):bM (.int i) (.int j) q= .ok (.int k) q:=by rw [← e];exact congrFun (if_neg h) q
theorem mR {n:Nat} {vs:List V} {i:Int} {v:V} {l:aY} (h:H[n]? = some (.list vs)) (h0:0≤i∧i<1000000) (hv:vs[i.toNat]? = some v):aj (.ref n) (.int i) ⟨l,H⟩= .ok v ⟨l,H⟩:=by unfold aj;dsimp only;rw [h];dsimp only;rw [if_pos h0,hv]
theorem FK {n:Nat} {es:List (Int×V)} {i:Int} {v:V} {l:aY} (h:H[n]? = some (.dict es)) (hv:es.lookup i=some v):aj (.ref n) (.int i) ⟨l,H⟩= .ok v ⟨l,H⟩:=by unfold aj;dsimp only;rw [h];dsimp only;rw [hv]
theorem Hh {n:Nat} {es:List (Int×V)} (i:Int) {l:aY} (h:H[n]? = some (.dict es)):inV (.int i) (.ref n) ⟨l,H⟩= .ok (es.lookup i).isSome ⟨l,H⟩:=by unfold inV;dsimp only;rw [h]
theorem Gp {i j:Nat} {xs ys:List V} {l:aY} (h1:H[i]? = some (.list xs)) (h2:H[j]? = some (.list ys)) (h:xs.length+ys.length≤1000000):cS (.ref i) (.ref j) ⟨l,H⟩= .ok (.ref H.length) ⟨l,H++[.list (xs++ys)]⟩:=by unfold cS;dsimp only;rw [h1,h2];dsimp only;rw [if_pos h]
theorem bB {i:Nat} {xs:List V} (h:H[i]? = some (.list xs)):ay (.ref i) H=some xs:=by unfold ay;dsimp only;rw [h]
theorem Gq {i:Nat} {xs:List V} (h:q.H[i]? = some (.list xs)) (hl:xs.length<1000000):fg [.ref i] q= .ok (.int xs.length) q:=by unfold fg;dsimp only;rw [h];exact if_pos hl
theorem fH {c f:String} {i:Nat} {fs:List (String×V)} (h:H[i]? = some (.flds fs)) (hv:fs.lookup f=some v):aA f (.inst c i) ⟨l,H⟩= .ok v ⟨l,H⟩:=by rw [DC,h];dsimp only;rw [hv]
theorem xr {c f:String} {i:Nat} {fs:List (String×V)} (h:H[i]? = some (.flds fs)) (hl:fs.length<100):bV f v (.inst c i) ⟨l,H⟩= .ok () ⟨l,H.set i (.flds (vN f v fs))⟩:=by rw [BZ,h];exact if_pos hl
theorem gI {c f:String} {i:Nat} {fs:List (String×V)} {v:V} (h:H[i]? = some (.flds fs)) (hv:fs.lookup f=some v):aA f (.inst c i) ⟨l,H⟩= .ok v ⟨l,H⟩:=by rw [DC,h];dsimp only;rw [hv]
theorem dT {c f:String} {i:Nat} {fs:List (String×V)} (h:H[i]? = some (.flds fs)) (hv:fs.lookup f=none):aJ c f (.inst c i) ⟨l,H⟩= .ok () ⟨l,H⟩:=by rw [DE,if_pos rfl,h];dsimp only;rw [hv]
theorem nW {c f:String} {fs:List (String×V)} {os:List O} (hl:fs.length<100):bV f v (.inst c H.length) ⟨l,H ++ .flds fs::os⟩= .ok () ⟨l,H ++ .flds (vN f v fs)::os⟩:=by
 rw [xr (by rw [List.getElem?_append_right (Nat.le_refl _),Nat.sub_self];rfl) hl,List.set_append_right _ _ (Nat.le_refl _),Nat.sub_self];rfl
theorem xI {α:Type} {i:Nat} {a:α} {f:α→V} {k:Int} (h:H[i]? = some (.list [f a])) (hk:0≤k∧k≤1000000):dQ (.ref i) (.int k) ⟨l,H⟩= .ok (.ref H.length) ⟨l,H++[.list ((List.replicate k.toNat a).map f)]⟩:=by
 have h2:∀n,(List.replicate n [f a]).flatten=(List.replicate n a).map f:=fun n=>by
  induction n with
  | zero=>rfl
  | succ n ih=>rw [List.replicate_succ,List.flatten_cons,ih];rfl
 unfold dQ;dsimp only;rw [h];dsimp only
 rw [if_pos ⟨rfl,hk⟩,h2]
theorem xz {n:Nat} {vs:List V} (h:H[n]? = some (.list (v::vs))):aj (.ref n) (.int 0) ⟨l,H⟩= .ok v ⟨l,H⟩:=by unfold aj;dsimp only;rw [h];rfl
theorem zo (a:Int) (n:Nat):ba a (n+1)= .int a::ba (a+1) n:=rfl
theorem CR (xs ys:List PyData):PyData.eqv (.list xs) (.list ys)=PyData.eqvAll xs ys:=rfl
theorem Eb (xs ys:List PyData):PyData.eqv (.tuple xs) (.tuple ys)=PyData.eqvAll xs ys:=rfl
theorem jG (x y:PyData) (xs ys:List PyData):PyData.eqvAll (x::xs) (y::ys)=(PyData.eqv x y&&PyData.eqvAll xs ys):=rfl
theorem og {α β:Type} (f:α→Option β) (x:α) (xs:List α):dw f (x::xs)=(f x).bind fun d=>(dw f xs).map (d :: ·):=rfl
theorem AS {i j:Int} {b:Bool} (h:decide (i=j)=b):eqV (.int i) (.int j) q= .ok b q:=by rw [qO,h]
theorem g_ceq {i j:Int} {b:Bool} (h:decide (i=j)=b):aL .Eq (.int i) (.int j) q= .ok b q:=AS h
theorem g_cgt {i j:Int} {b:Bool} (h:decide (i>j)=b):aL .Gt (.int i) (.int j) q= .ok b q:=by rw [← h];rfl
theorem g_clt {i j:Int} {b:Bool} (h:decide (i<j)=b):aL .Lt (.int i) (.int j) q= .ok b q:=by rw [← h];rfl
theorem g_cle {i j:Int} {b:Bool} (h:decide (i≤j)=b):aL .LtE (.int i) (.int j) q= .ok b q:=by rw [← h];rfl
theorem g_ceqv {b:Bool} (h:eqV v w q= .ok b q):aL .Eq v w q= .ok b q:=h
theorem g_cin {b:Bool} (h:inV v w q= .ok b q):aL .In v w q= .ok b q:=h
theorem g_pur {a b:α} (h:a=b):Cm.p a q= .ok b q:=by rw [h];rfl
theorem g_ne {b:Bool} (h:eqV v w q= .ok b q):aL .NotEq v w q= .ok (!b) q:=bq h rfl
theorem g_nin {b:Bool} (h:inV v w q= .ok b q):aL .NotIn v w q= .ok (!b) q:=bq h rfl
theorem g_nt2:kO [v,w] q= .ok (.tup [v,w]) q:=by unfold kO;rw [if_pos (by simp)];rfl
theorem g_nt3:kO [v,w,u] q= .ok (.tup [v,w,u]) q:=by unfold kO;rw [if_pos (by simp)];rfl
theorem g_nl0 (e:H++[.list []]=H'):dz [] ⟨l,H⟩= .ok (.ref H.length) ⟨l,H'⟩:=by rw [lF,if_pos (by simp),e]
theorem af (e:upd l x v=l') (hn:y≠x) (b:l y=some w):l' y=some w:=by rw [← e,kj _ _ hn];exact b
theorem aq (e:upd l x v=l'):l' x=some v:=by rw [← e,gp]
theorem gL (e:upd (upd l x v) z u=l') (h1:y≠z) (h2:y≠x) (b:l y=some w):l' y=some w:=by rw [← e,kj _ _ h1,kj _ _ h2];exact b
theorem tZ (e:upd (upd l x v) z u=l') (h1:x≠z):l' x=some v:=by rw [← e,kj _ _ h1,gp]
theorem cq {caps:List String} (hn:y≠x) (hm:y∈caps) (b:l y=some w):upd (dX caps l) x v y=some w:=by rw [kj _ _ hn,Bk hm];exact b
end
local macro_rules
  | `(tactic| exists $xs,*) => do
    let x:=xs.getElems
    let y:=x
    let f ← `(tactic| with_reducible first $[| exact $x]* $[| exact $y _]*)
    let r ← `(tactic| exact rfl)
    let s ← `(tactic| skip)
    let b:=("bq g_nt2 g_nt3 g_get g_set g_call it_t it_f it_k g_ceq g_cgt g_clt g_cle g_ceqv g_cin g_ne g_nin g_nl0 g_pur it_t it_f it_k".splitOn " ").toArray.map fun s=>Lean.mkIdent (.str `Mine.Lake s)
    let k := #[s,s,s]++Array.replicate 13 f ++ #[f,f,f,r,r,r]
    `(tactic| (apply Mine.Lake.bq) <;> repeat' (first $[| (with_reducible apply $b; $k:tactic)]* | $f:tactic | $r:tactic | apply Mine.Lake.bq | exact Mine.Lake.qO _ _ _))
noncomputable def cA (a:Int):List Bool→List Int
 | []=>[]
 | true::r=>a::cA (a+1) r
 | false::r=>cA (a+1) r
theorem Bs (a:Int) (r:List Bool):cA a (true::r)=a::cA (a+1) r:=rfl
theorem EF (a:Int) (r:List Bool):cA a (false::r)=cA (a+1) r:=rfl
theorem EG (a:Int):cA a []=[]:=rfl
noncomputable def GK:V→Option V
 | .tup [.int i,.bool b]=>if b then some (.int i) else none
 | _=>none
theorem pE:∀(bs:List Bool) (a:Int),(fZ a (bs.map V.bool)).filterMap GK=(cA a bs).map V.int
 | [],_=>rfl
 | false::r,a=>pE r (a+1)
 | true::r,a=>congrArg (V.int a :: ·) (pE r (a+1))
section
variable (H:Hp)
theorem g0 (i:Int):qv [.int i] H= .ok (.bool true) H:=rfl
theorem lP (i:Int):gR [.int i] H= .ok (.bool true) H:=rfl
theorem ko (i a b:Int):kD [.int i,.int a,.int b] H= .ok (.bool (decide (a≤i∧i≤b))) H:=by
 rw [Bool.decide_and]
 refine aS (m:=wQ) (q:=⟨aT ["number", "least", "most"] [.int i,.int a,.int b],H⟩) rfl ?_
 cases h1:decide (a≤i)<;>exists g0 H i,h1
theorem yn (k:Int) (h0:0≤k) (h1:k<1000):∃c,dJ [.scr,.int k] H= .ok (.int c) H:=by
 have h6:0≤k∧k<1000000:=⟨h0,by exact cK 0xf4240a090003e8a0911 h1⟩
 by_cases h2:k<(sn.length:Int)
 ·have h3:k.toNat<sn.length:=by exact rU 0x1101fa10f0912 h2 (Int.toNat_of_nonneg h0)
  have h4:sn[k.toNat]? = some sn[k.toNat]:=List.getElem?_eq_getElem h3
  have h5:∀q,aj .scr (.int k) q= .ok (.int sn[k.toNat]) q:=fun q=>by unfold aj;dsimp only;rw [if_pos h6,h4]
  have h7:=decide_eq_true h2
  refine ⟨sn[k.toNat],aS (m:=j8) (q:=⟨aT ["_law_script", "_law_k"] [.scr,.int k],H⟩) rfl (dD ?_)⟩
  exists h7,h5
 ·have h7:=decide_eq_false h2
  refine ⟨0,aS (m:=j8) (q:=⟨aT ["_law_script", "_law_k"] [.scr,.int k],H⟩) rfl (ah (q':=⟨aT ["_law_script", "_law_k"] [.scr,.int k],H⟩) ?_ rfl)⟩
  exists h7
structure il (len:Int) (xs:List Int):Prop where
 rise:xs.Pairwise (· < ·)
 low:∀x∈xs,1≤x
 top:∀x∈xs,x≤len
theorem il.snoc {len b:Int} {xs:List Int} (h:il len xs) (hb:∀x∈xs,x<b) (h1:1≤b) (h2:b≤len):il len (xs++[b]):=by
 refine ⟨List.pairwise_append.mpr ⟨h.rise,by simp,fun x hx y hy=> ?_⟩,fun x hx=> ?_,fun x hx=> ?_⟩
 ·simp at hy;subst hy;exact hb x hx
 ·rcases List.mem_append.mp hx with h3 | h3
  ·exact h.low x h3
  ·simp at h3;exact id (ru 0x119801b1019812 h1 h3)
 ·rcases List.mem_append.mp hx with h3 | h3
  ·exact h.top x h3
  ·simp at h3;exact id (Gf 0x12802a110812 h2 h3)
theorem EU {H:Hp} {l:aY} {i:Nat} {vs:List V} (h:H[i]? = some (.list vs)):bC (.ref i) ⟨l,H⟩= .ok true ⟨l,H⟩:=by rw [nj,h]
structure SB (o:Nat) (len span b r:Int) (l:aY):Prop where
 f:l "_law_found" = some (.ref o)
 b:l "_law_before" = some (.int b)
 r:l "_law_rest" = some (.int r)
 s:l "_law_span" = some (.int span)
 n:l "_law_length" = some (.int len)
theorem lQ (len span:Int) (hs:1≤span):∀(ys:List V) (l:aY) (xs:List Int) (b r:Int),SB H.length len span b r l→il len xs→(∀x∈xs,x≤b)→0≤b→xs.length+ys.length≤8 →
  ∃l' xs',bH (fun _=>True) (an "_law_turn") (ku) ys ⟨l,H++[.list (xs.map V.int)]⟩= .ok .next ⟨l',H++[.list (xs'.map V.int)]⟩∧l' "_law_found" = some (.ref H.length)∧l' "_law_length" = some (.int len)∧il len xs'∧xs'.length≤8
 | [],l,xs,b,r,hl,hx,_,_,h8=>⟨l,xs,rfl,hl.f,hl.n,hx,h8⟩
 | y::ys,l,xs,b,r,hl,hx,hb,h0,h8=>by
  refine lh fun G kG=> ?_
  have m:=cn r span (by exact cK 0x99019811 hs)
  refine bi (b+1+r.fmod span) fun b' eb=> ?_
  refine bi (upd l "_law_turn" y) fun l1 e1=> ?_
  refine bi (upd l1 "_law_before" (.int b')) fun l2 e2=> ?_
  refine bi (upd l2 "_law_rest" (.int (r.fdiv span))) fun l3 e3=> ?_
  have c3:=af e1 ∅ hl.r
  have c4:=af e1 ∅ hl.s
  have c5:=af e2 ∅ c4
  have c6:=af e3 ∅ (aq e2)
  have f:=af e3 ∅ (af e2 ∅ (af e1 ∅ hl.f))
  have n:=af e3 ∅ (af e2 ∅ (af e1 ∅ hl.n))
  have L3:SB H.length len span b' (r.fdiv span) l3:=⟨f,c6,aq e3,af e3 ∅ c5,n⟩
  have md:∀q,bM (.int r) (.int span) q= .ok (.int (r.fmod span)) q:=fun q=>eW (by exact fun x9=>cK 0x9096090a1019812 hs x9) rfl
  have dv:∀q,dG (.int r) (.int span) q= .ok (.int (r.fdiv span)) q:=fun q=>gv (by exact fun x9=>cK 0x9096090a1019812 hs x9) rfl
  have ad:∀q,cS (.int (b+1)) (.int (r.fmod span)) q= .ok (.int b') q:=fun q=>by rw [← eb];rfl
  rw [List.length_cons] at h8
  have go:∀ {xs':List Int},(∀ {R:Cm Fl},R ⟨l3,H++[.list (xs.map V.int)]⟩= .ok .next ⟨l3,H++[.list (xs'.map V.int)]⟩→(au ((((ac "_law_before").b fun v18=>(Cm.p (V.int 1)).b fun v19=>cS v18 v19).b fun v22=>((ac "_law_rest").b fun v20=>(ac "_law_span").b fun v21=>bM v20 v21).b fun v23=>cS v22 v23).b fun v24=>(an "_law_before" v24).b fun _=>Cm.p Fl.next) (au (((ac "_law_rest").b fun v25=>(ac "_law_span").b fun v26=>dG v25 v26).b fun v27=>(an "_law_rest" v27).b fun _=>Cm.p Fl.next) R)) ⟨l1,H++[.list (xs.map V.int)]⟩= .ok .next ⟨l3,H++[.list (xs'.map V.int)]⟩):=fun {xs'} {R} hR=>by
   refine ah (q':=⟨l2,H++[.list (xs.map V.int)]⟩) ?_ (ah (q':=⟨l3,H++[.list (xs.map V.int)]⟩) ?_ hR)
   ·exists af e1 ∅ hl.b,c3,c4,md,ad,e2
   ·exists af e2 ∅ c3,c5,dv,e3
  by_cases hle:b'≤len
  ·have k:decide (b'≤len)=true:=decide_eq_true hle
   obtain ⟨l',xs',t,z⟩:=lQ len span hs ys l3 (xs++[b']) b' _ L3 (hx.snoc (fun x hx=>by have:=hb x hx;exact id (Ef 0x239138120191cca1009813 m.1 eb this)) (by exact Gf 0x219821190cca110981009813 h0 m.1 eb) hle) (fun x hm=>(List.mem_append.mp hm).elim (fun hm=>by have:=hb x hm;exact id (Ef 0x238138120191cca1009813 m.1 eb this)) fun hm=>by rw [List.mem_singleton.mp hm];exact Int.le_refl _) (by exact Gf 0x209821190cca110981009813 h0 m.1 eb) (by rw [List.length_append,List.length_singleton];exact id (b0 0x891190cc089191c0c011 h8))
   have ap:=jn (.int b') l3 (H++[.list (xs.map V.int)]) (aG _ _) (by rw [List.length_map];exact id (b0 0xf4240a0189191c0c011 h8))
   have es:(H++[O.list (xs.map V.int)]).set H.length (.list (xs.map V.int++[.int b']))=H++[.list ((xs++[b']).map V.int)]:=by rw [wL,List.map_append];rfl
   rw [es] at ap
   refine kG ⟨l',xs',(bf (q':=⟨l3,H++[.list ((xs++[b']).map V.int)]⟩) (bq (g_set e1) (go ?_)) trivial).trans t,z⟩
   exists c6,n,k,f,EU (aG _ _),ap
  ·have k:decide (b'≤len)=false:=decide_eq_false hle
   obtain ⟨l',xs',t,z⟩:=lQ len span hs ys l3 xs b' _ L3 hx (fun x hm=>by have:=hb x hm;exact id (Ef 0x238138120191cca1009813 m.1 eb this)) (by exact Gf 0x209821190cca110981009813 h0 m.1 eb) (by exact b0 0x8910c089191c0c011 h8)
   refine kG ⟨l',xs',(bf (q':=⟨l3,H++[.list (xs.map V.int)]⟩) (bq (g_set e1) (go ?_)) trivial).trans t,z⟩
   exists c6,n,k
theorem AJ (c len many:Int) (h1:1≤len) (h2:1≤many) (h3:many≤8) :
  ∃v H',jd [.int c,.int len,.int many] H= .ok v H'∧ ∃xs,v= .ref H.length∧H<+:H'∧H'[H.length]? = some (.list (xs.map .int))∧il len xs∧xs≠[]∧xs.length≤8:=by
 refine lh fun G kG=> ?_
 refine bi (aT ["_law_cell", "_law_length", "_law_many"] [.int c,.int len,.int many]) fun l0 e0=> ?_
 refine bi (upd l0 "_law_found" (.ref H.length)) fun l1 e1=> ?_
 refine bi (upd l1 "_law_before" (.int 0)) fun l2 e2=> ?_
 refine bi (upd l2 "_law_rest" (.int (c.fdiv 3))) fun l3 e3=> ?_
 refine bi (upd l3 "_law_span" (.int 4)) fun l4 e4=> ?_
 have k:∀ {x:String} {v:V},l0 x=some v→x∉["_law_found", "_law_before", "_law_rest", "_law_span"]→l2 x=some v∧l4 x=some v:=fun {x v} h hx=>by
  have n1:x ≠ "_law_found" := fun e=>hx (e ▸ .head _)
  have n2:x ≠ "_law_before" := fun e=>hx (e ▸ .tail _ (.head _))
  have n3:x ≠ "_law_rest" := fun e=>hx (e ▸ .tail _ (.tail _ (.head _)))
  have n4:x ≠ "_law_span" := fun e=>hx (e ▸ .tail _ (.tail _ (.tail _ (.head _))))
  have h2:=af e2 n2 (af e1 n1 h)
  exact ⟨h2,af e4 n4 (af e3 n3 h2)⟩
 have kc:=k (x := "_law_cell") (v:= .int c) (e0▸rfl) ∅
 have kn:=(k (x := "_law_length") (v:= .int len) (e0▸rfl) ∅).2
 have km:=(k (x := "_law_many") (v:= .int many) (e0▸rfl) ∅).2
 have d3:∀q,dG (.int c) (.int 3) q= .ok (.int (c.fdiv 3)) q:=fun q=>gv ∅ rfl
 have m3:∀q,bM (.int c) (.int 3) q= .ok (.int (c.fmod 3)) q:=fun q=>eW ∅ rfl
 have L4:SB H.length len 4 0 (c.fdiv 3) l4:=⟨af e4 ∅ (af e3 ∅ (af e2 ∅ (aq e1))),af e4 ∅ (af e3 ∅ (aq e2)),af e4 ∅ (aq e3),aq e4,kn⟩
 obtain ⟨span,l5,hs,L5,km5,t5⟩:∃span l5,1≤span∧SB H.length len span 0 (c.fdiv 3) l5∧l5 "_law_many" = some (.int many)∧kU ⟨l4,H++[.list []]⟩= .ok .next ⟨l5,H++[.list []]⟩:=by
  by_cases hc:c.fmod 3=0
  ·have kk:decide (c.fmod 3=0)=true:=decide_eq_true hc
   refine bi (upd l4 "_law_span" (.int len)) fun l5 e5=> ?_
   refine ⟨len,l5,h1,⟨af e5 ∅ L4.f,af e5 ∅ L4.b,af e5 ∅ L4.r,aq e5,af e5 ∅ kn⟩,af e5 ∅ km,?_⟩
   exists kc.2,m3,kk,kn,e5
  ·have kk:decide (c.fmod 3=0)=false:=decide_eq_false hc
   refine ⟨4,l4,by decide,L4,km,?_⟩
   exists kc.2,m3,kk
 obtain ⟨l6,xs,t6,i1,i5,i7,i10⟩:=lQ H len span hs (ba 0 many.toNat) l5 [] 0 _ L5 ⟨.nil,fun _ h=>(nomatch h),fun _ h=>(nomatch h)⟩ (fun _ h=>(nomatch h)) (Int.le_refl _) (by rw [fm,List.length_nil];exact id (kb 0x89009c000fa1890812 h3 (Int.toNat_of_nonneg (cK 0x98019811 h2))))
 have rv:=eh many ⟨l5,H++[.list []]⟩ ⟨by exact cK 0xf4240a1b9019811 h2,by exact cK 0xf4240a09890811 h3⟩
 have q0:=iT (q:=⟨l6,H++[O.list (xs.map V.int)]++[O.list []]⟩) (i:=H.length) (j:=(H++[O.list (xs.map V.int)]).length) (xs:=xs) (ys:=[]) (av ⟨_,rfl⟩ (aG _ _)) (aG _ _)
 have td:∀ {ys:List Int},kW ⟨l6,H++[.list (xs.map V.int)]⟩= .ok .next ⟨l6,H++[O.list (ys.map V.int)]++[O.list []]⟩→il len ys→ys≠[]→ys.length≤8→G:=fun {ys} t7 s1 s2 s3=>by
  refine kG ⟨.ref H.length,H++[O.list (ys.map V.int)]++[O.list []],aS (m:=mU) (q:=⟨l6,H++[O.list (ys.map V.int)]++[O.list []]⟩) rfl ?_,ys,rfl,(List.prefix_append _ _).trans (List.prefix_append _ _),av ⟨_,rfl⟩ (aG _ _),s1,s2,s3⟩
  rw [e0]
  refine ah (q':=⟨l1,H++[.list []]⟩) (bq (bq rfl (g_nl0 rfl)) (bq (g_set e1) rfl)) (ah (q':=⟨l2,H++[.list []]⟩) (bq rfl (bq (g_set e2) rfl)) (ah (q':=⟨l3,H++[.list []]⟩) ?_ (ah (q':=⟨l4,H++[.list []]⟩) (bq rfl (bq (g_set e4) rfl)) (ah t5 (ah (q':=⟨l6,H++[O.list (xs.map V.int)]⟩) (bq (a:=⟨ba 0 many.toNat,fun _=>True⟩) (q':=⟨l5,H++[O.list []]⟩) (bq (bq (g_get km5) (bq rfl rfl)) rv) t6) (ah t7 (bq (g_get i1) rfl)))))))
  exists kc.1,d3,e3
 by_cases hx:xs=[]
 ·subst hx
  have ap:=jn (.int len) l6 (H++[O.list []]++[O.list []]) (i:=H.length) (xs:=[]) (av ⟨_,rfl⟩ (aG _ _)) ∅
  have es:(H++[O.list []]++[O.list []]).set H.length (.list ([]++[.int len]))=H++[.list ([len].map V.int)]++[O.list []]:=by rw [List.set_append_left _ _ (by rw [List.length_append];exact Nat.lt_succ_self _),wL];rfl
  rw [es] at ap
  refine td (ys:=[len]) ?_ ⟨List.pairwise_singleton _ _,fun x hx=>by rw [List.mem_singleton.mp hx];exact h1,fun x hx=>by rw [List.mem_singleton.mp hx];exact Int.le_refl _⟩ (List.cons_ne_nil _ _) (Nat.le_of_ble_eq_true rfl)
  exact bq (bq (g_get i1) (bq (bq rfl (g_nl0 rfl)) (bq (g_ceqv q0) rfl))) (it_t rfl (bq (bq (g_get i1) (bq (EU (av ⟨_,rfl⟩ (aG H _))) (it_t rfl (bq (g_get i5) ap)))) rfl))
 ·rw [decide_eq_false hx] at q0
  refine td (ys:=xs) ?_ i7 hx i10
  exists i1,q0
noncomputable def gw (p len:Int) (m:Nat):List (String×V):=[("pages",.int p),("length",.int len),("sizes",.ref m)]
theorem Dy (p len:Int) (m:Nat):(gw p len m).lookup "pages" = some (.int p):=rfl
theorem wU (p len:Int) (m:Nat):(gw p len m).lookup "length" = some (.int len):=rfl
theorem uW (p len:Int) (m:Nat):(gw p len m).lookup "sizes" = some (.ref m):=rfl
theorem FP (p len:Int) (m:Nat):(gw p len m).lookup "size_for" = none:=rfl
theorem Dz (p len:Int) (m:Nat):(gw p len m).lookup "per" = none:=rfl
structure rA (H:Hp) (i:Nat) (p len:Int) (xs:List Int):Prop where
 at':∃m,H[i]? = some (.flds (gw p len m))∧H[m]? = some (.list (xs.map V.int))
theorem rA.pre {H H':Hp} {i:Nat} {p len:Int} {xs:List Int} (h:rA H i p len xs) (e:H<+:H'):rA H' i p len xs:=let ⟨m,h1,h2⟩:=h.at';⟨m,av e h1,av e h2⟩
structure Hr (n j:Nat) (p len last:Int) (l:aY):Prop where
 la:l "last" = some (.int last)
 le:l "length" = some (.int len)
 se:l "self" = some (.inst "Plan" n)
 pa:l "pages" = some (.int p)
 si:l "sizes" = some (.ref j)
theorem sZ (n j:Nat) (p len:Int) (zs:List V) (hj:ay (.ref j) H=some zs):∀(ys:List Int) (l:aY) (last:Int),Hr n j p len last l→(∀y∈ys,last<y∧y≤len)→ys.Pairwise (· < ·) →
  ∃l' last',bH (fun H=>ay (.ref j) H=some zs) (an "size") (oH) (ys.map V.int) ⟨l,H⟩= .ok .next ⟨l',H⟩∧Hr n j p len last' l'
 | [],l,last,h,_,_=>⟨l,last,rfl,h⟩
 | y::ys,l,last,h,h7,h8=>by
  refine lh fun G kG=> ?_
  refine bi (upd l "size" (.int y)) fun l1 e1=> ?_
  refine bi (upd l1 "last" (.int y)) fun l2 e2=> ?_
  have hy:=h7 y (.head _)
  have bt:=ko H y (last+1) len
  rw [decide_eq_true (show last+1≤y∧y≤len from hy)] at bt
  have n1:=af e1 ∅ h.le
  have h8':=List.pairwise_cons.mp h8
  obtain ⟨l',last',t,z⟩:=sZ n j p len zs hj ys l2 y ⟨aq e2,af e2 ∅ n1,af e2 ∅ (af e1 ∅ h.se),af e2 ∅ (af e1 ∅ h.pa),af e2 ∅ (af e1 ∅ h.si)⟩ (fun z hz=>⟨h8'.1 z hz,(h7 z (.tail _ hz)).2⟩) h8'.2
  refine kG ⟨l',last',(bf (q':=⟨l2,H⟩) (bq (g_set e1) (ah (q':=⟨l1,H⟩) ?_ ?_)) hj).trans t,z⟩
  ·exists aq e1,af e1 ∅ h.la,n1,bt
  ·exists aq e1,e2
theorem F4 (n j:Nat) (p len:Int) (xs:List Int) (hp:1≤p∧p≤40) (hl:1≤len∧len≤60) (hx:il len xs) (hne:xs≠[]) (h8:xs.length≤8) (hn:H[n]? = some (.flds [])) (hj:H[j]? = some (.list (xs.map V.int))) :
  jH [.inst "Plan" n,.int p,.int len,.ref j] H= .ok .none ((H++[O.list (xs.map V.int)]).set n (.flds (gw p len H.length))):=by
 obtain ⟨R,eR⟩:∃R,(H++[O.list (xs.map V.int)]).set n (.flds (gw p len H.length))=R:=⟨_,rfl⟩
 rw [eR]
 have hnj:n≠j:=fun e=>by rw [e,hj] at hn;cases hn
 have hnl:n<H.length:=(List.getElem?_eq_some_iff.mp hn).1
 have hit:ay (.ref j) H=some (xs.map V.int):=bB hj
 have hlen:decide (1≤((xs.map V.int).length:Int))=true:=decide_eq_true (by
  cases xs with
  | nil=>exact absurd rfl hne
  | cons x xs=>rw [List.length_map,List.length_cons];exact id (bz 0x190cf1980))
 have hlen8:decide (((xs.map V.int).length:Int)≤8)=true:=decide_eq_true (by rw [List.length_map];exact id (bz 0x890f8890011 h8))
 have hlm:(xs.map V.int).length<1000000:=by rw [List.length_map];exact id (bz 0xf4240a01890011 h8)
 obtain ⟨l0,e0,a1,a2,a3,a4⟩:∃l0,aT ["self", "pages", "length", "sizes"] [.inst "Plan" n,.int p,.int len,.ref j]=l0∧l0 "self" = some (.inst "Plan" n)∧l0 "pages" = some (.int p)∧l0 "length" = some (.int len)∧l0 "sizes" = some (.ref j):=⟨_,rfl,rfl,rfl,rfl,rfl⟩
 obtain ⟨l1,e1⟩:∃l1,upd l0 "last" (.int 0)=l1:=⟨_,rfl⟩
 have a5:=af e1 ∅ a4
 obtain ⟨l',last,hq,hI⟩:=sZ H n j p len _ hit xs l1 0 ⟨aq e1,af e1 ∅ a3,af e1 ∅ a1,af e1 ∅ a2,a5⟩ (fun y hy=>⟨hx.low y hy,hx.top y hy⟩) hx.rise
 have b1:=ko H p 1 40
 have b2:=ko H len 1 60
 rw [decide_eq_true hp] at b1
 rw [decide_eq_true hl] at b2
 have ty:∀l,vO "list" (.ref j) ⟨l,H⟩= .ok (.bool true) ⟨l,H⟩:=fun l=>by
  have:AG H (.ref j)=some "list" := by unfold AG;dsimp only;rw [hj]
  rw [GN,this];rfl
 have ln:∀l,fg [.ref j] ⟨l,H⟩= .ok (.int (xs.map V.int).length) ⟨l,H⟩:=fun l=>Gq hj hlm
 obtain ⟨H1,f1⟩:∃H1,H.set n (.flds [("pages",.int p)])=H1:=⟨_,rfl⟩
 obtain ⟨H2,f2⟩:∃H2,H1.set n (.flds [("pages",.int p),("length",.int len)])=H2:=⟨_,rfl⟩
 have c1:H1[n]? = some (.flds [("pages",.int p)]):=by rw [← f1];exact List.getElem?_set_self hnl
 have l1':H1.length=H.length:=by rw [← f1];exact List.length_set
 have l2':H2.length=H.length:=by rw [← f2,List.length_set];exact l1'
 have c2:H2[n]? = some (.flds [("pages",.int p),("length",.int len)]):=by rw [← f2];exact List.getElem?_set_self (l1'▸hnl)
 have c3:H2[j]? = some (.list (xs.map V.int)):=by rw [← f2,List.getElem?_set_ne hnj,← f1,List.getElem?_set_ne hnj];exact hj
 have s7:∀l,iK [.ref j] ⟨l,H2⟩= .ok (.ref H.length) ⟨l,H2++[.list (xs.map V.int)]⟩:=fun l=>by rw [qP l _ (bB c3) (Nat.le_of_lt hlm),l2']
 have c4:(H2++[O.list (xs.map V.int)])[n]? = some (.flds [("pages",.int p),("length",.int len)]):=av ⟨_,rfl⟩ c2
 have e7:(H2++[O.list (xs.map V.int)]).set n (.flds (gw p len H.length))=R:=by
  rw [← eR,List.set_append_left _ _ (l2'▸hnl),List.set_append_left _ _ hnl,← f2,← f1,List.set_set,List.set_set]
 have u1:∀l,bV "pages" (.int p) (.inst "Plan" n) ⟨l,H⟩= .ok () ⟨l,H1⟩:=fun l=>by rw [← f1];exact xr hn ∅
 have u2:∀l,bV "length" (.int len) (.inst "Plan" n) ⟨l,H1⟩= .ok () ⟨l,H2⟩:=fun l=>by rw [← f2];exact xr c1 (Nat.le_of_ble_eq_true rfl)
 have u3:∀l,bV "sizes" (.ref H.length) (.inst "Plan" n) ⟨l,H2++[O.list (xs.map V.int)]⟩= .ok () ⟨l,R⟩:=fun l=>by rw [← e7];exact xr c4 (Nat.le_of_ble_eq_true rfl)
 refine lx (m:=sK) (q:=⟨l',R⟩) rfl ?_
 rw [e0]
 refine ah (q':=⟨l0,H⟩) ?_ (ah (q':=⟨l0,H⟩) ?_ (ah (q':=⟨l1,H⟩) (bq rfl (bq (g_set e1) rfl)) (ah (q':=⟨l',H⟩) ?_ (ah (q':=⟨l',H1⟩) ?_ (ah (q':=⟨l',H2⟩) ?_ ?_)))))
 ·exists a2,a3,b1,b2
 ·exists a4,ty,ln,hlen,hlen8
 ·exact bq (bq (g_get a5) (by rw [rZ,hit])) hq
 ·exists hI.pa,hI.se,u1
 ·exists hI.le,hI.se,u2
 ·exists hI.si,s7,hI.se,u3
theorem nT {g:Hp→Prop} {x w:String} (hxw:x≠w) {body:Cm Fl} (wish:Int) (hg:g H)
  (hb:∀l y,l x=some (.int y)→l w=some (.int wish)→body ⟨l,H⟩=if y≥wish then .ok (.ret (.int y)) ⟨l,H⟩ else .ok .next ⟨l,H⟩) :
  ∀(xs:List Int) (l:aY),l w=some (.int wish)→ ∃l',l' w=some (.int wish)∧bH g (an x) body (xs.map V.int) ⟨l,H⟩=match xs.find? (fun x=>decide (x≥wish)) with | some y=> .ok (.ret (.int y)) ⟨l',H⟩ | none=> .ok .next ⟨l',H⟩
 | [],l,hw=>⟨l,hw,rfl⟩
 | y::ys,l,hw=>by
  have hw':upd l x (.int y) w=some (.int wish):=by rw [kj _ _ (Ne.symm hxw)];exact hw
  have:=hb (upd l x (.int y)) y (gp _ _ _) hw'
  have ht:((an x (.int y)).b fun _=>body) ⟨l,H⟩=if y≥wish then .ok (.ret (.int y)) ⟨upd l x (.int y),H⟩ else .ok .next ⟨upd l x (.int y),H⟩:=by rw [ni,uY];exact this
  by_cases hy:y≥wish
  ·rw [if_pos hy] at ht
   refine ⟨upd l x (.int y),hw',?_⟩
   rw [List.map_cons,yQ ht,List.find?_cons_of_pos (by simpa using hy)]
  ·rw [if_neg hy] at ht
   rw [List.map_cons,bf ht hg,List.find?_cons_of_neg (by simpa using hy)]
   exact nT hxw wish hg hb ys _ hw'
theorem vI (i:Nat) (p len:Int) (xs:List Int) (wish:Int) (hi:rA H i p len xs):fx [.inst "Plan" i,.int wish] H =
  if wish<1 then .exc "BadWish" H else match xs.find? (fun x=>decide (x≥wish)) with | some y=> .ok (.int y) H | none=> .exc "TooLarge" H:=by
 obtain ⟨m,h1,h2⟩:=hi.at'
 obtain ⟨l0,e0,a1,a2⟩:∃l0,aT ["self", "wish"] [.inst "Plan" i,.int wish]=l0∧l0 "self" = some (.inst "Plan" i)∧l0 "wish" = some (.int wish):=⟨_,rfl,rfl,rfl⟩
 have hit:ay (.ref m) H=some (xs.map V.int):=bB h2
 by_cases hw:wish<1
 ·have hd:=decide_eq_true hw
  rw [if_pos hw]
  refine lw (m:=fz) (q:=⟨l0,H⟩) rfl (lI ?_)
  rw [e0]
  exists a2,g0 H wish,hd
 ·have hd:=decide_eq_false hw
  rw [if_neg hw]
  have s1:jT ⟨l0,H⟩= .ok .next ⟨l0,H⟩:=by exists a2,g0 H wish,hd
  obtain ⟨l',hw',hl⟩:=nT H (g:=fun H=>ay (.ref m) H=some (xs.map V.int)) (x := "size") (w := "wish") ∅ (body:=fS) wish hit
   (fun l y h1 h2=>by
    by_cases hy:y≥wish
    ·rw [if_pos hy];exact bq (bq (g_get h1) (bq (g_get h2) rfl)) (it_t (decide_eq_true hy) (bq (g_get h1) rfl))
    ·rw [if_neg hy];exact bq (bq (g_get h1) (bq (g_get h2) rfl)) (it_f (decide_eq_false hy) rfl)) xs l0 a2
  have s2:jU ⟨l0,H⟩=bH (fun H=>ay (.ref m) H=some (xs.map V.int)) (an "size") (fS) (xs.map V.int) ⟨l0,H⟩ :=
   bq (bq (bq (g_get a1) (fH h1 (uW _ _ _))) (by rw [rZ,hit])) rfl
  rw [hl] at s2
  cases hf:xs.find? (fun x=>decide (x≥wish)) with
  | some y =>
   rw [hf] at s2
   exact aS (m:=fz) (q:=⟨l',H⟩) rfl (by rw [e0];exact ah s1 (dD s2))
  | none =>
   rw [hf] at s2
   exact lw (m:=fz) (q:=⟨l',H⟩) rfl (by rw [e0];exact ah s1 (ah s2 rfl))
theorem GS (i:Nat) (p len:Int) (xs:List Int) (z:Int) (hi:rA H i p len xs) (hz:z∈xs→z≠0):gB [.inst "Plan" i,.int z] H=if z∈xs then .ok (.int (len.fdiv z)) H else .exc "NoSize" H:=by
 obtain ⟨m,h1,h2⟩:=hi.at'
 obtain ⟨l0,e0,a1,a2⟩:∃l0,aT ["self", "size"] [.inst "Plan" i,.int z]=l0∧l0 "self" = some (.inst "Plan" i)∧l0 "size" = some (.int z):=⟨_,rfl,rfl,rfl⟩
 have hin:inV (.int z) (.ref m) ⟨l0,H⟩= .ok (decide (z∈xs)) ⟨l0,H⟩:=ol (q:=⟨l0,H⟩) h2
 by_cases hw:z∈xs
 ·rw [if_pos hw]
  rw [decide_eq_true hw] at hin
  refine aS (m:=pR) (q:=⟨l0,H⟩) rfl ?_
  rw [e0]
  refine ah (q':=⟨l0,H⟩) ?_ (bq (bq (bq (g_get a1) (fH h1 (wU _ _ _))) (bq (g_get a2) (gv (hz hw) rfl))) rfl)
  exists a1,a2,g0 H z,fH h1 (uW _ _ _),hin
 ·rw [if_neg hw]
  rw [decide_eq_false hw] at hin
  refine lw (m:=pR) (q:=⟨l0,H⟩) rfl (lI ?_)
  rw [e0]
  exists a1,a2,g0 H z,fH h1 (uW _ _ _),hin
noncomputable def ig (p z:Int) (t:Nat):List (String×V):=[("page",.int p),("size",.int z),("taken",.ref t)]
theorem EA (p z:Int) (t:Nat):(ig p z t).lookup "page" = some (.int p):=rfl
theorem EB (p z:Int) (t:Nat):(ig p z t).lookup "size" = some (.int z):=rfl
theorem jq (p z:Int) (t:Nat):(ig p z t).lookup "taken" = some (.ref t):=rfl
theorem DN (p z:Int) (t:Nat):(ig p z t).lookup "has" = none:=rfl
theorem FU (p z:Int) (t:Nat):(ig p z t).lookup "out" = none:=rfl
structure jE (H:Hp) (i t:Nat) (p z:Int) (bs:List Bool):Prop where
 ob:H[i]? = some (.flds (ig p z t))
 ls:H[t]? = some (.list (bs.map V.bool))
theorem F5 (p z k:Int) (hk:0≤k∧k≤1000) (l:aY):mV "Shelf" (iG) [.int p,.int z,.int k] ⟨l,H⟩ =
  .ok (.inst "Shelf" H.length) ⟨l,H++[.flds (ig p z (H.length+2)),.list [.bool false],.list ((List.replicate k.toNat false).map V.bool)]⟩:=by
 obtain ⟨l0,e0,a1,a2,a3,a4⟩:∃l0,aT ["self", "page", "size", "slots"] [.inst "Shelf" H.length,.int p,.int z,.int k]=l0∧l0 "self" = some (.inst "Shelf" H.length)∧l0 "page" = some (.int p)∧l0 "size" = some (.int z)∧l0 "slots" = some (.int k):=⟨_,rfl,rfl,rfl,rfl,rfl⟩
 obtain ⟨R,eR⟩:∃R,O.list ((List.replicate k.toNat false).map V.bool)=R:=⟨_,rfl⟩
 rw [eR]
 have hn:∀l,dz [.bool false] ⟨l,H++[.flds [("page",.int p),("size",.int z)]]⟩= .ok (.ref (H.length+1)) ⟨l,H++[.flds [("page",.int p),("size",.int z)],.list [.bool false]]⟩:=fun l=>by
  rw [lF,if_pos (Nat.le_of_ble_eq_true rfl),List.length_append,List.append_assoc];rfl
 have hm:∀l,dQ (.ref (H.length+1)) (.int k) ⟨l,H++[.flds [("page",.int p),("size",.int z)],.list [.bool false]]⟩= .ok (.ref (H.length+2)) ⟨l,H++[.flds [("page",.int p),("size",.int z)],.list [.bool false],R]⟩:=fun l=>by
  rw [xI (a:=false) (f:=V.bool) (by rw [List.getElem?_append_right (Nat.le_add_right _ _),Nat.add_sub_cancel_left];rfl) ⟨hk.1,Int.le_trans hk.2 ∅⟩,eR,List.length_append,List.append_assoc];rfl
 rw [Aw,show iG [.inst "Shelf" H.length,.int p,.int z,.int k] (H++[.flds []])= .ok .none (H++[.flds (ig p z (H.length+2)),.list [.bool false],R]) from ?_]
 refine lx (m:=qF) (q:=⟨l0,H++[.flds (ig p z (H.length+2)),.list [.bool false],R]⟩) rfl ?_
 rw [e0]
 refine ah (q':=⟨l0,H++[.flds [("page",.int p)]]⟩) ?_ (ah (q':=⟨l0,H++[.flds [("page",.int p),("size",.int z)]]⟩) ?_ ?_)
 ·exists a1,a2,nW (fs:=[]) ∅
 ·exists a1,a3,nW (fs:=[("page",.int p)]) (Nat.le_of_ble_eq_true rfl)
 ·exists hn,a4,hm,a1,nW (fs:=[("page",.int p),("size",.int z)]) (Nat.le_of_ble_eq_true rfl)
section
variable {H} {i t:Nat} {p z:Int} {bs:List Bool} (hS:jE H i t p z bs) (hb:bs.length≤1000)
include hS hb
theorem wZ:∀(r:List Bool) (a:Nat) (l:aY),l "self" = some (.inst "Shelf" i)→bs.drop a=r →
  (match aR r with
  | some j=> ∃l',bH (fun _=>True) (an "slot") (cJ) (ba a r.length) ⟨l,H⟩= .ok (.ret (.int ((a+j:Nat):Int))) ⟨l',H.set t (.list ((bs.set (a+j) true).map V.bool))⟩
  | none=> ∃l',bH (fun _=>True) (an "slot") (cJ) (ba a r.length) ⟨l,H⟩= .ok .next ⟨l',H⟩)
 | [],a,l,_,_=>⟨l,rfl⟩
 | b::r,a,l,h1,e=>by
  refine lh fun G kG=> ?_
  have hg:bs[a]? = some b:=by
   have:(bs.drop a)[0]? = some b:=by rw [e];rfl
   rw [List.getElem?_drop] at this;exact this
  have hr:bs.drop (a+1)=r:=by rw [← List.drop_drop,e];rfl
  have hlt:a<bs.length:=(List.getElem?_eq_some_iff.mp hg).1
  have hi:∀l,aj (.ref t) (.int a) ⟨l,H⟩= .ok (.bool b) ⟨l,H⟩:=fun l=>gU hS.ls (Int.natCast_nonneg _) (by exact b0 0xf4240a1f901110003e8a0012 hb hlt) hg
  refine bi (upd l "slot" (.int a)) fun l1 e1=> ?_
  have b1:=af e1 ∅ h1
  have b2:=aq e1
  have ta:=fH (l:=l1) (c := "Shelf") hS.ob (jq _ _ _)
  cases b with
  | false =>
   have hs:∀l,bu (.ref t) (.int a) (.bool true) ⟨l,H⟩= .ok () ⟨l,H.set t (.list ((bs.set a true).map V.bool))⟩:=fun l=>er hS.ls (Int.natCast_nonneg _) (by exact b0 0xf4240a1f901110003e8a0012 hb hlt) (by exact b0 0x1f0f910111 hlt)
   refine kG ⟨l1,yQ (bq (g_set e1) (bq (a:=true) (q':=⟨l1,H⟩) ?_ (it_t rfl (ah (q':=⟨l1,H.set t (.list ((bs.set a true).map V.bool))⟩) ?_ (bq (g_get b2) rfl)))))⟩
   ·exists b1,ta,b2,hi
   ·exists b1,ta,b2,hs
  | true =>
   have ht:((an "slot" (.int a)).b fun _=>cJ) ⟨l,H⟩= .ok .next ⟨l1,H⟩:=bq (g_set e1) (by exists b1,ta,b2,hi)
   have ih:=wZ r (a+1) l1 b1 hr
   have g:∀x,bH (fun _=>True) (an "slot") (cJ) (ba ((a+1:Nat):Int) r.length) ⟨l1,H⟩=x→bH (fun _=>True) (an "slot") (cJ) (ba a (true::r).length) ⟨l,H⟩=x:=fun x hx=>(bf ht trivial).trans hx
   rw [show aR (true::r)=(aR r).map (· + 1) from rfl] at kG
   cases hf:aR r with
   | none =>
    rw [hf] at ih kG
    obtain ⟨l',ih⟩:=ih
    exact kG ⟨l',g _ ih⟩
   | some j =>
    rw [hf] at ih kG
    obtain ⟨l',ih⟩:=ih
    rw [Nat.add_right_comm] at ih
    exact kG ⟨l',g _ ih⟩
theorem F8:f8 [.inst "Shelf" i] H=match aR bs with
  | some j=> .ok (.int j) (H.set t (.list ((bs.set j true).map V.bool)))
  | none=> .exc "NoRoom" H:=by
 have hl:∀l,fg [.ref t] ⟨l,H⟩= .ok (.int bs.length) ⟨l,H⟩:=fun l=>by rw [bY hS.ls (by rw [List.length_map];exact id (bz 0xf4240a010003e8a0011 hb)),List.length_map]
 have hr:∀q,cN [.int bs.length] q= .ok ⟨ba 0 bs.length,fun _=>True⟩ q:=fun q=>by rw [eh _ _ ⟨by exact bz 0xf0f4240a1b90,by exact bz 0xf4240a0f90003e8a0011 hb⟩];rfl
 obtain ⟨l0,e0,a1⟩:∃l0,aT ["self"] [.inst "Shelf" i]=l0∧l0 "self" = some (.inst "Shelf" i):=⟨_,rfl,rfl⟩
 have h1:∀r,bH (fun _=>True) (an "slot") (cJ) (ba 0 bs.length) ⟨l0,H⟩=r→nI ⟨l0,H⟩=r:=fun r e=>by
  refine bq (a:=⟨ba 0 bs.length,fun _=>True⟩) (q':=⟨l0,H⟩) ?_ e
  exists a1,fH hS.ob (jq _ _ _),hl,hr
 have L:=wZ hS hb bs 0 l0 a1 rfl
 cases hf:aR bs with
 | none =>
  rw [hf] at L
  obtain ⟨l',L⟩:=L
  exact lw (m:=lC) (q:=⟨l',H⟩) rfl (by rw [e0];exact ah (h1 _ L) rfl)
 | some j =>
  rw [hf] at L
  obtain ⟨l',L⟩:=L
  rw [Nat.zero_add] at L
  exact aS (m:=lC) rfl (by rw [e0];exact dD (h1 _ L))
theorem Fb (k:Int):jK [.inst "Shelf" i,.int k] H= .ok (.bool (oS bs k)) H:=by
 have hl:∀l,fg [.ref t] ⟨l,H⟩= .ok (.int bs.length) ⟨l,H⟩:=fun l=>by rw [bY hS.ls (by rw [List.length_map];exact id (bz 0xf4240a010003e8a0011 hb)),List.length_map]
 obtain ⟨l0,e0,a1,a2⟩:∃l0,aT ["self", "slot"] [.inst "Shelf" i,.int k]=l0∧l0 "self" = some (.inst "Shelf" i)∧l0 "slot" = some (.int k):=⟨_,rfl,rfl,rfl⟩
 have ta:=fH (l:=l0) (c := "Shelf") hS.ob (jq _ _ _)
 refine aS (m:=sR) (q:=⟨l0,H⟩) rfl ?_
 rw [e0]
 by_cases h0:0≤k
 ·have d0:=decide_eq_true h0
  by_cases h1:k<bs.length
  ·have d1:=decide_eq_true h1
   have hg:bs[k.toNat]? = some bs[k.toNat]:=List.getElem?_eq_getElem (by exact rU 0x1101fa10f0912 h1 (Int.toNat_of_nonneg h0))
   have hi:∀l,aj (.ref t) (.int k) ⟨l,H⟩= .ok (.bool bs[k.toNat]) ⟨l,H⟩:=fun l=>gU hS.ls h0 (by exact kb 0xf4240a090f0910003e8a0012 hb h1) hg
   have e:oS bs k=bs[k.toNat]:=by unfold oS;rw [if_pos ⟨h0,h1⟩,hg];rfl
   rw [e]
   exists a1,a2,d0,ta,hl,d1,hi
  ·have d1:=decide_eq_false h1
   have e:oS bs k=false:=if_neg fun h=>h1 h.2
   rw [e]
   exists a1,a2,d0,ta,hl,d1
 ·have d0:=decide_eq_false h0
  have e:oS bs k=false:=if_neg fun h=>h0 h.1
  rw [e]
  exists a1,a2,d0
theorem FZ (k:Int):lq [.inst "Shelf" i,.int k] H=if oS bs k then .ok .none (H.set t (.list ((bs.set k.toNat false).map V.bool))) else .exc "NotOut" H:=by
 have hh:=Fb hS hb k
 obtain ⟨l0,e0,a1,a2⟩:∃l0,aT ["self", "slot"] [.inst "Shelf" i,.int k]=l0∧l0 "self" = some (.inst "Shelf" i)∧l0 "slot" = some (.int k):=⟨_,rfl,rfl,rfl⟩
 have me:=dT (l:=l0) (c := "Shelf") hS.ob (DN _ _ _)
 cases hg:oS bs k with
 | false =>
  rw [hg] at hh
  refine lw (m:=lB) (q:=⟨l0,H⟩) rfl (lI ?_)
  rw [e0]
  exists a1,a2,me,hh
 | true =>
  rw [hg] at hh
  have hk:0≤k∧k<bs.length:=Classical.byContradiction fun h=>by
   have:oS bs k=false:=if_neg h
   rw [this] at hg;cases hg
  have hs:∀l,bu (.ref t) (.int k) (.bool false) ⟨l,H⟩= .ok () ⟨l,H.set t (.list ((bs.set k.toNat false).map V.bool))⟩:=fun l=>er hS.ls hk.1 (by exact kb 0xf4240a090f0910003e8a0012 hb hk.2) hk.2
  refine lx (m:=lB) (q:=⟨l0,H.set t (.list ((bs.set k.toNat false).map V.bool))⟩) rfl ?_
  rw [e0]
  refine ah (q':=⟨l0,H⟩) ?_ ?_
  ·exists a1,a2,me,hh
  ·exists a1,a2,fH hS.ob (jq _ _ _),hs
theorem FY:eK [.inst "Shelf" i] H= .ok (.ref H.length) (H++[.list ((gu 0 bs).map V.int)]):=by
 obtain ⟨l0,e0,a1⟩:∃l0,aT ["self"] [.inst "Shelf" i]=l0∧l0 "self" = some (.inst "Shelf" i):=⟨_,rfl,rfl⟩
 have hit:ay (.ref t) H=some (bs.map V.bool):=bB hS.ls
 have hc:mJ ⟨l0,H⟩= .ok (.ref H.length) ⟨l0,H++[.list ((gu 0 bs).map V.int)]⟩:=by
  refine fO (it:=⟨fZ 0 (bs.map V.bool),fun H=>ay (.ref t) H=some (bs.map V.bool)⟩) (H1:=H) ?_ (by rw [iB,List.length_map];exact id (bz 0xf4240a000003e8a0011 hb)) ?_
  ·have en:∀l,lW [.ref t] ⟨l,H⟩= .ok ⟨fZ 0 (bs.map V.bool),fun H=>ay (.ref t) H=some (bs.map V.bool)⟩ ⟨l,H⟩:=fun l=>by unfold lW;dsimp only;rw [hit]
   exists a1,fH hS.ob (jq _ _ _),en
  ·rw [← pD]
   refine fN hit GJ _ fun x hx=> ?_
   obtain ⟨j,b,rfl⟩:=un _ _ _ hx
   have h1:jp "slot" "one" (.tup [.int j,.bool b]) ⟨dX [] l0,H⟩= .ok () ⟨upd (upd (dX [] l0) "slot" (.int j)) "one" (.bool b),H⟩:=rfl
   cases b with
   | false=>exact fY (H2:=H) (H3:=H) h1 rfl rfl
   | true=>exact gN h1 rfl
 refine aS (m:=qD) (q:=⟨l0,_⟩) rfl ?_
 rw [e0]
 exact bq hc rfl
theorem Fd:bK [.inst "Shelf" i] H= .ok (.int (bs.count true)) (H++[.list (List.replicate (bs.count true) (V.bool true))]):=by
 obtain ⟨l0,e0,a1⟩:∃l0,aT ["self"] [.inst "Shelf" i]=l0∧l0 "self" = some (.inst "Shelf" i):=⟨_,rfl,rfl⟩
 have hit:ay (.ref t) H=some (bs.map V.bool):=bB hS.ls
 have hcl:bs.count true≤bs.length:=List.count_le_length
 have hc:oN ⟨l0,H⟩= .ok (.ref H.length) ⟨l0,H++[.list (List.replicate (bs.count true) (V.bool true))]⟩:=by
  refine fO (it:=⟨bs.map V.bool,fun H=>ay (.ref t) H=some (bs.map V.bool)⟩) (H1:=H) ?_ (by rw [List.length_map];exact id (bz 0xf4240a000003e8a0011 hb)) ?_
  ·have en:∀l,cQ (.ref t) ⟨l,H⟩= .ok ⟨bs.map V.bool,fun H=>ay (.ref t) H=some (bs.map V.bool)⟩ ⟨l,H⟩:=fun l=>by rw [rZ,hit]
   exists a1,fH hS.ob (jq _ _ _),en
  ·rw [← rN]
   refine fN hit GH _ fun x hx=> ?_
   obtain ⟨b,_,rfl⟩:=List.mem_map.mp hx
   have h1:an "one" (.bool b) ⟨dX [] l0,H⟩= .ok () ⟨upd (dX [] l0) "one" (.bool b),H⟩:=rfl
   cases b with
   | true=>exact fY (H2:=H) (H3:=H) h1 rfl rfl
   | false=>exact gN h1 rfl
 have hl:fg [.ref H.length] ⟨l0,H++[.list (List.replicate (bs.count true) (V.bool true))]⟩= .ok (.int (bs.count true)) ⟨l0,H++[.list (List.replicate (bs.count true) (V.bool true))]⟩:=by
  rw [bY (xs:=List.replicate (bs.count true) (V.bool true)) (aG _ _) (by rw [List.length_replicate];exact id (b0 0xf4240a1101010003e8a0012 hb hcl)),List.length_replicate]
 refine aS (m:=sS) (q:=⟨l0,_⟩) rfl ?_
 rw [e0]
 exact bq (bq (bq hc rfl) hl) rfl
theorem DV:iF [.inst "Shelf" i] H= .ok (.ref H.length) (H++[.list ((cA 0 bs).map V.int)]):=by
 obtain ⟨l0,e0,a1⟩:∃l0,aT ["self"] [.inst "Shelf" i]=l0∧l0 "self" = some (.inst "Shelf" i):=⟨_,rfl,rfl⟩
 have hit:ay (.ref t) H=some (bs.map V.bool):=bB hS.ls
 have hc:mK ⟨l0,H⟩= .ok (.ref H.length) ⟨l0,H++[.list ((cA 0 bs).map V.int)]⟩:=by
  refine fO (it:=⟨fZ 0 (bs.map V.bool),fun H=>ay (.ref t) H=some (bs.map V.bool)⟩) (H1:=H) ?_ (by rw [iB,List.length_map];exact id (bz 0xf4240a000003e8a0011 hb)) ?_
  ·have en:∀l,lW [.ref t] ⟨l,H⟩= .ok ⟨fZ 0 (bs.map V.bool),fun H=>ay (.ref t) H=some (bs.map V.bool)⟩ ⟨l,H⟩:=fun l=>by unfold lW;dsimp only;rw [hit]
   exists a1,fH hS.ob (jq _ _ _),en
  ·rw [← pE]
   refine fN hit GK _ fun x hx=> ?_
   obtain ⟨j,b,rfl⟩:=un _ _ _ hx
   have h1:jp "slot" "one" (.tup [.int j,.bool b]) ⟨dX [] l0,H⟩= .ok () ⟨upd (upd (dX [] l0) "slot" (.int j)) "one" (.bool b),H⟩:=rfl
   cases b with
   | true=>exact fY (H2:=H) (H3:=H) h1 rfl rfl
   | false=>exact gN h1 rfl
 refine aS (m:=qE) (q:=⟨l0,_⟩) rfl ?_
 rw [e0]
 exact bq hc rfl
end
end
theorem mj (i j:Int) (q:S) (h:i.natAbs<2 ^ 64):dQ (.int i) (.int j) q= .ok (.int (i*j)) q:=by
 unfold dQ
 dsimp only
 rw [if_pos (IntMulOk.of_left (intBits_le_iff.mpr h))];rfl
theorem wD {g:Hp→Prop} {bd:V→Cm Unit} {tst:Cm Bool} {elt:Cm V} {lc:aY} (H0:Hp) (hg:∀H,H0<+:H→g H) (φ : V→Option V):∀(xs:List V) (H:Hp),H0<+:H →
  (∀x∈xs,∀H,H0<+:H→ ∃H',bR bd tst elt lc x H= .ok (φ x) H'∧H<+:H')→ ∃H',fh g bd tst elt lc xs H= .ok (xs.filterMap φ) H'∧H<+:H'
 | [],H,_,_=>⟨H,rfl,List.prefix_refl _⟩
 | x::xs,H,h0,h=>by
  obtain ⟨H1,h1,p1⟩:=h x (.head _) H h0
  obtain ⟨H2,h2,p2⟩:=wD H0 hg φ xs H1 (h0.trans p1) fun z hz=>h z (.tail _ hz)
  exact ⟨H2,by rw [yG h1 (hg _ (h0.trans p1)) h2,qw],p1.trans p2⟩
structure aH where
 pg:Int
 sh:Nat
 t:Nat
 sz:Int
 bs:List Bool
structure Rm where
 pl:Nat
 d:Nat
 c:Nat
 m:Nat
 p:Int
 len:Int
 xs:List Int
 ss:List aH
 cs:List Int
noncomputable def aH.ent (s:aH):Int×V:=(s.pg,.inst "Shelf" s.sh)
noncomputable def df (ss:List aH) (g:Int):Option aH:=ss.find? fun s=>s.pg==g
noncomputable def qT (pl d c:Nat):List (String×V):=[("plan",.inst "Plan" pl),("racks",.ref d),("cells",.ref c)]
theorem Ew (pl d c:Nat) {x:String} (h:x ≠ "plan" ∧ x ≠ "racks" ∧ x ≠ "cells"):(qT pl d c).lookup x=none:=by
 have h1:(x == "plan")=false:=by simpa using h.1
 have h2:(x == "racks")=false:=by simpa using h.2.1
 have h3:(x == "cells")=false:=by simpa using h.2.2
 unfold qT
 rw [List.lookup_cons,h1];dsimp only;rw [List.lookup_cons,h2];dsimp only;rw [List.lookup_cons,h3];rfl
structure aI (H:Hp) (ri:Nat) (r:Rm):Prop where
 ob:H[ri]? = some (.flds (qT r.pl r.d r.c))
 plan:H[r.pl]? = some (.flds (gw r.p r.len r.m))
 sizes:H[r.m]? = some (.list (r.xs.map V.int))
 racks:H[r.d]? = some (.dict (r.ss.map aH.ent))
 shelf:∀s∈r.ss,jE H s.sh s.t s.pg s.sz s.bs
 cells:H[r.c]? = some (.list (r.cs.map V.int))
structure Rm.Ok (r:Rm):Prop where
 p:1≤r.p∧r.p≤40
 len:1≤r.len∧r.len≤60
 sz:il r.len r.xs
 ne:r.xs≠[]
 ndp:(r.ss.map (·.pg)).Nodup
 ndt:(r.ss.map (·.t)).Nodup
 pg:∀s∈r.ss,0≤s.pg∧s.pg<r.p
 in':∀s∈r.ss,s.sz∈r.xs
 slots:∀s∈r.ss,(s.bs.length:Int)=r.len.fdiv s.sz
 cs:(r.cs.length:Int)=r.p*r.len
 ct:r.c∉r.ss.map (·.t)
 mt:r.m∉r.ss.map (·.t)
 mc:r.m≠r.c
theorem jE.pre {H H':Hp} {i t:Nat} {p z:Int} {bs:List Bool} (h:jE H i t p z bs) (e:H<+:H'):jE H' i t p z bs:=⟨av e h.ob,av e h.ls⟩
theorem aI.pre {H H':Hp} {ri:Nat} {r:Rm} (h:aI H ri r) (e:H<+:H'):aI H' ri r :=
 ⟨av e h.ob,av e h.plan,av e h.sizes,av e h.racks,fun s hs=>(h.shelf s hs).pre e,av e h.cells⟩
theorem aI.isPlan {H:Hp} {ri:Nat} {r:Rm} (h:aI H ri r):rA H r.pl r.p r.len r.xs:=⟨⟨r.m,h.plan,h.sizes⟩⟩
theorem aB:∀ {ss:List aH} {g:Int} {s:aH},df ss g=some s→s∈ss∧s.pg=g:=fun {ss g s} h =>
 ⟨List.mem_of_find?_eq_some h,by simpa using List.find?_some h⟩
theorem dU:∀ {ss:List aH},(ss.map (·.pg)).Nodup→ ∀ {s:aH},s∈ss→df ss s.pg=some s
 | [],_,_,h=>by cases h
 | a::ss,hn,s,h=>by
  rw [List.map_cons,List.nodup_cons] at hn
  unfold df
  rcases List.mem_cons.mp h with rfl | h
  ·rw [List.find?_cons_of_pos (by simp)]
  ·have hne:¬((a.pg==s.pg)=true):=fun e=>hn.1 (List.mem_map.mpr ⟨s,h,(by simpa using e:a.pg=s.pg).symm⟩)
   rw [List.find?_cons_of_neg (p:=fun s':aH=>s'.pg==s.pg) hne]
   exact dU hn.2 h
theorem yP {ss:List aH} {g:Int}:df ss g=none↔g∉ss.map (·.pg):=by
 unfold df
 rw [List.find?_eq_none]
 constructor
 ·intro h hm
  obtain ⟨s,hs,e⟩:=List.mem_map.mp hm
  exact h s hs (by simpa using e)
 ·intro h s hs e
  exact h (List.mem_map.mpr ⟨s,hs,by simpa using e⟩)
theorem jb:∀(ss:List aH) (g:Int),(ss.map aH.ent).lookup g=(df ss g).map fun s=> .inst "Shelf" s.sh
 | [],_=>rfl
 | a::ss,g=>by
  rw [List.map_cons]
  unfold aH.ent df
  rw [List.lookup_cons]
  by_cases e:g=a.pg
  ·subst e;rw [List.find?_cons_of_pos (by simp)];simp
  ·have e1:(g==a.pg)=false:=by simpa using e
   have e2:¬((a.pg==g)=true):=by simpa using fun x=>e x.symm
   rw [e1,List.find?_cons_of_neg (p:=fun s':aH=>s'.pg==g) e2]
   exact jb ss g
theorem CO (ss:List aH):(ss.map aH.ent).map (·.1)=ss.map (·.pg):=by rw [List.map_map];rfl
theorem zi:∀(n:Nat) (l:List Nat),l.Nodup→(∀x∈l,x<n)→l.length≤n
 | 0,l,_,h=>by
  cases l with
  | nil=>simp
  | cons x r=>exact absurd (h x (.head _)) (by exact bz 0x9050)
 | n+1,l,hn,h=>by
  have h1:=zi n (l.filter (· ≠ n)) (hn.filter _) fun x hx=>by
   obtain ⟨hx1,hx2⟩:=List.mem_filter.mp hx
   have:=h x hx1
   have:x≠n:=by simpa using hx2
   omega
  have h2:l.length≤(l.filter (· ≠ n)).length+1:=by
   clear h1 h
   induction l with
   | nil=>simp
   | cons a r ih =>
    rw [List.nodup_cons] at hn
    by_cases e:a=n
    ·subst e
     have:r.filter (· ≠ a)=r:=by
      apply List.filter_eq_self.mpr
      intro x hx
      have:x≠a:=fun e=>hn.1 (e▸hx)
      simpa using this
     rw [List.filter_cons_of_neg (by simp),this];simp
    ·rw [List.filter_cons_of_pos (by simpa using e)]
     have:=ih hn.2
     rw [List.length_cons,List.length_cons];exact id (b0 0x19191cc190c0191c0011 this)
  exact id (tn 0x191c20190c20110012 h1 h2)
theorem Rm.Ok.few {r:Rm} (h:r.Ok):r.ss.length≤40:=by
 have h1:=zi r.p.toNat ((r.ss.map (·.pg)).map Int.toNat) (by
  refine List.pairwise_map.mpr (h.ndp.imp_of_mem fun {a b} ha hb hab e=>hab ?_)
  obtain ⟨s,hs,rfl⟩:=List.mem_map.mp ha
  obtain ⟨s',hs',rfl⟩:=List.mem_map.mp hb
  have:=(h.pg s hs).1
  have:=(h.pg s' hs').1
  omega) fun x hx=>by
  obtain ⟨g,hg,rfl⟩:=List.mem_map.mp hx
  obtain ⟨s,hs,rfl⟩:=List.mem_map.mp hg
  have:=h.pg s hs
  exact id (lA [_,_] [_,_] 0x1011f18100fa110913 this.2 (Int.toNat_of_nonneg this.1) (Int.self_le_toNat _))
 have:=h.p
 simp at h1
 exact id (rU 0x28a0001fa11001000028a0813 this.2 h1 (Int.toNat_of_nonneg (cK 0x98019811 this.1)))
theorem Rm.Ok.szpos {r:Rm} (h:r.Ok) {s:aH} (hs:s∈r.ss):1≤s.sz∧s.sz≤r.len:=⟨h.sz.low _ (h.in' s hs),h.sz.top _ (h.in' s hs)⟩
theorem Ck {x:Int} (a:0≤x) (b:x<1000000):x.natAbs<2 ^ 64:=by omega
theorem Do {n:Nat}:((n:Int)=0)↔n=0:=by omega
theorem xC {a b:Nat}:((a:Int)>(b:Int))↔b<a:=by omega
theorem xt {a g x:Int} (e:a=g) (h:¬x=g):¬((a==x)=true):=fun q=>h ((eq_of_beq q).symm.trans e)
theorem ur {a b:Int} (u1:0≤a.fdiv b) (u4:a<(a.fdiv b+1)*b) (h:b≤a):1≤a.fdiv b:=by
 rcases Int.lt_or_le (a.fdiv b) 1 with q | q
 ·rw [show a.fdiv b=0 by exact Int.le_antisymm (cK 0x908190911 q) (u1)] at u4;omega
 ·exact q
theorem dt {a b:Int} (ha:0≤a) (hb:1≤b):0≤a.fdiv b∧a.fdiv b≤a∧a.fdiv b*b≤a∧a<(a.fdiv b+1)*b:=by
 rw [Int.fdiv_eq_ediv_of_nonneg a (by exact cK 0x98019811 hb)]
 have h1:=Int.emod_add_mul_ediv a b
 have h2:=Int.emod_nonneg a (by exact fun x9=>cK 0x9096090a1019812 hb x9:b≠0)
 have h3:=Int.emod_lt_of_pos a (by exact cK 0x99019811 hb:0<b)
 have h4:0≤a/b:=Int.ediv_nonneg ha (by exact cK 0x98019811 hb)
 have h5:a/b*1≤a/b*b:=Int.mul_le_mul_of_nonneg_left hb h4
 rw [Int.mul_comm] at h1
 refine ⟨h4,by omega,by exact Gf 0x21800981210ca12 h1 h2,?_⟩
 rw [Int.add_mul];exact id (Ef 0x301d1c293091210cb12 h1 h3)
theorem Rm.Ok.bslen {r:Rm} (h:r.Ok) {s:aH} (hs:s∈r.ss):s.bs.length≤1000:=by
 have h1:=h.slots s hs
 have h2:=h.szpos hs
 have h3:=h.len
 have:=(dt (a:=r.len) (b:=s.sz) (by exact cK 0x98019811 h3.1) h2.1).2.1
 exact id (BU 0x3e8a00108100003ca18100fa13 h1 h3.2 this)
section
variable {H:Hp} {ri:Nat} {r:Rm} (hR:aI H ri r) (hO:r.Ok)
include hR
theorem aZ (l:aY):aA "racks" (.inst "Room" ri) ⟨l,H⟩= .ok (.ref r.d) ⟨l,H⟩:=gI hR.ob rfl
theorem gj (l:aY):aA "plan" (.inst "Room" ri) ⟨l,H⟩= .ok (.inst "Plan" r.pl) ⟨l,H⟩:=gI hR.ob rfl
theorem qQ (l:aY):aA "cells" (.inst "Room" ri) ⟨l,H⟩= .ok (.ref r.c) ⟨l,H⟩:=gI hR.ob rfl
theorem Ay (l:aY):aA "length" (.inst "Plan" r.pl) ⟨l,H⟩= .ok (.int r.len) ⟨l,H⟩:=gI hR.plan rfl
theorem DJ (l:aY):aA "pages" (.inst "Plan" r.pl) ⟨l,H⟩= .ok (.int r.p) ⟨l,H⟩:=gI hR.plan rfl
theorem a9 {f:String} (h:f ≠ "plan" ∧ f ≠ "racks" ∧ f ≠ "cells") (l:aY):aJ "Room" f (.inst "Room" ri) ⟨l,H⟩= .ok () ⟨l,H⟩:=by simp [DE,hR.ob,Ew _ _ _ h]
theorem cH {g:Int} {s:aH} (h:df r.ss g=some s) (l:aY):aj (.ref r.d) (.int g) ⟨l,H⟩= .ok (.inst "Shelf" s.sh) ⟨l,H⟩:=by
 unfold aj;dsimp only;rw [hR.racks];dsimp only;rw [jb,h];rfl
theorem DI (g:Int) (l:aY):inV (.int g) (.ref r.d) ⟨l,H⟩= .ok (df r.ss g).isSome ⟨l,H⟩:=by
 unfold inV;dsimp only;rw [hR.racks];dsimp only;rw [jb];cases df r.ss g<;>rfl
theorem qR {s:aH} (hs:s∈r.ss) (l:aY):aA "size" (.inst "Shelf" s.sh) ⟨l,H⟩= .ok (.int s.sz) ⟨l,H⟩∧aA "page" (.inst "Shelf" s.sh) ⟨l,H⟩= .ok (.int s.pg) ⟨l,H⟩:=by
 have:=(hR.shelf s hs).ob
 exact ⟨gI this rfl,gI this rfl⟩
include hO
theorem oo (l:aY):bn [.ref r.d] ⟨l,H⟩= .ok (.ref H.length) ⟨l,H++[.list ((dH (r.ss.map (·.pg))).map V.int)]⟩:=by
 have h:=hO.few
 have:(r.ss.map aH.ent).length<64:=by simp;exact id (bz 0x40a01000028a0011 h)
 unfold bn;dsimp only;rw [hR.racks];dsimp only;rw [if_pos this,CO]
noncomputable def jl (p:Int) (ss:List aH):List Int:=((List.range p.toNat).map Int.ofNat).filter fun g=>(df ss g).isNone
noncomputable def ofSz (ss:List aH) (z:Int):List Int:=(dH (ss.map (·.pg))).filter fun g=>match df ss g with | some s=>decide (s.sz=z) | none=>false
noncomputable def mP (ss:List aH):List Int:=(dH (ss.map (·.pg))).filter fun g=>match df ss g with | some s=>decide (s.bs.count true=0) | none=>false
omit hR hO in
theorem kQ:∀(n:Nat) (a:Nat),ba a n=((List.range' a n).map Int.ofNat).map V.int
 | 0,a=>rfl
 | n+1,a=>by
  rw [zo,List.range'_succ,List.map_cons,List.map_cons,show ((a:Int)+1)=((a+1:Nat):Int) by push_cast;rfl,kQ n (a+1)]
  rfl
omit hR hO in
theorem d9 (f:Int→Bool) (φ : V→Option V) (h:∀g,φ (.int g)=if f g then some (.int g) else none):∀l:List Int,(l.map V.int).filterMap φ = (l.filter f).map V.int
 | []=>rfl
 | g::l=>by
  rw [List.map_cons]
  cases hf:f g with
  | true=>rw [List.filterMap_cons_some (by rw [h,hf];rfl),List.filter_cons_of_pos hf,d9 f φ h l];rfl
  | false=>rw [List.filterMap_cons_none (by rw [h,hf];rfl),List.filter_cons_of_neg (by rw [hf];simp),d9 f φ h l]
theorem AH:∃H',gP [.inst "Room" ri] H= .ok (.ref H.length) H'∧H'=H++[.list ((jl r.p r.ss).map V.int)]:=by
 obtain ⟨l0,e0,a1⟩:∃l0,aT ["self"] [.inst "Room" ri]=l0∧l0 "self" = some (.inst "Room" ri):=⟨_,rfl,rfl⟩
 refine ⟨_,?_,rfl⟩
 have hp:=hO.p
 have hr:∀q,cN [.int r.p] q= .ok ⟨ba 0 r.p.toNat,fun _=>True⟩ q:=fun q=>eh _ _ ⟨by exact cK 0xf4240a1b9019811 hp.1,by exact cK 0xf4240a09000028a0811 hp.2⟩
 have hc:oM ⟨l0,H⟩= .ok (.ref H.length) ⟨l0,H++[.list ((jl r.p r.ss).map V.int)]⟩:=by
  refine fO (it:=⟨ba 0 r.p.toNat,fun _=>True⟩) (H1:=H) ?_ (by rw [fm];exact id (kb 0xf4240a0000fa1000028a0812 hp.2 (Int.toNat_of_nonneg (cK 0x98019811 hp.1)))) ?_
  ·exists a1,gj hR,DJ hR,hr
  ·have e1:ba 0 r.p.toNat=((List.range r.p.toNat).map Int.ofNat).map V.int:=by rw [List.range_eq_range'];exact kQ _ 0
   let φ : V→Option V:=fun v=>match v with | .int g=>if (df r.ss g).isNone then some (.int g) else none | _=>none
   have e2:(jl r.p r.ss).map V.int=(((List.range r.p.toNat).map Int.ofNat).map V.int).filterMap φ := (d9 (fun g=>(df r.ss g).isNone) φ (fun _=>rfl) _).symm
   rw [e2]
   show fh _ _ _ _ _ (ba 0 r.p.toNat) H=_
   rw [e1]
   refine fN trivial φ _ fun x hx=> ?_
   obtain ⟨g,_,rfl⟩:=List.mem_map.mp hx
   have h1:an "page" (.int g) ⟨dX ["self"] l0,H⟩= .ok () ⟨upd (dX ["self"] l0) "page" (.int g),H⟩:=rfl
   have hs:upd (dX ["self"] l0) "page" (.int g) "self" = some (.inst "Room" ri):=cq ∅ ∅ a1
   have eφ : φ (.int g)=if (df r.ss g).isNone then some (.int g) else none:=rfl
   rw [eφ]
   cases hf:df r.ss g with
   | none =>
    have hi:=DI hR g (upd (dX ["self"] l0) "page" (.int g))
    rw [hf] at hi
    refine fY (H2:=H) (H3:=H) h1 ?_ rfl
    exists hs,aZ hR,hi
   | some s =>
    have hi:=DI hR g (upd (dX ["self"] l0) "page" (.int g))
    rw [hf] at hi
    refine gN (H2:=H) h1 ?_
    exists hs,aZ hR,hi
 refine aS (m:=sO) (q:=⟨l0,_⟩) rfl ?_
 rw [e0]
 exists hc
end
theorem cG (f:Int→Bool):∀l:List Int,(l.filterMap fun g=>if f g then some (V.int g) else none)=(l.filter f).map V.int
 | []=>rfl
 | g::l=>by
  cases hf:f g with
  | true=>rw [List.filterMap_cons_some (by rw [hf];rfl),List.filter_cons_of_pos hf,cG f l];rfl
  | false=>rw [List.filterMap_cons_none (by rw [hf];rfl),List.filter_cons_of_neg (by rw [hf];simp),cG f l]
theorem bJ {caps:List String} {x:String} {tst:Cm Bool} {elt:Cm V} {l:aY} {mi:Cm It} {H H1:Hp} {n:Nat} {ks:List Int}
  (hmi:mi ⟨l,H⟩= .ok ⟨ks.map V.int,fun H=>ay (.ref n) H=some (ks.map V.int)⟩ ⟨l,H1⟩) (hn:H1[n]? = some (.list (ks.map V.int))) (hlen:ks.length≤1000000) (φ : Int→Option V)
  (hstep:∀g∈ks,∀H',H1<+:H'→ ∃H'',bR (an x) tst elt (dX caps l) (.int g) H'= .ok (φ g) H''∧H'<+:H'') :
  ∃H',be caps mi (an x) tst elt ⟨l,H⟩= .ok (.ref H'.length) ⟨l,H'++[.list (ks.filterMap φ)]⟩∧H1<+:H':=by
 let ψ : V→Option V:=fun v=>match v with | .int g => φ g | _=>none
 obtain ⟨H',h1,h2⟩:=wD (g:=fun H=>ay (.ref n) H=some (ks.map V.int)) (bd:=an x) (tst:=tst) (elt:=elt) (lc:=dX caps l) H1 (fun H' hp=>bB (av hp hn)) ψ (ks.map V.int) H1 (List.prefix_refl _) fun v hv H' hp=>by
  obtain ⟨g,hg,rfl⟩:=List.mem_map.mp hv
  exact hstep g hg H' hp
 have e:(ks.map V.int).filterMap ψ = ks.filterMap φ := by rw [List.filterMap_map];rfl
 rw [e] at h1
 exact ⟨H',fO hmi (by simpa using hlen) h1,h2⟩
theorem bw {n:Nat} {ks:List Int} {l:aY} {H:Hp} (hn:H[n]? = some (.list (ks.map V.int))):cQ (.ref n) ⟨l,H⟩= .ok ⟨ks.map V.int,fun H=>ay (.ref n) H=some (ks.map V.int)⟩ ⟨l,H⟩:=by
 rw [rZ,bB hn]
theorem bD {tst:Cm Bool} {elt:Cm V} {x:String} {lc:aY} {v y:V} {H H2 H3:Hp} (h2:tst ⟨upd lc x v,H⟩= .ok true ⟨upd lc x v,H2⟩) (h3:elt ⟨upd lc x v,H2⟩= .ok y ⟨upd lc x v,H3⟩) :
  bR (an x) tst elt lc v H= .ok (some y) H3:=fY (u:=()) rfl h2 h3
theorem fD {tst:Cm Bool} {elt:Cm V} {x:String} {lc:aY} {v:V} {H H2:Hp} (h2:tst ⟨upd lc x v,H⟩= .ok false ⟨upd lc x v,H2⟩):bR (an x) tst elt lc v H= .ok none H2:=gN (u:=()) rfl h2
theorem B9 {g:Int} {l:List Int}:g∈dH l↔g∈l:=(gG l).mem_iff
theorem lJ (l:List Int):(dH l).length=l.length:=(gG l).length_eq
theorem AY {ss:List aH} (hn:(ss.map (·.pg)).Nodup) {g:Int} (h:g∈dH (ss.map (·.pg))):∃s,A3 (df ss g=some s) (s∈ss) (s.pg=g):=by
 obtain ⟨s,hs,rfl⟩:=List.mem_map.mp (B9.mp h)
 exact ⟨s,dU hn hs,hs,rfl⟩
section
variable {H:Hp} {ri:Nat} {r:Rm} (hR:aI H ri r) (hO:r.Ok)
include hR hO
theorem vH (z:Int):∃n H',A4 (dj [.inst "Room" ri,.int z] H= .ok (.ref n) H') (H<+:H') (H'[n]? = some (.list ((ofSz r.ss z).map V.int))) (H.length≤n):=by
 obtain ⟨l0,e0,a1,a2⟩:∃l0,aT ["self", "size"] [.inst "Room" ri,.int z]=l0∧l0 "self" = some (.inst "Room" ri)∧l0 "size" = some (.int z):=⟨_,rfl,rfl,rfl⟩
 have hf:=hO.few
 obtain ⟨H',h1,h2⟩:=bJ (caps:=["size", "self"]) (x := "page") (l:=l0) (H:=H) (H1:=H++[.list ((dH (r.ss.map (·.pg))).map V.int)]) (n:=H.length) (ks:=dH (r.ss.map (·.pg)))
  (mi:=(((((ac "self").b fun v2=>aA "racks" v2).b fun v3=>(Cm.p ([]:List V)).b fun vs4=>Cm.p (v3::vs4)).b fun vs1=>bn vs1).b fun v5=>cQ v5))
  (tst:=(((((ac "self").b fun v6=>aA "racks" v6).b fun v7=>(ac "page").b fun v8=>aj v7 v8).b fun v9=>aA "size" v9).b fun v10=>(ac "size").b fun v11=>(aL .Eq v10 v11).b fun x12=>Cm.p x12))
  (elt:=ac "page")
  (by exists a1,aZ hR,oo hR hO;exact bw (by simp)) (by simp) (by rw [lJ];simp;omega)
  (fun g=>if (match df r.ss g with | some s=>decide (s.sz=z) | none=>false) then some (V.int g) else none) fun g hg Hx hp=>by
   obtain ⟨s,hs,hm,_⟩:=AY hO.ndp hg
   have hRx:=hR.pre ((List.prefix_append _ _).trans hp)
   have b1:upd (dX ["size", "self"] l0) "page" (.int g) "self" = some (.inst "Room" ri):=cq ∅ ∅ a1
   have b2:upd (dX ["size", "self"] l0) "page" (.int g) "size" = some (.int z):=cq ∅ ∅ a2
   refine ⟨Hx,?_,List.prefix_refl _⟩
   rw [hs]
   show bR _ _ _ _ _ _= .ok (if decide (s.sz=z)=true then some (V.int g) else none) Hx
   have ht:∀b,decide (s.sz=z)=b→((((((ac "self").b fun v6=>aA "racks" v6).b fun v7=>(ac "page").b fun v8=>aj v7 v8).b fun v9=>aA "size" v9).b fun v10=>(ac "size").b fun v11=>(aL .Eq v10 v11).b fun x12=>Cm.p x12)) ⟨upd (dX ["size", "self"] l0) "page" (.int g),Hx⟩= .ok b ⟨upd (dX ["size", "self"] l0) "page" (.int g),Hx⟩:=fun b hb=>by
    exists b1,b2,aZ hRx,cH hRx hs,(qR hRx hm _).1,hb
   cases hb:decide (s.sz=z) with
   | true=>exact bD (ht true hb) rfl
   | false=>exact fD (ht false hb)
 refine ⟨H'.length,H'++[.list ((ofSz r.ss z).map V.int)],?_,((List.prefix_append _ _).trans h2).trans (List.prefix_append _ _),by simp,((List.prefix_append _ _).trans h2).length_le⟩
 rw [cG] at h1
 refine aS (m:=jg) (q:=⟨l0,_⟩) rfl ?_
 rw [e0]
 simp only [jg,kT,ni,ky,h1,DF]
 rfl
theorem xe (z:Int):∃n H',A3 (dj [.inst "Room" ri,.int z] H= .ok (.ref n) H') (H<+:H') (H'[n]? = some (.list ((ofSz r.ss z).map V.int))) :=
 let ⟨n,H',h1,h2,h3,_⟩:=vH hR hO z;⟨n,H',h1,h2,h3⟩
theorem ua:∃n H',A3 (bW [.inst "Room" ri] H= .ok (.ref n) H') (H<+:H') (H'[n]? = some (.list ((mP r.ss).map V.int))):=by
 obtain ⟨l0,e0,a1⟩:∃l0,aT ["self"] [.inst "Room" ri]=l0∧l0 "self" = some (.inst "Room" ri):=⟨_,rfl,rfl⟩
 have hf:=hO.few
 obtain ⟨H',h1,h2⟩:=bJ (caps:=["self"]) (x := "page") (l:=l0) (H:=H) (H1:=H++[.list ((dH (r.ss.map (·.pg))).map V.int)]) (n:=H.length) (ks:=dH (r.ss.map (·.pg)))
  (mi:=(((((ac "self").b fun v2=>aA "racks" v2).b fun v3=>(Cm.p ([]:List V)).b fun vs4=>Cm.p (v3::vs4)).b fun vs1=>bn vs1).b fun v5=>cQ v5))
  (tst:=(((((ac "self").b fun v7=>aA "racks" v7).b fun v8=>(ac "page").b fun v9=>aj v8 v9).b fun v10=>(aJ "Shelf" "out" v10).b fun _=>(Cm.p ([]:List V)).b fun vs6=>aD (bK) (v10::vs6)).b fun v11=>(Cm.p (V.int 0)).b fun v12=>(aL .Eq v11 v12).b fun x13=>Cm.p x13))
  (elt:=ac "page")
  (by exists a1,aZ hR,oo hR hO;exact bw (by simp)) (by simp) (by rw [lJ];simp;omega)
  (fun g=>if (match df r.ss g with | some s=>decide (s.bs.count true=0) | none=>false) then some (V.int g) else none) fun g hg Hx hp=>by
   obtain ⟨s,hs,hm,_⟩:=AY hO.ndp hg
   have hRx:=hR.pre ((List.prefix_append _ _).trans hp)
   have hSx:=hRx.shelf s hm
   have ho:=Fd hSx (hO.bslen hm)
   have b1:upd (dX ["self"] l0) "page" (.int g) "self" = some (.inst "Room" ri):=cq ∅ ∅ a1
   refine ⟨Hx++[.list (List.replicate (s.bs.count true) (V.bool true))],?_,List.prefix_append _ _⟩
   rw [hs]
   show bR _ _ _ _ _ _= .ok (if decide (s.bs.count true=0)=true then some (V.int g) else none) _
   have ht:∀b,decide (s.bs.count true=0)=b→((((((ac "self").b fun v7=>aA "racks" v7).b fun v8=>(ac "page").b fun v9=>aj v8 v9).b fun v10=>(aJ "Shelf" "out" v10).b fun _=>(Cm.p ([]:List V)).b fun vs6=>aD (bK) (v10::vs6)).b fun v11=>(Cm.p (V.int 0)).b fun v12=>(aL .Eq v11 v12).b fun x13=>Cm.p x13)) ⟨upd (dX ["self"] l0) "page" (.int g),Hx⟩= .ok b ⟨upd (dX ["self"] l0) "page" (.int g),Hx++[.list (List.replicate (s.bs.count true) (V.bool true))]⟩:=fun b hb=>by
    have e:decide (((s.bs.count true:Nat):Int)=0)=b:=by rw [← hb];exact decide_eq_decide.mpr Do
    exists b1,aZ hRx,cH hRx hs,dT hSx.ob (FU _ _ _),ho,e
   cases hb:decide (s.bs.count true=0) with
   | true=>exact bD (ht true hb) rfl
   | false=>exact fD (ht false hb)
 refine ⟨H'.length,H'++[.list ((mP r.ss).map V.int)],?_,((List.prefix_append _ _).trans h2).trans (List.prefix_append _ _),by simp⟩
 rw [cG] at h1
 refine aS (m:=jf) (q:=⟨l0,_⟩) rfl ?_
 rw [e0]
 exact bq h1 rfl
omit hO in
theorem t9 {s:aH} (hS:jE H s.sh s.t s.pg s.sz s.bs) (k:Int) (hp:0≤s.pg∧s.pg<1000) (hk:0≤k∧k<1000):eJ [.inst "Room" ri,.inst "Shelf" s.sh,.int k] H= .ok (.int (s.pg*r.len+k*s.sz)) H:=by
 have h1:∀l,aA "page" (.inst "Shelf" s.sh) ⟨l,H⟩= .ok (.int s.pg) ⟨l,H⟩:=fun l=>fH hS.ob (EA _ _ _)
 have h2:∀l,aA "size" (.inst "Shelf" s.sh) ⟨l,H⟩= .ok (.int s.sz) ⟨l,H⟩:=fun l=>fH hS.ob (EB _ _ _)
 have m1:∀q,dQ (.int s.pg) (.int r.len) q= .ok (.int (s.pg*r.len)) q:=fun q=>mj _ _ q (Ck (by exact hp.1) (by exact cK 0xf4240a090003e8a0911 hp.2))
 have m2:∀q,dQ (.int k) (.int s.sz) q= .ok (.int (k*s.sz)) q:=fun q=>mj _ _ q (Ck (by exact hk.1) (by exact cK 0xf4240a090003e8a0911 hk.2))
 obtain ⟨l0,e0,a1,a2,a3⟩:∃l0,aT ["self", "shelf", "slot"] [.inst "Room" ri,.inst "Shelf" s.sh,.int k]=l0∧l0 "self" = some (.inst "Room" ri)∧l0 "shelf" = some (.inst "Shelf" s.sh)∧l0 "slot" = some (.int k):=⟨_,rfl,rfl,rfl,rfl⟩
 refine aS (m:=qz) (q:=⟨l0,H⟩) rfl ?_
 rw [e0]
 exists a1,a2,a3,h1,h2,gj hR,Ay hR,m1,m2
end
structure bO (F:List Nat) (H H':Hp):Prop where
 len:H.length≤H'.length
 same:∀i,i<H.length→i∉F→H'[i]? = H[i]?
theorem bO.refl (F:List Nat) (H:Hp):bO F H H:=⟨Nat.le_refl _,fun _ _ _=>rfl⟩
theorem bO.pre {F:List Nat} {H H':Hp} (h:H<+:H'):bO F H H':=⟨h.length_le,fun i hi _=>by
 obtain ⟨T,rfl⟩:=h
 rw [List.getElem?_append_left hi]⟩
theorem bO.trans {F:List Nat} {H H' H'':Hp} (a:bO F H H') (b:bO F H' H''):bO F H H'' :=
 ⟨Nat.le_trans a.len b.len,fun i hi hn=>(b.same i (Nat.lt_of_lt_of_le hi a.len) hn).trans (a.same i hi hn)⟩
theorem bO.mono {F F':List Nat} {H H':Hp} (a:bO F H H') (h:∀i∈F,i<H.length→i∈F'):bO F' H H':=⟨a.len,fun i hi hn=>a.same i hi fun hm=>hn (h i hm hi)⟩
theorem bO.set {F:List Nat} {H:Hp} {i:Nat} {o:O} (h:i∈F):bO F H (H.set i o):=⟨by simp,fun j hj hn=>List.getElem?_set_ne (fun e:i=j=>hn (e▸h))⟩
theorem bO.get {F:List Nat} {H H':Hp} (a:bO F H H') {i:Nat} {o:O} (h:H[i]? = some o) (hn:i∉F):H'[i]? = some o:=by
 rw [a.same i (List.getElem?_eq_some_iff.mp h).1 hn];exact h
noncomputable def Rm.fp (r:Rm):List Nat:=r.d::r.c::r.ss.map (·.t)
noncomputable def Rm.dep (ri:Nat) (r:Rm):List Nat:=ri::r.pl::r.m::r.d::r.c::(r.ss.map (·.sh)++r.ss.map (·.t))
theorem aI.chg {F:List Nat} {H H':Hp} {ri:Nat} {r:Rm} (h:aI H ri r) (a:bO F H H') (hd:∀i∈r.dep ri,i∉F):aI H' ri r where
 ob:=a.get h.ob (hd _ (by simp [Rm.dep]))
 plan:=a.get h.plan (hd _ (by simp [Rm.dep]))
 sizes:=a.get h.sizes (hd _ (by simp [Rm.dep]))
 racks:=a.get h.racks (hd _ (by simp [Rm.dep]))
 shelf:=fun s hs=>⟨a.get (h.shelf s hs).ob (hd _ (by simp [Rm.dep];exact .inr (.inr (.inr (.inr (.inr (.inl ⟨s,hs,rfl⟩))))))),a.get (h.shelf s hs).ls (hd _ (by simp [Rm.dep];exact .inr (.inr (.inr (.inr (.inr (.inr ⟨s,hs,rfl⟩)))))))⟩
 cells:=a.get h.cells (hd _ (by simp [Rm.dep]))
noncomputable def setBs (ss:List aH) (g:Int) (bs:List Bool):List aH:=ss.map fun s=>if s.pg=g then { s with bs:=bs } else s
theorem B3 (ss:List aH) (g:Int) (bs:List Bool):(setBs ss g bs).map aH.ent=ss.map aH.ent:=by
 unfold setBs
 rw [List.map_map]
 refine List.map_congr_left fun s _=> ?_
 show aH.ent (if s.pg=g then { s with bs:=bs } else s)=_
 split<;>rfl
theorem zy (ss:List aH) (g:Int) (bs:List Bool):(setBs ss g bs).map (·.pg)=ss.map (·.pg):=by
 unfold setBs;rw [List.map_map];refine List.map_congr_left fun s _=> ?_
 show aH.pg (if s.pg=g then { s with bs:=bs } else s)=_
 split<;>rfl
theorem jR (ss:List aH) (g:Int) (bs:List Bool):(setBs ss g bs).map (·.t)=ss.map (·.t):=by
 unfold setBs;rw [List.map_map];refine List.map_congr_left fun s _=> ?_
 show aH.t (if s.pg=g then { s with bs:=bs } else s)=_
 split<;>rfl
theorem eS {ss:List aH} {g:Int} {bs:List Bool} {s:aH} (h:s∈setBs ss g bs):∃s0∈ss,(s0.pg=g∧s={ s0 with bs:=bs })∨(s0.pg≠g∧s=s0):=by
 obtain ⟨s0,h0,rfl⟩:=List.mem_map.mp h
 refine ⟨s0,h0,?_⟩
 by_cases e:s0.pg=g
 ·exact .inl ⟨e,by rw [if_pos e]⟩
 ·exact .inr ⟨e,by rw [if_neg e]⟩
theorem lD {α:Type} {f:α→Nat}:∀ {l:List α},(l.map f).Nodup→ ∀ {a b:α},a∈l→b∈l→f a=f b→a=b
 | [],_,_,_,h,_,_=>by cases h
 | x::l,hn,a,b,ha,hb,e=>by
  rw [List.map_cons,List.nodup_cons] at hn
  rcases List.mem_cons.mp ha with h1 | h1<;>rcases List.mem_cons.mp hb with h2 | h2
  ·rw [h1,h2]
  ·exact absurd (List.mem_map.mpr ⟨b,h2,by rw [← e,h1]⟩) hn.1
  ·exact absurd (List.mem_map.mpr ⟨a,h1,by rw [e,h2]⟩) hn.1
  ·exact lD hn.2 h1 h2 e
section
variable {H:Hp} {ri:Nat} {r:Rm} (hR:aI H ri r) (hO:r.Ok)
include hR hO
theorem aI.setBs {s:aH} (hs:s∈r.ss) (bs:List Bool):aI (H.set s.t (.list (bs.map V.bool))) ri { r with ss:=Mine.Lake.setBs r.ss s.pg bs }:=by
 have hls:=(hR.shelf s hs).ls
 have ne:∀ {i:Nat} {o:O},H[i]? = some o→(∀xs,o≠ .list xs)→s.t≠i:=fun {i o} h hn e=>by rw [← e,hls] at h;cases h;exact hn _ rfl
 have get:∀ {i:Nat} {o:O},H[i]? = some o→s.t≠i→(H.set s.t (.list (bs.map V.bool)))[i]? = some o:=fun h hn=>by rw [List.getElem?_set_ne hn];exact h
 have ht:s.t∈r.ss.map (·.t):=List.mem_map.mpr ⟨s,hs,rfl⟩
 refine ⟨get hR.ob (ne hR.ob (by simp)),get hR.plan (ne hR.plan (by simp)),get hR.sizes fun e=>hO.mt (e▸ht),?_,fun s' hs'=> ?_,get hR.cells fun e=>hO.ct (e▸ht)⟩
 ·show (H.set s.t _)[r.d]? = some (.dict ((Mine.Lake.setBs r.ss s.pg bs).map aH.ent))
  rw [B3];exact get hR.racks (ne hR.racks (by simp))
 ·obtain ⟨s0,h0,⟨e,rfl⟩ | ⟨e,rfl⟩⟩:=eS hs'
  ·have:s0=s:=Option.some.inj ((dU hO.ndp h0).symm.trans (by rw [e];exact dU hO.ndp hs))
   subst this
   exact ⟨get (hR.shelf _ hs).ob (ne (hR.shelf _ hs).ob (by simp)),by
    show (H.set s0.t _)[s0.t]? = _
    rw [List.getElem?_set_self (List.getElem?_eq_some_iff.mp hls).1]⟩
  ·have hne:s.t≠s'.t:=fun q=>e (by rw [lD hO.ndt hs h0 q])
   exact ⟨get (hR.shelf _ h0).ob (ne (hR.shelf _ h0).ob (by simp)),get (hR.shelf _ h0).ls hne⟩
theorem Rm.Ok.setBs {s:aH} (hs:s∈r.ss) {bs:List Bool} (hl:bs.length=s.bs.length):Rm.Ok { r with ss:=Mine.Lake.setBs r.ss s.pg bs } where
 p:=hO.p
 len:=hO.len
 sz:=hO.sz
 ne:=hO.ne
 ndp:=by show ((Mine.Lake.setBs r.ss s.pg bs).map (·.pg)).Nodup;rw [zy];exact hO.ndp
 ndt:=by show ((Mine.Lake.setBs r.ss s.pg bs).map (·.t)).Nodup;rw [jR];exact hO.ndt
 pg:=fun s' hs'=>by
  obtain ⟨s0,h0,⟨e,rfl⟩ | ⟨e,rfl⟩⟩:=eS hs'
  ·exact hO.pg s0 h0
  ·exact hO.pg _ h0
 in':=fun s' hs'=>by
  obtain ⟨s0,h0,⟨e,rfl⟩ | ⟨e,rfl⟩⟩:=eS hs'
  ·exact hO.in' s0 h0
  ·exact hO.in' _ h0
 slots:=fun s' hs'=>by
  obtain ⟨s0,h0,⟨e,rfl⟩ | ⟨e,rfl⟩⟩:=eS hs'
  ·have:s0=s:=Option.some.inj ((dU hO.ndp h0).symm.trans (by rw [e];exact dU hO.ndp hs))
   subst this
   show (bs.length:Int)=_
   rw [hl];exact hO.slots _ h0
  ·exact hO.slots _ h0
 cs:=hO.cs
 ct:=by show r.c∉(Mine.Lake.setBs r.ss s.pg bs).map (·.t);rw [jR];exact hO.ct
 mt:=by show r.m∉(Mine.Lake.setBs r.ss s.pg bs).map (·.t);rw [jR];exact hO.mt
 mc:=hO.mc
theorem aI.setCs (cs:List Int):aI (H.set r.c (.list (cs.map V.int))) ri { r with cs:=cs }:=by
 have hls:=hR.cells
 have ne:∀ {i:Nat} {o:O},H[i]? = some o→(∀xs,o≠ .list xs)→r.c≠i:=fun {i o} h hn e=>by rw [← e,hls] at h;cases h;exact hn _ rfl
 have get:∀ {i:Nat} {o:O},H[i]? = some o→r.c≠i→(H.set r.c (.list (cs.map V.int)))[i]? = some o:=fun h hn=>by rw [List.getElem?_set_ne hn];exact h
 exact ⟨get hR.ob (ne hR.ob (by simp)),get hR.plan (ne hR.plan (by simp)),get hR.sizes hO.mc.symm,get hR.racks (ne hR.racks (by simp)),
  fun s hs=>⟨get (hR.shelf s hs).ob (ne (hR.shelf s hs).ob (by simp)),get (hR.shelf s hs).ls fun e=>hO.ct (e▸List.mem_map.mpr ⟨s,hs,rfl⟩)⟩,by
   show (H.set r.c _)[r.c]? = _
   rw [List.getElem?_set_self (List.getElem?_eq_some_iff.mp hls).1]⟩
theorem Rm.Ok.setCs {cs:List Int} (hl:cs.length=r.cs.length):Rm.Ok { r with cs:=cs } :=
 ⟨hO.p,hO.len,hO.sz,hO.ne,hO.ndp,hO.ndt,hO.pg,hO.in',hO.slots,by show (cs.length:Int)=_;rw [hl];exact hO.cs,hO.ct,hO.mt,hO.mc⟩
noncomputable def cW (ss:List aH) (g:Int):List aH:=ss.filter fun s=>s.pg≠g
omit hR hO in
theorem rE:∀(ss:List aH) (g:Int),(cW ss g).map aH.ent=ll g (ss.map aH.ent)
 | [],_=>rfl
 | s::ss,g=>by
  unfold cW ll
  rw [List.map_cons]
  by_cases e:s.pg=g
  ·rw [List.filter_cons_of_neg (by simp [e]),List.filter_cons_of_neg (by simp [aH.ent,e])];exact rE ss g
  ·rw [List.filter_cons_of_pos (by simp [e]),List.filter_cons_of_pos (by simp [aH.ent,e]),List.map_cons];congr 1;exact rE ss g
theorem aI.del (g:Int):aI (H.set r.d (.dict (ll g (r.ss.map aH.ent)))) ri { r with ss:=cW r.ss g }:=by
 have hls:=hR.racks
 have ne:∀ {i:Nat} {o:O},H[i]? = some o→(∀xs,o≠ .dict xs)→r.d≠i:=fun {i o} h hn e=>by rw [← e,hls] at h;cases h;exact hn _ rfl
 have get:∀ {i:Nat} {o:O},H[i]? = some o→(∀xs,o≠ .dict xs)→(H.set r.d (.dict (ll g (r.ss.map aH.ent))))[i]? = some o:=fun h hn=>by rw [List.getElem?_set_ne (ne h hn)];exact h
 refine ⟨get hR.ob (by simp),get hR.plan (by simp),get hR.sizes (by simp),?_,fun s hs=> ?_,get hR.cells (by simp)⟩
 ·show (H.set r.d _)[r.d]? = some (.dict ((cW r.ss g).map aH.ent))
  rw [List.getElem?_set_self (List.getElem?_eq_some_iff.mp hls).1,rE]
 ·have hm:=(List.mem_filter.mp hs).1
  exact ⟨get (hR.shelf s hm).ob (by simp),get (hR.shelf s hm).ls (by simp)⟩
theorem Rm.Ok.del (g:Int):Rm.Ok { r with ss:=cW r.ss g }:=by
 have sub:(cW r.ss g).Sublist r.ss:=List.filter_sublist
 have mem:∀s∈cW r.ss g,s∈r.ss:=fun s hs=>sub.mem hs
 exact ⟨hO.p,hO.len,hO.sz,hO.ne,hO.ndp.sublist (sub.map _),hO.ndt.sublist (sub.map _),fun s hs=>hO.pg s (mem s hs),fun s hs=>hO.in' s (mem s hs),fun s hs=>hO.slots s (mem s hs),hO.cs,
  fun h=>hO.ct ((sub.map _).mem h),fun h=>hO.mt ((sub.map _).mem h),hO.mc⟩
noncomputable def ie (ss:List aH) (s:aH):List aH:=if (df ss s.pg).isSome then ss.map (fun a=>if a.pg=s.pg then s else a) else ss++[s]
omit hR hO in
theorem DA (ss:List aH) (s:aH):(ie ss s).map aH.ent=qu s.pg (.inst "Shelf" s.sh) (ss.map aH.ent):=by
 unfold ie qu
 rw [jb,Option.isSome_map]
 split
 ·rw [List.map_map,List.map_map]
  refine List.map_congr_left fun a _=> ?_
  show aH.ent (if a.pg=s.pg then s else a)=if (aH.ent a).1=s.pg then ((aH.ent a).1,.inst "Shelf" s.sh) else aH.ent a
  by_cases e:a.pg=s.pg
  ·rw [if_pos e,if_pos (show (aH.ent a).1=s.pg from e)];simp [aH.ent,e]
  ·rw [if_neg e,if_neg (show ¬(aH.ent a).1=s.pg from e)]
 ·rw [List.map_append];rfl
omit hR hO in
theorem cM {ss:List aH} {s x:aH} (h:x∈ie ss s):x=s∨(x∈ss∧x.pg≠s.pg):=by
 unfold ie at h
 split at h
 ·obtain ⟨a,ha,rfl⟩:=List.mem_map.mp h
  by_cases e:a.pg=s.pg
  ·exact .inl (by rw [if_pos e])
  ·rw [if_neg e];exact .inr ⟨ha,e⟩
 ·rename_i hn
  rcases List.mem_append.mp h with h | h
  ·refine .inr ⟨h,fun e=>hn ?_⟩
   cases hf:df ss s.pg with
   | some _=>rfl
   | none=>exact absurd (List.mem_map.mpr ⟨x,h,e⟩) (yP.mp hf)
  ·exact .inl (by simpa using h)
omit hR hO in
theorem Bg {ss:List aH} {s:aH} (h1:(ss.map (·.pg)).Nodup) (h2:(ss.map (·.t)).Nodup) (h3:s.t∉ss.map (·.t)):((ie ss s).map (·.pg)).Nodup∧((ie ss s).map (·.t)).Nodup:=by
 have hp:ss.Pairwise fun a b=>a.pg≠b.pg∧a.t≠b.t:=(List.pairwise_map.mp h1).and (List.pairwise_map.mp h2)
 have key:(ie ss s).Pairwise fun a b=>a.pg≠b.pg∧a.t≠b.t:=by
  unfold ie
  split
  ·refine List.pairwise_map.mpr (hp.imp_of_mem fun {a b} ha hb hab=> ?_)
   by_cases e1:a.pg=s.pg<;>by_cases e2:b.pg=s.pg
   ·exact absurd (e1.trans e2.symm) hab.1
   ·rw [if_pos e1,if_neg e2];exact ⟨fun e=>e2 e.symm,fun e=>h3 (List.mem_map.mpr ⟨b,hb,e.symm⟩)⟩
   ·rw [if_neg e1,if_pos e2];exact ⟨e1,fun e=>h3 (List.mem_map.mpr ⟨a,ha,e⟩)⟩
   ·rw [if_neg e1,if_neg e2];exact hab
  ·rename_i hn
   refine List.pairwise_append.mpr ⟨hp,by simp,fun a ha b hb=> ?_⟩
   simp at hb
   subst hb
   refine ⟨fun e=>hn ?_,fun e=>h3 (List.mem_map.mpr ⟨a,ha,e⟩)⟩
   cases hf:df ss b.pg with
   | some _=>rfl
   | none=>exact absurd (List.mem_map.mpr ⟨a,ha,e⟩) (yP.mp hf)
 exact ⟨List.pairwise_map.mpr (key.imp fun h=>h.1),List.pairwise_map.mpr (key.imp fun h=>h.2)⟩
theorem aI.put {g z:Int} {k:Nat} {s:aH} (hs:s=⟨g,H.length,H.length+2,z,List.replicate k false⟩) :
  aI ((H++[O.flds (ig g z (H.length+2)),O.list [V.bool false],O.list ((List.replicate k false).map V.bool)]).set r.d (.dict (qu g (.inst "Shelf" H.length) (r.ss.map aH.ent)))) ri { r with ss:=ie r.ss s }:=by
 have hdl:=(List.getElem?_eq_some_iff.mp hR.racks).1
 have ne:∀ {i:Nat} {o:O},H[i]? = some o→(∀xs,o≠ .dict xs)→r.d≠i:=fun {i o} h hn e=>by rw [← e,hR.racks] at h;cases h;exact hn _ rfl
 have get:∀ {i:Nat} {o:O},H[i]? = some o→(∀xs,o≠ .dict xs)→((H++[O.flds (ig g z (H.length+2)),O.list [V.bool false],O.list ((List.replicate k false).map V.bool)]).set r.d (.dict (qu g (.inst "Shelf" H.length) (r.ss.map aH.ent))))[i]? = some o:=fun h hn=>by
  rw [List.getElem?_set_ne (ne h hn)];exact av ⟨_,rfl⟩ h
 refine ⟨get hR.ob (by simp),get hR.plan (by simp),get hR.sizes (by simp),?_,fun s' hs'=> ?_,get hR.cells (by simp)⟩
 ·show (List.set _ r.d _)[r.d]? = some (O.dict ((ie r.ss s).map aH.ent))
  rw [List.getElem?_set_self (by simp;exact id (b0 0x391c0110111 hdl)),DA,hs]
 ·rcases cM hs' with rfl | ⟨hm,_⟩
  ·subst hs
   refine ⟨?_,?_⟩
   ·show (List.set _ r.d _)[H.length]? = _
    rw [List.getElem?_set_ne (by exact fun x9=>b0 0x9096103110112 hdl x9)];simp
   ·show (List.set _ r.d _)[H.length+2]? = _
    rw [List.getElem?_set_ne (by exact fun x9=>b0 0x9096291c03110112 hdl x9)];simp
  ·exact ⟨get (hR.shelf s' hm).ob (by simp),get (hR.shelf s' hm).ls (by simp)⟩
theorem Rm.Ok.put {s:aH} (h1:0≤s.pg∧s.pg<r.p) (h2:s.sz∈r.xs) (h3:(s.bs.length:Int)=r.len.fdiv s.sz) (h4:H.length≤s.t):Rm.Ok { r with ss:=ie r.ss s }:=by
 have hlt:∀s'∈r.ss,s'.t<H.length:=fun s' hs'=>(List.getElem?_eq_some_iff.mp (hR.shelf s' hs').ls).1
 have h5:s.t∉r.ss.map (·.t):=fun hm=>by
  obtain ⟨s',hs',e⟩:=List.mem_map.mp hm
  have:=hlt s' hs'
  exact id (tn 0x90960211123110013 h4 e this)
 obtain ⟨p1,p2⟩:=Bg hO.ndp hO.ndt h5
 have hc:=(List.getElem?_eq_some_iff.mp hR.cells).1
 have hm:=(List.getElem?_eq_some_iff.mp hR.sizes).1
 refine ⟨hO.p,hO.len,hO.sz,hO.ne,p1,p2,fun x hx=> ?_,fun x hx=> ?_,fun x hx=> ?_,hO.cs,fun hx=> ?_,fun hx=> ?_,hO.mc⟩
 ·rcases cM hx with rfl | ⟨hx,_⟩
  ·exact h1
  ·exact hO.pg x hx
 ·rcases cM hx with rfl | ⟨hx,_⟩
  ·exact h2
  ·exact hO.in' x hx
 ·rcases cM hx with rfl | ⟨hx,_⟩
  ·exact h3
  ·exact hO.slots x hx
 ·obtain ⟨x,hx,e⟩:=List.mem_map.mp hx
  rcases cM hx with rfl | ⟨hx,_⟩
  ·dsimp only at e;exact id (tn 0x90960221210110113 hc h4 e)
  ·exact hO.ct (List.mem_map.mpr ⟨x,hx,e⟩)
 ·obtain ⟨x,hx,e⟩:=List.mem_map.mp hx
  rcases cM hx with rfl | ⟨hx,_⟩
  ·dsimp only at e;exact id (tn 0x90960221210110113 hm h4 e)
  ·exact hO.mt (List.mem_map.mpr ⟨x,hx,e⟩)
end
set_option linter.unusedSectionVars false
theorem oR:∀(l:List aH) (s:aH),(df l s.pg).isSome=true→df (l.map fun a=>if a.pg=s.pg then s else a) s.pg=some s
 | [],s,h=>by simp [df] at h
 | a::l,s,h=>by
  unfold df
  rw [List.map_cons]
  by_cases e:a.pg=s.pg
  ·rw [if_pos e,List.find?_cons_of_pos (by simp)]
  ·rw [if_neg e,List.find?_cons_of_neg (p:=fun s':aH=>s'.pg==s.pg) (by simpa using e)]
   refine oR l s ?_
   unfold df at h
   rw [List.find?_cons_of_neg (p:=fun s':aH=>s'.pg==s.pg) (by simpa using e)] at h
   exact h
theorem kI (ss:List aH) (s:aH):df (ie ss s) s.pg=some s:=by
 unfold ie
 split
 ·rename_i h;exact oR ss s h
 ·rename_i h
  have hn:df ss s.pg=none:=by cases hf:df ss s.pg with | none=>rfl | some _=>rw [hf] at h;simp at h
  unfold df at hn ⊢
  rw [List.find?_append,hn]
  simp
theorem Dw {p:Int} {ss:List aH} {g:Int} (h:g∈jl p ss):(0≤g∧g<p)∧df ss g=none:=by
 unfold jl at h
 obtain ⟨h1,h2⟩:=List.mem_filter.mp h
 obtain ⟨k,hk,rfl⟩:=List.mem_map.mp h1
 have:=List.mem_range.mp hk
 refine ⟨⟨by simp,by simp;omega⟩,?_⟩
 simpa using h2
theorem CM {ss:List aH} {g:Int} (h:g∈mP ss):∃s,df ss g=some s∧s.bs.count true=0:=by
 unfold mP at h
 obtain ⟨h1,h2⟩:=List.mem_filter.mp h
 split at h2
 ·rename_i s hs;exact ⟨s,hs,by simpa using h2⟩
 ·cases h2
noncomputable def tT (p:Int) (ss:List aH):Option Int:=match jl p ss with
 | g::_=>some g
 | []=>(mP ss).head?
section
variable {H:Hp} {ri:Nat} {r:Rm} (hR:aI H ri r) (hO:r.Ok)
include hR hO
theorem Av {z:Int} (hz:z∈r.xs):gB [.inst "Plan" r.pl,.int z] H= .ok (.int (r.len.fdiv z)) H:=by
 have h1:=hO.sz.low z hz
 rw [GS H r.pl r.p r.len r.xs z hR.isPlan (fun _=>by exact fun x9=>cK 0x9096090a1019812 h1 x9),if_pos hz]
theorem rY {z:Int} (hz:z∈r.xs):1≤r.len.fdiv z∧r.len.fdiv z≤60:=by
 have h1:=hO.sz.low z hz
 have h2:=hO.sz.top z hz
 have h3:=hO.len
 obtain ⟨a,b,c,d⟩:=dt (a:=r.len) (b:=z) (by exact cK 0x98019811 h3.1) h1
 exact ⟨ur a d h2,by exact ru 0x3ca18018100003ca0812 h3.2 b⟩
theorem uv {l:aY} {n:Nat} {g z:Int} {rest:List Int} (a1:l "self" = some (.inst "Room" ri)) (a2:l "size" = some (.int z)) (a3:l "pages" = some (.ref n)) (hn:H[n]? = some (.list ((g::rest).map V.int))) (hz:z∈r.xs) :
  ∃H',A3 (au (ny) (nA) ⟨l,H⟩= .ok (.ret (.inst "Shelf" H.length)) ⟨l,H'⟩) (aI H' ri { r with ss:=ie r.ss ⟨g,H.length,H.length+2,z,List.replicate (r.len.fdiv z).toNat false⟩ }) (bO [r.d] H H'):=by
 have hp:=Av hR hO hz
 obtain ⟨p1,p2⟩:=rY hR hO hz
 have hmk:=F5 H g z (r.len.fdiv z) ⟨by exact cK 0x98019811 p1,by exact cK 0x3e8a0800003ca0811 p2⟩
 obtain ⟨k,hk⟩:∃k,(r.len.fdiv z).toNat=k:=⟨_,rfl⟩
 rw [hk] at hmk ⊢
 have hdl:=(List.getElem?_eq_some_iff.mp hR.racks).1
 have hP:=aI.put hR hO (g:=g) (z:=z) (k:=k) rfl
 obtain ⟨H2,eH2⟩:∃H2,H++[O.flds (ig g z (H.length+2)),O.list [V.bool false],O.list ((List.replicate k false).map V.bool)]=H2:=⟨_,rfl⟩
 rw [eH2] at hP hmk
 have pre2:H<+:H2:=⟨_,eH2⟩
 have hR2:=hR.pre pre2
 obtain ⟨H3,eH3⟩:∃H3,H2.set r.d (.dict (qu g (.inst "Shelf" H.length) (r.ss.map aH.ent)))=H3:=⟨_,rfl⟩
 rw [eH3] at hP
 have hit:∀l,aj (.ref n) (.int 0) ⟨l,H⟩= .ok (.int g) ⟨l,H⟩:=fun l=>xz hn
 have hit2:∀l,aj (.ref n) (.int 0) ⟨l,H2⟩= .ok (.int g) ⟨l,H2⟩:=fun l=>xz (av pre2 hn)
 have hne:r.d≠n:=fun e=>by rw [← e,hR.racks] at hn;cases hn
 have hit3:∀l,aj (.ref n) (.int 0) ⟨l,H3⟩= .ok (.int g) ⟨l,H3⟩:=fun l=>by
  have:H3[n]? = some (.list ((g::rest).map V.int)):=by rw [← eH3,List.getElem?_set_ne hne];exact av pre2 hn
  exact xz this
 have hfew:=hO.few
 have hset:∀l,bu (.ref r.d) (.int g) (.inst "Shelf" H.length) ⟨l,H2⟩= .ok () ⟨l,H3⟩:=fun l=>by
  have:(r.ss.map aH.ent).length<1000000:=by simp;exact id (bz 0xf4240a01000028a0011 hfew)
  unfold bu;dsimp only;rw [hR2.racks];dsimp only;rw [if_pos this,eH3]
 have hm:∀l,aJ "Plan" "per" (.inst "Plan" r.pl) ⟨l,H⟩= .ok () ⟨l,H⟩:=fun l=>dT hR.plan (Dz _ _ _)
 refine ⟨H3,?_,hP,(bO.pre pre2).trans (by rw [← eH3];exact bO.set (by simp))⟩
 refine ah (q':=⟨l,H3⟩) ?_ ?_
 ·exists a1,a2,a3,hit,gj hR,hm,hp,hmk,aZ hR2,hit2,hset
 ·have hf:=kI r.ss ⟨g,H.length,H.length+2,z,List.replicate k false⟩
  exists a1,a3,aZ hP,hit3,cH hP hf
theorem EH {z:Int} (hz:z∈r.xs):match tT r.p r.ss with
  | none=> ∃H',iD [.inst "Room" ri,.int z] H= .exc "NoRoom" H'∧H<+:H'
  | some g=> ∃n H',iD [.inst "Room" ri,.int z] H= .ok (.inst "Shelf" n) H'∧H.length≤n∧n+2<H'.length∧(0≤g∧g<r.p) ∧
    aI H' ri { r with ss:=ie r.ss ⟨g,n,n+2,z,List.replicate (r.len.fdiv z).toNat false⟩ }∧bO [r.d] H H':=by
 obtain ⟨l0,e0,a1,a2⟩:∃l0,aT ["self", "size"] [.inst "Room" ri,.int z]=l0∧l0 "self" = some (.inst "Room" ri)∧l0 "size" = some (.int z):=⟨_,rfl,rfl,rfl⟩
 obtain ⟨_,hpl,rfl⟩:=AH hR hO
 refine bi (H++[O.list ((jl r.p r.ss).map V.int)]) fun H1 eH1=> ?_
 rw [eH1] at hpl
 have pre1:H<+:H1:=⟨_,eH1⟩
 have x1:H1[H.length]? = some (.list ((jl r.p r.ss).map V.int)):=by rw [← eH1];exact aG _ _
 have hR1:=hR.pre pre1
 have hm:∀ {f:String} {Hx:Hp} (hRx:aI Hx ri r) (h:f ≠ "plan" ∧ f ≠ "racks" ∧ f ≠ "cells") (l:aY),aJ "Room" f (.inst "Room" ri) ⟨l,Hx⟩= .ok () ⟨l,Hx⟩:=fun hRx h l=>a9 hRx h l
 have s1:nv ⟨l0,H⟩= .ok .next ⟨upd l0 "pages" (.ref H.length),H1⟩:=by
  exists a1,a9 hR (f := "pile") ⟨by decide,by decide,by decide⟩,hpl
 refine bi (upd l0 "pages" (.ref H.length)) fun l1 el1=> ?_
 rw [el1] at s1
 have b1:l1 "self" = some (.inst "Room" ri):=af el1 ∅ a1
 have b2:l1 "size" = some (.int z):=af el1 ∅ a2
 have b3:l1 "pages" = some (.ref H.length):=aq el1
 have nw:∀(l:aY) (Hx:Hp),dz [] ⟨l,Hx⟩= .ok (.ref Hx.length) ⟨l,Hx++[.list []]⟩:=fun l Hx=>g_nl0 rfl
 have cmp:∀(l:aY) (Hx:Hp) (n:Nat) (ks:List Int),Hx[n]? = some (.list (ks.map V.int))→eqV (.ref n) (.ref Hx.length) ⟨l,Hx++[.list []]⟩= .ok (decide (ks=[])) ⟨l,Hx++[.list []]⟩:=fun l Hx n ks h =>
  iT (q:=⟨l,Hx++[.list []]⟩) (ys:=[]) (av ⟨_,rfl⟩ h) (aG _ _)
 refine bi (H1++[O.list []]) fun H2 eH2=> ?_
 have pre2:H1<+:H2:=⟨_,eH2⟩
 have hR2:=hR1.pre pre2
 have c2:=cmp l1 H1 H.length _ x1
 have n2:=nw l1 H1
 rw [eH2] at c2 n2
 unfold tT
 cases hpile:jl r.p r.ss with
 | cons g rest =>
  rw [hpile] at x1 c2
  have s2:js ⟨l1,H1⟩= .ok .next ⟨l1,H2⟩:=by
   exists b3,n2,c2
  refine bi (H2++[O.list []]) fun H3 eH3=> ?_
  have pre3:H2<+:H3:=⟨_,eH3⟩
  have c3:=cmp l1 H2 H.length _ (av pre2 x1)
  have n3:=nw l1 H2
  rw [eH3] at c3 n3
  have s3:gk ⟨l1,H2⟩= .ok .next ⟨l1,H3⟩:=by
   exists b3,n3,c3
  have hR3:=hR2.pre pre3
  obtain ⟨H4,s4,k1,k2⟩:=uv hR3 hO b1 b2 b3 (av (pre2.trans pre3) x1) hz
  have p03:=(pre1.trans pre2).trans pre3
  refine ⟨H3.length,H4,aS (m:=iL) (q:=⟨l1,H4⟩) rfl (by rw [e0];exact ah s1 (ah s2 (ah s3 s4))),p03.length_le,?_,(Dw (by rw [hpile];exact .head _)).1,k1,(bO.pre p03).trans k2⟩
  have:=k1.shelf _ (aB (kI r.ss ⟨g,H3.length,H3.length+2,z,List.replicate (r.len.fdiv z).toNat false⟩)).1
  exact (List.getElem?_eq_some_iff.mp this.ls).1
 | nil =>
  rw [hpile] at x1 c2
  obtain ⟨n,H3,he,pre3,x3⟩:=ua hR2 hO
  have hR3:=hR2.pre pre3
  have s2:js ⟨l1,H1⟩= .ok .next ⟨upd l1 "pages" (.ref n),H3⟩:=by
   exists b3,n2,c2,b1,a9 hR2 (f := "empty_pages") ⟨by decide,by decide,by decide⟩,he
  refine bi (upd l1 "pages" (.ref n)) fun l2 el2=> ?_
  rw [el2] at s2
  have d1:l2 "self" = some (.inst "Room" ri):=af el2 ∅ b1
  have d2:l2 "size" = some (.int z):=af el2 ∅ b2
  have d3:l2 "pages" = some (.ref n):=aq el2
  refine bi (H3++[O.list []]) fun H4 eH4=> ?_
  have pre4:H3<+:H4:=⟨_,eH4⟩
  have c3:=cmp l2 H3 n _ x3
  have n3:=nw l2 H3
  rw [eH4] at c3 n3
  have p04:=((pre1.trans pre2).trans pre3).trans pre4
  cases hem:mP r.ss with
  | nil =>
   rw [hem] at c3
   have s3x:gk ⟨l2,H3⟩= .exc "NoRoom" ⟨l2,H4⟩:=by
    exists d3,n3,c3
   exact ⟨H4,lw (m:=iL) (q:=⟨l2,H4⟩) rfl (by rw [e0];exact ah s1 (ah s2 (lI s3x))),p04⟩
  | cons g rest =>
   rw [hem] at c3 x3
   have s3:gk ⟨l2,H3⟩= .ok .next ⟨l2,H4⟩:=by
    exists d3,n3,c3
   have hR4:=hR3.pre pre4
   obtain ⟨H5,s4,k1,k2⟩:=uv hR4 hO d1 d2 d3 (av pre4 x3) hz
   obtain ⟨s,hs,_⟩:=CM (ss:=r.ss) (g:=g) (by rw [hem];exact .head _)
   obtain ⟨hsm,rfl⟩:=aB hs
   refine ⟨H4.length,H5,aS (m:=iL) (q:=⟨l2,H5⟩) rfl (by rw [e0];exact ah s1 (ah s2 (ah s3 s4))),p04.length_le,?_,hO.pg s hsm,k1,(bO.pre p04).trans k2⟩
   have:=k1.shelf _ (aB (kI r.ss ⟨s.pg,H4.length,H4.length+2,z,List.replicate (r.len.fdiv z).toNat false⟩)).1
   exact (List.getElem?_eq_some_iff.mp this.ls).1
end
abbrev Vw:=Int→Option (Int×List Bool)
noncomputable def look (ss:List aH):Vw:=fun g=>(df ss g).map fun s=>(s.sz,s.bs)
noncomputable def dY (F:Vw) (g:Int) (v:Option (Int×List Bool)):Vw:=fun x=>if x=g then v else F x
theorem dp (F:Vw) (g:Int) (v:Option (Int×List Bool)):dY F g v g=v:=by simp [dY]
theorem fE (F:Vw) {g x:Int} (v:Option (Int×List Bool)) (h:x≠g):dY F g v x=F x:=by simp [dY,h]
noncomputable def dZ (p:Int):List Int:=(List.range p.toNat).map Int.ofNat
noncomputable def bh (p:Int) (F:Vw):List Int:=(dZ p).filter fun g=>(F g).isSome
theorem wA {p g:Int}:g∈dZ p↔0≤g∧g<p:=by
 unfold dZ
 rw [List.mem_map]
 constructor
 ·rintro ⟨k,hk,rfl⟩
  have:=List.mem_range.mp hk
  exact ⟨by simp,by simp;omega⟩
 ·rintro ⟨h1,h2⟩
  exact ⟨g.toNat,List.mem_range.mpr (by exact lA [_,_] [_,_] 0x1011f18100fa110913 h2 (Int.toNat_of_nonneg h1) (Int.self_le_toNat _)),by simp;omega⟩
theorem qo (p:Int):(dZ p).Pairwise (· < ·):=List.pairwise_map.mpr (List.pairwise_lt_range.imp fun h=>by simpa using h)
theorem zd {l:List Int} (h:l.Pairwise (· < ·)):l.Nodup:=h.imp fun h e=>by exact ru 0x909610b110912 h e
theorem gC {p:Int} {F:Vw} {g:Int}:g∈bh p F↔(0≤g∧g<p)∧(F g).isSome=true:=by
 unfold bh;rw [List.mem_filter,wA]
theorem aF {ss:List aH} {g:Int} {v:Int×List Bool} (h:look ss g=some v):∃s,A3 (df ss g=some s) (s.sz=v.1) (s.bs=v.2):=by
 unfold look at h
 cases hf:df ss g with
 | none=>rw [hf] at h;cases h
 | some s=>rw [hf] at h;cases h;exact ⟨s,rfl,rfl,rfl⟩
theorem AZ {p:Int} {ss:List aH} (hn:(ss.map (·.pg)).Nodup) (hp:∀s∈ss,0≤s.pg∧s.pg<p):dH (ss.map (·.pg))=bh p (look ss):=by
 have hs:(bh p (look ss)).Pairwise (· < ·):=(qo p).filter _
 refine (va ?_ (hs.imp fun h=>by exact ru 0x10810911 h)).symm
 refine (List.perm_ext_iff_of_nodup (zd hs) hn).mpr fun g=> ?_
 rw [gC]
 constructor
 ·rintro ⟨_,h⟩
  cases hf:look ss g with
  | none=>rw [hf] at h;cases h
  | some v =>
   obtain ⟨s,hs,_⟩:=aF hf
   obtain ⟨h1,h2⟩:=aB hs
   exact List.mem_map.mpr ⟨s,h1,h2⟩
 ·intro h
  obtain ⟨s,hs,rfl⟩:=List.mem_map.mp h
  exact ⟨hp s hs,by unfold look;rw [dU hn hs];rfl⟩
noncomputable def cU (F:Vw) (z g:Int):Bool:=match F g with | some v=>decide (v.1=z) | none=>false
noncomputable def kz (F:Vw) (g:Int):Bool:=match F g with | some v=>decide (v.2.count true=0) | none=>false
theorem El (ss:List aH) (z g:Int):(match df ss g with | some s=>decide (s.sz=z) | none=>false)=cU (look ss) z g:=by
 unfold cU look;cases df ss g<;>rfl
theorem Ek (ss:List aH) (g:Int):(match df ss g with | some s=>decide (s.bs.count true=0) | none=>false)=kz (look ss) g:=by
 unfold kz look;cases df ss g<;>rfl
noncomputable def cc (p:Int) (F:Vw) (z:Int):List Int:=(bh p F).filter (cU F z)
noncomputable def gA (p:Int) (F:Vw):List Int:=(bh p F).filter (kz F)
noncomputable def qp (p:Int) (F:Vw):List Int:=(dZ p).filter fun g=>(F g).isNone
theorem xQ (p:Int) (ss:List aH):jl p ss=qp p (look ss):=by
 unfold jl qp dZ
 refine List.filter_congr fun g _=> ?_
 unfold look;cases df ss g<;>rfl
noncomputable def zZ (p:Int) (F:Vw):Option Int:=match qp p F with
 | g::_=>some g
 | []=>(gA p F).head?
theorem pJ (f:aH→aH) (hf:∀s,(f s).pg=s.pg):∀(ss:List aH) (g:Int),df (ss.map f) g=(df ss g).map f
 | [],_=>rfl
 | a::ss,g=>by
  unfold df
  rw [List.map_cons]
  by_cases e:a.pg=g
  ·rw [List.find?_cons_of_pos (by simpa [hf] using e),List.find?_cons_of_pos (by simpa using e)];rfl
  ·rw [List.find?_cons_of_neg (p:=fun s:aH=>s.pg==g) (by simpa [hf] using e),List.find?_cons_of_neg (p:=fun s:aH=>s.pg==g) (by simpa using e)];exact pJ f hf ss g
theorem gD {ss:List aH} {g:Int} {s:aH} (h:df ss g=some s) (bs:List Bool):look (setBs ss g bs)=dY (look ss) g (some (s.sz,bs)):=by
 funext x
 have e:=pJ (fun s=>if s.pg=g then { s with bs:=bs } else s) (fun s=>by split<;>rfl) ss x
 unfold look setBs
 rw [e]
 by_cases hx:x=g
 ·subst hx
  rw [h,dp]
  have:=(aB h).2
  simp [this]
 ·rw [fE _ _ hx]
  cases hf:df ss x with
  | none=>rfl
  | some a =>
   have:=(aB hf).2
   simp [this,hx]
theorem AQ (g:Int):∀(ss:List aH) (x:Int),df (cW ss g) x=if x=g then none else df ss x
 | [],x=>by simp [cW,df]
 | a::ss,x=>by
  have ih:=AQ g ss x
  unfold cW at ih ⊢
  by_cases e:a.pg=g
  ·rw [List.filter_cons_of_neg (by simp [e]),ih]
   by_cases hx:x=g
   ·rw [if_pos hx,if_pos hx]
   ·rw [if_neg hx,if_neg hx];unfold df;rw [List.find?_cons_of_neg (p:=fun s:aH=>s.pg==x) (xt e hx)]
  ·rw [List.filter_cons_of_pos (by simp [e])]
   unfold df at ih ⊢
   by_cases e2:a.pg=x
   ·rw [List.find?_cons_of_pos (by simpa using e2),List.find?_cons_of_pos (by simpa using e2),if_neg fun q=>e (e2.trans q)]
   ·rw [List.find?_cons_of_neg (p:=fun s:aH=>s.pg==x) (by simpa using e2),List.find?_cons_of_neg (p:=fun s:aH=>s.pg==x) (by simpa using e2)];exact ih
theorem ge (ss:List aH) (g:Int):look (cW ss g)=dY (look ss) g none:=by
 funext x
 unfold look dY
 rw [AQ]
 split<;>rfl
theorem zY (ss:List aH) (s:aH) {x:Int} (hx:x≠s.pg):df (ie ss s) x=df ss x:=by
 unfold ie
 split
 ·rename_i h0
  clear h0
  induction ss with
  | nil=>rfl
  | cons a ss ih =>
   unfold df at ih ⊢
   rw [List.map_cons]
   by_cases e:a.pg=s.pg
   ·rw [if_pos e,List.find?_cons_of_neg (p:=fun s:aH=>s.pg==x) (xt rfl hx),List.find?_cons_of_neg (p:=fun s:aH=>s.pg==x) (xt e hx),ih]
   ·rw [if_neg e]
    by_cases e2:a.pg=x
    ·rw [List.find?_cons_of_pos (by simpa using e2),List.find?_cons_of_pos (by simpa using e2)]
    ·rw [List.find?_cons_of_neg (p:=fun s:aH=>s.pg==x) (by simpa using e2),List.find?_cons_of_neg (p:=fun s:aH=>s.pg==x) (by simpa using e2),ih]
 ·unfold df
  rw [List.find?_append,List.find?_cons_of_neg (p:=fun s:aH=>s.pg==x) (xt rfl hx)]
  simp
theorem zc (ss:List aH) (s:aH):look (ie ss s)=dY (look ss) s.pg (some (s.sz,s.bs)):=by
 funext x
 by_cases hx:x=s.pg
 ·subst hx;rw [dp];unfold look;rw [kI];rfl
 ·rw [fE _ _ hx];unfold look;rw [zY _ _ hx]
theorem Rm.Ok.keys {r:Rm} (h:r.Ok):dH (r.ss.map (·.pg))=bh r.p (look r.ss):=AZ h.ndp h.pg
theorem Rm.Ok.ofSz {r:Rm} (h:r.Ok) (z:Int):Mine.Lake.ofSz r.ss z=cc r.p (look r.ss) z:=by
 unfold Mine.Lake.ofSz cc;rw [h.keys];exact List.filter_congr fun g _=>El r.ss z g
theorem Rm.Ok.empt {r:Rm} (h:r.Ok):mP r.ss=gA r.p (look r.ss):=by
 unfold mP gA;rw [h.keys];exact List.filter_congr fun g _=>Ek r.ss g
theorem Rm.Ok.fresh {r:Rm} (h:r.Ok):tT r.p r.ss=zZ r.p (look r.ss):=by
 unfold tT zZ;rw [xQ,h.empt];try rfl
noncomputable def eD (F:Vw) (g:Int):Nat:=match F g with | some v=>v.2.count true | none=>0
noncomputable def qq (F:Vw) (n:Nat):Option Int→Bool
 | none=>true
 | some g'=>decide (eD F g'<n)
noncomputable def Dp (F:Vw) (b:Option Int) (g:Int):Bool:=match F g with
 | some v=>(aR v.2).isSome&&qq F (v.2.count true) b
 | none=>false
noncomputable def zT (F:Vw):Option Int→List Int→Option Int
 | b,[]=>b
 | b,g::r=>zT F (if Dp F b g then some g else b) r
theorem D9 (F:Vw) (b:Option Int):zT F b []=b:=rfl
theorem yB (F:Vw) (b:Option Int) (g:Int) (r:List Int):zT F b (g::r)=zT F (if Dp F b g then some g else b) r:=rfl
theorem rG:∀(bs:List Bool) (a:Int),decide (gu a bs=[]) = !(aR bs).isSome
 | [],_=>rfl
 | false::r,a=>rfl
 | true::r,a=>by
  have:=rG r (a+1)
  show decide (gu (a+1) r=[]) = !((aR r).map (· + 1)).isSome
  rw [Option.isSome_map];exact this
theorem xu {F:Vw}:∀ {l:List Int} {b:Option Int} {g:Int},zT F b l=some g→b=some g∨(g∈l∧ ∃v,F g=some v∧(aR v.2).isSome=true)
 | [],b,g,h=> .inl h
 | x::l,b,g,h=>by
  change zT F (if Dp F b x then some x else b) l=some g at h
  rcases xu h with h1 | ⟨h1,h2⟩
  ·split at h1
   ·rename_i hok
    cases h1
    refine .inr ⟨.head _,?_⟩
    unfold Dp at hok
    split at hok
    ·rename_i v hv;exact ⟨v,hv,by simp at hok;simp [hok.1]⟩
    ·cases hok
   ·exact .inl h1
  ·exact .inr ⟨.tail _ h1,h2⟩
section
variable {H:Hp} {ri:Nat} {r:Rm} (hR:aI H ri r) (hO:r.Ok)
noncomputable def wC (ss:List aH):Option Int→V
 | none=> .none
 | some g=>match df ss g with | some s=> .inst "Shelf" s.sh | none=> .none
inductive GU (H:Hp) (ri:Nat) (r:Rm) (z w:Int) (B:Option Int) (rem:List V) (q:S):Prop
 | mk (b:Option Int) (ys:List Int) (f0:rem=ys.map V.int) (f1:(∀g∈ys,∃s,df r.ss g=some s)) (f2:zT (look r.ss) b ys=B) (f3:(∀g,b=some g→ ∃s,df r.ss g=some s)) (f4:q.l "best" = some (wC r.ss b)) (f5:q.l "self" = some (.inst "Room" ri)) (f6:q.l "size" = some (.int z)) (f7:H<+:q.H)
include hR hO
theorem xS {s:aH} (hs:s∈r.ss) (l:aY):(∀l,aJ "Shelf" "free" (.inst "Shelf" s.sh) ⟨l,H⟩= .ok () ⟨l,H⟩)∧aD (eK) [.inst "Shelf" s.sh] ⟨l,H⟩= .ok (.ref H.length) ⟨l,H++[.list ((gu 0 s.bs).map V.int)]⟩:=by
 have hS:=hR.shelf s hs
 exact ⟨fun l=>dT hS.ob rfl,by rw [pY,FY hS (hO.bslen hs)]⟩
theorem u7 {s:aH} (hs:s∈r.ss) (l:aY):(∀l,aJ "Shelf" "out" (.inst "Shelf" s.sh) ⟨l,H⟩= .ok () ⟨l,H⟩)∧aD (bK) [.inst "Shelf" s.sh] ⟨l,H⟩= .ok (.int (s.bs.count true)) ⟨l,H++[.list (List.replicate (s.bs.count true) (V.bool true))]⟩:=by
 have hS:=hR.shelf s hs
 exact ⟨fun l=>dT hS.ob rfl,by rw [pY,Fd hS (hO.bslen hs)]⟩
theorem BD {z w:Int} {B:Option Int} (x:V) (rem:List V) (q:S) (hI:GU H ri r z w B (x::rem) q):∃q',A3 (((an "page" x).b fun _=>j3) q= .ok .next q') (q.H<+:q'.H) (GU H ri r z w B rem q'):=by
 obtain ⟨b,ys,e,h1,h2,h3,h4,h5,h6,h7⟩:=hI
 obtain ⟨l,Hq⟩:=q
 dsimp only at h4 h5 h6 h7
 cases ys with
 | nil=>simp at e
 | cons g ys =>
  obtain ⟨rfl,rfl⟩:x= .int g∧rem=ys.map V.int:=by simpa using e
  obtain ⟨s,hs⟩:=h1 g (.head _)
  have hm:=(aB hs).1
  have hRq:=hR.pre h7
  have hl:look r.ss g=some (s.sz,s.bs):=by unfold look;rw [hs];rfl
  refine bi (Hq++[O.list ((gu 0 s.bs).map V.int)]) fun H2 e2=> ?_
  refine bi (H2++[O.list []]) fun H3 e3=> ?_
  have p2:Hq<+:H2:=⟨_,e2⟩
  have p3:H2<+:H3:=⟨_,e3⟩
  refine bi (upd (upd l "page" (.int g)) "shelf" (.inst "Shelf" s.sh)) fun l1 el1=> ?_
  have a1:l1 "shelf" = some (.inst "Shelf" s.sh):=aq el1
  have a2:l1 "best" = some (wC r.ss b):=gL el1 ∅ ∅ h4
  have a3:l1 "self" = some (.inst "Room" ri):=gL el1 ∅ ∅ h5
  have a4:l1 "size" = some (.int z):=gL el1 ∅ ∅ h6
  have hself:upd l "page" (.int g) "self" = some (.inst "Room" ri):=af rfl ∅ h5
  obtain ⟨m1,c1⟩:=xS hRq hO hm l1
  rw [e2] at c1
  have n1:dz [] ⟨l1,H2⟩= .ok (.ref H2.length) ⟨l1,H3⟩:=by rw [lF,if_pos (by simp),e3]
  have g1:H3[Hq.length]? = some (.list ((gu 0 s.bs).map V.int)):=av p3 (by rw [← e2];simp)
  have q1:eqV (.ref Hq.length) (.ref H2.length) ⟨l1,H3⟩= .ok (!(aR s.bs).isSome) ⟨l1,H3⟩:=by
   rw [iT (q:=⟨l1,H3⟩) (ys:=[]) g1 (by rw [← e3];simp),rG]
  have s1:((an "page" (.int g)).b fun _=>(((ac "self").b fun v13=>aA "racks" v13).b fun v14=>(ac "page").b fun v15=>aj v14 v15).b fun v16=>(an "shelf" v16).b fun _=>Cm.p Fl.next) ⟨l,Hq⟩= .ok .next ⟨l1,Hq⟩:=by
   exists hself,aZ hRq,cH hRq hs,el1
  have key:∀rr m,(m ⟨l1,Hq⟩=rr)→((an "page" (.int g)).b fun _=>au ((((ac "self").b fun v13=>aA "racks" v13).b fun v14=>(ac "page").b fun v15=>aj v14 v15).b fun v16=>(an "shelf" v16).b fun _=>Cm.p Fl.next) m) ⟨l,Hq⟩=rr:=fun rr m hh=>by
   rw [ni,uY] at s1 ⊢
   exact ah s1 hh
  have hbst:zT (look r.ss) b (g::ys)=zT (look r.ss) (if Dp (look r.ss) b g then some g else b) ys:=rfl
  have hok:Dp (look r.ss) b g=((aR s.bs).isSome&&qq (look r.ss) (s.bs.count true) b):=by unfold Dp;rw [hl]
  rw [hbst,hok] at h2
  have td:∀(bb:Bool) (H':Hp),((aR s.bs).isSome&&qq (look r.ss) (s.bs.count true) b)=bb→Hq<+:H' →
    GU H ri r z w B (ys.map V.int) (if bb then ⟨upd l1 "best" (.inst "Shelf" s.sh),H'⟩ else ⟨l1,H'⟩):=fun bb H' hbb hp=>by
   rw [hbb] at h2
   cases bb with
   | true =>
    refine ⟨some g,ys,rfl,fun g' hg'=>h1 g' (.tail _ hg'),h2,fun g' e=>by cases e;exact ⟨s,hs⟩,?_,?_,?_,h7.trans hp⟩
    ·simp [upd,wC,hs]
    ·simpa [upd] using a3
    ·simpa [upd] using a4
   | false=>exact ⟨b,ys,rfl,fun g' hg'=>h1 g' (.tail _ hg'),h2,h3,a2,a3,a4,h7.trans hp⟩
  cases hf:(aR s.bs).isSome with
  | false =>
   rw [hf] at q1
   have:=td false H3 (by rw [hf];rfl) (p2.trans p3)
   refine ⟨⟨l1,H3⟩,key _ _ ?_,p2.trans p3,this⟩
   exists a1,m1,c1,n1,q1
  | true =>
   rw [hf] at q1
   cases b with
   | none =>
    have:=td true H3 (by rw [hf];rfl) (p2.trans p3)
    refine ⟨⟨upd l1 "best" (.inst "Shelf" s.sh),H3⟩,key _ _ ?_,p2.trans p3,this⟩
    simp only [wC] at a2
    exists a1,m1,c1,n1,q1,a2
   | some g' =>
    obtain ⟨s',hs'⟩:=h3 g' rfl
    have hm':=(aB hs').1
    have hRq3:=hRq.pre (p2.trans p3)
    obtain ⟨m2,c2⟩:=u7 hRq3 hO hm l1
    refine bi (H3++[O.list (List.replicate (s.bs.count true) (V.bool true))]) fun H4 e4=> ?_
    rw [e4] at c2
    have p4:H3<+:H4:=⟨_,e4⟩
    obtain ⟨m3,c3⟩:=u7 (hRq3.pre p4) hO hm' l1
    refine bi (H4++[O.list (List.replicate (s'.bs.count true) (V.bool true))]) fun H5 e5=> ?_
    rw [e5] at c3
    have p5:Hq<+:H5:=((p2.trans p3).trans p4).trans ⟨_,e5⟩
    have hc':eD (look r.ss) g'=s'.bs.count true:=by unfold eD look;rw [hs'];rfl
    have a2':l1 "best" = some (.inst "Shelf" s'.sh):=by rw [a2];simp [wC,hs']
    have hdec:decide (((s.bs.count true:Nat):Int)>((s'.bs.count true:Nat):Int))=decide (eD (look r.ss) g'<s.bs.count true):=by rw [hc'];exact decide_eq_decide.mpr xC
    cases hb:decide (eD (look r.ss) g'<s.bs.count true) with
    | true =>
     have:=td true H5 (by rw [hf];simp only [qq,hb];rfl) p5
     refine ⟨⟨upd l1 "best" (.inst "Shelf" s.sh),H5⟩,key _ _ ?_,p5,this⟩
     exists a1,m1,c1,n1,q1,a2',m2,c2,m3,c3,hdec,hb
    | false =>
     have:=td false H5 (by rw [hf];simp only [qq,hb];rfl) p5
     refine ⟨⟨l1,H5⟩,key _ _ ?_,p5,this⟩
     exists a1,m1,c1,n1,q1,a2',m2,c2,m3,c3,hdec,hb
end
noncomputable def Rm.own (ri:Nat) (r:Rm):List Nat:=ri::r.d::r.c::(r.ss.map (·.sh)++r.ss.map (·.t))
structure Rm.Sm (r r':Rm):Prop where
 pl:r'.pl=r.pl
 d:r'.d=r.d
 c:r'.c=r.c
 m:r'.m=r.m
 p:r'.p=r.p
 len:r'.len=r.len
 xs:r'.xs=r.xs
theorem Rm.Sm.rfl (r:Rm):r.Sm r:=⟨by rfl,by rfl,by rfl,by rfl,by rfl,by rfl,by rfl⟩
theorem Rm.Sm.ss (r:Rm) (ss:List aH):r.Sm { r with ss:=ss }:=⟨by rfl,by rfl,by rfl,by rfl,by rfl,by rfl,by rfl⟩
theorem Rm.Sm.cs (r:Rm) (cs:List Int):r.Sm { r with cs:=cs }:=⟨by rfl,by rfl,by rfl,by rfl,by rfl,by rfl,by rfl⟩
theorem Rm.Sm.trans {a b c:Rm} (h:a.Sm b) (k:b.Sm c):a.Sm c:=⟨k.pl.trans h.pl,k.d.trans h.d,k.c.trans h.c,k.m.trans h.m,k.p.trans h.p,k.len.trans h.len,k.xs.trans h.xs⟩
theorem qZ (ss:List aH) (g:Int) (bs:List Bool):(setBs ss g bs).map (·.sh)=ss.map (·.sh):=by
 unfold setBs;rw [List.map_map];refine List.map_congr_left fun s _=> ?_
 show aH.sh (if s.pg=g then { s with bs:=bs } else s)=_
 split<;>rfl
theorem Dr (ri:Nat) (r:Rm):r.c∈r.own ri:=by simp [Rm.own]
theorem Ds (ri:Nat) (r:Rm):r.d∈r.own ri:=by simp [Rm.own]
theorem Dt (ri:Nat) {r:Rm} {s:aH} (h:s∈r.ss):s.t∈r.own ri:=by simp [Rm.own];exact .inr (.inr (.inr (.inr ⟨s,h,rfl⟩)))
theorem Bd {n:Nat} (ri:Nat) (r:Rm) (x:aH) (h1:n≤x.sh) (h2:n≤x.t):∀i∈Rm.own ri { r with ss:=ie r.ss x },i∈r.own ri∨n≤i:=fun i hi=>by
 unfold Rm.own at hi ⊢
 simp at hi
 rcases hi with h | h | h | ⟨s,hs,rfl⟩ | ⟨s,hs,rfl⟩
 ·left;simp [h]
 ·left;simp [h]
 ·left;simp [h]
 ·rcases cM hs with rfl | ⟨hs,_⟩
  ·exact .inr h1
  ·left;simp;exact .inr (.inr (.inr (.inl ⟨s,hs,rfl⟩)))
 ·rcases cM hs with rfl | ⟨hs,_⟩
  ·exact .inr h2
  ·left;simp;exact .inr (.inr (.inr (.inr ⟨s,hs,rfl⟩)))
theorem bO.trans' {F F':List Nat} {H H' H'':Hp} (a:bO F H H') (b:bO F' H' H'') (h:∀i∈F',i∈F∨H.length≤i):bO F H H'' :=
 ⟨Nat.le_trans a.len b.len,fun i hi hn=>(b.same i (Nat.lt_of_lt_of_le hi a.len) fun hm=>(h i hm).elim hn fun h=>by exact b0 0x9096010110112 hi h).trans (a.same i hi hn)⟩
theorem uV {H:Hp} {ri:Nat} {r:Rm} (h:aI H ri r):∀i∈r.own ri,i<H.length:=fun i hi=>by
 have lt:∀ {j:Nat} {o:O},H[j]? = some o→j<H.length:=fun h=>(List.getElem?_eq_some_iff.mp h).1
 unfold Rm.own at hi
 simp at hi
 rcases hi with rfl | rfl | rfl | ⟨s,hs,rfl⟩ | ⟨s,hs,rfl⟩
 ·exact lt h.ob
 ·exact lt h.racks
 ·exact lt h.cells
 ·exact lt (h.shelf s hs).ob
 ·exact lt (h.shelf s hs).ls
noncomputable def Dv (p len:Int) (F:Vw) (z:Int):Option (Int×Vw):=match zT F none (cc p F z) with
 | some g=>some (g,F)
 | none=>(zZ p F).map fun g=>(g,dY F g (some (z,List.replicate (len.fdiv z).toNat false)))
section
variable {H:Hp} {ri:Nat} {r:Rm} (hR:aI H ri r) (hO:r.Ok)
include hR hO
theorem xR {i v:Int} (h0:0≤i) (h1:i<r.cs.length) (l:aY):bu (.ref r.c) (.int i) (.int v) ⟨l,H⟩= .ok () ⟨l,H.set r.c (.list ((r.cs.set i.toNat v).map V.int))⟩:=by
 have h2:=hO.cs
 have h3:r.p*r.len≤40*60:=Int.mul_le_mul hO.p.2 hO.len.2 (by have:=hO.len;exact id (cK 0x98019811 this.1)) ∅
 have h4:i<1000000:=by exact BU 0xf4240a0900003ca28d18110fa10f0913 h1 h2 h3
 unfold bu;dsimp only;rw [hR.cells];dsimp only;rw [if_pos ⟨h0,h4,by rw [List.length_map];exact h1⟩,List.map_set]
theorem Bi {i:Int} (h0:0≤i) (h1:i<r.cs.length):∃v,r.cs[i.toNat]? = some v∧ ∀l,aj (.ref r.c) (.int i) ⟨l,H⟩= .ok (.int v) ⟨l,H⟩:=by
 have h2:=hO.cs
 have h3:r.p*r.len≤40*60:=Int.mul_le_mul hO.p.2 hO.len.2 (by have:=hO.len;exact id (cK 0x98019811 this.1)) ∅
 have h4:i<1000000:=by exact BU 0xf4240a0900003ca28d18110fa10f0913 h1 h2 h3
 have h5:i.toNat<r.cs.length:=by exact rU 0x1101fa10f0912 h1 (Int.toNat_of_nonneg h0)
 exact ⟨r.cs[i.toNat],List.getElem?_eq_getElem h5,fun l=>by unfold aj;dsimp only;rw [hR.cells];dsimp only;rw [if_pos ⟨h0,h4⟩,List.getElem?_map,List.getElem?_eq_getElem h5];rfl⟩
omit hR in
theorem oq {s:aH} (hs:s∈r.ss) {k:Int} (h0:0≤k) (h1:k<s.bs.length) {j:Int} (h2:0≤j) (h3:j<s.sz):A4 (0≤s.pg*r.len+k*s.sz+j) (s.pg*r.len+k*s.sz+j<r.cs.length) (k*s.sz+j<r.len) (0≤k*s.sz):=by
 have a1:=hO.pg s hs
 have a2:=hO.slots s hs
 have a3:=hO.szpos hs
 have a4:=hO.len
 have a5:=(dt (a:=r.len) (b:=s.sz) (by exact cK 0x98019811 a4.1) a3.1).2.2.1
 have b1:0≤s.pg*r.len:=Int.mul_nonneg a1.1 (by exact cK 0x98019811 a4.1)
 have b2:0≤k*s.sz:=Int.mul_nonneg h0 (by exact cK 0x98019811 a3.1)
 have b3:(k+1)*s.sz≤r.len.fdiv s.sz*s.sz:=Int.mul_le_mul_of_nonneg_right (by exact BU 0x1190c810fa10f0912 h1 a2) (by exact cK 0x98019811 a3.1)
 have b4:(s.pg+1)*r.len≤r.p*r.len:=Int.mul_le_mul_of_nonneg_right (by exact ru 0x1190c810911 a1.2) (by exact cK 0x98019811 a4.1)
 rw [Int.add_mul] at b3 b4
 have:=hO.cs
 refine ⟨by exact Gf 0x21cc0982098110981009813 h2 b1 b2,by exact lA [_] [_,_,_,_,_,_,_] 0xf045cc960fb16301d5c812101d4c81328110915 h3 a5 b3 b4 this,by exact lA [] [_,_,_,_,_] 0x304c92101d4c81328110913 h3 a5 b3,b2⟩
inductive HB (H:Hp) (ri:Nat) (r:Rm) (pl z:Int) (rem:List V) (q:S):Prop
 | mk (cs ys:List Int) (f0:rem=ys.map V.int) (f1:(∀y∈ys,0≤y∧y<z)) (f2:cs.length=r.cs.length) (f3:aI q.H ri { r with cs:=cs }) (f4:bO [r.c] H q.H) (f5:q.l "self" = some (.inst "Room" ri)) (f6:q.l "place" = some (.int pl))
omit hR hO in
theorem u0 (n:Int):∃ys:List Int,ba 0 n.toNat=ys.map V.int∧ ∀y∈ys,0≤y∧y<n:=by
 refine ⟨(List.range' 0 n.toNat).map Int.ofNat,kQ _ 0,fun y hy=> ?_⟩
 obtain ⟨k,hk,rfl⟩:=List.mem_map.mp hy
 have:=List.mem_range'.mp hk
 obtain ⟨i,h1,h2⟩:=this
 exact ⟨by simp,by simp;omega⟩
theorem Cj {pl z:Int} (hz:0≤z∧z≤1000) (hin:∀j,0≤j→j<z→0≤pl+j∧pl+j<r.cs.length) {l:aY} (h1:l "self" = some (.inst "Room" ri)) (h2:l "place" = some (.int pl)) (h3:l "size" = some (.int z)) :
  ∃cs q',A5 (ki ⟨l,H⟩= .ok .next q') (cs.length=r.cs.length) (aI q'.H ri { r with cs:=cs }) (bO [r.c] H q'.H) (q'.l "place" = some (.int pl)):=by
 refine lh fun G kG=> ?_
 obtain ⟨ys,e,hy⟩:=u0 z
 obtain ⟨q',hq,cs,_,_,_,i1,i2,i3,i4,i5⟩:=fj (g:=fun _=>True) (bd:=an "step") (body:=oK) (HB H ri r pl z) (fun x rem q hI=>by
  obtain ⟨cs,ys,e,h1,h2,h3,h4,h5,h6⟩:=hI
  obtain ⟨l,Hq⟩:=q
  dsimp only at h3 h4 h5 h6
  cases ys with
  | nil=>simp at e
  | cons y ys =>
   obtain ⟨rfl,rfl⟩:x= .int y∧rem=ys.map V.int:=by simpa using e
   obtain ⟨y1,y2⟩:=h1 y (.head _)
   have hO':=Rm.Ok.setCs hR hO h2
   obtain ⟨k1,k2⟩:=hin y y1 y2
   have hc:=xR h3 hO' (i:=pl+y) (v:=0) k1 (by show _<((cs.length:Nat):Int);exact id (lA [_,_] [_,_] 0xf10c91f10c9110312 h2 k2)) (upd l "step" (.int y))
   have hc2:=qQ h3 (upd l "step" (.int y))
   have a1:upd l "step" (.int y) "self" = some (.inst "Room" ri):=af rfl ∅ h5
   have a2:upd l "step" (.int y) "place" = some (.int pl):=af rfl ∅ h6
   refine ⟨⟨upd l "step" (.int y),Hq.set r.c (.list ((cs.set (pl+y).toNat 0).map V.int))⟩,?_,trivial,cs.set (pl+y).toNat 0,ys,rfl,fun y' hy'=>h1 y' (.tail _ hy'),by rw [List.length_set];exact h2,aI.setCs h3 hO' _,h4.trans (bO.set (by simp)),a1,a2⟩
   exists a1,a2,hc2,hc) _ ⟨l,H⟩ ⟨r.cs,ys,e,hy,rfl,hR,bO.refl _ _,h1,h2⟩
 refine kG ⟨cs,q',?_,i1,i2,i3,i5⟩
 exists h3,eh z _ ⟨by omega,by omega⟩
 exact hq
theorem Bj {s:aH} (hs:s∈r.ss) {k:Nat} (hk:aR s.bs=some k) (l:aY):A4 (∀l,aJ "Shelf" "take" (.inst "Shelf" s.sh) ⟨l,H⟩= .ok () ⟨l,H⟩) (aD (f8) [.inst "Shelf" s.sh] ⟨l,H⟩= .ok (.int k) ⟨l,H.set s.t (.list ((s.bs.set k true).map V.bool))⟩) (aI (H.set s.t (.list ((s.bs.set k true).map V.bool))) ri { r with ss:=setBs r.ss s.pg (s.bs.set k true) }) (Rm.Ok { r with ss:=setBs r.ss s.pg (s.bs.set k true) }):=by
 have hS:=hR.shelf s hs
 exact ⟨fun l=>dT hS.ob rfl,by rw [pY,F8 hS (hO.bslen hs),hk],aI.setBs hR hO hs _,Rm.Ok.setBs hR hO hs (by simp)⟩
theorem xg {g z:Int} {s:aH} (hf:df r.ss g=some s) (hz:s.sz=z) {k:Nat} (hk:aR s.bs=some k) {l:aY} (h1:l "self" = some (.inst "Room" ri)) (h2:l "best" = some (.inst "Shelf" s.sh)) (h3:l "size" = some (.int z)) :
  ∃r' q',A7 (au (kh) (au (ki) (o9)) ⟨l,H⟩= .ok (.ret (.int (g*r.len+k*z))) q') (aI q'.H ri r') r'.Ok (r.Sm r') (look r'.ss=dY (look r.ss) g (some (z,s.bs.set k true))) (bO (r.own ri) H q'.H) (r'.own ri=r.own ri):=by
 refine lh fun G kG=> ?_
 obtain ⟨hs,rfl⟩:=aB hf
 subst hz
 obtain ⟨m1,c1,R1,O1⟩:=Bj hR hO hs hk l
 refine bi (H.set s.t (.list ((s.bs.set k true).map V.bool))) fun H1 e1=> ?_
 have g1:bO (r.own ri) H H1:=by rw [← e1];exact bO.set (Dt ri hs)
 rw [e1] at c1 R1
 have hk':=(fP hk).1
 have hb:=hO.bslen hs
 have hpg:=hO.pg s hs
 have hp:=hO.p
 have hs1:jE H1 s.sh s.t s.pg s.sz (s.bs.set k true):=R1.shelf { s with bs:=s.bs.set k true } (List.mem_map.mpr ⟨s,hs,by simp⟩)
 have vb:=t9 R1 (s:={ s with bs:=s.bs.set k true }) hs1 k ⟨hpg.1,by show s.pg<1000;exact id (ru 0x3e8a09000028a18110912 hpg.2 hp.2)⟩ ⟨by exact bz 0xf0980,by exact b0 0x3e8a0f90003e8a10110112 hk' hb⟩
 dsimp only at vb
 have s5:kh ⟨l,H⟩= .ok .next ⟨upd l "place" (.int (s.pg*r.len+k*s.sz)),H1⟩:=by
  exists h1,h2,a9 hR (f := "begin") ⟨by decide,by decide,by decide⟩,m1,c1,vb
 have hsz:=hO.szpos hs
 have hlen:=hO.len
 obtain ⟨cs,q',i0,i1,i2,i3,i4⟩:=Cj R1 O1 (pl:=s.pg*r.len+k*s.sz) (z:=s.sz) ⟨by exact cK 0x98019811 hsz.1,by exact ru 0x3e8a0800003ca18110812 hsz.2 hlen.2⟩ (fun j j1 j2=>by
   obtain ⟨u1,u2,_⟩:=oq hO hs (k:=k) (by exact bz 0xf0980) (by exact b0 0x1f0f910111 hk') j1 j2
   exact ⟨u1,u2⟩) (l:=upd l "place" (.int (s.pg*r.len+k*s.sz))) (af rfl ∅ h1) (by simp [upd]) (af rfl ∅ h3)
 refine kG ⟨_,q',ah s5 (ah i0 ?_),i2,Rm.Ok.setCs R1 O1 i1,(Rm.Sm.ss r _).trans (Rm.Sm.cs _ cs),?_,g1.trans (i3.mono fun i hi _=> ?_),?_⟩
 ·obtain ⟨l',H'⟩:=q'
  dsimp only at i4
  exists i4
 ·show look (setBs r.ss s.pg (s.bs.set k true))=_
  exact gD hf _
 ·rw [List.mem_singleton.mp hi];exact Dr ri r
 ·show Rm.own ri { r with ss:=setBs r.ss s.pg (s.bs.set k true) }=_
  unfold Rm.own
  dsimp only
  rw [qZ,jR]
omit hR hO in
theorem lu {n:Nat} (h:0<n):aR (List.replicate n false)=some 0:=by
 cases n with
 | zero=>exact id ((lA [] [] 0x90960909111 h).elim)
 | succ n=>rfl
theorem Ga {w:Int} (hw:1≤w):match r.xs.find? (fun x=>decide (x≥w)) with
  | none=>d8 [.inst "Room" ri,.int w] H= .exc "TooLarge" H
  | some z=>match Dv r.p r.len (look r.ss) z with
   | none=> ∃H',d8 [.inst "Room" ri,.int w] H= .exc "NoRoom" H'∧H<+:H'
   | some gF=> ∃bs k r' H',gF.2 gF.1=some (z,bs)∧aR bs=some k∧d8 [.inst "Room" ri,.int w] H= .ok (.int (gF.1*r.len+(k:Nat)*z)) H'∧aI H' ri r'∧r'.Ok∧r.Sm r' ∧
     look r'.ss=dY gF.2 gF.1 (some (z,bs.set k true))∧bO (r.own ri) H H'∧(∀i∈r'.own ri,i∈r.own ri∨H.length≤i):=by
 obtain ⟨l0,e0,a1,a2⟩:∃l0,aT ["self", "places"] [.inst "Room" ri,.int w]=l0∧l0 "self" = some (.inst "Room" ri)∧l0 "places" = some (.int w):=⟨_,rfl,rfl,rfl⟩
 have hsf:=vI H r.pl r.p r.len r.xs w hR.isPlan
 rw [if_neg (by exact cK 0x190d019811 hw)] at hsf
 have hmp:∀l,aJ "Plan" "size_for" (.inst "Plan" r.pl) ⟨l,H⟩= .ok () ⟨l,H⟩:=fun l=>dT hR.plan (FP _ _ _)
 cases hz:r.xs.find? (fun x=>decide (x≥w)) with
 | none =>
  rw [hz] at hsf
  refine lw (m:=gT) (q:=⟨l0,H⟩) rfl ?_
  rw [e0]
  refine lI (bx ?_)
  exact bq (bq (g_get a1) (gj hR _)) (bq (hmp _) (bq (bq (g_get a2) rfl) (tU hsf)))
 | some z =>
  rw [hz] at hsf
  have hzx:z∈r.xs:=List.mem_of_find?_eq_some hz
  dsimp only
  refine lh fun G kG=> ?_
  have s1:o6 ⟨l0,H⟩= .ok .next ⟨upd l0 "size" (.int z),H⟩:=by exists a1,a2,gj hR,hmp,hsf
  have s2:o7 ⟨upd l0 "size" (.int z),H⟩= .ok .next ⟨upd (upd l0 "size" (.int z)) "best" .none,H⟩:=rfl
  refine bi (upd (upd l0 "size" (.int z)) "best" .none) fun l2 el2=> ?_
  rw [el2] at s2
  have b1:l2 "self" = some (.inst "Room" ri):=gL el2 ∅ ∅ a1
  have b2:l2 "size" = some (.int z):=tZ el2 ∅
  have b3:l2 "best" = some .none:=aq el2
  obtain ⟨n,H1,hof,p1,x1⟩:=xe hR hO z
  have hR1:=hR.pre p1
  rw [hO.ofSz] at x1
  obtain ⟨q3,hq3,⟨b,ys,ey,_,i2,i3,i4,i5,i6,i7⟩,i8⟩:=fj (g:=fun H=>ay (.ref n) H=some ((cc r.p (look r.ss) z).map V.int)) (bd:=an "page") (body:=j3) (fun rem q=>GU H1 ri r z w (zT (look r.ss) none (cc r.p (look r.ss) z)) rem q∧H1<+:q.H) (fun x rem q hI=>by
   obtain ⟨q',k1,k2,k3⟩:=BD hR1 hO x rem q hI.1
   exact ⟨q',k1,bB (av (hI.2.trans k2) x1),k3,hI.2.trans k2⟩) _ ⟨l2,H1⟩ ⟨⟨none,cc r.p (look r.ss) z,rfl,fun g hg=>by
    obtain ⟨h1,_⟩:=List.mem_filter.mp hg
    have:=(gC.mp h1).2
    cases hf:look r.ss g with
    | none=>rw [hf] at this;cases this
    | some v=>obtain ⟨s,hs,_⟩:=aF hf;exact ⟨s,hs⟩,rfl,fun g e=>(by cases e),b3,b1,b2,List.prefix_refl _⟩,List.prefix_refl _⟩
  cases ys with
  | cons _ _=>cases ey
  | nil =>
  change b=_ at i2
  obtain ⟨l3,H3⟩:=q3
  dsimp only at i4 i5 i6 i7 i8
  have s3:o8 ⟨l2,H⟩= .ok .next ⟨l3,H3⟩:=by
   exists b1,b2,a9 hR (f := "of_size") ⟨by decide,by decide,by decide⟩,hof,bw x1
   exact hq3
  have p3:H<+:H3:=p1.trans i7
  have hR3:=hR.pre p3
  unfold Dv at kG
  rw [← i2] at kG
  cases b with
  | some g =>
   obtain ⟨s,hs⟩:=i3 g rfl
   have i4':l3 "best" = some (.inst "Shelf" s.sh):=by rw [i4];simp [wC,hs]
   have hb:=i2.symm
   rcases xu hb with h | ⟨hgm,v,hv,hfv⟩
   ·cases h
   have hlk:look r.ss g=some (s.sz,s.bs):=by unfold look;rw [hs];rfl
   rw [hlk] at hv
   cases hv
   have hsz:s.sz=z:=by
    have:=(List.mem_filter.mp hgm).2
    unfold cU at this
    rw [hlk] at this
    simpa using this
   obtain ⟨k,hk⟩:=Option.isSome_iff_exists.mp hfv
   have s4:kg ⟨l3,H3⟩= .ok .next ⟨l3,H3⟩:=by
    exists i4'
   obtain ⟨r',q',t1,t2,t3,t4,t5,t6,t7⟩:=xg hR3 hO hs hsz hk i5 i4' i6
   refine kG ⟨s.bs,k,r',q'.H,by show look r.ss g=_;rw [hlk,hsz],hk,aS (m:=gT) rfl (by rw [e0];exact ah s1 (ah s2 (ah s3 (ah s4 t1)))),t2,t3,t4,t5,(bO.pre p3).trans t6,fun i hi=> .inl (t7▸hi)⟩
  | none =>
   have i4':l3 "best" = some .none:=i4
   have hfr:=EH hR3 hO hzx
   rw [hO.fresh] at hfr
   cases hp:zZ r.p (look r.ss) with
   | none =>
    rw [hp] at hfr kG
    obtain ⟨H4,h4,p4⟩:=hfr
    refine kG ⟨H4,lw (m:=gT) (q:=⟨l3,H4⟩) rfl ?_,p3.trans p4⟩
    rw [e0]
    refine ah s1 (ah s2 (ah s3 (lI ?_)))
    exact bq (bq (g_get i4') (bq rfl rfl)) (it_t rfl (bx (bq (g_get i5) (bq (a9 hR3 (f := "fresh") ⟨by decide,by decide,by decide⟩ _) (bq (bq (g_get i6) rfl) (tU h4))))))
   | some g =>
    rw [hp] at hfr kG
    obtain ⟨m,H4,h4,n1,n2,n3,n4,n5⟩:=hfr
    obtain ⟨q1,q2⟩:=rY hR hO hzx
    have O4:=Rm.Ok.put hR3 hO (s:=⟨g,m,m+2,z,List.replicate (r.len.fdiv z).toNat false⟩) n3 hzx (by simp;omega) (by show H3.length≤m+2;exact id (b0 0x291c0010011 n1))
    have s4:kg ⟨l3,H3⟩= .ok .next ⟨upd l3 "best" (.inst "Shelf" m),H4⟩:=by
     exists i4',i5,i6,a9 hR3 (f := "fresh") ⟨by decide,by decide,by decide⟩,h4
    obtain ⟨r',q',t1,t2,t3,t4,t5,t6,t7⟩:=xg n4 O4 (g:=g) (kI r.ss ⟨g,m,m+2,z,List.replicate (r.len.fdiv z).toNat false⟩) rfl (lu (by exact kb 0x910f081019812 q1 (Int.self_le_toNat _))) (l:=upd l3 "best" (.inst "Shelf" m)) (af rfl ∅ i5) (by simp [upd]) (af rfl ∅ i6)
    refine kG ⟨List.replicate (r.len.fdiv z).toNat false,0,r',q'.H,dp _ _ _,lu (by exact kb 0x910f081019812 q1 (Int.self_le_toNat _)),aS (m:=gT) rfl (by rw [e0];exact ah s1 (ah s2 (ah s3 (ah s4 t1)))),t2,t3,(Rm.Sm.ss r _).trans t4,?_,?_,fun i hi=> ?_⟩
    ·rw [t5];dsimp only;rw [zc]
    ·exact ((bO.pre p3).trans (n5.mono fun i hi _=>by rw [List.mem_singleton.mp hi];exact Ds ri r)).trans' t6 (Bd ri r _ (Nat.le_trans p3.length_le n1) (Nat.le_trans p3.length_le (by show H3.length≤m+2;exact id (b0 0x291c0010011 n1))))
    ·rw [t7] at hi
     exact Bd ri r _ (Nat.le_trans p3.length_le n1) (Nat.le_trans p3.length_le (by show H3.length≤m+2;exact id (b0 0x291c0010011 n1))) i hi
end
theorem G9 {q b r:Int} (h0:0≤r) (h1:r<b):(q*b+r).fdiv b=q∧(q*b+r).fmod b=r:=by
 have hb:b≠0:=by exact fun x9=>ru 0x9096091a11091009813 h0 h1 x9
 rw [Int.fdiv_eq_ediv_of_nonneg _ (by exact ru 0x10981091009812 h0 h1),Int.fmod_eq_emod_of_nonneg _ (by exact ru 0x10981091009812 h0 h1),Int.add_comm,Int.add_mul_ediv_right _ _ hb,Int.ediv_eq_zero_of_lt h0 h1,Int.add_mul_emod_self_right,Int.emod_eq_of_lt h0 h1]
 simp
theorem Gs {q b:Int} (h1:0<b):(q*b).fdiv b=q∧(q*b).fmod b=0:=by
 have:=G9 (q:=q) (b:=b) (r:=0) ∅ h1
 simpa using this
theorem uw {bs:List Bool} {k:Nat} (h:bs[k]? = some true):oS bs k=true:=by
 have:=(List.getElem?_eq_some_iff.mp h).1
 unfold oS
 rw [if_pos ⟨by exact bz 0xf0980,by exact b0 0x1f0f910111 this⟩]
 simp [h]
noncomputable def iM (F:Vw) (l:List Int):Vw:=fun x=>if x∈l then none else F x
noncomputable def Ec (p:Int) (F:Vw) (g z:Int) (bs:List Bool):Vw :=
 if bs.count true=0∧1<((gA p (dY F g (some (z,bs)))).filter (cU (dY F g (some (z,bs))) z)).length then dY (dY F g (some (z,bs))) g none else dY F g (some (z,bs))
theorem Bc (ri:Nat) (r:Rm) (g:Int):∀i∈Rm.own ri { r with ss:=cW r.ss g },i∈r.own ri:=fun i hi=>by
 unfold Rm.own at hi ⊢
 have sub:∀s∈cW r.ss g,s∈r.ss:=fun s hs=>(List.mem_filter.mp hs).1
 simp at hi ⊢
 rcases hi with h | h | h | ⟨s,hs,rfl⟩ | ⟨s,hs,rfl⟩
 ·exact .inl h
 ·exact .inr (.inl h)
 ·exact .inr (.inr (.inl h))
 ·exact .inr (.inr (.inr (.inl ⟨s,sub s hs,rfl⟩)))
 ·exact .inr (.inr (.inr (.inr ⟨s,sub s hs,rfl⟩)))
section
variable {H:Hp} {ri:Nat} {r:Rm} (hR:aI H ri r) (hO:r.Ok)
include hR hO
theorem Bt {g z:Int} {s:aH} (hf:df r.ss g=some s) (hz:s.sz=z) {k:Nat} (hk:s.bs[k]? = some true):iC [.inst "Room" ri,.int (g*r.len+k*z)] H= .ok (.tup [.inst "Shelf" s.sh,.int k]) H:=by
 obtain ⟨hs,e⟩:=aB hf
 subst hz e
 have hl:=(List.getElem?_eq_some_iff.mp hk).1
 have hsz:=hO.szpos hs
 have hlen:=hO.len
 obtain ⟨u1,u2,u3,u4⟩:=oq hO hs (k:=k) (by exact bz 0xf0980) (by exact b0 0x1f0f910111 hl) (j:=0) ∅ (by exact cK 0x99019811 hsz.1)
 obtain ⟨d1,d2⟩:=G9 (q:=s.pg) (b:=r.len) (r:=k*s.sz) (by exact u4) (by exact ru 0x1091090c911 u3)
 obtain ⟨d3,d4⟩:=Gs (q:=k) (b:=s.sz) (by exact cK 0x99019811 hsz.1)
 have hS:=hR.shelf s hs
 have n1:r.len≠0:=by exact fun x9=>cK 0x9096090a1019812 hlen.1 x9
 have n2:s.sz≠0:=by exact fun x9=>cK 0x9096090a1019812 hsz.1 x9
 have hh:=Fb hS (hO.bslen hs) k
 rw [uw hk] at hh
 obtain ⟨l0,e0,a1,a2⟩:∃l0,aT ["self", "place"] [.inst "Room" ri,.int (s.pg*r.len+k*s.sz)]=l0∧l0 "self" = some (.inst "Room" ri)∧l0 "place" = some (.int (s.pg*r.len+k*s.sz)):=⟨_,rfl,rfl,rfl⟩
 have hsh:∀l,aJ "Shelf" "has" (.inst "Shelf" s.sh) ⟨l,H⟩= .ok () ⟨l,H⟩:=fun l=>dT hS.ob (DN _ _ _)
 refine aS (m:=qA) (q:=⟨upd (upd (upd l0 "page" (.int s.pg)) "shelf" (.inst "Shelf" s.sh)) "step" (.int (k*s.sz)),H⟩) rfl ?_
 rw [e0]
 have rs:=fun l=>(qR hR hs l).1
 refine ah (q':=⟨upd l0 "page" (.int s.pg),H⟩) (by exists a1,a2,gj hR,Ay hR,gv n1 d1) ?_
 have b1:upd l0 "page" (.int s.pg) "self" = some (.inst "Room" ri):=af rfl ∅ a1
 have hin:=fun l=>DI hR s.pg l
 rw [hf] at hin
 refine ah (q':=⟨upd l0 "page" (.int s.pg),H⟩) (by exists b1,aZ hR,hin) ?_
 refine ah (q':=⟨upd (upd l0 "page" (.int s.pg)) "shelf" (.inst "Shelf" s.sh),H⟩) (by exists b1,aZ hR,cH hR hf) ?_
 have c1:upd (upd l0 "page" (.int s.pg)) "shelf" (.inst "Shelf" s.sh) "self" = some (.inst "Room" ri):=af rfl ∅ a1
 have c2:upd (upd l0 "page" (.int s.pg)) "shelf" (.inst "Shelf" s.sh) "place" = some (.int (s.pg*r.len+k*s.sz)):=af rfl ∅ a2
 refine ah (q':=⟨upd (upd (upd l0 "page" (.int s.pg)) "shelf" (.inst "Shelf" s.sh)) "step" (.int (k*s.sz)),H⟩) (by exists c1,c2,gj hR,Ay hR,eW n1 d2) ?_
 obtain ⟨l3,el3⟩:∃l3,upd (upd (upd l0 "page" (.int s.pg)) "shelf" (.inst "Shelf" s.sh)) "step" (.int (k*s.sz))=l3:=⟨_,rfl⟩
 rw [el3]
 have g1:l3 "shelf" = some (.inst "Shelf" s.sh):=tZ el3 ∅
 have g2:l3 "step" = some (.int (k*s.sz)):=aq el3
 refine ah (q':=⟨l3,H⟩) ?_ ?_
 ·exists g1,g2,rs,eW n2 d4,qO 0 0,hsh,gv n2 d3,hh
 ·exists g1,g2,rs,gv n2 d3
theorem Bu {g z:Int} {s:aH} (hf:df r.ss g=some s) (hz:s.sz=z) {k:Nat} (hk:s.bs[k]? = some true) {j:Int} (h0:0≤j) (h1:j<z):jI [.inst "Room" ri,.int (g*r.len+k*z),.int j] H= .ok (.int (g*r.len+k*z+j)) H:=by
 have hv:=Bt hR hO hf hz hk
 have rs:=fun l=>(qR hR (aB hf).1 l).1
 rw [hz] at rs
 obtain ⟨l0,e0,a1,a2,a3⟩:∃l0,aT ["self", "place", "step"] [.inst "Room" ri,.int (g*r.len+k*z),.int j]=l0∧l0 "self" = some (.inst "Room" ri)∧l0 "place" = some (.int (g*r.len+k*z))∧l0 "step" = some (.int j):=⟨_,rfl,rfl,rfl,rfl⟩
 refine bi (upd l0 "shelf" (.inst "Shelf" s.sh)) fun l1 el1=> ?_
 have b1:l1 "shelf" = some (.inst "Shelf" s.sh):=aq el1
 have b2:l1 "place" = some (.int (g*r.len+k*z)):=af el1 ∅ a2
 have b3:l1 "step" = some (.int j):=af el1 ∅ a3
 refine aS (m:=sL) (q:=⟨l1,H⟩) rfl ?_
 rw [e0]
 have it:∀q,aj (.tup [.inst "Shelf" s.sh,.int k]) (.int 0) q= .ok (.inst "Shelf" s.sh) q:=fun q=>rfl
 refine ah (q':=⟨l1,H⟩) (by exists a1,a2,a9 hR (f := "found") ⟨by decide,by decide,by decide⟩,hv,it,el1) ?_
 refine ah (q':=⟨l1,H⟩) ?_ (by exists b2,b3)
 have d0:decide ((0:Int)≤j)=true:=decide_eq_true h0
 have d1:decide (j<z)=true:=decide_eq_true h1
 exists b3,d0,b1,rs,d1
theorem F6 {g z:Int} {s:aH} (hf:df r.ss g=some s) (hz:s.sz=z) {k:Nat} (hk:s.bs[k]? = some true) {j:Int} (h0:0≤j) (h1:j<z) :
  ∃v,jJ [.inst "Room" ri,.int (g*r.len+k*z),.int j] H= .ok (.int v) H∧r.cs[(g*r.len+k*z+j).toNat]? = some v:=by
 have hc:=Bu hR hO hf hz hk h0 h1
 obtain ⟨hs,e⟩:=aB hf
 have hl:=(List.getElem?_eq_some_iff.mp hk).1
 obtain ⟨u1,u2,_⟩:=oq hO hs (k:=k) (by exact bz 0xf0980) (by exact b0 0x1f0f910111 hl) h0 (by rw [hz];exact h1)
 rw [e,hz] at u1 u2
 obtain ⟨v,v1,v2⟩:=Bi hR hO u1 u2
 refine ⟨v,?_,v1⟩
 obtain ⟨l0,e0,a1,a2,a3⟩:∃l0,aT ["self", "place", "step"] [.inst "Room" ri,.int (g*r.len+k*z),.int j]=l0∧l0 "self" = some (.inst "Room" ri)∧l0 "place" = some (.int (g*r.len+k*z))∧l0 "step" = some (.int j):=⟨_,rfl,rfl,rfl,rfl⟩
 refine aS (m:=sP) (q:=⟨l0,H⟩) rfl ?_
 rw [e0]
 exists a1,a2,a3,qQ hR,a9 hR (f := "cell") ⟨by decide,by decide,by decide⟩,hc,v2
theorem EJ {g z:Int} {s:aH} (hf:df r.ss g=some s) (hz:s.sz=z) {k:Nat} (hk:s.bs[k]? = some true) {j:Int} (h0:0≤j) (h1:j<z) (x:Int) :
  ∃H',A5 (iE [.inst "Room" ri,.int (g*r.len+k*z),.int j,.int x] H= .ok .none H') (aI H' ri { r with cs:=r.cs.set (g*r.len+k*z+j).toNat x }) (Rm.Ok { r with cs:=r.cs.set (g*r.len+k*z+j).toNat x }) (bO (r.own ri) H H') ((r.cs.set (g*r.len+k*z+j).toNat x)[(g*r.len+k*z+j).toNat]? = some x):=by
 have hc:=Bu hR hO hf hz hk h0 h1
 obtain ⟨hs,e⟩:=aB hf
 have hl:=(List.getElem?_eq_some_iff.mp hk).1
 obtain ⟨u1,u2,_⟩:=oq hO hs (k:=k) (by exact bz 0xf0980) (by exact b0 0x1f0f910111 hl) h0 (by rw [hz];exact h1)
 rw [e,hz] at u1 u2
 have hst:=xR hR hO (v:=x) u1 u2
 refine ⟨H.set r.c (.list ((r.cs.set (g*r.len+k*z+j).toNat x).map V.int)),?_,aI.setCs hR hO _,Rm.Ok.setCs hR hO (by simp),bO.set (Dr ri r),List.getElem?_set_self (by exact lA [_,_] [_,_,_] 0x11210cc1fa10f210cc912 u2 (Int.toNat_of_nonneg u1))⟩
 obtain ⟨l0,e0,a1,a2,a3,a4⟩:∃l0,aT ["self", "place", "step", "number"] [.inst "Room" ri,.int (g*r.len+k*z),.int j,.int x]=l0∧l0 "self" = some (.inst "Room" ri)∧l0 "place" = some (.int (g*r.len+k*z))∧l0 "step" = some (.int j)∧l0 "number" = some (.int x):=⟨_,rfl,rfl,rfl,rfl,rfl⟩
 refine lx (m:=qC) (q:=⟨l0,_⟩) rfl ?_
 rw [e0]
 exists a1,a2,a3,a4,qQ hR,a9 hR (f := "cell") ⟨by decide,by decide,by decide⟩,hc,hst
theorem DK {g:Int} {s:aH} (hf:df r.ss g=some s) (l:aY):bC (.ref r.d) ⟨l,H⟩= .ok false ⟨l,H⟩∧jF (.ref r.d) (.int g) ⟨l,H⟩= .ok (.inst "Shelf" s.sh) ⟨l,H.set r.d (.dict (ll g (r.ss.map aH.ent)))⟩:=by
 have:=hO.few
 have h1:(r.ss.map aH.ent).length≤1000000:=by simp;exact id (bz 0xf4240a00000028a0011 this)
 exact ⟨by rw [nj,hR.racks],by unfold jF;dsimp only;rw [hR.racks];dsimp only;rw [if_pos h1,jb,hf];rfl⟩
theorem zJ {g z:Int} {s:aH} (hf:df r.ss g=some s) (hz:s.sz=z) {k:Nat} (hk:s.bs[k]? = some true):∃r' H',A7 (di [.inst "Room" ri,.int (g*r.len+k*z)] H= .ok .none H') (aI H' ri r') r'.Ok (r.Sm r') (look r'.ss=Ec r.p (look r.ss) g z (s.bs.set k false)) (bO (r.own ri) H H') (∀i∈r'.own ri,i∈r.own ri):=by
 refine lh fun G kG=> ?_
 have hv:=Bt hR hO hf hz hk
 obtain ⟨hs,e⟩:=aB hf
 subst hz e
 obtain ⟨l0,e0,a1,a2⟩:∃l0,aT ["self", "place"] [.inst "Room" ri,.int (s.pg*r.len+k*s.sz)]=l0∧l0 "self" = some (.inst "Room" ri)∧l0 "place" = some (.int (s.pg*r.len+k*s.sz)):=⟨_,rfl,rfl,rfl⟩
 have hS:=hR.shelf s hs
 have hg:=FZ hS (hO.bslen hs) k
 rw [if_pos (uw hk)] at hg
 have R1:=aI.setBs hR hO hs (s.bs.set k false)
 have O1:=Rm.Ok.setBs hR hO hs (bs:=s.bs.set k false) (by simp)
 have L1:=gD hf (s.bs.set k false)
 refine bi ({ r with ss:=setBs r.ss s.pg (s.bs.set k false) }) fun r1 er1=> ?_
 have ess:r1.ss=setBs r.ss s.pg (s.bs.set k false):=by rw [← er1]
 have hown:r1.own ri=r.own ri:=by rw [← er1];unfold Rm.own;dsimp only;rw [qZ,jR]
 have hsm:r.Sm r1:=by rw [← er1];exact Rm.Sm.ss r _
 rw [er1] at R1 O1
 rw [← ess] at L1
 refine bi (H.set s.t (.list ((s.bs.set k false).map V.bool))) fun H1 e1=> ?_
 have C1:bO (r.own ri) H H1:=by rw [← e1];exact bO.set (Dt ri hs)
 rw [show (H.set s.t (.list ((s.bs.set ((k:Nat):Int).toNat false).map V.bool)))=H1 by rw [Int.toNat_natCast];exact e1] at hg
 rw [e1] at R1
 obtain ⟨s1,hs1,z1,b1⟩:∃s1,df r1.ss s.pg=some s1∧s1.sz=s.sz∧s1.bs=s.bs.set k false:=by
  obtain ⟨s1,h1,h2,h3⟩:=aF (ss:=r1.ss) (g:=s.pg) (v:=(s.sz,s.bs.set k false)) (by rw [L1,dp])
  exact ⟨s1,h1,h2,h3⟩
 have sh1:s1.sh=s.sh:=by
  have:=pJ (fun a=>if a.pg=s.pg then { a with bs:=s.bs.set k false } else a) (fun a=>by split<;>rfl) r.ss s.pg
  rw [ess] at hs1
  unfold setBs at hs1
  rw [this,hf] at hs1
  simp at hs1
  rw [← hs1]
 obtain ⟨hm1,hp1⟩:=aB hs1
 obtain ⟨n,H2,he,p2,x2⟩:=ua R1 O1
 rw [O1.empt,L1] at x2
 have hps:r1.p=r.p:=hsm.p
 refine bi (dY (look r.ss) s.pg (some (s.sz,s.bs.set k false))) fun F1 eF1=> ?_
 rw [hps,eF1] at x2
 rw [eF1] at L1
 have it0:∀q,aj (.tup [.inst "Shelf" s.sh,.int k]) (.int 0) q= .ok (.inst "Shelf" s.sh) q:=fun q=>rfl
 have it1:∀q,aj (.tup [.inst "Shelf" s.sh,.int k]) (.int 1) q= .ok (.int k) q:=fun q=>rfl
 refine bi (upd (upd l0 "both" (.tup [.inst "Shelf" s.sh,.int k])) "shelf" (.inst "Shelf" s.sh)) fun l2 el2=> ?_
 have c1:l2 "self" = some (.inst "Room" ri):=gL el2 ∅ ∅ a1
 have c2:l2 "both" = some (.tup [.inst "Shelf" s.sh,.int k]):=tZ el2 ∅
 have c3:l2 "shelf" = some (.inst "Shelf" s.sh):=aq el2
 have t1:jt ⟨l0,H⟩= .ok .next ⟨upd l0 "both" (.tup [.inst "Shelf" s.sh,.int k]),H⟩:=by
  exists a1,a2,a9 hR (f := "found") ⟨by decide,by decide,by decide⟩,hv
 have t2:ju ⟨upd l0 "both" (.tup [.inst "Shelf" s.sh,.int k]),H⟩= .ok .next ⟨l2,H⟩:=by
  exists it0,el2
 have mg:∀l,aJ "Shelf" "give" (.inst "Shelf" s.sh) ⟨l,H⟩= .ok () ⟨l,H⟩:=fun l=>dT hS.ob rfl
 have t3:jv ⟨l2,H⟩= .ok .next ⟨l2,H1⟩:=by
  exists c2,c3,mg,it1,hg
 have hc:∃H',fJ ⟨l2,H1⟩= .ok (.ref H'.length) ⟨l2,H'++[.list ((gA r.p F1).filterMap fun g=>if cU F1 s.sz g then some (V.int g) else none)]⟩∧H2<+:H':=by
  unfold fJ
  refine bJ (n:=n) (ks:=gA r.p F1) ?_ x2 ?_ (fun g=>if cU F1 s.sz g then some (V.int g) else none) fun g hg Hx hp=> ?_
  ·exists c1,a9 R1 (f := "empty_pages") ⟨by decide,by decide,by decide⟩,he
   exact bw x2
  ·have h1:(gA r.p F1).length≤(dZ r.p).length:=Nat.le_trans (List.length_filter_le _ _) (List.length_filter_le _ _)
   have h2:=hO.p
   unfold dZ at h1;simp at h1;exact id (rU 0xf4240a0001fa11001000028a0813 h2.2 h1 (Int.toNat_of_nonneg (cK 0x98019811 h2.1)))
  ·have hgk:=(gC.mp (List.mem_filter.mp hg).1).2
   obtain ⟨v,hv⟩:=Option.isSome_iff_exists.mp hgk
   obtain ⟨s',hs',z',_⟩:=aF (ss:=r1.ss) (v:=v) (by rw [L1];exact hv)
   have hRx:=R1.pre (p2.trans hp)
   have rs1:=fun l=>(qR hRx (aB hs').1 l).1
   have rs2:=fun l=>(qR hRx hm1 l).1
   rw [sh1,z1] at rs2
   have b1:upd (dX ["shelf", "self"] l2) "page" (.int g) "self" = some (.inst "Room" ri):=cq ∅ ∅ c1
   have b2:upd (dX ["shelf", "self"] l2) "page" (.int g) "shelf" = some (.inst "Shelf" s.sh):=cq ∅ ∅ c3
   refine ⟨Hx,?_,List.prefix_refl _⟩
   have hz':cU F1 s.sz g=decide (s'.sz=s.sz):=by unfold cU;rw [hv,z']
   rw [hz']
   cases hb:decide (s'.sz=s.sz) with
   | true=>exact bD (H2:=Hx) (by exists b1,b2,aZ hRx,cH hRx hs',rs1,rs2,hb) (g_get (gp _ _ _))
   | false=>exact fD (by exists b1,b2,aZ hRx,cH hRx hs',rs1,rs2,hb)
 obtain ⟨H3,hc,p3⟩:=hc
 rw [cG] at hc
 refine bi ((gA r.p F1).filter (cU F1 s.sz)) fun ot eot=> ?_
 rw [eot] at hc
 have t4:jw ⟨l2,H1⟩= .ok .next ⟨upd l2 "others" (.ref H3.length),H3++[.list (ot.map V.int)]⟩:=by exists hc
 refine bi (upd l2 "others" (.ref H3.length)) fun l4 el4=> ?_
 have d1:l4 "self" = some (.inst "Room" ri):=af el4 ∅ c1
 have d2:l4 "shelf" = some (.inst "Shelf" s.sh):=af el4 ∅ c3
 have d3:l4 "others" = some (.ref H3.length):=aq el4
 refine bi (H3++[O.list (ot.map V.int)]) fun H4 e4=> ?_
 rw [el4,e4] at t4
 have p4:H1<+:H4:=(p2.trans p3).trans ⟨_,e4⟩
 have R4:=R1.pre p4
 obtain ⟨mo,co⟩:=u7 R4 O1 hm1 l4
 rw [sh1,b1] at co
 rw [sh1] at mo
 refine bi (H4++[O.list (List.replicate ((s.bs.set k false).count true) (V.bool true))]) fun H5 e5=> ?_
 rw [e5] at co
 have p5:H4<+:H5:=⟨_,e5⟩
 have R5:=R4.pre p5
 have hlo:ot.length≤40:=by
  have h1:ot.length≤(dZ r.p).length:=by rw [← eot];exact Nat.le_trans (List.length_filter_le _ _) (Nat.le_trans (List.length_filter_le _ _) (List.length_filter_le _ _))
  have h2:=hO.p
  unfold dZ at h1;simp at h1;exact id (rU 0x28a0001fa11001000028a0813 h2.2 h1 (Int.toNat_of_nonneg (cK 0x98019811 h2.1)))
 have hln:fg [.ref H3.length] ⟨l4,H5⟩= .ok (.int ot.length) ⟨l4,H5⟩:=by
  have:H5[H3.length]? = some (.list (ot.map V.int)):=av p5 (by rw [← e4];simp)
  rw [bY this (by simp;exact id (bz 0xf4240a01000028a0011 hlo))];simp
 have rp:=fun l=>(qR R5 hm1 l).2
 rw [sh1,hp1] at rp
 obtain ⟨k1,k2⟩:=DK R5 O1 hs1 l4
 have hw:Rm.own ri r1=Rm.own ri r:=hown
 have Cf:bO (r.own ri) H H5:=C1.trans (bO.pre (p4.trans p5))
 have dc:decide ((((s.bs.set k false).count true:Nat):Int)=0)=decide ((s.bs.set k false).count true=0):=decide_eq_decide.mpr Do
 have dl:decide (((ot.length:Nat):Int)>1)=decide (1<ot.length):=decide_eq_decide.mpr (xC (b:=1))
 have main:∀q,jx ⟨l4,H4⟩= .ok .next q→di [.inst "Room" ri,.int (s.pg*r.len+k*s.sz)] H= .ok .none q.H:=fun q hq =>
  lx (m:=kL) (q:=q) rfl (by rw [e0];exact ah t1 (ah t2 (ah t3 (ah t4 hq))))
 unfold Ec at kG
 rw [eF1,eot] at kG
 by_cases h1:(s.bs.set k false).count true=0
 ·by_cases h2:1<ot.length
  ·rw [if_pos ⟨h1,h2⟩] at kG
   refine kG ⟨{ r1 with ss:=cW r1.ss s.pg },_,main ⟨l4,_⟩ ?_,aI.del R5 O1 s.pg,Rm.Ok.del R5 O1 s.pg,hsm.trans (Rm.Sm.ss r1 _),?_,Cf.trans (bO.set (by rw [← hw];exact Ds ri r1)),fun i hi=>hw▸Bc ri r1 s.pg i hi⟩
   ·exists d1,d2,d3,mo,co,dc,decide_eq_true h1,hln,dl,decide_eq_true h2,aZ R5,k1,rp,k2
   ·show look (cW r1.ss s.pg)=_
    rw [ge,L1]
  ·rw [if_neg fun h=>h2 h.2] at kG
   refine kG ⟨r1,H5,main ⟨l4,H5⟩ ?_,R5,O1,hsm,L1,Cf,fun i hi=>hw▸hi⟩
   exists d1,d2,d3,mo,co,dc,decide_eq_true h1,hln,dl,decide_eq_false h2
 ·rw [if_neg fun h=>h1 h.1] at kG
  refine kG ⟨r1,H5,main ⟨l4,H5⟩ ?_,R5,O1,hsm,L1,Cf,fun i hi=>hw▸hi⟩
  exists d1,d2,d3,mo,co,dc,decide_eq_false h1
end
theorem ed (p:Int) (hp:p≤40) (F:Vw):(bh p F).length≤40:=by
 have h1:(bh p F).length≤(dZ p).length:=List.length_filter_le _ _
 unfold dZ at h1;simp at h1;omega
theorem rc (p:Int) (hp:p≤40) (F:Vw) (z:Int):(cc p F z).length≤40:=Nat.le_trans (List.length_filter_le _ _) (ed p hp F)
theorem ul (p:Int) (hp:p≤40) (F:Vw):(gA p F).length≤40:=Nat.le_trans (List.length_filter_le _ _) (ed p hp F)
theorem yz (p:Int) (hp:p≤40) (F:Vw):(qp p F).length≤40:=by
 have h1:(qp p F).length≤(dZ p).length:=List.length_filter_le _ _
 unfold dZ at h1;simp at h1;omega
theorem pQ (p:Int) (F:Vw):(bh p F).Nodup:=zd ((qo p).filter _)
theorem dm {p:Int} {F:Vw} {g:Int} (h:g∈bh p F):∃v,F g=some v:=Option.isSome_iff_exists.mp (gC.mp h).2
theorem qS (F:Vw):iM F []=F:=by funext x;simp [iM]
theorem wW (F:Vw) (g:Int) (l:List Int):iM (dY F g none) l=iM F (g::l):=by
 funext x
 unfold iM
 by_cases h1:x∈l
 ·simp [h1]
 ·by_cases h2:x=g<;>simp [h1,h2,dY]
def Fo (H:Hp) (ri:Nat) (r:Rm) (Fz:Vw) (ks:List Int) (q:S):Prop:= ∃r',aI q.H ri r'∧r'.Ok∧r.Sm r'∧iM (look r'.ss) ks=Fz∧ks.Nodup∧(∀g∈ks,∃v,look r'.ss g=some v)∧bO (r.own ri) H q.H∧(∀i∈r'.own ri,i∈r.own ri)∧r'.cs=r.cs
theorem Fo.pop {H:Hp} {ri:Nat} {r:Rm} {Fz:Vw} {g:Int} {ks:List Int} {l:aY} {Hq:Hp} (h:Fo H ri r Fz (g::ks) ⟨l,Hq⟩):∃v H',A5 (bC (.ref r.d) ⟨l,Hq⟩= .ok false ⟨l,Hq⟩) (jF (.ref r.d) (.int g) ⟨l,Hq⟩= .ok v ⟨l,H'⟩) (∀l',Fo H ri r Fz ks ⟨l',H'⟩) (aA "racks" (.inst "Room" ri) ⟨l,Hq⟩= .ok (.ref r.d) ⟨l,Hq⟩) (bO [r.d] Hq H'):=by
 obtain ⟨r',h1,h2,h3,h4,h5,h6,h7,h8,h9⟩:=h
 dsimp only at h1 h7
 obtain ⟨v,hv⟩:=h6 g (.head _)
 obtain ⟨s,hs,_⟩:=aF hv
 obtain ⟨k1,k2⟩:=DK h1 h2 hs l
 rw [h3.d] at k1 k2
 rw [List.nodup_cons] at h5
 refine ⟨_,_,k1,k2,fun l'=> ?_,by rw [aZ h1,h3.d],bO.set (by simp)⟩
 rw [← h3.d]
 refine ⟨{ r' with ss:=cW r'.ss g },aI.del h1 h2 g,Rm.Ok.del h1 h2 g,h3.trans (Rm.Sm.ss r' _),?_,h5.2,fun x hx=> ?_,h7.trans (bO.set (by rw [h3.d];exact Ds ri r)),fun i hi=>h8 i (Bc ri r' g i hi),h9⟩
 ·rw [ge,wW];exact h4
 ·obtain ⟨w,hw⟩:=h6 x (.tail _ hx)
  refine ⟨w,?_⟩
  have hne:x≠g:=fun e=>h5.1 (e▸hx)
  rw [ge,fE _ _ hne]
  exact hw
noncomputable def qe (F:Vw) (g:Int):Option V:=match F g with | some v=>some (.tup [.int g,.int v.1,.int (v.2.count true)]) | none=>none
noncomputable def jB (len:Int) (F:Vw) (g:Int):List (Int×Int):=match F g with | some v=>(cA 0 v.2).map fun k=>(g*len+k*v.1,v.1) | none=>[]
noncomputable def zF (p len:Int) (F:Vw):List (Int×Int):=(bh p F).flatMap (jB len F)
noncomputable def BJ (F:Vw) (g:Int):Int:=match F g with | some v=>((gu 0 v.2).length:Nat) | none=>0
theorem kY:∀(bs:List Bool) (a:Nat) (k:Int),k∈cA a bs→ ∃j:Nat,k=((a+j:Nat):Int)∧bs[j]? = some true
 | [],_,_,h=>by cases h
 | true::r,a,k,h=>by
  rcases List.mem_cons.mp (show k∈(a:Int)::cA (a+1) r from h) with rfl | h
  ·exact ⟨0,by simp,rfl⟩
  ·obtain ⟨j,h1,h2⟩:=kY r (a+1) k h
   exact ⟨j+1,by rw [h1];congr 1;exact id (Nat.le_antisymm (b0 0x191c0c1190cc00) (b0 0x1190cc191c0c00)),by simpa using h2⟩
 | false::r,a,k,h=>by
  obtain ⟨j,h1,h2⟩:=kY r (a+1) k h
  exact ⟨j+1,by rw [h1];congr 1;exact id (Nat.le_antisymm (b0 0x191c0c1190cc00) (b0 0x1190cc191c0c00)),by simpa using h2⟩
theorem gH:∀(bs:List Bool) (a:Int),(cA a bs).length=bs.count true
 | [],_=>rfl
 | true::r,a=>by rw [List.count_cons_self,← gH r (a+1)];rfl
 | false::r,a=>by rw [List.count_cons_of_ne ∅,← gH r (a+1)];rfl
section
variable {H:Hp} {ri:Nat} {r:Rm} (hR:aI H ri r) (hO:r.Ok)
include hR hO
theorem F9:∃r' H',A7 (mQ [.inst "Room" ri] H= .ok (.int (gA r.p (look r.ss)).length) H') (aI H' ri r') r'.Ok (r.Sm r') (look r'.ss=iM (look r.ss) (gA r.p (look r.ss))) (bO (r.own ri) H H') (∀i∈r'.own ri,i∈r.own ri):=by
 obtain ⟨l0,e0,a1⟩:∃l0,aT ["self"] [.inst "Room" ri]=l0∧l0 "self" = some (.inst "Room" ri):=⟨_,rfl,rfl⟩
 obtain ⟨n,H1,he,p1,x1⟩:=ua hR hO
 rw [hO.empt] at x1
 have R1:=hR.pre p1
 obtain ⟨em,eem⟩:∃em,gA r.p (look r.ss)=em:=⟨_,rfl⟩
 rw [eem] at x1
 have t1:o5 ⟨l0,H⟩= .ok .next ⟨upd l0 "pages" (.ref n),H1⟩:=by
  exists a1,a9 hR (f := "empty_pages") ⟨by decide,by decide,by decide⟩,he
 obtain ⟨l1,el1⟩:∃l1,upd l0 "pages" (.ref n)=l1:=⟨_,rfl⟩
 rw [el1] at t1
 have b1:l1 "self" = some (.inst "Room" ri):=af el1 ∅ a1
 have b2:l1 "pages" = some (.ref n):=aq el1
 have hnd:n≠r.d:=fun e=>by rw [e,R1.racks] at x1;cases x1
 obtain ⟨q',hq,i1,ks,ek,i2,i3,i4⟩:=fj (g:=fun H=>ay (.ref n) H=some (em.map V.int)) (bd:=an "page") (body:=oJ)
  (fun rem q=>q.l "self" = some (.inst "Room" ri)∧ ∃ks:List Int,rem=ks.map V.int∧Fo H1 ri r (iM (look r.ss) em) ks q∧q.l "pages" = some (.ref n)∧q.H[n]? = some (.list (em.map V.int))) (fun x rem q hI=>by
   obtain ⟨h1,ks,e,h2,h3,h4⟩:=hI
   obtain ⟨l,Hq⟩:=q
   dsimp only at h1 h3 h4
   cases ks with
   | nil=>simp at e
   | cons g ks =>
    obtain ⟨rfl,rfl⟩:x= .int g∧rem=ks.map V.int:=by simpa using e
    have h2':Fo H1 ri r (iM (look r.ss) em) (g::ks) ⟨upd l "page" (.int g),Hq⟩:=h2
    obtain ⟨v,H',k1,k2,k3,k4,k5⟩:=h2'.pop
    have c1:upd l "page" (.int g) "self" = some (.inst "Room" ri):=af rfl ∅ h1
    have h4':=k5.get h4 (by simpa using hnd)
    refine ⟨⟨upd l "page" (.int g),H'⟩,?_,bB h4',c1,ks,rfl,k3 _,af rfl ∅ h3,h4'⟩
    exists c1,k4,k1,k2) _ ⟨l1,H1⟩ ⟨b1,em,rfl,⟨r,R1,hO,Rm.Sm.rfl r,rfl,eem▸(pQ _ _).filter _,fun g hg=>dm (List.mem_filter.mp (eem▸hg:g∈gA r.p (look r.ss))).1,bO.refl _ _,fun i hi=>hi,rfl⟩,b2,x1⟩
 cases ks with
 | cons _ _=>simp at ek
 | nil =>
 obtain ⟨r',h1,h2,h3,h4,_,_,h7,h8,_⟩:=i2
 rw [qS] at h4
 have hlen:em.length<1000000:=by
  have:=ul r.p hO.p.2 (look r.ss)
  rw [eem] at this;exact id (bz 0xf4240a01000028a0011 this)
 rw [eem]
 refine ⟨r',q'.H,aS (m:=sQ) (q:=q') rfl ?_,h1,h2,h3,h4,(bO.pre p1).trans h7,h8⟩
 rw [e0]
 refine ah t1 (ah (q':=q') ?_ ?_)
 ·exact bq (bq (g_get b2) (bw x1)) hq
 ·obtain ⟨l',H'⟩:=q'
  dsimp only at i3 i4
  have:=bY (l:=l') i4 (by simpa using hlen)
  rw [List.length_map] at this
  exists i3,this
theorem Ch:∃n H',A4 (jc [.inst "Room" ri] H= .ok (.ref n) H') (H<+:H') (H.length≤n) (H'[n]? = some (.list ((bh r.p (look r.ss)).filterMap (qe (look r.ss))))):=by
 obtain ⟨l0,e0,a1⟩:∃l0,aT ["self"] [.inst "Room" ri]=l0∧l0 "self" = some (.inst "Room" ri):=⟨_,rfl,rfl⟩
 have hs0:=oo hR hO l0
 rw [hO.keys] at hs0
 obtain ⟨ks,eks⟩:∃ks,bh r.p (look r.ss)=ks:=⟨_,rfl⟩
 rw [eks] at hs0 ⊢
 have hkl:=ed r.p hO.p.2 (look r.ss)
 rw [eks] at hkl
 have x1:(H++[O.list (ks.map V.int)])[H.length]? = some (.list (ks.map V.int)):=by simp
 have hc:∃H',gy ⟨l0,H⟩= .ok (.ref H'.length) ⟨l0,H'++[.list (ks.filterMap (qe (look r.ss)))]⟩∧H++[O.list (ks.map V.int)]<+:H':=by
  unfold gy
  refine bJ (n:=H.length) (ks:=ks) ?_ x1 (by exact bz 0xf4240a00000028a0011 hkl) (qe (look r.ss)) fun g hg Hx hp=> ?_
  ·exists a1,aZ hR,hs0
   exact bw x1
  ·obtain ⟨v,hv⟩:=dm (eks▸hg:g∈bh r.p (look r.ss))
   obtain ⟨s,hs,z1,z2⟩:=aF hv
   have hm:=(aB hs).1
   have hRx:=hR.pre ((List.prefix_append _ _).trans hp)
   have b1:upd (dX ["self"] l0) "page" (.int g) "self" = some (.inst "Room" ri):=cq ∅ ∅ a1
   obtain ⟨mo,co⟩:=u7 hRx hO hm (upd (dX ["self"] l0) "page" (.int g))
   have rs:=fun l=>(qR hRx hm l).1
   have hE:qe (look r.ss) g=some (.tup [.int g,.int s.sz,.int (s.bs.count true)]):=by unfold qe;rw [hv,z1,z2]
   rw [hE]
   exact ⟨_,bD (H2:=Hx) rfl (by exists b1,aZ hRx,cH hRx hs,rs,mo,co),List.prefix_append _ _⟩
 obtain ⟨H',hc,hp⟩:=hc
 have hp':H<+:H':=(List.prefix_append _ _).trans hp
 refine ⟨H'.length,H'++[.list (ks.filterMap (qe (look r.ss)))],aS (m:=mT) (q:=⟨l0,_⟩) rfl ?_,hp'.trans (List.prefix_append _ _),hp'.length_le,by simp⟩
 rw [e0]
 exists hc
theorem DR {s:aH} {g:Int} (hf:df r.ss g=some s) {l:aY} (a1:l "self" = some (.inst "Room" ri)) (a2:l "shelf" = some (.inst "Shelf" s.sh)) :
  ∃H',fv ⟨l,H⟩= .ok (.ref H'.length) ⟨l,H'++[.list ((jB r.len (look r.ss) g).map aE)]⟩∧H<+:H':=by
 obtain ⟨hm,e⟩:=aB hf
 subst e
 have hS:=hR.shelf s hm
 have hb:=hO.bslen hm
 have hg:=DV hS hb
 have mg:∀l,aJ "Shelf" "gone" (.inst "Shelf" s.sh) ⟨l,H⟩= .ok () ⟨l,H⟩:=fun l=>dT hS.ob rfl
 have x1:(H++[O.list ((cA 0 s.bs).map V.int)])[H.length]? = some (.list ((cA 0 s.bs).map V.int)):=by simp
 have hc:∃H',fv ⟨l,H⟩= .ok (.ref H'.length) ⟨l,H'++[.list ((cA 0 s.bs).filterMap fun k=>some (aE (s.pg*r.len+k*s.sz,s.sz)))]⟩∧H++[O.list ((cA 0 s.bs).map V.int)]<+:H':=by
  unfold fv
  refine bJ (n:=H.length) (ks:=cA 0 s.bs) ?_ x1 ?_ (fun k=>some (aE (s.pg*r.len+k*s.sz,s.sz))) fun k hk Hx hp=> ?_
  ·exists a2,mg,hg
   exact bw x1
  ·rw [gH]
   have:s.bs.count true≤s.bs.length:=List.count_le_length
   exact id (b0 0xf4240a1001010003e8a0012 hb this)
  ·have hRx:=hR.pre ((List.prefix_append _ _).trans hp)
   obtain ⟨j,rfl,hj⟩:=kY s.bs 0 k hk
   have hjl:=(List.getElem?_eq_some_iff.mp hj).1
   have hpg:=hO.pg s hm
   have hpp:=hO.p
   have vb:=t9 hRx (hRx.shelf s hm) ((0+j:Nat):Int) ⟨hpg.1,by exact ru 0x3e8a09000028a18110912 hpg.2 hpp.2⟩ ⟨by exact bz 0x9cf0980,by exact b0 0x3e8a109cf901110003e8a0012 hb hjl⟩
   have b1:upd (dX ["shelf", "self"] l) "slot" (.int ((0+j:Nat):Int)) "self" = some (.inst "Room" ri):=cq ∅ ∅ a1
   have b2:upd (dX ["shelf", "self"] l) "slot" (.int ((0+j:Nat):Int)) "shelf" = some (.inst "Shelf" s.sh):=cq ∅ ∅ a2
   have rs:=fun l=>(qR hRx hm l).1
   exact ⟨Hx,bD (H2:=Hx) rfl (by exists b1,b2,a9 hRx (f := "begin") ⟨by decide,by decide,by decide⟩,vb,rs),List.prefix_refl _⟩
 obtain ⟨H',hc,hp⟩:=hc
 refine ⟨H',?_,(List.prefix_append _ _).trans hp⟩
 rw [hc]
 have:((cA 0 s.bs).filterMap fun k=>some (aE (s.pg*r.len+k*s.sz,s.sz)))=(jB r.len (look r.ss) s.pg).map aE:=by
  unfold jB look
  rw [hf]
  simp [Function.comp_def]
 rw [this]
theorem DQ (g:Int):(jB r.len (look r.ss) g).length≤1000:=by
 unfold jB
 split
 ·rename_i v hv
  obtain ⟨s,hs,_,hb⟩:=aF hv
  have:=hO.bslen (aB hs).1
  rw [List.length_map,gH,← hb]
  have:s.bs.count true≤s.bs.length:=List.count_le_length
  omega
 ·simp
theorem DX:∃n H',A4 (j6 [.inst "Room" ri] H= .ok (.ref n) H') (H<+:H') (H.length≤n) (H'[n]? = some (.list ((zF r.p r.len (look r.ss)).map aE))):=by
 obtain ⟨l0,e0,a1⟩:∃l0,aT ["self"] [.inst "Room" ri]=l0∧l0 "self" = some (.inst "Room" ri):=⟨_,rfl,rfl⟩
 obtain ⟨l1,el1⟩:∃l1,upd l0 "found" (.ref H.length)=l1:=⟨_,rfl⟩
 have b1:l1 "self" = some (.inst "Room" ri):=af el1 ∅ a1
 have b2:l1 "found" = some (.ref H.length):=aq el1
 obtain ⟨H1,e1⟩:∃H1,H++[O.list []]=H1:=⟨_,rfl⟩
 have p1:H<+:H1:=⟨_,e1⟩
 have R1:=hR.pre p1
 have t1:mA ⟨l0,H⟩= .ok .next ⟨l1,H1⟩:=by
  exists el1,e1
 have hs0:=oo R1 hO l1
 rw [hO.keys] at hs0
 unfold zF
 obtain ⟨ks,eks⟩:∃ks,bh r.p (look r.ss)=ks:=⟨_,rfl⟩
 rw [eks] at hs0 ⊢
 have hkl:=ed r.p hO.p.2 (look r.ss)
 rw [eks] at hkl
 obtain ⟨H2,e2⟩:∃H2,H1++[O.list (ks.map V.int)]=H2:=⟨_,rfl⟩
 have p2:H1<+:H2:=⟨_,e2⟩
 rw [e2] at hs0
 have x2:H2[H1.length]? = some (.list (ks.map V.int)):=by rw [← e2];simp
 obtain ⟨q',hq,ys,n,acc,ey,_,i1,i2,i3,i4,i5,i6,i7⟩:=fj (g:=fun H=>ay (.ref H1.length) H=some (ks.map V.int)) (bd:=an "page") (body:=lV)
  (fun rem q=> ∃(ys:List Int) (n:Nat) (acc:List (Int×Int)),rem=ys.map V.int∧(∀y∈ys,y∈ks)∧q.l "self" = some (.inst "Room" ri)∧q.l "found" = some (.ref n)∧H2<+:q.H∧H.length≤n∧q.H[n]? = some (.list (acc.map aE)) ∧
   acc++ys.flatMap (jB r.len (look r.ss))=ks.flatMap (jB r.len (look r.ss))∧acc.length+ys.length*1000≤50000) (fun x rem q hI=>by
   obtain ⟨ys,n,acc,e,h1,h2,h3,h4,h5,h6,h7,h8⟩:=hI
   obtain ⟨l,Hq⟩:=q
   dsimp only at h2 h3 h4 h6
   cases ys with
   | nil=>simp at e
   | cons g ys =>
    obtain ⟨rfl,rfl⟩:x= .int g∧rem=ys.map V.int:=by simpa using e
    obtain ⟨v,hv⟩:=dm (eks▸h1 g (.head _):g∈bh r.p (look r.ss))
    obtain ⟨s,hs,_⟩:=aF hv
    have hRq:=hR.pre ((p1.trans p2).trans h4)
    obtain ⟨l2,el2⟩:∃l2,upd (upd l "page" (.int g)) "shelf" (.inst "Shelf" s.sh)=l2:=⟨_,rfl⟩
    have c0:upd l "page" (.int g) "self" = some (.inst "Room" ri):=af rfl ∅ h2
    have c1:l2 "self" = some (.inst "Room" ri):=gL el2 ∅ ∅ h2
    have c2:l2 "shelf" = some (.inst "Shelf" s.sh):=aq el2
    have c3:l2 "found" = some (.ref n):=gL el2 ∅ ∅ h3
    obtain ⟨H3,hc,p3⟩:=DR hRq hO hs c1 c2
    have hl:=DQ hR hO g
    obtain ⟨H4,e4⟩:∃H4,H3++[O.list ((jB r.len (look r.ss) g).map aE)]=H4:=⟨_,rfl⟩
    rw [e4] at hc
    have p4:Hq<+:H4:=p3.trans ⟨_,e4⟩
    have y1:H4[n]? = some (.list (acc.map aE)):=av p4 h6
    have y2:H4[H3.length]? = some (.list ((jB r.len (look r.ss) g).map aE)):=by rw [← e4];simp
    have had:cS (.ref n) (.ref H3.length) ⟨l2,H4⟩= .ok (.ref H4.length) ⟨l2,H4++[.list ((acc++jB r.len (look r.ss) g).map aE)]⟩:=by
     have:(acc.map aE).length+((jB r.len (look r.ss) g).map aE).length≤1000000:=by simp at h8 ⊢;exact id (tn 0xf4240a20c00003e8a20100c350a10c012 h8 hl)
     rw [List.map_append];exact Gp y1 y2 this
    have p5:H2<+:H4++[O.list ((acc++jB r.len (look r.ss) g).map aE)]:=(h4.trans p4).trans (List.prefix_append _ _)
    refine ⟨⟨upd l2 "found" (.ref H4.length),H4++[.list ((acc++jB r.len (look r.ss) g).map aE)]⟩,?_,bB (av p5 x2),ys,H4.length,acc++jB r.len (look r.ss) g,rfl,fun y hy=>h1 y (.tail _ hy),af rfl ∅ c1,by simp [upd],p5,((p1.trans p2).trans (h4.trans p4)).length_le,by simp,?_,?_⟩
    ·rw [ni,uY]
     refine ah (q':=⟨l2,Hq⟩) ?_ ?_
     ·exists c0,aZ hRq,cH hRq hs,el2
     ·exists c3,hc,had
    ·rw [← h7];simp
    ·simp at h8 ⊢;omega) _ ⟨l1,H2⟩ ⟨ks,H.length,[],rfl,fun y hy=>hy,b1,b2,List.prefix_refl _,Nat.le_refl _,av p2 (by rw [← e1];simp),by simp,by simp;omega⟩
 cases ys with
 | cons _ _=>simp at ey
 | nil =>
 simp at i6
 refine ⟨n,q'.H,aS (m:=oW) (q:=q') rfl ?_,(p1.trans p2).trans i3,i4,by rw [← i6];exact i5⟩
 rw [e0]
 refine ah t1 (ah (q':=q') ?_ ?_)
 ·exists b1,aZ R1,hs0,bw x2;exact hq
 ·obtain ⟨l',H'⟩:=q'
  dsimp only at i2
  exists i2
end
noncomputable def Ey (p len:Int) (F:Vw) (z:Int):Int :=
 gY ((cc p F z).map (BJ F))+(((qp p F).length:Nat)+(((gA p F).filter fun g => !cU F z g).length:Nat))*len.fdiv z
theorem DG {H:Hp} {l:aY} {n:Nat} {ks:List Int} (h:H[n]? = some (.list (ks.map V.int))) (hl:ks.length≤1000000):zC [.ref n] ⟨l,H⟩= .ok (.int (gY ks)) ⟨l,H⟩:=by
 unfold zC;dsimp only;rw [h];dsimp only;rw [pN];exact if_pos hl
section
variable {H:Hp} {ri:Nat} {r:Rm} (hR:aI H ri r) (hO:r.Ok)
include hR hO
theorem AI {w:Int} (hw:1≤w):match r.xs.find? (fun x=>decide (x≥w)) with
  | none=>fy [.inst "Room" ri,.int w] H= .exc "TooLarge" H
  | some z=> ∃H',fy [.inst "Room" ri,.int w] H= .ok (.int (Ey r.p r.len (look r.ss) z)) H'∧H<+:H':=by
 obtain ⟨l0,e0,a1,a2⟩:∃l0,aT ["self", "places"] [.inst "Room" ri,.int w]=l0∧l0 "self" = some (.inst "Room" ri)∧l0 "places" = some (.int w):=⟨_,rfl,rfl,rfl⟩
 have hsf:=vI H r.pl r.p r.len r.xs w hR.isPlan
 rw [if_neg (by exact cK 0x190d019811 hw)] at hsf
 have hmp:∀l,aJ "Plan" "size_for" (.inst "Plan" r.pl) ⟨l,H⟩= .ok () ⟨l,H⟩:=fun l=>dT hR.plan rfl
 cases hz:r.xs.find? (fun x=>decide (x≥w)) with
 | none =>
  rw [hz] at hsf
  refine lw (m:=ib) (q:=⟨l0,H⟩) rfl ?_
  rw [e0]
  exact lI (by simp only [gm,ni,DD,a1,a2,gj hR,hmp,DF,pY,hsf])
 | some z =>
  rw [hz] at hsf
  have hzx:z∈r.xs:=List.mem_of_find?_eq_some hz
  dsimp only
  have t1:gm ⟨l0,H⟩= .ok .next ⟨upd l0 "size" (.int z),H⟩:=by exists a1,a2,gj hR,hmp,hsf
  obtain ⟨l1,el1⟩:∃l1,upd l0 "size" (.int z)=l1:=⟨_,rfl⟩
  rw [el1] at t1
  have b1:l1 "self" = some (.inst "Room" ri):=af el1 ∅ a1
  have b2:l1 "size" = some (.int z):=aq el1
  obtain ⟨n,H1,hof,p1,x1⟩:=xe hR hO z
  rw [hO.ofSz] at x1
  unfold Ey
  have hzl:=rc r.p hO.p.2 (look r.ss) z
  obtain ⟨zs,ezs⟩:∃zs,cc r.p (look r.ss) z=zs:=⟨_,rfl⟩
  rw [ezs] at x1 hzl ⊢
  have hc1:∃H',fV ⟨l1,H⟩= .ok (.ref H'.length) ⟨l1,H'++[.list (zs.filterMap fun g=>some (V.int (BJ (look r.ss) g)))]⟩∧H1<+:H':=by
   unfold fV
   refine bJ (n:=n) (ks:=zs) ?_ x1 (by exact bz 0xf4240a00000028a0011 hzl) (fun g=>some (V.int (BJ (look r.ss) g))) fun g hg Hx hp=> ?_
   ·exists b1,b2,a9 hR (f := "of_size") ⟨by decide,by decide,by decide⟩,hof
    exact bw x1
   ·obtain ⟨v,hv⟩:=dm (List.mem_filter.mp (ezs▸hg:g∈cc r.p (look r.ss) z)).1
    obtain ⟨s,hs,y1,y2⟩:=aF hv
    have hm:=(aB hs).1
    have hRx:=hR.pre (p1.trans hp)
    have c1:upd (dX ["self"] l1) "page" (.int g) "self" = some (.inst "Room" ri):=cq ∅ ∅ b1
    obtain ⟨mf,cf⟩:=xS hRx hO hm (upd (dX ["self"] l1) "page" (.int g))
    have hE:BJ (look r.ss) g=(gu 0 s.bs).length:=by unfold BJ;rw [hv,y2]
    have hfl:=nY s.bs 0
    have hbl:=hO.bslen hm
    have hl:=bY (l:=upd (dX ["self"] l1) "page" (.int g)) (H:=Hx++[.list ((gu 0 s.bs).map V.int)]) (i:=Hx.length) (xs:=(gu 0 s.bs).map V.int) (by simp) (by simp;exact id (tn 0xf4240a010003e8a201210c212 hfl hbl))
    rw [List.length_map] at hl
    rw [hE]
    exact ⟨_,bD (H2:=Hx) rfl (by exists c1,aZ hRx,cH hRx hs,mf,cf,hl),List.prefix_append _ _⟩
  obtain ⟨H2,hc1,p2⟩:=hc1
  obtain ⟨H3,e3⟩:∃H3,H2++[O.list (zs.filterMap fun g=>some (V.int (BJ (look r.ss) g)))]=H3:=⟨_,rfl⟩
  rw [e3] at hc1
  have p3:H<+:H3:=(p1.trans p2).trans ⟨_,e3⟩
  have x3:H3[H2.length]? = some (.list ((zs.map (BJ (look r.ss))).map V.int)):=by rw [← e3];simp [Function.comp_def]
  have hsum:=DG (l:=l1) x3 (by simp;exact id (bz 0xf4240a00000028a0011 hzl))
  have R3:=hR.pre p3
  obtain ⟨l2,el2⟩:∃l2,upd l1 "free" (.int (gY (zs.map (BJ (look r.ss)))))=l2:=⟨_,rfl⟩
  have t2:jV ⟨l1,H⟩= .ok .next ⟨l2,H3⟩:=by exists hc1,hsum,el2
  have c1:l2 "self" = some (.inst "Room" ri):=af el2 ∅ b1
  have c2:l2 "size" = some (.int z):=af el2 ∅ b2
  have c3:l2 "free" = some (.int (gY (zs.map (BJ (look r.ss))))):=aq el2
  obtain ⟨m,H4,he,p4,x4⟩:=ua R3 hO
  rw [hO.empt] at x4
  have hel:=ul r.p hO.p.2 (look r.ss)
  obtain ⟨es,ees⟩:∃es,gA r.p (look r.ss)=es:=⟨_,rfl⟩
  rw [ees] at x4 hel ⊢
  have hc2:∃H',fW ⟨l2,H3⟩= .ok (.ref H'.length) ⟨l2,H'++[.list (es.filterMap fun g=>if (!cU (look r.ss) z g) then some (V.int g) else none)]⟩∧H4<+:H':=by
   unfold fW
   refine bJ (n:=m) (ks:=es) ?_ x4 (by exact bz 0xf4240a00000028a0011 hel) (fun g=>if (!cU (look r.ss) z g) then some (V.int g) else none) fun g hg Hx hp=> ?_
   ·exists c1,a9 R3 (f := "empty_pages") ⟨by decide,by decide,by decide⟩,he
    exact bw x4
   ·obtain ⟨v,hv⟩:=dm (List.mem_filter.mp (ees▸hg:g∈gA r.p (look r.ss))).1
    obtain ⟨s,hs,y1,y2⟩:=aF hv
    have hm:=(aB hs).1
    have hRx:=R3.pre (p4.trans hp)
    have rs:=fun l=>(qR hRx hm l).1
    have d1:upd (dX ["size", "self"] l2) "page" (.int g) "self" = some (.inst "Room" ri):=cq ∅ ∅ c1
    have d2:upd (dX ["size", "self"] l2) "page" (.int g) "size" = some (.int z):=cq ∅ ∅ c2
    have hz':cU (look r.ss) z g=decide (s.sz=z):=by unfold cU;rw [hv,y1]
    rw [hz']
    refine ⟨Hx,?_,List.prefix_refl _⟩
    have d3:upd (dX ["size", "self"] l2) "page" (.int g) "page" = some (.int g):=gp _ _ _
    have eqz:=fun q=>qO s.sz z q
    cases hb:decide (s.sz=z) with
    | false=>rw [hb] at eqz;exact bD (H2:=Hx) (by exists d1,d3,aZ hRx,cH hRx hs,rs,d2,eqz) (g_get d3)
    | true=>rw [hb] at eqz;exact fD (by exists d1,d3,aZ hRx,cH hRx hs,rs,d2,eqz)
  obtain ⟨H5,hc2,p5⟩:=hc2
  rw [cG] at hc2
  have hol:(es.filter fun g => !cU (look r.ss) z g).length≤40:=Nat.le_trans (List.length_filter_le _ _) hel
  obtain ⟨os,eos⟩:∃os,(es.filter fun g => !cU (look r.ss) z g)=os:=⟨_,rfl⟩
  rw [eos] at hc2 hol ⊢
  obtain ⟨H6,e6⟩:∃H6,H5++[O.list (os.map V.int)]=H6:=⟨_,rfl⟩
  rw [e6] at hc2
  have p6:H3<+:H6:=(p4.trans p5).trans ⟨_,e6⟩
  have x6:H6[H5.length]? = some (.list (os.map V.int)):=by rw [← e6];simp
  obtain ⟨l3,el3⟩:∃l3,upd l2 "others" (.ref H5.length)=l3:=⟨_,rfl⟩
  have t3:jW ⟨l2,H3⟩= .ok .next ⟨l3,H6⟩:=by exists hc2,el3
  have d1:l3 "self" = some (.inst "Room" ri):=af el3 ∅ c1
  have d2:l3 "size" = some (.int z):=af el3 ∅ c2
  have d3:l3 "free" = some (.int (gY (zs.map (BJ (look r.ss))))):=af el3 ∅ c3
  have d4:l3 "others" = some (.ref H5.length):=aq el3
  have R6:=R3.pre p6
  obtain ⟨_,hpl,rfl⟩:=AH R6 hO
  rw [xQ] at hpl
  have hbl:=yz r.p hO.p.2 (look r.ss)
  obtain ⟨bp,ebp⟩:∃bp,qp r.p (look r.ss)=bp:=⟨_,rfl⟩
  rw [ebp] at hpl hbl ⊢
  obtain ⟨H7,e7⟩:∃H7,H6++[O.list (bp.map V.int)]=H7:=⟨_,rfl⟩
  rw [e7] at hpl
  have p7:H6<+:H7:=⟨_,e7⟩
  have R7:=R6.pre p7
  have q1:=bY (l:=l3) (i:=H6.length) (xs:=bp.map V.int) (H:=H7) (by rw [← e7];simp) (by simp;exact id (bz 0xf4240a01000028a0011 hbl))
  have q2:=bY (l:=l3) (i:=H5.length) (xs:=os.map V.int) (H:=H7) (av p7 x6) (by simp;exact id (bz 0xf4240a01000028a0011 hol))
  rw [List.length_map] at q1 q2
  have hper:=Av R7 hO hzx
  have hpm:∀l,aJ "Plan" "per" (.inst "Plan" r.pl) ⟨l,H7⟩= .ok () ⟨l,H7⟩:=fun l=>dT R7.plan rfl
  have hmul:∀q,dQ (.int ((bp.length:Int)+(os.length:Int))) (.int (r.len.fdiv z)) q= .ok (.int (((bp.length:Int)+(os.length:Int))*r.len.fdiv z)) q:=fun q=>mj _ _ q (Ck (by exact b0 0x1f0fc0980) (by exact b0 0xf4240a0f1fc9000028a101000028a0012 hol hbl))
  refine ⟨H7,aS (m:=ib) (q:=⟨l3,H7⟩) rfl ?_,p3.trans (p6.trans p7)⟩
  rw [e0]
  refine ah t1 (ah t2 (ah t3 ?_))
  exists d1,d2,d3,d4,a9 R6 (f := "pile") ⟨by decide,by decide,by decide⟩,hpl,q1,q2,gj R7,hpm,hper,hmul
end
noncomputable def vW (F:Vw) (g:Int):Bool:=match F g with | some v=>(aR v.2).isSome | none=>false
theorem uU {F:Vw} {g:Int} (h:vW F g=true):∃v j,F g=some v∧aR v.2=some j:=by
 unfold vW at h
 split at h
 ·rename_i v hv
  obtain ⟨j,hj⟩:=Option.isSome_iff_exists.mp h
  exact ⟨v,j,hv,hj⟩
 ·cases h
noncomputable def vQ (len z:Int) (stay:List Int) (F:Vw) (it:Int×Int):(Int×Int)×Vw:=match stay.find? (vW F) with
 | some h=>(match F h with
  | some v=>(match aR v.2 with
   | some j=>((it.1*len+it.2*z,h*len+(j:Nat)*z),dY F h (some (z,v.2.set j true)))
   | none=>((0,0),F))
  | none=>((0,0),F))
 | none=>((0,0),F)
theorem xJ {len z:Int} {stay:List Int} {F:Vw} (it:Int×Int) {h:Int} {v:Int×List Bool} {j:Nat} (h1:stay.find? (vW F)=some h) (h2:F h=some v) (h3:aR v.2=some j) :
  vQ len z stay F it=((it.1*len+it.2*z,h*len+(j:Nat)*z),dY F h (some (z,v.2.set j true))):=by
 unfold vQ;rw [h1];dsimp only;rw [h2];dsimp only;rw [h3]
noncomputable def eX (len z:Int) (stay:List Int):Vw→List (Int×Int)→List (Int×Int)×Vw
 | F,[]=>([],F)
 | F,it::r=>((vQ len z stay F it).1::(eX len z stay (vQ len z stay F it).2 r).1,(eX len z stay (vQ len z stay F it).2 r).2)
theorem oh (len z:Int) (stay:List Int) (F:Vw):eX len z stay F []=([],F):=rfl
theorem uP (len z:Int) (stay:List Int) (F:Vw) (it:Int×Int) (r:List (Int×Int)):eX len z stay F (it::r)=((vQ len z stay F it).1::(eX len z stay (vQ len z stay F it).2 r).1,(eX len z stay (vQ len z stay F it).2 r).2):=rfl
noncomputable def Dm (len z:Int) (stay:List Int):Vw→List (Int×Int)→Prop
 | _,[]=>True
 | F,it::r=>(stay.find? (vW F)).isSome=true∧Dm len z stay (vQ len z stay F it).2 r
noncomputable def EO (F:Vw) (g:Int):Nat:=match F g with | some v=>v.2.count false | none=>0
noncomputable def ly (F:Vw) (stay:List Int):Nat:=(stay.map (EO F)).sum
theorem sG:∀ {bs:List Bool} {j:Nat},aR bs=some j→(bs.set j true).count false+1=bs.count false
 | [],_,h=>by cases h
 | false::r,j,h=>by
  cases h
  rw [List.set_cons_zero,List.count_cons_of_ne ∅,List.count_cons_self]
 | true::r,j,h=>by
  change (aR r).map (· + 1)=some j at h
  cases hf:aR r with
  | none=>rw [hf] at h;cases h
  | some i =>
   rw [hf] at h
   cases h
   rw [List.set_cons_succ,List.count_cons_of_ne ∅,List.count_cons_of_ne ∅]
   exact sG hf
theorem ut:∀ {bs:List Bool},0<bs.count false→(aR bs).isSome=true
 | [],h=>by simp at h
 | false::r,h=>rfl
 | true::r,h=>by
  rw [List.count_cons_of_ne ∅] at h
  rw [aR,Option.isSome_map]
  exact ut h
theorem Ea:∀bs:List Bool,bs.count true+bs.count false=bs.length
 | []=>rfl
 | true::r=>by rw [List.count_cons_self,List.count_cons_of_ne ∅,List.length_cons];have:=Ea r;exact id (Nat.le_antisymm (tn 0x192c1190cc0210c211 this) (tn 0x1190cc192c0210c311 this))
 | false::r=>by rw [List.count_cons_self,List.count_cons_of_ne ∅,List.length_cons];have:=Ea r;exact id (Nat.le_antisymm (tn 0x192c191c0c0210c211 this) (tn 0x191c0c192c0210c311 this))
theorem wI {F:Vw}:∀ {stay:List Int},0<ly F stay→(stay.find? (vW F)).isSome=true
 | [],h=>by simp [ly] at h
 | g::r,h=>by
  by_cases ho:vW F g=true
  ·rw [List.find?_cons_of_pos ho];rfl
  ·rw [List.find?_cons_of_neg ho]
   have:EO F g=0:=by
    unfold vW at ho
    unfold EO
    split
    ·rename_i v hv
     rw [hv] at ho
     rcases Nat.eq_zero_or_pos (v.2.count false) with h0 | h0
     ·exact h0
     ·exact absurd (ut h0) ho
    ·rfl
   unfold ly at h
   rw [List.map_cons,List.sum_cons,this,Nat.zero_add] at h
   exact wI h
theorem Ca {f f':Int→Nat}:∀ {l:List Int},(∀x∈l,f x=f' x)→(l.map f).sum=(l.map f').sum:=fun h=>by rw [List.map_congr_left h]
theorem Bl {f f':Int→Nat} {h:Int} (hh:f' h+1=f h) (hn:∀x,x≠h→f' x=f x):∀ {l:List Int},l.Nodup→h∈l→(l.map f').sum+1=(l.map f).sum
 | [],_,hm=>by cases hm
 | x::l,hd,hm=>by
  rw [List.nodup_cons] at hd
  rw [List.map_cons,List.map_cons,List.sum_cons,List.sum_cons]
  rcases List.mem_cons.mp hm with rfl | hm
  ·have:(l.map f').sum=(l.map f).sum:=Ca fun y hy=>hn y fun e=>hd.1 (e▸hy)
   exact id (Nat.le_antisymm (Cl 0x31c1920cc032211190c212 hh this) (Cl 0x1920cc31c032311190c312 hh this))
  ·have h1:=Bl hh hn hd.2 hm
   have h2:f' x=f x:=hn x fun e=>hd.1 (e▸hm)
   exact id (Nat.le_antisymm (Cl 0x13c1902cc032211190c212 h1 h2) (Cl 0x1902cc13c032311190c312 h1 h2))
theorem BI {len z:Int} {stay:List Int} {F:Vw} (it:Int×Int) (hd:stay.Nodup) (h:(stay.find? (vW F)).isSome=true):ly (vQ len z stay F it).2 stay+1=ly F stay:=by
 obtain ⟨g,hg⟩:=Option.isSome_iff_exists.mp h
 obtain ⟨v,j,hv,hj⟩:=uU (List.find?_some hg)
 rw [xJ it hg hv hj]
 dsimp only
 unfold ly
 refine Bl (h:=g) ?_ (fun x hx=> ?_) hd (List.mem_of_find?_eq_some hg)
 ·unfold EO
  rw [dp,hv]
  exact sG hj
 ·unfold EO
  rw [fE _ _ hx]
theorem A2 {len z:Int} {stay:List Int} (hd:stay.Nodup):∀ {its:List (Int×Int)} {F:Vw},its.length≤ly F stay→Dm len z stay F its
 | [],_,_=>trivial
 | it::r,F,h=>by
  rw [List.length_cons] at h
  have h1:(stay.find? (vW F)).isSome=true:=wI (by exact b0 0x10911190c011 h)
  have h2:=BI (len:=len) (z:=z) it hd h1
  exact ⟨h1,A2 hd (by exact tn 0x2001192c311190c012 h h2)⟩
noncomputable def mS (F:Vw) (g:Int):List (Int×Int):=match F g with | some v=>(cA 0 v.2).map fun k=>(g,k) | none=>[]
noncomputable def cR (F:Vw) (stay ys:List Int):List (Int×Int):=ys.flatMap fun g=>if g∈stay then [] else mS F g
noncomputable def cV (F:Vw) (g:Int):Int:=((eD F g:Nat):Int)
noncomputable def b7 (p:Int) (F:Vw) (z:Int):List (Int×Int):=nt ((cc p F z).map fun g=>(-cV F g,g))
noncomputable def bU (p len:Int) (F:Vw) (z:Int):Int:=(gY ((cc p F z).map (cV F))+len.fdiv z-1).fdiv (len.fdiv z)
noncomputable def bS (p len:Int) (F:Vw) (z:Int):List Int:=dH (((b7 p F z).take (bU p len F z).toNat).map (·.2))
theorem ve (f:Int→Nat):∀l:List Int,gY (l.map fun g=>((f g:Nat):Int))=(((l.map f).sum:Nat):Int)
 | []=>rfl
 | g::l=>by rw [List.map_cons,kR,ve f l,List.map_cons,List.sum_cons];push_cast;rfl
section
variable {p len z:Int} {F:Vw} (hs:∀g v,F g=some v→v.1=z→(v.2.length:Int)=len.fdiv z) (hz:1≤len.fdiv z)
theorem rt:(cc p F z).Nodup:=(pQ p F).filter _
theorem Bw {g:Int} (h:g∈cc p F z):∃bs,F g=some (z,bs):=by
 obtain ⟨h1,h2⟩:=List.mem_filter.mp h
 obtain ⟨v,hv⟩:=dm h1
 unfold cU at h2
 rw [hv] at h2
 have:v.1=z:=by simpa using h2
 exact ⟨v.2,by rw [hv,← this]⟩
theorem iU:((b7 p F z).map (·.2)).Perm (cc p F z):=by
 have:=(vc ((cc p F z).map fun g=>(-cV F g,g))).map (·.2)
 rw [List.map_map] at this
 unfold b7
 refine this.trans ?_
 have:(cc p F z).map ((fun x:Int×Int=>x.2)∘fun g=>(-cV F g,g))=cc p F z:=by
  rw [show ((fun x:Int×Int=>x.2)∘fun g=>(-cV F g,g))=id from rfl,List.map_id]
 rw [this]
theorem ou:(bS p len F z).Perm (((b7 p F z).take (bU p len F z).toNat).map (·.2)):=gG _
theorem zA:(((b7 p F z).take (bU p len F z).toNat).map (·.2)).Sublist ((b7 p F z).map (·.2)):=(List.take_sublist _ _).map _
theorem vd:(bS p len F z).Nodup:=ou.nodup_iff.mpr ((iU.nodup_iff.mpr rt).sublist zA)
theorem ye {g:Int} (h:g∈bS p len F z):g∈cc p F z:=iU.mem_iff.mp (zA.mem (ou.mem_iff.mp h))
theorem xE (stay:List Int):∀ys:List Int,(cR F stay ys).length=((ys.filter fun g => !decide (g∈stay)).map (eD F)).sum
 | []=>rfl
 | g::ys=>by
  unfold cR
  rw [List.flatMap_cons,List.length_append]
  have ih:=xE stay ys
  unfold cR at ih
  by_cases h:g∈stay
  ·rw [if_pos h,List.filter_cons_of_neg (by simp [h]),ih];simp
  ·rw [if_neg h,List.filter_cons_of_pos (by simp [h]),ih,List.map_cons,List.sum_cons]
   have:(mS F g).length=eD F g:=by
    unfold mS eD
    cases F g with
    | some v=>dsimp only;rw [List.length_map,gH]
    | none=>rfl
   rw [this]
include hs hz
theorem cap:(cR F (bS p len F z) (cc p F z)).length≤ly F (bS p len F z):=by
 have hper:∀g∈cc p F z,EO F g+eD F g=(len.fdiv z).toNat:=fun g hg=>by
  obtain ⟨bs,hb⟩:=Bw hg
  have h1:=hs g _ hb rfl
  dsimp only at h1
  have h2:=Ea bs
  unfold EO eD
  rw [hb]
  dsimp only
  exact id (Nat.le_antisymm (lA [_,_,_,_] [_] 0x312c03f081021c2100fa13 h1 h2 (Int.self_le_toNat _)) (lA [_,_,_,_] [_] 0x12c3003fa1021c3100fb13 h1 h2 (Int.toNat_of_nonneg (cK 0x98019811 hz))))
 obtain ⟨per,eper⟩:∃per,(len.fdiv z).toNat=per:=⟨_,rfl⟩
 rw [eper] at hper
 have hper1:len.fdiv z=(per:Int):=by exact Int.le_antisymm (rU 0x1f080f08110212 eper (Int.self_le_toNat _)) (rU 0x1f800fa110312 eper (Int.toNat_of_nonneg (cK 0x98019811 hz)))
 rw [xE]
 obtain ⟨zs,ezs⟩:∃zs,cc p F z=zs:=⟨_,rfl⟩
 obtain ⟨st,est⟩:∃st,bS p len F z=st:=⟨_,rfl⟩
 have hzn:zs.Nodup:=ezs▸rt
 have hsn:st.Nodup:=est▸vd
 have hsi:∀g∈st,g∈zs:=fun g hg=>ezs▸ye (est▸hg)
 rw [ezs] at hper ⊢
 rw [est]
 -- the sums
 have s1:(zs.map (eD F)).sum=((zs.filter fun g=>decide (g∈st)).map (eD F)).sum+((zs.filter fun g => !decide (g∈st)).map (eD F)).sum:=by
  have:=(List.filter_append_perm (fun g=>decide (g∈st)) zs).map (eD F)
  rw [← this.sum_nat,List.map_append,List.sum_append]
 have s2:((zs.filter fun g=>decide (g∈st)).map (eD F)).sum=(st.map (eD F)).sum:=by
  refine List.Perm.sum_nat (List.Perm.map _ ?_)
  refine (List.perm_ext_iff_of_nodup (hzn.filter _) hsn).mpr fun g=> ?_
  rw [List.mem_filter]
  constructor
  ·rintro ⟨_,h⟩;simpa using h
  ·intro h;exact ⟨hsi g h,by simpa using h⟩
 have tot:∀l:List Int,(∀g∈l,g∈zs)→(l.map (EO F)).sum+(l.map (eD F)).sum=l.length*per:=fun l hl=>by
  clear s1 s2
  induction l with
  | nil=>simp
  | cons g l ih =>
   have h1:=hper g (hl g (.head _))
   have h2:=ih fun x hx=>hl x (.tail _ hx)
   rw [List.map_cons,List.map_cons,List.sum_cons,List.sum_cons,List.length_cons,Nat.succ_mul]
   exact id (Nat.le_antisymm (lA [_,_,_,_,_,_] [] 0x25c41c30cc0543c21210c212 h1 h2) (lA [_,_,_,_,_,_] [] 0x41c30cc25c0543c31210c312 h1 h2))
 have h3:=tot st hsi
 have h4:(zs.map (eD F)).sum≤zs.length*per:=by have:=tot zs fun g hg=>hg;exact id (tn 0x210210c211 this)
 -- how many stay
 have hlen:st.length=min (bU p len F z).toNat zs.length:=by
  rw [← est,ou.length_eq,List.length_map,List.length_take]
  congr 1
  rw [← ezs,← (iU (p:=p) (F:=F) (z:=z)).length_eq,List.length_map]
 have hmany:(zs.map (eD F)).sum≤st.length*per:=by
  have hne:bU p len F z=((((zs.map (eD F)).sum:Nat):Int)+(per:Int)-1).fdiv (per:Int):=by
   unfold bU
   rw [ezs,hper1]
   congr 2
   congr 1
   exact ve (eD F) zs
  rw [hlen]
  rcases Nat.le_total (bU p len F z).toNat zs.length with h | h
  ·rw [Nat.min_eq_left h]
   obtain ⟨u1,u2,u3,u4⟩:=dt (a:=(((zs.map (eD F)).sum:Nat):Int)+(per:Int)-1) (b:=per) (by exact rU 0x190f1fce0980f0a1019812 hz hper1) (by exact kb 0xf1980f0a1019812 hz hper1)
   rw [← hne] at u1 u4
   rw [Int.add_mul] at u4
   have:(((bU p len F z).toNat*per:Nat):Int)=bU p len F z*per:=by push_cast;rw [Int.toNat_of_nonneg u1]
   exact id (lA [_,_,_] [_] 0x20002fb11f01d0c191f0fce912 u4 this)
  ·rw [Nat.min_eq_right h];exact h4
 unfold ly
 exact id (lA [_,_,_,_,_,_] [] 0x4205001534c31313121c0314 s1 s2 h3 hmany)
theorem CW:Dm len z (bS p len F z) F (cR F (bS p len F z) (cc p F z)):=A2 vd (cap hs hz)
end
noncomputable def Ac (p len:Int) (F:Vw) (z:Int):List (Int×Int):=(eX len z (bS p len F z) F (cR F (bS p len F z) (cc p F z))).1
noncomputable def CV (p len:Int) (F:Vw) (z:Int):Vw:=iM (eX len z (bS p len F z) F (cR F (bS p len F z) (cc p F z))).2 ((cc p F z).filter fun g => !decide (g∈bS p len F z))
theorem Am (F:Vw) (stay:List Int) (n:Nat) (hn:∀g,eD F g≤n):∀ys:List Int,(cR F stay ys).length≤ys.length*n
 | []=>by simp [cR]
 | g::ys=>by
  have ih:=Am F stay n hn ys
  rw [xE] at ih ⊢
  have:=hn g
  by_cases h:g∈stay
  ·rw [List.filter_cons_of_neg (by simp [h]),List.length_cons,Nat.succ_mul];exact id (tn 0x21c0010011 ih)
  ·rw [List.filter_cons_of_pos (by simp [h]),List.map_cons,List.sum_cons,List.length_cons,Nat.succ_mul];exact id (Cl 0x31c02c0320110012 ih this)
theorem uu {φ : Int→Option V} {o:Int→Bool} (hφ : ∀g,o g=false → φ g=none) {h:Int} {x:V} (hx : φ h=some x):∀ {l:List Int},l.find? o=some h→(l.filterMap φ)[0]? = some x
 | [],e=>by cases e
 | g::l,e=>by
  cases ho:o g with
  | true =>
   rw [List.find?_cons_of_pos ho] at e
   cases e
   rw [List.filterMap_cons_some hx];rfl
  | false =>
   rw [List.find?_cons_of_neg (by rw [ho];simp)] at e
   rw [List.filterMap_cons_none (hφ g ho)]
   exact uu hφ hx e
noncomputable def DO (ss:List aH) (g:Int):Option V:=match df ss g with | some s=>if (aR s.bs).isSome then some (.inst "Shelf" s.sh) else none | none=>none
theorem FV {ss:List aH} {g:Int} (h:vW (look ss) g=false):DO ss g=none:=by
 unfold vW look at h
 unfold DO
 cases hf:df ss g with
 | none=>rfl
 | some s=>rw [hf] at h;dsimp only [Option.map_some] at h;simp [h]
section
variable {H:Hp} {ri:Nat} {r:Rm} (hR:aI H ri r) (hO:r.Ok)
include hR hO
inductive Hz (H:Hp) (ri:Nat) (r:Rm) (pl th z:Int) (rem:List V) (q:S):Prop
 | mk (cs ys:List Int) (f0:rem=ys.map V.int) (f1:(∀y∈ys,0≤y∧y<z)) (f2:cs.length=r.cs.length) (f3:aI q.H ri { r with cs:=cs }) (f4:bO [r.c] H q.H) (f5:q.l "self" = some (.inst "Room" ri)) (f6:q.l "place" = some (.int pl)) (f7:q.l "there" = some (.int th))
theorem BF {pl th z:Int} (hz:0≤z∧z≤1000) (hin:∀j,0≤j→j<z→0≤pl+j∧pl+j<r.cs.length) (hth:∀j,0≤j→j<z→0≤th+j∧th+j<r.cs.length) {l:aY} (h1:l "self" = some (.inst "Room" ri)) (h2:l "place" = some (.int pl)) (h3:l "size" = some (.int z)) (h4:l "there" = some (.int th)) :
  ∃cs q',A6 (nH ⟨l,H⟩= .ok .next q') (cs.length=r.cs.length) (aI q'.H ri { r with cs:=cs }) (bO [r.c] H q'.H) (q'.l "place" = some (.int pl)) (q'.l "there" = some (.int th)):=by
 obtain ⟨ys,e,hy⟩:=u0 z
 obtain ⟨q',hq,cs,_,_,_,i1,i2,i3,i4,i5,i6⟩:=fj (g:=fun _=>True) (bd:=an "step") (body:=mH) (Hz H ri r pl th z) (fun x rem q hI=>by
  obtain ⟨cs,ys,e,h1,h2,h3,h4,h5,h6,h7⟩:=hI
  obtain ⟨l,Hq⟩:=q
  dsimp only at h3 h4 h5 h6 h7
  cases ys with
  | nil=>simp at e
  | cons y ys =>
   obtain ⟨rfl,rfl⟩:x= .int y∧rem=ys.map V.int:=by simpa using e
   obtain ⟨y1,y2⟩:=h1 y (.head _)
   have hO':=Rm.Ok.setCs hR hO h2
   obtain ⟨k1,k2⟩:=hin y y1 y2
   obtain ⟨k3,k4⟩:=hth y y1 y2
   obtain ⟨v,_,hv⟩:=Bi h3 hO' (i:=pl+y) k1 (by show _<((cs.length:Nat):Int);exact id (lA [_,_] [_,_] 0xf10c91f10c9110312 h2 k2))
   have hc:=xR h3 hO' (i:=th+y) (v:=v) k3 (by show _<((cs.length:Nat):Int);exact id (lA [_,_] [_,_] 0xf10c91f10c9110312 h2 k4)) (upd l "step" (.int y))
   have hc2:=qQ h3 (upd l "step" (.int y))
   have a1:upd l "step" (.int y) "self" = some (.inst "Room" ri):=af rfl ∅ h5
   have a2:upd l "step" (.int y) "place" = some (.int pl):=af rfl ∅ h6
   have a3:upd l "step" (.int y) "there" = some (.int th):=af rfl ∅ h7
   dsimp only at hv hc hc2
   refine ⟨⟨upd l "step" (.int y),Hq.set r.c (.list ((cs.set (th+y).toNat v).map V.int))⟩,?_,trivial,cs.set (th+y).toNat v,ys,rfl,fun y' hy'=>h1 y' (.tail _ hy'),by rw [List.length_set];exact h2,aI.setCs h3 hO' _,h4.trans (bO.set (by simp)),a1,a2,a3⟩
   exists a1,a2,a3,hc2,hv,hc) _ ⟨l,H⟩ ⟨r.cs,ys,e,hy,rfl,hR,bO.refl _ _,h1,h2,h4⟩
 refine ⟨cs,q',?_,i1,i2,i3,i5,i6⟩
 exists h3,eh z _ ⟨by omega,by omega⟩
 exact hq
theorem EI {n:Nat} {stay:List Int} {z pl:Int} (hn:H[n]? = some (.list (stay.map V.int))) (hst:∀g∈stay,∃bs,look r.ss g=some (z,bs)) (hlen:stay.length≤40) (hpl:∀j,0≤j→j<z→0≤pl+j∧pl+j<r.cs.length)
  {h:Int} {bs:List Bool} {j:Nat} (h1:stay.find? (vW (look r.ss))=some h) (h2:look r.ss h=some (z,bs)) (h3:aR bs=some j) :
  ∃r' H',A8 (lp [.inst "Room" ri,.int pl,.ref n,.int z] H= .ok (aE (pl,h*r.len+(j:Nat)*z)) H') (aI H' ri r') r'.Ok (r.Sm r') (look r'.ss=dY (look r.ss) h (some (z,bs.set j true))) (bO (r.own ri) H H') (r'.own ri=r.own ri) (r'.cs.length=r.cs.length):=by
 refine lh fun G kG=> ?_
 obtain ⟨l0,e0,a1,a2,a3,a4⟩:∃l0,aT ["self", "place", "stay", "size"] [.inst "Room" ri,.int pl,.ref n,.int z]=l0∧l0 "self" = some (.inst "Room" ri)∧l0 "place" = some (.int pl)∧l0 "stay" = some (.ref n)∧l0 "size" = some (.int z):=⟨_,rfl,rfl,rfl,rfl,rfl⟩
 obtain ⟨s,hs,y1,y2⟩:=aF h2
 dsimp only at y1 y2
 subst y1 y2
 obtain ⟨hm,ehp⟩:=aB hs
 subst ehp
 have hc:∃H',ja ⟨l0,H⟩= .ok (.ref H'.length) ⟨l0,H'++[.list (stay.filterMap (DO r.ss))]⟩∧H<+:H':=by
  unfold ja
  refine bJ (n:=n) (ks:=stay) ?_ hn (by exact bz 0xf4240a00000028a0011 hlen) (DO r.ss) fun g hg Hx hp=> ?_
  ·exists a3
   exact bw hn
  ·obtain ⟨bs',hb'⟩:=hst g hg
   obtain ⟨s',hs',z1,z2⟩:=aF hb'
   have hm':=(aB hs').1
   have hRx:=hR.pre hp
   refine bi (upd (dX ["self"] l0) "page" (.int g)) fun lc elc=> ?_
   have b1:lc "self" = some (.inst "Room" ri):=by rw [← elc,kj _ _ ∅,Bk (by simp)];exact a1
   have b2:lc "page" = some (.int g):=aq elc
   obtain ⟨mf,cf⟩:=xS hRx hO hm' lc
   refine bi (Hx++[O.list ((gu 0 s'.bs).map V.int)]) fun H2 e2=> ?_
   refine bi (H2++[O.list []]) fun H3 e3=> ?_
   have p2:Hx<+:H2:=⟨_,e2⟩
   have p3:H2<+:H3:=⟨_,e3⟩
   rw [e2] at cf
   have n1:dz [] ⟨lc,H2⟩= .ok (.ref H2.length) ⟨lc,H3⟩:=by rw [lF,if_pos (by simp),e3]
   have g1:H3[Hx.length]? = some (.list ((gu 0 s'.bs).map V.int)):=av p3 (by rw [← e2];simp)
   have q1:eqV (.ref Hx.length) (.ref H2.length) ⟨lc,H3⟩= .ok (!(aR s'.bs).isSome) ⟨lc,H3⟩:=by
    rw [iT (q:=⟨lc,H3⟩) (ys:=[]) g1 (by rw [← e3];simp),rG]
   have hR3:=hRx.pre (p2.trans p3)
   have hE:DO r.ss g=if (aR s'.bs).isSome then some (.inst "Shelf" s'.sh) else none:=by unfold DO;rw [hs']
   rw [hE]
   refine ⟨H3,?_,p2.trans p3⟩
   cases hb:(aR s'.bs).isSome with
   | true =>
    rw [hb] at q1
    exact bD (H2:=H3) (by rw [elc];exists b1,b2,aZ hRx,cH hRx hs',mf,cf,n1,q1) (by rw [elc];exists b1,b2,aZ hR3,cH hR3 hs')
   | false =>
    rw [hb] at q1
    exact fD (by rw [elc];exists b1,b2,aZ hRx,cH hRx hs',mf,cf,n1,q1)
 obtain ⟨H1,hc,p1⟩:=hc
 refine bi (H1++[O.list (stay.filterMap (DO r.ss))]) fun H2 e2=> ?_
 rw [e2] at hc
 have p2:H<+:H2:=p1.trans ⟨_,e2⟩
 have x0:(stay.filterMap (DO r.ss))[0]? = some (.inst "Shelf" s.sh):=uu (fun g hg=>FV hg) (by unfold DO;rw [hs];dsimp only;rw [h3];rfl) h1
 have x2:H2[H1.length]? = some (.list (stay.filterMap (DO r.ss))):=by rw [← e2];simp
 have hit:aj (.ref H1.length) (.int 0) ⟨l0,H2⟩= .ok (.inst "Shelf" s.sh) ⟨l0,H2⟩:=by
  have x0':(stay.filterMap (DO r.ss))[(0:Int).toNat]? = some (.inst "Shelf" s.sh):=x0
  exact mR x2 ⟨by decide,by decide⟩ x0'
 refine bi (upd l0 "shelf" (.inst "Shelf" s.sh)) fun l1 el1=> ?_
 have t1:nB ⟨l0,H⟩= .ok .next ⟨l1,H2⟩:=by exists hc,hit,el1
 have c1:l1 "self" = some (.inst "Room" ri):=af el1 ∅ a1
 have c2:l1 "place" = some (.int pl):=af el1 ∅ a2
 have c3:l1 "shelf" = some (.inst "Shelf" s.sh):=aq el1
 have c4:l1 "size" = some (.int s.sz):=af el1 ∅ a4
 have R2:=hR.pre p2
 obtain ⟨mt,ct,R3,O3⟩:=Bj R2 hO hm h3 l1
 refine bi (H2.set s.t (.list ((s.bs.set j true).map V.bool))) fun H3 e3=> ?_
 rw [e3] at ct R3
 have g3:bO (r.own ri) H2 H3:=by rw [← e3];exact bO.set (Dt ri hm)
 have hj:=(fP h3).1
 have hbl:=hO.bslen hm
 have hpg:=hO.pg s hm
 have hpp:=hO.p
 have hs1:jE H3 s.sh s.t s.pg s.sz (s.bs.set j true):=R3.shelf { s with bs:=s.bs.set j true } (List.mem_map.mpr ⟨s,hm,by simp⟩)
 have vb:=t9 R3 (s:={ s with bs:=s.bs.set j true }) hs1 j ⟨hpg.1,by show s.pg<1000;exact id (ru 0x3e8a09000028a18110912 hpg.2 hpp.2)⟩ ⟨by exact bz 0xf0980,by exact b0 0x3e8a0f90003e8a10110112 hj hbl⟩
 dsimp only at vb
 refine bi (upd l1 "there" (.int (s.pg*r.len+j*s.sz))) fun l2 el2=> ?_
 have t2:nE ⟨l1,H2⟩= .ok .next ⟨l2,H3⟩:=by
  exists c1,c3,a9 R2 (f := "begin") ⟨by decide,by decide,by decide⟩,mt,ct,vb,el2
 have hsz:=hO.szpos hm
 have hlen':=hO.len
 obtain ⟨cs,q',i0,i1,i2,i3,i4,i5⟩:=BF R3 O3 (pl:=pl) (th:=s.pg*r.len+j*s.sz) (z:=s.sz) ⟨by exact cK 0x98019811 hsz.1,by exact ru 0x3e8a0800003ca18110812 hsz.2 hlen'.2⟩ hpl (fun i j1 j2=>by
   obtain ⟨u1,u2,_⟩:=oq hO hm (k:=j) (by exact bz 0xf0980) (by exact b0 0x1f0f910111 hj) j1 j2
   exact ⟨u1,u2⟩) (l:=l2) (af el2 ∅ c1) (af el2 ∅ c2) (af el2 ∅ c4) (by rw [← el2];simp [upd])
 obtain ⟨l',H'⟩:=q'
 dsimp only at i2 i3 i4 i5
 refine kG ⟨_,H',aS (m:=qB) (q:=⟨l',H'⟩) rfl (by rw [e0];exact ah t1 (ah t2 (ah i0 (by exists i4,i5)))),i2,Rm.Ok.setCs R3 O3 i1,⟨rfl,rfl,rfl,rfl,rfl,rfl,rfl⟩,?_,((bO.pre p2).trans g3).trans (i3.mono fun i hi _=> ?_),?_,i1⟩
 ·exact gD hs _
 ·rw [List.mem_singleton.mp hi];exact Dr ri r
 ·show Rm.own ri { r with ss:=setBs r.ss s.pg (s.bs.set j true) }=_
  unfold Rm.own
  dsimp only
  rw [qZ,jR]
end
theorem o3 {H:Hp} {l:aY} {n:Nat} {ns:List Int} (h:H[n]? = some (.list (ns.map V.int))) (hl:ns.length<64):bn [.ref n] ⟨l,H⟩= .ok (.ref H.length) ⟨l,H++[.list ((dH ns).map V.int)]⟩:=by
 unfold bn;dsimp only;rw [h];dsimp only;rw [pN];exact if_pos hl
theorem nk {H:Hp} {l:aY} {n:Nat} {ps:List (Int×Int)} (h:H[n]? = some (.list (ps.map aE))) (hl:ps.length<64):bn [.ref n] ⟨l,H⟩= .ok (.ref H.length) ⟨l,H++[.list ((nt ps).map aE)]⟩:=by
 cases ps with
 | nil =>
  have:nt []=[]:=List.Perm.eq_nil (vc [])
  unfold bn;dsimp only;rw [h,this];rfl
 | cons p ps =>
  have h1:dw sI ((p::ps).map aE)=none:=by
   rw [List.map_cons];rfl
  unfold bn;dsimp only;rw [h];dsimp only;rw [h1];dsimp only;rw [wV];exact if_pos hl
theorem DH {H:Hp} {l:aY} {n:Nat} {ps:List (Int×Int)} {b:Int} (h:H[n]? = some (.list (ps.map aE))) (hl:ps.length≤1000000) (hb:0≤b):wY (.ref n) (.int b) ⟨l,H⟩= .ok (.ref H.length) ⟨l,H++[.list ((ps.take b.toNat).map aE)]⟩:=by
 have:0≤b∧(ps.map aE).length≤1000000:=⟨hb,by simpa using hl⟩
 unfold wY;dsimp only;rw [bB h];dsimp only;rw [if_pos this,List.map_take]
theorem yI {caps:List String} {x:String} {tst:Cm Bool} {elt:Cm V} {l:aY} {mi:Cm It} {H H1:Hp} {n:Nat} {ps:List (Int×Int)}
  (hmi:mi ⟨l,H⟩= .ok ⟨ps.map aE,fun H=>ay (.ref n) H=some (ps.map aE)⟩ ⟨l,H1⟩) (hn:H1[n]? = some (.list (ps.map aE))) (hlen:ps.length≤1000000)
  (hstep:∀p:Int×Int,bR (an x) tst elt (dX caps l) (aE p) H1= .ok (some (.int p.2)) H1) :
  be caps mi (an x) tst elt ⟨l,H⟩= .ok (.ref H1.length) ⟨l,H1++[.list ((ps.map (·.2)).map V.int)]⟩:=by
 let ψ : V→Option V:=fun v=>match v with | .tup [_,b]=>some b | _=>none
 have hc:=fN (g:=fun H=>ay (.ref n) H=some (ps.map aE)) (bd:=an x) (tst:=tst) (elt:=elt) (lc:=dX caps l) (H:=H1) (bB hn) ψ (ps.map aE) fun v hv=>by
  obtain ⟨p,_,rfl⟩:=List.mem_map.mp hv
  exact hstep p
 have e:(ps.map aE).filterMap ψ = (ps.map (·.2)).map V.int:=by rw [List.filterMap_map,List.map_map,← List.filterMap_eq_map];rfl
 rw [e] at hc
 exact fO hmi (by simpa using hlen) hc
theorem y5 {n:Nat} {ks:List (Int×Int)} {l:aY} {H:Hp} (hn:H[n]? = some (.list (ks.map aE))):cQ (.ref n) ⟨l,H⟩= .ok ⟨ks.map aE,fun H=>ay (.ref n) H=some (ks.map aE)⟩ ⟨l,H⟩:=by
 rw [rZ,bB hn]
theorem xx {ri:Nat} {r:Rm}:∀i∈r.dep ri,i∈r.own ri∨i=r.pl∨i=r.m:=fun i hi=>by
 unfold Rm.dep at hi
 unfold Rm.own
 simp at hi ⊢
 rcases hi with h | h | h | h | h | h | h
 ·exact .inl (.inl h)
 ·exact .inr (.inl h)
 ·exact .inr (.inr h)
 ·exact .inl (.inr (.inl h))
 ·exact .inl (.inr (.inr (.inl h)))
 ·exact .inl (.inr (.inr (.inr (.inl h))))
 ·exact .inl (.inr (.inr (.inr (.inr h))))
def GL (ri:Nat) (z:Int) (a b c:Nat) (l:aY):Prop:=l "self" = some (.inst "Room" ri)∧l "size" = some (.int z)∧l "stay" = some (.ref b)∧l "moves" = some (.ref c)∧l "pages" = some (.ref a)
theorem GL.upd {ri:Nat} {z:Int} {a b c:Nat} {l:aY} (h:GL ri z a b c l) {x:String} {v:V} (hx:x = "page" ∨ x = "slot"):GL ri z a b c (Mine.Lake.upd l x v):=by
 obtain ⟨h1,h2,h3,h4,h5⟩:=h
 rcases hx with rfl | rfl
 ·exact ⟨by simpa [Mine.Lake.upd] using h1,by simpa [Mine.Lake.upd] using h2,by simpa [Mine.Lake.upd] using h3,by simpa [Mine.Lake.upd] using h4,by simpa [Mine.Lake.upd] using h5⟩
 ·exact ⟨by simpa [Mine.Lake.upd] using h1,by simpa [Mine.Lake.upd] using h2,by simpa [Mine.Lake.upd] using h3,by simpa [Mine.Lake.upd] using h4,by simpa [Mine.Lake.upd] using h5⟩
structure GI (H0:Hp) (ri:Nat) (r:Rm) (z:Int) (F0:Vw) (stay zs:List Int) (a b c:Nat) (Mt:List (Int×Int)) (Ft:Vw) (todo:List (Int×Int)) (H:Hp) (r':Rm) (acc:List (Int×Int)):Prop where
 at':aI H ri r'
 ok:r'.Ok
 sm:r.Sm r'
 off:∀x,x∉stay→look r'.ss x=F0 x
 on:∀x∈stay,∃bs,look r'.ss x=some (z,bs)
 mv:Dm r.len z stay (look r'.ss) todo
 m:acc++(eX r.len z stay (look r'.ss) todo).1=Mt
 f:(eX r.len z stay (look r'.ss) todo).2=Ft
 hc:H[c]? = some (.list (acc.map aE))
 ha:H[a]? = some (.list (zs.map V.int))
 hb:H[b]? = some (.list (stay.map V.int))
 chg:bO (c::r.own ri) H0 H
 own:r'.own ri=r.own ri
 few:acc.length+todo.length≤50000
structure GA (ri:Nat) (r:Rm) (a b c:Nat):Prop where
 ca:c≠a
 cb:c≠b
 co:c∉r.own ri
 cp:c≠r.pl
 cm:c≠r.m
 ao:a∉r.own ri
 bo:b∉r.own ri
section
variable {H0:Hp} {ri:Nat} {r:Rm} {z:Int} {F0:Vw} {stay zs:List Int} {a b c:Nat} {Mt:List (Int×Int)} {Ft:Vw} (hA:GA ri r a b c) (hst:stay.length≤40)
include hA hst
theorem CY {g:Int} {k:Nat} {todo:List (Int×Int)} {l:aY} {H:Hp} {r':Rm} {acc:List (Int×Int)} (hI:GI H0 ri r z F0 stay zs a b c Mt Ft ((g,(k:Int))::todo) H r' acc) (hl:GL ri z a b c l) (h1:l "page" = some (.int g)) (h2:l "slot" = some (.int k))
  (hg:g∉stay) {bs0:List Bool} (hF:F0 g=some (z,bs0)) (hk:bs0[k]? = some true):∃H' r'' acc',A3 (hG ⟨l,H⟩= .ok .next ⟨l,H'⟩) (GI H0 ri r z F0 stay zs a b c Mt Ft todo H' r'' acc') (bO (c::r.own ri) H H'):=by
 refine lh fun G kG=> ?_
 obtain ⟨s,hs,y1,y2⟩:=aF (ss:=r'.ss) (v:=(z,bs0)) (by rw [hI.off g hg];exact hF)
 dsimp only at y1 y2
 obtain ⟨hm,ep⟩:=aB hs
 obtain ⟨l1,l2,l3,l4,l5⟩:=hl
 have hR:=hI.at'
 have hO:=hI.ok
 have hkl:=(List.getElem?_eq_some_iff.mp hk).1
 have hbl:=hO.bslen hm
 have hpg:=hO.pg s hm
 have hpp:=hO.p
 have elen:r'.len=r.len:=hI.sm.len
 have vb:=t9 hR (hR.shelf s hm) k ⟨hpg.1,by exact ru 0x3e8a09000028a18110912 hpg.2 hpp.2⟩ ⟨by exact bz 0xf0980,by rw [y2] at hbl;exact id (b0 0x3e8a0f90003e8a10110112 hkl hbl)⟩
 rw [ep,y1,elen] at vb
 obtain ⟨hfind,hmv⟩:=hI.mv
 obtain ⟨h,hh⟩:=Option.isSome_iff_exists.mp hfind
 obtain ⟨v,j,hv,hj⟩:=uU (List.find?_some hh)
 obtain ⟨bsh,hbh⟩:=hI.on h (List.mem_of_find?_eq_some hh)
 rw [hbh] at hv
 cases hv
 have est:=xJ (len:=r.len) (z:=z) (g,(k:Int)) hh hbh hj
 obtain ⟨r2,H2,k1,k2,k3,k4,k5,k6,k7,k8⟩:=EI hR hO (n:=b) (pl:=g*r.len+k*z) hI.hb hI.on hst (fun i i1 i2=>by
  obtain ⟨u1,u2,_⟩:=oq hO hm (k:=k) (by exact bz 0xf0980) (by rw [y2];exact id (b0 0x1f0f910111 hkl)) i1 (by rw [y1];exact i2)
  rw [ep,y1,elen] at u1 u2
  exact ⟨u1,u2⟩) hh hbh hj
 rw [elen] at k1
 have eo:r'.own ri=r.own ri:=hI.own
 rw [eo] at k6 k7
 have c2:=k6.get hI.hc hA.co
 have a2:=k6.get hI.ha hA.ao
 have b2:=k6.get hI.hb hA.bo
 have hfew:=hI.few
 rw [List.length_cons] at hfew
 have hap:=jn (aE (g*r.len+k*z,h*r.len+j*z)) l H2 c2 (by simp;exact id (b0 0xf4240a0100c350a191c0c011 hfew))
 have kd:bC (.ref c) ⟨l,H⟩= .ok true ⟨l,H⟩:=by rw [nj,hI.hc]
 have hcl:=(List.getElem?_eq_some_iff.mp c2).1
 have C3:bO [c] H2 (H2.set c (.list (acc.map aE++[aE (g*r.len+k*z,h*r.len+j*z)]))):=bO.set (by simp)
 have em:=hI.m
 have ef:=hI.f
 rw [uP,est] at em ef
 rw [est] at hmv
 refine kG ⟨_,r2,acc++[(g*r.len+k*z,h*r.len+j*z)],?_,⟨k2.chg C3 fun i hi hx=> ?_,k3,hI.sm.trans k4,fun x hx=> ?_,fun x hx=> ?_,?_,?_,?_,?_,C3.get a2 (by simpa using hA.ca.symm),C3.get b2 (by simpa using hA.cb.symm),?_,k7,?_⟩,?_⟩
 ·exists l1,l2,l3,l4,h1,h2,kd,a9 hR (f := "moved") ⟨by decide,by decide,by decide⟩,a9 hR (f := "begin") ⟨by decide,by decide,by decide⟩,aZ hR,cH hR hs,vb,k1,hap
 ·rw [List.mem_singleton.mp hx] at hi
  rcases xx c hi with h | h | h
  ·rw [k7] at h;exact hA.co h
  ·rw [(hI.sm.trans k4).pl] at h;exact hA.cp h
  ·rw [(hI.sm.trans k4).m] at h;exact hA.cm h
 ·rw [k5]
  have:x≠h:=fun e=>hx (e▸List.mem_of_find?_eq_some hh)
  rw [fE _ _ this]
  exact hI.off x hx
 ·rw [k5]
  by_cases e:x=h
  ·subst e;exact ⟨_,dp _ _ _⟩
  ·rw [fE _ _ e];exact hI.on x hx
 ·rw [k5];exact hmv
 ·rw [k5,List.append_assoc];exact em
 ·rw [k5];exact ef
 ·rw [List.getElem?_set_self hcl];simp
 ·exact (hI.chg.trans (k6.mono fun i hi _=> .tail _ hi)).trans (C3.mono fun i hi _=>by rw [List.mem_singleton.mp hi];exact .head _)
 ·simp;exact id (b0 0xc350a1190cc000c350a191c0c011 hfew)
 ·exact (k6.mono fun i hi _=> .tail _ hi).trans (C3.mono fun i hi _=>by rw [List.mem_singleton.mp hi];exact .head _)
theorem CX {g:Int} {ys:List Int} {l:aY} {H:Hp} {r':Rm} {acc:List (Int×Int)} (hI:GI H0 ri r z F0 stay zs a b c Mt Ft (cR F0 stay (g::ys)) H r' acc) (hl:GL ri z a b c l) (hown:∀i∈c::r.own ri,i<H.length) (hF:∃bs,F0 g=some (z,bs)) :
  ∃l' H' r'' acc',A4 (((an "page" (.int g)).b fun _=>fq) ⟨l,H⟩= .ok .next ⟨l',H'⟩) (GI H0 ri r z F0 stay zs a b c Mt Ft (cR F0 stay ys) H' r'' acc') (GL ri z a b c l') (bO (c::r.own ri) H H'):=by
 refine lh fun G kG=> ?_
 obtain ⟨bs,hF⟩:=hF
 have hl1:=hl.upd (x := "page") (v:= .int g) (.inl rfl)
 have hp1:upd l "page" (.int g) "page" = some (.int g):=gp _ _ _
 refine bi (upd l "page" (.int g)) fun l1 el1=> ?_
 rw [el1] at hl1 hp1
 have hin:inV (.int g) (.ref b) ⟨l1,H⟩= .ok (decide (g∈stay)) ⟨l1,H⟩:=ol (q:=⟨l1,H⟩) hI.hb
 by_cases hg:g∈stay
 ·rw [decide_eq_true hg] at hin
  have e:cR F0 stay (g::ys)=cR F0 stay ys:=by unfold cR;rw [List.flatMap_cons,if_pos hg];rfl
  rw [e] at hI
  refine kG ⟨l1,H,r',acc,?_,hI,hl1,bO.refl _ _⟩
  have st1:=hl1.2.2.1
  exists el1,hp1,st1,hin
 ·rw [decide_eq_false hg] at hin
  have e:cR F0 stay (g::ys)=(cA 0 bs).map (fun k=>(g,k))++cR F0 stay ys:=by
   unfold cR;rw [List.flatMap_cons,if_neg hg];unfold mS;rw [hF]
  rw [e] at hI
  obtain ⟨s,hs,y1,y2⟩:=aF (ss:=r'.ss) (v:=(z,bs)) (by rw [hI.off g hg];exact hF)
  dsimp only at y1 y2
  obtain ⟨hm,ep⟩:=aB hs
  have hR:=hI.at'
  have hS:=hR.shelf s hm
  have hgo:=DV hS (hI.ok.bslen hm)
  rw [y2] at hgo
  have mg:∀l,aJ "Shelf" "gone" (.inst "Shelf" s.sh) ⟨l,H⟩= .ok () ⟨l,H⟩:=fun l=>dT hS.ob rfl
  refine bi (H++[O.list ((cA 0 bs).map V.int)]) fun H1 e1=> ?_
  rw [e1] at hgo
  have p1:H<+:H1:=⟨_,e1⟩
  have x1:H1[H.length]? = some (.list ((cA 0 bs).map V.int)):=by rw [← e1];simp
  have hI1:GI H0 ri r z F0 stay zs a b c Mt Ft ((cA 0 bs).map (fun k=>(g,k))++cR F0 stay ys) H1 r' acc :=
   ⟨hI.at'.pre p1,hI.ok,hI.sm,hI.off,hI.on,hI.mv,hI.m,hI.f,av p1 hI.hc,av p1 hI.ha,av p1 hI.hb,hI.chg.trans (bO.pre p1),hI.own,hI.few⟩
  obtain ⟨q',hq,ks,r2,acc2,ek,_,i1,i2,i3,i4,i5⟩:=fj (g:=fun H'=>ay (.ref H.length) H'=some ((cA 0 bs).map V.int)) (bd:=an "slot") (body:=hG)
   (fun rem q=> ∃(ks:List Int) (r':Rm) (acc:List (Int×Int)),rem=ks.map V.int∧(∀k∈ks,k∈cA 0 bs)∧GI H0 ri r z F0 stay zs a b c Mt Ft (ks.map (fun k=>(g,k))++cR F0 stay ys) q.H r' acc∧GL ri z a b c q.l∧q.l "page" = some (.int g)∧q.H[H.length]? = some (.list ((cA 0 bs).map V.int))∧bO (c::r.own ri) H1 q.H) (fun x rem q hq=>by
    obtain ⟨ks,r',acc,e,w1,w2,w3,w4,w5,w6⟩:=hq
    obtain ⟨l,Hq⟩:=q
    dsimp only at w2 w3 w4 w5 w6
    cases ks with
    | nil=>simp at e
    | cons k ks =>
     obtain ⟨rfl,rfl⟩:x= .int k∧rem=ks.map V.int:=by simpa using e
     obtain ⟨j,ej,hj⟩:=kY bs 0 k (w1 k (.head _))
     rw [Nat.zero_add] at ej
     subst ej
     have w3':=w3.upd (x := "slot") (v:= .int (j:Int)) (.inr rfl)
     obtain ⟨H',r2,acc2,v1,v2,v3⟩:=CY hA hst (l:=upd l "slot" (.int (j:Int))) w2 w3' (af rfl ∅ w4) (by simp [upd]) hg hF hj
     have x2:=v3.get w5 fun hx=>by have:=hown _ hx;exact id (bz 0x909600111 this)
     exact ⟨⟨upd l "slot" (.int (j:Int)),H'⟩,by rw [ni,uY];exact v1,bB x2,ks,r2,acc2,rfl,fun k' hk'=>w1 k' (.tail _ hk'),v2,w3',af rfl ∅ w4,x2,w6.trans v3⟩) _ ⟨l1,H1⟩ ⟨cA 0 bs,r',acc,rfl,fun k hk=>hk,hI1,hl1,hp1,x1,bO.refl _ _⟩
  cases ks with
  | cons _ _=>simp at ek
  | nil =>
  obtain ⟨l2,H2⟩:=q'
  refine kG ⟨l2,H2,r2,acc2,?_,i1,i2,(bO.pre p1).trans i5⟩
  have st1:=hl1.2.2.1
  have se1:=hl1.1
  exists el1,hp1,st1,hin,se1,aZ hR,cH hR hs,mg,hgo,bw x1
  exact hq
end
theorem oZ {p len z:Int} {F:Vw} (hz:1≤len.fdiv z):0≤bU p len F z:=by
 unfold bU
 have:gY ((cc p F z).map (cV F))=((((cc p F z).map (eD F)).sum:Nat):Int):=ve (eD F) _
 rw [this]
 exact (dt (by exact kb 0x1900fce098019811 hz) hz).1
theorem zz {p len z:Int} (hp:p≤40) {F:Vw}:(bS p len F z).length≤40:=by
 rw [ou.length_eq,List.length_map,List.length_take]
 have h1:=(iU (p:=p) (F:=F) (z:=z)).length_eq
 rw [List.length_map] at h1
 have h2:=rc p hp F z
 exact id (tn 0x28a200201000028a10110213 h1 h2 (Nat.min_le_right _ _))
structure GV (ri:Nat) (z per:Int) (a:Nat) (l:aY):Prop where
 s:l "self" = some (.inst "Room" ri)
 z:l "size" = some (.int z)
 p:l "per" = some (.int per)
 g:l "pages" = some (.ref a)
theorem GV.upd {ri a:Nat} {z per:Int} {l l':aY} {x:String} {v:V} (h:GV ri z per a l) (e:upd l x v=l') (n1 : "self" ≠ x) (n2 : "size" ≠ x) (n3 : "per" ≠ x) (n4 : "pages" ≠ x):GV ri z per a l' :=
 ⟨af e n1 h.s,af e n2 h.z,af e n3 h.p,af e n4 h.g⟩
def GT (F:Vw) (z:Int) (zs:List Int):Prop:= ∀g∈zs,∃bs,F g=some (z,bs)
inductive G2 (ri:Nat) (z per:Int) (zs:List Int) (l0:aY) (H:Hp):Prop
 | mk (l1 l2:aY) (H1:Hp) (a:Nat) (t1:ii ⟨l0,H⟩= .ok .next ⟨l1,H⟩) (t2:mq ⟨l1,H⟩= .ok .next ⟨l2,H1⟩) (g:GV ri z per a l2) (p:H<+:H1) (x:H1[a]? = some (.list (zs.map V.int))) (n:H.length≤a)
inductive G3 (ri:Nat) (z per m:Int) (a:Nat) (l:aY) (H:Hp):Prop
 | mk (l':aY) (H':Hp) (t:mr ⟨l,H⟩= .ok .next ⟨l',H'⟩) (g:GV ri z per a l') (m:l' "many" = some (.int m)) (p:H<+:H')
inductive G4 (ri:Nat) (z per m:Int) (a:Nat) (ps:List (Int×Int)) (l:aY) (H:Hp):Prop
 | mk (l':aY) (H':Hp) (n:Nat) (t:mw ⟨l,H⟩= .ok .next ⟨l',H'⟩) (g:GV ri z per a l') (m:l' "many" = some (.int m)) (k:l' "ranks" = some (.ref n)) (p:H<+:H') (x:H'[n]? = some (.list (ps.map aE)))
inductive G6 (ri:Nat) (z per:Int) (a:Nat) (stay:List Int) (l:aY) (H:Hp):Prop
 | mk (l' l'':aY) (H' H'':Hp) (b:Nat) (t5:ij ⟨l,H⟩= .ok .next ⟨l',H'⟩) (t6:ik ⟨l',H'⟩= .ok .next ⟨l'',H''⟩) (g:GL ri z a b H'.length l'') (p:H<+:H'') (x:H''[b]? = some (.list (stay.map V.int))) (y:H''[H'.length]? = some (.list [])) (n:H.length≤b) (n2:b<H'.length) (n3:H'.length<H''.length)
section
variable {H:Hp} {ri:Nat} {r:Rm} (hR:aI H ri r) (hO:r.Ok)
include hR hO
theorem FF {z:Int} (hzx:z∈r.xs):G2 ri z (r.len.fdiv z) (cc r.p (look r.ss) z) (aT ["self", "size"] [.inst "Room" ri,.int z]) H:=by
 generalize e0:aT ["self", "size"] [.inst "Room" ri,.int z]=l0
 have a1:l0 "self" = some (.inst "Room" ri):=e0▸rfl
 have a2:l0 "size" = some (.int z):=e0▸rfl
 have hper:=Av hR hO hzx
 have hpm:∀l,aJ "Plan" "per" (.inst "Plan" r.pl) ⟨l,H⟩= .ok () ⟨l,H⟩:=fun l=>dT hR.plan (Dz _ _ _)
 generalize el1:upd l0 "per" (.int (r.len.fdiv z))=l1
 have t1:ii ⟨l0,H⟩= .ok .next ⟨l1,H⟩:=by exists a1,a2,gj hR,hpm,hper,el1
 have b1:l1 "self" = some (.inst "Room" ri):=af el1 ∅ a1
 have b2:l1 "size" = some (.int z):=af el1 ∅ a2
 obtain ⟨a,H1,hof,p1,x1,ha⟩:=vH hR hO z
 rw [hO.ofSz] at x1
 generalize el2:upd l1 "pages" (.ref a)=l2
 exact ⟨l1,l2,H1,a,t1,(by exists b1,b2,a9 hR (f := "of_size") ⟨by decide,by decide,by decide⟩,hof,el2),⟨af el2 ∅ b1,af el2 ∅ b2,af el2 ∅ (aq el1),aq el2⟩,p1,x1,ha⟩
theorem AU {z g:Int} {bs:List Bool} (hb:look r.ss g=some (z,bs)) (l:aY):∃s H',A4 (df r.ss g=some s) (∀l,aJ "Shelf" "out" (.inst "Shelf" s.sh) ⟨l,H⟩= .ok () ⟨l,H⟩) (aD (bK) [.inst "Shelf" s.sh] ⟨l,H⟩= .ok (.int (cV (look r.ss) g)) ⟨l,H'⟩) (H<+:H'):=by
 obtain ⟨s,hs,y1,y2⟩:=aF hb
 obtain ⟨mo,co⟩:=u7 hR hO (aB hs).1 l
 have hE:cV (look r.ss) g=((s.bs.count true:Nat):Int):=by unfold cV eD;rw [hb,y2]
 rw [← hE] at co
 exact ⟨s,_,hs,mo,co,List.prefix_append _ _⟩
theorem Gv {z per:Int} {a:Nat} {zs:List Int} {l:aY} (hl:GV ri z per a l) (x:H[a]? = some (.list (zs.map V.int))) (hz:zs.length≤40) (hat:GT (look r.ss) z zs):G3 ri z per (gY (zs.map (cV (look r.ss)))) a l H:=by
 have hc:∃H',hX ⟨l,H⟩= .ok (.ref H'.length) ⟨l,H'++[.list (zs.filterMap fun g=>some (V.int (cV (look r.ss) g)))]⟩∧H<+:H':=by
  unfold hX
  refine bJ (n:=a) (ks:=zs) ?_ x (Nat.le_trans hz ∅) (fun g=>some (V.int (cV (look r.ss) g))) fun g hg Hx hp=> ?_
  ·exists hl.g
   exact bw x
  ·obtain ⟨bs,hb⟩:=hat g hg
   obtain ⟨s,H',hs,mo,co,hp'⟩:=AU (hR.pre hp) hO hb (upd (dX ["self"] l) "page" (.int g))
   have d1:upd (dX ["self"] l) "page" (.int g) "self" = some (.inst "Room" ri):=cq ∅ ∅ hl.s
   exact ⟨_,bD (H2:=Hx) rfl (by exists d1,aZ (hR.pre hp),cH (hR.pre hp) hs,mo,co),hp'⟩
 obtain ⟨H2,hc,p2⟩:=hc
 generalize e3:H2++[O.list (zs.filterMap fun g=>some (V.int (cV (look r.ss) g)))]=H3 at hc
 have x3:H3[H2.length]? = some (.list ((zs.map (cV (look r.ss))).map V.int)):=by rw [← e3];simp [Function.comp_def]
 have hsum:=DG (l:=l) x3 (by rw [List.length_map];exact Nat.le_trans hz ∅)
 generalize el:upd l "many" (.int (gY (zs.map (cV (look r.ss)))))=l3
 exact ⟨l3,H3,(by exists hc,hsum,el),hl.upd el ∅ ∅ ∅ ∅,aq el,p2.trans ⟨_,e3⟩⟩
theorem Gw {z per m:Int} {a:Nat} {l:aY} (hl:GV ri z per a l) (hm:l "many" = some (.int m)) (x:H[a]? = some (.list ((cc r.p (look r.ss) z).map V.int))) (hz:(cc r.p (look r.ss) z).length≤40) (hat:GT (look r.ss) z (cc r.p (look r.ss) z)):G4 ri z per m a (b7 r.p (look r.ss) z) l H:=by
 generalize ezs:cc r.p (look r.ss) z=zs at *
 have hc:∃H',hY ⟨l,H⟩= .ok (.ref H'.length) ⟨l,H'++[.list (zs.filterMap fun g=>some (aE (-cV (look r.ss) g,g)))]⟩∧H<+:H':=by
  unfold hY
  refine bJ (n:=a) (ks:=zs) ?_ x (Nat.le_trans hz ∅) (fun g=>some (aE (-cV (look r.ss) g,g))) fun g hg Hx hp=> ?_
  ·exists hl.g
   exact bw x
  ·obtain ⟨bs,hb⟩:=hat g hg
   obtain ⟨s,H',hs,mo,co,hp'⟩:=AU (hR.pre hp) hO hb (upd (dX ["self"] l) "page" (.int g))
   have d1:upd (dX ["self"] l) "page" (.int g) "self" = some (.inst "Room" ri):=cq ∅ ∅ hl.s
   exact ⟨_,bD (H2:=Hx) rfl (by exists d1,aZ (hR.pre hp),cH (hR.pre hp) hs,mo,co),hp'⟩
 obtain ⟨H4,hc,p4⟩:=hc
 generalize e5:H4++[O.list (zs.filterMap fun g=>some (aE (-cV (look r.ss) g,g)))]=H5 at hc
 have x5:H5[H4.length]? = some (.list ((zs.map fun g=>(-cV (look r.ss) g,g)).map aE)):=by rw [← e5];simp [Function.comp_def]
 have hsrt:=nk (l:=l) x5 (by rw [List.length_map];exact Nat.lt_of_le_of_lt hz ∅)
 have ernk:nt (zs.map fun g=>(-cV (look r.ss) g,g))=b7 r.p (look r.ss) z:=by unfold b7;rw [ezs]
 rw [ernk] at hsrt
 generalize e6:H5++[O.list ((b7 r.p (look r.ss) z).map aE)]=H6 at hsrt
 generalize el:upd l "ranks" (.ref H5.length)=l4
 exact ⟨l4,H6,H5.length,(by exists hc,hsrt,el),hl.upd el ∅ ∅ ∅ ∅,af el ∅ hm,aq el,(p4.trans ⟨_,e5⟩).trans ⟨_,e6⟩,by rw [← e6];simp⟩
omit hR in
theorem FG {z:Int} {a n:Nat} {l:aY} (u1:1≤r.len.fdiv z) (hl:GV ri z (r.len.fdiv z) a l) (hm:l "many" = some (.int (gY ((cc r.p (look r.ss) z).map (cV (look r.ss)))))) (hk:l "ranks" = some (.ref n)) (x:H[n]? = some (.list ((b7 r.p (look r.ss) z).map aE))) (hrl:(b7 r.p (look r.ss) z).length≤40) :
  G6 ri z (r.len.fdiv z) a (bS r.p r.len (look r.ss) z) l H:=by
 have hned:=oZ (p:=r.p) (F:=look r.ss) u1
 have htk:=DH (l:=l) x (Nat.le_trans hrl ∅) hned
 have ened:(gY ((cc r.p (look r.ss) z).map (cV (look r.ss)))+r.len.fdiv z-1).fdiv (r.len.fdiv z)=bU r.p r.len (look r.ss) z:=rfl
 have esty:dH (((b7 r.p (look r.ss) z).take (bU r.p r.len (look r.ss) z).toNat).map (·.2))=bS r.p r.len (look r.ss) z:=rfl
 generalize bU r.p r.len (look r.ss) z=nd at *
 generalize etk:(b7 r.p (look r.ss) z).take nd.toNat=tk at *
 have htl:tk.length≤40:=by rw [← etk,List.length_take];exact Nat.le_trans (Nat.min_le_right _ _) hrl
 generalize e7:H++[O.list (tk.map aE)]=H7 at htk
 have x7:H7[H.length]? = some (.list (tk.map aE)):=by rw [← e7];simp
 generalize gY ((cc r.p (look r.ss) z).map (cV (look r.ss)))=m at *
 generalize bS r.p r.len (look r.ss) z=stay at *
 have hc3:hZ ⟨l,H⟩= .ok (.ref H7.length) ⟨l,H7++[.list ((tk.map (·.2)).map V.int)]⟩:=by
  unfold hZ
  refine yI (n:=H.length) (ps:=tk) ?_ x7 (Nat.le_trans htl ∅) fun p=> ?_
  ·have dv:∀q,dG (.int (m+r.len.fdiv z-1)) (.int (r.len.fdiv z)) q= .ok (.int nd) q:=fun q=>gv (fun h=>by rw [h] at u1;exact absurd u1 ∅) ened
   exists hl.p,hm,hk,dv,htk,y5 x7
  ·have hit:∀q,aj (aE p) (.int 1) q= .ok (.int p.2) q:=fun q=>rfl
   exact bD (H2:=H7) rfl (by exists hit)
 generalize e8:H7++[O.list ((tk.map (·.2)).map V.int)]=H8 at hc3
 have x8:H8[H7.length]? = some (.list ((tk.map (·.2)).map V.int)):=by rw [← e8];simp
 have hso:=o3 (l:=l) x8 (by rw [List.length_map];exact Nat.lt_of_le_of_lt htl ∅)
 rw [esty] at hso
 generalize e9:H8++[O.list (stay.map V.int)]=H9 at hso
 have x9:H9[H8.length]? = some (.list (stay.map V.int)):=by rw [← e9];simp
 generalize el5:upd l "stay" (.ref H8.length)=l5
 have t5:ij ⟨l,H⟩= .ok .next ⟨l5,H9⟩:=by exists hc3,hso,el5
 generalize ea:H9++[O.list []]=Ha
 generalize el6:upd l5 "moves" (.ref H9.length)=l6
 have t6:ik ⟨l5,H9⟩= .ok .next ⟨l6,Ha⟩:=by exists el6,ea
 have g5:=hl.upd el5 ∅ ∅ ∅ ∅
 have g6:=g5.upd el6 ∅ ∅ ∅ ∅
 have q1:H<+:H8:=List.IsPrefix.trans ⟨_,e7⟩ ⟨_,e8⟩
 exact ⟨l5,l6,H9,Ha,H8.length,t5,t6,⟨g6.s,g6.z,af el6 ∅ (aq el5),aq el6,g6.g⟩,(q1.trans ⟨_,e9⟩).trans ⟨_,ea⟩,av ⟨_,ea⟩ x9,by rw [← ea];simp,q1.length_le,by rw [← e9];simp,by rw [← ea];simp⟩
end
inductive Gt (Ha:Hp) (ri:Nat) (r:Rm) (z:Int) (F:Vw) (stay zs:List Int) (a b c:Nat) (Mt:List (Int×Int)) (Ft:Vw) (rem:List V) (q:S):Prop
 | mk (ys:List Int) (r':Rm) (acc:List (Int×Int)) (e:rem=ys.map V.int) (w:∀y∈ys,y∈zs) (i:GI Ha ri r z F stay zs a b c Mt Ft (cR F stay ys) q.H r' acc) (l:GL ri z a b c q.l)
inductive Gu (H7:Hp) (ri:Nat) (r7:Rm) (z:Int) (Ft:Vw) (stay zs:List Int) (a b c:Nat) (acc:List (Int×Int)) (rem:List V) (q:S):Prop
 | mk (ys:List Int) (e:rem=ys.map V.int) (w:∀y∈ys,y∈zs) (i:Fo H7 ri r7 (iM Ft (zs.filter fun g => !decide (g∈stay))) (ys.filter fun g => !decide (g∈stay)) q) (l:GL ri z a b c q.l) (x:q.H[a]? = some (.list (zs.map V.int))) (y:q.H[b]? = some (.list (stay.map V.int))) (k:q.H[c]? = some (.list (acc.map aE)))
section
variable {Ha:Hp} {ri:Nat} {r:Rm} {z:Int} {F:Vw} {stay zs:List Int} {a b c:Nat} {Mt:List (Int×Int)} {Ft:Vw}
theorem FH (hA:GA ri r a b c) (hst:stay.length≤40) (hown:∀i∈c::r.own ri,i<Ha.length) (hat:GT F z zs) {x:V} {rem:List V} {q:S} (h:Gt Ha ri r z F stay zs a b c Mt Ft (x::rem) q) :
  ∃q',(an "page" x).b (fun _=>fq) q= .ok .next q'∧ay (.ref a) q'.H=some (zs.map V.int)∧Gt Ha ri r z F stay zs a b c Mt Ft rem q':=by
 obtain ⟨l,Hq⟩:=q
 cases h with
 | mk ys r' acc e w1 w2 w3 =>
 cases ys with
 | nil=>simp at e
 | cons g ys =>
  obtain ⟨rfl,rfl⟩:x= .int g∧rem=ys.map V.int:=by simpa using e
  obtain ⟨l',H',r'',acc',v1,v2,v3,v4⟩:=CX hA hst w2 w3 (fun i hi=>Nat.lt_of_lt_of_le (hown i hi) w2.chg.len) (hat g (w1 g (.head _)))
  exact ⟨⟨l',H'⟩,v1,bB v2.ha,ys,r'',acc',rfl,fun y hy=>w1 y (.tail _ hy),v2,v3⟩
theorem FI {H7:Hp} {r7:Rm} {acc:List (Int×Int)} {x:V} {rem:List V} {q:S} (h:Gu H7 ri r7 z Ft stay zs a b c acc (x::rem) q) :
  ∃q',(an "page" x).b (fun _=>hH) q= .ok .next q'∧ay (.ref a) q'.H=some (zs.map V.int)∧Gu H7 ri r7 z Ft stay zs a b c acc rem q':=by
 obtain ⟨l,Hq⟩:=q
 cases h with
 | mk ys e w0 w1 w2 w3 w4 w5 =>
 cases ys with
 | nil=>simp at e
 | cons g ys =>
  obtain ⟨rfl,rfl⟩:x= .int g∧rem=ys.map V.int:=by simpa using e
  have hl1:=w2.upd (x := "page") (v:= .int g) (.inl rfl)
  generalize el1:upd l "page" (.int g)=l1 at hl1
  have hp1:l1 "page" = some (.int g):=aq el1
  have hin:inV (.int g) (.ref b) ⟨l1,Hq⟩= .ok (decide (g∈stay)) ⟨l1,Hq⟩:=ol (q:=⟨l1,Hq⟩) w4
  have st1:=hl1.2.2.1
  by_cases hg:g∈stay
  ·rw [decide_eq_true hg] at hin
   rw [List.filter_cons_of_neg (by simp [hg])] at w1
   exact ⟨⟨l1,Hq⟩,(by exists el1,hp1,st1,hin),bB w3,ys,rfl,fun y hy=>w0 y (.tail _ hy),w1,hl1,w3,w4,w5⟩
  ·rw [decide_eq_false hg] at hin
   rw [List.filter_cons_of_pos (by simp [hg])] at w1
   have w1':Fo H7 ri r7 (iM Ft (zs.filter fun g => !decide (g∈stay))) (g::ys.filter fun g => !decide (g∈stay)) ⟨l1,Hq⟩:=w1
   obtain ⟨v,H',k1,k2,k3,k4,k5⟩:=w1'.pop
   obtain ⟨rp,hrp,_,hrsm,_⟩:=w1
   have hne:∀ {i:Nat} {xs:List V},Hq[i]? = some (.list xs)→i∉[r7.d]:=fun {i xs} hi hm=>by
    rw [List.mem_singleton.mp hm,← hrsm.d,hrp.racks] at hi;cases hi
   have se1:=hl1.1
   exact ⟨⟨l1,H'⟩,(by exists el1,hp1,se1,st1,hin,k4,k1,k2),bB (k5.get w3 (hne w3)),ys,rfl,fun y hy=>w0 y (.tail _ hy),k3 _,hl1,k5.get w3 (hne w3),k5.get w4 (hne w4),k5.get w5 (hne w5)⟩
end
section
variable {H:Hp} {ri:Nat} {r:Rm} (hR:aI H ri r) (hO:r.Ok)
include hR hO
theorem DU {z:Int} (hzx:z∈r.xs):∃n r' H',Hy (j5 [.inst "Room" ri,.int z] H= .ok (.ref n) H') (H.length≤n) (H'[n]? = some (.list ((Ac r.p r.len (look r.ss) z).map aE))) (aI H' ri r') r'.Ok (r.Sm r') (look r'.ss=CV r.p r.len (look r.ss) z) (bO (r.own ri) H H') (∀i∈r'.own ri,i∈r.own ri) ((Ac r.p r.len (look r.ss) z).length≤50000):=by
 refine lh fun G kG=> ?_
 obtain ⟨u1,u2⟩:=rY hR hO hzx
 have hp40:=hO.p.2
 have hat:GT (look r.ss) z (cc r.p (look r.ss) z):=fun g hg=>Bw hg
 have hslots:∀g v,look r.ss g=some v→v.1=z→(v.2.length:Int)=r.len.fdiv z:=fun g v hv hz=>by
  obtain ⟨s,hs,y1,y2⟩:=aF hv
  rw [← y2,← hz,← y1]
  exact hO.slots s (aB hs).1
 have hokk:=CW (p:=r.p) hslots u1
 have hzl:=rc r.p hp40 (look r.ss) z
 have hrl:(b7 r.p (look r.ss) z).length≤40:=by
  have h1:=(iU (p:=r.p) (F:=look r.ss) (z:=z)).length_eq
  rw [List.length_map] at h1;exact Nat.le_trans (Nat.le_of_eq h1) hzl
 have hstl:=zz (len:=r.len) (z:=z) hp40 (F:=look r.ss)
 have hstin:∀g∈bS r.p r.len (look r.ss) z,g∈cc r.p (look r.ss) z:=fun g hg=>ye hg
 cases FF hR hO hzx with
 | mk l1 l2 H1 a t1 t2 g2 p1 x1 ha =>
 cases Gv (hR.pre p1) hO g2 x1 hzl hat with
 | mk l3 H3 t3 g3 m3 p3 =>
 cases Gw (hR.pre (p1.trans p3)) hO g3 m3 (av p3 x1) hzl hat with
 | mk l4 H6 n4 t4 g4 m4 k4 p4 x4 =>
 cases FG hO u1 g4 m4 k4 x4 hrl with
 | mk l5 l6 H9 Ha b t5 t6 gl p6 xb xc nb nc na =>
 have P1a:H1<+:Ha:=(p3.trans p4).trans p6
 have P0a:H<+:Ha:=p1.trans P1a
 have xa:=av P1a x1
 have aH1:a<H1.length:=(List.getElem?_eq_some_iff.mp x1).1
 have lt4:H1.length≤H6.length:=(p3.trans p4).length_le
 have l01:=p1.length_le
 have olt:=uV hR
 have plt:=(List.getElem?_eq_some_iff.mp hR.plan).1
 have mlt:=(List.getElem?_eq_some_iff.mp hR.sizes).1
 have hA:GA ri r a b H9.length:=⟨by exact fun x9=>G1 0x9096322104014311211110015 nb nc aH1 lt4 x9,by exact fun x9=>b0 0x9096012110112 nc x9,fun h=>by have:=olt _ h;exact id (lA [_,_,_,_,_,_] [] 0x90960411250151114311320110016 ha nb nc aH1 lt4 this),by exact fun x9=>lA [_,_,_,_,_,_,_] [] 0x909664210611250151114311320110017 ha nb nc aH1 lt4 plt x9,by exact fun x9=>lA [_,_,_,_,_,_,_] [] 0x909664210611250151114311320110017 ha nb nc aH1 lt4 mlt x9,fun h=>by have:=olt _ h;exact id (b0 0x9096011110012 ha this),fun h=>by have:=olt _ h;exact id (G1 0x9096031124014111320110015 ha nb aH1 lt4 this)⟩
 have hown:∀i∈H9.length::r.own ri,i<Ha.length:=fun i hi=>by
  rcases List.mem_cons.mp hi with rfl | hi
  ·exact na
  ·have:=olt i hi;exact id (lA [_,_,_,_,_,_,_] [] 0x3615611450104013211211110016 nb nc na lt4 l01 this)
 have hits:(cR (look r.ss) (bS r.p r.len (look r.ss) z) (cc r.p (look r.ss) z)).length≤(cc r.p (look r.ss) z).length*1000:=Am _ _ 1000 (fun g=>by
  unfold eD
  split
  ·rename_i v hv
   obtain ⟨s,hs,_,y2⟩:=aF hv
   rw [← y2]
   exact Nat.le_trans List.count_le_length (hO.bslen (aB hs).1)
  ·exact Nat.zero_le _) _
 have eGM:Ac r.p r.len (look r.ss) z=(eX r.len z (bS r.p r.len (look r.ss) z) (look r.ss) (cR (look r.ss) (bS r.p r.len (look r.ss) z) (cc r.p (look r.ss) z))).1:=rfl
 have eGF:CV r.p r.len (look r.ss) z=iM (eX r.len z (bS r.p r.len (look r.ss) z) (look r.ss) (cR (look r.ss) (bS r.p r.len (look r.ss) z) (cc r.p (look r.ss) z))).2 ((cc r.p (look r.ss) z).filter fun g => !decide (g∈bS r.p r.len (look r.ss) z)):=rfl
 have zn:(cc r.p (look r.ss) z).Nodup:=rt
 rw [eGM,eGF] at kG
 generalize bS r.p r.len (look r.ss) z=stay at *
 generalize cc r.p (look r.ss) z=zs at *
 generalize eM:(eX r.len z stay (look r.ss) (cR (look r.ss) stay zs)).1=Mt at *
 generalize eFt:(eX r.len z stay (look r.ss) (cR (look r.ss) stay zs)).2=Ft at *
 have gi0:GI Ha ri r z (look r.ss) stay zs a b H9.length Mt Ft (cR (look r.ss) stay zs) Ha r [] :=
  ⟨hR.pre P0a,hO,Rm.Sm.rfl r,fun x _=>rfl,fun x hx=>hat x (hstin x hx),hokk,eM,eFt,xc,xa,xb,bO.refl _ _,rfl,by simp;omega⟩
 obtain ⟨q7,hq7,gt7⟩:=fj (g:=fun H'=>ay (.ref a) H'=some (zs.map V.int)) (bd:=an "page") (body:=fq) (Gt Ha ri r z (look r.ss) stay zs a b H9.length Mt Ft) (fun x rem q h=>FH hA hstl hown hat h) _ ⟨l6,Ha⟩ ⟨zs,r,[],rfl,fun y hy=>hy,gi0,gl⟩
 obtain ⟨l7,H7⟩:=q7
 cases gt7 with
 | mk ys r7 acc ey _ gi7 gl7 =>
 cases ys with
 | cons _ _=>simp at ey
 | nil =>
 have t7:mx ⟨l6,Ha⟩= .ok .next ⟨l7,H7⟩:=bq (bq (g_get gl.2.2.2.2) (bw xa)) hq7
 have em:acc=Mt:=by have:=gi7.m;simpa [cR,oh] using this
 have ef:look r7.ss=Ft:=by have:=gi7.f;simpa [cR,oh] using this
 obtain ⟨q8,hq8,gu8⟩:=fj (g:=fun H'=>ay (.ref a) H'=some (zs.map V.int)) (bd:=an "page") (body:=hH) (Gu H7 ri r7 z Ft stay zs a b H9.length acc) (fun x rem q h=>FI h) _ ⟨l7,H7⟩ ⟨zs,rfl,fun y hy=>hy,⟨r7,gi7.at',gi7.ok,Rm.Sm.rfl r7,by rw [ef],zn.filter _,fun g hg=>by
    obtain ⟨h1,h2⟩:=List.mem_filter.mp hg
    obtain ⟨bs,hb⟩:=hat g h1
    exact ⟨_,by rw [gi7.off g (by simpa using h2)];exact hb⟩,bO.refl _ _,fun i hi=>hi,rfl⟩,gl7,gi7.ha,gi7.hb,gi7.hc⟩
 obtain ⟨l8,H8⟩:=q8
 cases gu8 with
 | mk ys8 ey8 _ pp8 gl8 z1 z2 z3 =>
 cases ys8 with
 | cons _ _=>simp at ey8
 | nil =>
 obtain ⟨r8,g1,g2,g3,g4,_,_,g7,g8,_⟩:=pp8
 rw [List.filter_nil,qS] at g4
 have t8:my ⟨l7,H7⟩= .ok .next ⟨l8,H8⟩:=bq (bq (g_get gl7.2.2.2.2) (bw gi7.ha)) hq8
 have few:=gi7.few
 refine kG ⟨H9.length,r8,H8,aS (m:=oV) (q:=⟨l8,H8⟩) rfl (ah t1 (ah t2 (ah t3 (ah t4 (ah t5 (ah t6 (ah t7 (ah t8 (bq (g_get gl8.2.2.2.1) rfl))))))))),by exact G1 0x24034010301211110014 nb nc lt4 l01,em▸z3,g1,g2,gi7.sm.trans g3,g4,?_,fun i hi=>gi7.own▸g8 i hi,by rw [← em];exact id (b0 0xc350a0000c350a10c011 few)⟩
 have h1:bO (r.own ri) H H7:=(bO.pre P0a).trans' gi7.chg fun i hi=>by
  rcases List.mem_cons.mp hi with rfl | hi
  ·exact .inr (by exact G1 0x24034010301211110014 nb nc lt4 l01)
  ·exact .inl hi
 exact h1.trans (by rw [gi7.own] at g7;exact g7)
end
noncomputable def aH.mnt (s:aH):Int×V:=(s.pg,.ref s.sh)
structure lS (H:Hp) (d:Nat) (ms:List aH):Prop where
 dict:H[d]? = some (.dict (ms.map aH.mnt))
 row:∀s∈ms,H[s.sh]? = some (.list [.int s.sz,.ref s.t])
 bits:∀s∈ms,H[s.t]? = some (.list (s.bs.map V.bool))
structure lT (p len:Int) (ms:List aH):Prop where
 hp:1≤p∧p≤40
 hlen:1≤len∧len≤60
 ndp:(ms.map (·.pg)).Nodup
 ndt:(ms.map (·.t)).Nodup
 pg:∀s∈ms,0≤s.pg∧s.pg<p
 sz:∀s∈ms,1≤s.sz∧s.sz≤len
 slots:∀s∈ms,(s.bs.length:Int)=len.fdiv s.sz
noncomputable def bZ (d:Nat) (ms:List aH):List Nat:=d::(ms.map (·.sh)++ms.map (·.t))
theorem qK {H:Hp} {d:Nat} {ms:List aH} (h:lS H d ms):∀i∈bZ d ms,i<H.length:=fun i hi=>by
 have lt:∀ {j:Nat} {o:O},H[j]? = some o→j<H.length:=fun h=>(List.getElem?_eq_some_iff.mp h).1
 unfold bZ at hi
 simp at hi
 rcases hi with rfl | ⟨s,hs,rfl⟩ | ⟨s,hs,rfl⟩
 ·exact lt h.dict
 ·exact lt (h.row s hs)
 ·exact lt (h.bits s hs)
theorem xH {d:Nat} {ms:List aH} {s:aH} (h:s∈ms):s.t∈bZ d ms:=by simp [bZ];exact .inr (.inr ⟨s,h,rfl⟩)
theorem lS.pre {H H':Hp} {d:Nat} {ms:List aH} (h:lS H d ms) (e:H<+:H'):lS H' d ms:=⟨av e h.dict,fun s hs=>av e (h.row s hs),fun s hs=>av e (h.bits s hs)⟩
theorem lS.chg {F:List Nat} {H H':Hp} {d:Nat} {ms:List aH} (h:lS H d ms) (a:bO F H H') (hd:∀i∈bZ d ms,i∉F):lS H' d ms :=
 ⟨a.get h.dict (hd _ (by simp [bZ])),fun s hs=>a.get (h.row s hs) (hd _ (by simp [bZ];exact .inr (.inl ⟨s,hs,rfl⟩))),fun s hs=>a.get (h.bits s hs) (hd _ (xH hs))⟩
theorem lT.keys {p len:Int} {ms:List aH} (h:lT p len ms):dH (ms.map (·.pg))=bh p (look ms):=AZ h.ndp h.pg
theorem lT.few {p len:Int} {ms:List aH} (h:lT p len ms):ms.length≤40:=by
 have h1:=ed p h.hp.2 (look ms)
 rw [← h.keys,lJ,List.length_map] at h1
 exact h1
theorem lT.bslen {p len:Int} {ms:List aH} (h:lT p len ms) {s:aH} (hs:s∈ms):s.bs.length≤60:=by
 have h1:=h.slots s hs
 have h2:=h.sz s hs
 have h3:=h.hlen
 have:=(dt (a:=len) (b:=s.sz) (by exact cK 0x98019811 h3.1) h2.1).2.1
 exact id (BU 0x3ca00108100003ca18100fa13 h1 h3.2 this)
theorem jj:∀(ss:List aH) (g:Int),(ss.map aH.mnt).lookup g=(df ss g).map fun s=> .ref s.sh
 | [],_=>rfl
 | a::ss,g=>by
  rw [List.map_cons]
  unfold aH.mnt df
  rw [List.lookup_cons]
  by_cases e:g=a.pg
  ·subst e;rw [List.find?_cons_of_pos (by simp)];simp
  ·have e1:(g==a.pg)=false:=by simpa using e
   have e2:¬((a.pg==g)=true):=by simpa using fun x=>e x.symm
   rw [e1,List.find?_cons_of_neg (p:=fun s':aH=>s'.pg==g) e2]
   exact jj ss g
theorem Dk (ss:List aH):(ss.map aH.mnt).map (·.1)=ss.map (·.pg):=by rw [List.map_map];rfl
theorem B7 (ss:List aH) (g:Int) (bs:List Bool):(setBs ss g bs).map aH.mnt=ss.map aH.mnt:=by
 unfold setBs
 rw [List.map_map]
 refine List.map_congr_left fun s _=> ?_
 show aH.mnt (if s.pg=g then { s with bs:=bs } else s)=_
 split<;>rfl
theorem rF:∀(ss:List aH) (g:Int),(cW ss g).map aH.mnt=ll g (ss.map aH.mnt)
 | [],_=>rfl
 | s::ss,g=>by
  unfold cW ll
  rw [List.map_cons]
  by_cases e:s.pg=g
  ·rw [List.filter_cons_of_neg (by simp [e]),List.filter_cons_of_neg (by simp [aH.mnt,e])];exact rF ss g
  ·rw [List.filter_cons_of_pos (by simp [e]),List.filter_cons_of_pos (by simp [aH.mnt,e]),List.map_cons];congr 1;exact rF ss g
theorem DB (ss:List aH) (s:aH):(ie ss s).map aH.mnt=qu s.pg (.ref s.sh) (ss.map aH.mnt):=by
 unfold ie qu
 rw [jj,Option.isSome_map]
 split
 ·rw [List.map_map,List.map_map]
  refine List.map_congr_left fun a _=> ?_
  show aH.mnt (if a.pg=s.pg then s else a)=if (aH.mnt a).1=s.pg then ((aH.mnt a).1,.ref s.sh) else aH.mnt a
  by_cases e:a.pg=s.pg
  ·rw [if_pos e,if_pos (show (aH.mnt a).1=s.pg from e)];simp [aH.mnt,e]
  ·rw [if_neg e,if_neg (show ¬(aH.mnt a).1=s.pg from e)]
 ·rw [List.map_append];rfl
theorem yx:∀bs:List Bool,((bs.map PyData.bool).any fun y=>PyData.eqv y (.bool true)) = !decide (bs.count true=0)
 | []=>rfl
 | true::r=>by simp [uq]
 | false::r=>by
  rw [List.map_cons,List.any_cons,yx r,uq,List.count_cons_of_ne ∅];simp
theorem om {H:Hp} {i:Nat} {bs:List Bool} {l:aY} (h:H[i]? = some (.list (bs.map .bool))):inV (.bool true) (.ref i) ⟨l,H⟩= .ok (!decide (bs.count true=0)) ⟨l,H⟩:=by
 have e:ET H (.bool true) (bs.map .bool)=some (!decide (bs.count true=0)):=by
  simp only [ET,oz,oA,Option.bind_some,jS,(q6 bs).shaped ∅,Bool.and_self,if_true,yx]
 unfold inV;dsimp only;rw [h];dsimp only;rw [e]
theorem yE (b:Bool):∀bs:List Bool,(bs.map PyData.bool).countP (fun y=>PyData.eqv y (.bool b))=bs.count b
 | []=>rfl
 | x::r=>by
  rw [List.map_cons,List.countP_cons,yE b r,uq,List.count_cons]
  cases x<;>cases b<;>rfl
theorem oj {H:Hp} {i:Nat} {bs:List Bool} {l:aY} (b:Bool) (h:H[i]? = some (.list (bs.map .bool))):j4 (.ref i) (.bool b) ⟨l,H⟩= .ok (.int ((bs.count b:Nat):Int)) ⟨l,H⟩:=by
 simp only [j4,h,oz,oA]
 rw [if_pos ⟨jS _,(q6 bs).shaped ∅⟩,yE]
section
variable {H:Hp} {d:Nat} {ms:List aH} {p len:Int} (hM:lS H d ms) (hO:lT p len ms)
include hM
theorem bF {g:Int} {s:aH} (h:df ms g=some s) (l:aY):aj (.ref d) (.int g) ⟨l,H⟩= .ok (.ref s.sh) ⟨l,H⟩:=by
 exact FK hM.dict (by rw [jj,h];rfl)
theorem EW (g:Int) (l:aY):inV (.int g) (.ref d) ⟨l,H⟩= .ok (look ms g).isSome ⟨l,H⟩:=by
 rw [Hh g hM.dict,jj];unfold look;cases df ms g<;>rfl
theorem jQ {s:aH} (hs:s∈ms) (l:aY):aj (.ref s.sh) (.int 0) ⟨l,H⟩= .ok (.int s.sz) ⟨l,H⟩:=mR (hM.row s hs) ⟨by decide,by decide⟩ rfl
theorem ee {s:aH} (hs:s∈ms) (l:aY):aj (.ref s.sh) (.int 1) ⟨l,H⟩= .ok (.ref s.t) ⟨l,H⟩:=mR (hM.row s hs) ⟨by decide,by decide⟩ rfl
theorem jP {s:aH} (hs:s∈ms) (l:aY):bC (.ref s.t) ⟨l,H⟩= .ok true ⟨l,H⟩:=by rw [nj,hM.bits s hs]
theorem tX (l:aY):bC (.ref d) ⟨l,H⟩= .ok false ⟨l,H⟩:=by rw [nj,hM.dict]
include hO
theorem kN (l:aY):bn [.ref d] ⟨l,H⟩= .ok (.ref H.length) ⟨l,H++[.list ((bh p (look ms)).map V.int)]⟩:=by
 have h:=hO.few
 have:(ms.map aH.mnt).length<64:=by simp;exact id (bz 0x40a01000028a0011 h)
 unfold bn;dsimp only;rw [hM.dict];dsimp only;rw [if_pos this,Dk,hO.keys]
theorem lS.setBs {s:aH} (hs:s∈ms) (bs:List Bool):lS (H.set s.t (.list (bs.map V.bool))) d (Mine.Lake.setBs ms s.pg bs):=by
 have hb:=hM.bits s hs
 have hlt:=(List.getElem?_eq_some_iff.mp hb).1
 refine ⟨?_,fun s' hs'=> ?_,fun s' hs'=> ?_⟩
 ·rw [B7,List.getElem?_set_ne fun e=> ?_]
  ·exact hM.dict
  ·rw [e,hM.dict] at hb;cases hb
 ·obtain ⟨s0,h0,e⟩:=eS hs'
  have e1:s'.sh=s0.sh∧s'.sz=s0.sz∧s'.t=s0.t:=by rcases e with ⟨_,rfl⟩ | ⟨_,rfl⟩<;>exact ⟨rfl,rfl,rfl⟩
  rw [e1.1,e1.2.1,e1.2.2,List.getElem?_set_ne fun e=> ?_]
  ·exact hM.row s0 h0
  ·rw [e,hM.row s0 h0] at hb
   cases hc:s.bs with
   | nil=>rw [hc] at hb;cases hb
   | cons x r=>rw [hc] at hb;cases hb
 ·obtain ⟨s0,h0,⟨e,rfl⟩ | ⟨e,rfl⟩⟩:=eS hs'
  ·have:s0=s:=Option.some.inj ((dU hO.ndp h0).symm.trans (by rw [e];exact dU hO.ndp hs))
   subst this
   show (H.set s0.t _)[s0.t]? = _
   rw [List.getElem?_set_self hlt]
  ·have hne:s.t≠s'.t:=fun q=>e (by rw [lD hO.ndt hs h0 q])
   rw [List.getElem?_set_ne hne];exact hM.bits s' h0
omit hM in
theorem lT.setBs {s:aH} (hs:s∈ms) {bs:List Bool} (hl:bs.length=s.bs.length):lT p len (Mine.Lake.setBs ms s.pg bs):=by
 refine ⟨hO.hp,hO.hlen,by rw [zy];exact hO.ndp,by rw [jR];exact hO.ndt,fun s' hs'=> ?_,fun s' hs'=> ?_,fun s' hs'=> ?_⟩
 ·obtain ⟨s0,h0,⟨e,rfl⟩ | ⟨e,rfl⟩⟩:=eS hs'
  ·exact hO.pg s0 h0
  ·exact hO.pg _ h0
 ·obtain ⟨s0,h0,⟨e,rfl⟩ | ⟨e,rfl⟩⟩:=eS hs'
  ·exact hO.sz s0 h0
  ·exact hO.sz _ h0
 ·obtain ⟨s0,h0,⟨e,rfl⟩ | ⟨e,rfl⟩⟩:=eS hs'
  ·have:s0=s:=Option.some.inj ((dU hO.ndp h0).symm.trans (by rw [e];exact dU hO.ndp hs))
   subst this
   show (bs.length:Int)=_
   rw [hl];exact hO.slots _ h0
  ·exact hO.slots _ h0
theorem lS.del (g:Int):lS (H.set d (.dict (ll g (ms.map aH.mnt)))) d (cW ms g):=by
 have hlt:=(List.getElem?_eq_some_iff.mp hM.dict).1
 refine ⟨by rw [List.getElem?_set_self hlt,rF],fun s hs=> ?_,fun s hs=> ?_⟩
 ·have hm:=(List.mem_filter.mp hs).1
  rw [List.getElem?_set_ne fun e=> ?_]
  ·exact hM.row s hm
  ·have:=hM.row s hm;rw [← e,hM.dict] at this;cases this
 ·have hm:=(List.mem_filter.mp hs).1
  rw [List.getElem?_set_ne fun e=> ?_]
  ·exact hM.bits s hm
  ·have:=hM.bits s hm;rw [← e,hM.dict] at this;cases this
omit hM in
theorem lT.del (g:Int):lT p len (cW ms g):=by
 have sub:(cW ms g).Sublist ms:=List.filter_sublist
 have mem:∀s∈cW ms g,s∈ms:=fun s hs=>sub.mem hs
 exact ⟨hO.hp,hO.hlen,hO.ndp.sublist (sub.map _),hO.ndt.sublist (sub.map _),fun s hs=>hO.pg s (mem s hs),fun s hs=>hO.sz s (mem s hs),fun s hs=>hO.slots s (mem s hs)⟩
omit hM hO in
theorem mY (g:Int):∀i∈bZ d (cW ms g),i∈bZ d ms:=fun i hi=>by
 unfold bZ at hi ⊢
 have sub:∀s∈cW ms g,s∈ms:=fun s hs=>(List.mem_filter.mp hs).1
 simp at hi ⊢
 rcases hi with h | ⟨s,hs,rfl⟩ | ⟨s,hs,rfl⟩
 ·exact .inl h
 ·exact .inr (.inl ⟨s,sub s hs,rfl⟩)
 ·exact .inr (.inr ⟨s,sub s hs,rfl⟩)
theorem xG {g:Int} {s:aH} (hf:df ms g=some s) (l:aY):jF (.ref d) (.int g) ⟨l,H⟩= .ok (.ref s.sh) ⟨l,H.set d (.dict (ll g (ms.map aH.mnt)))⟩:=by
 have:=hO.few
 have h1:(ms.map aH.mnt).length≤1000000:=by simp;exact id (bz 0xf4240a00000028a0011 this)
 simp only [jF,hM.dict,if_pos h1,jj,hf];rfl
theorem lS.put {g z:Int} {bs:List Bool}:lS ((H++[O.list [V.bool false],O.list (bs.map V.bool),O.list [.int z,.ref (H.length+1)]]).set d (.dict (qu g (.ref (H.length+2)) (ms.map aH.mnt)))) d (ie ms ⟨g,H.length+2,H.length+1,z,bs⟩):=by
 have hdl:=(List.getElem?_eq_some_iff.mp hM.dict).1
 have ne:∀ {i:Nat} {o:O},H[i]? = some o→(∀xs,o≠ .dict xs)→d≠i:=fun {i o} h hn e=>by rw [← e,hM.dict] at h;cases h;exact hn _ rfl
 have get:∀ {i:Nat} {o:O},H[i]? = some o→(∀xs,o≠ .dict xs)→((H++[O.list [V.bool false],O.list (bs.map V.bool),O.list [.int z,.ref (H.length+1)]]).set d (.dict (qu g (.ref (H.length+2)) (ms.map aH.mnt))))[i]? = some o:=fun h hn=>by
  rw [List.getElem?_set_ne (ne h hn)];exact av ⟨_,rfl⟩ h
 refine ⟨?_,fun s' hs'=> ?_,fun s' hs'=> ?_⟩
 ·rw [List.getElem?_set_self (by simp;exact id (b0 0x391c0110111 hdl)),DB]
 ·rcases cM hs' with rfl | ⟨hm,_⟩
  ·show (List.set _ d _)[H.length+2]? = _
   rw [List.getElem?_set_ne (by exact fun x9=>b0 0x9096291c03110112 hdl x9)];simp
  ·exact get (hM.row s' hm) (by simp)
 ·rcases cM hs' with rfl | ⟨hm,_⟩
  ·show (List.set _ d _)[H.length+1]? = _
   rw [List.getElem?_set_ne (by exact fun x9=>b0 0x9096191c03110112 hdl x9)];simp
  ·exact get (hM.bits s' hm) (by simp)
theorem lT.put {s:aH} (h1:0≤s.pg∧s.pg<p) (h2:1≤s.sz∧s.sz≤len) (h3:(s.bs.length:Int)=len.fdiv s.sz) (h4:H.length≤s.t):lT p len (ie ms s):=by
 have h5:s.t∉ms.map (·.t):=fun hm=>by
  obtain ⟨s',hs',e⟩:=List.mem_map.mp hm
  have:=(List.getElem?_eq_some_iff.mp (hM.bits s' hs')).1
  exact id (tn 0x90960211123110013 h4 e this)
 obtain ⟨p1,p2⟩:=Bg hO.ndp hO.ndt h5
 refine ⟨hO.hp,hO.hlen,p1,p2,fun x hx=> ?_,fun x hx=> ?_,fun x hx=> ?_⟩
 ·rcases cM hx with rfl | ⟨hx,_⟩
  ·exact h1
  ·exact hO.pg x hx
 ·rcases cM hx with rfl | ⟨hx,_⟩
  ·exact h2
  ·exact hO.sz x hx
 ·rcases cM hx with rfl | ⟨hx,_⟩
  ·exact h3
  ·exact hO.slots x hx
omit hM hO in
theorem Dl {n:Nat} {x:aH} (h1:n≤x.sh) (h2:n≤x.t):∀i∈bZ d (ie ms x),i∈bZ d ms∨n≤i:=fun i hi=>by
 unfold bZ at hi ⊢
 simp at hi
 rcases hi with h | ⟨s,hs,rfl⟩ | ⟨s,hs,rfl⟩
 ·left;simp [h]
 ·rcases cM hs with rfl | ⟨hs,_⟩
  ·exact .inr h1
  ·left;simp;exact .inr (.inl ⟨s,hs,rfl⟩)
 ·rcases cM hs with rfl | ⟨hs,_⟩
  ·exact .inr h2
  ·left;simp;exact .inr (.inr ⟨s,hs,rfl⟩)
omit hM hO in
theorem pU (g:Int) (bs:List Bool):bZ d (Mine.Lake.setBs ms g bs)=bZ d ms:=by unfold bZ;rw [qZ,jR]
end
theorem wS {H:Hp} {za:Nat} {xs:List Int} (hz:H[za]? = some (.list (xs.map V.int))) (w:Int):dK [.ref za,.int w] H= .ok (.int ((xs.find? fun x=>decide (x≥w)).getD 0)) H:=by
 obtain ⟨l0,e0,a1,a2⟩:∃l0,aT ["_law_sizes", "_law_wish"] [.ref za,.int w]=l0∧l0 "_law_sizes" = some (.ref za)∧l0 "_law_wish" = some (.int w):=⟨_,rfl,rfl,rfl⟩
 have hit:ay (.ref za) H=some (xs.map V.int):=bB hz
 obtain ⟨l',hw',hl⟩:=nT H (g:=fun H=>ay (.ref za) H=some (xs.map V.int)) (x := "_law_size") (w := "_law_wish") ∅ (body:=hV) w hit
  (fun l y h1 h2=>by
   by_cases hy:y≥w
   ·rw [if_pos hy];exact bq (bq (g_get h1) (bq (g_get h2) rfl)) (it_t (decide_eq_true hy) (bq (g_get h1) rfl))
   ·rw [if_neg hy];exact bq (bq (g_get h1) (bq (g_get h2) rfl)) (it_f (decide_eq_false hy) rfl)) xs l0 a2
 have s2:mG ⟨l0,H⟩=bH (fun H=>ay (.ref za) H=some (xs.map V.int)) (an "_law_size") (hV) (xs.map V.int) ⟨l0,H⟩ :=
  bq (bq (g_get a1) (by rw [rZ,hit])) rfl
 rw [hl] at s2
 cases hf:xs.find? (fun x=>decide (x≥w)) with
 | some y =>
  rw [hf] at s2
  exact aS (m:=j9) (q:=⟨l',H⟩) rfl (by rw [e0];exact dD s2)
 | none =>
  rw [hf] at s2
  exact aS (m:=j9) (q:=⟨l',H⟩) rfl (by rw [e0];exact ah s2 rfl)
section
variable {H:Hp} {d:Nat} {ms:List aH} {p len:Int} (hM:lS H d ms) (hO:lT p len ms)
inductive Gh (H:Hp) (d:Nat) (ms:List aH) (z:Int) (B:Option Int) (rem:List V) (q:S):Prop
 | mk (b:Option Int) (ys:List Int) (f0:rem=ys.map V.int) (f1:(∀g∈ys,0≤g∧ ∃s,df ms g=some s)) (f2:zT (look ms) b (ys.filter (cU (look ms) z))=B) (f3:(∀g,b=some g→0≤g∧ ∃s,df ms g=some s)) (f4:q.l "_law_best" = some (.int (b.getD (-1)))) (f5:q.l "_law_model" = some (.ref d)) (f6:q.l "_law_size" = some (.int z)) (f7:H=q.H)
include hM hO
theorem CS {z:Int} {B:Option Int} (x:V) (rem:List V) (q:S) (hI:Gh H d ms z B (x::rem) q):∃q',((an "_law_page" x).b fun _=>hU) q= .ok .next q'∧Gh H d ms z B rem q':=by
 obtain ⟨b,ys,e,h1,h2,h3,h4,h5,h6,h7⟩:=hI
 obtain ⟨l,Hq⟩:=q
 dsimp only at h4 h5 h6 h7
 subst h7
 cases ys with
 | nil=>simp at e
 | cons g ys =>
  obtain ⟨rfl,rfl⟩:x= .int g∧rem=ys.map V.int:=by simpa using e
  obtain ⟨hg0,s,hs⟩:=h1 g (.head _)
  have hm:=(aB hs).1
  have hl:look ms g=some (s.sz,s.bs):=by unfold look;rw [hs];rfl
  refine bi (upd (upd l "_law_page" (.int g)) "_law_row" (.ref s.sh)) fun l1 el1=> ?_
  have a1:l1 "_law_row" = some (.ref s.sh):=aq el1
  have a2:l1 "_law_best" = some (.int (b.getD (-1))):=gL el1 ∅ ∅ h4
  have a3:l1 "_law_model" = some (.ref d):=gL el1 ∅ ∅ h5
  have a4:l1 "_law_size" = some (.int z):=gL el1 ∅ ∅ h6
  have a5:l1 "_law_page" = some (.int g):=tZ el1 ∅
  have hmo:upd l "_law_page" (.int g) "_law_model" = some (.ref d):=af rfl ∅ h5
  have s1:(((ac "_law_model").b fun v7=>(ac "_law_page").b fun v8=>aj v7 v8).b fun v9=>(an "_law_row" v9).b fun _=>Cm.p Fl.next) ⟨upd l "_law_page" (.int g),H⟩= .ok .next ⟨l1,H⟩:=by
   exists hmo,bF hM hs,el1
  have hsz:cU (look ms) z g=decide (s.sz=z):=by unfold cU;rw [hl]
  have hok:Dp (look ms) b g=((aR s.bs).isSome&&qq (look ms) (s.bs.count true) b):=by unfold Dp;rw [hl]
  have i0:=jQ hM hm l1
  have i1:=ee hM hm l1
  have i2:=uX (l:=l1) (hM.bits s hm)
  have keep:(cU (look ms) z g&&Dp (look ms) b g)=false→Gh H d ms z B (ys.map V.int) ⟨l1,H⟩:=fun hk=>by
   refine ⟨b,ys,rfl,fun g' hg'=>h1 g' (.tail _ hg'),?_,h3,a2,a3,a4,rfl⟩
   rw [← h2]
   cases hz:cU (look ms) z g with
   | false=>rw [List.filter_cons_of_neg (by rw [hz];simp)]
   | true =>
    rw [hz,Bool.true_and] at hk
    rw [List.filter_cons_of_pos hz,yB,hk];simp
  have take:(cU (look ms) z g&&Dp (look ms) b g)=true→Gh H d ms z B (ys.map V.int) ⟨upd l1 "_law_best" (.int g),H⟩:=fun hk=>by
   obtain ⟨k1,k2⟩:=(Bool.and_eq_true _ _).mp hk
   refine ⟨some g,ys,rfl,fun g' hg'=>h1 g' (.tail _ hg'),?_,fun g' e=>by cases e;exact ⟨hg0,s,hs⟩,by simp [upd],af rfl ∅ a3,af rfl ∅ a4,rfl⟩
   rw [← h2,List.filter_cons_of_pos k1,yB,k2];simp
  rw [hsz,hok] at keep take
  rw [ni,uY]
  cases hz:decide (s.sz=z) with
  | false =>
   rw [hz] at keep
   refine ⟨⟨l1,H⟩,ah s1 ?_,keep rfl⟩
   exists a1,a4,i0,hz
  | true =>
   rw [hz] at keep take
   cases hf:(aR s.bs).isSome with
   | false =>
    rw [hf] at keep i2
    refine ⟨⟨l1,H⟩,ah s1 ?_,keep rfl⟩
    exists a1,a4,i0,i1,hz,i2
   | true =>
    rw [hf] at keep take i2
    cases b with
    | none =>
     refine ⟨⟨upd l1 "_law_best" (.int g),H⟩,ah s1 ?_,take rfl⟩
     have a2':l1 "_law_best" = some (.int (-1)):=a2
     have dn:decide ((-1:Int)<0)=true:=rfl
     exists a1,a4,a5,i0,i1,hz,i2,a2',dn
    | some g' =>
     obtain ⟨g0',s',hs'⟩:=h3 g' rfl
     have hm':=(aB hs').1
     have a2':l1 "_law_best" = some (.int g'):=a2
     have dn:decide (g'<0)=false:=decide_eq_false (by exact cK 0x90d009811 g0')
     have hc':eD (look ms) g'=s'.bs.count true:=by unfold eD look;rw [hs'];rfl
     have j0:=bF hM hs' l1
     have j1:=ee hM hm' l1
     have c1:=oj (l:=l1) true (hM.bits s hm)
     have c2:=oj (l:=l1) true (hM.bits s' hm')
     have k1:=jP hM hm l1
     have k2:=jP hM hm' l1
     have hdec:decide (((s.bs.count true:Nat):Int)>((s'.bs.count true:Nat):Int))=qq (look ms) (s.bs.count true) (some g'):=by unfold qq;dsimp only;rw [hc'];exact decide_eq_decide.mpr xC
     cases hb:qq (look ms) (s.bs.count true) (some g') with
     | true =>
      rw [hb] at take hdec
      refine ⟨⟨upd l1 "_law_best" (.int g),H⟩,ah s1 ?_,take rfl⟩
      exists a1,a3,a4,a5,i0,i1,hz,i2,a2',dn,k1,c1,j0,j1,k2,c2,hdec
     | false =>
      rw [hb] at keep hdec
      refine ⟨⟨l1,H⟩,ah s1 ?_,keep rfl⟩
      exists a1,a3,a4,a5,i0,i1,hz,i2,a2',dn,k1,c1,j0,j1,k2,c2,hdec
theorem BR (z:Int):∃H',fi [.ref d,.int z] H= .ok (.int ((zT (look ms) none (cc p (look ms) z)).getD (-1))) H'∧H<+:H':=by
 obtain ⟨l0,e0,a1,a2⟩:∃l0,aT ["_law_model", "_law_size"] [.ref d,.int z]=l0∧l0 "_law_model" = some (.ref d)∧l0 "_law_size" = some (.int z):=⟨_,rfl,rfl,rfl⟩
 refine bi (upd l0 "_law_best" (.int (-1))) fun l1 el1=> ?_
 have t1:mB ⟨l0,H⟩= .ok .next ⟨l1,H⟩:=by exists el1
 have b1:l1 "_law_model" = some (.ref d):=af el1 ∅ a1
 have b2:l1 "_law_size" = some (.int z):=af el1 ∅ a2
 have b3:l1 "_law_best" = some (.int (-1)):=aq el1
 have hso:=kN hM hO l1
 refine bi (bh p (look ms)) fun ks eks=> ?_
 rw [eks] at hso
 refine bi (H++[O.list (ks.map V.int)]) fun H1 e1=> ?_
 rw [e1] at hso
 have p1:H<+:H1:=⟨_,e1⟩
 have x1:H1[H.length]? = some (.list (ks.map V.int)):=by rw [← e1];simp
 obtain ⟨q',hq,b,ys,ey,_,i1,_,i2,_,_,i3⟩:=fj (g:=fun H'=>ay (.ref H.length) H'=some (ks.map V.int)) (bd:=an "_law_page") (body:=hU) (Gh H1 d ms z (zT (look ms) none (ks.filter (cU (look ms) z)))) (fun x rem q hI=>by
  obtain ⟨q',k1,k2⟩:=CS (hM.pre p1) hO x rem q hI
  have:q'.H=H1:=by obtain ⟨_,_,_,_,_,_,_,_,_,e⟩:=k2;exact e.symm
  exact ⟨q',k1,by rw [this];exact bB x1,k2⟩) _ ⟨l1,H1⟩ ⟨none,ks,rfl,fun g hg=>by
   have hk:g∈bh p (look ms):=eks▸hg
   obtain ⟨v,hv⟩:=dm hk
   obtain ⟨s,hs,_⟩:=aF hv
   exact ⟨(gC.mp hk).1.1,s,hs⟩,rfl,fun g e=>(by cases e),b3,b1,b2,rfl⟩
 cases ys with
 | cons _ _=>simp at ey
 | nil =>
 rw [List.filter_nil,D9] at i1
 obtain ⟨l',H'⟩:=q'
 dsimp only at i2 i3
 subst i3
 refine ⟨H1,aS (m:=oX) (q:=⟨l',H1⟩) rfl ?_,p1⟩
 rw [e0]
 refine ah t1 (ah (q':=⟨l',H1⟩) ?_ ?_)
 ·exists b1,hso,bw x1;exact hq
 ·unfold cc
  rw [eks,← i1]
  exists i2
theorem Dg {c:Cm V} {caps:List String} {mi:Cm It} {l:aY} (hc:c=be caps mi (an "_law_page") ((ac "_law_page").b fun v4=>(ac "_law_model").b fun v5=>(aL .NotIn v4 v5).b fun x6=>Cm.p x6) (ac "_law_page"))
  (hcaps : "_law_model" ∈ caps) (a1:l "_law_model" = some (.ref d)) (hmi:mi ⟨l,H⟩= .ok ⟨ba 0 p.toNat,fun _=>True⟩ ⟨l,H⟩):c ⟨l,H⟩= .ok (.ref H.length) ⟨l,H++[.list ((qp p (look ms)).map V.int)]⟩:=by
 have hp:=hO.hp
 rw [hc]
 refine fO (it:=⟨ba 0 p.toNat,fun _=>True⟩) (H1:=H) hmi (by rw [fm];exact id (kb 0xf4240a0000fa1000028a0812 hp.2 (Int.toNat_of_nonneg (cK 0x98019811 hp.1)))) ?_
 have e1:ba 0 p.toNat=(dZ p).map V.int:=by unfold dZ;rw [List.range_eq_range'];exact kQ _ 0
 let φ : V→Option V:=fun v=>match v with | .int g=>if (look ms g).isNone then some (.int g) else none | _=>none
 have e2:(qp p (look ms)).map V.int=((dZ p).map V.int).filterMap φ := (d9 (fun g=>(look ms g).isNone) φ (fun _=>rfl) _).symm
 rw [e2]
 show fh _ _ _ _ _ (ba 0 p.toNat) H=_
 rw [e1]
 refine fN trivial φ _ fun x hx=> ?_
 obtain ⟨g,_,rfl⟩:=List.mem_map.mp hx
 have hs:upd (dX caps l) "_law_page" (.int g) "_law_model" = some (.ref d):=cq ∅ hcaps a1
 have eφ : φ (.int g)=if (look ms g).isNone then some (.int g) else none:=rfl
 rw [eφ]
 have hin:=EW hM g (upd (dX caps l) "_law_page" (.int g))
 cases hf:look ms g with
 | none =>
  rw [hf] at hin
  exact bD (H2:=H) (by exists hs,hin) (g_get (gp _ _ _))
 | some s =>
  rw [hf] at hin
  exact fD (H2:=H) (by exists hs,hin)
theorem Dh {c:Cm V} {caps:List String} {l:aY} (hc:c=be caps ((((ac "_law_model").b fun v9=>(Cm.p ([]:List V)).b fun vs10=>Cm.p (v9::vs10)).b fun vs8=>bn vs8).b fun v11=>cQ v11) (an "_law_page") ((Cm.p (V.bool true)).b fun v16=>(((ac "_law_model").b fun v12=>(ac "_law_page").b fun v13=>aj v12 v13).b fun v14=>(Cm.p (V.int 1)).b fun v15=>aj v14 v15).b fun v17=>(aL .NotIn v16 v17).b fun x18=>Cm.p x18) (ac "_law_page"))
  (hcaps : "_law_model" ∈ caps) (a1:l "_law_model" = some (.ref d)):∃H',c ⟨l,H⟩= .ok (.ref H'.length) ⟨l,H'++[.list ((gA p (look ms)).map V.int)]⟩∧H<+:H':=by
 have hso:=kN hM hO l
 have hkl:=ed p hO.hp.2 (look ms)
 unfold gA
 obtain ⟨ks,eks⟩:∃ks,bh p (look ms)=ks:=⟨_,rfl⟩
 rw [eks] at hso hkl ⊢
 obtain ⟨H1,e1⟩:∃H1,H++[O.list (ks.map V.int)]=H1:=⟨_,rfl⟩
 rw [e1] at hso
 have p1:H<+:H1:=⟨_,e1⟩
 have x1:H1[H.length]? = some (.list (ks.map V.int)):=by rw [← e1];simp
 have hcc:∃H',c ⟨l,H⟩= .ok (.ref H'.length) ⟨l,H'++[.list (ks.filterMap fun g=>if kz (look ms) g then some (V.int g) else none)]⟩∧H1<+:H':=by
  rw [hc]
  refine bJ (n:=H.length) (ks:=ks) ?_ x1 (by exact bz 0xf4240a00000028a0011 hkl) (fun g=>if kz (look ms) g then some (V.int g) else none) fun g hg Hx hp=> ?_
  ·exists a1,hso
   exact bw x1
  ·obtain ⟨v,hv⟩:=dm (eks▸hg:g∈bh p (look ms))
   obtain ⟨s,hs,z1,z2⟩:=aF hv
   have hm:=(aB hs).1
   have hMx:=hM.pre (p1.trans hp)
   have b1:upd (dX caps l) "_law_page" (.int g) "_law_model" = some (.ref d):=cq ∅ hcaps a1
   have hE:kz (look ms) g=decide (s.bs.count true=0):=by unfold kz;rw [hv,z2]
   have i1:=ee hMx hm (upd (dX caps l) "_law_page" (.int g))
   have i2:=om (l:=upd (dX caps l) "_law_page" (.int g)) (hMx.bits s hm)
   rw [hE]
   refine ⟨Hx,?_,List.prefix_refl _⟩
   cases hb:decide (s.bs.count true=0) with
   | true =>
    rw [hb] at i2
    exact bD (H2:=Hx) (by exists b1,bF hMx hs,i1,i2) (g_get (gp _ _ _))
   | false =>
    rw [hb] at i2
    exact fD (by exists b1,bF hMx hs,i1,i2)
 obtain ⟨H',hcc,hp⟩:=hcc
 rw [cG] at hcc
 exact ⟨H',hcc,p1.trans hp⟩
end
theorem E0 {H:Hp} (l:aY):dz [] ⟨l,H⟩= .ok (.ref H.length) ⟨l,H++[.list []]⟩:=by rw [lF,if_pos (by simp)]
theorem zm {H:Hp} {l:aY} {n:Nat} {ks:List Int} (h:H[n]? = some (.list (ks.map V.int))):eqV (.ref n) (.ref H.length) ⟨l,H++[.list []]⟩= .ok (decide (ks=[])) ⟨l,H++[.list []]⟩ :=
 iT (q:=⟨l,H++[.list []]⟩) (ys:=[]) (av ⟨_,rfl⟩ h) (by simp)
theorem CL {p:Int} {F:Vw} {g:Int} (h:g∈gA p F):(0≤g∧g<p)∧ ∃v,F g=some v:=by
 have:=(List.mem_filter.mp h).1
 exact ⟨(gC.mp this).1,dm this⟩
theorem CD {p:Int} {F:Vw} {g:Int} (h:g∈qp p F):(0≤g∧g<p)∧F g=none:=by
 obtain ⟨h1,h2⟩:=List.mem_filter.mp h
 exact ⟨wA.mp h1,by simpa using h2⟩
theorem Ce {F:Vw} {g:Int} (h:F g=none):dY F g none=F:=by
 funext x
 by_cases e:x=g
 ·subst e;rw [dp,h]
 ·rw [fE _ _ e]
theorem sw (F:Vw) (g:Int) (v w:Option (Int×List Bool)):dY (dY F g v) g w=dY F g w:=by
 funext x
 by_cases e:x=g<;>simp [dY,e]
section
variable {H:Hp} {d:Nat} {ms:List aH} {p len:Int} (hM:lS H d ms) (hO:lT p len ms)
include hM hO
theorem Em:match zZ p (look ms) with
  | none=> ∃H',jL [.ref d,.int p] H= .ok (.int (-1)) H'∧H<+:H'
  | some g=> ∃ms' H',jL [.ref d,.int p] H= .ok (.int g) H'∧(0≤g∧g<p)∧lS H' d ms'∧lT p len ms'∧look ms'=dY (look ms) g none∧bO (bZ d ms) H H'∧(∀i∈bZ d ms',i∈bZ d ms):=by
 obtain ⟨l0,e0,a1,a2⟩:∃l0,aT ["_law_model", "_law_pages"] [.ref d,.int p]=l0∧l0 "_law_model" = some (.ref d)∧l0 "_law_pages" = some (.int p):=⟨_,rfl,rfl,rfl⟩
 have hp:=hO.hp
 have hc1:=Dg hM hO (c:=oO) (l:=l0) (caps:=["_law_model"]) rfl (by simp) a1 (by exists a2,eh p _ ⟨by omega,by omega⟩)
 obtain ⟨l1,el1⟩:∃l1,upd l0 "_law_bare" (.ref H.length)=l1:=⟨_,rfl⟩
 obtain ⟨H1,e1⟩:∃H1,H++[O.list ((qp p (look ms)).map V.int)]=H1:=⟨_,rfl⟩
 rw [e1] at hc1
 have p1:H<+:H1:=⟨_,e1⟩
 have t1:pe ⟨l0,H⟩= .ok .next ⟨l1,H1⟩:=by exists hc1,el1
 have b1:l1 "_law_model" = some (.ref d):=af el1 ∅ a1
 have b2:l1 "_law_bare" = some (.ref H.length):=aq el1
 obtain ⟨H2,hc2,p2⟩:=Dh (hM.pre p1) hO (c:=oP) (l:=l1) (caps:=["_law_model"]) rfl (by simp) b1
 obtain ⟨H3,e3⟩:∃H3,H2++[O.list ((gA p (look ms)).map V.int)]=H3:=⟨_,rfl⟩
 rw [e3] at hc2
 have p3:H1<+:H3:=p2.trans ⟨_,e3⟩
 obtain ⟨l2,el2⟩:∃l2,upd l1 "_law_empty" (.ref H2.length)=l2:=⟨_,rfl⟩
 have t2:pf ⟨l1,H1⟩= .ok .next ⟨l2,H3⟩:=by exists hc2,el2
 have c1:l2 "_law_model" = some (.ref d):=af el2 ∅ b1
 have c2:l2 "_law_bare" = some (.ref H.length):=af el2 ∅ b2
 have c3:l2 "_law_empty" = some (.ref H2.length):=aq el2
 have x1:H3[H.length]? = some (.list ((qp p (look ms)).map V.int)):=av p3 (by rw [← e1];simp)
 have x2:H3[H2.length]? = some (.list ((gA p (look ms)).map V.int)):=by rw [← e3];simp
 have n3:=E0 (H:=H3) l2
 have q3:=zm (l:=l2) x1
 obtain ⟨H4,e4⟩:∃H4,H3++[O.list []]=H4:=⟨_,rfl⟩
 rw [e4] at n3 q3
 have p4:H3<+:H4:=⟨_,e4⟩
 unfold zZ
 cases hb:qp p (look ms) with
 | cons g r =>
  rw [hb] at x1 q3
  obtain ⟨hg1,hg2⟩:=CD (F:=look ms) (p:=p) (g:=g) (by rw [hb];exact .head _)
  have P:H<+:H4:=(p1.trans p3).trans p4
  refine ⟨ms,H4,aS (m:=jN) (q:=⟨l2,H4⟩) rfl ?_,hg1,hM.pre P,hO,(Ce hg2).symm,bO.pre P,fun i hi=>hi⟩
  rw [e0]
  refine ah t1 (ah t2 (dD ?_))
  have hit:aj (.ref H.length) (.int 0) ⟨l2,H4⟩= .ok (.int g) ⟨l2,H4⟩:=mR (av p4 x1) ⟨by decide,by decide⟩ rfl
  exists c2,n3,q3,hit
 | nil =>
  rw [hb] at x1 q3
  have t3:ph ⟨l2,H3⟩= .ok .next ⟨l2,H4⟩:=by exists c2,n3,q3
  have x3:=av p4 x2
  have n4:=E0 (H:=H4) l2
  have q4:=zm (l:=l2) x3
  obtain ⟨H5,e5⟩:∃H5,H4++[O.list []]=H5:=⟨_,rfl⟩
  rw [e5] at n4 q4
  have p5:H4<+:H5:=⟨_,e5⟩
  have P:H<+:H5:=((p1.trans p3).trans p4).trans p5
  cases he:gA p (look ms) with
  | nil =>
   rw [he] at q4
   refine ⟨H5,aS (m:=jN) (q:=⟨l2,H5⟩) rfl ?_,P⟩
   rw [e0]
   refine ah t1 (ah t2 (ah t3 (ah (q':=⟨l2,H5⟩) ?_ ?_)))
   ·exists c3,n4,q4
   ·exists rfl
  | cons g r =>
   rw [he] at q4 x3
   obtain ⟨hg1,v,hv⟩:=CL (F:=look ms) (p:=p) (g:=g) (by rw [he];exact .head _)
   obtain ⟨s,hs,_⟩:=aF hv
   have M5:=hM.pre P
   have hit:aj (.ref H2.length) (.int 0) ⟨l2,H5⟩= .ok (.int g) ⟨l2,H5⟩:=mR (av p5 x3) ⟨by decide,by decide⟩ rfl
   have hpop:=xG M5 hO hs l2
   have hkd:=tX M5 l2
   have hne:H2.length≠d:=fun e=>by
    have:=av p5 x3
    rw [e,M5.dict] at this;cases this
   have hit2:aj (.ref H2.length) (.int 0) ⟨l2,H5.set d (.dict (ll g (ms.map aH.mnt)))⟩= .ok (.int g) ⟨l2,H5.set d (.dict (ll g (ms.map aH.mnt)))⟩:=by
    have:(H5.set d (.dict (ll g (ms.map aH.mnt))))[H2.length]? = some (.list ((g::r).map V.int)):=by rw [List.getElem?_set_ne hne.symm];exact av p5 x3
    exact mR this ⟨by decide,by decide⟩ rfl
   refine ⟨cW ms g,_,aS (m:=jN) (q:=⟨l2,_⟩) rfl ?_,hg1,lS.del M5 hO g,lT.del hO g,ge ms g,(bO.pre P).trans (bO.set (by simp [bZ])),mY g⟩
   rw [e0]
   refine ah t1 (ah t2 (ah t3 (dD ?_)))
   exists c1,c3,n4,q4,hkd,hit,hpop,hit2
theorem s6 {g z:Int} {s:aH} (hf:df ms g=some s) (hz:s.sz=z) {k:Nat} (hk:aR s.bs=some k) {l:aY} {w:Int} {za:Nat} (h1:l "_law_model" = some (.ref d)) (h2:l "_law_page" = some (.int g)) (h3:l "_law_size" = some (.int z)) (h4:l "_law_drawn" = some (.tup [.int p,.int len,.ref za])) :
  ∃ms' q',A6 (au (jz) (au (jA) (nR)) ⟨l,H⟩= .ok (.ret (.int (g*len+k*z))) q') (lS q'.H d ms') (lT p len ms') (look ms'=dY (look ms) g (some (z,s.bs.set k true))) (bO (bZ d ms) H q'.H) (bZ d ms'=bZ d ms):=by
 obtain ⟨hs,rfl⟩:=aB hf
 subst hz
 have hb:=hO.bslen hs
 have hkl:=(fP hk).1
 refine bi (upd l "_law_slot" (.int k)) fun l1 el1=> ?_
 have b1:l1 "_law_model" = some (.ref d):=af el1 ∅ h1
 have b2:l1 "_law_page" = some (.int s.pg):=af el1 ∅ h2
 have b3:l1 "_law_size" = some (.int s.sz):=af el1 ∅ h3
 have b4:l1 "_law_drawn" = some (.tup [.int p,.int len,.ref za]):=af el1 ∅ h4
 have b5:l1 "_law_slot" = some (.int k):=aq el1
 have hx:=o0 (l:=l) (hM.bits s hs) (by exact bz 0x3e8a0000003ca0011 hb) hk
 have t5:jz ⟨l,H⟩= .ok .next ⟨l1,H⟩:=by
  exists h1,h2,bF hM hf,ee hM hs,jP hM hs,hx,el1
 have hset:=er (l:=l1) (k:=k) (b:=true) (hM.bits s hs) (by exact bz 0xf0980) (by exact b0 0xf4240a1f9011100003ca0012 hb hkl) (by exact b0 0x1f0f910111 hkl)
 rw [Int.toNat_natCast] at hset
 have t6:jA ⟨l1,H⟩= .ok .next ⟨l1,H.set s.t (.list ((s.bs.set k true).map V.bool))⟩:=by
  exists b1,b2,b5,bF hM hf,ee hM hs,hset
 have hpg:=hO.pg s hs
 have hpp:=hO.hp
 have m1:∀q,dQ (.int s.pg) (.int len) q= .ok (.int (s.pg*len)) q:=fun q=>mj _ _ q (Ck (by exact hpg.1) (by exact ru 0xf4240a09000028a18110912 hpg.2 hpp.2))
 have m2:∀q,dQ (.int (k:Int)) (.int s.sz) q= .ok (.int (k*s.sz)) q:=fun q=>mj _ _ q (Ck (by exact bz 0xf0980) (by exact b0 0xf4240a1f9011100003ca0012 hb hkl))
 have d1:∀q,aj (.tup [.int p,.int len,.ref za]) (.int 1) q= .ok (.int len) q:=fun q=>rfl
 refine ⟨setBs ms s.pg (s.bs.set k true),⟨l1,_⟩,ah t5 (ah t6 ?_),lS.setBs hM hO hs _,lT.setBs hO hs (by simp),gD hf _,bO.set (xH hs),pU _ _⟩
 exists b2,b3,b4,b5,d1,m1,m2
theorem uI {za:Nat} {xs:List Int} (hx:H[za]? = some (.list (xs.map V.int))) (hxs:il len xs) {w:Int}:match xs.find? (fun x=>decide (x≥w)) with
  | none=>eO [.ref d,.tup [.int p,.int len,.ref za],.int w] H= .ok (.int (-2)) H
  | some z=>match Dv p len (look ms) z with
   | none=> ∃H',eO [.ref d,.tup [.int p,.int len,.ref za],.int w] H= .ok (.int (-1)) H'∧H<+:H'
   | some gF=> ∃bs k ms' H',gF.2 gF.1=some (z,bs)∧aR bs=some k∧eO [.ref d,.tup [.int p,.int len,.ref za],.int w] H= .ok (.int (gF.1*len+(k:Nat)*z)) H'∧lS H' d ms'∧lT p len ms' ∧
     look ms'=dY gF.2 gF.1 (some (z,bs.set k true))∧bO (bZ d ms) H H'∧(∀i∈bZ d ms',i∈bZ d ms∨H.length≤i):=by
 obtain ⟨l0,e0,a1,a2,a3⟩:∃l0,aT ["_law_model", "_law_drawn", "_law_wish"] [.ref d,.tup [.int p,.int len,.ref za],.int w]=l0∧l0 "_law_model" = some (.ref d)∧l0 "_law_drawn" = some (.tup [.int p,.int len,.ref za])∧l0 "_law_wish" = some (.int w) :=
  ⟨_,rfl,rfl,rfl,rfl⟩
 have hsb:=wS hx w
 have dr0:∀q,aj (.tup [.int p,.int len,.ref za]) (.int 0) q= .ok (.int p) q:=fun q=>rfl
 have dr1:∀q,aj (.tup [.int p,.int len,.ref za]) (.int 1) q= .ok (.int len) q:=fun q=>rfl
 have dr2:∀q,aj (.tup [.int p,.int len,.ref za]) (.int 2) q= .ok (.ref za) q:=fun q=>rfl
 cases hz:xs.find? (fun x=>decide (x≥w)) with
 | none =>
  rw [hz] at hsb
  have hsb':dK [.ref za,.int w] H= .ok (.int 0) H:=hsb
  refine bi (upd l0 "_law_size" (.int 0)) fun l1 el1=> ?_
  have b1:l1 "_law_size" = some (.int 0):=aq el1
  refine aS (m:=gf) (q:=⟨l1,H⟩) rfl ?_
  rw [e0]
  refine ah (q':=⟨l1,H⟩) (by exists a2,a3,dr2,hsb',el1) (dD ?_)
  exists b1
 | some z =>
  rw [hz] at hsb
  have hsb':dK [.ref za,.int w] H= .ok (.int z) H:=hsb
  have hzx:z∈xs:=List.mem_of_find?_eq_some hz
  have z1:=hxs.low z hzx
  have z2:=hxs.top z hzx
  have hlen:=hO.hlen
  have hpp:=hO.hp
  refine bi (upd l0 "_law_size" (.int z)) fun l1 el1=> ?_
  have t1:nP ⟨l0,H⟩= .ok .next ⟨l1,H⟩:=by exists a2,a3,dr2,hsb',el1
  have b1:l1 "_law_size" = some (.int z):=aq el1
  have b2:l1 "_law_model" = some (.ref d):=af el1 ∅ a1
  have b3:l1 "_law_drawn" = some (.tup [.int p,.int len,.ref za]):=af el1 ∅ a2
  have nz:decide (z=0)=false:=decide_eq_false (by exact fun x9=>cK 0x9096090a1019812 z1 x9)
  have t2:nQ ⟨l1,H⟩= .ok .next ⟨l1,H⟩:=by exists b1,nz
  obtain ⟨H1,hfu,p1⟩:=BR hM hO z
  dsimp only
  unfold Dv
  have M1:=hM.pre p1
  cases hbst:zT (look ms) none (cc p (look ms) z) with
  | some g =>
   rw [hbst] at hfu
   have hfu':fi [.ref d,.int z] H= .ok (.int g) H1:=hfu
   rcases xu hbst with h | ⟨hgm,v,hv,hfv⟩
   ·cases h
   obtain ⟨k,hk⟩:=Option.isSome_iff_exists.mp hfv
   obtain ⟨bs,hbs⟩:=Bw hgm
   rw [hbs] at hv
   cases hv
   obtain ⟨s,hs,y1,y2⟩:=aF hbs
   dsimp only at y1 y2 hk
   subst y2
   have hg0:=hO.pg s (aB hs).1
   rw [(aB hs).2] at hg0
   refine bi (upd l1 "_law_page" (.int g)) fun l2 el2=> ?_
   have t3:jy ⟨l1,H⟩= .ok .next ⟨l2,H1⟩:=by exists b1,b2,hfu',el2
   have c1:l2 "_law_page" = some (.int g):=aq el2
   have dn:decide (g<0)=false:=decide_eq_false (by exact cK 0x90d009811 hg0.1)
   have t4:gn ⟨l2,H1⟩= .ok .next ⟨l2,H1⟩:=by exists c1,dn
   obtain ⟨ms',q',u1,u2,u3,u4,u5,u6⟩:=s6 M1 hO (w:=w) (za:=za) hs y1 hk (l:=l2) (af el2 ∅ b2) c1 (af el2 ∅ b1) (af el2 ∅ b3)
   exact ⟨s.bs,k,ms',q'.H,hbs,hk,aS (m:=gf) rfl (by rw [e0];exact ah t1 (ah t2 (ah t3 (ah t4 u1)))),u2,u3,u4,(bO.pre p1).trans u5,fun i hi=> .inl (u6▸hi)⟩
  | none =>
   rw [hbst] at hfu
   have hfu':fi [.ref d,.int z] H= .ok (.int (-1)) H1:=hfu
   refine bi (upd l1 "_law_page" (.int (-1))) fun l2 el2=> ?_
   have t3:jy ⟨l1,H⟩= .ok .next ⟨l2,H1⟩:=by exists b1,b2,hfu',el2
   have c1:l2 "_law_page" = some (.int (-1)):=aq el2
   have c2:l2 "_law_model" = some (.ref d):=af el2 ∅ b2
   have c3:l2 "_law_drawn" = some (.tup [.int p,.int len,.ref za]):=af el2 ∅ b3
   have c4:l2 "_law_size" = some (.int z):=af el2 ∅ b1
   have dn:decide ((-1:Int)<0)=true:=rfl
   have hfr:=Em M1 hO
   cases hp:zZ p (look ms) with
   | none =>
    rw [hp] at hfr
    obtain ⟨H2,hf,p2⟩:=hfr
    refine bi (upd l2 "_law_page" (.int (-1))) fun l3 el3=> ?_
    have d1:l3 "_law_page" = some (.int (-1)):=aq el3
    refine ⟨H2,aS (m:=gf) (q:=⟨l3,H2⟩) rfl ?_,p1.trans p2⟩
    rw [e0]
    refine ah t1 (ah t2 (ah t3 (dD ?_)))
    exists c1,c2,c3,dn,dr0,hf,el3,d1
   | some g =>
    rw [hp] at hfr
    obtain ⟨ms2,H2,hf,hg,M2,O2,L2,C2,W2⟩:=hfr
    refine bi (upd l2 "_law_page" (.int g)) fun l3 el3=> ?_
    have d1:l3 "_law_page" = some (.int g):=aq el3
    have d2:l3 "_law_model" = some (.ref d):=af el3 ∅ c2
    have d3:l3 "_law_drawn" = some (.tup [.int p,.int len,.ref za]):=af el3 ∅ c3
    have d4:l3 "_law_size" = some (.int z):=af el3 ∅ c4
    have dg:decide (g<0)=false:=decide_eq_false (by exact cK 0x90d009811 hg.1)
    have z0:z≠0:=by exact fun x9=>cK 0x9096090a1019812 z1 x9
    obtain ⟨u1,u2,u3,u4⟩:=dt (a:=len) (b:=z) (by exact cK 0x98019811 hlen.1) z1
    have per1:1≤len.fdiv z:=ur u1 u4 z2
    have nl1:dz [.bool false] ⟨l3,H2⟩= .ok (.ref H2.length) ⟨l3,H2++[.list [.bool false]]⟩:=by rw [lF,if_pos (by simp)]
    have hmul:dQ (.ref H2.length) (.int (len.fdiv z)) ⟨l3,H2++[.list [.bool false]]⟩= .ok (.ref (H2.length+1)) ⟨l3,H2++[.list [.bool false],.list ((List.replicate (len.fdiv z).toNat false).map V.bool)]⟩:=by
     have h6:len.fdiv z≤1000000:=by exact ru 0xf4240a18018100003ca0812 hlen.2 u2
     have h7:=xI (a:=false) (f:=V.bool) (l:=l3) (aG H2 (.list [.bool false])) ⟨Int.le_trans ∅ u1,h6⟩
     rw [List.length_append,List.append_assoc] at h7;exact h7
    have nl2:dz [.int z,.ref (H2.length+1)] ⟨l3,H2++[.list [.bool false],.list ((List.replicate (len.fdiv z).toNat false).map V.bool)]⟩= .ok (.ref (H2.length+2)) ⟨l3,H2++[.list [.bool false],.list ((List.replicate (len.fdiv z).toNat false).map V.bool),.list [.int z,.ref (H2.length+1)]]⟩:=by
     rw [lF,if_pos (by simp)];simp
    have M3:=lS.put M2 O2 (g:=g) (z:=z) (bs:=List.replicate (len.fdiv z).toNat false)
    have O3:=lT.put M2 O2 (s:=⟨g,H2.length+2,H2.length+1,z,List.replicate (len.fdiv z).toNat false⟩) hg ⟨z1,z2⟩ (by simp;omega) (by show H2.length≤H2.length+1;exact id (bz 0x190c000))
    have hfew:=O2.few
    have hds:=(List.getElem?_eq_some_iff.mp M2.dict).1
    have hset:bu (.ref d) (.int g) (.ref (H2.length+2)) ⟨l3,H2++[.list [.bool false],.list ((List.replicate (len.fdiv z).toNat false).map V.bool),.list [.int z,.ref (H2.length+1)]]⟩ =
      .ok () ⟨l3,(H2++[O.list [V.bool false],O.list ((List.replicate (len.fdiv z).toNat false).map V.bool),O.list [.int z,.ref (H2.length+1)]]).set d (.dict (qu g (.ref (H2.length+2)) (ms2.map aH.mnt)))⟩:=by
     have:(ms2.map aH.mnt).length<1000000:=by simp;exact id (bz 0xf4240a01000028a0011 hfew)
     unfold bu;dsimp only;rw [av (List.prefix_append H2 _) M2.dict];dsimp only;rw [if_pos this]
    refine bi ((H2++[O.list [V.bool false],O.list ((List.replicate (len.fdiv z).toNat false).map V.bool),O.list [.int z,.ref (H2.length+1)]]).set d (.dict (qu g (.ref (H2.length+2)) (ms2.map aH.mnt)))) fun H3 e3=> ?_
    rw [e3] at hset M3
    have C3:bO (bZ d ms2) H2 H3:=by rw [← e3];exact (bO.pre (List.prefix_append _ _)).trans (bO.set (by simp [bZ]))
    have t4:gn ⟨l2,H1⟩= .ok .next ⟨l3,H3⟩:=by
     simp only [gn,ni,DD,c1,c2,c3,DF,aL,GO,dn,if_true,Bh,dr0,dr1,pY,hf,uY,el3,d1,d2,d3,d4,dg,Bool.false_eq_true,if_false,nl1,dG,if_neg z0,hmul,nl2,hset]
    obtain ⟨ms',q',v1,v2,v3,v4,v5,v6⟩:=s6 M3 O3 (w:=w) (za:=za) (g:=g) (kI ms2 ⟨g,H2.length+2,H2.length+1,z,List.replicate (len.fdiv z).toNat false⟩) rfl (lu (by exact kb 0x910f081019812 per1 (Int.self_le_toNat _))) d2 d1 d4 d3
    have hle:H.length≤H2.length:=Nat.le_trans p1.length_le C2.len
    have W3:∀i∈bZ d (ie ms2 ⟨g,H2.length+2,H2.length+1,z,List.replicate (len.fdiv z).toNat false⟩),i∈bZ d ms∨H.length≤i:=fun i hi=>by
     rcases Dl (n:=H2.length) (by show H2.length≤H2.length+2;exact id (bz 0x290c000)) (by show H2.length≤H2.length+1;exact id (bz 0x190c000)) i hi with h | h
     ·exact .inl (W2 i h)
     ·exact .inr (by exact tn 0x200210110012 hle h)
    refine ⟨List.replicate (len.fdiv z).toNat false,0,ms',q'.H,dp _ _ _,lu (by exact kb 0x910f081019812 per1 (Int.self_le_toNat _)),aS (m:=gf) rfl (by rw [e0];exact ah t1 (ah t2 (ah t3 (ah t4 v1)))),v2,v3,?_,?_,fun i hi=>W3 i (v6▸hi)⟩
    ·rw [v4];dsimp only;rw [zc,L2];dsimp only;rw [sw,sw,sw]
    ·exact (((bO.pre p1).trans C2).trans' (C3.mono fun i hi _=>W2 i hi) fun i hi=> .inl hi).trans' v5 W3
end
section
variable {H:Hp} {d:Nat} {ms:List aH} {p len:Int} (hM:lS H d ms) (hO:lT p len ms)
structure Cz (d:Nat) (len:Int) (f:Nat) (l:aY):Prop where
 m:l "_law_model" = some (.ref d)
 n:l "_law_length" = some (.int len)
 f:l "_law_found" = some (.ref f)
theorem Cz.upd {d:Nat} {len:Int} {f:Nat} {l:aY} (h:Cz d len f l) {x:String} {v:V} (h1 : "_law_model" ≠ x) (h2 : "_law_length" ≠ x) (h3 : "_law_found" ≠ x):Cz d len f (Mine.Lake.upd l x v) :=
 ⟨af rfl h1 h.m,af rfl h2 h.n,af rfl h3 h.f⟩
theorem rR {s:aH} (hs:s∈ms) {f:Nat} {H0:Hp} (hf:f∉bZ d ms):∀(bs:List Bool) (a:Nat) (l:aY) (H:Hp) (acc:List (Int×Int)),s.bs.drop a=bs→lS H d ms→lT p len ms→Cz d len f l→l "_law_row" = some (.ref s.sh)→l "_law_page" = some (.int s.pg)→H[f]? = some (.list (acc.map aE))→acc.length+bs.length≤100000 →
  ∃l' H',A4 (bH (fun _=>True) (an "_law_slot") (fU) (ba a bs.length) ⟨l,H⟩= .ok .next ⟨l',H'⟩) (Cz d len f l') (bO [f] H H') (H'[f]? = some (.list ((acc++(cA a bs).map fun k=>(s.pg*len+k*s.sz,s.sz)).map aE)))
 | [],a,l,H,acc,_,hM,hO,hl,h1,h2,h3,_=>⟨l,H,rfl,hl,bO.refl _ _,by simpa [EG] using h3⟩
 | b::bs,a,l,H,acc,e,hM,hO,hl,h1,h2,h3,h4=>by
  have hg:s.bs[a]? = some b:=by
   have:(s.bs.drop a)[0]? = some b:=by rw [e];rfl
   simpa using this
  have hr:s.bs.drop (a+1)=bs:=by rw [← List.drop_drop,e];rfl
  have hlt:=(List.getElem?_eq_some_iff.mp hg).1
  have hbl:=hO.bslen hs
  have hpp:=hO.hp
  have hpg:=hO.pg s hs
  have e1:((a:Int)+1)=((a+1:Nat):Int):=rfl
  refine bi (upd l "_law_slot" (.int a)) fun l1 el1=> ?_
  have k1:Cz d len f l1:=el1▸hl.upd ∅ ∅ ∅
  have k2:l1 "_law_row" = some (.ref s.sh):=af el1 ∅ h1
  have k3:l1 "_law_page" = some (.int s.pg):=af el1 ∅ h2
  have k4:l1 "_law_slot" = some (.int a):=aq el1
  have i0:=jQ hM hs l1
  have i1:=ee hM hs l1
  have i2:aj (.ref s.t) (.int a) ⟨l1,H⟩= .ok (.bool b) ⟨l1,H⟩:=gU (hM.bits s hs) (Int.natCast_nonneg a) (by exact b0 0xf4240a0f900003ca10110112 hlt hbl) (by simpa using hg)
  rw [List.length_cons,ba]
  cases b with
  | false =>
   have st:((an "_law_slot" (.int a)).b fun _=>fU) ⟨l,H⟩= .ok .next ⟨l1,H⟩:=by exists el1,k2,k4,i1,i2
   rw [bf st trivial,e1]
   exact rR hs (H0:=H0) hf bs (a+1) l1 H acc hr hM hO k1 k2 k3 h3 (by rw [List.length_cons] at h4;exact id (b0 0x186a0a10c00186a0a191c0c011 h4))
  | true =>
   have m1:dQ (.int s.pg) (.int len) ⟨l1,H⟩= .ok (.int (s.pg*len)) ⟨l1,H⟩:=mj _ _ _ (Ck (by exact hpg.1) (by exact ru 0xf4240a190191000028a0812 hpp.2 hpg.2))
   have m2:dQ (.int (a:Int)) (.int s.sz) ⟨l1,H⟩= .ok (.int (a*s.sz)) ⟨l1,H⟩:=mj _ _ _ (Ck (by exact bz 0xf0980) (by exact b0 0xf4240a0f900003ca10110112 hlt hbl))
   have kd:bC (.ref f) ⟨l1,H⟩= .ok true ⟨l1,H⟩:=by rw [nj,h3]
   rw [List.length_cons] at h4
   have ap:eB (.ref f) (.tup [.int (s.pg*len+a*s.sz),.int s.sz]) ⟨l1,H⟩=_:=jn (aE (s.pg*len+a*s.sz,s.sz)) l1 H h3 (by rw [List.length_map];exact id (b0 0xf4240a010186a0a191c0c011 h4))
   have st:((an "_law_slot" (.int a)).b fun _=>fU) ⟨l,H⟩= .ok .next ⟨l1,H.set f (.list (acc.map aE++[aE (s.pg*len+a*s.sz,s.sz)]))⟩:=by exists el1,k2,k3,k4,k1.n,k1.f,i0,i1,i2,kd,m1,m2,ap
   have C:bO [f] H (H.set f (.list (acc.map aE++[aE (s.pg*len+a*s.sz,s.sz)]))):=bO.set (.head _)
   have M2:=hM.chg C fun i hi hx=>hf (List.mem_singleton.mp hx▸hi)
   have h3':(H.set f (.list (acc.map aE++[aE (s.pg*len+a*s.sz,s.sz)])))[f]? = some (.list ((acc++[(s.pg*len+a*s.sz,s.sz)]).map aE)):=by
    rw [List.getElem?_set_self (List.getElem?_eq_some_iff.mp h3).1,List.map_append];rfl
   rw [bf st trivial,e1]
   obtain ⟨l',H',r1,r2,r3,r4⟩:=rR hs (H0:=H0) hf bs (a+1) l1 _ _ hr M2 hO k1 k2 k3 h3' (by rw [List.length_append,List.length_singleton];exact id (b0 0x186a0a1190cc00186a0a191c0c011 h4))
   refine ⟨l',H',r1,r2,C.trans r3,?_⟩
   rw [r4,Bs,List.map_cons,List.append_assoc];rfl
theorem wT {f kk:Nat} {ks:List Int} (hf:f∉bZ d ms) (hk:kk≠f):∀(ys:List Int) (l:aY) (H:Hp) (acc:List (Int×Int)),(∀g∈ys,∃s,df ms g=some s)→lS H d ms→lT p len ms→Cz d len f l→H[kk]? = some (.list (ks.map V.int))→H[f]? = some (.list (acc.map aE))→acc.length+ys.length*60≤50000 →
  ∃l' H',A4 (bH (fun H'=>ay (.ref kk) H'=some (ks.map V.int)) (an "_law_page") (iY) (ys.map V.int) ⟨l,H⟩= .ok .next ⟨l',H'⟩) (Cz d len f l') (bO [f] H H') (H'[f]? = some (.list ((acc++ys.flatMap (jB len (look ms))).map aE)))
 | [],l,H,acc,_,hM,hO,hl,h1,h2,_=>⟨l,H,rfl,hl,bO.refl _ _,by simpa using h2⟩
 | g::ys,l,H,acc,hy,hM,hO,hl,h1,h2,h3=>by
  obtain ⟨s,hs⟩:=hy g (.head _)
  obtain ⟨hm,ep⟩:=aB hs
  have hbl:=hO.bslen hm
  rw [List.length_cons] at h3
  refine bi (upd l "_law_page" (.int g)) fun l0 el0=> ?_
  refine bi (upd l0 "_law_row" (.ref s.sh)) fun l1 el1=> ?_
  have k0:Cz d len f l0:=el0▸hl.upd ∅ ∅ ∅
  have k1:Cz d len f l1:=el1▸k0.upd ∅ ∅ ∅
  have k2:l1 "_law_row" = some (.ref s.sh):=aq el1
  have k3:l1 "_law_page" = some (.int s.pg):=ep▸af el1 ∅ (aq el0)
  obtain ⟨l',H',r1,r2,r3,r4⟩:=rR hm (H0:=H) hf s.bs 0 l1 H acc rfl hM hO k1 k2 k3 h2 (by exact tn 0x186a0a20c000003ca20100c350a10c012 h3 hbl)
  have ln:fg [.ref s.t] ⟨l1,H⟩= .ok (.int s.bs.length) ⟨l1,H⟩:=by rw [bY (hM.bits s hm) (by rw [List.length_map];exact id (bz 0xf4240a0100003ca0011 hbl)),List.length_map]
  have rg:cN [.int s.bs.length] ⟨l1,H⟩= .ok ⟨ba 0 s.bs.length,fun _=>True⟩ ⟨l1,H⟩:=eh _ _ ⟨by exact bz 0xf0f4240a1b90,by exact bz 0xf4240a0f900003ca0011 hbl⟩
  have st:((an "_law_page" (.int g)).b fun _=>iY) ⟨l,H⟩= .ok .next ⟨l',H'⟩:=by
   refine bq (g_set el0) (ah (q':=⟨l1,H⟩) ?_ ?_)
   ·exists k0.m,aq el0,bF hM hs,el1
   ·exists k2,ee hM hm,ln,rg
    exact r1
  have M2:=hM.chg r3 fun i hi hx=>hf (List.mem_singleton.mp hx▸hi)
  have h1':=r3.get h1 fun hx=>hk (List.mem_singleton.mp hx)
  have eE:jB len (look ms) g=(cA 0 s.bs).map fun k=>(s.pg*len+k*s.sz,s.sz):=by unfold jB look;rw [hs,← ep];rfl
  have hEl:(jB len (look ms) g).length≤60:=by rw [eE,List.length_map,gH];exact Nat.le_trans List.count_le_length hbl
  rw [show ((0:Nat):Int)=0 from rfl,← eE] at r4
  obtain ⟨l2,H2,s1,s2,s3,s4⟩:=wT hf hk ys l' H' _ (fun g' hg'=>hy g' (.tail _ hg')) M2 hO r2 h1' r4 (by rw [List.length_append];omega)
  refine ⟨l2,H2,by rw [List.map_cons,bf st (bB h1')];exact s1,s2,r3.trans s3,?_⟩
  rw [s4,List.flatMap_cons,List.append_assoc]
theorem bO.pre' {F:List Nat} {H H':Hp} (h:bO F H H') (hF:∀i∈F,H.length≤i):H<+:H':=by
 rw [List.prefix_iff_getElem?]
 intro i hi
 rw [h.same i hi fun hm=>Nat.not_lt.mpr (hF i hm) hi,List.getElem?_eq_getElem hi]
include hM hO
theorem Dc:∀g∈bh p (look ms),∃s,df ms g=some s:=fun g hg=>by
 obtain ⟨v,hv⟩:=dm hg
 obtain ⟨s,hs,_⟩:=aF hv
 exact ⟨s,hs⟩
theorem zf:∃n H',A4 (ga [.ref d,.int len] H= .ok (.ref n) H') (H<+:H') (H.length≤n) (H'[n]? = some (.list ((zF p len (look ms)).map aE))):=by
 refine lh fun G kG=> ?_
 refine bi (aT ["_law_model", "_law_length"] [.ref d,.int len]) fun l0 e0=> ?_
 refine bi (upd l0 "_law_found" (.ref H.length)) fun l1 el1=> ?_
 have k1:Cz d len H.length l1:=⟨af el1 ∅ (e0▸rfl),af el1 ∅ (e0▸rfl),aq el1⟩
 refine bi (H++[O.list []]) fun H1 e1=> ?_
 have p1:H<+:H1:=⟨_,e1⟩
 have so:=kN (hM.pre p1) hO l1
 refine bi (H1++[O.list ((bh p (look ms)).map V.int)]) fun H2 e2=> ?_
 rw [e2] at so
 have p2:H1<+:H2:=⟨_,e2⟩
 have x2:H2[H1.length]? = some (.list ((bh p (look ms)).map V.int)):=by rw [← e2];exact aG _ _
 have x1:H2[H.length]? = some (.list ((([]:List (Int×Int))).map aE)):=av p2 (by rw [← e1];exact aG _ _)
 have hl1:H1.length=H.length+1:=by rw [← e1,List.length_append];rfl
 have hkl:=ed p hO.hp.2 (look ms)
 obtain ⟨l',H',r1,r2,r3,r4⟩:=wT (f:=H.length) (kk:=H1.length) (fun hi=>Nat.lt_irrefl _ (qK hM _ hi)) (by exact fun x9=>b0 0x90961021191c0312 hl1 x9) (bh p (look ms)) l1 H2 [] (Dc hM hO) (hM.pre (p1.trans p2)) hO k1 x2 x1 (by rw [List.length_nil];omega)
 refine kG ⟨H.length,H',aS (m:=qG) (q:=⟨l',H'⟩) rfl ?_,((bO.pre (p1.trans p2)).trans' r3 fun i hi=> .inr (Nat.le_of_eq (List.mem_singleton.mp hi).symm)).pre' (F:=[]) (fun _ h=>by cases h),Nat.le_refl _,r4⟩
 rw [e0]
 refine ah (q':=⟨l1,H1⟩) ?_ (ah (q':=⟨l',H'⟩) ?_ ?_)
 ·exists e1,el1
 ·exists k1.m,so,bw x2
  exact r1
 ·exists r2.f
end
theorem tu {a b:List Int} (h:a.Perm b) (f:Int→Bool):(a.filter f).length=(b.filter f).length:=(h.filter f).length_eq
section
variable {H:Hp} {d:Nat} {ms:List aH} {p len:Int} (hM:lS H d ms) (hO:lT p len ms)
include hM hO
theorem Ed {s:aH} (hs:s∈ms) {l:aY} (h1:l "_law_model" = some (.ref d)) (h2:l "_law_row" = some (.ref s.sh)) :
  oQ ⟨l,H⟩= .ok (.ref H.length) ⟨l,H++[.list (((ms.map (·.pg)).filter fun g=>cU (look ms) s.sz g&&kz (look ms) g).map V.int)]⟩:=by
 have hfew:=hO.few
 let φ : V→Option V:=fun v=>match v with | .int g=>if (cU (look ms) s.sz g&&kz (look ms) g) then some (.int g) else none | _=>none
 rw [← d9 (fun g=>cU (look ms) s.sz g&&kz (look ms) g) φ (fun _=>rfl)]
 refine fO (it:=⟨(ms.map aH.mnt).map fun e=>V.int e.1,fun H'=>H'[d]? = some (.dict (ms.map aH.mnt))⟩) (H1:=H) ?_ ?_ ?_
 ·refine bq (g_get h1) ?_
  simp only [gz,hM.dict]
 ·rw [List.length_map,List.length_map];exact id (bz 0xf4240a00000028a0011 hfew)
 ·show fh _ _ _ _ _ ((ms.map aH.mnt).map fun e=>V.int e.1) H=_
  rw [List.map_map,show ((fun e:Int×V=>V.int e.1)∘aH.mnt)=V.int∘aH.pg from rfl,← List.map_map]
  refine fN hM.dict φ _ fun x hx=> ?_
  obtain ⟨g,hg,rfl⟩:=List.mem_map.mp hx
  obtain ⟨s',hs',rfl⟩:=List.mem_map.mp hg
  have hf:=dU hO.ndp hs'
  refine bi (upd (dX ["_law_row", "_law_model"] l) "_law_one" (.int s'.pg)) fun lc elc=> ?_
  have b1:lc "_law_model" = some (.ref d):=elc▸cq ∅ ∅ h1
  have b2:lc "_law_row" = some (.ref s.sh):=elc▸cq ∅ ∅ h2
  have b3:lc "_law_one" = some (.int s'.pg):=aq elc
  have hl:look ms s'.pg=some (s'.sz,s'.bs):=by unfold look;rw [hf];rfl
  have e1:cU (look ms) s.sz s'.pg=decide (s'.sz=s.sz):=by unfold cU;rw [hl]
  have e2:kz (look ms) s'.pg=decide (s'.bs.count true=0):=by unfold kz;rw [hl]
  have eφ : φ (.int s'.pg)=if (decide (s'.sz=s.sz)&&decide (s'.bs.count true=0)) then some (.int s'.pg) else none:=by rw [← e1,← e2]
  rw [eφ]
  have i1:=om (l:=lc) (hM.bits s' hs')
  cases hz:decide (s'.sz=s.sz) with
  | false =>
   refine fD (H2:=H) ?_
   rw [elc]
   exists b1,b2,b3,bF hM hf,jQ hM hs',jQ hM hs,hz
  | true =>
   cases hc:decide (s'.bs.count true=0) with
   | false =>
    rw [hc] at i1
    refine fD (H2:=H) ?_
    rw [elc]
    exists b1,b2,b3,bF hM hf,jQ hM hs',jQ hM hs,ee hM hs',hz,i1
   | true =>
    rw [hc] at i1
    refine bD (H2:=H) ?_ ?_
    ·rw [elc]
     exists b1,b2,b3,bF hM hf,jQ hM hs',jQ hM hs,ee hM hs',hz,i1
    ·rw [elc];exact g_get b3
structure vL (d:Nat) (ms:List aH) (p len:Int) (H:Hp) (F:Vw) (ms':List aH) (H':Hp):Prop where
 at':lS H' d ms'
 ok:lT p len ms'
 look:look ms'=F
 chg:bO (bZ d ms) H H'
 own:∀i∈bZ d ms',i∈bZ d ms∨H.length≤i
theorem En {g z:Int} {s:aH} (hf:df ms g=some s) (hz:s.sz=z) {k:Nat} (hk:s.bs[k]? = some true):∃ms' H',gQ [.ref d,.int len,.int (g*len+k*z)] H= .ok .none H'∧vL d ms p len H (Ec p (look ms) g z (s.bs.set k false)) ms' H':=by
 refine lh fun G kG=> ?_
 obtain ⟨hs,e⟩:=aB hf
 subst hz e
 have hkl:=(List.getElem?_eq_some_iff.mp hk).1
 have hbl:=hO.bslen hs
 have hsz:=hO.sz s hs
 have hlen:=hO.hlen
 have hsl:=hO.slots s hs
 obtain ⟨u1,u2,u3,u4⟩:=dt (a:=len) (b:=s.sz) (by exact cK 0x98019811 hlen.1) hsz.1
 have b2:0≤(k:Int)*s.sz:=Int.mul_nonneg (by exact bz 0xf0980) (by exact cK 0x98019811 hsz.1)
 have b3:((k:Int)+1)*s.sz≤len.fdiv s.sz*s.sz:=Int.mul_le_mul_of_nonneg_right (by exact rU 0x190fc801fa110112 hkl hsl) (by exact cK 0x98019811 hsz.1)
 rw [Int.add_mul] at b3
 obtain ⟨d1,d2⟩:=G9 (q:=s.pg) (b:=len) (r:=k*s.sz) b2 (by exact Ef 0x2391001d3c812181019813 hsz.1 u3 b3)
 obtain ⟨d3,d4⟩:=Gs (q:=k) (b:=s.sz) (by exact cK 0x99019811 hsz.1)
 obtain ⟨l0,e0⟩:∃l0,aT ["_law_model", "_law_length", "_law_place"] [.ref d,.int len,.int (s.pg*len+k*s.sz)]=l0:=⟨_,rfl⟩
 have a1:l0 "_law_model" = some (.ref d):=e0▸rfl
 have a2:l0 "_law_length" = some (.int len):=e0▸rfl
 have a3:l0 "_law_place" = some (.int (s.pg*len+k*s.sz)):=e0▸rfl
 obtain ⟨l1,el1⟩:∃l1,upd l0 "_law_page" (.int s.pg)=l1:=⟨_,rfl⟩
 obtain ⟨l2,el2⟩:∃l2,upd l1 "_law_row" (.ref s.sh)=l2:=⟨_,rfl⟩
 have t1:pi ⟨l0,H⟩= .ok .next ⟨l1,H⟩:=by exists a2,a3,gv (by omega:len≠0) d1,el1
 have t2:pj ⟨l1,H⟩= .ok .next ⟨l2,H⟩:=by exists af el1 ∅ a1,aq el1,bF hM hf,el2
 have c1:l2 "_law_model" = some (.ref d):=af el2 ∅ (af el1 ∅ a1)
 have c2:l2 "_law_length" = some (.int len):=af el2 ∅ (af el1 ∅ a2)
 have c3:l2 "_law_place" = some (.int (s.pg*len+k*s.sz)):=af el2 ∅ (af el1 ∅ a3)
 have c4:l2 "_law_row" = some (.ref s.sh):=aq el2
 have c5:l2 "_law_page" = some (.int s.pg):=af el2 ∅ (aq el1)
 obtain ⟨bs,ebs⟩:∃bs,s.bs.set k false=bs:=⟨_,rfl⟩
 have hse:=er (l:=l2) (k:=k) (b:=false) (hM.bits s hs) (by exact bz 0xf0980) (by exact b0 0xf4240a0f900003ca10110112 hkl hbl) (by exact b0 0x1f0f910111 hkl)
 rw [Int.toNat_natCast,ebs] at hse
 obtain ⟨H1,e1⟩:∃H1,H.set s.t (.list (bs.map V.bool))=H1:=⟨_,rfl⟩
 rw [e1] at hse
 have t3:pk ⟨l2,H⟩= .ok .next ⟨l2,H1⟩:=by exists c2,c3,c4,ee hM hs,jQ hM hs,eW (by omega:len≠0) d2,gv (by omega:s.sz≠0) d3,hse
 have M1:=lS.setBs hM hO hs bs
 have O1:=lT.setBs hO hs (bs:=bs) (by rw [← ebs,List.length_set])
 have L1:=gD hf bs
 rw [e1] at M1
 have C1:bO (bZ d ms) H H1:=by rw [← e1];exact bO.set (xH hs)
 obtain ⟨m1,em1⟩:∃m1,setBs ms s.pg bs=m1:=⟨_,rfl⟩
 have hw1:bZ d m1=bZ d ms:=by rw [← em1];exact pU _ _
 have hs1:{ s with bs:=bs }∈m1:=by rw [← em1];exact List.mem_map.mpr ⟨s,hs,if_pos rfl⟩
 rw [em1] at M1 O1 L1
 have hcm:=Ed M1 O1 hs1 c1 c4
 obtain ⟨em,eem⟩:∃em,((m1.map (·.pg)).filter fun g=>cU (look m1) s.sz g&&kz (look m1) g)=em:=⟨_,rfl⟩
 have elen:em.length=((gA p (dY (look ms) s.pg (some (s.sz,bs)))).filter (cU (dY (look ms) s.pg (some (s.sz,bs))) s.sz)).length:=by
  rw [← eem,← L1]
  have hp:=gG (m1.map (·.pg))
  rw [O1.keys] at hp
  rw [← tu hp]
  unfold gA
  rw [List.filter_filter]
 dsimp only at hcm
 rw [eem] at hcm
 obtain ⟨H2,e2⟩:∃H2,H1++[O.list (em.map V.int)]=H2:=⟨_,rfl⟩
 rw [e2] at hcm
 have p2:H1<+:H2:=⟨_,e2⟩
 have M2:=M1.pre p2
 obtain ⟨l3,el3⟩:∃l3,upd l2 "_law_empty" (.ref H1.length)=l3:=⟨_,rfl⟩
 have t4:pn ⟨l2,H1⟩= .ok .next ⟨l3,H2⟩:=by exists hcm,el3
 have f1:l3 "_law_model" = some (.ref d):=af el3 ∅ c1
 have f2:l3 "_law_row" = some (.ref s.sh):=af el3 ∅ c4
 have f3:l3 "_law_page" = some (.int s.pg):=af el3 ∅ c5
 have f4:l3 "_law_empty" = some (.ref H1.length):=aq el3
 have hel:em.length≤40:=by
  have h1:em.length≤(m1.map (·.pg)).length:=eem▸List.length_filter_le _ _
  rw [List.length_map] at h1
  exact Nat.le_trans h1 O1.few
 have ln:fg [.ref H1.length] ⟨l3,H2⟩= .ok (.int em.length) ⟨l3,H2⟩:=by
  rw [bY (xs:=em.map V.int) (by rw [← e2];exact aG _ _) (by rw [List.length_map];exact id (bz 0xf4240a01000028a0011 hel)),List.length_map]
 have hbits:H2[s.t]? = some (.list (bs.map V.bool)):=M2.bits _ hs1
 have hrow:∀l,aj (.ref s.sh) (.int 1) ⟨l,H2⟩= .ok (.ref s.t) ⟨l,H2⟩:=fun l=>ee M2 hs1 l
 have i1:=om (l:=l3) hbits
 have dl:decide (((em.length:Nat):Int)>1)=decide (1<em.length):=decide_eq_decide.mpr (xC (b:=1))
 have main:∀q,po ⟨l3,H2⟩= .ok .next q→gQ [.ref d,.int len,.int (s.pg*len+k*s.sz)] H= .ok .none q.H:=fun q hq =>
  lx (m:=sT) (q:=q) rfl (by rw [e0];exact ah t1 (ah t2 (ah t3 (ah t4 hq))))
 have C2:bO (bZ d ms) H H2:=C1.trans (bO.pre p2)
 unfold Ec at kG
 rw [ebs,← elen] at kG
 by_cases h1:bs.count true=0
 ·rw [decide_eq_true h1] at i1
  by_cases h2:1<em.length
  ·rw [if_pos ⟨h1,h2⟩] at kG
   have hf1:df m1 s.pg=some { s with bs:=bs }:=dU O1.ndp hs1
   refine kG ⟨cW m1 s.pg,_,main ⟨l3,_⟩ ?_,lS.del M2 O1 s.pg,lT.del O1 s.pg,by rw [ge,L1],C2.trans (bO.set (by rw [← hw1];exact .head _)),fun i hi=> .inl (hw1▸mY s.pg i hi)⟩
   exists f1,f2,f3,f4,hrow,i1,ln,dl.trans (decide_eq_true h2),tX M2,xG M2 O1 hf1
  ·rw [if_neg fun h=>h2 h.2] at kG
   refine kG ⟨m1,H2,main ⟨l3,H2⟩ ?_,M2,O1,L1,C2,fun i hi=> .inl (hw1▸hi)⟩
   exists f1,f2,f3,f4,hrow,i1,ln,dl.trans (decide_eq_false h2)
 ·rw [decide_eq_false h1] at i1
  rw [if_neg fun h=>h1 h.1] at kG
  refine kG ⟨m1,H2,main ⟨l3,H2⟩ ?_,M2,O1,L1,C2,fun i hi=> .inl (hw1▸hi)⟩
  exists f1,f2,f3,f4,hrow,i1
end
noncomputable def A0 (per:Int) (F:Vw) (z g:Int):Int:=match F g with
 | none=>per
 | some v=>if v.2.count true=0 then per else if v.1=z then ((v.2.count false:Nat):Int) else 0
theorem Df {per z:Int} {F:Vw} (hs:∀g v,F g=some v→v.1=z→(v.2.length:Int)=per):∀l:List Int,
  gY (((l.filter fun g=>(F g).isSome).filter (cU F z)).map (BJ F))+(((l.filter fun g=>(F g).isNone).length:Nat)+(((((l.filter fun g=>(F g).isSome).filter (kz F)).filter fun g => !cU F z g).length:Nat):Int))*per=gY (l.map (A0 per F z))
 | []=>by simp [zB]
 | g::l=>by
  have ih:=Df hs l
  rw [List.map_cons,kR,← ih]
  cases hF:F g with
  | none =>
   rw [List.filter_cons_of_neg (by rw [hF];simp),List.filter_cons_of_pos (p:=fun g=>(F g).isNone) (by rw [hF];rfl)]
   have:A0 per F z g=per:=by unfold A0;rw [hF]
   rw [this,List.length_cons]
   push_cast
   rw [Int.add_mul,Int.add_mul,Int.add_mul]
   exact id (Int.le_antisymm (Ef 0x31c0c2c3201d1cc0c80) (Ef 0x3001d2cc1c32c1c0c80))
  | some v =>
   have e1:cU F z g=decide (v.1=z):=by unfold cU;rw [hF]
   have e2:kz F g=decide (v.2.count true=0):=by unfold kz;rw [hF]
   have e3:A0 per F z g=if v.2.count true=0 then per else if v.1=z then ((v.2.count false:Nat):Int) else 0:=by unfold A0;rw [hF]
   rw [List.filter_cons_of_pos (p:=fun g=>(F g).isSome) (by rw [hF];rfl),List.filter_cons_of_neg (p:=fun g=>(F g).isNone) (by rw [hF];simp),e3]
   have hfl:=nY v.2 0
   have hct:=Ea v.2
   by_cases hz:v.1=z
   ·rw [List.filter_cons_of_pos (p:=cU F z) (by rw [e1];exact decide_eq_true hz),List.map_cons,kR]
    have hfr:BJ F g=(((gu 0 v.2).length:Nat):Int):=by unfold BJ;rw [hF]
    have hsl:=hs g v hF hz
    rw [hfr]
    by_cases hc:v.2.count true=0
    ·rw [List.filter_cons_of_pos (p:=kz F) (by rw [e2];exact decide_eq_true hc),List.filter_cons_of_neg (p:=fun g => !cU F z g) (by rw [e1,decide_eq_true hz];simp),if_pos hc]
     exact id (Int.le_antisymm (lA [_,_,_] [_,_,_] 0x21c0c210fcc802fa1210c212 hfl hsl) (lA [_,_,_] [_,_,_] 0x210fcc21c0c80912102fb1210c313 hfl hsl hc))
    ·rw [List.filter_cons_of_neg (p:=kz F) (by rw [e2,decide_eq_false hc];simp),if_neg hc,if_pos hz]
     exact id (Int.le_antisymm (lA [_,_,_,_] [_,_] 0x10c3fc100fcc8231c31210c212 hfl hct) (lA [_,_,_,_] [_,_] 0x100fcc10c3fc8231c21210c312 hfl hct))
   ·rw [List.filter_cons_of_neg (p:=cU F z) (by rw [e1,decide_eq_false hz];simp)]
    by_cases hc:v.2.count true=0
    ·rw [List.filter_cons_of_pos (p:=kz F) (by rw [e2];exact decide_eq_true hc),List.filter_cons_of_pos (p:=fun g => !cU F z g) (by rw [e1,decide_eq_false hz];rfl),if_pos hc,List.length_cons]
     push_cast
     rw [Int.add_mul,Int.add_mul,Int.add_mul]
     exact id (Int.le_antisymm (Ef 0x21c0c3c301d2c1c0c80) (Ef 0x1d3c2c1c32c1c0c80))
    ·rw [List.filter_cons_of_neg (p:=kz F) (by rw [e2,decide_eq_false hc];simp),if_neg hc,if_neg hz]
     exact id (Int.le_antisymm (ru 0x10c09c10c80) (ru 0x10c10c09c80))
theorem Ez {p len z:Int} {F:Vw} (hs:∀g v,F g=some v→v.1=z→(v.2.length:Int)=len.fdiv z):Ey p len F z=gY ((dZ p).map (A0 (len.fdiv z) F z)):=Df hs (dZ p)
structure GX (d:Nat) (dr:V) (z a:Int) (l:aY):Prop where
 m:l "_law_model" = some (.ref d)
 dr:l "_law_drawn" = some dr
 z:l "_law_size" = some (.int z)
 a:l "_law_left_here" = some (.int a)
section
variable {H:Hp} {d:Nat} {ms:List aH} {p len:Int} (hM:lS H d ms) (hO:lT p len ms)
include hM hO
theorem uE {z:Int} (hz:z≠0) {za:Nat}:∀(ys:List Int) (l:aY) (a:Int),GX d (.tup [.int p,.int len,.ref za]) z a l →
  ∃l',bH (fun _=>True) (an "_law_page") (fT) (ys.map V.int) ⟨l,H⟩= .ok .next ⟨l',H⟩∧GX d (.tup [.int p,.int len,.ref za]) z (a+gY (ys.map (A0 (len.fdiv z) (look ms) z))) l'
 | [],l,a,h=>⟨l,rfl,by rw [List.map_nil,zB,Int.add_zero];exact h⟩
 | g::ys,l,a,h=>by
  refine bi (upd l "_law_page" (.int g)) fun l1 el1=> ?_
  have k1:l1 "_law_model" = some (.ref d):=af el1 ∅ h.m
  have k2:l1 "_law_drawn" = some (.tup [.int p,.int len,.ref za]):=af el1 ∅ h.dr
  have k3:l1 "_law_size" = some (.int z):=af el1 ∅ h.z
  have k4:l1 "_law_left_here" = some (.int a):=af el1 ∅ h.a
  have k5:l1 "_law_page" = some (.int g):=aq el1
  have hin:=EW hM g l1
  have dr1:∀q,aj (.tup [.int p,.int len,.ref za]) (.int 1) q= .ok (.int len) q:=fun q=>rfl
  have go:∀c l2,upd l1 "_law_left_here" (.int (a+c))=l2→A0 (len.fdiv z) (look ms) z g=c→((an "_law_page" (.int g)).b fun _=>fT) ⟨l,H⟩= .ok .next ⟨l2,H⟩ →
    ∃l',bH (fun _=>True) (an "_law_page") (fT) ((g::ys).map V.int) ⟨l,H⟩= .ok .next ⟨l',H⟩∧GX d (.tup [.int p,.int len,.ref za]) z (a+gY ((g::ys).map (A0 (len.fdiv z) (look ms) z))) l':=fun c l2 el2 hc st=>by
   obtain ⟨l',r1,r2⟩:=uE hz (za:=za) ys l2 (a+c) ⟨af el2 ∅ k1,af el2 ∅ k2,af el2 ∅ k3,aq el2⟩
   refine ⟨l',by rw [List.map_cons,bf st trivial];exact r1,?_⟩
   rw [List.map_cons,kR,hc,← Int.add_assoc]
   exact r2
  cases hF:look ms g with
  | none =>
   rw [hF] at hin
   refine go (len.fdiv z) _ rfl (by unfold A0;rw [hF]) ?_
   exists el1,k1,k2,k3,k4,k5,hin,dr1,gv hz rfl
  | some v =>
   rw [hF] at hin
   obtain ⟨s,hs,y1,y2⟩:=aF hF
   have hm:=(aB hs).1
   have i1:=om (l:=l1) (hM.bits s hm)
   by_cases hc:s.bs.count true=0
   ·rw [decide_eq_true hc] at i1
    refine go (len.fdiv z) _ rfl (by unfold A0;rw [hF];exact if_pos (y2▸hc)) ?_
    exists el1,k1,k2,k3,k4,k5,hin,dr1,gv hz rfl,bF hM hs,ee hM hm,i1
   ·rw [decide_eq_false hc] at i1
    have hlc:A0 (len.fdiv z) (look ms) z g=if s.sz=z then ((s.bs.count false:Nat):Int) else 0:=by unfold A0;rw [hF,y1,y2];exact if_neg (y2▸hc)
    by_cases hsz:s.sz=z
    ·rw [if_pos hsz] at hlc
     refine go _ _ rfl hlc ?_
     exists el1,k1,k2,k3,k4,k5,hin,dr1,bF hM hs,ee hM hm,jQ hM hm,i1,decide_eq_true hsz,jP hM hm,oj false (hM.bits s hm)
    ·rw [if_neg hsz] at hlc
     obtain ⟨l',r1,r2⟩:=uE hz (za:=za) ys l1 a ⟨k1,k2,k3,k4⟩
     have st:((an "_law_page" (.int g)).b fun _=>fT) ⟨l,H⟩= .ok .next ⟨l1,H⟩:=by
      exists el1,k1,k2,k3,k4,k5,hin,dr1,bF hM hs,ee hM hm,jQ hM hm,i1,decide_eq_false hsz
     refine ⟨l',by rw [List.map_cons,bf st trivial];exact r1,?_⟩
     rw [List.map_cons,kR,hlc,Int.zero_add]
     exact r2
theorem FN {z:Int} (hz:z≠0) {za:Nat}:pG [.ref d,.tup [.int p,.int len,.ref za],.int z] H= .ok (.int (gY ((dZ p).map (A0 (len.fdiv z) (look ms) z)))) H:=by
 refine bi (aT ["_law_model", "_law_drawn", "_law_size"] [.ref d,.tup [.int p,.int len,.ref za],.int z]) fun l0 e0=> ?_
 refine bi (upd l0 "_law_left_here" (.int 0)) fun l1 el1=> ?_
 have k:GX d (.tup [.int p,.int len,.ref za]) z 0 l1:=⟨af el1 ∅ (e0▸rfl),af el1 ∅ (e0▸rfl),af el1 ∅ (e0▸rfl),aq el1⟩
 obtain ⟨l',r1,r2⟩:=uE hM hO hz (za:=za) (dZ p) l1 0 k
 have hp:=hO.hp
 have rg:cN [.int p] ⟨l1,H⟩= .ok ⟨(dZ p).map V.int,fun _=>True⟩ ⟨l1,H⟩:=by
  rw [eh p _ ⟨by exact cK 0xf4240a1b9019811 hp.1,by exact cK 0xf4240a09000028a0811 hp.2⟩]
  unfold dZ
  rw [List.range_eq_range',← kQ];rfl
 have dr0:∀q,aj (.tup [.int p,.int len,.ref za]) (.int 0) q= .ok (.int p) q:=fun q=>rfl
 have:=r2.a
 rw [Int.zero_add] at this
 refine aS (m:=uH) (q:=⟨l',H⟩) rfl ?_
 rw [e0]
 refine ah (q':=⟨l1,H⟩) ?_ (ah (q':=⟨l',H⟩) ?_ ?_)
 ·exists el1
 ·exists k.dr,dr0,rg
  exact r1
 ·exists this
end
theorem B0 (F:Vw) (g:Int) (l:List Int):dY (iM F l) g none=iM F (g::l):=by
 funext x
 unfold iM dY
 by_cases h1:x=g<;>simp [h1]
theorem uA (F:Vw) (stay:List Int):∀zs:List Int,cR F stay zs=(zs.filter fun g => !decide (g∈stay)).flatMap (mS F)
 | []=>rfl
 | g::zs=>by
  have ih:=uA F stay zs
  unfold cR at ih ⊢
  rw [List.flatMap_cons,ih]
  by_cases h:g∈stay
  ·rw [if_pos h,List.filter_cons_of_neg (by simp [h])];rfl
  ·rw [if_neg h,List.filter_cons_of_pos (by simp [h]),List.flatMap_cons]
noncomputable def Hv:List String:=["_law_page", "_law_slot", "_law_goal", "_law_there"]
structure DY (d:Nat) (len z per:Int) (b c:Nat) (l:aY):Prop where
 m:l "_law_model" = some (.ref d)
 n:l "_law_length" = some (.int len)
 z:l "_law_size" = some (.int z)
 s:l "_law_slots" = some (.int per)
 b:l "_law_stay" = some (.ref b)
 c:l "_law_moves" = some (.ref c)
theorem DY.upd {d:Nat} {len z per:Int} {b c:Nat} {l l':aY} (h:DY d len z per b c l) {x:String} {v:V} (e:Mine.Lake.upd l x v=l') (hx:x∈Hv):DY d len z per b c l':=by
 have ne:∀ {y:String},y∉Hv→y≠x:=fun hy e=>hy (e▸hx)
 exact ⟨af e (ne ∅) h.m,af e (ne ∅) h.n,af e (ne ∅) h.z,af e (ne ∅) h.s,af e (ne ∅) h.b,af e (ne ∅) h.c⟩
structure MG (d:Nat) (p len z:Int) (F0:Vw) (stay ns:List Int) (a b c:Nat) (Mt:List (Int×Int)) (Ft:Vw) (H0:Hp) (ms0:List aH) (todo:List (Int×Int)) (done:List Int) (H:Hp) (ms:List aH) (Fr:Vw) (acc:List (Int×Int)):Prop where
 at':lS H d ms
 ok:lT p len ms
 lk:look ms=iM Fr done
 off:∀x,x∉stay→Fr x=F0 x
 on:∀x∈stay,∃bs,Fr x=some (z,bs)
 dn:∀x∈done,x∉stay
 mv:Dm len z stay Fr todo
 m:acc++(eX len z stay Fr todo).1=Mt
 f:(eX len z stay Fr todo).2=Ft
 hc:H[c]? = some (.list (acc.map aE))
 ha:H[a]? = some (.list (ns.map V.int))
 hb:H[b]? = some (.list (stay.map V.int))
 chg:bO (c::bZ d ms0) H0 H
 own:∀i∈bZ d ms,i∈bZ d ms0
 few:acc.length+todo.length≤50000
structure Ho (d:Nat) (ms0:List aH) (a b c:Nat):Prop where
 ca:c≠a
 cb:c≠b
 co:c∉bZ d ms0
 ao:a∉bZ d ms0
 bo:b∉bZ d ms0
section
variable {d:Nat} {p len z:Int} {F0:Vw} {stay ns:List Int} {a b c:Nat} {Mt:List (Int×Int)} {Ft:Vw} {H0:Hp} {ms0:List aH} (hA:Ho d ms0 a b c) (hst:stay.length≤40)
include hA hst
theorem Ep {g:Int} {k:Nat} {todo:List (Int×Int)} {done:List Int} {l:aY} {H:Hp} {ms:List aH} {Fr:Vw} {acc:List (Int×Int)} {per:Int} (hI:MG d p len z F0 stay ns a b c Mt Ft H0 ms0 ((g,(k:Int))::todo) done H ms Fr acc) (hl:DY d len z per b c l)
  (h1:l "_law_page" = some (.int g)) (h2:l "_law_slot" = some (.int k)) (hg:g∉stay) (hgd:g∉done) {bs0:List Bool} (hF:F0 g=some (z,bs0)) (hk:bs0[k]? = some true) :
  ∃l' H' ms' Fr' acc',A4 (cX ⟨l,H⟩= .ok .next ⟨l',H'⟩) (MG d p len z F0 stay ns a b c Mt Ft H0 ms0 todo done H' ms' Fr' acc') (DY d len z per b c l') (l' "_law_page" = some (.int g)):=by
 refine lh fun G kG=> ?_
 have hM:=hI.at'
 have hO:=hI.ok
 have hlk:∀x,x∉done→look ms x=Fr x:=fun x hx=>by rw [hI.lk];exact if_neg hx
 have hls:∀x∈stay,look ms x=Fr x:=fun x hx=>hlk x fun hd=>hI.dn x hd hx
 obtain ⟨s,hs,y1,y2⟩:=aF (ss:=ms) (v:=(z,bs0)) (by rw [hlk g hgd,hI.off g hg];exact hF)
 dsimp only at y1 y2
 obtain ⟨hm,ep⟩:=aB hs
 have hbl:=hO.bslen hm
 have hkl:k<s.bs.length:=y2▸(List.getElem?_eq_some_iff.mp hk).1
 have hpp:=hO.hp
 have hpg:=hO.pg s hm
 rw [ep] at hpg
 have i0:aj (.ref s.t) (.int k) ⟨l,H⟩= .ok (.bool true) ⟨l,H⟩:=gU (hM.bits s hm) (Int.natCast_nonneg k) (by exact b0 0xf4240a1f9011100003ca0012 hbl hkl) (by rw [y2];simpa using hk)
 obtain ⟨hfind,hmv⟩:=hI.mv
 obtain ⟨h,hh⟩:=Option.isSome_iff_exists.mp hfind
 have hhs:=List.mem_of_find?_eq_some hh
 obtain ⟨v,j,hv,hj⟩:=uU (List.find?_some hh)
 obtain ⟨bsh,hbh⟩:=hI.on h hhs
 rw [hbh] at hv
 cases hv
 dsimp only at hj
 have est:=xJ (len:=len) (z:=z) (g,(k:Int)) hh hbh hj
 obtain ⟨t,ht,z1,z2⟩:=aF (ss:=ms) (v:=(z,bsh)) (by rw [hls h hhs];exact hbh)
 dsimp only at z1 z2
 obtain ⟨tm,tp⟩:=aB ht
 -- the goal
 have hc:∃H',fe ⟨l,H⟩= .ok (.ref H'.length) ⟨l,H'++[.list (stay.filterMap fun x=>if vW Fr x then some (V.int x) else none)]⟩∧H<+:H':=by
  unfold fe
  refine bJ (n:=b) (ks:=stay) ?_ hI.hb (by exact bz 0xf4240a00000028a0011 hst) (fun x=>if vW Fr x then some (V.int x) else none) fun x hx Hx hp=> ?_
  ·exists hl.b,bw hI.hb
  ·obtain ⟨bx,hbx⟩:=hI.on x hx
   obtain ⟨u,hu,w1,w2⟩:=aF (ss:=ms) (v:=(z,bx)) (by rw [hls x hx];exact hbx)
   have um:=(aB hu).1
   have hMx:=hM.pre hp
   refine bi (upd (dX ["_law_model"] l) "_law_one" (.int x)) fun lc elc=> ?_
   have b1:lc "_law_model" = some (.ref d):=elc▸cq ∅ ∅ hl.m
   have b2:lc "_law_one" = some (.int x):=aq elc
   have hop:vW Fr x=(aR u.bs).isSome:=by unfold vW;rw [hbx,w2]
   have i1:=uX (l:=lc) (hMx.bits u um)
   refine ⟨Hx,?_,List.prefix_refl _⟩
   rw [hop]
   cases hb:(aR u.bs).isSome with
   | true =>
    rw [hb] at i1
    refine bD (H2:=Hx) ?_ (by rw [elc];exact g_get b2)
    rw [elc]
    exists b1,b2,bF hMx hu,ee hMx um,i1
   | false =>
    rw [hb] at i1
    refine fD ?_
    rw [elc]
    exists b1,b2,bF hMx hu,ee hMx um,i1
 obtain ⟨H1,hc,p1⟩:=hc
 refine bi (H1++[O.list (stay.filterMap fun x=>if vW Fr x then some (V.int x) else none)]) fun H2 e2=> ?_
 rw [e2] at hc
 have p2:H<+:H2:=p1.trans ⟨_,e2⟩
 have M2:=hM.pre p2
 have x0:(stay.filterMap fun x=>if vW Fr x then some (V.int x) else none)[(0:Int).toNat]? = some (.int h):=uu (o:=vW Fr) (fun x hx=>by simp [hx]) (by simp [List.find?_some hh]) hh
 have x2:H2[H1.length]? = some (.list (stay.filterMap fun x=>if vW Fr x then some (V.int x) else none)):=by rw [← e2];exact aG _ _
 have hit:aj (.ref H1.length) (.int 0) ⟨l,H2⟩= .ok (.int h) ⟨l,H2⟩:=mR x2 ⟨by decide,by decide⟩ x0
 refine bi (upd l "_law_goal" (.int h)) fun l1 el1=> ?_
 refine bi (upd l1 "_law_there" (.int j)) fun l2 el2=> ?_
 have k1:=hl.upd el1 ∅
 have k2:=k1.upd el2 ∅
 have c1:l1 "_law_goal" = some (.int h):=aq el1
 have c2:l2 "_law_goal" = some (.int h):=af el2 ∅ c1
 have c3:l2 "_law_there" = some (.int j):=aq el2
 have c4:l2 "_law_page" = some (.int g):=af el2 ∅ (af el1 ∅ h1)
 have c5:l2 "_law_slot" = some (.int k):=af el2 ∅ (af el1 ∅ h2)
 have hjt:aR t.bs=some j:=z2▸hj
 have htl:=hO.bslen tm
 have hjl:=(fP hjt).1
 have ix:=o0 (l:=l1) (M2.bits t tm) (by exact bz 0x3e8a0000003ca0011 htl) hjt
 have se:=er (l:=l2) (k:=j) (b:=true) (M2.bits t tm) (by exact bz 0xf0980) (by exact b0 0xf4240a1f9011100003ca0012 htl hjl) (by exact b0 0x1f0f910111 hjl)
 rw [Int.toNat_natCast,z2] at se
 refine bi (H2.set t.t (.list ((bsh.set j true).map V.bool))) fun H3 e3=> ?_
 rw [e3] at se
 have M3:=lS.setBs M2 hO tm (bsh.set j true)
 have O3:=lT.setBs hO tm (bs:=bsh.set j true) (by rw [List.length_set,z2])
 rw [e3] at M3
 have C3:bO (bZ d ms) H H3:=by rw [← e3];exact (bO.pre p2).trans (bO.set (xH tm))
 have L3:=gD (dU hO.ndp tm) (bsh.set j true)
 rw [tp,z1] at L3
 rw [tp] at M3 O3
 have hw:=pU (d:=d) (ms:=ms) h (bsh.set j true)
 have C3':=C3.mono fun i hi _=>hI.own i hi
 have hc3:=C3'.get hI.hc hA.co
 have hb3:=C3'.get hI.hb hA.bo
 have ha3:=C3'.get hI.ha hA.ao
 have hfew:=hI.few
 rw [List.length_cons] at hfew
 have kd:bC (.ref c) ⟨l2,H3⟩= .ok true ⟨l2,H3⟩:=by rw [nj,hc3]
 have m1:dQ (.int g) (.int len) ⟨l2,H3⟩= .ok (.int (g*len)) ⟨l2,H3⟩:=mj _ _ _ (Ck (by exact hpg.1) (by exact ru 0xf4240a190191000028a0812 hpp.2 hpg.2))
 have m2:dQ (.int (k:Int)) (.int z) ⟨l2,H3⟩= .ok (.int (k*z)) ⟨l2,H3⟩:=mj _ _ _ (Ck (by exact bz 0xf0980) (by exact b0 0xf4240a1f9011100003ca0012 hbl hkl))
 have hph:=hO.pg t tm
 rw [tp] at hph
 have m3:dQ (.int h) (.int len) ⟨l2,H3⟩= .ok (.int (h*len)) ⟨l2,H3⟩:=mj _ _ _ (Ck (by exact hph.1) (by exact ru 0xf4240a190191000028a0812 hpp.2 hph.2))
 have m4:dQ (.int (j:Int)) (.int z) ⟨l2,H3⟩= .ok (.int (j*z)) ⟨l2,H3⟩:=mj _ _ _ (Ck (by exact bz 0xf0980) (by exact b0 0xf4240a1f9011100003ca0012 htl hjl))
 have ap:eB (.ref c) (.tup [.int (g*len+k*z),.int (h*len+j*z)]) ⟨l2,H3⟩=_:=jn (aE (g*len+k*z,h*len+j*z)) l2 H3 hc3 (by rw [List.length_map];exact id (b0 0xf4240a0100c350a191c0c011 hfew))
 have C4:bO [c] H3 (H3.set c (.list (acc.map aE++[aE (g*len+k*z,h*len+j*z)]))):=bO.set (.head _)
 have em:=hI.m
 have ef:=hI.f
 rw [uP,est] at em ef
 rw [est] at hmv
 refine kG ⟨l2,_,setBs ms h (bsh.set j true),dY Fr h (some (z,bsh.set j true)),acc++[(g*len+k*z,h*len+j*z)],?_,
  ⟨M3.chg C4 fun i hi hx=>hA.co (List.mem_singleton.mp hx▸hI.own i (hw▸hi)),O3,?_,fun x hx=> ?_,fun x hx=> ?_,hI.dn,hmv,?_,ef,?_,C4.get ha3 (fun hx=>hA.ca (List.mem_singleton.mp hx).symm),C4.get hb3 (fun hx=>hA.cb (List.mem_singleton.mp hx).symm),?_,fun i hi=>hI.own i (hw▸hi),?_⟩,k2,c4⟩
 ·refine bq (q':=⟨l,H⟩) (a:=true) ?_ (it_t rfl (ah (q':=⟨l1,H2⟩) ?_ (ah (q':=⟨l2,H2⟩) ?_ (ah (q':=⟨l2,H3⟩) ?_ ?_))))
  ·exists hl.m,h1,h2,bF hM hs,ee hM hm,i0
  ·exists hc,hit,el1
  ·exists k1.m,c1,bF M2 ht,ee M2 tm,jP M2 tm,ix,el2
  ·exists k2.m,c2,c3,bF M2 ht,ee M2 tm,se
  ·exists k2.c,k2.n,k2.z,kd,c2,c3,c4,c5,m1,m2,m3,m4,ap
 ·rw [L3,hI.lk]
  funext x
  by_cases e:x=h
  ·subst e;rw [dp];unfold iM;rw [if_neg fun hd=>hI.dn _ hd hhs,dp]
  ·rw [fE _ _ e];unfold iM;rw [fE _ _ e]
 ·have:x≠h:=fun e=>hx (e▸hhs)
  rw [fE _ _ this]
  exact hI.off x hx
 ·by_cases e:x=h
  ·subst e;exact ⟨_,dp _ _ _⟩
  ·rw [fE _ _ e];exact hI.on x hx
 ·rw [List.append_assoc];exact em
 ·rw [List.getElem?_set_self (List.getElem?_eq_some_iff.mp hc3).1,List.map_append];rfl
 ·exact (hI.chg.trans (C3'.mono fun i hi _=> .tail _ hi)).trans (C4.mono fun i hi _=>by rw [List.mem_singleton.mp hi];exact .head _)
 ·rw [List.length_append,List.length_singleton];exact id (b0 0xc350a1190cc000c350a191c0c011 hfew)
theorem uO {g:Int} {per:Int} {rest:List (Int×Int)} {done:List Int} (hg:g∉stay) (hgd:g∉done) {bs0:List Bool} (hF:F0 g=some (z,bs0)):∀(bs:List Bool) (k:Nat) (l:aY) (H:Hp) (ms:List aH) (Fr:Vw) (acc:List (Int×Int)),bs0.drop k=bs →
  MG d p len z F0 stay ns a b c Mt Ft H0 ms0 ((cA k bs).map (fun i=>(g,i))++rest) done H ms Fr acc→DY d len z per b c l→l "_law_page" = some (.int g) →
  ∃l' H' ms' Fr' acc',bH (fun _=>True) (an "_law_slot") (cX) (ba k bs.length) ⟨l,H⟩= .ok .next ⟨l',H'⟩∧MG d p len z F0 stay ns a b c Mt Ft H0 ms0 rest done H' ms' Fr' acc'∧DY d len z per b c l'∧l' "_law_page" = some (.int g)
 | [],k,l,H,ms,Fr,acc,_,hI,hl,h1=>⟨l,H,ms,Fr,acc,rfl,hI,hl,h1⟩
 | x::bs,k,l,H,ms,Fr,acc,e,hI,hl,h1=>by
  have hx:bs0[k]? = some x:=by
   have:(bs0.drop k)[0]? = some x:=by rw [e];rfl
   simpa using this
  have hr:bs0.drop (k+1)=bs:=by rw [← List.drop_drop,e];rfl
  have e1:((k:Int)+1)=((k+1:Nat):Int):=rfl
  refine bi (upd l "_law_slot" (.int k)) fun l1 el1=> ?_
  have k1:=hl.upd el1 ∅
  have c1:l1 "_law_page" = some (.int g):=af el1 ∅ h1
  have c2:l1 "_law_slot" = some (.int k):=aq el1
  rw [List.length_cons,ba,e1]
  cases x with
  | true =>
   rw [Bs,List.map_cons,List.cons_append] at hI
   obtain ⟨l',H',ms',Fr',acc',r1,r2,r3,r4⟩:=Ep hA hst hI k1 c1 c2 hg hgd hF hx
   rw [e1] at r2
   obtain ⟨l2,H2,m2,F2,a2,s1,s2⟩:=uO hg hgd hF bs (k+1) l' H' ms' Fr' acc' hr r2 r3 r4
   exact ⟨l2,H2,m2,F2,a2,by rw [bf (bq (g_set el1) r1) trivial];exact s1,s2⟩
  | false =>
   rw [EF,e1] at hI
   obtain ⟨s,hs,y1,y2⟩:=aF (ss:=ms) (v:=(z,bs0)) (by rw [hI.lk];unfold iM;rw [if_neg hgd,hI.off g hg];exact hF)
   dsimp only at y1 y2
   have hm:=(aB hs).1
   have hbl:=hI.ok.bslen hm
   have hkl:=(List.getElem?_eq_some_iff.mp hx).1
   have i0:aj (.ref s.t) (.int k) ⟨l1,H⟩= .ok (.bool false) ⟨l1,H⟩:=gU (hI.at'.bits s hm) (Int.natCast_nonneg k) (by rw [y2] at hbl;exact id (b0 0xf4240a1f9011100003ca0012 hbl hkl)) (by rw [y2];simpa using hx)
   have st:((an "_law_slot" (.int k)).b fun _=>cX) ⟨l,H⟩= .ok .next ⟨l1,H⟩:=by
    exists el1,k1.m,c1,c2,bF hI.at' hs,ee hI.at' hm,i0
   obtain ⟨l2,H2,m2,F2,a2,s1,s2⟩:=uO hg hgd hF bs (k+1) l1 H ms Fr acc hr hI k1 c1
   exact ⟨l2,H2,m2,F2,a2,by rw [bf st trivial];exact s1,s2⟩
theorem zh (hper:∀g v,F0 g=some v→v.1=z→(v.2.length:Int)=len.fdiv z) (hp0:0≤len.fdiv z∧len.fdiv z≤1000):∀(ys:List Int) (l:aY) (H:Hp) (ms:List aH) (Fr:Vw) (acc:List (Int×Int)) (done:List Int),ys.Nodup→(∀g∈ys,g∉stay∧g∉done∧ ∃bs,F0 g=some (z,bs)) →
  MG d p len z F0 stay ns a b c Mt Ft H0 ms0 (ys.flatMap (mS F0)) done H ms Fr acc→DY d len z (len.fdiv z) b c l →
  ∃l' H' ms' Fr' acc' done',A4 (bH (fun H'=>ay (.ref a) H'=some (ns.map V.int)) (an "_law_page") (fb) (ys.map V.int) ⟨l,H⟩= .ok .next ⟨l',H'⟩) (MG d p len z F0 stay ns a b c Mt Ft H0 ms0 [] done' H' ms' Fr' acc') (DY d len z (len.fdiv z) b c l') (∀x,x∈done'↔x∈ys∨x∈done)
 | [],l,H,ms,Fr,acc,done,_,_,hI,hl=>⟨l,H,ms,Fr,acc,done,rfl,hI,hl,fun x=>by simp⟩
 | g::ys,l,H,ms,Fr,acc,done,hnd,hy,hI,hl=>by
  refine lh fun G kG=> ?_
  rw [List.nodup_cons] at hnd
  obtain ⟨hg,hgd,bs0,hF⟩:=hy g (.head _)
  have eits:(g::ys).flatMap (mS F0)=(cA (0:Nat) bs0).map (fun i=>(g,i))++ys.flatMap (mS F0):=by rw [List.flatMap_cons];unfold mS;rw [hF];rfl
  rw [eits] at hI
  refine bi (upd l "_law_page" (.int g)) fun l1 el1=> ?_
  have k1:=hl.upd el1 ∅
  obtain ⟨l',H',ms',Fr',acc',r1,r2,r3,r4⟩:=uO hA hst hg hgd hF bs0 0 l1 H ms Fr acc rfl hI k1 (aq el1)
  have hbl:(bs0.length:Int)=len.fdiv z:=hper g _ hF rfl
  have rg:cN [.int (len.fdiv z)] ⟨l1,H⟩= .ok ⟨ba 0 bs0.length,fun _=>True⟩ ⟨l1,H⟩:=by
   rw [eh _ _ ⟨by exact kb 0xf4240a1b900fa11 hbl,by exact cK 0xf4240a090003e8a0811 hp0.2⟩,← hbl,Int.toNat_natCast]
  obtain ⟨s,hs,_⟩:=aF (ss:=ms') (v:=(z,bs0)) (by rw [r2.lk];unfold iM;rw [if_neg hgd,r2.off g hg];exact hF)
  have pop:=xG r2.at' r2.ok hs l'
  refine bi (H'.set d (.dict (ll g (ms'.map aH.mnt)))) fun H2 e2=> ?_
  rw [e2] at pop
  have M2:=lS.del r2.at' r2.ok g
  rw [e2] at M2
  have C2:bO [d] H' H2:=by rw [← e2];exact bO.set (.head _)
  have nd:∀ {i:Nat} {xs:List V},H'[i]? = some (.list xs)→i∉[d]:=fun {i xs} hi hm=>by rw [List.mem_singleton.mp hm,r2.at'.dict] at hi;cases hi
  have I2:MG d p len z F0 stay ns a b c Mt Ft H0 ms0 (ys.flatMap (mS F0)) (g::done) H2 (cW ms' g) Fr' acc' :=
   ⟨M2,lT.del r2.ok g,by rw [ge,r2.lk,B0],r2.off,r2.on,fun x hx=>(List.mem_cons.mp hx).elim (fun e=>e▸hg) (r2.dn x),r2.mv,r2.m,r2.f,C2.get r2.hc (nd r2.hc),C2.get r2.ha (nd r2.ha),C2.get r2.hb (nd r2.hb),
    r2.chg.trans (C2.mono fun i hi _=>by rw [List.mem_singleton.mp hi];exact .tail _ (.head _)),fun i hi=>r2.own i (mY g i hi),r2.few⟩
  have st:((an "_law_page" (.int g)).b fun _=>fb) ⟨l,H⟩= .ok .next ⟨l',H2⟩:=by
   refine bq (g_set el1) (ah (q':=⟨l',H'⟩) ?_ ?_)
   ·exists k1.s,rg
    exact r1
   ·exists r3.m,r4,tX r2.at',pop
  obtain ⟨l3,H3,m3,F3,a3,d3,s1,s2,s3,s4⟩:=zh hper hp0 ys l' H2 _ Fr' acc' (g::done) hnd.2 (fun x hx=>by
   obtain ⟨w1,w2,w3⟩:=hy x (.tail _ hx)
   exact ⟨w1,fun hm=>(List.mem_cons.mp hm).elim (fun e=>hnd.1 (e▸hx)) w2,w3⟩) I2 r3
  refine kG ⟨l3,H3,m3,F3,a3,d3,by rw [List.map_cons,bf st (bB I2.ha)];exact s1,s2,s3,fun x=> ?_⟩
  rw [s4,List.mem_cons,List.mem_cons]
  constructor
  ·rintro (h | h | h)
   ·exact .inl (.inr h)
   ·exact .inl (.inl h)
   ·exact .inr h
  ·rintro ((h | h) | h)
   ·exact .inr (.inl h)
   ·exact .inl h
   ·exact .inr (.inr h)
end
theorem dy {L:List String} {x y:String} (hy:y∉L) (hx:x∈L):y≠x:=fun e=>hy (e▸hx)
section
variable {H:Hp} {d:Nat} {ms:List aH} {p len:Int} (hM:lS H d ms) (hO:lT p len ms)
include hM hO
theorem GD {z:Int} {l:aY} (h1:l "_law_model" = some (.ref d)) (h2:l "_law_size" = some (.int z)):∃H',cY ⟨l,H⟩= .ok (.ref H'.length) ⟨l,H'++[.list ((cc p (look ms) z).map V.int)]⟩∧H<+:H':=by
 have so:=kN hM hO l
 have hkl:=ed p hO.hp.2 (look ms)
 unfold cc
 obtain ⟨ks,eks⟩:∃ks,bh p (look ms)=ks:=⟨_,rfl⟩
 rw [eks] at so hkl ⊢
 obtain ⟨H1,e1⟩:∃H1,H++[O.list (ks.map V.int)]=H1:=⟨_,rfl⟩
 rw [e1] at so
 have p1:H<+:H1:=⟨_,e1⟩
 have x1:H1[H.length]? = some (.list (ks.map V.int)):=by rw [← e1];exact aG _ _
 have hc:∃H',cY ⟨l,H⟩= .ok (.ref H'.length) ⟨l,H'++[.list (ks.filterMap fun g=>if cU (look ms) z g then some (V.int g) else none)]⟩∧H1<+:H':=by
  unfold cY
  refine bJ (n:=H.length) (ks:=ks) ?_ x1 (by exact bz 0xf4240a00000028a0011 hkl) (fun g=>if cU (look ms) z g then some (V.int g) else none) fun g hg Hx hp=> ?_
  ·exists h1,so,bw x1
  ·obtain ⟨v,hv⟩:=dm (eks▸hg:g∈bh p (look ms))
   obtain ⟨s,hs,z1,z2⟩:=aF hv
   have hm:=(aB hs).1
   have hMx:=hM.pre (p1.trans hp)
   obtain ⟨lc,elc⟩:∃lc,upd (dX ["_law_size", "_law_model"] l) "_law_page" (.int g)=lc:=⟨_,rfl⟩
   have b1:lc "_law_model" = some (.ref d):=elc▸cq ∅ ∅ h1
   have b2:lc "_law_size" = some (.int z):=elc▸cq ∅ ∅ h2
   have b3:lc "_law_page" = some (.int g):=aq elc
   have hE:cU (look ms) z g=decide (s.sz=z):=by unfold cU;rw [hv,z1]
   rw [hE]
   refine ⟨Hx,?_,List.prefix_refl _⟩
   cases hb:decide (s.sz=z) with
   | true =>
    refine bD (H2:=Hx) ?_ (by rw [elc];exact g_get b3)
    rw [elc]
    exists b1,b2,b3,bF hMx hs,jQ hMx hm,hb
   | false =>
    refine fD ?_
    rw [elc]
    exists b1,b2,b3,bF hMx hs,jQ hMx hm,hb
 obtain ⟨H',hc,hp⟩:=hc
 rw [cG] at hc
 exact ⟨H',hc,p1.trans hp⟩
theorem GE {z:Int} {a:Nat} {zs:List Int} (hzs:∀g∈zs,∃bs,look ms g=some (z,bs)) (hl:zs.length≤40) (ha:H[a]? = some (.list (zs.map V.int))) {l:aY} (h1:l "_law_model" = some (.ref d)) (h2:l "_law_pages" = some (.ref a)) :
  ∃H',cZ ⟨l,H⟩= .ok (.ref H'.length) ⟨l,H'++[.list ((zs.map (cV (look ms))).map V.int)]⟩∧H<+:H':=by
 have hc:∃H',cZ ⟨l,H⟩= .ok (.ref H'.length) ⟨l,H'++[.list (zs.filterMap fun g=>some (V.int (cV (look ms) g)))]⟩∧H<+:H':=by
  unfold cZ
  refine bJ (n:=a) (ks:=zs) ?_ ha (by exact bz 0xf4240a00000028a0011 hl) (fun g=>some (V.int (cV (look ms) g))) fun g hg Hx hp=> ?_
  ·exists h2,bw ha
  ·obtain ⟨bs,hb⟩:=hzs g hg
   obtain ⟨s,hs,y1,y2⟩:=aF hb
   have hm:=(aB hs).1
   have hMx:=hM.pre hp
   refine bi (upd (dX ["_law_model"] l) "_law_page" (.int g)) fun lc elc=> ?_
   have b1:lc "_law_model" = some (.ref d):=elc▸cq ∅ ∅ h1
   have b3:lc "_law_page" = some (.int g):=aq elc
   have hE:cV (look ms) g=((s.bs.count true:Nat):Int):=by unfold cV eD;rw [hb,y2]
   rw [hE]
   refine ⟨Hx,bD (H2:=Hx) rfl ?_,List.prefix_refl _⟩
   rw [elc]
   exists b1,b3,bF hMx hs,ee hMx hm,jP hMx hm,oj true (hMx.bits s hm)
 have e:(zs.filterMap fun g=>some (V.int (cV (look ms) g)))=(zs.map (cV (look ms))).map V.int:=by rw [List.map_map,← List.filterMap_eq_map];rfl
 rw [e] at hc
 exact hc
theorem GF {z:Int} {a:Nat} {zs:List Int} (hzs:∀g∈zs,∃bs,look ms g=some (z,bs)) (hl:zs.length≤40) (ha:H[a]? = some (.list (zs.map V.int))) {l:aY} (h1:l "_law_model" = some (.ref d)) (h2:l "_law_pages" = some (.ref a)) :
  ∃H',db ⟨l,H⟩= .ok (.ref H'.length) ⟨l,H'++[.list ((zs.map fun g=>(-cV (look ms) g,g)).map aE)]⟩∧H<+:H':=by
 have hc:∃H',db ⟨l,H⟩= .ok (.ref H'.length) ⟨l,H'++[.list (zs.filterMap fun g=>some (aE (-cV (look ms) g,g)))]⟩∧H<+:H':=by
  unfold db
  refine bJ (n:=a) (ks:=zs) ?_ ha (by exact bz 0xf4240a00000028a0011 hl) (fun g=>some (aE (-cV (look ms) g,g))) fun g hg Hx hp=> ?_
  ·exists h2,bw ha
  ·obtain ⟨bs,hb⟩:=hzs g hg
   obtain ⟨s,hs,y1,y2⟩:=aF hb
   have hm:=(aB hs).1
   have hMx:=hM.pre hp
   refine bi (upd (dX ["_law_model"] l) "_law_page" (.int g)) fun lc elc=> ?_
   have b1:lc "_law_model" = some (.ref d):=elc▸cq ∅ ∅ h1
   have b3:lc "_law_page" = some (.int g):=aq elc
   have hE:cV (look ms) g=((s.bs.count true:Nat):Int):=by unfold cV eD;rw [hb,y2]
   rw [hE]
   refine ⟨Hx,bD (H2:=Hx) rfl ?_,List.prefix_refl _⟩
   rw [elc]
   exists b1,b3,bF hMx hs,ee hMx hm,jP hMx hm,oj true (hMx.bits s hm)
 have e:(zs.filterMap fun g=>some (aE (-cV (look ms) g,g)))=(zs.map fun g=>(-cV (look ms) g,g)).map aE:=by rw [List.map_map,← List.filterMap_eq_map];rfl
 rw [e] at hc
 exact hc
omit hM hO in
theorem GG {a b:Nat} {zs stay:List Int} (hl:zs.length≤40) (ha:H[a]? = some (.list (zs.map V.int))) (hb:H[b]? = some (.list (stay.map V.int))) {l:aY} (h1:l "_law_pages" = some (.ref a)) (h2:l "_law_stay" = some (.ref b)) :
  ∃H',de ⟨l,H⟩= .ok (.ref H'.length) ⟨l,H'++[.list ((zs.filter fun g => !decide (g∈stay)).map V.int)]⟩∧H<+:H':=by
 have hc:∃H',de ⟨l,H⟩= .ok (.ref H'.length) ⟨l,H'++[.list (zs.filterMap fun g=>if (!decide (g∈stay)) then some (V.int g) else none)]⟩∧H<+:H':=by
  unfold de
  refine bJ (n:=a) (ks:=zs) ?_ ha (by exact bz 0xf4240a00000028a0011 hl) (fun g=>if (!decide (g∈stay)) then some (V.int g) else none) fun g hg Hx hp=> ?_
  ·exists h1,bw ha
  ·refine bi (upd (dX ["_law_stay"] l) "_law_page" (.int g)) fun lc elc=> ?_
   have b1:lc "_law_stay" = some (.ref b):=elc▸cq ∅ ∅ h2
   have b3:lc "_law_page" = some (.int g):=aq elc
   have hin:inV (.int g) (.ref b) ⟨lc,Hx⟩= .ok (decide (g∈stay)) ⟨lc,Hx⟩:=ol (q:=⟨lc,Hx⟩) (av hp hb)
   refine ⟨Hx,?_,List.prefix_refl _⟩
   cases hd:decide (g∈stay) with
   | true =>
    rw [hd] at hin
    refine fD ?_
    rw [elc]
    exists b1,b3,hin
   | false =>
    rw [hd] at hin
    refine bD (H2:=Hx) ?_ (by rw [elc];exact g_get b3)
    rw [elc]
    exists b1,b3,hin
 obtain ⟨H',hc,hp⟩:=hc
 rw [cG] at hc
 exact ⟨H',hc,hp⟩
theorem Ap {z:Int} (hz:1≤z∧z≤len):∃n ms' H',A3 (f9 [.ref d,.int len,.int z] H= .ok (.ref n) H') (H'[n]? = some (.list ((Ac p len (look ms) z).map aE))) (vL d ms p len H (CV p len (look ms) z) ms' H'):=by
 refine lh fun G kG=> ?_
 obtain ⟨l0,e0⟩:∃l0,aT ["_law_model", "_law_length", "_law_size"] [.ref d,.int len,.int z]=l0:=⟨_,rfl⟩
 have a1:l0 "_law_model" = some (.ref d):=e0▸rfl
 have a2:l0 "_law_length" = some (.int len):=e0▸rfl
 have a3:l0 "_law_size" = some (.int z):=e0▸rfl
 have hp40:=hO.hp.2
 have hlen:=hO.hlen
 obtain ⟨u1,u2,u3,u4⟩:=dt (a:=len) (b:=z) (by exact cK 0x98019811 hlen.1) hz.1
 have per1:1≤len.fdiv z:=ur u1 u4 hz.2
 obtain ⟨F,eF⟩:∃F,look ms=F:=⟨_,rfl⟩
 have hslots:∀g v,F g=some v→v.1=z→(v.2.length:Int)=len.fdiv z:=fun g v hv hz=>by
  rw [← eF] at hv
  obtain ⟨s,hs,y1,y2⟩:=aF hv
  rw [← y2,← hz,← y1]
  exact hO.slots s (aB hs).1
 have hokk:=CW (p:=p) hslots per1
 have hzl:=rc p hp40 F z
 have hzn:(cc p F z).Nodup:=rt
 obtain ⟨H1,hc1,p1⟩:=GD hM hO a1 a3
 rw [eF] at hc1
 obtain ⟨zs,ezs⟩:∃zs,cc p F z=zs:=⟨_,rfl⟩
 have hzat:∀g∈zs,∃bs,look ms g=some (z,bs):=fun g hg=>eF▸Bw (ezs▸hg:g∈cc p F z)
 rw [ezs] at hc1 hzl hzn
 obtain ⟨H2,e2⟩:∃H2,H1++[O.list (zs.map V.int)]=H2:=⟨_,rfl⟩
 rw [e2] at hc1
 have p2:H<+:H2:=p1.trans ⟨_,e2⟩
 have xa:H2[H1.length]? = some (.list (zs.map V.int)):=by rw [← e2];exact aG _ _
 obtain ⟨a,ea⟩:∃a,H1.length=a:=⟨_,rfl⟩
 rw [ea] at hc1 xa
 have haH:H.length≤a:=ea▸p1.length_le
 obtain ⟨l1,el1⟩:∃l1,upd l0 "_law_pages" (.ref a)=l1:=⟨_,rfl⟩
 have t1:ip ⟨l0,H⟩= .ok .next ⟨l1,H2⟩:=by exists hc1,el1
 obtain ⟨l2,el2⟩:∃l2,upd l1 "_law_slots" (.int (len.fdiv z))=l2:=⟨_,rfl⟩
 have t2:iq ⟨l1,H2⟩= .ok .next ⟨l2,H2⟩:=by exists af el1 ∅ a2,af el1 ∅ a3,gv (by omega:z≠0) rfl,el2
 have c1:l2 "_law_model" = some (.ref d):=af el2 ∅ (af el1 ∅ a1)
 have c2:l2 "_law_length" = some (.int len):=af el2 ∅ (af el1 ∅ a2)
 have c3:l2 "_law_size" = some (.int z):=af el2 ∅ (af el1 ∅ a3)
 have c4:l2 "_law_pages" = some (.ref a):=af el2 ∅ (aq el1)
 have c5:l2 "_law_slots" = some (.int (len.fdiv z)):=aq el2
 obtain ⟨H3,hc2,p3⟩:=GE (hM.pre p2) hO hzat hzl xa c1 c4
 rw [eF] at hc2
 obtain ⟨H4,e4⟩:∃H4,H3++[O.list ((zs.map (cV F)).map V.int)]=H4:=⟨_,rfl⟩
 rw [e4] at hc2
 have p4:H2<+:H4:=p3.trans ⟨_,e4⟩
 have sm:zC [.ref H3.length] ⟨l2,H4⟩= .ok (.int (gY (zs.map (cV F)))) ⟨l2,H4⟩:=DG (by rw [← e4];exact aG _ _) (by rw [List.length_map];exact id (bz 0xf4240a00000028a0011 hzl))
 have ened:(gY (zs.map (cV F))+len.fdiv z-1).fdiv (len.fdiv z)=bU p len F z:=by unfold bU;rw [ezs]
 obtain ⟨l3,el3⟩:∃l3,upd l2 "_law_needed" (.int (bU p len F z))=l3:=⟨_,rfl⟩
 have t3:ir ⟨l2,H2⟩= .ok .next ⟨l3,H4⟩:=by exists hc2,sm,c5,gv (by omega:len.fdiv z≠0) ened,el3
 obtain ⟨H5,hc3,p5⟩:=GF (hM.pre (p2.trans p4)) hO hzat hzl (av p4 xa) (af el3 ∅ c1) (af el3 ∅ c4)
 rw [eF] at hc3
 obtain ⟨H6,e6⟩:∃H6,H5++[O.list ((zs.map fun g=>(-cV F g,g)).map aE)]=H6:=⟨_,rfl⟩
 rw [e6] at hc3
 have p6:H4<+:H6:=p5.trans ⟨_,e6⟩
 have so:=nk (l:=l3) (H:=H6) (n:=H5.length) (ps:=zs.map fun g=>(-cV F g,g)) (by rw [← e6];exact aG _ _) (by rw [List.length_map];exact id (bz 0x40a01000028a0011 hzl))
 have ernk:nt (zs.map fun g=>(-cV F g,g))=b7 p F z:=by unfold b7;rw [ezs]
 rw [ernk] at so
 obtain ⟨H7,e7⟩:∃H7,H6++[O.list ((b7 p F z).map aE)]=H7:=⟨_,rfl⟩
 rw [e7] at so
 have p7:H6<+:H7:=⟨_,e7⟩
 have hrl:(b7 p F z).length≤40:=by
  have h1:=(iU (p:=p) (F:=F) (z:=z)).length_eq
  rw [List.length_map,ezs] at h1;exact id (b0 0x28a100121000028a0012 hzl h1)
 have tkv:=DH (l:=l3) (H:=H7) (n:=H6.length) (ps:=b7 p F z) (by rw [← e7];exact aG _ _) (by exact bz 0xf4240a00000028a0011 hrl) (oZ (p:=p) (F:=F) per1)
 obtain ⟨tk,etk⟩:∃tk,(b7 p F z).take (bU p len F z).toNat=tk:=⟨_,rfl⟩
 rw [etk] at tkv
 have htl:tk.length≤40:=by rw [← etk,List.length_take];exact id (b0 0x28a100101000028a0012 hrl (Nat.min_le_right _ _))
 obtain ⟨H8,e8⟩:∃H8,H7++[O.list (tk.map aE)]=H8:=⟨_,rfl⟩
 rw [e8] at tkv
 have p8:H7<+:H8:=⟨_,e8⟩
 have x8:H8[H7.length]? = some (.list (tk.map aE)):=by rw [← e8];exact aG _ _
 obtain ⟨l4,el4⟩:∃l4,upd l3 "_law_ranked" (.ref H7.length)=l4:=⟨_,rfl⟩
 have t4:iu ⟨l3,H4⟩= .ok .next ⟨l4,H8⟩:=by exists hc3,so,aq el3,tkv,el4
 have hc4:fc ⟨l4,H8⟩= .ok (.ref H8.length) ⟨l4,H8++[.list ((tk.map (·.2)).map V.int)]⟩:=by
  unfold fc
  refine yI (n:=H7.length) (ps:=tk) ?_ x8 (by exact bz 0xf4240a00000028a0011 htl) fun q=> ?_
  ·exists aq el4,y5 x8
  ·have hit:∀s,aj (aE q) (.int 1) s= .ok (.int q.2) s:=fun s=>rfl
   refine bD (H2:=H8) rfl ?_
   exists gp _ _ _,hit
 obtain ⟨H9,e9⟩:∃H9,H8++[O.list ((tk.map (·.2)).map V.int)]=H9:=⟨_,rfl⟩
 rw [e9] at hc4
 have p9:H8<+:H9:=⟨_,e9⟩
 have si:=o3 (l:=l4) (H:=H9) (n:=H8.length) (ns:=tk.map (·.2)) (by rw [← e9];exact aG _ _) (by rw [List.length_map];exact id (bz 0x40a01000028a0011 htl))
 have esty:dH (tk.map (·.2))=bS p len F z:=by unfold bS;rw [etk]
 rw [esty] at si
 have hstl:=zz (len:=len) (z:=z) hp40 (F:=F)
 have hstin:∀g∈bS p len F z,g∈zs:=fun g hg=>ezs▸ye hg
 obtain ⟨stay,est⟩:∃stay,bS p len F z=stay:=⟨_,rfl⟩
 rw [est] at si hstl hstin
 obtain ⟨Ha,eHa⟩:∃Ha,H9++[O.list (stay.map V.int)]=Ha:=⟨_,rfl⟩
 rw [eHa] at si
 have pa:H9<+:Ha:=⟨_,eHa⟩
 have xb:Ha[H9.length]? = some (.list (stay.map V.int)):=by rw [← eHa];exact aG _ _
 obtain ⟨l5,el5⟩:∃l5,upd l4 "_law_stay" (.ref H9.length)=l5:=⟨_,rfl⟩
 have t5:iw ⟨l4,H8⟩= .ok .next ⟨l5,Ha⟩:=by exists hc4,si,el5
 obtain ⟨Hb,eHb⟩:∃Hb,Ha++[O.list []]=Hb:=⟨_,rfl⟩
 have pb:Ha<+:Hb:=⟨_,eHb⟩
 obtain ⟨l6,el6⟩:∃l6,upd l5 "_law_moves" (.ref Ha.length)=l6:=⟨_,rfl⟩
 have t6:iy ⟨l5,Ha⟩= .ok .next ⟨l6,Hb⟩:=by exists eHb,el6
 have to6:∀ {y:String} {v:V},y∉["_law_needed", "_law_ranked", "_law_stay", "_law_moves"]→l2 y=some v→l6 y=some v:=fun hy h =>
  af el6 (dy hy ∅) (af el5 (dy hy ∅) (af el4 (dy hy ∅) (af el3 (dy hy ∅) h)))
 have ml:DY d len z (len.fdiv z) H9.length Ha.length l6:=⟨to6 ∅ c1,to6 ∅ c2,to6 ∅ c3,to6 ∅ c5,af el6 ∅ (aq el5),aq el6⟩
 have P2b:H2<+:Hb:=(((((p4.trans p6).trans p7).trans p8).trans p9).trans pa).trans pb
 obtain ⟨Hc,hc5,pc⟩:=GG (stay:=stay) hzl (av P2b xa) (av pb xb) (to6 ∅ c4) ml.b
 obtain ⟨ns,ens⟩:∃ns,(zs.filter fun g => !decide (g∈stay))=ns:=⟨_,rfl⟩
 rw [ens] at hc5
 obtain ⟨Hd,eHd⟩:∃Hd,Hc++[O.list (ns.map V.int)]=Hd:=⟨_,rfl⟩
 rw [eHd] at hc5
 have pd:Hc<+:Hd:=⟨_,eHd⟩
 have xn:Hd[Hc.length]? = some (.list (ns.map V.int)):=by rw [← eHd];exact aG _ _
 have PHb:H<+:Hb:=p2.trans P2b
 have PHd:H<+:Hd:=(PHb.trans pc).trans pd
 have olt:=qK hM
 have q1:H2.length≤H9.length:=((((p4.trans p6).trans p7).trans p8).trans p9).length_le
 have q2:H9.length<Ha.length:=by rw [← eHa,List.length_append];exact Nat.lt_succ_self _
 have q3:Ha.length<Hb.length:=by rw [← eHb,List.length_append];exact Nat.lt_succ_self _
 have q4:=pc.length_le
 have q5:=p2.length_le
 have hA:Ho d ms Hc.length H9.length Ha.length:=⟨by exact fun x9=>tn 0x90962031210110113 q3 q4 x9,by exact fun x9=>b0 0x9096012110112 q2 x9,fun h=>by have:=olt _ h;exact id (Cl 0x909632110301211110014 q1 q2 q5 this),fun h=>by have:=olt _ h;exact id (lA [_,_,_,_,_,_] [] 0x90965411050143013211211110016 q1 q2 q3 q4 q5 this),fun h=>by have:=olt _ h;exact id (tn 0x90962111020110013 q1 q5 this)⟩
 rw [est,ezs,uA,ens] at hokk
 have hcl:∀g,eD F g≤60:=fun g=>by
  unfold eD
  split
  ·rename_i v hv
   obtain ⟨s,hs,_,y2⟩:=aF (ss:=ms) (v:=v) (by rw [eF];exact hv)
   rw [← y2]
   exact Nat.le_trans List.count_le_length (hO.bslen (aB hs).1)
  ·exact Nat.zero_le _
 have hits:=Am F stay 60 hcl zs
 rw [uA,ens] at hits
 have eM:Ac p len F z=(eX len z stay F (ns.flatMap (mS F))).1:=by unfold Ac;rw [est,ezs,uA,ens]
 have eG:CV p len F z=iM (eX len z stay F (ns.flatMap (mS F))).2 ns:=by unfold CV;rw [est,ezs,uA,ens]
 have hnst:∀g∈ns,g∈zs∧g∉stay:=fun g hg=>by
  rw [← ens] at hg
  obtain ⟨h1,h2⟩:=List.mem_filter.mp hg
  exact ⟨h1,by simpa using h2⟩
 have mg0:MG d p len z F stay ns Hc.length H9.length Ha.length (eX len z stay F (ns.flatMap (mS F))).1 (eX len z stay F (ns.flatMap (mS F))).2 Hd ms (ns.flatMap (mS F)) [] Hd ms F [] :=
  ⟨hM.pre PHd,hO,by rw [eF,qS],fun _ _=>rfl,fun x hx=>eF▸hzat x (hstin x hx),(fun _ h=>by cases h),hokk,rfl,rfl,av (pc.trans pd) (by rw [← eHb];exact aG _ _),xn,av ((pb.trans pc).trans pd) xb,bO.refl _ _,fun i hi=>hi,by rw [List.length_nil];omega⟩
 obtain ⟨l7,He,m7,F7,acc,dn,r1,r2,r3,r4⟩:=zh hA hstl hslots ⟨by exact u1,by exact ru 0x3e8a18018100003ca0812 hlen.2 u2⟩ ns l6 Hd ms F [] [] (ens▸hzn.filter _) (fun g hg=>⟨(hnst g hg).2,by simp,eF▸hzat g (hnst g hg).1⟩) mg0 ml
 have em:acc=(eX len z stay F (ns.flatMap (mS F))).1:=by have:=r2.m;simpa [oh] using this
 have ef:F7=(eX len z stay F (ns.flatMap (mS F))).2:=by have:=r2.f;simpa [oh] using this
 rw [eF,eM,eG,← em,← ef] at kG
 refine kG ⟨Ha.length,m7,He,aS (m:=jO) (q:=⟨l7,He⟩) rfl ?_,r2.hc,r2.at',r2.ok,?_,?_,fun i hi=> .inl (r2.own i hi)⟩
 ·rw [e0]
  refine ah t1 (ah t2 (ah t3 (ah t4 (ah t5 (ah t6 (ah (q':=⟨l7,He⟩) ?_ ?_))))))
  ·exists hc5,bw xn
   exact r1
  ·exists r3.c
 ·rw [r2.lk]
  funext x
  unfold iM
  have:=r4 x
  by_cases hx:x∈ns
  ·rw [if_pos (this.mpr (.inl hx)),if_pos hx]
  ·rw [if_neg fun h=>(this.mp h).elim hx (by simp),if_neg hx]
 ·exact (bO.pre PHd).trans' r2.chg fun i hi=>by
   rcases List.mem_cons.mp hi with rfl | hi
   ·exact .inr (by exact Cl 0x2300301211110013 q1 q2 q5)
   ·exact .inl hi
end
inductive Pl:V→Prop
 | int (i:Int):Pl (.int i)
 | tup (is:List Int):Pl (.tup (is.map V.int))
noncomputable def CH:V→PyData
 | .int i=> .int i
 | _=> .none
noncomputable def rD:V→PyData
 | .int i=> .int i
 | .tup vs=> .tuple (vs.map CH)
 | _=> .none
theorem rC (is:List Int):(is.map V.int).map CH=is.map PyData.int:=by rw [List.map_map];rfl
theorem Pl.toD {v:V} (h:Pl v) (H:Hp) (n:Nat):Mine.Lake.toD H (n+2) v=some (rD v):=by
 cases h with
 | int i=>rfl
 | tup is =>
  show (dw (Mine.Lake.toD H (n+1)) (is.map V.int)).map PyData.tuple=some (.tuple ((is.map V.int).map CH))
  rw [rq,rC];rfl
theorem Pl.sh {v:V} (h:Pl v):Sh 1 (rD v):=by
 cases h with
 | int i=>exact AD _ i
 | tup is =>
  refine DP fun d hd=> ?_
  rw [rC] at hd
  obtain ⟨i,_,rfl⟩:=List.mem_map.mp hd
  exact AD _ _
theorem Pl.eqv {v:V} (h:Pl v):PyData.eqv (rD v) (rD v)=true:=by
 cases h with
 | int i=>exact (tR i i).trans (decide_eq_true rfl)
 | tup is =>
  show PyData.eqv (.tuple ((is.map V.int).map CH)) (.tuple ((is.map V.int).map CH))=true
  rw [rC]
  rw [Eb,pF PyData.int tR];exact decide_eq_true rfl
theorem pX {H:Hp} {n:Nat}:∀ {vs:List V},(∀v∈vs,Pl v)→dw (toD H (n+2)) vs=some (vs.map rD)
 | [],_=>rfl
 | v::vs,h=>by rw [og,(h v (.head _)).toD H n,pX fun v hv=>h v (.tail _ hv)];rfl
theorem Dx:∀ {vs:List V},(∀v∈vs,Pl v)→PyData.eqvAll (vs.map rD) (vs.map rD)=true
 | [],_=>rfl
 | v::vs,h=>by rw [List.map_cons,jG,(h v (.head _)).eqv,Dx fun v hv=>h v (.tail _ hv)];rfl
structure Rf (H:Hp) (a b:Nat) (vs:List V):Prop where
 a:H[a]? = some (.list vs)
 b:H[b]? = some (.list vs)
 pl:∀v∈vs,Pl v
theorem iS {H:Hp} {n i:Nat} {xs:List V} {ds:List PyData} (h:H[i]? = some (.list xs)) (hd:dw (toD H n) xs=some ds):toD H (n+1) (.ref i)=some (.list ds):=by
 show (match H[i]? with | some (.list xs)=>(dw (toD H n) xs).map PyData.list | _=>none)=_
 rw [h];dsimp only;rw [hd];rfl
theorem sd {vs:List V} (h:∀v∈vs,Pl v):Sh 2 (.list (vs.map rD)):=tY fun d hd=>by
 obtain ⟨v,hv,rfl⟩:=List.mem_map.mp hd
 exact (h v hv).sh
theorem tS {vs:List V} (h:∀v∈vs,Pl v):PyData.eqv (.list (vs.map rD)) (.list (vs.map rD))=true:=by
 exact Dx h
theorem CQ {H:Hp} {l:aY} {v w:V} {d:PyData} (h1:toD H 8 v=some d) (h2:toD H 8 w=some d) {n:Nat} (h3:Sh n d) (hn:n≤64) (h4:PyData.eqv d d=true):eqV v w ⟨l,H⟩= .ok true ⟨l,H⟩:=by
 unfold eqV CP;rw [h1,h2,Option.bind_some,Option.bind_some,h3.shaped hn,h4];rfl
theorem EQ {H:Hp} {l:aY} {a b:Nat} {vs:List V} (h:Rf H a b vs):eqV (.ref a) (.ref b) ⟨l,H⟩= .ok true ⟨l,H⟩ :=
 CQ (iS h.a (pX h.pl)) (iS h.b (pX h.pl)) (sd h.pl) ∅ (tS h.pl)
theorem FD {H:Hp} {l:aY} {f g a1 a2 a3 b1 b2 b3:Nat} {u v w:List V} (hf:H[f]? = some (.list [.ref a1,.ref a2,.ref a3])) (hg:H[g]? = some (.list [.ref b1,.ref b2,.ref b3])) (h1:Rf H a1 b1 u) (h2:Rf H a2 b2 v) (h3:Rf H a3 b3 w):eqV (.ref f) (.ref g) ⟨l,H⟩= .ok true ⟨l,H⟩:=by
 have e:∀ {x y z:Nat},H[x]? = some (.list u)→H[y]? = some (.list v)→H[z]? = some (.list w)→dw (toD H 7) [.ref x,.ref y,.ref z]=some [.list (u.map rD),.list (v.map rD),.list (w.map rD)]:=fun x y z=>by
  rw [og,iS x (pX h1.pl),og,iS y (pX h2.pl),og,iS z (pX h3.pl)];rfl
 refine CQ (n:=3) (iS hf (e h1.a h2.a h3.a)) (iS hg (e h1.b h2.b h3.b)) (tY fun d hd=> ?_) ∅ ?_
 ·rcases List.mem_cons.mp hd with rfl | hd
  ·exact sd h1.pl
  rcases List.mem_cons.mp hd with rfl | hd
  ·exact sd h2.pl
  rcases List.mem_cons.mp hd with rfl | hd
  ·exact sd h3.pl
  cases hd
 ·rw [CR,jG,tS h1.pl,jG,tS h2.pl,jG,tS h3.pl];rfl
theorem Rf.chg {F:List Nat} {H H':Hp} {a b:Nat} {vs:List V} (h:Rf H a b vs) (c:bO F H H') (ha:a∉F) (hb:b∉F):Rf H' a b vs:=⟨c.get h.a ha,c.get h.b hb,h.pl⟩
theorem bL {H:Hp} {i:Nat} {o:O} (h:H[i]? = some o):i<H.length:=(List.getElem?_eq_some_iff.mp h).1
structure Ct (c:Nat) (col:Nat→Nat) (F:List Nat) (H:Hp) (col':Nat→Nat) (H':Hp):Prop where
 chg:bO F H H'
 on:∀i∈F,i<H.length→col i=c
 col:∀i,i<H.length→col' i=col i
noncomputable def fn (col:Nat→Nat) (n c:Nat) (O:List Nat):Nat→Nat:=fun i=>if i<n then col i else if i∈O then c else 0
theorem gW {col:Nat→Nat} {n c:Nat} {O:List Nat} {i:Nat} (h:i<n):fn col n c O i=col i:=if_pos h
theorem zp {col:Nat→Nat} {n c:Nat} {O:List Nat} {i:Nat} (h:¬i<n) (hO:i∈O):fn col n c O i=c:=(if_neg h).trans (if_pos hO)
theorem zq {col:Nat→Nat} {n c:Nat} {O:List Nat} {i:Nat} (h:¬i<n) (hO:i∉O):fn col n c O i=0:=(if_neg h).trans (if_neg hO)
theorem Ct.get {c:Nat} {col col':Nat→Nat} {F:List Nat} {H H':Hp} (e:Ct c col F H col' H') {i:Nat} {o:O} (h:H[i]? = some o) (hn:col i≠c):H'[i]? = some o∧col' i=col i :=
 ⟨e.chg.get h fun hi=>hn (e.on i hi (bL h)),e.col i (bL h)⟩
structure RG (c:Nat) (col:Nat→Nat) (H:Hp) (p len:Int) (xs:List Int) (ri:Nat) (r:Rm):Prop where
 rm:aI H ri r
 ok:r.Ok
 rp:r.p=p
 rl:r.len=len
 rx:r.xs=xs
 cr:∀i∈r.own ri,col i=c
 cp:col r.pl=0
 cs:col r.m=0
structure NG (c:Nat) (col:Nat→Nat) (H:Hp) (p len:Int) (d:Nat) (ms:List aH):Prop where
 md:lS H d ms
 ok:lT p len ms
 cm:∀i∈bZ d ms,col i=c
structure KG (c:Nat) (col:Nat→Nat) (H:Hp) (k:Nat) (ks:List (Nat×Nat)):Prop where
 at':H[k]? = some (.list (ks.map fun e=> .tup [.ref e.1,.ref e.2]))
 rf:∀e∈ks,∃vs,Rf H e.1 e.2 vs
 ce:∀e∈ks,col e.1=0∧col e.2=0
 ck:col k=c
section
variable {c c':Nat} {col col':Nat→Nat} {F:List Nat} {H H':Hp} {p len:Int} {xs:List Int} {ri d k:Nat} {r:Rm} {ms:List aH} {ks:List (Nat×Nat)}
theorem RG.frame (h:RG c col H p len xs ri r) (e:Ct c' col F H col' H') (h1:c≠c') (h2:0≠c'):RG c col' H' p len xs ri r:=by
 have pl:=bL h.rm.plan
 have m:=bL h.rm.sizes
 have nF:∀ {i},i<H.length→col i≠c'→i∉F:=fun hi hn hF=>hn (e.on _ hF hi)
 refine ⟨h.rm.chg e.chg fun i hi=> ?_,h.ok,h.rp,h.rl,h.rx,fun i hi=>(e.col i (uV h.rm i hi)).trans (h.cr i hi),(e.col _ pl).trans h.cp,(e.col _ m).trans h.cs⟩
 rcases xx i hi with hi | hi | hi
 ·exact nF (uV h.rm i hi) (by rw [h.cr i hi];exact h1)
 ·rw [hi];exact nF pl (by rw [h.cp];exact h2)
 ·rw [hi];exact nF m (by rw [h.cs];exact h2)
theorem NG.frame (h:NG c col H p len d ms) (e:Ct c' col F H col' H') (h1:c≠c'):NG c col' H' p len d ms :=
 ⟨h.md.chg e.chg fun i hi hF=>h1 ((h.cm i hi).symm.trans (e.on i hF (qK h.md i hi))),h.ok,fun i hi=>(e.col i (qK h.md i hi)).trans (h.cm i hi)⟩
theorem KG.frame (h:KG c col H k ks) (e:Ct c' col F H col' H') (h1:c≠c') (h2:0≠c'):KG c col' H' k ks:=by
 have a:=e.get h.at' (by rw [h.ck];exact h1)
 have s:∀x∈ks,∃vs,Rf H' x.1 x.2 vs∧col' x.1=0∧col' x.2=0:=fun x hx=>by
  obtain ⟨vs,hv⟩:=h.rf x hx
  obtain ⟨z1,z2⟩:=h.ce x hx
  obtain ⟨a1,b1⟩:=e.get hv.a (by rw [z1];exact h2)
  obtain ⟨a2,b2⟩:=e.get hv.b (by rw [z2];exact h2)
  exact ⟨vs,⟨a1,a2,hv.pl⟩,b1.trans z1,b2.trans z2⟩
 exact ⟨a.1,fun x hx=>(s x hx).imp fun _ h=>h.1,fun x hx=>(s x hx).elim fun _ h=>h.2,a.2.trans h.ck⟩
theorem RG.step (h:RG c col H p len xs ri r) {r':Rm} (a:aI H' ri r') (ok:r'.Ok) (sm:r.Sm r') (ch:bO (r.own ri) H H') (ow:∀i∈r'.own ri,i∈r.own ri∨H.length≤i) :
  RG c (fn col H.length c (r'.own ri)) H' p len xs ri r'∧Ct c col (r.own ri) H (fn col H.length c (r'.own ri)) H':=by
 refine ⟨⟨a,ok,sm.p.trans h.rp,sm.len.trans h.rl,sm.xs.trans h.rx,fun i hi=> ?_,?_,?_⟩,⟨ch,fun i hi _=>h.cr i hi,fun i hi=>gW hi⟩⟩
 ·by_cases hl:i<H.length
  ·rw [gW hl]
   exact (ow i hi).elim (h.cr i) fun h=>absurd hl (Nat.not_lt.mpr h)
  ·exact zp hl hi
 ·rw [sm.pl,gW (bL h.rm.plan)];exact h.cp
 ·rw [sm.m,gW (bL h.rm.sizes)];exact h.cs
theorem NG.step (h:NG c col H p len d ms) {G:Vw} {ms':List aH} (m:vL d ms p len H G ms' H') :
  NG c (fn col H.length c (bZ d ms')) H' p len d ms'∧Ct c col (bZ d ms) H (fn col H.length c (bZ d ms')) H':=by
 refine ⟨⟨m.at',m.ok,fun i hi=> ?_⟩,⟨m.chg,fun i hi _=>h.cm i hi,fun i hi=>gW hi⟩⟩
 by_cases hl:i<H.length
 ·rw [gW hl]
  exact (m.own i hi).elim (h.cm i) fun h=>absurd hl (Nat.not_lt.mpr h)
 ·exact zp hl hi
theorem AR (col:Nat→Nat) (c:Nat) (e:H<+:H'):Ct c col [] H (fn col H.length 0 []) H':=⟨bO.pre e,fun i hi=>(nomatch hi),fun i hi=>gW hi⟩
theorem r5 {n i:Nat} (h:n≤i):fn col n 0 [] i=0:=zq (Nat.not_lt.mpr h) (by simp)
structure Gr (c:Nat) (col:Nat→Nat) (H:Hp) (p len:Int) (xs:List Int) (ri d k:Nat) (r:Rm) (ms:List aH) (ks:List (Nat×Nat)):Prop where
 r:RG c col H p len xs ri r
 m:NG (c+1) col H p len d ms
 k:KG (c+2) col H k ks
structure tO (c:Nat) (col:Nat→Nat) (H:Hp) (col':Nat→Nat) (H':Hp):Prop where
 len:H.length≤H'.length
 same:∀i,i<H.length→col i<c∨c+3≤col i→H'[i]? = H[i]?
 col:∀i,i<H.length→col' i=col i
theorem tO.refl (c:Nat) (col:Nat→Nat) (H:Hp):tO c col H col H:=⟨Nat.le_refl _,fun _ _ _=>rfl,fun _ _=>rfl⟩
theorem tO.trans {col2:Nat→Nat} {H2:Hp} (a:tO c col H col' H') (b:tO c col' H' col2 H2):tO c col H col2 H2 :=
 ⟨Nat.le_trans a.len b.len,fun i hi h=>(b.same i (Nat.lt_of_lt_of_le hi a.len) (by rw [a.col i hi];exact h)).trans (a.same i hi h),fun i hi=>(b.col i (Nat.lt_of_lt_of_le hi a.len)).trans (a.col i hi)⟩
theorem Ct.evo (e:Ct c' col F H col' H') (h:c≤c'∧c'<c+3):tO c col H col' H' :=
 ⟨e.chg.len,fun i hi ho=>e.chg.same i hi fun hF=>by have:=e.on i hF hi;omega,e.col⟩
theorem tO.get (e:tO c col H col' H') (h1:1≤c) {i:Nat} {o:O} (h:H[i]? = some o) (hn:col i=0):H'[i]? = some o∧col' i=0 :=
 ⟨(e.same i (bL h) (.inl (by rw [hn];exact h1))).trans h,(e.col i (bL h)).trans hn⟩
noncomputable def G7 (c:Nat) (col:Nat→Nat) (n:Nat):List Nat:=(List.range n).filter fun i=>decide (c≤col i)&&decide (col i<c+3)
theorem A1 {n i:Nat}:i∈G7 c col n↔i<n∧c≤col i∧col i<c+3:=by
 unfold G7;rw [List.mem_filter,List.mem_range,Bool.and_eq_true,decide_eq_true_iff,decide_eq_true_iff]
theorem tO.chg (e:tO c col H col' H'):bO (G7 c col H.length) H H':=⟨e.len,fun i hi hp=>e.same i hi (by rw [A1] at hp;omega)⟩
theorem Gr.frame (h:Gr c col H p len xs ri d k r ms ks) (e:tO c' col H col' H') (h1:1≤c') (h2:c+3≤c'∨c'+3≤c):Gr c col' H' p len xs ri d k r ms ks:=by
 have nF:∀ {i},col i=0∨(c≤col i∧col i<c+3)→i∉G7 c' col H.length:=fun hi hF=>by rw [A1] at hF;omega
 have g:∀ {i o},H[i]? = some o→col i=0∨(c≤col i∧col i<c+3)→H'[i]? = some o:=fun hg hi=>e.chg.get hg (nF hi)
 have pl:=bL h.r.rm.plan
 have m:=bL h.r.rm.sizes
 refine ⟨⟨h.r.rm.chg e.chg fun i hi=> ?_,h.r.ok,h.r.rp,h.r.rl,h.r.rx,fun i hi=>(e.col i (uV h.r.rm i hi)).trans (h.r.cr i hi),(e.col _ pl).trans h.r.cp,(e.col _ m).trans h.r.cs⟩,
  ⟨h.m.md.chg e.chg fun i hi=>nF (.inr (by rw [h.m.cm i hi];exact id (⟨bz 0x190c000,bz 0x390c190c10⟩))),h.m.ok,fun i hi=>(e.col i (qK h.m.md i hi)).trans (h.m.cm i hi)⟩,
  ⟨g h.k.at' (.inr (by rw [h.k.ck];exact id (⟨bz 0x290c000,bz 0x390c290c10⟩))),fun x hx=> ?_,fun x hx=> ?_,(e.col k (bL h.k.at')).trans h.k.ck⟩⟩
 ·rcases xx i hi with hi | hi | hi
  ·exact nF (.inr (by rw [h.r.cr i hi];exact id (⟨bz 0x0,bz 0x390c010⟩)))
  ·rw [hi];exact nF (.inl h.r.cp)
  ·rw [hi];exact nF (.inl h.r.cs)
 ·obtain ⟨vs,hv⟩:=h.k.rf x hx
  exact ⟨vs,g hv.a (.inl (h.k.ce x hx).1),g hv.b (.inl (h.k.ce x hx).2),hv.pl⟩
 ·obtain ⟨vs,hv⟩:=h.k.rf x hx
  exact ⟨(e.col _ (bL hv.a)).trans (h.k.ce x hx).1,(e.col _ (bL hv.b)).trans (h.k.ce x hx).2⟩
theorem Gr.room (h:Gr c col H p len xs ri d k r ms ks) (h1:1≤c) {r':Rm} (a:aI H' ri r') (ok:r'.Ok) (sm:r.Sm r') (ch:bO (r.own ri) H H') (ow:∀i∈r'.own ri,i∈r.own ri∨H.length≤i) :
  Gr c (fn col H.length c (r'.own ri)) H' p len xs ri d k r' ms ks∧tO c col H (fn col H.length c (r'.own ri)) H':=by
 obtain ⟨x,e⟩:=h.r.step a ok sm ch ow
 exact ⟨⟨x,h.m.frame e (by exact fun x9=>bz 0x90960190c211 x9),h.k.frame e (by exact fun x9=>bz 0x90960290c211 x9) (by exact fun x9=>bz 0x909600931019012 h1 x9)⟩,e.evo (by exact ⟨bz 0x0,bz 0x390c010⟩)⟩
theorem Gr.model (h:Gr c col H p len xs ri d k r ms ks) {G:Vw} {ms':List aH} (m:vL d ms p len H G ms' H') :
  Gr c (fn col H.length (c+1) (bZ d ms')) H' p len xs ri d k r ms' ks∧tO c col H (fn col H.length (c+1) (bZ d ms')) H':=by
 obtain ⟨x,e⟩:=h.m.step m
 exact ⟨⟨h.r.frame e (by exact fun x9=>bz 0x9096190c0311 x9) (by exact fun x9=>bz 0x9096190c09311 x9),x,h.k.frame e (by exact fun x9=>bz 0x9096190c290c211 x9) (by exact fun x9=>bz 0x9096190c09311 x9)⟩,e.evo (by exact ⟨bz 0x190c000,bz 0x390c190c10⟩)⟩
theorem Gr.pre (h:Gr c col H p len xs ri d k r ms ks) (e:H<+:H'):Gr c (fn col H.length 0 []) H' p len xs ri d k r ms ks∧tO c col H (fn col H.length 0 []) H' :=
 have f:=AR col (c+3) e
 ⟨⟨h.r.frame f (by exact fun x9=>bz 0x9096390c0311 x9) (by exact fun x9=>bz 0x9096390c09311 x9),h.m.frame f (by exact fun x9=>bz 0x9096390c190c311 x9),h.k.frame f (by exact fun x9=>bz 0x9096390c290c311 x9) (by exact fun x9=>bz 0x9096390c09311 x9)⟩,(AR col c e).evo (by exact ⟨bz 0x0,bz 0x390c010⟩)⟩
theorem Gr.keep (h:Gr c col H p len xs ri d k r ms ks) {ks':List (Nat×Nat)} (hr:∀e∈ks',∃vs,Rf H e.1 e.2 vs) (hc:∀e∈ks',col e.1=0∧col e.2=0) :
  Gr c col (H.set k (.list (ks'.map fun e=> .tup [.ref e.1,.ref e.2]))) p len xs ri d k r ms ks'∧tO c col H col (H.set k (.list (ks'.map fun e=> .tup [.ref e.1,.ref e.2]))):=by
 have f:Ct (c+2) col [k] H col (H.set k (.list (ks'.map fun e=> .tup [.ref e.1,.ref e.2]))):=⟨bO.set (.head _),fun i hi _=>by rw [List.mem_singleton.mp hi];exact h.k.ck,fun _ _=>rfl⟩
 refine ⟨⟨h.r.frame f (by exact fun x9=>bz 0x9096290c0311 x9) (by exact fun x9=>bz 0x9096290c09311 x9),h.m.frame f (by exact fun x9=>bz 0x9096290c190c311 x9),⟨?_,fun e he=> ?_,hc,h.k.ck⟩⟩,f.evo (by exact ⟨bz 0x290c000,bz 0x390c290c10⟩)⟩
 ·rw [List.getElem?_set_self (bL h.k.at')]
 ·obtain ⟨vs,hv⟩:=hr e he
  obtain ⟨z1,z2⟩:=hc e he
  exact ⟨vs,(f.get hv.a (by rw [z1];exact id (fun x9=>bz 0x9096290c09311 x9))).1,(f.get hv.b (by rw [z2];exact id (fun x9=>bz 0x9096290c09311 x9))).1,hv.pl⟩
end
theorem ES {m:Cm Fl} {sel:String→Cm Fl} {q q':S} {f:Fl} (h:m q= .ok f q'):AF m sel q= .ok f q':=by rw [E5,h]
theorem CT {m:Cm Fl} {sel:String→Cm Fl} {q q' q2:S} {f:Fl} {c:String} (h:m q= .exc c q') (k:sel c q'= .ok f q2):AF m sel q= .ok f q2:=by rw [E5,h];dsimp only;rw [k]
inductive ue (c:Nat) (col:Nat→Nat) (H:Hp) (p len:Int) (xs:List Int) (ri d k:Nat) (n:Nat) (H':Hp):Prop
 | mk (col':Nat→Nat) (r:Rm) (ms:List aH) (ks:List (Nat×Nat)) (g:Gr c col' H' p len xs ri d k r ms ks) (l:look r.ss=look ms) (kl:ks.length≤n) (e:tO c col H col' H'):ue c col H p len xs ri d k n H'
structure GR (c:Nat) (col:Nat→Nat) (H:Hp) (p len:Int) (xs:List Int) (ri d k za:Nat) (r:Rm) (ms:List aH) (ks:List (Nat×Nat)):Prop where
 g:Gr c col H p len xs ri d k r ms ks
 l:look r.ss=look ms
 z:H[za]? = some (.list (xs.map V.int))
 cz:col za=0
 c1:1≤c
section
variable {c:Nat} {col:Nat→Nat} {H:Hp} {p len:Int} {xs:List Int} {ri d k za:Nat} {r:Rm} {ms:List aH} {ks:List (Nat×Nat)}
theorem ue.trans {col':Nat→Nat} {n:Nat} {H1 H2:Hp} (e:tO c col H col' H1) (h:ue c col' H1 p len xs ri d k n H2):ue c col H p len xs ri d k n H2:=by
 cases h with
 | mk col2 r ms ks g l kl e2=>exact ⟨col2,r,ms,ks,g,l,kl,e.trans e2⟩
theorem GR.next (h:GR c col H p len xs ri d k za r ms ks) {col':Nat→Nat} {H':Hp} {r':Rm} {ms':List aH} {ks':List (Nat×Nat)} (g:Gr c col' H' p len xs ri d k r' ms' ks') (l:look r'.ss=look ms') (e:tO c col H col' H'):GR c col' H' p len xs ri d k za r' ms' ks' :=
 ⟨g,l,(e.get h.c1 h.z h.cz).1,(e.get h.c1 h.z h.cz).2,h.c1⟩
theorem GR.pre (h:GR c col H p len xs ri d k za r ms ks) {H':Hp} (e:H<+:H'):ue c col H p len xs ri d k ks.length H' :=
 ⟨_,r,ms,ks,(h.g.pre e).1,h.l,Nat.le_refl _,(h.g.pre e).2⟩
theorem GR.sz (h:GR c col H p len xs ri d k za r ms ks):il len xs:=h.g.r.rl▸h.g.r.rx▸h.g.r.ok.sz
theorem FE {w a:Int} {H':Hp} (hR:aI H ri r) (h:d8 [.inst "Room" ri,.int w] H= .ok (.int a) H'):kH [.inst "Room" ri,.int w] H= .ok (.int a) H' :=
 aS (q:=⟨_,H'⟩) rfl (ES (bq (bq (g_get rfl) (bq (a9 hR ∅ _) (bq (bq (g_get rfl) (bq rfl rfl)) (g_call h)))) rfl))
theorem AT {w:Int} {H':Hp} {x:String} {a:Int} (hR:aI H ri r) (h:d8 [.inst "Room" ri,.int w] H= .exc x H') (hx:x = "TooLarge" ∧ a = -2∨x = "NoRoom" ∧ a = -1):kH [.inst "Room" ri,.int w] H= .ok (.int a) H':=by
 refine aS (m:=wR) (q:=⟨aT ["_law_room", "_law_wish"] [.inst "Room" ri,.int w],H'⟩) rfl (CT (bx (bq (g_get rfl) (bq (a9 hR ∅ _) (bq (bq (g_get rfl) (bq rfl rfl)) (tU h))))) ?_)
 rcases hx with ⟨rfl,rfl⟩ | ⟨rfl,rfl⟩
 ·rw [if_pos rfl];rfl
 ·rw [if_neg ∅,if_pos rfl];rfl
theorem Ci (h:GR c col H p len xs ri d k za r ms ks) {w:Int} (hw:1≤w):∃a H1 H2,A3 (kH [.inst "Room" ri,.int w] H= .ok (.int a) H1) (eO [.ref d,.tup [.int p,.int len,.ref za],.int w] H1= .ok (.int a) H2) (ue c col H p len xs ri d k ks.length H2):=by
 refine lh fun G kG=> ?_
 have hR:=h.g.r.rm
 have v:=Ga hR h.g.r.ok hw
 rw [h.g.r.rp,h.g.r.rl,h.g.r.rx,h.l] at v
 cases hf:xs.find? (fun x=>decide (x≥w)) with
 | none =>
  rw [hf] at v
  have m:=uI h.g.m.md h.g.m.ok h.z h.sz (w:=w)
  rw [hf] at m
  exact kG ⟨_,_,_,AT hR v (.inl ⟨rfl,rfl⟩),m,h.pre (List.prefix_refl _)⟩
 | some z =>
  rw [hf] at v
  dsimp only at v
  cases hp:Dv p len (look ms) z with
  | none =>
   rw [hp] at v
   obtain ⟨H1,v1,p1⟩:=v
   have m:=uI (h.g.m.md.pre p1) h.g.m.ok (av p1 h.z) h.sz (w:=w)
   rw [hf] at m
   dsimp only at m
   rw [hp] at m
   obtain ⟨H2,m1,p2⟩:=m
   exact kG ⟨_,_,_,AT hR v1 (.inr ⟨rfl,rfl⟩),m1,h.pre (p1.trans p2)⟩
  | some gF =>
   rw [hp] at v
   obtain ⟨bs,j,r',H1,f1,f2,v1,v2,v3,v4,v5,v6,v7⟩:=v
   obtain ⟨g1,e1⟩:=h.g.room h.c1 v2 v3 v4 v6 v7
   have m:=uI g1.m.md g1.m.ok (e1.get h.c1 h.z h.cz).1 h.sz (w:=w)
   rw [hf] at m
   dsimp only at m
   rw [hp] at m
   obtain ⟨bs',j',ms',H2,f3,f4,m1,m2,m3,m4,m5,m6⟩:=m
   rw [f1] at f3
   cases f3
   rw [f2] at f4
   cases f4
   obtain ⟨g2,e2⟩:=g1.model ⟨m2,m3,m4,m5,m6⟩
   exact kG ⟨_,_,_,FE hR v1,m1,_,r',ms',ks,g2,v5.trans m4.symm,Nat.le_refl _,e1.trans e2⟩
theorem Cc (h:GR c col H p len xs ri d k za r ms ks) {w:Int} (hw:1≤w):∃H',pH [.inst "Room" ri,.ref d,.tup [.int p,.int len,.ref za],.int w] H= .ok (.bool true) H'∧H<+:H':=by
 refine lh fun G kG=> ?_
 have hR:=h.g.r.rm
 have v:=AI hR h.g.r.ok hw
 rw [h.g.r.rp,h.g.r.rl,h.g.r.rx,h.l] at v
 refine bi (aT ["_law_room", "_law_model", "_law_drawn", "_law_wish"] [.inst "Room" ri,.ref d,.tup [.int p,.int len,.ref za],.int w]) fun l0 e0=> ?_
 have a1:l0 "_law_room" = some (.inst "Room" ri):=e0▸rfl
 have a2:l0 "_law_model" = some (.ref d):=e0▸rfl
 have a3:l0 "_law_drawn" = some (.tup [.int p,.int len,.ref za]):=e0▸rfl
 have a4:l0 "_law_wish" = some (.int w):=e0▸rfl
 have d2:∀q,aj (.tup [.int p,.int len,.ref za]) (.int 2) q= .ok (.ref za) q:=fun q=>rfl
 refine bi ((xs.find? fun x=>decide (x≥w)).getD 0) fun y ey=> ?_
 have sb:=wS h.z w
 rw [ey] at sb
 refine bi (upd l0 "_law_size" (.int y)) fun l1 el1=> ?_
 have t1:rk ⟨l0,H⟩= .ok .next ⟨l1,H⟩:=by exists a3,d2,a4,sb,el1
 have b1:=af el1 ∅ a1
 have b4:=af el1 ∅ a4
 have b5:=aq el1
 cases hf:xs.find? (fun x=>decide (x≥w)) with
 | none =>
  rw [hf] at v ey
  subst ey
  refine kG ⟨H,aS (m:=pS) (q:=⟨l1,H⟩) rfl ?_,List.prefix_refl _⟩
  rw [e0]
  refine ah t1 (dD (CT (bx (bq (g_get b1) (bq (a9 hR ∅ _) (bq (bq (g_get b4) (bq rfl rfl)) (tU v))))) ?_))
  rw [if_pos rfl]
  exact bq (bq (g_get b5) (bq rfl (bq (g_ceq rfl) rfl))) rfl
 | some z =>
  rw [hf] at v ey
  obtain ⟨H1,v1,p1⟩:=v
  have ey:z=y:=ey
  subst ey
  have hz:=List.find?_some hf
  have hzx:=List.mem_of_find?_eq_some hf
  have hz1:=h.sz.low z hzx
  have lf:=FN (h.g.m.md.pre p1) h.g.m.ok (z:=z) (by exact fun x9=>cK 0x9096090a1019812 hz1 x9) (za:=za)
  rw [← Ez fun g v hv hz=>by
   obtain ⟨s,hs,y1,y2⟩:=aF hv
   rw [← y2,← hz,← y1]
   exact h.g.m.ok.slots s (aB hs).1] at lf
  refine bi (Ey p len (look ms) z) fun u eu=> ?_
  rw [eu] at lf v1
  refine bi (upd l1 "_law_found" (.int u)) fun l2 el2=> ?_
  have t2:rn ⟨l1,H⟩= .ok .next ⟨l2,H1⟩:=ES (bq (bq (g_get b1) (bq (a9 hR ∅ _) (bq (bq (g_get b4) (bq rfl rfl)) (g_call v1)))) (bq (g_set el2) rfl))
  refine kG ⟨H1,aS (m:=pS) (q:=⟨l2,H1⟩) rfl ?_,p1⟩
  rw [e0]
  refine ah t1 (ah t2 ?_)
  have k1:decide (z>0)=true:=decide_eq_true (by exact cK 0x99019811 hz1)
  have k2:decide (u=u)=true:=decide_eq_true rfl
  exists af el2 ∅ b5,aq el2,k1,k2,lP,af el2 ∅ (af el1 ∅ a2),af el2 ∅ (af el1 ∅ a3),lf
end
theorem tW {H:Hp} {l:aY} {n:Nat} {vs:List V} {i:Int} {v:V} (h:H[n]? = some (.list vs)) (h0:0≤i) (h1:i<1000000) (hv:vs[i.toNat]? = some v):aj (.ref n) (.int i) ⟨l,H⟩= .ok v ⟨l,H⟩:=by
 exact mR h ⟨h0,h1⟩ hv
theorem xB {x y:String} {a b:V} {l l1 l2:aY} {H:Hp} (e1:upd l x a=l1) (e2:upd l1 y b=l2):jp x y (.tup [a,b]) ⟨l,H⟩= .ok () ⟨l2,H⟩:=by
 show ((an x a).b fun _=>an y b) _=_
 exact bq (g_set e1) (g_set e2)
theorem Bf (e:Int×Int):Pl (aE e):= .tup [e.1,e.2]
theorem nh (es:List (Int×Int)):∀v∈es.map aE,Pl v:=fun v hv=>by
 obtain ⟨e,_,rfl⟩:=List.mem_map.mp hv
 exact Bf e
theorem BH {H:Hp} {l:aY} {n:Nat} {vs:List V} (h:H[n]? = some (.list vs)) (hp:∀v∈vs,Pl v):eqV (.ref n) (.ref H.length) ⟨l,H++[.list []]⟩= .ok vs.isEmpty ⟨l,H++[.list []]⟩:=by
 have t1:=iS (av (H':=H++[.list []]) ⟨_,rfl⟩ h) (pX (n:=5) hp)
 have t2:toD (H++[.list []]) 8 (.ref H.length)=some (.list []):=iS (aG _ _) rfl
 have t3:=(sd (vs:=[]) (fun _ h=>(nomatch h))).shaped ∅
 rw [List.map_nil] at t3
 unfold eqV CP;rw [t1,t2,Option.bind_some,Option.bind_some,(sd hp).shaped ∅,t3]
 cases vs with
 | nil=>rfl
 | cons v vs=>rfl
theorem EE {p len:Int} {F:Vw} {e:Int×Int} (h:e∈zF p len F):∃(g z:Int) (bs:List Bool) (j:Nat),A3 (F g=some (z,bs)) (bs[j]? = some true) (e=(g*len+j*z,z)):=by
 obtain ⟨g,_,he⟩:=List.mem_flatMap.mp h
 unfold jB at he
 split at he
 ·rename_i v hv
  obtain ⟨kk,hk,rfl⟩:=List.mem_map.mp he
  obtain ⟨j,rfl,hj⟩:=kY v.2 0 kk hk
  exact ⟨g,v.1,v.2,j,hv,hj,by rw [Nat.zero_add]⟩
 ·cases he
theorem vL.trans {d:Nat} {ms m1 m2:List aH} {p len:Int} {H H1 H2:Hp} {F G:Vw} (a:vL d ms p len H F m1 H1) (b:vL d m1 p len H1 G m2 H2):vL d ms p len H G m2 H2 :=
 ⟨b.at',b.ok,b.look,a.chg.trans' b.chg a.own,fun i hi=>(b.own i hi).elim (a.own i) fun h=> .inr (Nat.le_trans a.chg.len h)⟩
noncomputable def dN:List String:=["_law_many", "_law_turn", "_law_found", "_law_places_here", "_law_place", "_law_size", "_law_empty", "_law_page"]
structure DL (ri d k za:Nat) (p len cell more:Int) (l:aY):Prop where
 r:l "_law_room" = some (.inst "Room" ri)
 m:l "_law_model" = some (.ref d)
 w:l "_law_drawn" = some (.tup [.int p,.int len,.ref za])
 k:l "_law_kept" = some (.ref k)
 c:l "_law_cell" = some (.int cell)
 o:l "_law_more" = some (.int more)
theorem DL.upd {ri d k za:Nat} {p len cell more:Int} {l l':aY} (h:DL ri d k za p len cell more l) {x:String} {v:V} (e:Mine.Lake.upd l x v=l') (hx:x∈dN):DL ri d k za p len cell more l' :=
 ⟨af e (dy ∅ hx) h.r,af e (dy ∅ hx) h.m,af e (dy ∅ hx) h.w,af e (dy ∅ hx) h.k,af e (dy ∅ hx) h.c,af e (dy ∅ hx) h.o⟩
section
variable {c:Nat} {col:Nat→Nat} {H:Hp} {p len cell more:Int} {xs:List Int} {ri d k za:Nat} {r:Rm} {ms:List aH} {ks:List (Nat×Nat)} {l:aY}
theorem BG (h:GR c col H p len xs ri d k za r ms ks) (hl:DL ri d k za p len cell more l) (x:V):∃l' H',A3 (((an "_law_turn" x).b fun _=>k9) ⟨l,H⟩= .ok .next ⟨l',H'⟩) (DL ri d k za p len cell more l') (ue c col H p len xs ri d k ks.length H'):=by
 refine lh fun G kG=> ?_
 have hlen:=h.g.m.ok.hlen.1
 refine bi (1+more.fmod len) fun w ew=> ?_
 have hw:1≤w:=by have:=cn more len (by exact cK 0x99019811 hlen);exact id (ru 0x1198009811019ca12 ew this.1)
 obtain ⟨a,H1,H2,k1,k2,k3⟩:=Ci h hw
 refine bi (upd l "_law_turn" x) fun l1 e1=> ?_
 refine bi (upd l1 "_law_found" (.int a)) fun l2 e2=> ?_
 have D1:=hl.upd e1 ∅
 have D2:=D1.upd e2 ∅
 have d1:∀q,aj (.tup [.int p,.int len,.ref za]) (.int 1) q= .ok (.int len) q:=fun q=>rfl
 have md:∀q,bM (.int more) (.int len) q= .ok (.int (more.fmod len)) q:=fun q=>eW (by exact fun x9=>cK 0x9096090a1019812 hlen x9:len≠0) rfl
 have ad:∀q,cS (.int 1) (.int (more.fmod len)) q= .ok (.int w) q:=fun q=>by rw [← ew];rfl
 have eq:∀q,eqV (.int a) (.int a) q= .ok true q:=fun q=>AS (decide_eq_true rfl)
 refine kG ⟨l2,H2,bq (g_set e1) (ah (q':=⟨l2,H1⟩) ?_ ?_),D2,k3⟩
 ·exists D1.r,D1.o,D1.w,d1,md,ad,k1,e2
 ·exists aq e2,lP,D2.m,D2.w,D2.o,d1,md,ad,k2,eq
theorem wE:∀(ys:List V) {col:Nat→Nat} {H:Hp} {r:Rm} {ms:List aH} {ks:List (Nat×Nat)} {l:aY},GR c col H p len xs ri d k za r ms ks→DL ri d k za p len cell more l →
  ∃l' H',bH (fun _=>True) (an "_law_turn") (k9) ys ⟨l,H⟩= .ok .next ⟨l',H'⟩∧ue c col H p len xs ri d k ks.length H'
 | [],_,H,_,_,_,l,h,_=>⟨l,H,rfl,h.pre (List.prefix_refl _)⟩
 | y::ys,col,H,r,ms,ks,l,h,hl=>by
  refine lh fun G kG=> ?_
  obtain ⟨l1,H1,t1,D1,E1⟩:=BG h hl y
  cases E1 with
  | mk col1 r1 ms1 ks1 g1 lk1 kl1 e1 =>
   obtain ⟨l2,H2,t2,E2⟩:=wE ys (h.next g1 lk1 e1) D1
   refine kG ⟨l2,H2,(bf t1 trivial).trans t2,ue.trans e1 ?_⟩
   cases E2 with
   | mk col2 r2 ms2 ks2 g2 lk2 kl2 e2=>exact ⟨col2,r2,ms2,ks2,g2,lk2,Nat.le_trans kl2 kl1,e2⟩
theorem DZ (a:Int) (q:S):bM (.int a) (.int 9) q= .ok (.int (a.fmod 9)) q:=eW ∅ rfl
theorem Fv (h:GR c col H p len xs ri d k za r ms ks) (hl:DL ri d k za p len cell more l) (hc:cell.fmod 9<4):∃q',iO ⟨l,H⟩= .ok (.ret (.bool true)) q'∧ue c col H p len xs ri d k ks.length q'.H:=by
 refine lh fun G kG=> ?_
 have k1:decide (cell.fmod 9<4)=true:=decide_eq_true hc
 refine bi (upd l "_law_many" (.int 1)) fun l1 e1=> ?_
 have D1:=hl.upd e1 ∅
 obtain ⟨n,l2,hn,D2,b2,t2⟩:∃n l2,(-1000000<n∧n<1000000)∧DL ri d k za p len cell more l2∧l2 "_law_many" = some (.int n)∧((((ac "_law_cell").b fun v10=>(Cm.p (V.int 9)).b fun v11=>bM v10 v11).b fun v12=>(Cm.p (V.int 3)).b fun v13=>(aL .Eq v12 v13).b fun x14=>Cm.p x14).b fun b22=>if b22 then (((Cm.p (V.int 1)).b fun v19=>(((ac "_law_more").b fun v15=>(Cm.p (V.int 2)).b fun v16=>dG v15 v16).b fun v17=>(Cm.p (V.int 6)).b fun v18=>bM v17 v18).b fun v20=>cS v19 v20).b fun v21=>(an "_law_many" v21).b fun _=>Cm.p Fl.next) else (Cm.p Fl.next)) ⟨l1,H⟩= .ok .next ⟨l2,H⟩:=by
  by_cases h3:cell.fmod 9=3
  ·refine bi (upd l1 "_law_many" (.int (1+(more.fdiv 2).fmod 6))) fun l2 e2=> ?_
   have:=cn (more.fdiv 2) 6 ∅
   refine ⟨_,l2,⟨by exact cK 0x19c0f4240a1b9009811 this.1,by exact cK 0xf4240a019c9690911 this.2⟩,D1.upd e2 ∅,aq e2,?_⟩
   have m1:∀q,dG (.int more) (.int 2) q= .ok (.int (more.fdiv 2)) q:=fun q=>gv ∅ rfl
   have m2:∀q,bM (.int (more.fdiv 2)) (.int 6) q= .ok (.int ((more.fdiv 2).fmod 6)) q:=fun q=>eW ∅ rfl
   have k3:decide (cell.fmod 9=3)=true:=decide_eq_true h3
   exists D1.c,DZ,k3,D1.o,m1,m2,e2
  ·have k3:decide (cell.fmod 9=3)=false:=decide_eq_false h3
   refine ⟨1,l1,⟨by decide,by decide⟩,D1,aq e1,?_⟩
   exists D1.c,DZ,k3
 obtain ⟨l3,H3,t3,E3⟩:=wE (ba 0 n.toNat) h D2
 refine kG ⟨⟨l3,H3⟩,bq (bq (bq (g_get hl.c) (bq rfl (DZ _ _))) (bq rfl (bq (g_clt k1) rfl))) (it_t rfl (ah (q':=⟨l1,H⟩) (bq rfl (bq (g_set e1) rfl)) (ah t2 (ah (q':=⟨l3,H3⟩) (bq (bq (bq (g_get b2) (bq rfl rfl)) (eh n _ hn)) t3) rfl)))),E3⟩
theorem Fw (h:GR c col H p len xs ri d k za r ms ks) (hl:DL ri d k za p len cell more l) (hc:cell.fmod 9=6):∃q',iP ⟨l,H⟩= .ok (.ret (.bool true)) q'∧ue c col H p len xs ri d k ks.length q'.H:=by
 have hlen:=h.g.m.ok.hlen.1
 have hw:=cn more len (by exact cK 0x99019811 hlen)
 obtain ⟨H1,t1,p1⟩:=Cc h (w:=1+more.fmod len) (by exact cK 0x19c198009811 hw.1)
 have k1:decide (cell.fmod 9=6)=true:=decide_eq_true hc
 have d1:∀q,aj (.tup [.int p,.int len,.ref za]) (.int 1) q= .ok (.int len) q:=fun q=>rfl
 have md:∀q,bM (.int more) (.int len) q= .ok (.int (more.fmod len)) q:=fun q=>eW (by exact fun x9=>cK 0x9096090a1019812 hlen x9:len≠0) rfl
 refine ⟨⟨l,H1⟩,?_,h.pre p1⟩
 exists hl.c,DZ,k1,hl.r,hl.m,hl.w,hl.o,d1,md,t1
end
section
variable {c:Nat} {col:Nat→Nat} {H:Hp} {p len cell more:Int} {xs:List Int} {ri d k za:Nat} {r:Rm} {ms:List aH} {ks:List (Nat×Nat)} {l:aY}
theorem xA {ss:List aH} {g z:Int} {bs:List Bool} (h:look ss g=some (z,bs)):∃s,A3 (df ss g=some s) (s.sz=z) (s.bs=bs):=aF h
theorem FC (h:GR c col H p len xs ri d k za r ms ks) {g z:Int} {bs:List Bool} {j:Nat} (hg:look ms g=some (z,bs)) (hj:bs[j]? = some true) {i x:Int} (h0:0≤i) (h1:i<z) :
  ∃H',A4 (iE [.inst "Room" ri,.int (g*len+j*z),.int i,.int x] H= .ok .none H') (jJ [.inst "Room" ri,.int (g*len+j*z),.int i] H'= .ok (.int x) H') (∀l,aJ "Room" "read" (.inst "Room" ri) ⟨l,H'⟩= .ok () ⟨l,H'⟩) (ue c col H p len xs ri d k ks.length H'):=by
 refine lh fun G kG=> ?_
 rw [← h.l] at hg
 obtain ⟨s,hs,y1,y2⟩:=xA hg
 rw [← y2] at hj
 have w:=EJ h.g.r.rm h.g.r.ok hs y1 hj h0 h1 x
 rw [h.g.r.rl] at w
 obtain ⟨H',w1,w2,w3,w4,w5⟩:=w
 have rd:=F6 w2 w3 hs y1 hj h0 h1
 obtain ⟨v,r1,r2⟩:=rd
 cases r2.symm.trans w5
 obtain ⟨g1,e1⟩:=h.g.room h.c1 w2 w3 ⟨rfl,rfl,rfl,rfl,rfl,h.g.r.rl.symm,rfl⟩ w4 fun i hi=> .inl hi
 exact kG ⟨H',w1,r1,a9 w2 ∅,_,_,ms,ks,g1,h.l,Nat.le_refl _,e1⟩
theorem FB (h:GR c col H p len xs ri d k za r ms ks) {g z:Int} {bs:List Bool} {j:Nat} (hg:look ms g=some (z,bs)) (hj:bs[j]? = some true) :
  ∃H1 H2,A4 (gQ [.ref d,.int len,.int (g*len+j*z)] H= .ok .none H1) (di [.inst "Room" ri,.int (g*len+j*z)] H1= .ok .none H2) (∀l,aJ "Room" "give_back" (.inst "Room" ri) ⟨l,H1⟩= .ok () ⟨l,H1⟩) (ue c col H p len xs ri d k ks.length H2):=by
 refine lh fun G kG=> ?_
 obtain ⟨s,hs,y1,y2⟩:=xA hg
 rw [← h.l] at hg
 obtain ⟨s',hs',z1,z2⟩:=xA hg
 have hj':=hj
 rw [← y2] at hj
 rw [← z2] at hj'
 obtain ⟨ms',H1,m1,m2⟩:=En h.g.m.md h.g.m.ok hs y1 hj
 obtain ⟨g1,e1⟩:=h.g.model m2
 have w:=zJ g1.r.rm g1.r.ok hs' z1 hj'
 rw [h.g.r.rl,h.g.r.rp,h.l] at w
 obtain ⟨r',H2,w1,w2,w3,w4,w5,w6,w7⟩:=w
 obtain ⟨g2,e2⟩:=g1.room h.c1 w2 w3 w4 w6 fun i hi=> .inl (w7 i hi)
 refine kG ⟨H1,H2,m1,w1,a9 g1.r.rm ∅,_,r',ms',ks,g2,?_,Nat.le_refl _,e1.trans e2⟩
 rw [w5,m2.look,z2,y2]
theorem zG {p len:Int} {ms:List aH} (h:lT p len ms):(zF p len (look ms)).length≤60*40:=by
 have:∀ks:List Int,(ks.flatMap (jB len (look ms))).length≤60*ks.length:=fun ks=>by
  induction ks with
  | nil=>exact Nat.le_refl _
  | cons g ks ih =>
   have:(jB len (look ms) g).length≤60:=by
    unfold jB
    split
    ·rename_i v hv
     obtain ⟨s,hs,_,y2⟩:=aF hv
     rw [List.length_map,gH,← y2]
     exact Nat.le_trans List.count_le_length (h.bslen (aB hs).1)
    ·exact Nat.zero_le _
   rw [List.flatMap_cons,List.length_append,List.length_cons];exact id (tn 0x191c3cd02c000003ca20113cd0012 ih this)
 exact Nat.le_trans (this _) (Nat.mul_le_mul_left _ (ed p h.hp.2 _))
theorem Fx (h:GR c col H p len xs ri d k za r ms ks) (hl:DL ri d k za p len cell more l) (hc:cell.fmod 9≠7):∃q',iQ ⟨l,H⟩= .ok (.ret (.bool true)) q'∧ue c col H p len xs ri d k ks.length q'.H:=by
 refine lh fun G kG=> ?_
 have k7:eqV (.int (cell.fmod 9)) (.int 7) ⟨l,H⟩= .ok false ⟨l,H⟩:=AS (decide_eq_false hc)
 have d1:∀q,aj (.tup [.int p,.int len,.ref za]) (.int 1) q= .ok (.int len) q:=fun q=>rfl
 obtain ⟨n,H1,m1,p1,n1,x1⟩:=zf h.g.m.md h.g.m.ok
 have hth:=zG h.g.m.ok
 obtain ⟨th,eth⟩:∃th,zF p len (look ms)=th:=⟨_,rfl⟩
 rw [eth] at x1 hth
 obtain ⟨l1,e1⟩:∃l1,upd l "_law_places_here" (.ref n)=l1:=⟨_,rfl⟩
 have D1:=hl.upd e1 ∅
 have b1:=aq e1
 have q0:=BH (l:=l1) x1 (nh th)
 obtain ⟨H2,e2⟩:∃H2,H1++[O.list []]=H2:=⟨_,rfl⟩
 rw [e2] at q0
 have p2:H1<+:H2:=⟨_,e2⟩
 have x2:=av p2 x1
 have P:=p1.trans p2
 have ff:∀ {q':S} {M:Cm Fl},M ⟨l1,H1⟩= .ok (.ret (.bool true)) q'→((((ac "_law_cell").b fun v88=>(Cm.p (V.int 9)).b fun v89=>bM v88 v89).b fun v90=>(Cm.p (V.int 7)).b fun v91=>(aL .NotEq v90 v91).b fun x92=>Cm.p x92).b fun b160=>if b160 then (au ((((ac "_law_model").b fun v98=>(((ac "_law_drawn").b fun v94=>(Cm.p (V.int 1)).b fun v95=>aj v94 v95).b fun v96=>(Cm.p ([]:List V)).b fun vs97=>Cm.p (v96::vs97)).b fun vs99=>Cm.p (v98::vs99)).b fun vs93=>aD (ga) vs93).b fun v100=>(an "_law_places_here" v100).b fun _=>Cm.p Fl.next) M) else (Cm.p Fl.next)) ⟨l,H⟩= .ok (.ret (.bool true)) q':=fun {q'} {M} hM=>by
  refine bq (a:=true) (q':=⟨l,H⟩) ?_ (it_t rfl (ah (q':=⟨l1,H1⟩) ?_ hM))
  ·exists hl.c,DZ,k7
  ·exists hl.m,hl.w,d1,m1,e1
 cases th with
 | nil =>
  obtain ⟨g2,E2⟩:=h.g.pre P
  refine kG ⟨⟨l1,H2⟩,ff (dD ?_),_,r,ms,ks,g2,h.l,Nat.le_refl _,E2⟩
  exists b1,e2,q0
 | cons t0 th =>
  obtain ⟨ts,ets⟩:∃ts,t0::th=ts:=⟨_,rfl⟩
  have tB:((((ac "_law_places_here").b fun v102=>((Cm.p ([]:List V)).b fun vs101=>dz vs101).b fun v103=>(aL .Eq v102 v103).b fun x104=>Cm.p x104).b fun b106=>if b106 then ((Cm.p (V.bool true)).b fun v105=>Cm.p (Fl.ret v105)) else (Cm.p Fl.next))) ⟨l1,H1⟩= .ok .next ⟨l1,H2⟩:=by exists b1,e2,q0
  have hp:0<ts.length:=by rw [← ets];exact Nat.zero_lt_succ _
  rw [ets] at x2 hth eth
  have hlv:fg [.ref n] ⟨l1,H2⟩= .ok (.int ts.length) ⟨l1,H2⟩:=by
   have:=bY (l:=l1) x2 (by rw [List.length_map];exact id (bz 0xf4240a01000028a3cd0011 hth))
   rw [List.length_map] at this;exact this
  have hi:=cn more ts.length (by exact bz 0xf099009111 hp)
  obtain ⟨i,ei⟩:∃i,more.fmod ts.length=i:=⟨_,rfl⟩
  rw [ei] at hi
  obtain ⟨e,he⟩:∃e,ts[i.toNat]? = some e:=⟨_,List.getElem?_eq_getElem (by exact rU 0x1101fa10f0912 hi.2 (Int.toNat_of_nonneg hi.1))⟩
  obtain ⟨g,z,bs,j,hg,hj,rfl⟩:=EE (eth▸List.mem_of_getElem? he:e∈zF p len (look ms))
  obtain ⟨s,hs,y1,y2⟩:=xA hg
  have hz:=y1▸h.g.m.ok.sz s (aB hs).1
  have itm:aj (.ref n) (.int i) ⟨l1,H2⟩= .ok (.tup [.int (g*len+j*z),.int z]) ⟨l1,H2⟩:=tW x2 hi.1 (by exact kb 0xf4240a090f091000028a3cd0012 hth hi.2) (by rw [List.getElem?_map,he];rfl)
  obtain ⟨l2,el2⟩:∃l2,upd l1 "_law_place" (.int (g*len+j*z))=l2:=⟨_,rfl⟩
  obtain ⟨l3,el3⟩:∃l3,upd l2 "_law_size" (.int z)=l3:=⟨_,rfl⟩
  have D3:=(D1.upd el2 ∅).upd el3 ∅
  have b2:=af el3 ∅ (aq el2)
  have b3:=aq el3
  have tC:(((ac "_law_places_here").b fun v107=>((ac "_law_more").b fun v112=>(((ac "_law_places_here").b fun v110=>(Cm.p ([]:List V)).b fun vs111=>Cm.p (v110::vs111)).b fun vs109=>fg vs109).b fun v113=>bM v112 v113).b fun v108=>aj v107 v108).b fun v114=>((jp "_law_place" "_law_size") v114).b fun _=>Cm.p Fl.next) ⟨l1,H2⟩= .ok .next ⟨l3,H2⟩:=by
   exists b1,D1.o,hlv,eW (by omega:(ts.length:Int)≠0) ei,itm,xB el2 el3
  obtain ⟨g2,E2⟩:=h.g.pre P
  have h2:=h.next g2 h.l E2
  have k8:=cn more z (by exact cK 0x99019811 hz.1)
  have mz:∀q,bM (.int more) (.int z) q= .ok (.int (more.fmod z)) q:=fun q=>eW (by exact fun x9=>cK 0x9096090a1019812 hz.1 x9:z≠0) rfl
  by_cases h8:cell.fmod 9=8
  ·have q8:decide (cell.fmod 9=8)=true:=decide_eq_true h8
   obtain ⟨H3,w1,w2,w3,w4⟩:=FC h2 hg hj k8.1 k8.2 (x:=more)
   have kt:decide (more=more)=true:=decide_eq_true rfl
   refine kG ⟨⟨l3,H3⟩,ff (ah tB (ah tC (dD (bq (a:=true) (q':=⟨l3,H2⟩) ?_ (it_t rfl (ah (q':=⟨l3,H3⟩) ?_ ?_)))))),w4.trans E2⟩
   ·exists D3.c,DZ,q8
   ·exists D3.r,a9 g2.r.rm (f := "write") ∅,b2,D3.o,b3,mz,w1
   ·exists D3.r,w3,b2,D3.o,b3,mz,w2,kt
  ·have q8:decide (cell.fmod 9=8)=false:=decide_eq_false h8
   obtain ⟨H3,H4,w1,w2,w3,w4⟩:=FB h2 hg hj
   refine kG ⟨⟨l3,H4⟩,ff (ah tB (ah tC (ah (q':=⟨l3,H2⟩) (bq (a:=false) (q':=⟨l3,H2⟩) ?_ (it_f rfl rfl)) (ah (q':=⟨l3,H3⟩) ?_ ?_)))),w4.trans E2⟩
   ·exists D3.c,DZ,q8
   ·exists D3.m,D3.w,d1,b2,w1
   ·exists D3.r,w3,b2,w2
end
theorem rM {H:Hp} {l:aY} {i:Nat} {vs:List V} (h:H[i]? = some (.list vs)):bC (.ref i) ⟨l,H⟩= .ok true ⟨l,H⟩:=by rw [nj,h]
theorem zb:∀ {xs:List Int} {a b:Int},xs.Pairwise (· < ·)→(∀x∈xs,a<x∧x≤b)→a≤b→(xs.length:Int)≤b-a
 | [],a,b,_,_,h=>by simp only [List.length_nil];exact id (ru 0x1e09f810811 h)
 | x::xs,a,b,hp,h,_=>by
  obtain ⟨h1,h2⟩:=List.pairwise_cons.mp hp
  have hx:=h x (.head _)
  have:=zb (a:=x) (b:=b) h2 (fun y hy=>⟨h1 y hy,(h y (.tail _ hy)).2⟩) hx.2
  rw [List.length_cons];exact id (lA [_] [_,_,_] 0x2e190cf812e0f8110912 hx.1 this)
section
variable {c:Nat} {col:Nat→Nat} {H:Hp} {p len cell more:Int} {xs:List Int} {ri d k za:Nat} {r:Rm} {ms:List aH} {ks:List (Nat×Nat)} {l:aY}
theorem ue.le {n n':Nat} {H':Hp} (h:ue c col H p len xs ri d k n H') (hn:n≤n'):ue c col H p len xs ri d k n' H':=by
 cases h with
 | mk col2 r ms ks g l kl e=>exact ⟨col2,r,ms,ks,g,l,Nat.le_trans kl hn,e⟩
theorem Gr.add (h:Gr c col H p len xs ri d k r ms ks) {n:Nat} {vs:List V} (x:H[n]? = some (.list vs)) (hp:∀v∈vs,Pl v) (hn:col n=0) (c1:1≤c) :
  ∃H' col',A3 ((H++[O.list vs]).set k (.list (ks.map (fun e=>V.tup [.ref e.1,.ref e.2])++[.tup [.ref n,.ref H.length]]))=H') (Gr c col' H' p len xs ri d k r ms (ks++[(n,H.length)])) (tO c col H col' H'):=by
 obtain ⟨H2,e2⟩:∃H2,H++[O.list vs]=H2:=⟨_,rfl⟩
 have p2:H<+:H2:=⟨_,e2⟩
 obtain ⟨g2,E2⟩:=h.pre p2
 have hc2:fn col H.length 0 [] n=0:=(gW (bL x)).trans hn
 obtain ⟨g3,E3⟩:=g2.keep (ks':=ks++[(n,H.length)]) (fun e he=>by
   rcases List.mem_append.mp he with he | he
   ·exact g2.k.rf e he
   ·rw [List.mem_singleton.mp he];exact ⟨vs,av p2 x,by rw [← e2];exact aG _ _,hp⟩) (fun e he=>by
   rcases List.mem_append.mp he with he | he
   ·exact g2.k.ce e he
   ·rw [List.mem_singleton.mp he];exact ⟨hc2,r5 (Nat.le_refl _)⟩)
 rw [List.map_append] at g3 E3
 rw [e2]
 exact ⟨_,_,rfl,g3,E2.trans E3⟩
theorem Fy (h:GR c col H p len xs ri d k za r ms ks) (hl:DL ri d k za p len cell more l) (hc:0<more.fmod 3) (hk:ks.length≤10000):∃q',iR ⟨l,H⟩= .ok (.ret (.bool true)) q'∧ue c col H p len xs ri d k (ks.length+1) q'.H:=by
 refine lh fun G kG=> ?_
 have k1:decide (more.fmod 3>0)=true:=decide_eq_true hc
 have m3:∀q,bM (.int more) (.int 3) q= .ok (.int (more.fmod 3)) q:=fun q=>eW ∅ rfl
 have v3:∀q,dG (.int more) (.int 3) q= .ok (.int (more.fdiv 3)) q:=fun q=>gv ∅ rfl
 have d1:∀q,aj (.tup [.int p,.int len,.ref za]) (.int 1) q= .ok (.int len) q:=fun q=>rfl
 have d2:∀q,aj (.tup [.int p,.int len,.ref za]) (.int 2) q= .ok (.ref za) q:=fun q=>rfl
 have hsz:=h.sz
 have hL:=h.g.m.ok.hlen
 have hxl:=zb (a:=0) (b:=len) hsz.rise (fun x hx=>⟨hsz.low x hx,hsz.top x hx⟩) (by exact cK 0x98019811 hL.1)
 have hx0:0<xs.length:=List.length_pos_iff.mpr (h.g.r.rx▸h.g.r.ok.ne)
 have hlv:fg [.ref za] ⟨l,H⟩= .ok (.int xs.length) ⟨l,H⟩:=by
  have:=bY (l:=l) h.z (by rw [List.length_map];exact id (kb 0xf4240a01090e0f8100003ca0812 hL.2 hxl))
  rw [List.length_map] at this;exact this
 have hi:=cn (more.fdiv 3) xs.length (by exact bz 0xf099009111 hx0)
 obtain ⟨i,ei⟩:∃i,(more.fdiv 3).fmod xs.length=i:=⟨_,rfl⟩
 rw [ei] at hi
 obtain ⟨z,he⟩:∃z,xs[i.toNat]? = some z:=⟨_,List.getElem?_eq_getElem (by exact rU 0x1101fa10f0912 hi.2 (Int.toNat_of_nonneg hi.1))⟩
 have hzx:=List.mem_of_getElem? he
 have itm:aj (.ref za) (.int i) ⟨l,H⟩= .ok (.int z) ⟨l,H⟩:=tW h.z hi.1 (by exact BU 0xf4240a190f191090e0f8100003ca0813 hL.2 hxl hi.2) (by rw [List.getElem?_map,he];rfl)
 obtain ⟨l1,e1⟩:∃l1,upd l "_law_size" (.int z)=l1:=⟨_,rfl⟩
 have D1:=hl.upd e1 ∅
 have v:=DU h.g.r.rm h.g.r.ok (z:=z) (by rw [h.g.r.rx];exact hzx)
 rw [h.g.r.rl,h.g.r.rp,h.l] at v
 obtain ⟨n,r',H1,w1,w2,w3,w4,w5,w6,w7,w8,w9,w10⟩:=v
 obtain ⟨l2,e2⟩:∃l2,upd l1 "_law_found" (.ref n)=l2:=⟨_,rfl⟩
 have D2:=D1.upd e2 ∅
 have b1:=aq e2
 have b2:=af e2 ∅ (aq e1)
 obtain ⟨g1,E1⟩:=h.g.room h.c1 w4 w5 w6 w8 fun i hi=> .inl (w9 i hi)
 have hn0:fn col H.length c (r'.own ri) n=0:=zq (Nat.not_lt.mpr w2) fun hn=>absurd (uV h.g.r.rm n (w9 n hn)) (Nat.not_lt.mpr w2)
 have li:=qP (o:= .ref n) l2 H1 (bB w3) (by rw [List.length_map];exact id (bz 0xf4240a0000c350a0011 w10))
 obtain ⟨H2,eH2⟩:∃H2,H1++[O.list ((Ac p len (look ms) z).map aE)]=H2:=⟨_,rfl⟩
 obtain ⟨H3,col3,eH3,g3,E3⟩:=g1.add w3 (nh _) hn0 h.c1
 rw [eH2] at li eH3
 have ap:=jn (.tup [.ref n,.ref H1.length]) l2 H2 (by rw [← eH2];exact av ⟨_,rfl⟩ g1.k.at') (by rw [List.length_map];exact id (bz 0xf4240a01002710a0011 hk))
 rw [eH3] at ap
 obtain ⟨n',ms',H4,m1,m2,m3'⟩:=Ap g3.m.md g3.m.ok (z:=z) ⟨hsz.low z hzx,hsz.top z hzx⟩
 obtain ⟨g4,E4⟩:=g3.model m3'
 have x3:=E3.get h.c1 w3 hn0
 have eq:=EQ (l:=l2) ⟨(E4.get h.c1 x3.1 x3.2).1,m2,nh _⟩
 refine kG ⟨⟨l2,H4⟩,bq (a:=true) (q':=⟨l,H⟩) ?_ (it_t rfl (ah (q':=⟨l1,H⟩) ?_ (ah (q':=⟨l2,H1⟩) ?_ (ah (q':=⟨l2,H3⟩) ?_ ?_)))),_,r',ms',_,g4,w7.trans m3'.look.symm,by rw [List.length_append];exact Nat.le_refl _,(E1.trans E3).trans E4⟩
 ·exists hl.o,m3,k1
 ·exists hl.w,d2,hl.o,v3,hlv,eW (by omega:(xs.length:Int)≠0) ei,itm,e1
 ·exists D1.r,a9 h.g.r.rm (f := "gather") ∅,aq e1,w1,e2
 ·exists D2.k,rM g1.k.at',b1,li,ap
 ·exists b1,D2.m,D2.w,d1,b2,m1,eq
theorem GM {n:Nat} {zs:List Int}:∀(ys:List Int) {H:Hp} {ms:List aH} {l:aY},lS H d ms→lT p len ms→n∉bZ d ms→H[n]? = some (.list (zs.map V.int))→ys.Nodup→(∀g∈ys,∃v,look ms g=some v)→DL ri d k za p len cell more l→l "_law_empty" = some (.ref n) →
  ∃l' H' ms',A4 (bH (fun H'=>ay (.ref n) H'=some (zs.map V.int)) (an "_law_page") (lb) (ys.map V.int) ⟨l,H⟩= .ok .next ⟨l',H'⟩) (vL d ms p len H (iM (look ms) ys) ms' H') (DL ri d k za p len cell more l') (l' "_law_empty" = some (.ref n))
 | [],H,ms,l,hM,hO,_,_,_,_,hD,hE=>⟨l,H,ms,rfl,⟨hM,hO,(qS _).symm,bO.refl _ _,fun i hi=> .inl hi⟩,hD,hE⟩
 | g::ys,H,ms,l,hM,hO,hn,hx,hd,hs,hD,hE=>by
  refine lh fun G kG=> ?_
  obtain ⟨hd1,hd2⟩:=List.nodup_cons.mp hd
  obtain ⟨v,hv⟩:=hs g (.head _)
  obtain ⟨s,hf,_,_⟩:=aF hv
  refine bi (upd l "_law_page" (.int g)) fun l1 e1=> ?_
  have D1:=hD.upd e1 ∅
  have hp:=xG hM hO hf l1
  have C1:bO (bZ d ms) H (H.set d (.dict (ll g (ms.map aH.mnt)))):=bO.set (.head _)
  have M1:=lS.del hM hO g
  refine bi (H.set d (.dict (ll g (ms.map aH.mnt)))) fun H1 eH=> ?_
  rw [eH] at hp C1 M1
  have O1:=lT.del hO g
  have x1:=C1.get hx hn
  have R1:vL d ms p len H (dY (look ms) g none) (cW ms g) H1:=⟨M1,O1,ge ms g,C1,fun i hi=> .inl (mY g i hi)⟩
  obtain ⟨l2,H2,ms2,t2,R2,D2,E2⟩:=GM ys M1 O1 (fun h=>hn (mY g n h)) x1 hd2 (fun y hy=>by
   rw [ge,fE _ _ (fun e:y=g=>hd1 (e▸hy))];exact hs y (.tail _ hy)) D1 (af e1 ∅ hE)
  rw [ge,wW] at R2
  refine kG ⟨l2,H2,ms2,(bf (q':=⟨l1,H1⟩) ?_ ?_).trans t2,R1.trans R2,D2,E2⟩
  ·have:lb ⟨l1,H⟩= .ok .next ⟨l1,H1⟩:=by exists D1.m,tX hM,aq e1,hp
   exact bq (g_set e1) this
  ·show ay (.ref n) H1=_
   exact bB x1
theorem FA (h:GR c col H p len xs ri d k za r ms ks) (hl:DL ri d k za p len cell more l):∃q',au (lK) (au (lL) (au (lM) (lO))) ⟨l,H⟩= .ok (.ret (.bool true)) q'∧ue c col H p len xs ri d k ks.length q'.H:=by
 refine lh fun G kG=> ?_
 obtain ⟨H1,hc,p1⟩:=Dh h.g.m.md h.g.m.ok (c:=qs) (l:=l) (caps:=["_law_model"]) rfl (.head _) hl.m
 have hel:=ul p h.g.m.ok.hp.2 (look ms)
 have hnd:(gA p (look ms)).Nodup:=(pQ _ _).filter _
 have hem:∀g∈gA p (look ms),∃v,look ms g=some v:=fun g hg=>dm (List.mem_filter.mp hg).1
 refine bi (gA p (look ms)) fun em eem=> ?_
 rw [eem] at hc hel hnd hem
 refine bi (H1++[O.list (em.map V.int)]) fun H2 eH2=> ?_
 rw [eH2] at hc
 have P:H<+:H2:=p1.trans ⟨_,eH2⟩
 have x2:H2[H1.length]? = some (.list (em.map V.int)):=by rw [← eH2];exact aG _ _
 refine bi (H1.length) fun n en=> ?_
 rw [en] at hc x2
 have hn:H.length≤n:=en▸p1.length_le
 refine bi (upd l "_law_empty" (.ref n)) fun l1 e1=> ?_
 have D1:=hl.upd e1 ∅
 obtain ⟨g2,E2⟩:=h.g.pre P
 have c2:fn col H.length 0 [] n=0:=r5 hn
 obtain ⟨l3,H3,ms3,t3,R3,D3,b3⟩:=GM em g2.m.md g2.m.ok (fun hi=>by have:=g2.m.cm n hi;exact id (b0 0x9096191c031090212 c2 this)) x2 hnd hem D1 (aq e1)
 obtain ⟨g3,E3⟩:=g2.model R3
 have x3:=E3.get h.c1 x2 c2
 have v:=F9 g3.r.rm g3.r.ok
 rw [h.g.r.rp,h.l,eem] at v
 obtain ⟨r4,H4,w1,w2,w3,w4,w5,w6,w7⟩:=v
 obtain ⟨g4,E4⟩:=g3.room h.c1 w2 w3 w4 w6 fun i hi=> .inl (w7 i hi)
 have x4:=E4.get h.c1 x3.1 x3.2
 refine bi (upd l3 "_law_found" (.int em.length)) fun l4 e4=> ?_
 have lv:fg [.ref n] ⟨l4,H4⟩= .ok (.int em.length) ⟨l4,H4⟩:=by
  have:=bY (l:=l4) x4.1 (by rw [List.length_map];exact id (bz 0xf4240a01000028a0011 hel))
  rw [List.length_map] at this;exact this
 have kt:decide ((em.length:Int)=em.length)=true:=decide_eq_true rfl
 refine kG ⟨⟨l4,H4⟩,ah (q':=⟨l1,H2⟩) ?_ (ah (q':=⟨l3,H3⟩) (bq (bq (g_get (aq e1)) (bw x2)) t3) (ah (q':=⟨l4,H4⟩) ?_ ?_)),_,r4,ms3,ks,g4,w5.trans R3.look.symm,Nat.le_refl _,(E2.trans E3).trans E4⟩
 ·exists hc,e1
 ·exists D3.r,a9 g3.r.rm (f := "trim") ∅,w1,e4
 ·exists aq e4,lP,af e4 ∅ b3,lv,kt
theorem CJ (h:GR c col H p len xs ri d k za r ms ks) (hk:ks.length≤10000) (cell:Int):∃H',lr [.inst "Room" ri,.ref d,.tup [.int p,.int len,.ref za],.ref k,.int cell] H= .ok (.bool true) H'∧ue c col H p len xs ri d k (ks.length+1) H':=by
 refine lh fun G kG=> ?_
 refine bi (aT ["_law_room", "_law_model", "_law_drawn", "_law_kept", "_law_cell"] [.inst "Room" ri,.ref d,.tup [.int p,.int len,.ref za],.ref k,.int cell]) fun l0 e0=> ?_
 refine bi (upd l0 "_law_more" (.int (cell.fdiv 9))) fun l e1=> ?_
 have hl:DL ri d k za p len cell (cell.fdiv 9) l:=⟨af e1 ∅ (e0▸rfl),af e1 ∅ (e0▸rfl),af e1 ∅ (e0▸rfl),af e1 ∅ (e0▸rfl),af e1 ∅ (e0▸rfl),aq e1⟩
 have c0:l0 "_law_cell" = some (.int cell):=e0▸rfl
 have t1:rj ⟨l0,H⟩= .ok .next ⟨l,H⟩:=by
  have v9:∀q,dG (.int cell) (.int 9) q= .ok (.int (cell.fdiv 9)) q:=fun q=>gv ∅ rfl
  exists c0,v9,e1
 have td:∀ {q':S},au (iO) (au (iP) (au (iQ) (au (iR) (au (lK) (au (lL) (au (lM) (lO))))))) ⟨l,H⟩= .ok (.ret (.bool true)) q'→ue c col H p len xs ri d k (ks.length+1) q'.H→G:=fun {q'} hm hE =>
  kG ⟨q'.H,aS (m:=uG) (q:=q') rfl (by rw [e0];exact ah t1 hm),hE⟩
 by_cases h2:cell.fmod 9<4
 ·obtain ⟨q',t,E⟩:=Fv h hl h2
  exact td (dD t) (E.le (Nat.le_succ _))
 have k2:decide (cell.fmod 9<4)=false:=decide_eq_false h2
 have t2:iO ⟨l,H⟩= .ok .next ⟨l,H⟩:=by exists hl.c,DZ,k2
 by_cases h3:cell.fmod 9=6
 ·obtain ⟨q',t,E⟩:=Fw h hl h3
  exact td (ah t2 (dD t)) (E.le (Nat.le_succ _))
 have k3:decide (cell.fmod 9=6)=false:=decide_eq_false h3
 have t3:iP ⟨l,H⟩= .ok .next ⟨l,H⟩:=by exists hl.c,DZ,k3
 by_cases h4:cell.fmod 9=7
 ·have k4:eqV (.int (cell.fmod 9)) (.int 7) ⟨l,H⟩= .ok true ⟨l,H⟩:=AS (decide_eq_true h4)
  have t4:iQ ⟨l,H⟩= .ok .next ⟨l,H⟩:=by exists hl.c,DZ,k4
  by_cases h5:0<(cell.fdiv 9).fmod 3
  ·obtain ⟨q',t,E⟩:=Fy h hl h5 hk
   exact td (ah t2 (ah t3 (ah t4 (dD t)))) E
  ·have k5:decide ((cell.fdiv 9).fmod 3>0)=false:=decide_eq_false h5
   have m3:∀q,bM (.int (cell.fdiv 9)) (.int 3) q= .ok (.int ((cell.fdiv 9).fmod 3)) q:=fun q=>eW ∅ rfl
   have t5:iR ⟨l,H⟩= .ok .next ⟨l,H⟩:=by exists hl.o,m3,k5
   obtain ⟨q',t,E⟩:=FA h hl
   exact td (ah t2 (ah t3 (ah t4 (ah t5 t)))) (E.le (Nat.le_succ _))
 ·obtain ⟨q',t,E⟩:=Fx h hl h4
  exact td (ah t2 (ah t3 (dD t))) (E.le (Nat.le_succ _))
end
theorem C9 {n:Nat} {vs:List V} {l:aY} {H:Hp} (hn:H[n]? = some (.list vs)):cQ (.ref n) ⟨l,H⟩= .ok ⟨vs,fun H=>ay (.ref n) H=some vs⟩ ⟨l,H⟩:=by
 show (match ay (.ref n) H with | some xs=>_ | none=>_)=_
 rw [show ay (.ref n) H=some vs from bB hn]
theorem jM {n:Nat} {vs:List V} {H:Hp} (hn:H[n]? = some (.list vs)):ay (.ref n) H=some vs:=bB hn
structure SL (ri d k za:Nat) (p len:Int) (l:aY):Prop where
 r:l "_law_room" = some (.inst "Room" ri)
 m:l "_law_model" = some (.ref d)
 w:l "_law_drawn" = some (.tup [.int p,.int len,.ref za])
 k:l "_law_kept" = some (.ref k)
noncomputable def sN:List String:=["_law_one", "_law_copy", "_law_shelves", "_law_pile", "_law_found"]
theorem SL.upd {ri d k za:Nat} {p len:Int} {l l':aY} (h:SL ri d k za p len l) {x:String} {v:V} (e:Mine.Lake.upd l x v=l') (hx:x∈sN):SL ri d k za p len l' :=
 ⟨af e (dy ∅ hx) h.r,af e (dy ∅ hx) h.m,af e (dy ∅ hx) h.w,af e (dy ∅ hx) h.k⟩
section
variable {c:Nat} {col:Nat→Nat} {H:Hp} {p len:Int} {xs:List Int} {ri d k za:Nat} {r:Rm} {ms:List aH} {ks:List (Nat×Nat)} {l:aY}
theorem wP {vs:List V} (hk:H[k]? = some (.list vs)):∀(ys:List (Nat×Nat)) {l:aY},(∀e∈ys,∃vs,Rf H e.1 e.2 vs)→SL ri d k za p len l →
  ∃l',bH (fun H'=>ay (.ref k) H'=some vs) (jp "_law_one" "_law_copy") (iZ) (ys.map fun e=> .tup [.ref e.1,.ref e.2]) ⟨l,H⟩= .ok .next ⟨l',H⟩∧SL ri d k za p len l'
 | [],l,_,hS=>⟨l,rfl,hS⟩
 | e::ys,l,h,hS=>by
  refine lh fun G kG=> ?_
  obtain ⟨us,hu⟩:=h e (.head _)
  refine bi (upd l "_law_one" (.ref e.1)) fun l1 e1=> ?_
  refine bi (upd l1 "_law_copy" (.ref e.2)) fun l2 e2=> ?_
  obtain ⟨l',t,S'⟩:=wP hk ys (fun e he=>h e (.tail _ he)) ((hS.upd e1 ∅).upd e2 ∅)
  have tb:iZ ⟨l2,H⟩= .ok .next ⟨l2,H⟩:=by exists af e2 ∅ (aq e1),aq e2,EQ hu
  exact kG ⟨l',(bf (bq (xB e1 e2) tb) (jM hk)).trans t,S'⟩
theorem B8 (hM:lS H d ms) (hO:lT p len ms) (h1:l "_law_model" = some (.ref d)) :
  ∃H',fX ⟨l,H⟩= .ok (.ref H'.length) ⟨l,H'++[.list ((bh p (look ms)).filterMap (qe (look ms)))]⟩∧H<+:H':=by
 refine lh fun G kG=> ?_
 have hso:=kN hM hO l
 refine bi (H++[O.list ((bh p (look ms)).map V.int)]) fun H1 e1=> ?_
 rw [e1] at hso
 have x1:H1[H.length]? = some (.list ((bh p (look ms)).map V.int)):=by rw [← e1];exact aG _ _
 have p1:H<+:H1:=⟨_,e1⟩
 have hkl:=ed p hO.hp.2 (look ms)
 obtain ⟨H',hc,p'⟩:∃H',fX ⟨l,H⟩= .ok (.ref H'.length) ⟨l,H'++[.list ((bh p (look ms)).filterMap (qe (look ms)))]⟩∧H1<+:H':=by
  unfold fX
  refine bJ (n:=H.length) (ks:=bh p (look ms)) ?_ x1 (by exact bz 0xf4240a00000028a0011 hkl) (qe (look ms)) fun g hg Hx hp=> ?_
  ·exists h1,hso,bw x1
  ·obtain ⟨v,hv⟩:=dm hg
   obtain ⟨s,hs,y1,y2⟩:=aF hv
   have hm:=(aB hs).1
   have hMx:=hM.pre (p1.trans hp)
   refine bi (upd (dX ["_law_model"] l) "_law_page" (.int g)) fun lc elc=> ?_
   have b1:lc "_law_model" = some (.ref d):=elc▸cq ∅ ∅ h1
   have b3:lc "_law_page" = some (.int g):=aq elc
   have hE:qe (look ms) g=some (.tup [.int g,.int s.sz,.int (s.bs.count true)]):=by unfold qe;rw [hv,y1,y2]
   rw [hE]
   refine ⟨Hx,bD (H2:=Hx) rfl ?_,List.prefix_refl _⟩
   rw [elc]
   exists b1,b3,bF hMx hs,jQ hMx hm,ee hMx hm,jP hMx hm,oj true (hMx.bits s hm)
 exact kG ⟨H',hc,p1.trans p'⟩
theorem sf (h:Gr c col H p len xs ri d k r ms ks) (c1:1≤c) {n:Nat} {vs:List V} (x:H[n]? = some (.list vs)) (hp:∀v∈vs,Pl v) (hn:col n=0) (hv:vs.length≤1000000) (hk:ks.length≤10000) (hS:SL ri d k za p len l) {l':aY} (e:upd l "_law_one" (.ref n)=l') :
  ∃H' col',A4 (((an "_law_one" (.ref n)).b fun _=>i9) ⟨l,H⟩= .ok .next ⟨l',H'⟩) (Gr c col' H' p len xs ri d k r ms (ks++[(n,H.length)])) (tO c col H col' H') (SL ri d k za p len l'):=by
 refine lh fun G kG=> ?_
 have S':=hS.upd e ∅
 have li:=qP (o:= .ref n) l' H (jM x) hv
 refine bi (H++[O.list vs]) fun H2 eH2=> ?_
 obtain ⟨H3,col3,eH3,g3,E3⟩:=h.add x hp hn c1
 rw [eH2] at li eH3
 have ap:=jn (.tup [.ref n,.ref H.length]) l' H2 (by rw [← eH2];exact av ⟨_,rfl⟩ h.k.at') (by rw [List.length_map];exact id (bz 0xf4240a01002710a0011 hk))
 rw [eH3] at ap
 have tb:i9 ⟨l',H⟩= .ok .next ⟨l',H3⟩:=by exists S'.k,rM h.k.at',aq e,li,ap
 exact kG ⟨H3,col3,bq (g_set e) tb,g3,E3,S'⟩
theorem FQ (F:Vw) (gs:List Int):∀v∈gs.filterMap (qe F),Pl v:=fun v hv=>by
 obtain ⟨g,_,hg⟩:=List.mem_filterMap.mp hv
 unfold qe at hg
 split at hg
 ·rename_i w _
  cases hg;exact .tup [g,w.1,_]
 ·cases hg
theorem Be (gs:List Int):∀v∈gs.map V.int,Pl v:=fun v hv=>by
 obtain ⟨g,_,rfl⟩:=List.mem_map.mp hv
 exact .int g
theorem Aa {vs:List V} {H':Hp} (e:H++[.list vs]=H') (hl:vs.length≤1000000):dz vs ⟨l,H⟩= .ok (.ref H.length) ⟨l,H'⟩:=by rw [lF,if_pos hl,e]
theorem qf (h:GR c col H p len xs ri d k za r ms ks) (hk:ks.length≤10000):∃H',gb [.inst "Room" ri,.ref d,.tup [.int p,.int len,.ref za],.ref k] H= .ok (.bool true) H'∧ue c col H p len xs ri d k 3 H':=by
 refine lh fun G kG=> ?_
 have hO:=h.g.m.ok
 refine bi (aT ["_law_room", "_law_model", "_law_drawn", "_law_kept"] [.inst "Room" ri,.ref d,.tup [.int p,.int len,.ref za],.ref k]) fun l0 e0=> ?_
 have S0:SL ri d k za p len l0:=⟨e0▸rfl,e0▸rfl,e0▸rfl,e0▸rfl⟩
 have d0:∀q,aj (.tup [.int p,.int len,.ref za]) (.int 0) q= .ok (.int p) q:=fun q=>rfl
 have d1:∀q,aj (.tup [.int p,.int len,.ref za]) (.int 1) q= .ok (.int len) q:=fun q=>rfl
 obtain ⟨l1,t1,S1⟩:=wP h.g.k.at' ks h.g.k.rf S0
 obtain ⟨Ha,hc1,pa⟩:=B8 h.g.m.md hO S1.m
 have hSl:((bh p (look ms)).filterMap (qe (look ms))).length≤40:=Nat.le_trans (List.length_filterMap_le _ _) (ed p hO.hp.2 _)
 have hSp:=FQ (look ms) (bh p (look ms))
 refine bi ((bh p (look ms)).filterMap (qe (look ms))) fun sv esv=> ?_
 rw [esv] at hc1 hSl hSp
 refine bi (Ha++[O.list sv]) fun H1 eH1=> ?_
 rw [eH1] at hc1
 have p1:H<+:H1:=pa.trans ⟨_,eH1⟩
 have x1:H1[Ha.length]? = some (.list sv):=by rw [← eH1];exact aG _ _
 refine bi (upd l1 "_law_shelves" (.ref Ha.length)) fun l2 e2=> ?_
 have S2:=S1.upd e2 ∅
 have t2:nJ ⟨l1,H⟩= .ok .next ⟨l2,H1⟩:=by exists hc1,e2
 have hpp:=hO.hp
 have rg:=eh p ⟨l2,H1⟩ ⟨by exact cK 0xf4240a1b9019811 hpp.1,by exact cK 0xf4240a09000028a0811 hpp.2⟩
 have hc2:=Dg (h.g.m.md.pre p1) hO (c:=mM) (l:=l2) (caps:=["_law_model"]) rfl (.head _) S2.m (by exists S2.w,d0,rg)
 have hbl:=yz p hpp.2 (look ms)
 refine bi (qp p (look ms)) fun br ebr=> ?_
 rw [ebr] at hc2 hbl
 refine bi (H1++[O.list (br.map V.int)]) fun H2 eH2=> ?_
 rw [eH2] at hc2
 have p2:H1<+:H2:=⟨_,eH2⟩
 have x2:H2[H1.length]? = some (.list (br.map V.int)):=by rw [← eH2];exact aG _ _
 refine bi (upd l2 "_law_pile" (.ref H1.length)) fun l3 e3=> ?_
 have S3:=S2.upd e3 ∅
 have t3:nK ⟨l2,H1⟩= .ok .next ⟨l3,H2⟩:=by exists hc2,e3
 have R2:=h.g.r.rm.pre (p1.trans p2)
 have v1:=Ch R2 h.g.r.ok
 rw [h.g.r.rp,h.l,esv] at v1
 obtain ⟨n1,H3,f1,p3,n1l,y1⟩:=v1
 have R3:=R2.pre p3
 have v2:=AH R3 h.g.r.ok
 rw [h.g.r.rp,xQ,h.l,ebr] at v2
 obtain ⟨H4,f2,eH4⟩:=v2
 have p4:H3<+:H4:=⟨_,eH4.symm⟩
 have y2:H4[H3.length]? = some (.list (br.map V.int)):=by rw [eH4];exact aG _ _
 have R4:=R3.pre p4
 have v3:=DX R4 h.g.r.ok
 have htl:=zG hO
 rw [h.g.r.rp,h.g.r.rl,h.l] at v3
 refine bi (zF p len (look ms)) fun th eth=> ?_
 rw [eth] at v3 htl
 obtain ⟨n3,H5,f3,p5,n3l,y3⟩:=v3
 refine bi (H5++[O.list [.ref n1,.ref H3.length,.ref n3]]) fun H6 eH6=> ?_
 have p6:H5<+:H6:=⟨_,eH6⟩
 have y4:H6[H5.length]? = some (.list [.ref n1,.ref H3.length,.ref n3]):=by rw [← eH6];exact aG _ _
 refine bi (upd l3 "_law_found" (.ref H5.length)) fun l4 e4=> ?_
 have S4:=S3.upd e4 ∅
 have t4:nL ⟨l3,H2⟩= .ok .next ⟨l4,H6⟩:=by
  exists S3.r,a9 R2 (f := "shelves") ∅,a9 R3 (f := "pile") ∅,a9 R4 (f := "things") ∅,f1,f2,f3,Aa eH6 (Nat.le_of_ble_eq_true rfl),e4
 have L1:=p1.length_le
 have L2:=p2.length_le
 have L3:=p3.length_le
 have L4:=p4.length_le
 have L5:=p5.length_le
 have La:=pa.length_le
 have P35:=p4.trans p5
 have P36:=P35.trans p6
 have P26:=p3.trans P36
 have P:=p1.trans (p2.trans P26)
 obtain ⟨g6,E6⟩:=h.g.pre P
 have z:∀ {i},H.length≤i→fn col H.length 0 [] i=0:=r5
 have Z:∀ {i o},H6[i]? = some o→H.length≤i→H6[i]? = some o∧fn col H.length 0 [] i=0:=fun hx hi=>⟨hx,z hi⟩
 have w1:=Z (av (p2.trans P26) x1) La
 have w2:=Z (av P26 x2) L1
 have w3:=Z (av P36 y1) (by exact Cl 0x1200301320110013 n1l L1 L2)
 have w4:=Z (av (p5.trans p6) y2) (by exact Cl 0x3003201210110013 L1 L2 L3)
 have w5:=Z (av p6 y3) (by exact lA [_,_,_,_,_,_] [] 0x120050154014301320110015 n3l L1 L2 L3 L4)
 have w6:=Z y4 (by exact lA [_,_,_,_,_,_] [] 0x500540143013201210110015 L1 L2 L3 L4 L5)
 refine bi (fn col H.length 0 []) fun col6 ec6=> ?_
 rw [ec6] at g6 E6 w1 w2 w3 w4 w5 w6
 clear z Z
 obtain ⟨g7,E7⟩:=g6.keep (ks':=[]) (fun _ he=>(nomatch he)) (fun _ he=>(nomatch he))
 have cl:rO "clear" true (.ref k) ⟨l4,H6⟩= .ok .none ⟨l4,H6.set k (.list [])⟩:=by
  have:ks.length≤1000000:=by exact bz 0xf4240a00002710a0011 hk
  unfold rO;dsimp only;rw [g6.k.at'];exact if_pos (by rw [List.length_map];exact this)
 refine bi (H6.set k (.list [])) fun H7 eH7=> ?_
 rw [eH7] at cl
 have g7:Gr c col6 H7 p len xs ri d k r ms []:=eH7▸g7
 have E7:tO c col6 H6 col6 H7:=eH7▸E7
 have t5:nM ⟨l4,H6⟩= .ok .next ⟨l4,H7⟩:=by exists S4.k,rM g6.k.at',cl
 have c1:=h.c1
 have nx:∀ {col col':Nat→Nat} {H H':Hp} {i:Nat} {o:O},tO c col H col' H'→H[i]? = some o∧col i=0→H'[i]? = some o∧col' i=0:=fun E w=>E.get c1 w.1 w.2
 refine bi (upd l4 "_law_one" (.ref n1)) fun l5 e5=> ?_
 refine bi (upd l5 "_law_one" (.ref H3.length)) fun l6 e6=> ?_
 refine bi (upd l6 "_law_one" (.ref n3)) fun l7 e7=> ?_
 have u:=nx E7 w3
 obtain ⟨H8,col8,s1,g8,E8,S5⟩:=sf g7 c1 u.1 hSp u.2 (by exact bz 0xf4240a00000028a0011 hSl) ∅ S4 e5
 have E78:=E7.trans E8
 have u:=nx E78 w4
 obtain ⟨H9,col9,s2,g9,E9,S6⟩:=sf g8 c1 u.1 (Be br) u.2 (by rw [List.length_map];exact id (bz 0xf4240a00000028a0011 hbl)) (Nat.le_of_ble_eq_true rfl) S5 e6
 have E79:=E78.trans E9
 have u:=nx E79 w5
 obtain ⟨HX,colX,s3,gX,EX,S7⟩:=sf g9 c1 u.1 (nh th) u.2 (by rw [List.length_map];exact id (bz 0xf4240a00000028a3cd0011 htl)) (Nat.le_of_ble_eq_true rfl) S6 e7
 have E7X:=E79.trans EX
 have b4:=aq e4
 have t6:nN ⟨l4,H7⟩= .ok .next ⟨l7,HX⟩ :=
  bq (bq (g_get b4) (C9 (nx E7 w6).1)) ((bf s1 (jM (nx E78 w6).1)).trans ((bf s2 (jM (nx E79 w6).1)).trans ((bf s3 (jM (nx E7X w6).1)).trans rfl)))
 obtain ⟨n9,HY,f4,p7,_,y9⟩:=zf gX.m.md hO
 rw [eth] at y9
 refine bi (HY++[O.list [.ref Ha.length,.ref H1.length,.ref n9]]) fun HZ eHZ=> ?_
 have p8:HY<+:HZ:=⟨_,eHZ⟩
 have P8:=p7.trans p8
 have gt:∀ {i o},H6[i]? = some o∧col6 i=0→HZ[i]? = some o:=fun w=>av P8 (nx E7X w).1
 have eq:=FD (l:=l7) (gt w6) (by rw [← eHZ];exact aG _ _:HZ[HY.length]? = some (.list [.ref Ha.length,.ref H1.length,.ref n9])) ⟨gt w3,gt w1,hSp⟩ ⟨gt w4,gt w2,Be br⟩ ⟨gt w5,av p8 y9,nh th⟩
 have q1:=af e7 ∅ (af e6 ∅ (af e5 ∅ b4))
 have q2:=af e7 ∅ (af e6 ∅ (af e5 ∅ (af e4 ∅ (af e3 ∅ (aq e2)))))
 have q3:=af e7 ∅ (af e6 ∅ (af e5 ∅ (af e4 ∅ (aq e3))))
 have t7:nO ⟨l7,HX⟩= .ok (.ret (.bool true)) ⟨l7,HZ⟩:=by
  exists q1,q2,q3,S7.m,S7.w,d1,f4,Aa eHZ (Nat.le_of_ble_eq_true rfl),eq
 obtain ⟨gZ,EZ⟩:=gX.pre P8
 refine kG ⟨HZ,aS (m:=qI) (q:=⟨l7,HZ⟩) rfl ?_,_,r,ms,_,gZ,h.l,Nat.le_refl 3,(E6.trans E7X).trans EZ⟩
 rw [e0]
 exact ah (bq (bq (g_get S0.k) (C9 h.g.k.at')) t1) (ah t2 (ah t3 (ah t4 (ah t5 (ah t6 t7)))))
end
structure PB (f s p len:Int) (l:aY):Prop where
 hp:1≤p∧p≤40
 hl:1≤len∧len≤60
 a:l "_law_script" = some .scr
 f:l "_law_first" = some (.int f)
 s:l "_law_second" = some (.int s)
 p:l "_law_pages" = some (.int p)
 n:l "_law_length" = some (.int len)
noncomputable def Hl (e a b:Int):Cm Fl:=(((((ac "_law_first").b fun v23=>(Cm.p (V.int 6)).b fun v24=>dG v23 v24).b fun v25=>(Cm.p (V.int 8)).b fun v26=>bM v25 v26).b fun v27=>(Cm.p (V.int e)).b fun v28=>(aL .Eq v27 v28).b fun x29=>Cm.p x29).b fun b42=>if b42 then (au (((Cm.p (V.int 1)).b fun v34=>(((ac "_law_first").b fun v30=>(Cm.p (V.int 48)).b fun v31=>dG v30 v31).b fun v32=>(Cm.p (V.int a)).b fun v33=>bM v32 v33).b fun v35=>cS v34 v35).b fun v36=>(an "_law_pages" v36).b fun _=>Cm.p Fl.next) (((Cm.p (V.int 1)).b fun v39=>((ac "_law_second").b fun v37=>(Cm.p (V.int b)).b fun v38=>bM v37 v38).b fun v40=>cS v39 v40).b fun v41=>(an "_law_length" v41).b fun _=>Cm.p Fl.next)) else (Cm.p Fl.next))
theorem Du {f s p len:Int} {l:aY} {H:Hp} (h:PB f s p len l) (e a b:Int) (ha:1≤a∧a≤40) (hb:1≤b∧b≤60):∃p' len' l',Hl e a b ⟨l,H⟩= .ok .next ⟨l',H⟩∧PB f s p' len' l':=by
 refine lh fun G kG=> ?_
 have d6:∀q,dG (.int f) (.int 6) q= .ok (.int (f.fdiv 6)) q:=fun q=>gv ∅ rfl
 have m8:∀q,bM (.int (f.fdiv 6)) (.int 8) q= .ok (.int ((f.fdiv 6).fmod 8)) q:=fun q=>eW ∅ rfl
 by_cases he:(f.fdiv 6).fmod 8=e
 ·have k:decide ((f.fdiv 6).fmod 8=e)=true:=decide_eq_true he
  have d48:∀q,dG (.int f) (.int 48) q= .ok (.int (f.fdiv 48)) q:=fun q=>gv ∅ rfl
  have ma:∀q,bM (.int (f.fdiv 48)) (.int a) q= .ok (.int ((f.fdiv 48).fmod a)) q:=fun q=>eW (by exact fun x9=>cK 0x9096090a1019812 ha.1 x9) rfl
  have mb:∀q,bM (.int s) (.int b) q= .ok (.int (s.fmod b)) q:=fun q=>eW (by exact fun x9=>cK 0x9096090a1019812 hb.1 x9) rfl
  have r1:=cn (f.fdiv 48) a (by exact cK 0x99019811 ha.1)
  have r2:=cn s b (by exact cK 0x99019811 hb.1)
  refine bi (upd l "_law_pages" (.int (1+(f.fdiv 48).fmod a))) fun l1 e1=> ?_
  refine bi (upd l1 "_law_length" (.int (1+s.fmod b))) fun l2 e2=> ?_
  have b3:=af e1 ∅ h.s
  refine kG ⟨_,_,l2,bq (a:=true) (q':=⟨l,H⟩) ?_ (it_t rfl (ah (q':=⟨l1,H⟩) ?_ ?_)),⟨⟨by exact cK 0x19c198009811 r1.1,by exact ru 0x28a119c80191000028a0812 ha.2 r1.2⟩,⟨by exact cK 0x19c198009811 r2.1,by exact ru 0x3ca119c8019100003ca0812 hb.2 r2.2⟩,af e2 ∅ (af e1 ∅ h.a),af e2 ∅ (af e1 ∅ h.f),af e2 ∅ b3,af e2 ∅ (aq e1),aq e2⟩⟩
  ·exists h.f,d6,m8,k
  ·exists h.f,d48,ma,e1
  ·exists b3,mb,e2
 ·have k:decide ((f.fdiv 6).fmod 8=e)=false:=decide_eq_false he
  refine kG ⟨p,len,l,bq (a:=false) (q':=⟨l,H⟩) ?_ (it_f rfl rfl),h⟩
  exists h.f,d6,m8,k
theorem Cg:∃(p len:Int) (xs:List Int) (za:Nat) (H':Hp),A7 (j7 [.scr] []= .ok (.tup [.int p,.int len,.ref za]) H') (H'[za]? = some (.list (xs.map V.int))) (1≤p∧p≤40) (1≤len∧len≤60) (il len xs) (xs≠[]) (xs.length≤8):=by
 refine lh fun G kG=> ?_
 refine bi (aT ["_law_script"] [.scr]) fun l0 e0=> ?_
 have a0:l0 "_law_script" = some .scr:=e0▸rfl
 obtain ⟨f,hf⟩:=yn [] 0 ∅ ∅
 obtain ⟨s,hs⟩:=yn [] 1 ∅ ∅
 obtain ⟨c2,h2⟩:=yn [] 2 ∅ ∅
 obtain ⟨c3,h3⟩:=yn [] 3 ∅ ∅
 refine bi (upd l0 "_law_first" (.int f)) fun l1 e1=> ?_
 refine bi (upd l1 "_law_second" (.int s)) fun l2 e2=> ?_
 refine bi (upd l2 "_law_pages" (.int (1+f.fmod 6))) fun l3 e3=> ?_
 refine bi (upd l3 "_law_length" (.int (1+s.fmod 12))) fun l4 e4=> ?_
 have m6:∀q,bM (.int f) (.int 6) q= .ok (.int (f.fmod 6)) q:=fun q=>eW ∅ rfl
 have m12:∀q,bM (.int s) (.int 12) q= .ok (.int (s.fmod 12)) q:=fun q=>eW ∅ rfl
 have r1:=cn f 6 ∅
 have r2:=cn s 12 ∅
 have a1:=af e1 ∅ a0
 have a2:=af e2 ∅ (aq e1)
 have a3:=af e3 ∅ (aq e2)
 have t1:mC ⟨l0,[]⟩= .ok .next ⟨l1,[]⟩:=by exists a0,hf,e1
 have t2:mD ⟨l1,[]⟩= .ok .next ⟨l2,[]⟩:=by exists a1,hs,e2
 have t3:mE ⟨l2,[]⟩= .ok .next ⟨l3,[]⟩:=by exists a2,m6,e3
 have t4:mF ⟨l3,[]⟩= .ok .next ⟨l4,[]⟩:=by exists a3,m12,e4
 have B4:PB f s (1+f.fmod 6) (1+s.fmod 12) l4:=⟨⟨by exact cK 0x19c198009811 r1.1,by exact cK 0x28a019c8690911 r1.2⟩,⟨by exact cK 0x19c198009811 r2.1,by exact cK 0x3ca019c8c90911 r2.2⟩,af e4 ∅ (af e3 ∅ (af e2 ∅ a1)),af e4 ∅ (af e3 ∅ a2),af e4 ∅ a3,af e4 ∅ (aq e3),aq e4⟩
 obtain ⟨p5,n5,l5,t5,B5⟩:=Du (H:=[]) B4 1 40 4 ⟨by decide,by decide⟩ ⟨by decide,by decide⟩
 obtain ⟨p6,n6,l6,t6,B6⟩:=Du (H:=[]) B5 2 2 60 ⟨by decide,by decide⟩ ⟨by decide,by decide⟩
 obtain ⟨p,len,l,t7,B⟩:=Du (H:=[]) B6 3 40 60 ⟨by decide,by decide⟩ ⟨by decide,by decide⟩
 have m8:∀q,bM (.int c3) (.int 8) q= .ok (.int (c3.fmod 8)) q:=fun q=>eW ∅ rfl
 have r3:=cn c3 8 ∅
 obtain ⟨v,H',w1,xs,rfl,w2,w3,w4,w5,w6⟩:=AJ [] c2 len (1+c3.fmod 8) B.hl.1 (by exact cK 0x19c198009811 r3.1) (by exact cK 0x89019c8890911 r3.2)
 refine kG ⟨p,len,xs,_,H',aS (m:=oY) (q:=⟨l,H'⟩) rfl ?_,w3,B.hp,B.hl,w4,w5,w6⟩
 rw [e0]
 refine ah t1 (ah t2 (ah t3 (ah t4 (ah t5 (ah t6 (ah t7 ?_))))))
 exists B.p,B.n,B.a,h2,h3,m8,w1
theorem tV (H T:Hp) (j:Nat):(H++T)[H.length+j]? = T[j]? := by rw [List.getElem?_append_right (Nat.le_add_right _ _),Nat.add_sub_cancel_left]
noncomputable def sU (n pl:Nat) (p len:Int):Hp:=[.flds (qT pl (n+1) (n+3)),.dict [],.list [.int 0],.list ((List.replicate (p*len).toNat (0:Int)).map V.int)]
theorem DW {H:Hp} {l:aY} {pl m:Nat} {p len:Int} (hpl:H[pl]? = some (.flds (gw p len m))) (hp:1≤p∧p≤40) (hl:1≤len∧len≤60) :
  mV "Room" (gO) [.inst "Plan" pl] ⟨l,H⟩= .ok (.inst "Room" H.length) ⟨l,H++sU H.length pl p len⟩:=by
 refine bi (aT ["self", "plan"] [.inst "Room" H.length,.inst "Plan" pl]) fun l0 e0=> ?_
 have a1:l0 "self" = some (.inst "Room" H.length):=e0▸rfl
 have a2:l0 "plan" = some (.inst "Plan" pl):=e0▸rfl
 refine bi (O.list ((List.replicate (p*len).toNat (0:Int)).map V.int)) fun L eL=> ?_
 have eT:sU H.length pl p len=[.flds (qT pl (H.length+1) (H.length+3)),.dict [],.list [.int 0],L]:=by rw [← eL];rfl
 rw [eT]
 refine bi ([("plan",V.inst "Plan" pl),("racks",V.ref (H.length+1))]) fun f2 ef2=> ?_
 have b1:0≤p*len:=Int.mul_nonneg (by exact cK 0x98019811 hp.1) (by exact cK 0x98019811 hl.1)
 have b2:p*len≤40*60:=Int.mul_le_mul hp.2 hl.2 (by exact cK 0x98019811 hl.1) ∅
 have hpl':∀T:Hp,(H++T)[pl]? = some (.flds (gw p len m)):=fun T=>av ⟨_,rfl⟩ hpl
 have m1:∀q,dQ (.int p) (.int len) q= .ok (.int (p*len)) q:=fun q=>mj p len q (Ck (by exact cK 0x98019811 hp.1) (by exact cK 0xf4240a09000028a0811 hp.2))
 have m2:dQ (.ref (H.length+2)) (.int (p*len)) ⟨l0,H++[.flds f2,.dict [],.list [.int 0]]⟩= .ok (.ref (H.length+3)) ⟨l0,H++[.flds f2,.dict [],.list [.int 0],L]⟩:=by
  rw [xI (a:=(0:Int)) (f:=V.int) (by rw [List.getElem?_append_right (Nat.le_add_right _ _),Nat.add_sub_cancel_left];rfl) ⟨b1,by exact cK 0xf4240a0800003ca28d0811 b2⟩,eL,List.length_append,List.append_assoc];rfl
 have n0:Ar ⟨l0,H++[.flds [("plan",V.inst "Plan" pl)]]⟩= .ok (.ref (H.length+1)) ⟨l0,H++[.flds [("plan",V.inst "Plan" pl)],.dict []]⟩:=by
  unfold Ar;dsimp only;rw [List.length_append,List.append_assoc];rfl
 have n1:dz [.int 0] ⟨l0,H++[.flds f2,.dict []]⟩= .ok (.ref (H.length+2)) ⟨l0,H++[.flds f2,.dict [],.list [.int 0]]⟩:=by
  rw [lF,if_pos (Nat.le_of_ble_eq_true rfl),List.length_append,List.append_assoc];rfl
 rw [Aw,show gO [.inst "Room" H.length,.inst "Plan" pl] (H++[.flds []])= .ok .none (H++[.flds (qT pl (H.length+1) (H.length+3)),.dict [],.list [.int 0],L]) from ?_]
 refine lx (m:=sM) (q:=⟨l0,H++[.flds (qT pl (H.length+1) (H.length+3)),.dict [],.list [.int 0],L]⟩) rfl ?_
 rw [e0]
 refine ah (q':=⟨l0,H++[.flds [("plan",.inst "Plan" pl)]]⟩) ?_ (ah (q':=⟨l0,H++[.flds f2,.dict []]⟩) ?_ ?_)
 ·exists a1,a2,nW (fs:=[]) ∅
 ·rw [← ef2];exists n0,a1,nW (fs:=[("plan",.inst "Plan" pl)]) (Nat.le_of_ble_eq_true rfl)
 ·have st:=nW (l:=l0) (H:=H) (c := "Room") (f := "cells") (v:= .ref (H.length+3)) (fs:=f2) (os:=[.dict [],.list [.int 0],L]) (by rw [← ef2];exact Nat.le_of_ble_eq_true rfl)
  rw [show vN "cells" (.ref (H.length+3)) f2=qT pl (H.length+1) (H.length+3) by rw [← ef2];rfl] at st
  exists n1,a2,fH (hpl' _) (Dy _ _ _),fH (hpl' _) (wU _ _ _),m1,m2,a1,st
noncomputable def Hw (n pl m:Nat) (p len:Int) (xs:List Int):Rm:=⟨pl,n+1,n+3,m,p,len,xs,[],List.replicate (p*len).toNat 0⟩
theorem FS {n pl m:Nat} {p len:Int} {xs:List Int} (hp:1≤p∧p≤40) (hl:1≤len∧len≤60) (hs:il len xs) (hne:xs≠[]) (hm:m≠n+3):(Hw n pl m p len xs).Ok:=by
 have b1:0≤p*len:=Int.mul_nonneg (by exact cK 0x98019811 hp.1) (by exact cK 0x98019811 hl.1)
 refine ⟨hp,hl,hs,hne,.nil,.nil,fun s h=>(nomatch h),fun s h=>(nomatch h),fun s h=>(nomatch h),?_,fun h=>(nomatch h),fun h=>(nomatch h),hm⟩
 show (((List.replicate (p*len).toNat (0:Int)).length:Nat):Int)=p*len
 rw [List.length_replicate];exact id (Int.le_antisymm (kb 0xf800fa11 (Int.toNat_of_nonneg b1)) ((Int.self_le_toNat _)))
theorem BS {H:Hp} {l:aY} {j:Nat} {p len:Int} {xs:List Int} (hp:1≤p∧p≤40) (hl:1≤len∧len≤60) (hs:il len xs) (hne:xs≠[]) (h8:xs.length≤8) (hj:H[j]? = some (.list (xs.map V.int))) :
  mV "Plan" (jH) [.int p,.int len,.ref j] ⟨l,H⟩= .ok (.inst "Plan" H.length) ⟨l,H++[.flds (gw p len (H.length+1)),.list (xs.map V.int)]⟩:=by
 have:=F4 (H++[.flds []]) H.length j p len xs hp hl hs hne h8 (aG _ _) (av ⟨_,rfl⟩ hj)
 rw [Aw,this]
 simp
structure SF (col:Nat→Nat) (H:Hp) (sl:List (Nat×O)):Prop where
 at':∀e∈sl,H[e.1]? = some e.2
 col:∀e∈sl,col e.1=0
theorem SF.evo {c:Nat} {col col':Nat→Nat} {H H':Hp} {sl:List (Nat×O)} (h:SF col H sl) (e:tO c col H col' H') (h1:1≤c):SF col' H' sl :=
 ⟨fun x hx=>(e.get h1 (h.at' x hx) (h.col x hx)).1,fun x hx=>(e.get h1 (h.at' x hx) (h.col x hx)).2⟩
inductive Gd (col:Nat→Nat) (H:Hp) (p len:Int) (xs:List Int) (r0 d0 k0 r1 d1 k1:Nat) (sl:List (Nat×O)) (n:Nat):Prop
 | mk (r:Rm) (ms:List aH) (ks:List (Nat×Nat)) (r':Rm) (ms':List aH) (ks':List (Nat×Nat)) (g:Gr 1 col H p len xs r0 d0 k0 r ms ks) (g':Gr 4 col H p len xs r1 d1 k1 r' ms' ks') (l:look r.ss=look ms) (l':look r'.ss=look ms') (b:ks.length≤n) (b':ks'.length≤n) (s:SF col H sl):Gd col H p len xs r0 d0 k0 r1 d1 k1 sl n
structure LL (za pl rl ml kl:Nat) (p len:Int) (l:aY):Prop where
 w:l "_law_drawn" = some (.tup [.int p,.int len,.ref za])
 p:l "_law_plan" = some (.inst "Plan" pl)
 r:l "_law_rooms" = some (.ref rl)
 m:l "_law_models" = some (.ref ml)
 k:l "_law_kept" = some (.ref kl)
noncomputable def lN:List String:=["_law_k", "_law_cell", "_law_which", "_law_room", "_law_model"]
theorem LL.upd {za pl rl ml kl:Nat} {p len:Int} {l l':aY} (h:LL za pl rl ml kl p len l) {x:String} {v:V} (e:Mine.Lake.upd l x v=l') (hx:x∈lN):LL za pl rl ml kl p len l' :=
 ⟨af e (dy ∅ hx) h.w,af e (dy ∅ hx) h.p,af e (dy ∅ hx) h.r,af e (dy ∅ hx) h.m,af e (dy ∅ hx) h.k⟩
section
variable {c:Nat} {col:Nat→Nat} {H:Hp} {p len:Int} {xs:List Int} {ri d k za pl rl ml kl:Nat} {r:Rm} {ms:List aH} {ks:List (Nat×Nat)} {l:aY} {sl:List (Nat×O)}
theorem y8 (h:GR c col H p len xs ri d k za r ms ks) (hk:ks.length≤9000) (hS:SF col H sl) (hL:LL za pl rl ml kl p len l) {kk cell w:Int} (hw:(if decide (kk.fmod 3=2)=true then 1 else 0:Int)=w)
  (q1:∀ {H:Hp} (l:aY),(∀e∈sl,H[e.1]? = some e.2)→aj (.ref rl) (.int w) ⟨l,H⟩= .ok (.inst "Room" ri) ⟨l,H⟩) (q2:∀ {H:Hp} (l:aY),(∀e∈sl,H[e.1]? = some e.2)→aj (.ref ml) (.int w) ⟨l,H⟩= .ok (.ref d) ⟨l,H⟩)
  (q3:∀ {H:Hp} (l:aY),(∀e∈sl,H[e.1]? = some e.2)→aj (.ref kl) (.int w) ⟨l,H⟩= .ok (.ref k) ⟨l,H⟩) :
  ∃l' H',A3 (((jp "_law_k" "_law_cell" (.tup [.int kk,.int cell])).b fun _=>tP) ⟨l,H⟩= .ok .next ⟨l',H'⟩) (LL za pl rl ml kl p len l') (ue c col H p len xs ri d k (ks.length+3) H'):=by
 refine lh fun G kG=> ?_
 refine bi (upd l "_law_k" (.int kk)) fun l1 e1=> ?_
 refine bi (upd l1 "_law_cell" (.int cell)) fun l2 e2=> ?_
 refine bi (upd l2 "_law_which" (.int w)) fun l3 e3=> ?_
 refine bi (upd l3 "_law_room" (.inst "Room" ri)) fun l4 e4=> ?_
 refine bi (upd l4 "_law_model" (.ref d)) fun l5 e5=> ?_
 have L2:=(hL.upd e1 ∅).upd e2 ∅
 have L3:=L2.upd e3 ∅
 have L4:=L3.upd e4 ∅
 have L5:=L4.upd e5 ∅
 have a1:=af e2 ∅ (aq e1)
 have a3:=aq e3
 have a4:=af e4 ∅ a3
 have b1:=af e5 ∅ (aq e4)
 have b2:=aq e5
 have b3:=af e5 ∅ a4
 have b4:=af e5 ∅ (af e4 ∅ (af e3 ∅ (aq e2)))
 have b5:=af e5 ∅ (af e4 ∅ (af e3 ∅ a1))
 have m3:∀q,bM (.int kk) (.int 3) q= .ok (.int (kk.fmod 3)) q:=fun q=>eW ∅ rfl
 have m5:∀q,bM (.int kk) (.int 5) q= .ok (.int (kk.fmod 5)) q:=fun q=>eW ∅ rfl
 have iv:∀q,C7 [.bool (decide (kk.fmod 3=2))] q= .ok (.int w) q:=fun q=>by rw [← hw];rfl
 have k3:∀q,aL .Eq (.int (kk.fmod 3)) (.int 2) q= .ok (decide (kk.fmod 3=2)) q:=fun q=>g_ceq rfl
 obtain ⟨H1,t,E1⟩:=CJ h (by exact bz 0x2710a00002328a0011 hk) cell
 cases E1 with
 | mk col1 r1 ms1 ks1 g1 lk1 kl1 E1 =>
 have S1:=hS.evo E1 h.c1
 have h1:=h.next g1 lk1 E1
 have tA:∀ {R:Cm Fl} {q':S},R ⟨l5,H1⟩= .ok .next q'→(au ((((((ac "_law_k").b fun v54=>(Cm.p (V.int 3)).b fun v55=>bM v54 v55).b fun v56=>(Cm.p (V.int 2)).b fun v57=>(aL .Eq v56 v57).b fun x58=>Cm.p (V.bool x58)).b fun v59=>(Cm.p ([]:List V)).b fun vs60=>Cm.p (v59::vs60)).b fun vs53=>C7 vs53).b fun v61=>(an "_law_which" v61).b fun _=>Cm.p Fl.next) (au (((ac "_law_rooms").b fun v62=>(ac "_law_which").b fun v63=>aj v62 v63).b fun v64=>(an "_law_room" v64).b fun _=>Cm.p Fl.next) (au (((ac "_law_models").b fun v65=>(ac "_law_which").b fun v66=>aj v65 v66).b fun v67=>(an "_law_model" v67).b fun _=>Cm.p Fl.next) (au ((((((ac "_law_room").b fun v79=>((ac "_law_model").b fun v77=>((ac "_law_drawn").b fun v75=>(((ac "_law_kept").b fun v69=>(ac "_law_which").b fun v70=>aj v69 v70).b fun v73=>((ac "_law_cell").b fun v71=>(Cm.p ([]:List V)).b fun vs72=>Cm.p (v71::vs72)).b fun vs74=>Cm.p (v73::vs74)).b fun vs76=>Cm.p (v75::vs76)).b fun vs78=>Cm.p (v77::vs78)).b fun vs80=>Cm.p (v79::vs80)).b fun vs68=>aD (lr) vs68).b fun v81=>bE v81).b fun b82=>Cm.p (!b82)).b fun b84=>if b84 then ((Cm.p (V.bool false)).b fun v83=>Cm.p (Fl.ret v83)) else (Cm.p Fl.next)) R)))) ⟨l2,H⟩= .ok .next q':=fun {R} {q'} hR=>by
  refine ah (q':=⟨l3,H⟩) ?_ (ah (q':=⟨l4,H⟩) ?_ (ah (q':=⟨l5,H⟩) ?_ (ah (q':=⟨l5,H1⟩) ?_ hR)))
  ·exists a1,m3,k3,iv,e3
  ·exists L3.r,a3,q1 l3 hS.at',e4
  ·exists L4.m,a4,q2 l4 hS.at',e5
  ·exists b1,b2,L5.w,L5.k,b3,b4,q3 l5 hS.at',t
 by_cases h5:kk.fmod 5=4
 ·have k5:decide (kk.fmod 5=4)=true:=decide_eq_true h5
  obtain ⟨H2,t2,E2⟩:=qf h1 (by exact b0 0x2710a10190c101002328a0012 hk kl1)
  refine kG ⟨l5,H2,bq (xB e1 e2) (tA ?_),L5,(E2.trans E1).le (Nat.le_add_left 3 _)⟩
  exists b5,m5,k5,b1,b2,L5.w,L5.k,b3,q3 l5 S1.at',t2
 ·have k5:decide (kk.fmod 5=4)=false:=decide_eq_false h5
  refine kG ⟨l5,H1,bq (xB e1 e2) (tA ?_),L5,⟨col1,r1,ms1,ks1,g1,lk1,Nat.le_trans kl1 (by exact bz 0x390c190c00),E1⟩⟩
  exists b5,m5,k5
end
noncomputable def GQ (za pl m rl ml kl x:Nat) (p len:Int) (xs:List Int) (r0 d0 k0 r1 d1 k1:Nat) (cs:List V):List (Nat×O) :=
 [(za,.list (xs.map V.int)),(rl,.list [.inst "Room" r0,.inst "Room" r1]),(ml,.list [.ref d0,.ref d1]),(kl,.list [.ref k0,.ref k1]),(x,.list cs),(pl,.flds (gw p len m)),(m,.list (xs.map V.int))]
section
variable {col:Nat→Nat} {H:Hp} {p len:Int} {xs:List Int} {za pl m rl ml kl x r0 d0 k0 r1 d1 k1:Nat} {cs:List V} {l:aY}
theorem tw {H:Hp} {n:Nat} {u v:V} (h:H[n]? = some (.list [u,v])) (l:aY):aj (.ref n) (.int 0) ⟨l,H⟩= .ok u ⟨l,H⟩∧aj (.ref n) (.int 1) ⟨l,H⟩= .ok v ⟨l,H⟩ :=
 ⟨tW h ∅ ∅ rfl,tW h ∅ ∅ rfl⟩
theorem y7:∀(ys:List Int) (a:Int) {col:Nat→Nat} {H:Hp} {l:aY} {n:Nat},Gd col H p len xs r0 d0 k0 r1 d1 k1 (GQ za pl m rl ml kl x p len xs r0 d0 k0 r1 d1 k1 cs) n→n+3*ys.length≤9000→LL za pl rl ml kl p len l →
  ∃l' H' col',A3 (bH (fun H=>ay (.ref x) H=some cs) (jp "_law_k" "_law_cell") (tP) (fZ a (ys.map V.int)) ⟨l,H⟩= .ok .next ⟨l',H'⟩) (LL za pl rl ml kl p len l') (Gd col' H' p len xs r0 d0 k0 r1 d1 k1 (GQ za pl m rl ml kl x p len xs r0 d0 k0 r1 d1 k1 cs) 9000)
 | [],a,col,H,l,n,h,hn,hL=>by
  refine ⟨l,H,col,rfl,hL,?_⟩
  cases h with
  | mk r ms ks r' ms' ks' g g' lk lk' b b' s=>exact ⟨r,ms,ks,r',ms',ks',g,g',lk,lk',Nat.le_trans b (by exact b0 0x2328a00002328a103d0c011 hn),Nat.le_trans b' (by exact b0 0x2328a00002328a103d0c011 hn),s⟩
 | y::ys,a,col,H,l,n,h,hn,hL=>by
  refine lh fun G kG=> ?_
  rw [List.length_cons] at hn
  cases h with
  | mk r ms ks r' ms' ks' g g' lk lk' b b' s =>
  have tl:∀ {l1:aY} {H1:Hp} {col1:Nat→Nat},((jp "_law_k" "_law_cell" (.tup [.int a,.int y])).b fun _=>tP) ⟨l,H⟩= .ok .next ⟨l1,H1⟩→LL za pl rl ml kl p len l1→Gd col1 H1 p len xs r0 d0 k0 r1 d1 k1 (GQ za pl m rl ml kl x p len xs r0 d0 k0 r1 d1 k1 cs) (n+3)→G:=fun {l1} {H1} {col1} t L1 T1=>by
   obtain ⟨l2,H2,col2,t2,L2,T2⟩:=y7 ys (a+1) T1 (by exact b0 0x2328a103d390cc0002328a191c03d0c011 hn) L1
   refine kG ⟨l2,H2,col2,(bf t ?_).trans t2,L2,T2⟩
   cases T1 with
   | mk _ _ _ _ _ _ _ _ _ _ _ _ s1=>exact jM (s1.at' _ (.tail _ (.tail _ (.tail _ (.tail _ (.head _))))))
  have z:=s.at' _ (.head _)
  have cz:=s.col _ (.head _)
  by_cases h2:a.fmod 3=2
  ·obtain ⟨l1,H1,t,L1,E⟩:=y8 ⟨g',lk',z,cz,by decide⟩ (by exact tn 0x2328a200201002328a191c03d0c012 hn b') s hL (kk:=a) (cell:=y) (w:=1) (by rw [decide_eq_true h2];rfl) (fun l h=>(tw (h _ (.tail _ (.head _))) l).2) (fun l h=>(tw (h _ (.tail _ (.tail _ (.head _)))) l).2) (fun l h=>(tw (h _ (.tail _ (.tail _ (.tail _ (.head _))))) l).2)
   cases E with
   | mk col1 r2 ms2 ks2 g2 lk2 b2 e2=>exact tl t L1 ⟨r,ms,ks,r2,ms2,ks2,g.frame e2 ∅ (.inl ∅),g2,lk,lk2,Nat.le_trans b (by exact bz 0x390c000),Nat.le_trans b2 (by exact b0 0x391c390c010011 b'),s.evo e2 ∅⟩
  ·obtain ⟨l1,H1,t,L1,E⟩:=y8 ⟨g,lk,z,cz,by decide⟩ (by exact tn 0x2328a200201002328a191c03d0c012 hn b) s hL (kk:=a) (cell:=y) (w:=0) (by rw [decide_eq_false h2];rfl) (fun l h=>(tw (h _ (.tail _ (.head _))) l).1) (fun l h=>(tw (h _ (.tail _ (.tail _ (.head _)))) l).1) (fun l h=>(tw (h _ (.tail _ (.tail _ (.tail _ (.head _))))) l).1)
   cases E with
   | mk col1 r2 ms2 ks2 g2 lk2 b2 e2=>exact tl t L1 ⟨r2,ms2,ks2,r',ms',ks',g2,g'.frame e2 ∅ (.inr ∅),lk2,lk',Nat.le_trans b2 (by exact b0 0x391c390c010011 b),Nat.le_trans b' (by exact bz 0x390c000),s.evo e2 ∅⟩
theorem Ei {n:Nat} (h:Gd col H p len xs r0 d0 k0 r1 d1 k1 (GQ za pl m rl ml kl x p len xs r0 d0 k0 r1 d1 k1 cs) n) (hn:n≤9000) (hL:LL za pl rl ml kl p len l):∃q',au (yh) (au (yi) (Br)) ⟨l,H⟩= .ok (.ret (.bool true)) q':=by
 refine lh fun G kG=> ?_
 cases h with
 | mk r ms ks r' ms' ks' g g' lk lk' b b' s =>
 have z:=s.at' _ (.head _)
 have cz:=s.col _ (.head _)
 have hp:=s.at' _ (.tail _ (.tail _ (.tail _ (.tail _ (.tail _ (.head _))))))
 have hm:=s.at' _ (.tail _ (.tail _ (.tail _ (.tail _ (.tail _ (.tail _ (.head _)))))))
 have q1:=tw (s.at' _ (.tail _ (.head _))) l
 have q2:=tw (s.at' _ (.tail _ (.tail _ (.head _)))) l
 have q3:=tw (s.at' _ (.tail _ (.tail _ (.tail _ (.head _))))) l
 dsimp only at z hp hm
 have a1:aA "pages" (.inst "Plan" pl) ⟨l,H⟩= .ok (.int p) ⟨l,H⟩:=gI hp rfl
 have a2:aA "length" (.inst "Plan" pl) ⟨l,H⟩= .ok (.int len) ⟨l,H⟩:=gI hp rfl
 have a3:aA "sizes" (.inst "Plan" pl) ⟨l,H⟩= .ok (.ref m) ⟨l,H⟩:=gI hp rfl
 have d0':∀q,aj (.tup [.int p,.int len,.ref za]) (.int 0) q= .ok (.int p) q:=fun q=>rfl
 have d1':∀q,aj (.tup [.int p,.int len,.ref za]) (.int 1) q= .ok (.int len) q:=fun q=>rfl
 have d2':∀q,aj (.tup [.int p,.int len,.ref za]) (.int 2) q= .ok (.ref za) q:=fun q=>rfl
 have P:=Bf (p,len)
 have e1:eqV (.tup [.int p,.int len]) (.tup [.int p,.int len]) ⟨l,H⟩= .ok true ⟨l,H⟩:=CQ (P.toD H 6) (P.toD H 6) P.sh ∅ P.eqv
 have e2:eqV (.ref m) (.ref za) ⟨l,H⟩= .ok true ⟨l,H⟩:=by
  have:=iT (q:=⟨l,H⟩) hm z
  rw [decide_eq_true rfl] at this;exact this
 have t7:yh ⟨l,H⟩= .ok .next ⟨l,H⟩:=by exists hL.p,a1,a2,hL.w,d0',d1',e1,a3,d2',e2
 obtain ⟨H1,t,E⟩:=qf ⟨g,lk,z,cz,by decide⟩ (by exact b0 0x2710a100101002328a0012 hn b)
 have t8:yi ⟨l,H⟩= .ok .next ⟨l,H1⟩:=by exists hL.r,q1.1,hL.m,q2.1,hL.w,hL.k,q3.1,t
 cases E with
 | mk col1 r2 ms2 ks2 g2 lk2 b2 E =>
 have s1:=s.evo E ∅
 obtain ⟨H2,t',_⟩:=qf ⟨g'.frame E ∅ (.inr ∅),lk',s1.at' _ (.head _),s1.col _ (.head _),by decide⟩ (by exact b0 0x2710a100101002328a0012 hn b')
 have q1:=tw (s1.at' _ (.tail _ (.head _))) l
 have q2:=tw (s1.at' _ (.tail _ (.tail _ (.head _)))) l
 have q3:=tw (s1.at' _ (.tail _ (.tail _ (.tail _ (.head _))))) l
 refine kG ⟨⟨l,H2⟩,ah t7 (ah t8 ?_)⟩
 exists hL.r,q1.2,hL.m,q2.2,hL.w,hL.k,q3.2,t'
end
noncomputable def Fa (n:Nat) (cs:List V):Hp:=[.list [.inst "Room" n,.inst "Room" (n+4)],.dict [],.dict [],.list [.ref (n+9),.ref (n+10)],.list [],.list [],.list [.ref (n+12),.ref (n+13)],.list cs]
noncomputable def vP (n pl:Nat) (p len:Int) (cs:List V):Hp:=sU n pl p len++(sU (n+4) pl p len++Fa n cs)
noncomputable def De (n:Nat) (i:Nat):Nat:=if i<n then 0 else ([1,1,0,1,4,4,0,4,0,2,5,0,3,6][i-n]?).getD 0
theorem dW (n j:Nat):De n (n+j)=([1,1,0,1,4,4,0,4,0,2,5,0,3,6][j]?).getD 0:=by
 unfold De;rw [if_neg (Nat.not_lt.mpr (Nat.le_add_right _ _)),Nat.add_sub_cancel_left]
theorem Eh {n i:Nat} (h:i<n):De n i=0:=if_pos h
theorem Ht {c n pl m d k:Nat} {H:Hp} {col:Nat→Nat} {p len:Int} {xs:List Int} (hp:1≤p∧p≤40) (hl:1≤len∧len≤60) (hs:il len xs) (hne:xs≠[]) (hm:m≠n+3) (x1:H[n]? = some (.flds (qT pl (n+1) (n+3)))) (x2:H[n+1]? = some (.dict [])) (x3:H[n+3]? = some (.list ((List.replicate (p*len).toNat (0:Int)).map V.int)))
  (x4:H[pl]? = some (.flds (gw p len m))) (x5:H[m]? = some (.list (xs.map V.int))) (x6:H[d]? = some (.dict [])) (x7:H[k]? = some (.list [])) (c1:col n=c) (c2:col (n+1)=c) (c3:col (n+3)=c) (c4:col pl=0) (c5:col m=0) (c6:col d=c+1) (c7:col k=c+2) :
  Gr c col H p len xs n d k (Hw n pl m p len xs) [] []:=by
 refine ⟨⟨⟨x1,x4,x5,x2,fun s h=>(nomatch h),x3⟩,FS hp hl hs hne hm,rfl,rfl,rfl,fun i hi=> ?_,c4,c5⟩,⟨⟨x6,fun s h=>(nomatch h),fun s h=>(nomatch h)⟩,⟨hp,hl,.nil,.nil,fun s h=>(nomatch h),fun s h=>(nomatch h),fun s h=>(nomatch h)⟩,fun i hi=> ?_⟩,⟨x7,fun e h=>(nomatch h),fun e h=>(nomatch h),c7⟩⟩
 ·rcases List.mem_cons.mp hi with rfl | hi
  ·exact c1
  rcases List.mem_cons.mp hi with rfl | hi
  ·exact c2
  rcases List.mem_cons.mp hi with rfl | hi
  ·exact c3
  cases hi
 ·rcases List.mem_cons.mp hi with rfl | hi
  ·exact c6
  cases hi
theorem Hm {H:Hp} {n za pl m:Nat} {p len:Int} {xs:List Int} {cs:List V} (en:H.length=n) (hp:1≤p∧p≤40) (hl:1≤len∧len≤60) (hs:il len xs) (hne:xs≠[]) (z:H[za]? = some (.list (xs.map V.int))) (x4:H[pl]? = some (.flds (gw p len m))) (x5:H[m]? = some (.list (xs.map V.int))) :
  Gd (De n) (H++vP n pl p len cs) p len xs n (n+9) (n+12) (n+4) (n+10) (n+13) (GQ za pl m (n+8) (n+11) (n+14) (n+15) p len xs n (n+9) (n+12) (n+4) (n+10) (n+13) cs) 0:=by
 have G:∀j,(H++vP n pl p len cs)[n+j]? = (vP n pl p len cs)[j]? := fun j=>by rw [← en];exact tV _ _ _
 have P:∀ {i o},H[i]? = some o→(H++vP n pl p len cs)[i]? = some o∧De n i=0:=fun h=>⟨av ⟨_,rfl⟩ h,Eh (en▸bL h)⟩
 have lm:m<n:=en▸bL x5
 refine ⟨_,[],[],_,[],[],Ht hp hl hs hne (by exact fun x9=>b0 0x9096391c03110112 lm x9) (G 0) (G 1) (G 3) (P x4).1 (P x5).1 (G 9) (G 12) (dW n 0) (dW n 1) (dW n 3) (P x4).2 (P x5).2 (dW n 9) (dW n 12),
  Ht hp hl hs hne (by exact fun x9=>b0 0x909639491cc03110112 lm x9) (G 4) (G 5) (G 7) (P x4).1 (P x5).1 (G 10) (G 13) (dW n 4) (dW n 5) (dW n 7) (P x4).2 (P x5).2 (dW n 10) (dW n 13),rfl,rfl,Nat.le_refl _,Nat.le_refl _,⟨fun e he=> ?_,fun e he=> ?_⟩⟩
 ·rcases List.mem_cons.mp he with rfl | he
  ·exact (P z).1
  rcases List.mem_cons.mp he with rfl | he
  ·exact G 8
  rcases List.mem_cons.mp he with rfl | he
  ·exact G 11
  rcases List.mem_cons.mp he with rfl | he
  ·exact G 14
  rcases List.mem_cons.mp he with rfl | he
  ·exact G 15
  rcases List.mem_cons.mp he with rfl | he
  ·exact (P x4).1
  rw [List.mem_singleton.mp he];exact (P x5).1
 ·rcases List.mem_cons.mp he with rfl | he
  ·exact (P z).2
  rcases List.mem_cons.mp he with rfl | he
  ·exact dW n 8
  rcases List.mem_cons.mp he with rfl | he
  ·exact dW n 11
  rcases List.mem_cons.mp he with rfl | he
  ·exact dW n 14
  rcases List.mem_cons.mp he with rfl | he
  ·exact dW n 15
  rcases List.mem_cons.mp he with rfl | he
  ·exact (P x4).2
  rw [List.mem_singleton.mp he];exact (P x5).2
theorem lz {H T:Hp} {n j:Nat} (e:H.length=n) (h:n+T.length=j):(H++T).length=j:=by rw [List.length_append,e,h]
theorem y6 (hsn:sn.length≤1000):∃H',ER [.scr] []= .ok (.bool true) H':=by
 refine lh fun G kG=> ?_
 refine bi (aT ["_law_script"] [.scr]) fun l0 e0=> ?_
 have a0:l0 "_law_script" = some .scr:=e0▸rfl
 obtain ⟨p,len,xs,za,H1,t,z,hp,hl,hs,hne,h8⟩:=Cg
 refine bi (upd l0 "_law_drawn" (.tup [.int p,.int len,.ref za])) fun l1 e1=> ?_
 have t1:Bm ⟨l0,[]⟩= .ok .next ⟨l1,H1⟩:=by exists a0,t,e1
 have d0:∀q,aj (.tup [.int p,.int len,.ref za]) (.int 0) q= .ok (.int p) q:=fun q=>rfl
 have d1:∀q,aj (.tup [.int p,.int len,.ref za]) (.int 1) q= .ok (.int len) q:=fun q=>rfl
 have d2:∀q,aj (.tup [.int p,.int len,.ref za]) (.int 2) q= .ok (.ref za) q:=fun q=>rfl
 have li:=qP (o:= .ref za) l1 H1 (jM z) (by rw [List.length_map];exact id (bz 0xf4240a00890011 h8))
 refine bi (H1++[O.list (xs.map V.int)]) fun H2 eH2=> ?_
 rw [eH2] at li
 have mk:=BS (l:=l1) hp hl hs hne h8 (by rw [← eH2];exact aG _ _:H2[H1.length]? = some (.list (xs.map V.int)))
 refine bi (H2.length) fun pl epl=> ?_
 rw [epl] at mk
 refine bi (H2++[O.flds (gw p len (pl+1)),O.list (xs.map V.int)]) fun H eH=> ?_
 rw [eH] at mk
 have z':H[za]? = some (.list (xs.map V.int)):=by rw [← eH,← eH2];exact av ⟨_,rfl⟩ (av ⟨_,rfl⟩ z)
 have x4:H[pl]? = some (.flds (gw p len (pl+1))):=by rw [← eH,← epl];exact tV H2 _ 0
 have x5:H[pl+1]? = some (.list (xs.map V.int)):=by rw [← eH,← epl];exact tV H2 _ 1
 refine bi (upd l1 "_law_plan" (.inst "Plan" pl)) fun l2 e2=> ?_
 have a1:=aq e1
 have t2:Bn ⟨l1,H1⟩= .ok .next ⟨l2,H⟩:=by exists a1,d0,d1,d2,li,mk,e2
 refine bi (H.length) fun n en=> ?_
 have a2:=aq e2
 have r1:=DW (l:=l2) x4 hp hl
 rw [en] at r1
 have en5:(H++sU n pl p len).length=n+4:=lz en rfl
 have r2:=DW (l:=l2) (av (H':=H++sU n pl p len) ⟨_,rfl⟩ x4) hp hl
 rw [en5] at r2
 refine bi (H++sU n pl p len++sU (n+4) pl p len) fun H6 e6=> ?_
 rw [e6] at r2
 have n6:H6.length=n+8:=by rw [← e6];exact lz en5 rfl
 have nl:∀ {K:Hp} {l:aY} {j:Nat} (vs:List V),vs.length≤10→K.length=j→dz vs ⟨l,K⟩= .ok (.ref j) ⟨l,K++[.list vs]⟩:=fun vs hv e=>by rw [← e];exact Aa rfl (Nat.le_trans hv ∅)
 have nd:∀ {K:Hp} {l:aY} {j:Nat},K.length=j→Ar ⟨l,K⟩= .ok (.ref j) ⟨l,K++[.dict []]⟩:=fun e=>by rw [← e];rfl
 have s1:=nl (l:=l2) [.inst "Room" n,.inst "Room" (n+4)] (by simp) n6
 refine bi (H6++[O.list [.inst "Room" n,.inst "Room" (n+4)]]) fun H7 e7=> ?_
 rw [e7] at s1
 have n7:H7.length=n+9:=by rw [← e7];exact lz n6 rfl
 refine bi (upd l2 "_law_rooms" (.ref (n+8))) fun l3 el3=> ?_
 have t3:Bo ⟨l2,H⟩= .ok .next ⟨l3,H7⟩:=by exists a2,r1,r2,s1,el3
 have n71:(H7++[O.dict []]).length=n+10:=lz n7 rfl
 have n72:(H7++[O.dict []]++[O.dict []]).length=n+11:=lz n71 rfl
 have s2:=nl (l:=l3) [.ref (n+9),.ref (n+10)] (by simp) n72
 refine bi (H7++[O.dict []]++[O.dict []]++[O.list [.ref (n+9),.ref (n+10)]]) fun H8 e8=> ?_
 rw [e8] at s2
 have n8:H8.length=n+12:=by rw [← e8];exact lz n72 rfl
 refine bi (upd l3 "_law_models" (.ref (n+11))) fun l4 el4=> ?_
 have t4:Bp ⟨l3,H7⟩= .ok .next ⟨l4,H8⟩:=by exists nd n7,nd n71,s2,el4
 have n81:(H8++[O.list []]).length=n+13:=lz n8 rfl
 have n82:(H8++[O.list []]++[O.list []]).length=n+14:=lz n81 rfl
 have s3:=nl (l:=l4) [.ref (n+12),.ref (n+13)] (by simp) n82
 refine bi (H8++[O.list []]++[O.list []]++[O.list [.ref (n+12),.ref (n+13)]]) fun H9 e9=> ?_
 rw [e9] at s3
 have n9:H9.length=n+15:=by rw [← e9];exact lz n82 rfl
 refine bi (upd l4 "_law_kept" (.ref (n+14))) fun l5 el5=> ?_
 have t5:Bq ⟨l4,H8⟩= .ok .next ⟨l5,H9⟩:=by
  refine bq (bq (bq (bq rfl (nl [] (Nat.zero_le _) n8)) (bq (bq (bq rfl (nl [] (Nat.zero_le _) n81)) (bq rfl rfl)) rfl)) s3) (bq (g_set el5) rfl)
 have L5:LL za pl (n+8) (n+11) (n+14) p len l5:=⟨af el5 ∅ (af el4 ∅ (af el3 ∅ (af e2 ∅ a1))),af el5 ∅ (af el4 ∅ (af el3 ∅ a2)),af el5 ∅ (af el4 ∅ (aq el3)),af el5 ∅ (aq el4),aq el5⟩
 have a5:l5 "_law_script" = some .scr:=af el5 ∅ (af el4 ∅ (af el3 ∅ (af e2 ∅ (af e1 ∅ a0))))
 refine bi ((sn.drop 4).map V.int) fun cs ecs=> ?_
 have dv:yM .scr (.int 4) ⟨l5,H9⟩= .ok (.ref (n+15)) ⟨l5,H++vP n pl p len cs⟩:=by
  have h1:yM .scr (.int 4) ⟨l5,H9⟩= .ok (.ref H9.length) ⟨l5,H9++[.list ((sn.map V.int).drop 4)]⟩:=by
   have:(sn.map V.int).length≤1000000:=by rw [List.length_map];exact id (bz 0xf4240a000003e8a0011 hsn)
   show (if (0:Int)≤4∧(sn.map V.int).length≤1000000 then _ else _)=_
   rw [if_pos ⟨by decide,this⟩];rfl
  rw [h1,n9,← List.map_drop,ecs,← e9,← e8,← e7,← e6]
  simp only [vP,Fa,List.append_assoc,List.cons_append,List.nil_append]
 have T0:=Hm (cs:=cs) en hp hl hs hne z' x4 x5
 have ev:lW [.ref (n+15)] ⟨l5,H++vP n pl p len cs⟩= .ok ⟨fZ 0 cs,fun H=>ay (.ref (n+15)) H=some cs⟩ ⟨l5,H++vP n pl p len cs⟩:=by
  have:(H++vP n pl p len cs)[n+15]? = some (.list cs):=by rw [← en];exact tV _ _ 15
  show (match ay (.ref (n+15)) (H++vP n pl p len cs) with | some xs=>_ | none=>_)=_
  rw [jM this]
 obtain ⟨l6,H',col',t6,L6,T6⟩:=y7 (sn.drop 4) 0 T0 (by rw [List.length_drop];exact id (b0 0x2328a103d09c001030003e8a0032 hsn (Nat.sub_le _ _))) L5
 rw [ecs] at t6
 obtain ⟨q',t7⟩:=Ei T6 (Nat.le_refl _) L6
 refine kG ⟨q'.H,aS (m:=EV) (q:=q') rfl ?_⟩
 rw [e0]
 exact ah t1 (ah t2 (ah t3 (ah t4 (ah t5 (ah (bq (bq (bq (bq (g_get a5) (bq rfl dv)) (bq rfl rfl)) ev) t6) t7)))))
theorem Hg:∀t:Tp,bA t.G→xm 448 t.G:=td fun C s R a b c d=>FT C (GP C) ∅ a b c (y6 (Nat.le_trans C.short ∅)) d
end
end Mine.Lake
open PySem PySem.W PyProof.Rows
namespace Mine.all
def tw10034031380863371641:=True
def tw100579137028481972:=True
def tw10073190252686323273:=True
def tw10081088541268293599:=True
def tw10130366669087276332:=True
def tw10131221437080536637:=True
def tw10156424416328317940:=True
def tw10252965763247687682:=True
def tw10268101183197098196:=True
def tw10277526245819850656:=True
def tw10312239555926195531:=True
def tw10316705163991428254:=True
def tw10323370424266482742:=True
def tw10389294372677164839:=True
def tw10393596885623623503:=True
def tw10407399669362838719:=True
def tw10576110018494610262:=True
def tw10600613889749566790:=True
def tw10636018739910865072:=True
def tw10640303290150162726:=True
def tw10658958392246782621:=True
def tw10681620039792923934:=True
def tw10696458614491829572:=True
def tw10705108097460422218:=True
def tw10793401674749092046:=True
def tw1081408078033650336:=True
def tw10833094547630527813:=True
def tw10856765595117590405:=True
def tw1087592473283359003:=True
def tw10915074446201010522:=True
def tw10921597071642053482:=True
def tw10923070005692675132:=True
def tw10985738487003121266:=True
def tw11038128598146805730:=True
def tw11045270430615452010:=True
def tw11051373392699811023:=True
def tw11051709101105081487:=True
def tw11084693905056812178:=True
def tw11091474679367250208:=True
def tw11093295523969242068:=True
def tw11102767992079720913:=True
def tw11113120797386210373:=True
def tw11116879363250112325:=True
def tw11139934685464864865:=True
def tw11169558830825096451:=True
def tw11230645906715702508:=True
def tw11242623580682996947:=True
def tw11298796024306172991:=True
def tw11333907896045031016:=True
def tw11375281295658956675:=True
def tw11441816438227186863:=True
def tw11448872678469705673:=True
def tw11488495728068971930:=True
def tw11563076530477234726:=True
def tw11573567738276184859:=True
def tw11639333894188339638:=True
def tw1172340538976468734:=True
def tw11736780227944870738:=True
def tw11757652711159077200:=True
def tw11776277695535270532:=True
def tw11784725038316003381:=True
def tw11798761498685784450:=True
def tw11928815663860865973:=True
def tw11931136993785318394:=True
def tw11931918283646908614:=True
def tw11961059351148515626:=True
def tw12071712058454129317:=True
def tw12139988101201813748:=True
def tw12165253757503004218:=True
def tw1216898108829112853:=True
def tw12180536567876656950:=True
def tw12248520049373816357:=True
def tw12254430714555821875:=True
def tw12381699962588209086:=True
def tw12405882331826627501:=True
def tw12428716410969305734:=True
def tw12447178028490564450:=True
def tw125183967897747985:=True
def tw12540455083557110006:=True
def tw12563031120210811263:=True
def tw12580110897883145167:=True
def tw12588980310967471357:=True
def tw12784588452913835247:=True
def tw12803817524326497440:=True
def tw12885334096101347146:=True
def tw12899656968702213925:=True
def tw12926333453430215753:=True
def tw12985212532813657682:=True
def tw1298631472846954095:=True
def tw13027540482245733427:=True
def tw13042374122123996364:=True
def tw13057232943065969744:=True
def tw13098716769926991806:=True
def tw13100642850353945058:=True
def tw13132907815185506690:=True
def tw13135058765949404771:=True
def tw13137606615479501558:=True
def tw13172091369480311280:=True
def tw13185015893256467352:=True
def tw13215351417096909983:=True
def tw1323426155142419162:=True
def tw13270532327374429287:=True
def tw1327343985113690801:=True
def tw13283931332471535325:=True
def tw13320810954380615167:=True
def tw13338274903956020161:=True
def tw13370487131934946175:=True
def tw13423135486485445016:=True
def tw13463606980367379903:=True
def tw13492395982464255480:=True
def tw13492775673106092688:=True
def tw1352723322627576488:=True
def tw13596499734656872166:=True
def tw13607757164722159089:=True
def tw13663018214320142090:=True
def tw13752750167953387420:=True
def tw13900070722340429276:=True
def tw13912068318134460016:=True
def tw13928513891281363954:=True
def tw13930999109560414629:=True
def tw13960862262899742394:=True
def tw14003663102062188800:=True
def tw14074921412963316263:=True
def tw14081932915414352519:=True
def tw14099800850047386279:=True
def tw14106571916235994328:=True
def tw14204109254541194217:=True
def tw14242173848286271349:=True
def tw14274756557212989909:=True
def tw14288127532215574351:=True
def tw14310873030558110092:=True
def tw14331890051309236264:=True
def tw14420213329864412023:=True
def tw14421808642430287336:=True
def tw14444207656584330654:=True
def tw14523845485542788104:=True
def tw14539000326390715668:=True
def tw14647661154017913664:=True
def tw14648097213134440425:=True
def tw14684334882675511859:=True
def tw14721843458392949018:=True
def tw14822214895437561417:=True
def tw14832718209330476552:=True
def tw14848961488311411958:=True
def tw14849280956162755979:=True
def tw14883968960377749705:=True
def tw14899674885815798178:=True
def tw14929683446248860828:=True
def tw14970210157437980911:=True
def tw14984247238865676675:=True
def tw15014361466247048854:=True
def tw15059917014629022394:=True
def tw15081044799308232511:=True
def tw15097909243742831393:=True
def tw15105651507014581045:=True
def tw15151187641303801864:=True
def tw15158558636265767147:=True
def tw15176617289070330970:=True
def tw15198316981687975854:=True
def tw15248031165874397040:=True
def tw15305453227285626446:=True
def tw15389465554420088467:=True
def tw15393178847056368160:=True
def tw15395915194887548817:=True
def tw15414233836422861205:=True
def tw15451204947285891726:=True
def tw15519761934197397234:=True
def tw15575253945988166476:=True
def tw15618092478124507917:=True
def tw15651733941924773997:=True
def tw15670805634923389295:=True
def tw15766547542915688834:=True
def tw15778654729900951400:=True
def tw15849158762323818722:=True
def tw15888951733556516598:=True
def tw15902913901339227234:=True
def tw15906484144062456574:=True
def tw15926794790568321017:=True
def tw16183010546200382306:=True
def tw16223638597430114740:=True
def tw16288533217561068507:=True
def tw16296590348105434372:=True
def tw16339503202031470875:=True
def tw16400751074865733910:=True
def tw1644255569911684797:=True
def tw16447172759540358135:=True
def tw16457593375850944212:=True
def tw16573077582942348641:=True
def tw16644902639655322133:=True
def tw16665526110328478529:=True
def tw16694476904998839863:=True
def tw16720883766928916882:=True
def tw16727532447511142511:=True
def tw16739083755425606968:=True
def tw16740921855470316824:=True
def tw16747629065405408630:=True
def tw16773635481313006432:=True
def tw16779862611959906862:=True
def tw16838893715234930207:=True
def tw16857469709051444266:=True
def tw1694654335647164047:=True
def tw16987476370533704557:=True
def tw17053130121481772103:=True
def tw1707868938717072806:=True
def tw17112464921883037887:=True
def tw17133528431856770972:=True
def tw17259241986408110582:=True
def tw17260577670642009320:=True
def tw17292822351017121783:=True
def tw17314943208353570444:=True
def tw17338675685076325509:=True
def tw17360653242477243975:=True
def tw17368901067910498557:=True
def tw17394647144938102915:=True
def tw17447734377096445370:=True
def tw17468886310826310451:=True
def tw17469454598705902373:=True
def tw17523770736405063376:=True
def tw17558465517493045558:=True
def tw1758426702102747128:=True
def tw17590515576409907731:=True
def tw1768962640154500726:=True
def tw17717444079117462278:=True
def tw17740860788197283744:=True
def tw17772726858579744284:=True
def tw17800948086707717751:=True
def tw17846619120630023766:=True
def tw17899929404969355535:=True
def tw17983917188297756147:=True
def tw18003279642469066050:=True
def tw18058516629519361111:=True
def tw18068929663759586442:=True
def tw18074533905802821072:=True
def tw18094267598192979275:=True
def tw18111398738982083773:=True
def tw18118164260907729349:=True
def tw18120535436291149196:=True
def tw18280367432782476751:=True
def tw18291108133853008933:=True
def tw1832691508475867565:=True
def tw18343157571677020557:=True
def tw18369841484834026144:=True
def tw18401889546383288612:=True
def tw18433079168191953831:=True
def tw18433669859833586122:=True
def tw18440353960458814819:=True
def tw18441473437031201941:=True
def tw1936919636151931087:=True
def tw1963270939698246839:=True
def tw1985402699469526011:=True
def tw2000609977361463965:=True
def tw200202858802481044:=True
def tw200952908838891698:=True
def tw2013830700403712203:=True
def tw201708328148552895:=True
def tw2020152571437148077:=True
def tw2054712967208431000:=True
def tw2235618017368140517:=True
def tw225468126006155290:=True
def tw2316775634158704177:=True
def tw2362829445674453831:=True
def tw2366535826993118143:=True
def tw2406872565856053176:=True
def tw2412950195513398651:=True
def tw2479237469882504799:=True
def tw2496985677507960046:=True
def tw2516617250373598065:=True
def tw2528524926150008927:=True
def tw2531900633515307401:=True
def tw2543849888741498996:=True
def tw2627396739876165418:=True
def tw2638793534194840904:=True
def tw2690882624139800689:=True
def tw2711446468545577505:=True
def tw2750322548573693319:=True
def tw2792250951161479536:=True
def tw281770217567036725:=True
def tw282994513109133150:=True
def tw2842816785644039571:=True
def tw2863937026978368667:=True
def tw29985565223642888:=True
def tw3020832510069240704:=True
def tw306535358961565008:=True
def tw3108443244893856389:=True
def tw3138800457800853586:=True
def tw3140866203998610647:=True
def tw3165661143165402847:=True
def tw3185962312253278316:=True
def tw3282140407130366615:=True
def tw3292330881428724558:=True
def tw3298683737301795645:=True
def tw3318330705443729038:=True
def tw3318677167507295741:=True
def tw3339628229899013760:=True
def tw3357559941945735724:=True
def tw3390864358609898268:=True
def tw3448833343719912132:=True
def tw3468823194966119755:=True
def tw3477183460249832127:=True
def tw3506556867826905222:=True
def tw3527972740633252992:=True
def tw3578222212851893600:=True
def tw3586251380002802234:=True
def tw3630066180865283129:=True
def tw3737605839529819480:=True
def tw3804168243799541492:=True
def tw3832104259330054055:=True
def tw3835962111665225711:=True
def tw3849640880644552707:=True
def tw3855190133869164905:=True
def tw3949192924188805160:=True
def tw397829171339713761:=True
def tw4049413732980777947:=True
def tw407466490171300439:=True
def tw4154878040674242839:=True
def tw4156143147478942181:=True
def tw4214497047443048748:=True
def tw4241227540667249002:=True
def tw4244794441018138637:=True
def tw4258606087713283508:=True
def tw4302931102428780990:=True
def tw4338314545742005754:=True
def tw4350801690150286559:=True
def tw4382491568596388571:=True
def tw44263415142174766:=True
def tw4430775014708722610:=True
def tw4498182102138418894:=True
def tw4515135292898193881:=True
def tw4544264296663088324:=True
def tw4547723090059260100:=True
def tw4613487602407358717:=True
def tw4613981591765525805:=True
def tw4631590275013254457:=True
def tw4634341240264483431:=True
def tw4645612490112672357:=True
def tw4716985721665009587:=True
def tw4722931859811370693:=True
def tw4726450323565452186:=True
def tw4734295533608761528:=True
def tw4786962568827011835:=True
def tw4801688742562958406:=True
def tw4814944892674192296:=True
def tw4831860214510110302:=True
def tw4835796080096327916:=True
def tw4847766330237268548:=True
def tw4874642235004048027:=True
def tw4907521953547317329:=True
def tw4927947371108770993:=True
def tw4942582282674782268:=True
def tw4965207536615798822:=True
def tw497388943360791162:=True
def tw4983024317834737482:=True
def tw5002070824922625533:=True
def tw5007245332940595331:=True
def tw5044639097624668846:=True
def tw5103420120806187630:=True
def tw5103548895888603802:=True
def tw5162543521180666497:=True
def tw5180124137545327432:=True
def tw5187159431361770467:=True
def tw5191467471856622273:=True
def tw5192118122262071765:=True
def tw5213130599944360801:=True
def tw5217560924200664910:=True
def tw5221675337516389627:=True
def tw5247617807198155932:=True
def tw5362506446432344171:=True
def tw5377772837010204750:=True
def tw5439016543574858206:=True
def tw5440085390276978291:=True
def tw5463181917568680212:=True
def tw549974085012918235:=True
def tw5543487718492105064:=True
def tw5555718599999811639:=True
def tw5615934883764171431:=True
def tw561872325786274548:=True
def tw5641124861440336686:=True
def tw5646013916729498261:=True
def tw5646740079091317433:=True
def tw5657931515703916248:=True
def tw5718967094426423161:=True
def tw5727973534668710794:=True
def tw5736023835603284372:=True
def tw5747321363474778693:=True
def tw5750698986362780913:=True
def tw5761313309558253367:=True
def tw5781126440621211168:=True
def tw5870148494974776200:=True
def tw5884965284304258897:=True
def tw5919330448614353153:=True
def tw5931688323066260514:=True
def tw596421839371371174:=True
def tw6178583632892115015:=True
def tw6189357195160471388:=True
def tw6223034424235540279:=True
def tw6271033356711949733:=True
def tw6339813644084220483:=True
def tw6385323832308397011:=True
def tw6393532188824929214:=True
def tw6405578165278201989:=True
def tw6495733333828780514:=True
def tw6635522753158126860:=True
def tw6648324312943424196:=True
def tw6656463916972431421:=True
def tw6674347012523051200:=True
def tw6686757251022233349:=True
def tw6717767316833874322:=True
def tw6742200501135914891:=True
def tw6758946091281148827:=True
def tw6836359950869179439:=True
def tw6849123771955923804:=True
def tw6853843781069519680:=True
def tw6860577389561355601:=True
def tw6873541528101158377:=True
def tw6888782338466086140:=True
def tw6900727353157573822:=True
def tw6946980451890315270:=True
def tw7091565871241343341:=True
def tw7159026401054745538:=True
def tw7205895575636617080:=True
def tw7272270352196073673:=True
def tw7317653850160689691:=True
def tw7347299435816893626:=True
def tw7347661181068853997:=True
def tw7400686549319467544:=True
def tw7514489123796633772:=True
def tw7546461858588002845:=True
def tw7619113539625694710:=True
def tw7660858615051961871:=True
def tw766856551031688912:=True
def tw7686242042924871683:=True
def tw7755422918602135030:=True
def tw7778630667622746703:=True
def tw7779866328928976063:=True
def tw7824222052329908659:=True
def tw7848317997028865603:=True
def tw7855422573467142813:=True
def tw785864177541677141:=True
def tw7898559521017583957:=True
def tw7916160540357663616:=True
def tw7918374967389245632:=True
def tw7946034326556018432:=True
def tw8007103614756019116:=True
def tw8013882960148741844:=True
def tw8026366407565007962:=True
def tw8076105961534405009:=True
def tw8096221689764760052:=True
def tw8108845850537571710:=True
def tw8111057081096800836:=True
def tw8115062897227607555:=True
def tw8146785798897364014:=True
def tw8166991320080258738:=True
def tw8203446524507428889:=True
def tw8316665608867782698:=True
def tw8322597137079436277:=True
def tw8398887430952950212:=True
def tw8401958774316805891:=True
def tw8486705261324164726:=True
def tw8543756510809834644:=True
def tw8593244855664925795:=True
def tw8600759836979252552:=True
def tw8670540905479144303:=True
def tw8678582069086723682:=True
def tw8711421783369662179:=True
def tw8728704332973717658:=True
def tw8749193726656077916:=True
def tw8820459466428253018:=True
def tw884644925536651315:=True
def tw8865166961438382494:=True
def tw888978351763286717:=True
def tw8908958038130373740:=True
def tw8909644736058714228:=True
def tw8968355716326206664:=True
def tw898707613593260451:=True
def tw9090173269774583996:=True
def tw9099960808112739735:=True
def tw9111709882147129655:=True
def tw9131408386013701786:=True
def tw9133701021851612117:=True
def tw9163178095015654352:=True
def tw9199061776082140725:=True
def tw927500100414286832:=True
def tw9285670843845949155:=True
def tw9301309066579124778:=True
def tw9305783451064888827:=True
def tw9351078540693612215:=True
def tw9385597778382524922:=True
def tw9448091282758670523:=True
def tw9496632788025766839:=True
def tw9514876090768664877:=True
def tw9526568234960664165:=True
def tw9583210561881525909:=True
def tw9592678889267232940:=True
def tw9600454056292803967:=True
def tw9642480246203547912:=True
def tw9700507354520375304:=True
def tw9833964599435250050:=True
def tw9900696922168193843:=True
def tw9951171829245705095:=True
def tw9976896545867408452:=True
end Mine.all
theorem Mine.Lake.frag_in {K K' : Frag} {h : Heap} (X : K.In h) (e : (K'.map fun p => K.lookup p.1) = K'.map fun p => some p.2) : K'.In h := fun a o hl => by
  have hm := Mine.Lake.bg hl
  have : ∀ l : Frag, (l.map fun p => K.lookup p.1) = (l.map fun p => some p.2) → (a, o) ∈ l → K.lookup a = some o := fun l => by
    induction l with
    | nil => intro _ h; cases h
    | cons p r ih =>
      intro e h
      rw [List.map_cons, List.map_cons, List.cons.injEq] at e
      rcases List.mem_cons.mp h with rfl | h
      · exact e.1
      · exact ih e.2 h
  exact X a o (this K' e hm)
set_option Elab.async true
theorem Mine.all : PySem.Challenge.rw_uf060003_10.Holds := by
  w_on; o_law; k_head; (case hw => w_witness2)
  intro w s₀ s₁ mg mb G Y fa o pm cd doc dV kV ho hd hcd hD hmg hg args vals as hpre hlay hrd hwl hlo
  have KY := kIn_of Y
  have KX : (Mine.Lake.K0 w.params).In s₁.heap := Mine.Lake.frag_in KY (by kernel_rfl)
  refine Ground.open G ?_
  intro T B D TE TW
  clear hd hcd hD ho
  wrow_args hpre hlay hrd hwl hlo
  rename_i sn _ _ _ _ _ _ _ sa sv _ hL _ _ _ hI _ hlen _
  have hfa : fa = 448 := by
    have h1 : nsIn (Mine.Lake.K0 w.params) mainGlobals (Str.ofString "law") = some (some (.ref 448)) := by kernel_rfl
    have h2 := mg_of KX T.g h1
    have h3 : mg (Str.ofString "law") = some (.ref fa) := hmg
    rw [h2] at h3; injection h3 with h3; injection h3 with h3; exact h3.symm
  subst hfa
  have C : Mine.Lake.bA (Mine.Lake.Gx w s₁.heap s₁.os mg mb sa sv sn) := ⟨KX, T.g, T.b, T.builtins, T.nolimit, T.seer (by decide +kernel), rfl, hL, hI, by show sn.length ≤ 63; omega⟩
  refine enter_call (Mine.Lake.Hg ⟨w, s₁.heap, s₁.os, mg, mb, sa, sv, sn⟩ C s₁ _ rfl rfl hg fun s' hk hos hgn => GoodW.toG ⟨.inl ⟨.bool true, .bool true, [], rfl, fun cls => rfl, .bool true, by kernel_rfl, fun _ => ⟨List.nodup_nil, nofun⟩⟩, hk, hos, hgn⟩)
theorem PySem.Challenge.cw_uf060003_10_holds : PySem.Challenge.rw_uf060003_10.Holds :=
  Mine.all
